/- The walk of token.word. -/
import Derived.Test.YtkedagbknflacaaDoorWe

namespace Go.Proofs.YtkedagbknflacaaDoor
open Go.RowKit

def wordEnd (l : List UInt8) (i : Nat) : Nat := i + nWhile isWordC (l.drop i)

def wordKind (l : List UInt8) (i : Nat) : Int :=
  if isWordL (inR l i (wordEnd l i)) = true then 8 else if isBuiltL (inR l i (wordEnd l i)) = true then 7
  else if l[wordEnd l i]? = some 40 then 6 else 5

def wordV (l : List UInt8) (i : Nat) : Value := tokV (wordKind l i) (inR l i (wordEnd l i)) 0 i (wordEnd l i)

set_option maxRecDepth 100000 in
set_option maxHeartbeats 1600000 in
theorem word_any (s : ByteArray) (i : Nat) (w : World) (hs : s.size ≤ maxLen) (hi : i < s.size) : Calls Tryd.prog 20 #[.string s, .int .i64 i] w fun e w' => e = .returned (wordV s.data.toList i) ∧ Below w.heap.size w w' := by
  unfold maxLen at hs
  go_enter Tryd.func20, Tryd.ntmps20
  go_wp2
  go_loop [5] (fun n => ∃ k : Nat, i ≤ k ∧ k ≤ s.size ∧ n = .int .i64 k ∧ wordEnd s.data.toList i = k + nWhile isWordC (s.data.toList.drop k)) (fun n => s.size - (intOf n).toNat)
  case atStart => exact ⟨i, Nat.le_refl _, by omega, rfl, rfl⟩
  case round =>
    obtain ⟨k, hik, hk, rfl, heq⟩ := hrel
    have hHE := Lib.hid heq; clear heq
    by_cases hcont : ∃ h : k < s.size, isWordC s[k] = true
    · obtain ⟨hlt, hc⟩ := hcont
      have HY := Lib.hid (nWhile_yes isWordC s.data.toList k (by simpa using hlt) hc)
      have hc2 : letB s[k].toNat = true ∨ (letB s[k].toNat = false ∧ digB s[k].toNat = true) := by
        cases hl : letB s[k].toNat with
        | true => exact .inl rfl
        | false => exact .inr ⟨rfl, by simpa [isWordC, isLet, hl, isDig] using hc⟩
      clear hc
      rcases hc2 with hl | ⟨hl, hd⟩ <;>
      · go_wp2_with (first | (go_at_call 19; refine (letter_any _ _).mono ?_; rintro e w' ⟨rfl, rfl⟩) | (go_at_call 17; refine (digit_any _ _).mono ?_; rintro e w' ⟨rfl, rfl⟩))
        go_round
        case rel => exact ⟨k + 1, by omega, by omega, by go_num, by rw [hHE.out, HY.out]; omega⟩
        case measure => simp [intOf]; omega
    · have HE : Hid (wordEnd s.data.toList i = k) := by
        have h0 : nWhile isWordC (s.data.toList.drop k) = 0 := by
          by_cases hlt : k < s.size
          · exact nWhile_no _ _ _ (by simpa using hlt) (by cases hb : isWordC s[k] with | true => exact absurd ⟨hlt, hb⟩ hcont | false => exact hb)
          · exact nWhile_end _ _ _ (by simpa using hlt)
        rw [hHE.out, h0]; rfl
      clear hHE
      have hX : (s.extract i k).data.toList = inR s.data.toList i k := Lib.extract_data _ _ _
      have hS : (⟨(inR s.data.toList i k).toArray⟩ : ByteArray) = s.extract i k := by rw [← hX]
      have HW := Lib.hid (fun W => isWord_of (s.extract i k) _ hX W)
      have HB := Lib.hid (fun W => isBuilt_of (s.extract i k) _ hX W)
      have HV : Hid (∀ kd, wordKind s.data.toList i = kd → wordV s.data.toList i = .agg #[.int .i64 kd, .string (s.extract i k), .float .f64 0, .int .i64 i, .int .i64 k]) := fun kd h => by
        rw [wordV, h, HE.out, tokV, hS]
      have HK : Hid (wordKind s.data.toList i = if isWordL (inR s.data.toList i k) = true then 8 else if isBuiltL (inR s.data.toList i k) = true then 7 else if s.data.toList[k]? = some 40 then 6 else 5) := by
        rw [wordKind, HE.out]; exact rfl
      have HO : Hid (∀ h : k < s.size, s.data.toList[k]? = some s[k]) := fun h => by
        rw [List.getElem?_eq_getElem (by simpa using h)]; rfl
      have hend : ¬ k < s.size ∨ (∃ h : k < s.size, letB s[k].toNat = false ∧ digB s[k].toNat = false) := by
        by_cases hlt : k < s.size
        · refine .inr ⟨hlt, ?_⟩
          have hc : isWordC s[k] = false := by cases hb : isWordC s[k] with | true => exact absurd ⟨hlt, hb⟩ hcont | false => rfl
          simpa [isWordC, isLet, isDig] using hc
        · exact .inl hlt
      have HEND := Lib.hid hend; clear hend
      clear hS hX HE hcont
      generalize isWordL (inR s.data.toList i k) = b1 at HW HK
      generalize isBuiltL (inR s.data.toList i k) = b2 at HB HK
      have fin : ∀ kd (h : wordKind s.data.toList i = kd) (wx : World), Below w.heap.size w wx → (fun e w' => e = Ending.returned (wordV s.data.toList i) ∧ Below w.heap.size w w') (.returned (.agg #[.int .i64 kd, .string (s.extract i k), .float .f64 0, .int .i64 i, .int .i64 k])) wx := fun kd h wx hb => ⟨by rw [HV.out kd h], hb⟩
      have FIN := Lib.hid fin; clear fin
      cases b1 with
      | true =>
        have HK2 : Hid (wordKind s.data.toList i = 8) := by rw [HK.out]; rfl
        rcases HEND.out with hlt | ⟨hlt, hl, hd⟩ <;>
        · go_wp2_with (first | (go_at_call 10; refine (HW.out _).mono ?_; rintro e w' ⟨rfl, rfl⟩) | (go_at_call 19; refine (letter_any _ _).mono ?_; rintro e w' ⟨rfl, rfl⟩) | (go_at_call 17; refine (digit_any _ _).mono ?_; rintro e w' ⟨rfl, rfl⟩))
          refine bodyPost_ret (v := .agg #[.int .i64 8, .string (s.extract i k), .float .f64 0, .int .i64 i, .int .i64 k]) (by simp [results, Tryd.results20, go_sem]) rfl (FIN.out _ HK2.out _ (((Below.refl _ _).alloc (Nat.le_refl _) _).alloc (by simp) _))
      | false =>
        cases b2 with
        | true =>
          have HK2 : Hid (wordKind s.data.toList i = 7) := by rw [HK.out]; rfl
          rcases HEND.out with hlt | ⟨hlt, hl, hd⟩ <;>
          · go_wp2_with (first | (go_at_call 10; refine (HW.out _).mono ?_; rintro e w' ⟨rfl, rfl⟩) | (go_at_call 11; refine (HB.out _).mono ?_; rintro e w' ⟨rfl, rfl⟩) | (go_at_call 19; refine (letter_any _ _).mono ?_; rintro e w' ⟨rfl, rfl⟩) | (go_at_call 17; refine (digit_any _ _).mono ?_; rintro e w' ⟨rfl, rfl⟩))
            refine bodyPost_ret (v := .agg #[.int .i64 7, .string (s.extract i k), .float .f64 0, .int .i64 i, .int .i64 k]) (by simp [results, Tryd.results20, go_sem]) rfl (FIN.out _ HK2.out _ (((Below.refl _ _).alloc (Nat.le_refl _) _).alloc (by simp) _))
        | false =>
          rcases HEND.out with hlt | ⟨hlt, hl, hd⟩
          · have HK2 : Hid (wordKind s.data.toList i = 5) := by rw [HK.out, List.getElem?_eq_none (by simpa using hlt)]; rfl
            go_wp2_with (first | (go_at_call 10; refine (HW.out _).mono ?_; rintro e w' ⟨rfl, rfl⟩) | (go_at_call 11; refine (HB.out _).mono ?_; rintro e w' ⟨rfl, rfl⟩) | (go_at_call 19; refine (letter_any _ _).mono ?_; rintro e w' ⟨rfl, rfl⟩) | (go_at_call 17; refine (digit_any _ _).mono ?_; rintro e w' ⟨rfl, rfl⟩))
            refine bodyPost_ret (v := .agg #[.int .i64 5, .string (s.extract i k), .float .f64 0, .int .i64 i, .int .i64 k]) (by simp [results, Tryd.results20, go_sem]) rfl (FIN.out _ HK2.out _ (((Below.refl _ _).alloc (Nat.le_refl _) _).alloc (by simp) _))
          · by_cases h40 : s[k] = 40
            · have HK2 : Hid (wordKind s.data.toList i = 6) := by rw [HK.out, HO.out hlt, h40]; rfl
              have hb40 : ((s[k].toNat : Int) == 40) = true := beq_t (d := 40) h40
              clear h40
              go_wp2_with (first | (go_at_call 10; refine (HW.out _).mono ?_; rintro e w' ⟨rfl, rfl⟩) | (go_at_call 11; refine (HB.out _).mono ?_; rintro e w' ⟨rfl, rfl⟩) | (go_at_call 19; refine (letter_any _ _).mono ?_; rintro e w' ⟨rfl, rfl⟩) | (go_at_call 17; refine (digit_any _ _).mono ?_; rintro e w' ⟨rfl, rfl⟩))
              refine bodyPost_ret (v := .agg #[.int .i64 6, .string (s.extract i k), .float .f64 0, .int .i64 i, .int .i64 k]) (by simp [results, Tryd.results20, go_sem]) rfl (FIN.out _ HK2.out _ (((Below.refl _ _).alloc (Nat.le_refl _) _).alloc (by simp) _))
            · have hk2 : wordKind s.data.toList i = 5 := by rw [HK.out, HO.out hlt]; simp [h40]
              have HK2 := Lib.hid hk2; clear hk2
              have hb40 : ((s[k].toNat : Int) == 40) = false := beq_f (d := 40) h40
              clear h40
              go_wp2_with (first | (go_at_call 10; refine (HW.out _).mono ?_; rintro e w' ⟨rfl, rfl⟩) | (go_at_call 11; refine (HB.out _).mono ?_; rintro e w' ⟨rfl, rfl⟩) | (go_at_call 19; refine (letter_any _ _).mono ?_; rintro e w' ⟨rfl, rfl⟩) | (go_at_call 17; refine (digit_any _ _).mono ?_; rintro e w' ⟨rfl, rfl⟩))
              refine bodyPost_ret (v := .agg #[.int .i64 5, .string (s.extract i k), .float .f64 0, .int .i64 i, .int .i64 k]) (by simp [results, Tryd.results20, go_sem]) rfl (FIN.out _ HK2.out _ (((Below.refl _ _).alloc (Nat.le_refl _) _).alloc (by simp) _))

end Go.Proofs.YtkedagbknflacaaDoor
