/- The walks of tailraceref16's letter, digit, among. -/
import Derived.Test.YtkedagbknflacaaDoorWt
import Derived.Test.YtkedagbknflacaaDoorPc
import Derived.Lib.Hide
import Derived.Lib.Strings
namespace Go.Proofs.YtkedagbknflacaaDoor
open Go.RowKit

theorem rdigit_any (c : Int) (w : World) : Calls Tryd.prog 26 #[.int .u8 c] w fun e w' => e = .returned (.bool (digB c)) ∧ w = w' := by
  go_enter Tryd.func26, Tryd.ntmps26
  go_wp2
  all_goals (go_ret; exact ⟨ret_bool (by simp [digB, *] <;> omega), rfl⟩)

theorem rletter_any (c : Int) (w : World) : Calls Tryd.prog 25 #[.int .u8 c] w fun e w' => e = .returned (.bool (letB c)) ∧ w = w' := by
  go_enter Tryd.func25, Tryd.ntmps25
  go_wp2
  all_goals (go_ret; refine ⟨ret_bool ?_, rfl⟩)
  all_goals (rw [Bool.eq_iff_iff]; simp [letB]; omega)

/-- The parts of a text between blanks; what stands ahead of the first one, too. -/
def parts : List UInt8 → List UInt8 → List (List UInt8)
  | acc, [] => [acc]
  | acc, c :: r => if c = 32 then acc :: parts [] r else parts (acc ++ [c]) r

theorem parts_end (T : List UInt8) (acc : List UInt8) (k : Nat) (h : T.length ≤ k) : parts acc (T.drop k) = [acc] := by rw [List.drop_eq_nil_of_le h]; rfl
theorem parts_sep (T : List UInt8) (acc : List UInt8) (k : Nat) (h : k < T.length) (hc : T[k] = 32) : parts acc (T.drop k) = acc :: parts [] (T.drop (k + 1)) := by rw [drop_at T k h, parts, if_pos hc]
theorem inR_snoc (T : List UInt8) (f k : Nat) (hf : f ≤ k) (h : k < T.length) : inR T f (k + 1) = inR T f k ++ [T[k]] := by
  unfold inR
  rw [show k + 1 - f = (k - f) + 1 by omega, List.take_add_one]
  congr 1
  rw [List.getElem?_drop, show f + (k - f) = k by omega, List.getElem?_eq_getElem h]; rfl
theorem parts_on (T : List UInt8) (f k : Nat) (hf : f ≤ k) (h : k < T.length) (hc : T[k] ≠ 32) : parts (inR T f k) (T.drop k) = parts (inR T f (k + 1)) (T.drop (k + 1)) := by
  rw [drop_at T k h, parts, if_neg hc, inR_snoc T f k hf h]

def amB (T S : List UInt8) : Bool := (parts [] T).contains S

set_option maxRecDepth 100000 in
set_option maxHeartbeats 1600000 in
theorem among_any (T S : ByteArray) (w : World) (hs : T.size ≤ 140737488351232) : Calls Tryd.prog 27 #[.string T, .string S] w fun e w' => e = .returned (.bool (amB T.data.toList S.data.toList)) ∧ w = w' := by
  unfold amB
  obtain ⟨B, hB⟩ : ∃ B, (parts [] T.data.toList).contains S.data.toList = B := ⟨_, rfl⟩
  rw [hB]
  go_enter Tryd.func27, Tryd.ntmps27
  go_wp2
  go_loop [5, 6] (fun f n => ∃ i k : Nat, f = .int .i64 i ∧ n = .int .i64 k ∧ ((i ≤ k ∧ k ≤ T.size ∧ Hid ((parts (inR T.data.toList i k) (T.data.toList.drop k)).contains S.data.toList = B)) ∨ (k = T.size + 1 ∧ Hid (B = false)))) (fun _ n => T.size + 1 - (intOf n).toNat)
  case atStart => exact ⟨0, 0, rfl, rfl, .inl ⟨by omega, by omega, by unfold Hid; rw [← hB]; rfl⟩⟩
  case round =>
    clear hB
    obtain ⟨i, k, rfl, rfl, ⟨hik, hk, HB⟩ | ⟨hk, HB⟩⟩ := hrel
    · have HX : Hid ((T.extract i k).data.toList = inR T.data.toList i k) := Lib.extract_data _ _ _
      by_cases hend : k = T.size
      · have b0 : ((k : Int) == T.size) = true := beq_iff_eq.2 (by omega)
        have HE := Lib.hid (parts_end T.data.toList (inR T.data.toList i k) k (by rw [hend]; exact Nat.le_refl _))
        have HEND := Lib.hid hend
        clear hend
        cases hb : ((T.extract i k).toList == S.toList) with
        | true =>
          have HF : Hid (B = true) := by
            rw [toL, toL] at hb
            unfold Hid; rw [← HB.out, HE.out, ← HX.out, eq_of_beq hb]; simp
          clear HB HE HX
          go_wp2
          go_ret
          exact ⟨by rw [HF.out]; rfl, rfl⟩
        | false =>
          have HF : Hid (B = false) := by
            rw [toL, toL] at hb
            unfold Hid; rw [← HB.out, HE.out, ← HX.out]
            simp only [List.contains_cons, List.contains_nil, Bool.or_false]
            exact beq_eq_false_iff_ne.2 fun h => (beq_eq_false_iff_ne.1 hb) h.symm
          clear HB HE HX
          go_wp2
          have hend := HEND.out
          exact ⟨⟨k + 1, k + 1, by go_num, by go_num, .inr ⟨by omega, HF⟩⟩, by simp [intOf]; omega⟩
      · have hks : k < T.size := by omega
        have hkl : k < T.data.toList.length := by simpa using hks
        have b0 : ((k : Int) == T.size) = false := beq_eq_false_iff_ne.2 (by omega)
        by_cases hc : T[k] = 32
        · have b1 : ((T[k].toNat : Int) == 32) = true := beq_t (d := 32) hc
          have HE := Lib.hid (parts_sep T.data.toList (inR T.data.toList i k) k hkl hc)
          clear hc hend
          cases hb : ((T.extract i k).toList == S.toList) with
          | true =>
            have HF : Hid (B = true) := by
              rw [toL, toL] at hb
              unfold Hid; rw [← HB.out, HE.out, ← HX.out, eq_of_beq hb]; simp
            clear HB HE HX
            go_wp2
            go_ret
            exact ⟨by rw [HF.out]; rfl, rfl⟩
          | false =>
            have HF : Hid ((parts (inR T.data.toList (k + 1) (k + 1)) (T.data.toList.drop (k + 1))).contains S.data.toList = B) := by
              rw [toL, toL] at hb
              unfold Hid; rw [← HB.out, HE.out, ← HX.out, inR_end, List.contains_cons]
              rw [beq_eq_false_iff_ne.2 fun h => (beq_eq_false_iff_ne.1 hb) h.symm, Bool.false_or]
            clear HB HE HX
            go_wp2
            exact ⟨⟨k + 1, k + 1, by go_num, by go_num, .inl ⟨by omega, by omega, HF⟩⟩, by simp [intOf]; omega⟩
        · have b1 : ((T[k].toNat : Int) == 32) = false := beq_f (d := 32) hc
          have HF : Hid ((parts (inR T.data.toList i (k + 1)) (T.data.toList.drop (k + 1))).contains S.data.toList = B) := by
            unfold Hid; rw [← HB.out, parts_on T.data.toList i k hik hkl hc]
          clear HB HX hc hend
          go_wp2
          exact ⟨⟨i, k + 1, by go_num, by go_num, .inl ⟨by omega, by omega, HF⟩⟩, by simp [intOf]; omega⟩
    · have b0 : decide ((k : Int) ≤ T.size) = false := decide_eq_false (by omega)
      go_wp2
      go_ret
      exact ⟨by rw [HB.out]; rfl, rfl⟩

end Go.Proofs.YtkedagbknflacaaDoor
