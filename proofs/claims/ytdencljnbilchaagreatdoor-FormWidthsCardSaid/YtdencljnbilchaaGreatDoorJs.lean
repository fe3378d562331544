/- Small whole numbers as arguments; FormHex: the law. -/
import Derived.Test.YtdencljnbilchaaGreatDoorJp
import Derived.Test.YtdencljnbilchaaGreatDoorVk
import Derived.Test.YtdencljnbilchaaGreatDoorVp
import Derived.Deep.DeepCutAuto
import Derived.Deep.CutBlock

namespace Go.Proofs.YtdencljnbilchaaGreatDoor
open Go.RowKit

theorem whole_small (N : Nat) (h0 : 0 < N) (h1 : N < 9007199254740992) : ∃ M E, WholeX N M E ∧ E ≤ 52 := by
  have l1 : 2 ^ N.log2 ≤ N := Nat.log2_self_le (by omega)
  have l2 : N < 2 ^ (N.log2 + 1) := Nat.lt_log2_self
  have hE : N.log2 ≤ 52 := by
    have : N.log2 < 53 := (Nat.log2_lt (by omega)).2 (by omega)
    omega
  generalize N.log2 = E at l1 l2 hE
  have hp : 0 < 2 ^ (52 - E) := Nat.pow_pos (by decide)
  have e1 : 2 ^ E * 2 ^ (52 - E) = 4503599627370496 := by rw [← Nat.pow_add, show E + (52 - E) = 52 by omega]
  have e2 : 2 ^ (E + 1) * 2 ^ (52 - E) = 9007199254740992 := by rw [← Nat.pow_add, show E + 1 + (52 - E) = 53 by omega]
  refine ⟨N * 2 ^ (52 - E), E, ⟨?_, ?_, ?_⟩, hE⟩
  · rw [← e1]; exact Nat.mul_le_mul_right _ l1
  · rw [← e2]; exact Nat.mul_lt_mul_of_pos_right l2 hp
  · rw [Nat.mul_assoc, ← Nat.pow_add, show 52 - E + E = 52 by omega]

/-- A number's digits, one at nought. -/
def decN (N : Nat) : List UInt8 := if N = 0 then [48] else decL N

theorem ofInt_val (n : Int) (h1 : -9007199254740992 < n) (h2 : n < 9007199254740992) : floatOfInt .f64 n < 18446744073709551616 ∧ finB (floatOfInt .f64 n) = true ∧ valT (floatOfInt .f64 n) = n ∧ bareT (floatOfInt .f64 n) = (decN n.natAbs, decide (n < 0)) := by
  by_cases h0 : n = 0
  · subst h0
    rw [ofInt_zero]
    exact ⟨by omega, by kernel_rfl, by kernel_rfl, by kernel_rfl⟩
  · obtain ⟨M, E, hW, hE⟩ := whole_small n.natAbs (by omega) (by omega)
    have e2 : floatOfInt .f64 n = wordX (decide (n < 0)) M E := nearest_int (decide (n < 0)) hW (by omega)
    rw [e2]
    obtain ⟨neg, en⟩ : ∃ neg, decide (n < 0) = neg := ⟨_, rfl⟩
    rw [en]
    have hf := word_finG neg hW (by omega)
    have ht := trunc_word neg hW (by omega)
    refine ⟨(wordX_ltG neg hW (by omega)).2, (finB_iff _).2 hf, ?_, ?_⟩
    · rw [valT_word hf hW (by omega) ht]
      cases neg with
      | true => rw [signed_t]; have := of_decide_eq_true en; omega
      | false => rw [signed_f]; have := of_decide_eq_false en; omega
    · rw [bareT_fin hf]
      obtain ⟨s1, s2⟩ := said_word hW (by omega) ht
      rw [s1, s2, ftoaT_whole false hW (by omega)]
      unfold decN
      rw [if_neg (by omega)]; rfl

theorem baseT_len64 : ∀ (g u b : Nat), (baseT g u b).length ≤ g
  | 0, _, _ => Nat.le_refl _
  | g + 1, u, b => by
    unfold baseT
    split
    · simp
    · rw [List.length_append]; have := baseT_len64 g (u / b) b; simp; omega

/-- The three conversions of FormHex. -/
theorem hex_text (x : Nat) (N : Nat) (hf : finB x = true) (hv : valT x = N) (hN : N < 18446744073709551616) :
    formAll uintT [37, 120, 32, 37, 111, 32, 37, 88] [numA x, numA x, numA x] = (uintT N 16 ++ (32 :: (uintT N 8 ++ (32 :: upL (uintT N 16)))), 0) := by
  have w16 : ∀ c : UInt8, c = 120 → tellT uintT ⟨false, false, false, false, 0, -1, c⟩ (numA x) = uintT N 16 := fun c h => by
    subst h
    unfold tellT
    rw [if_neg (by decide), if_neg (by decide), if_pos (by decide)]
    unfold wholeT
    simp only [numA, hf, hv]
    rw [if_pos ⟨by decide, trivial, by omega, by omega⟩]
    simp [fillT]
    intro h; omega
  have w8 : tellT uintT ⟨false, false, false, false, 0, -1, 111⟩ (numA x) = uintT N 8 := by
    unfold tellT
    rw [if_neg (by decide), if_neg (by decide), if_pos (by decide)]
    unfold wholeT
    simp only [numA, hf, hv]
    rw [if_pos ⟨by decide, trivial, by omega, by omega⟩]
    simp [fillT]
    intro h; omega
  have wX : tellT uintT ⟨false, false, false, false, 0, -1, 88⟩ (numA x) = upL (uintT N 16) := by
    unfold tellT
    rw [if_neg (by decide), if_neg (by decide), if_pos (by decide)]
    unfold wholeT
    simp only [numA, hf, hv]
    rw [if_pos ⟨by decide, trivial, by omega, by omega⟩]
    simp [fillT]
    intro h; omega
  have hT : formT uintT [37, 120, 32, 37, 111, 32, 37, 88] 9 0 [numA x, numA x, numA x] = some (uintT N 16 ++ (32 :: (uintT N 8 ++ (32 :: upL (uintT N 16))))) := by
    have r1 : readT [37, 120, 32, 37, 111, 32, 37, 88] 1 [numA x, numA x, numA x] = some (⟨false, false, false, false, 0, -1, 120⟩, 2, [numA x, numA x, numA x]) := by rfl
    have r2 : readT [37, 120, 32, 37, 111, 32, 37, 88] 4 [numA x, numA x] = some (⟨false, false, false, false, 0, -1, 111⟩, 5, [numA x, numA x]) := by rfl
    have r3 : readT [37, 120, 32, 37, 111, 32, 37, 88] 7 [numA x] = some (⟨false, false, false, false, 0, -1, 88⟩, 8, [numA x]) := by rfl
    rw [formT, if_neg (by decide), if_neg (by decide), if_neg (by decide), r1]
    simp only [List.tail_cons]
    rw [show argH [numA x, numA x, numA x] = numA x from rfl, w16 120 rfl]
    rw [formT, if_neg (by decide), if_pos (by decide)]
    rw [formT, if_neg (by decide), if_neg (by decide), if_neg (by decide), r2]
    simp only [List.tail_cons]
    rw [show argH [numA x, numA x] = numA x from rfl, w8]
    rw [formT, if_neg (by decide), if_pos (by decide)]
    rw [formT, if_neg (by decide), if_neg (by decide), if_neg (by decide), r3]
    simp only [List.tail_cons]
    rw [show argH [numA x] = numA x from rfl, wX]
    rw [formT, if_pos (by decide)]
    simp
  have hT2 : formT uintT [37, 120, 32, 37, 111, 32, 37, 88] ([37, 120, 32, 37, 111, 32, 37, 88].length + 1) 0 [numA x, numA x, numA x] = some (uintT N 16 ++ (32 :: (uintT N 8 ++ (32 :: upL (uintT N 16))))) := hT
  rw [formAll_some hT2, if_neg]
  have l1 := baseT_len64 64 N 16
  have l2 := baseT_len64 64 N 8
  unfold uintT upL
  simp only [List.length_append, List.length_cons, List.length_map]
  omega

-- the loops of FormHex

/-- What is still to come, ahead of what has come. -/
def RestB (g y b : Nat) (H : List UInt8) : List UInt8 := if 0 < y ∨ H = [] then baseT g y b ++ H else H

theorem restB_step {g y b : Nat} {H : List UInt8} (hg : y < b ^ g) (hb : 2 ≤ b) (h : 0 < y ∨ H = []) (h0 : H = [] → 0 < g) : RestB g y b H = RestB (g - 1) (y / b) b (digC (y % b) :: H) ∧ y / b < b ^ (g - 1) := by
  have hg0 : 0 < g := by
    rcases h with h | h
    · rcases Nat.eq_zero_or_pos g with h2 | h2
      · subst h2; simp at hg; omega
      · exact h2
    · exact h0 h
  refine ⟨?_, ?_⟩
  · unfold RestB
    rw [if_pos h]
    by_cases hy : y < b
    · rw [baseT_last hg0 hy, Nat.div_eq_of_lt hy, Nat.mod_eq_of_lt hy, if_neg (by simp)]; rfl
    · have : 0 < y / b := Nat.div_pos (by omega) (by omega)
      rw [baseT_step hg0 (by omega), if_pos (.inl this), List.append_assoc]; rfl
  · refine Nat.div_lt_of_lt_mul ?_
    rw [← Nat.pow_succ']
    show y < b ^ (g - 1 + 1)
    rw [show g - 1 + 1 = g by omega]; exact hg
theorem restB_end {g y b : Nat} {H : List UInt8} (h : ¬ (0 < y ∨ H = [])) : RestB g y b H = H := by unfold RestB; rw [if_neg h]

theorem hexB (d : Nat) (h : d < 16) : (({ data := #[48, 49, 50, 51, 52, 53, 54, 55, 56, 57, 97, 98, 99, 100, 101, 102] } : ByteArray).extract d (d + 1)) = ⟨#[digC d]⟩ := by
  have key : ∀ d : Fin 16, (({ data := #[48, 49, 50, 51, 52, 53, 54, 55, 56, 57, 97, 98, 99, 100, 101, 102] } : ByteArray).extract d.1 (d.1 + 1)) = ⟨#[digC d.1]⟩ := by decide +kernel
  exact key ⟨d, h⟩
theorem hexU (d : Nat) (h : d < 16) : (({ data := #[48, 49, 50, 51, 52, 53, 54, 55, 56, 57, 65, 66, 67, 68, 69, 70] } : ByteArray).extract d (d + 1)) = ⟨(upL [digC d]).toArray⟩ := by
  have key : ∀ d : Fin 16, (({ data := #[48, 49, 50, 51, 52, 53, 54, 55, 56, 57, 65, 66, 67, 68, 69, 70] } : ByteArray).extract d.1 (d.1 + 1)) = ⟨(upL [digC d.1]).toArray⟩ := by decide +kernel
  exact key ⟨d, h⟩
theorem octB (d : Nat) (h : d < 8) : (({ data := #[48, 49, 50, 51, 52, 53, 54, 55] } : ByteArray).extract d (d + 1)) = ⟨#[digC d]⟩ := by
  have key : ∀ d : Fin 8, (({ data := #[48, 49, 50, 51, 52, 53, 54, 55] } : ByteArray).extract d.1 (d.1 + 1)) = ⟨#[digC d.1]⟩ := by decide +kernel
  exact key ⟨d, h⟩

/-- One where a text is empty. -/
def emptyV : Value → Nat
  | .string s => if s.size = 0 then 1 else 0
  | _ => 0

set_option maxRecDepth 100000 in
set_option maxHeartbeats 4000000 in
theorem formHex_true (x : Int) (w : World) (hx : 0 ≤ x ∧ x ≤ 4294967295) (hL : LaidJ w) : Calls Tryz.prog 8 #[.int .u32 x] w fun e w' => e = .returned (.bool true) ∧ Below w.heap.size w w' := by
  obtain ⟨N, rfl⟩ : ∃ N : Nat, x = N := ⟨x.toNat, by omega⟩
  have hN : N ≤ 4294967295 := by omega
  have HL := Lib.hid hL
  have HK := Lib.hid (fun W hW => known12_true W hW)
  have HN := Lib.hid (fun x W => n12_any x W)
  obtain ⟨v1, v2, v3, _⟩ := ofInt_val (N : Int) (by omega) (by omega)
  obtain ⟨X, hX⟩ : ∃ X, floatOfInt .f64 (N : Int) = X := ⟨_, rfl⟩
  rw [hX] at v1 v2 v3
  have hform := hex_text X N v2 v3 (by omega)
  obtain ⟨U, hU⟩ : ∃ U, uintT N 16 = U := ⟨_, rfl⟩
  obtain ⟨V, hV⟩ : ∃ V, uintT N 8 = V := ⟨_, rfl⟩
  rw [hU, hV] at hform
  have hUl : U.length ≤ 64 := by rw [← hU]; exact baseT_len64 _ _ _
  have hVl : V.length ≤ 64 := by rw [← hV]; exact baseT_len64 _ _ _
  have hUu : (upL U).length ≤ 64 := by unfold upL; rw [List.length_map]; exact hUl
  have HF : Hid (∀ W, LaidJ W → Calls Tryz.prog 12 #[.string ⟨#[37, 120, 32, 37, 111, 32, 37, 88]⟩, .slice (some ⟨W.heap.size, 0, none⟩) 3 3] (W.alloc (.cells #[.float .f64 X, .string ⟨#[]⟩, .bool true, .float .f64 X, .string ⟨#[]⟩, .bool true, .float .f64 X, .string ⟨#[]⟩, .bool true] 44)) fun e w' => e = .returned (.tuple #[.string ⟨(U ++ (32 :: (V ++ (32 :: upL U)))).toArray⟩, .int .i64 0]) ∧ Below W.heap.size W w') := fun W hW =>
    pformat_new ⟨#[37, 120, 32, 37, 111, 32, 37, 88]⟩ [numA X, numA X, numA X] (fun a ha => by
      simp only [List.mem_cons, List.not_mem_nil, or_false, or_self] at ha
      subst ha; exact numA_ok v1) _ hform (by decide) _ W hW 3 rfl
  have H16 : Hid (RestB 64 N 16 [] = U ∧ N < 16 ^ 64) := ⟨by unfold RestB; rw [if_pos (.inr rfl), List.append_nil]; exact hU, by omega⟩
  have H8 : Hid (RestB 64 N 8 [] = V ∧ N < 8 ^ 64) := ⟨by unfold RestB; rw [if_pos (.inr rfl), List.append_nil]; exact hV, by omega⟩
  have hb0 := Below.refl w.heap.size w
  clear hL hform v2 v3 hU hV v1 hx
  go_enter Tryz.func8, Tryz.ntmps8
  go_upto_block 0 with (first
    | (go_at_call 19; refine (HN.out _ _).mono ?_; rintro e w1 ⟨rfl, hb1⟩; have hb0 := hb0.trans (hb1.mono hb0.size))
    | (go_at_call 12; refine (HF.out _ (HL.out.below hb0)).mono ?_; rintro e w1 ⟨rfl, hb1⟩; have hb0 := hb0.trans (hb1.mono hb0.size)))
  go_cut [5, 6] (fun h u wx => h = .string ⟨U.toArray⟩ ∧ u = .string ⟨(upL U).toArray⟩ ∧ w1 = wx)
  case first =>
    as_aux_lemma =>
      go_wp2
      go_loop [5, 6, 8] (fun h u y => ∃ (g Y : Nat) (H : List UInt8), h = .string ⟨H.toArray⟩ ∧ u = .string ⟨(upL H).toArray⟩ ∧ y = .int .u32 Y ∧ Y ≤ 4294967295 ∧ H.length + g = 64 ∧ Hid (RestB g Y 16 H = U ∧ Y < 16 ^ g)) (fun h _ y => (intOf y).toNat + emptyV h)
      case atStart => exact ⟨64, N, [], rfl, rfl, rfl, hN, rfl, H16⟩
      case round =>
        obtain ⟨g, Y, H, rfl, rfl, rfl, hY, hHg, HR⟩ := hrel
        have hd := Nat.mod_lt Y (show 0 < 16 by decide)
        have e1 : (({ data := #[48, 49, 50, 51, 52, 53, 54, 55, 56, 57, 97, 98, 99, 100, 101, 102] } : ByteArray).extract (Y % 16) (Y % 16 + 1) ++ ⟨H.toArray⟩) = ⟨(digC (Y % 16) :: H).toArray⟩ := by rw [hexB _ hd]; exact ba_of _ _ (by rw [app_data]; rfl)
        have e2 : (({ data := #[48, 49, 50, 51, 52, 53, 54, 55, 56, 57, 65, 66, 67, 68, 69, 70] } : ByteArray).extract (Y % 16) (Y % 16 + 1) ++ ⟨(upL H).toArray⟩) = ⟨(upL (digC (Y % 16) :: H)).toArray⟩ := by rw [hexU _ hd]; exact ba_of _ _ (by rw [app_data]; rfl)
        have HE := Lib.hid (And.intro e1 e2)
        have hlu : (upL H).length = H.length := by unfold upL; rw [List.length_map]
        clear hd e1 e2
        by_cases hgo : 0 < Y ∨ H = []
        · have hst := restB_step HR.out.2 (by decide) hgo (fun h => by rw [h] at hHg; simp at hHg; omega)
          have hg0 : 0 < g := by
            rcases Nat.eq_zero_or_pos g with h | h
            · have h2 := HR.out.2
              rw [h] at h2
              rcases hgo with h3 | h3
              · simp at h2; omega
              · rw [h3] at hHg; simp at hHg; omega
            · exact h
          have HST : Hid (RestB (g - 1) (Y / 16) 16 (digC (Y % 16) :: H) = U ∧ Y / 16 < 16 ^ (g - 1)) := ⟨hst.1.symm.trans HR.out.1, hst.2⟩
          clear hst
          cases H with
          | nil =>
            by_cases hY0 : Y = 0
            · subst hY0
              go_wp2
              refine ⟨⟨g - 1, 0, [digC 0], congrArg Value.string (by decide), congrArg Value.string (by decide), rfl, by omega, by simp at hHg ⊢; omega, HST⟩, ?_⟩
              decide
            · have hY1 : 0 < Y := by omega
              go_wp2
              rw [HE.out.1, HE.out.2]
              refine ⟨⟨g - 1, Y / 16, _, rfl, rfl, congrArg (Value.int .u32) (by omega), by omega, by simp at hHg ⊢; omega, HST⟩, ?_⟩
              simp [intOf, emptyV, ByteArray.size]; omega
          | cons c H =>
            have hY0 : 0 < Y := hgo.resolve_right (by simp)
            have hHl : H.length ≤ 63 := by simp at hHg; omega
            have hHu : (upL (c :: H)).length ≤ 64 := by rw [hlu]; simp; omega
            go_wp2
            rw [HE.out.1, HE.out.2]
            refine ⟨⟨g - 1, Y / 16, _, rfl, rfl, congrArg (Value.int .u32) (by omega), by omega, by simp at hHg ⊢; omega, HST⟩, ?_⟩
            simp [intOf, emptyV, ByteArray.size]; omega
        · have HU : Hid (H = U) := by have := HR.out.1; rw [restB_end hgo] at this; exact this
          cases H with
          | nil => exact absurd (.inr rfl) hgo
          | cons c H =>
            have hY0 : Y = 0 := by omega
            subst hY0
            clear hgo
            go_wp2
            go_meet
            rw [HU.out]
            exact ⟨rfl, rfl, rfl⟩
  case rest =>
    obtain ⟨rfl, rfl, rfl⟩ := hcut
    clear H16
    go_upto_block 2 with (fail)
    go_cut [7] (fun o wx => o = .string ⟨V.toArray⟩ ∧ w1 = wx)
    case first =>
      as_aux_lemma =>
        go_wp2
        go_loop [7, 9] (fun h y => ∃ (g Y : Nat) (H : List UInt8), h = .string ⟨H.toArray⟩ ∧ y = .int .u32 Y ∧ Y ≤ 4294967295 ∧ H.length + g = 64 ∧ Hid (RestB g Y 8 H = V ∧ Y < 8 ^ g)) (fun h y => (intOf y).toNat + emptyV h)
        case atStart => exact ⟨64, N, [], rfl, rfl, hN, rfl, H8⟩
        case round =>
          obtain ⟨g, Y, H, rfl, rfl, hY, hHg, HR⟩ := hrel
          have hd := Nat.mod_lt Y (show 0 < 8 by decide)
          have e1 : (({ data := #[48, 49, 50, 51, 52, 53, 54, 55] } : ByteArray).extract (Y % 8) (Y % 8 + 1) ++ ⟨H.toArray⟩) = ⟨(digC (Y % 8) :: H).toArray⟩ := by rw [octB _ hd]; exact ba_of _ _ (by rw [app_data]; rfl)
          have HE := Lib.hid e1
          clear hd e1
          by_cases hgo : 0 < Y ∨ H = []
          · have hst := restB_step HR.out.2 (by decide) hgo (fun h => by rw [h] at hHg; simp at hHg; omega)
            have hg0 : 0 < g := by
              rcases Nat.eq_zero_or_pos g with h | h
              · have h2 := HR.out.2
                rw [h] at h2
                rcases hgo with h3 | h3
                · simp at h2; omega
                · rw [h3] at hHg; simp at hHg; omega
              · exact h
            have HST : Hid (RestB (g - 1) (Y / 8) 8 (digC (Y % 8) :: H) = V ∧ Y / 8 < 8 ^ (g - 1)) := ⟨hst.1.symm.trans HR.out.1, hst.2⟩
            clear hst
            cases H with
            | nil =>
              by_cases hY0 : Y = 0
              · subst hY0
                go_wp2
                refine ⟨⟨g - 1, 0, [digC 0], congrArg Value.string (by decide), rfl, by omega, by simp at hHg ⊢; omega, HST⟩, ?_⟩
                decide
              · have hY1 : 0 < Y := by omega
                go_wp2
                rw [HE.out]
                refine ⟨⟨g - 1, Y / 8, _, rfl, congrArg (Value.int .u32) (by omega), by omega, by simp at hHg ⊢; omega, HST⟩, ?_⟩
                simp [intOf, emptyV, ByteArray.size]; omega
            | cons c H =>
              have hY0 : 0 < Y := hgo.resolve_right (by simp)
              have hHl : H.length ≤ 63 := by simp at hHg; omega
              go_wp2
              rw [HE.out]
              refine ⟨⟨g - 1, Y / 8, _, rfl, congrArg (Value.int .u32) (by omega), by omega, by simp at hHg ⊢; omega, HST⟩, ?_⟩
              simp [intOf, emptyV, ByteArray.size]; omega
          · have HU : Hid (H = V) := by have := HR.out.1; rw [restB_end hgo] at this; exact this
            cases H with
            | nil => exact absurd (.inr rfl) hgo
            | cons c H =>
              have hY0 : Y = 0 := by omega
              subst hY0
              clear hgo
              go_wp2
              go_meet
              rw [HU.out]
              exact ⟨rfl, rfl⟩
    case rest =>
      obtain ⟨rfl, rfl⟩ := hcut
      clear H8
      have e : ((((⟨U.toArray⟩ ++ ⟨#[32]⟩) ++ ⟨V.toArray⟩) ++ ⟨#[32]⟩) ++ ⟨(upL U).toArray⟩ : ByteArray) = ⟨(U ++ (32 :: (V ++ (32 :: upL U)))).toArray⟩ := ba_of _ _ (by simp only [app_data]; simp)
      have HE := Lib.hid e
      clear e
      go_wp2_with (go_at_call 14; refine (HK.out _ (HL.out.below hb0)).mono ?_; rintro e w2 ⟨rfl, hb1⟩; have hb0 := hb0.trans (hb1.mono hb0.size))
      go_ret
      refine ⟨?_, hb0⟩
      rw [HE.out]
      simp

end Go.Proofs.YtdencljnbilchaaGreatDoor
