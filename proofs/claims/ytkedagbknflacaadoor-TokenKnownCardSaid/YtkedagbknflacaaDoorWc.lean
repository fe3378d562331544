/- The walk of token.closing: a loop by goto. -/
import Derived.Test.YtkedagbknflacaaDoorWu
import Derived.Test.YtkedagbknflacaaDoorGt
import Derived.Test.YtkedagbknflacaaDoorPc
namespace Go.Proofs.YtkedagbknflacaaDoor
open Go.RowKit

set_option maxHeartbeats 800000 in
theorem closing_any (s : ByteArray) (i : Nat) (q : UInt8) (w : World) (hs : s.size ≤ maxLen) (hi : i < s.size) (hq : s[i] = q) : Calls Tryd.prog 30 #[.string s, .int .i64 i] w fun e w' => e = .returned (.int .i64 (closeR q s.data.toList (i + 1))) ∧ w = w' := by
  unfold maxLen at hs
  go_enter Tryd.func30, Tryd.ntmps30
  go_wp2
  refine wp_scope_one 0 (fun a' w' => w' = w ∧ ∃ k : Nat, i < k ∧ k ≤ s.size + 1 ∧ closeR q s.data.toList (i + 1) = closeR q s.data.toList k ∧ ∃ (u7 u8 u9 u10 u11 u12 u13 u14 u15 u16 u17 u18 u19 u20 u21 u22 u23 u24 u25 u26 u27 u28 u29 u30 u31 u32 u33 u34 u35 u36 u37 u38 u39 u40 u41 u42 u43 u44 u45 : Value), a' = { tmps := #[.string s, .int .i64 i, undef, undef, .int .i64 0, .int .u8 q.toNat, .int .i64 k, u7, u8, u9, u10, u11, u12, u13, u14, u15, u16, u17, u18, u19, u20, u21, u22, u23, u24, u25, u26, u27, u28, u29, u30, u31, u32, u33, u34, u35, u36, u37, u38, u39, u40, u41, u42, u43, u44, u45], defers := [] }) (fun a' _ => s.size + 2 - (intOf (a'.tmps.getD 6 undef)).toNat) rfl ?_ ?_
  · rintro a' w' ⟨rfl, k, hik, hk, hC, u7, u8, u9, u10, u11, u12, u13, u14, u15, u16, u17, u18, u19, u20, u21, u22, u23, u24, u25, u26, u27, u28, u29, u30, u31, u32, u33, u34, u35, u36, u37, u38, u39, u40, u41, u42, u43, u44, u45, rfl⟩
    have HC := Lib.hid hC; clear hC hq
    by_cases h1 : k < s.size
    · have hl : k < s.data.toList.length := by simpa using h1
      by_cases h2 : s[k] = 10
      · have b10 : ((s[k].toNat : Int) == 10) = true := beq_t (d := 10) h2
        have HF := Lib.hid (closeR_nl q _ _ hl h2); clear h2
        go_wp2
        simp only [Exit.jump]
        go_ret
        exact ⟨ret_int (HC.out.trans (HF.out)).symm, rfl⟩
      · have b10 : ((s[k].toNat : Int) == 10) = false := beq_f (d := 10) h2
        by_cases h3 : s[k] = q
        · have bq : ((s[k].toNat : Int) == q.toNat) = true := beq_t h3
          have HF := Lib.hid (closeR_q q _ _ hl h2 h3); clear h2 h3
          go_wp2
          simp only [Exit.jump]
          go_ret
          exact ⟨ret_int (HC.out.trans (HF.out)).symm, rfl⟩
        · have bq : ((s[k].toNat : Int) == q.toNat) = false := beq_f h3
          by_cases h4 : s[k] = 92
          · have b92 : ((s[k].toNat : Int) == 92) = true := beq_t (d := 92) h4
            by_cases h5 : k + 1 < s.size
            · have hl2 : k + 1 < s.data.toList.length := by simpa using h5
              by_cases h6 : s[k + 1] = 10
              · have b11 : ((s[k + 1].toNat : Int) == 10) = true := beq_t (d := 10) h6
                have HF := Lib.hid (closeR_bs_nl q _ _ hl2 h2 h3 h4 h6); clear h2 h3 h4 h6
                go_wp2
                simp only [Exit.jump]
                go_ret
                exact ⟨ret_int (HC.out.trans (HF.out)).symm, rfl⟩
              · have b11 : ((s[k + 1].toNat : Int) == 10) = false := beq_f (d := 10) h6
                have HF := Lib.hid (closeR_bs q _ _ hl2 h2 h3 h4 h6); clear h2 h3 h4 h6
                go_wp2
                go_step3
                have e1 : ((k : Int) + 1 + 1) = ((k + 2 : Nat) : Int) := by omega
                rw [e1]
                refine ⟨rfl, ⟨rfl, k + 2, by omega, by omega, HC.out.trans HF.out, ?_⟩, by simp [intOf]; omega⟩
                (repeat apply Exists.intro)
                rfl
            · have HF := Lib.hid (closeR_bs_end q _ _ hl h2 h3 h4 (by simpa using h5)); clear h2 h3 h4
              go_wp2
              simp only [Exit.jump]
              go_ret
              exact ⟨ret_int (HC.out.trans (HF.out)).symm, rfl⟩
          · have b92 : ((s[k].toNat : Int) == 92) = false := beq_f (d := 92) h4
            have HF := Lib.hid (closeR_step q _ _ hl h2 h3 h4); clear h2 h3 h4
            go_wp2
            go_step3
            have e1 : ((k : Int) + 1) = ((k + 1 : Nat) : Int) := by omega
            rw [e1]
            refine ⟨rfl, ⟨rfl, k + 1, by omega, by omega, HC.out.trans HF.out, ?_⟩, by simp [intOf]; omega⟩
            (repeat apply Exists.intro)
            rfl
    · have HF := Lib.hid (closeR_end q s.data.toList k (by simpa using h1))
      go_wp2
      simp only [Exit.jump]
      go_ret
      exact ⟨ret_int (HC.out.trans (HF.out)).symm, rfl⟩
  · intro pass
    have ei : ((i : Int) + 1) = ((i + 1 : Nat) : Int) := by omega
    have EI := Lib.hid ei; clear ei
    go_wp2
    go_step3
    rename_i hK
    rw [EI.out]
    refine hK _ _ (pass _ _ ⟨rfl, i + 1, by omega, by omega, rfl, ?_⟩)
    (repeat apply Exists.intro)
    rfl

end Go.Proofs.YtkedagbknflacaaDoor
