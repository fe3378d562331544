/- The walk of token.closing: a loop by goto. Plain: skipping, and what the next token is. No program here. -/
import Derived.Test.YtkedagbknflacaaDoorWu
import Derived.Test.YtkedagbknflacaaDoorGt
import Derived.Test.YtkedagbknflacaaDoorPa

namespace Go.Proofs.YtkedagbknflacaaDoor
open Go.RowKit

set_option maxHeartbeats 800000 in
theorem closing_any (s : ByteArray) (i : Nat) (q : UInt8) (w : World) (hs : s.size ≤ maxLen) (hi : i < s.size) (hq : s[i] = q) : Calls Tryd.prog 30 #[.string s, .int .i64 i] w fun e w' => e = .returned (.int .i64 (closeR q s.data.toList (i + 1))) ∧ w = w' := by
  unfold maxLen at hs
  go_enter Tryd.func30, Tryd.ntmps30
  go_wp2
  refine wp_scope_one 0 (fun a' w' => w' = w ∧ ∃ k : Nat, i < k ∧ k ≤ s.size + 1 ∧ closeR q s.data.toList (i + 1) = closeR q s.data.toList k ∧ ∃ (u7 u8 u9 u10 u11 u12 u13 u14 u15 u16 u17 u18 u19 u20 u21 u22 u23 u24 u25 u26 u27 u28 u29 u30 u31 u32 u33 u34 u35 u36 u37 u38 u39 u40 u41 u42 u43 u44 u45 : Value), a' = { tmps := #[.string s, .int .i64 i, undef, undef, .int .i64 0, .int .u8 q.toNat, .int .i64 k, u7, u8, u9, u10, u11, u12, u13, u14, u15, u16, u17, u18, u19, u20, u21, u22, u23, u24, u25, u26, u27, u28, u29, u30, u31, u32, u33, u34, u35, u36, u37, u38, u39, u40, u41, u42, u43, u44, u45], defers := [] }) (fun a' _ => s.size + 2 - (intOf (a'.tmps.getD 6 undef)).toNat) rfl ?_ ?_
  · rintro a' w' ⟨rfl, k, hik, hk, hC, u7, u8, u9, u10, u11, u12, u13, u14, u15, u16, u17, u18, u19, u20, u21, u22, u23, u24, u25, u26, u27, u28, u29, u30, u31, u32, u33, u34, u35, u36, u37, u38, u39, u40, u41, u42, u43, u44, u45, rfl⟩
    have HC := Lib.hid hC; clear hC hq
    by_cases h1 : k < s.size
    · have hl : k < s.data.toList.length := by simpa using h1
      by_cases h2 : s[k] = 10
      · have b10 : ((s[k].toNat : Int) == 10) = true := beq_t (d := 10) h2
        have HF := Lib.hid (closeR_nl q _ _ hl h2); clear h2
        go_wp2
        simp only [Exit.jump]
        go_ret
        exact ⟨ret_int (HC.out.trans (HF.out)).symm, rfl⟩
      · have b10 : ((s[k].toNat : Int) == 10) = false := beq_f (d := 10) h2
        by_cases h3 : s[k] = q
        · have bq : ((s[k].toNat : Int) == q.toNat) = true := beq_t h3
          have HF := Lib.hid (closeR_q q _ _ hl h2 h3); clear h2 h3
          go_wp2
          simp only [Exit.jump]
          go_ret
          exact ⟨ret_int (HC.out.trans (HF.out)).symm, rfl⟩
        · have bq : ((s[k].toNat : Int) == q.toNat) = false := beq_f h3
          by_cases h4 : s[k] = 92
          · have b92 : ((s[k].toNat : Int) == 92) = true := beq_t (d := 92) h4
            by_cases h5 : k + 1 < s.size
            · have hl2 : k + 1 < s.data.toList.length := by simpa using h5
              by_cases h6 : s[k + 1] = 10
              · have b11 : ((s[k + 1].toNat : Int) == 10) = true := beq_t (d := 10) h6
                have HF := Lib.hid (closeR_bs_nl q _ _ hl2 h2 h3 h4 h6); clear h2 h3 h4 h6
                go_wp2
                simp only [Exit.jump]
                go_ret
                exact ⟨ret_int (HC.out.trans (HF.out)).symm, rfl⟩
              · have b11 : ((s[k + 1].toNat : Int) == 10) = false := beq_f (d := 10) h6
                have HF := Lib.hid (closeR_bs q _ _ hl2 h2 h3 h4 h6); clear h2 h3 h4 h6
                go_wp2
                go_step3
                have e1 : ((k : Int) + 1 + 1) = ((k + 2 : Nat) : Int) := by omega
                rw [e1]
                refine ⟨rfl, ⟨rfl, k + 2, by omega, by omega, HC.out.trans HF.out, ?_⟩, by simp [intOf]; omega⟩
                (repeat apply Exists.intro)
                rfl
            · have HF := Lib.hid (closeR_bs_end q _ _ hl h2 h3 h4 (by simpa using h5)); clear h2 h3 h4
              go_wp2
              simp only [Exit.jump]
              go_ret
              exact ⟨ret_int (HC.out.trans (HF.out)).symm, rfl⟩
          · have b92 : ((s[k].toNat : Int) == 92) = false := beq_f (d := 92) h4
            have HF := Lib.hid (closeR_step q _ _ hl h2 h3 h4); clear h2 h3 h4
            go_wp2
            go_step3
            have e1 : ((k : Int) + 1) = ((k + 1 : Nat) : Int) := by omega
            rw [e1]
            refine ⟨rfl, ⟨rfl, k + 1, by omega, by omega, HC.out.trans HF.out, ?_⟩, by simp [intOf]; omega⟩
            (repeat apply Exists.intro)
            rfl
    · have HF := Lib.hid (closeR_end q s.data.toList k (by simpa using h1))
      go_wp2
      simp only [Exit.jump]
      go_ret
      exact ⟨ret_int (HC.out.trans (HF.out)).symm, rfl⟩
  · intro pass
    have ei : ((i : Int) + 1) = ((i + 1 : Nat) : Int) := by omega
    have EI := Lib.hid ei; clear ei
    go_wp2
    go_step3
    rename_i hK
    rw [EI.out]
    refine hK _ _ (pass _ _ ⟨rfl, i + 1, by omega, by omega, rfl, ?_⟩)
    (repeat apply Exists.intro)
    rfl

end Go.Proofs.YtkedagbknflacaaDoor

namespace Go.Proofs.YtkedagbknflacaaDoor

/-- How many bytes are skipped ahead of a token: true: within a comment. -/
def skipS : Bool → List UInt8 → Nat
  | _, [] => 0
  | true, c :: r => if c = 10 then 0 else skipS true r + 1
  | false, c :: r => if c = 32 ∨ c = 9 ∨ c = 13 then skipS false r + 1 else if c = 35 then skipS true r + 1
    else if c = 92 then (match r with | [] => 0 | d :: r' => if d = 10 then skipS false r' + 2 else 0) else 0

theorem skipS_le : ∀ (N : Nat) (b : Bool) (l : List UInt8), l.length ≤ N → skipS b l ≤ l.length
  | _, _, [], _ => by cases ‹Bool› <;> simp [skipS]
  | 0, _, c :: r, h => by simp at h
  | N + 1, true, c :: r, h => by
    simp only [List.length_cons] at h
    have := skipS_le N true r (by omega)
    rw [skipS]; split <;> simp; exact this
  | N + 1, false, c :: r, h => by
    simp only [List.length_cons] at h
    have h1 := skipS_le N true r (by omega)
    have h2 := skipS_le N false r (by omega)
    rw [skipS.eq_def]; dsimp only
    split
    · simp; exact h2
    · split
      · simp; exact h1
      · split
        · cases r with
          | nil => simp
          | cons d r' =>
            dsimp only
            split
            · simp only [List.length_cons] at h ⊢
              have h3 := skipS_le N false r' (by omega)
              omega
            · simp
        · simp

def skipK (l : List UInt8) (k : Nat) : Nat := k + skipS false (l.drop k)
def skipC (l : List UInt8) (k : Nat) : Nat := k + skipS true (l.drop k)

theorem skipK_end (l : List UInt8) (k : Nat) (h : l.length ≤ k) : skipK l k = k := by rw [skipK, List.drop_eq_nil_of_le h]; rfl
theorem skipC_end (l : List UInt8) (k : Nat) (h : l.length ≤ k) : skipC l k = skipK l k := by rw [skipK, skipC, List.drop_eq_nil_of_le h]; rfl
theorem skipC_nl (l : List UInt8) (k : Nat) (h : k < l.length) (hc : l[k] = 10) : skipC l k = skipK l k := by
  rw [skipK, skipC, drop_at l k h, skipS.eq_def, skipS.eq_def]; simp [hc]
theorem skipC_step (l : List UInt8) (k : Nat) (h : k < l.length) (hc : l[k] ≠ 10) : skipC l k = skipC l (k + 1) := by
  rw [skipC, drop_at l k h, skipS, if_neg hc, skipC]; omega
theorem skipK_blank (l : List UInt8) (k : Nat) (h : k < l.length) (hc : l[k] = 32 ∨ l[k] = 9 ∨ l[k] = 13) : skipK l k = skipK l (k + 1) := by
  rw [skipK, drop_at l k h, skipS.eq_def]; dsimp only; rw [if_pos hc, skipK]; omega
theorem skipK_hash (l : List UInt8) (k : Nat) (h : k < l.length) (hc : l[k] = 35) : skipK l k = skipC l k := by
  rw [skipK, drop_at l k h, skipS.eq_def]; dsimp only; rw [if_neg (by simp [hc]), if_pos hc, skipC, drop_at l k h, skipS, if_neg (by simp [hc])]
theorem skipK_join (l : List UInt8) (k : Nat) (h : k + 1 < l.length) (hc : l[k] = 92) (hd : l[k + 1] = 10) : skipK l k = skipK l (k + 2) := by
  rw [skipK, drop_at l k (by omega), drop_at l (k + 1) h, skipS.eq_def]; dsimp only; rw [if_neg (by simp [hc]), if_neg (by simp [hc]), if_pos hc, if_pos hd, skipK]
  show k + (skipS false (l.drop (k + 2)) + 2) = _
  omega
theorem skipK_stop (l : List UInt8) (k : Nat) (h : k < l.length) (h1 : ¬ (l[k] = 32 ∨ l[k] = 9 ∨ l[k] = 13)) (h2 : l[k] ≠ 35) (h3 : ¬ (l[k] = 92 ∧ l[k + 1]? = some 10)) : skipK l k = k := by
  rw [skipK, drop_at l k h, skipS.eq_def]; dsimp only; rw [if_neg h1, if_neg h2]
  split
  · rename_i h92
    by_cases h4 : k + 1 < l.length
    · rw [drop_at l (k + 1) h4]; dsimp only
      rw [if_neg]; · rfl
      intro e; exact h3 ⟨h92, by rw [List.getElem?_eq_getElem h4, e]⟩
    · rw [List.drop_eq_nil_of_le (by omega)]; rfl
  · rfl

def numStart (l : List UInt8) (k : Nat) : Prop := ∃ h : k < l.length, isDig l[k] = true ∨ (l[k] = 46 ∧ ∃ h2 : k + 1 < l.length, isDig l[k + 1] = true)

end Go.Proofs.YtkedagbknflacaaDoor
