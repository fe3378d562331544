/- Plain: skipping, and what the next token is. No program here. -/
import Derived.Test.YtkedagbknflacaaDoorPc
namespace Go.Proofs.YtkedagbknflacaaDoor

/-- How many bytes are skipped ahead of a token: true: within a comment. -/
def skipS : Bool → List UInt8 → Nat
  | _, [] => 0
  | true, c :: r => if c = 10 then 0 else skipS true r + 1
  | false, c :: r => if c = 32 ∨ c = 9 ∨ c = 13 then skipS false r + 1 else if c = 35 then skipS true r + 1
    else if c = 92 then (match r with | [] => 0 | d :: r' => if d = 10 then skipS false r' + 2 else 0) else 0

theorem skipS_le : ∀ (N : Nat) (b : Bool) (l : List UInt8), l.length ≤ N → skipS b l ≤ l.length
  | _, _, [], _ => by cases ‹Bool› <;> simp [skipS]
  | 0, _, c :: r, h => by simp at h
  | N + 1, true, c :: r, h => by
    simp only [List.length_cons] at h
    have := skipS_le N true r (by omega)
    rw [skipS]; split <;> simp; exact this
  | N + 1, false, c :: r, h => by
    simp only [List.length_cons] at h
    have h1 := skipS_le N true r (by omega)
    have h2 := skipS_le N false r (by omega)
    rw [skipS.eq_def]; dsimp only
    split
    · simp; exact h2
    · split
      · simp; exact h1
      · split
        · cases r with
          | nil => simp
          | cons d r' =>
            dsimp only
            split
            · simp only [List.length_cons] at h ⊢
              have h3 := skipS_le N false r' (by omega)
              omega
            · simp
        · simp

def skipK (l : List UInt8) (k : Nat) : Nat := k + skipS false (l.drop k)
def skipC (l : List UInt8) (k : Nat) : Nat := k + skipS true (l.drop k)

theorem skipK_end (l : List UInt8) (k : Nat) (h : l.length ≤ k) : skipK l k = k := by rw [skipK, List.drop_eq_nil_of_le h]; rfl
theorem skipC_end (l : List UInt8) (k : Nat) (h : l.length ≤ k) : skipC l k = skipK l k := by rw [skipK, skipC, List.drop_eq_nil_of_le h]; rfl
theorem skipC_nl (l : List UInt8) (k : Nat) (h : k < l.length) (hc : l[k] = 10) : skipC l k = skipK l k := by
  rw [skipK, skipC, drop_at l k h, skipS.eq_def, skipS.eq_def]; simp [hc]
theorem skipC_step (l : List UInt8) (k : Nat) (h : k < l.length) (hc : l[k] ≠ 10) : skipC l k = skipC l (k + 1) := by
  rw [skipC, drop_at l k h, skipS, if_neg hc, skipC]; omega
theorem skipK_blank (l : List UInt8) (k : Nat) (h : k < l.length) (hc : l[k] = 32 ∨ l[k] = 9 ∨ l[k] = 13) : skipK l k = skipK l (k + 1) := by
  rw [skipK, drop_at l k h, skipS.eq_def]; dsimp only; rw [if_pos hc, skipK]; omega
theorem skipK_hash (l : List UInt8) (k : Nat) (h : k < l.length) (hc : l[k] = 35) : skipK l k = skipC l k := by
  rw [skipK, drop_at l k h, skipS.eq_def]; dsimp only; rw [if_neg (by simp [hc]), if_pos hc, skipC, drop_at l k h, skipS, if_neg (by simp [hc])]
theorem skipK_join (l : List UInt8) (k : Nat) (h : k + 1 < l.length) (hc : l[k] = 92) (hd : l[k + 1] = 10) : skipK l k = skipK l (k + 2) := by
  rw [skipK, drop_at l k (by omega), drop_at l (k + 1) h, skipS.eq_def]; dsimp only; rw [if_neg (by simp [hc]), if_neg (by simp [hc]), if_pos hc, if_pos hd, skipK]
  show k + (skipS false (l.drop (k + 2)) + 2) = _
  omega
theorem skipK_stop (l : List UInt8) (k : Nat) (h : k < l.length) (h1 : ¬ (l[k] = 32 ∨ l[k] = 9 ∨ l[k] = 13)) (h2 : l[k] ≠ 35) (h3 : ¬ (l[k] = 92 ∧ l[k + 1]? = some 10)) : skipK l k = k := by
  rw [skipK, drop_at l k h, skipS.eq_def]; dsimp only; rw [if_neg h1, if_neg h2]
  split
  · rename_i h92
    by_cases h4 : k + 1 < l.length
    · rw [drop_at l (k + 1) h4]; dsimp only
      rw [if_neg]; · rfl
      intro e; exact h3 ⟨h92, by rw [List.getElem?_eq_getElem h4, e]⟩
    · rw [List.drop_eq_nil_of_le (by omega)]; rfl
  · rfl

def numStart (l : List UInt8) (k : Nat) : Prop := ∃ h : k < l.length, isDig l[k] = true ∨ (l[k] = 46 ∧ ∃ h2 : k + 1 < l.length, isDig l[k + 1] = true)

end Go.Proofs.YtkedagbknflacaaDoor
