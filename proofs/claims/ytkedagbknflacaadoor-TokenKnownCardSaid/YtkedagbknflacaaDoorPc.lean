/- Plain: closing and escapes step together. No program here. -/
import Derived.Test.YtkedagbknflacaaDoorPb
namespace Go.Proofs.YtkedagbknflacaaDoor

def closeR (q : UInt8) (l : List UInt8) (k : Nat) : Int := match closeN q (l.drop k) with | some n => (k + n : Nat) | none => -1

theorem closeR_end (q : UInt8) (l : List UInt8) (k : Nat) (h : l.length ≤ k) : closeR q l k = -1 := by
  rw [closeR, List.drop_eq_nil_of_le h]; rfl
theorem closeR_nl (q : UInt8) (l : List UInt8) (k : Nat) (h : k < l.length) (hc : l[k] = 10) : closeR q l k = -1 := by
  rw [closeR, drop_at l k h, closeN.eq_def]; simp [hc]
theorem closeR_q (q : UInt8) (l : List UInt8) (k : Nat) (h : k < l.length) (h1 : l[k] ≠ 10) (hc : l[k] = q) : closeR q l k = k := by
  rw [closeR, drop_at l k h, closeN.eq_def]; subst hc; simp [h1]
theorem closeR_step (q : UInt8) (l : List UInt8) (k : Nat) (h : k < l.length) (h1 : l[k] ≠ 10) (h2 : l[k] ≠ q) (h3 : l[k] ≠ 92) : closeR q l k = closeR q l (k + 1) := by
  rw [closeR, drop_at l k h, closeN.eq_def, closeR]; simp only [h1, h2, h3, if_false]
  cases closeN q (l.drop (k + 1)) with
  | none => rfl
  | some n => simp; omega
theorem closeR_bs_end (q : UInt8) (l : List UInt8) (k : Nat) (h : k < l.length) (h1 : l[k] ≠ 10) (h2 : l[k] ≠ q) (h3 : l[k] = 92) (hd : l.length ≤ k + 1) : closeR q l k = -1 := by
  rw [closeR, drop_at l k h, List.drop_eq_nil_of_le hd, closeN.eq_def]; dsimp only; rw [if_neg h1, if_neg h2, if_pos h3]
theorem closeR_bs_nl (q : UInt8) (l : List UInt8) (k : Nat) (h : k + 1 < l.length) (h1 : l[k] ≠ 10) (h2 : l[k] ≠ q) (h3 : l[k] = 92) (hd : l[k + 1] = 10) : closeR q l k = -1 := by
  rw [closeR, drop_at l k (by omega), drop_at l (k + 1) h, closeN.eq_def]; dsimp only; rw [if_neg h1, if_neg h2, if_pos h3, if_pos hd]
theorem closeR_bs (q : UInt8) (l : List UInt8) (k : Nat) (h : k + 1 < l.length) (h1 : l[k] ≠ 10) (h2 : l[k] ≠ q) (h3 : l[k] = 92) (hd : l[k + 1] ≠ 10) : closeR q l k = closeR q l (k + 2) := by
  rw [closeR, drop_at l k (by omega), drop_at l (k + 1) h, closeN.eq_def, closeR]; dsimp only; rw [if_neg h1, if_neg h2, if_pos h3, if_neg hd]
  cases closeN q (l.drop (k + 2)) with
  | none => rfl
  | some n => simp; omega

theorem closeN_lt (q : UInt8) : ∀ (N : Nat) (l : List UInt8) (n : Nat), l.length ≤ N → closeN q l = some n → n < l.length
  | _, [], n, _, h => by simp [closeN] at h
  | 0, c :: r, n, hN, _ => by simp at hN
  | N + 1, c :: r, n, hN, h => by
    rw [closeN.eq_def] at h
    dsimp only at h
    simp only [List.length_cons] at hN ⊢
    split at h
    · cases h
    split at h
    · cases h; omega
    split at h
    · split at h
      · cases h
      · rename_i d r' 
        split at h
        · cases h
        · cases hc : closeN q r' with
          | none => rw [hc] at h; cases h
          | some m =>
            rw [hc] at h; cases h
            simp only [List.length_cons] at hN ⊢
            have := closeN_lt q N r' m (by omega) hc
            show m + 2 < _
            omega
    · cases hc : closeN q r with
      | none => rw [hc] at h; cases h
      | some m =>
        rw [hc] at h; cases h
        have := closeN_lt q N r m (by omega) hc
        show m + 1 < _
        omega

theorem closeR_bd (q : UInt8) (l : List UInt8) (k t : Nat) (h : closeR q l k = t) : k ≤ t ∧ t < l.length := by
  rw [closeR] at h
  cases hc : closeN q (l.drop k) with
  | none => rw [hc] at h; simp at h
  | some n =>
    rw [hc] at h
    have := closeN_lt q _ _ n (Nat.le_refl _) hc
    simp at this h
    omega

/-- What is known at a place ahead of the end. -/
theorem closeR_at (q : UInt8) (l : List UInt8) (k t : Nat) (h : closeR q l k = t) (hk : k < t) (hl : k < l.length) :
    l[k] ≠ 10 ∧ l[k] ≠ q ∧ (l[k] ≠ 92 → closeR q l (k + 1) = t) ∧ (l[k] = 92 → k + 2 ≤ t ∧ closeR q l (k + 2) = t) := by
  have h1 : l[k] ≠ 10 := fun e => by rw [closeR_nl q l k hl e] at h; omega
  have h2 : l[k] ≠ q := fun e => by rw [closeR_q q l k hl h1 e] at h; omega
  refine ⟨h1, h2, fun h3 => by rw [← closeR_step q l k hl h1 h2 h3]; exact h, fun h3 => ?_⟩
  by_cases h4 : k + 1 < l.length
  · by_cases h5 : l[k + 1] = 10
    · rw [closeR_bs_nl q l k h4 h1 h2 h3 h5] at h; omega
    · rw [closeR_bs q l k h4 h1 h2 h3 h5] at h
      exact ⟨(closeR_bd q l _ t h).1, h⟩
  · rw [closeR_bs_end q l k hl h1 h2 h3 (by omega)] at h; omega

theorem oct_all : ∀ (f n : Nat) (l : List UInt8) (j : Nat) (_ : j < (oct f n l).2) (hl : j < l.length), 48 ≤ l[j].toNat ∧ l[j].toNat ≤ 55
  | 0, _, _, j, hj, _ => by simp [oct] at hj
  | _ + 1, _, [], j, hj, _ => by simp [oct] at hj
  | f + 1, n, c :: r, j, hj, hl => by
    unfold oct at hj
    split at hj
    · rename_i hc
      cases j with
      | zero => exact hc
      | succ j => exact oct_all f _ r j (by simp at hj; omega) (by simpa using hl)
    · simp at hj

/-- Behind a backslash and octal digits the closing goes on as before. -/
theorem closeR_oct (l : List UInt8) (t : Nat) : ∀ (j k : Nat), closeR 34 l k = t → k + j ≤ t → (∀ i (hi : k + i < l.length), i < j → 48 ≤ l[k + i].toNat ∧ l[k + i].toNat ≤ 55) → closeR 34 l (k + j) = t
  | 0, k, h, _, _ => h
  | j + 1, k, h, hj, hd => by
    have hl := (closeR_bd 34 l k t h).2
    have h0 := hd 0 (by omega) (by omega)
    simp only [Nat.add_zero] at h0
    have hn : l[k] ≠ 92 := fun e => by rw [e] at h0; simp at h0
    have := (closeR_at 34 l k t h (by omega) (by omega)).2.2.1 hn
    have ih := closeR_oct l t j (k + 1) this (by omega) (fun i hi hij => by
      have := hd (i + 1) (by omega) (by omega)
      simpa [Nat.add_assoc, Nat.add_comm 1] using this)
    rw [show k + (j + 1) = k + 1 + j by omega]; exact ih

theorem esc_close (l : List UInt8) (k t : Nat) (hk : k + 2 ≤ t) (h : closeR 34 l (k + 2) = t) (hn : (escL ((l.drop (k + 1)).take (t - (k + 1)))).2 ≠ 0) :
    closeR 34 l (k + 1 + (escL ((l.drop (k + 1)).take (t - (k + 1)))).2) = t ∧ k + 1 + (escL ((l.drop (k + 1)).take (t - (k + 1)))).2 ≤ t := by
  have hl := (closeR_bd 34 l _ t h).2
  have hle := escL_le ((l.drop (k + 1)).take (t - (k + 1)))
  simp only [List.length_take, List.length_drop] at hle
  refine ⟨?_, by omega⟩
  generalize hm : (l.drop (k + 1)).take (t - (k + 1)) = m at *
  have hmg : ∀ j (hj : j < m.length), m[j] = l[k + 1 + j]'(by subst hm; simp at hj; omega) := fun j hj => by subst hm; simp
  have hml : m.length = t - (k + 1) := by subst hm; simp; omega
  cases m with
  | nil => simp at hml; omega
  | cons d r =>
    by_cases hi : lettersL.idxOf d < 10
    · have : (escL (d :: r)).2 = 1 := by rw [escL, if_pos hi]
      rw [this]; exact h
    · have he : (escL (d :: r)).2 = (oct 3 0 (d :: r)).2 := by rw [escL, if_neg hi]
      rw [he] at hn hle ⊢
      have := closeR_oct l t ((oct 3 0 (d :: r)).2 - 1) (k + 2) h (by omega) (fun i hi' hij => by
        have h1 := oct_all 3 0 (d :: r) (i + 1) (by omega) (by simp only [List.length_cons] at hml ⊢; omega)
        rw [hmg (i + 1) (by simp only [List.length_cons] at hml ⊢; omega)] at h1
        simpa [show k + 1 + (i + 1) = k + 2 + i by omega] using h1)
      rw [show k + 1 + (oct 3 0 (d :: r)).2 = k + 2 + ((oct 3 0 (d :: r)).2 - 1) by omega]; exact this

/-- The inside that is left at a place. -/
def inR (l : List UInt8) (k t : Nat) : List UInt8 := (l.drop k).take (t - k)
theorem inR_at (l : List UInt8) (k t : Nat) (hk : k < t) (hl : k < l.length) : inR l k t = l[k] :: inR l (k + 1) t := by
  rw [inR, drop_at l k hl, show t - k = (t - (k + 1)) + 1 by omega, List.take_succ_cons]; rfl
theorem inR_end (l : List UInt8) (t : Nat) : inR l t t = [] := by simp [inR]
theorem inR_drop (l : List UInt8) (k t n : Nat) : (inR l k t).drop n = inR l (k + n) t := by
  rw [inR, inR, List.drop_take, List.drop_drop]; congr 1; omega

theorem unsl_nil : unsl [] = [] := rfl
theorem unsl_plain (c : UInt8) (r : List UInt8) (h : c ≠ 92) : unsl (c :: r) = c :: unsl r := by
  cases r with
  | nil => simp [unsl, h]
  | cons d r => rw [unsl, if_neg h]
theorem unsl_slash (r : List UInt8) : unsl (92 :: 47 :: r) = 47 :: unsl r := by
  rw [unsl, if_pos rfl, if_pos rfl]
theorem unsl_bs (d : UInt8) (r : List UInt8) (h : d ≠ 47) : unsl (92 :: d :: r) = 92 :: d :: unsl r := by
  rw [unsl, if_pos rfl, if_neg h]

end Go.Proofs.YtkedagbknflacaaDoor
