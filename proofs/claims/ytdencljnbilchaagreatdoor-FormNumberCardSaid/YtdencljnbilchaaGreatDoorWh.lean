/- The walks of num.begin, num.numeral. -/
import Derived.Test.YtdencljnbilchaaGreatDoorWa
import Derived.Test.YtdencljnbilchaaGreatDoorPa
import Derived.Deep.DeepCutAuto

namespace Go.Proofs.YtdencljnbilchaaGreatDoor
open Go.RowKit

def NumEnd (l : List UInt8) (i : Nat) (m : Nat) (wb : Bool) : Prop := i ≤ m ∧ m ≤ l.length ∧ (wb = false → mantN (l.drop i) = 0) ∧ (wb = true → i < m ∧ mantN (l.drop i) = m - i)

theorem numEnd_no (l : List UInt8) (i m : Nat) (h : NumEnd l i m false) : i + numeralN (l.drop i) = i := by
  rw [numeralN, if_pos (h.2.2.1 rfl)]; rfl
theorem numEnd_exp (l : List UInt8) (i m : Nat) (h : NumEnd l i m true) : i + numeralN (l.drop i) = m + expN (l.drop m) := by
  obtain ⟨h1, h2⟩ := h.2.2.2 rfl
  rw [numeralN, h2, if_neg (by omega), List.drop_drop, show i + (m - i) = m by omega]; omega

theorem exp_none (l : List UInt8) (m : Nat) (h : ¬ ∃ h : m < l.length, l[m] = 101 ∨ l[m] = 69) : expN (l.drop m) = 0 := by
  rw [expN, if_neg]
  intro hh
  apply h
  by_cases hm : m < l.length
  · rw [drop_head l m hm] at hh
    exact ⟨hm, by simpa using hh⟩
  · rw [drop_head_end l m (by omega)] at hh; simp at hh
theorem exp_some (l : List UInt8) (m : Nat) (h : m < l.length) (he : l[m] = 101 ∨ l[m] = 69) :
    expN (l.drop m) = if nWhile isDig (l.drop (m + 1 + sgnN (l.drop (m + 1)))) = 0 then 0 else 1 + sgnN (l.drop (m + 1)) + nWhile isDig (l.drop (m + 1 + sgnN (l.drop (m + 1)))) := by
  rw [expN, drop_head l m h, if_pos (by rcases he with he | he <;> simp [he])]
  simp only [List.drop_drop, Nat.add_assoc]
theorem sgn_none (l : List UInt8) (m : Nat) (h : ¬ ∃ h : m < l.length, l[m] = 43 ∨ l[m] = 45) : sgnN (l.drop m) = 0 := by
  rw [sgnN, if_neg]
  intro hh
  apply h
  by_cases hm : m < l.length
  · rw [drop_head l m hm] at hh
    exact ⟨hm, by simpa using hh⟩
  · rw [drop_head_end l m (by omega)] at hh; simp at hh
theorem sgn_some (l : List UInt8) (m : Nat) (h : m < l.length) (he : l[m] = 43 ∨ l[m] = 45) : sgnN (l.drop m) = 1 := by
  rw [sgnN, drop_head l m h, if_pos (by rcases he with he | he <;> simp [he])]

theorem mant_end (l : List UInt8) (i d : Nat) (hi : i ≤ l.length) (hd : i + nWhile isDig (l.drop i) = d) (h : ¬ ∃ h : d < l.length, l[d] = 46) : NumEnd l i d (decide (i < d)) := by
  have hm : mantN (l.drop i) = d - i := by
    rw [mantN, List.drop_drop, hd, if_neg]
    · omega
    · intro hh
      apply h
      by_cases hl : d < l.length
      · rw [drop_head l d hl] at hh; exact ⟨hl, by simpa using hh⟩
      · rw [drop_head_end l d (by omega)] at hh; cases hh
  have := nWhile_le isDig (l.drop i)
  simp only [List.length_drop] at this
  refine ⟨by omega, by omega, fun h => ?_, fun h => ?_⟩
  · simp at h; omega
  · simp at h; exact ⟨h, hm⟩
theorem mant_dot (l : List UInt8) (i d p : Nat) (hd : i + nWhile isDig (l.drop i) = d) (h : d < l.length) (h46 : l[d] = 46) (hp : d + 1 + nWhile isDig (l.drop (d + 1)) = p) :
    (i < d ∨ d + 1 < p → NumEnd l i p true) ∧ (¬ i < d → ¬ d + 1 < p → NumEnd l i d false) := by
  have h1 := nWhile_le isDig (l.drop (d + 1))
  simp only [List.length_drop] at h1
  have hm : mantN (l.drop i) = if nWhile isDig (l.drop i) = 0 ∧ nWhile isDig (l.drop (d + 1)) = 0 then 0 else nWhile isDig (l.drop i) + 1 + nWhile isDig (l.drop (d + 1)) := by
    rw [mantN, List.drop_drop, hd, drop_head l d h, h46, if_pos rfl, List.drop_drop, ← Nat.add_assoc, hd]
  constructor
  · intro hor
    refine ⟨by omega, by omega, fun h => by simp at h, fun _ => ⟨by omega, ?_⟩⟩
    rw [hm, if_neg (by omega)]; omega
  · intro h2 h3
    refine ⟨by omega, by omega, fun _ => ?_, fun h => by simp at h⟩
    rw [hm, if_pos (by omega)]

end Go.Proofs.YtdencljnbilchaaGreatDoor
