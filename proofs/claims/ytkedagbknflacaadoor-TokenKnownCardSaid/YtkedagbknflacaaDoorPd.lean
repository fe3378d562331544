/- Plain: numerals. No program here. -/
import Derived.Test.YtkedagbknflacaaDoorPc
namespace Go.Proofs.YtkedagbknflacaaDoor

/-- How long the digits and the point of a numeral are that stands at the beginning; 0: there is none. -/
def mantN (l : List UInt8) : Nat :=
  if (l.drop (nWhile isDig l)).head? = some 46 then
    (if nWhile isDig l = 0 ∧ nWhile isDig (l.drop (nWhile isDig l + 1)) = 0 then 0 else nWhile isDig l + 1 + nWhile isDig (l.drop (nWhile isDig l + 1)))
  else nWhile isDig l

def sgnN (l : List UInt8) : Nat := if l.head? = some 43 ∨ l.head? = some 45 then 1 else 0

/-- How long the exponent is. -/
def expN (l : List UInt8) : Nat :=
  if l.head? = some 101 ∨ l.head? = some 69 then
    (if nWhile isDig (l.drop (1 + sgnN (l.drop 1))) = 0 then 0 else 1 + sgnN (l.drop 1) + nWhile isDig (l.drop (1 + sgnN (l.drop 1))))
  else 0

def numeralN (l : List UInt8) : Nat := if mantN l = 0 then 0 else mantN l + expN (l.drop (mantN l))

theorem drop_head (l : List UInt8) (k : Nat) (h : k < l.length) : (l.drop k).head? = some l[k] := by rw [drop_at l k h]; rfl
theorem drop_head_end (l : List UInt8) (k : Nat) (h : l.length ≤ k) : (l.drop k).head? = none := by rw [List.drop_eq_nil_of_le h]; rfl

theorem mantN_le (l : List UInt8) : mantN l ≤ l.length := by
  have h1 := nWhile_le isDig l
  have h2 := nWhile_le isDig (l.drop (nWhile isDig l + 1))
  unfold mantN
  split
  · rename_i h
    have : nWhile isDig l < l.length := by
      rcases Nat.lt_or_ge (nWhile isDig l) l.length with h3 | h3
      · exact h3
      · rw [drop_head_end l _ h3] at h; cases h
    split
    · omega
    · simp only [List.length_drop] at h2; omega
  · exact h1
theorem expN_le (l : List UInt8) : expN l ≤ l.length := by
  have h2 := nWhile_le isDig (l.drop (1 + sgnN (l.drop 1)))
  unfold expN
  split
  · split
    · omega
    · simp only [List.length_drop] at h2; omega
  · omega
theorem numeralN_le (l : List UInt8) : numeralN l ≤ l.length := by
  have h1 := mantN_le l
  have h2 := expN_le (l.drop (mantN l))
  unfold numeralN
  simp only [List.length_drop] at h2
  split <;> omega

end Go.Proofs.YtkedagbknflacaaDoor
