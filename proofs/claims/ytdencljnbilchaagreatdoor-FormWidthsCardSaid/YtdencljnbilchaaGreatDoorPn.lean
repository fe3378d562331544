/- Plain: floats that are no NaN. No program here. -/
import Derived.Laws.FloatArith

namespace Go.Proofs.YtdencljnbilchaaGreatDoor
open Go

/-- It is no NaN. -/
def NN (x : Nat) : Prop := x % 9223372036854775808 ≤ 9218868437227405312

theorem nn_read {x : Nat} (h : NN x) : (∃ s m e, FloatKind.f64.format.read x = .number s m e) ∨ (∃ s, FloatKind.f64.format.read x = .infinity s) := by
  unfold NN at h
  have e1 : FloatKind.f64.format.signWeight = 9223372036854775808 := by decide
  have e2 : FloatKind.f64.format.binade = 4503599627370496 := by decide
  have e3 : FloatKind.f64.format.infRung = 9218868437227405312 := by decide
  unfold Ieee.Format.read
  simp only [e1, e2, e3]
  by_cases h1 : x % 9223372036854775808 < 4503599627370496
  · rw [if_pos h1]; exact .inl ⟨_, _, _, rfl⟩
  · rw [if_neg h1]
    by_cases h2 : x % 9223372036854775808 < 9218868437227405312
    · rw [if_pos h2]; exact .inl ⟨_, _, _, rfl⟩
    · rw [if_neg h2, if_pos (by omega)]; exact .inr ⟨_, rfl⟩

theorem nn_word (neg : Bool) (r : Nat) (h : r ≤ 9218868437227405312) : NN (FloatKind.f64.format.word neg r) := by
  have e1 : FloatKind.f64.format.signWeight = 9223372036854775808 := by decide
  unfold NN Ieee.Format.word
  rw [e1]
  split <;> omega

theorem nn_nearest (neg : Bool) (m : Nat) (e : Int) : NN (FloatKind.f64.format.nearest neg m e) := by
  have e3 : FloatKind.f64.format.infRung = 9218868437227405312 := by decide
  unfold Ieee.Format.nearest
  dsimp only
  split
  · exact nn_word _ _ (by omega)
  · refine nn_word _ _ ?_
    rw [e3]; exact Nat.min_le_right ..

theorem nn_write_inf (s : Bool) : NN (FloatKind.f64.format.write (.infinity s)) := by
  show NN (FloatKind.f64.format.word s FloatKind.f64.format.infRung)
  exact nn_word _ _ (by decide)
theorem nn_write_num (s : Bool) (m : Nat) (e : Int) : NN (FloatKind.f64.format.write (.number s m e)) := nn_nearest s m e

theorem nn_ofInt (n : Int) : NN (floatOfInt .f64 n) := nn_nearest _ _ _
theorem ofInt_lt (n : Int) : floatOfInt .f64 n < 18446744073709551616 := show FloatKind.f64.format.write (.number (decide (n < 0)) n.natAbs 0) < 2 ^ 64 from FloatKind.f64.format.write_lt _

theorem nn_neg {x : Nat} (h : NN x) : NN (x ^^^ 9223372036854775808) := by
  unfold NN at *
  have e : (x ^^^ 2 ^ 63) % 2 ^ 63 = x % 2 ^ 63 ^^^ 2 ^ 63 % 2 ^ 63 := Nat.xor_mod_two_pow
  have e2 : x % 2 ^ 63 ^^^ 2 ^ 63 % 2 ^ 63 = x % 2 ^ 63 := by simp
  rw [e2] at e
  have e' : (x ^^^ 9223372036854775808) % 9223372036854775808 = x % 9223372036854775808 := e
  rw [e']; exact h
theorem neg_lt {x : Nat} (h : x < 18446744073709551616) : x ^^^ 9223372036854775808 < 18446744073709551616 := Nat.xor_lt_two_pow (n := 64) h (by decide)

/-- It is a number, and none of the two zeros. -/
def NZ (x : Nat) : Prop := ∃ s m e, FloatKind.f64.format.read x = .number s m e ∧ m ≠ 0

theorem mul_some {x y : Nat} (hx : NN x) (hy : NZ y) : ∃ r, floatBits .mul .f64 x y = some r ∧ r < 18446744073709551616 ∧ NN r := by
  obtain ⟨t, n, j, hr, hn⟩ := hy
  have hlt : ∀ d, FloatKind.f64.format.write d < 18446744073709551616 := fun d => FloatKind.f64.format.write_lt d
  rcases nn_read hx with ⟨s, m, e, h⟩ | ⟨s, h⟩
  · exact ⟨FloatKind.f64.format.write (.number (s ^^ t) (m * n) (e + j)), by simp only [floatBits, Ieee.Format.mul, h, hr, Ieee.Datum.product]; rfl, hlt _, nn_write_num _ _ _⟩
  · exact ⟨FloatKind.f64.format.write (.infinity (s ^^ t)), by simp only [floatBits, Ieee.Format.mul, h, hr, Ieee.Datum.product, if_neg hn]; rfl, hlt _, nn_write_inf _⟩

theorem div_some {x y : Nat} (hx : NN x) (hy : NZ y) : ∃ r, floatBits .quo .f64 x y = some r ∧ r < 18446744073709551616 ∧ NN r := by
  obtain ⟨t, n, j, hr, hn⟩ := hy
  have hlt : ∀ d, FloatKind.f64.format.write d < 18446744073709551616 := fun d => FloatKind.f64.format.write_lt d
  rcases nn_read hx with ⟨s, m, e, h⟩ | ⟨s, h⟩
  · have hq : ∃ a b c, (FloatKind.f64.format.read x).quotient (FloatKind.f64.format.fractionBits + 2) (FloatKind.f64.format.read y) = some (.number a b c) := by
      rw [h, hr]; simp only [Ieee.Datum.quotient, if_neg hn]; exact ⟨_, _, _, rfl⟩
    obtain ⟨a, b, c, hq⟩ := hq
    exact ⟨FloatKind.f64.format.write (.number a b c), by simp only [floatBits, Ieee.Format.div, hq]; rfl, hlt _, nn_write_num _ _ _⟩
  · exact ⟨FloatKind.f64.format.write (.infinity (s ^^ t)), by simp only [floatBits, Ieee.Format.div, h, hr, Ieee.Datum.quotient]; rfl, hlt _, nn_write_inf _⟩

end Go.Proofs.YtdencljnbilchaaGreatDoor
