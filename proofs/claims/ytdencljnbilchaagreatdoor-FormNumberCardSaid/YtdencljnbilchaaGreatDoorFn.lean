/- What ftoa64 takes a float's bits apart into. The walk of RoundedInteger. -/
import Derived.Test.YtdencljnbilchaaGreatDoorFl
import Derived.Test.YtdencljnbilchaaGreatDoorHa
import Derived.Test.YtdencljnbilchaaGreatDoorFe
import Derived.Deep.DeepCutAuto
import Derived.Deep.CutBlock

namespace Go.Proofs.YtdencljnbilchaaGreatDoor
open Go.RowKit

def fNg (x : Nat) : Bool := decide (9223372036854775808 ≤ x)
def fEx (x : Nat) : Nat := x / 4503599627370496 % 2048
def fMt (x : Nat) : Nat := x % 4503599627370496

theorem and2047x (s : Nat) (h : s < 4096) : bits .and .i64 (s : Int) 2047 = (s % 2048 : Nat) := by
  have h0 : ∀ s : Fin 2048, bits .and .i64 ((s : Nat) : Int) 2047 = ((s : Nat) : Int) := by decide +kernel
  have h1 : ∀ s : Fin 2048, bits .and .i64 (((s : Nat) + 2048 : Nat) : Int) 2047 = ((s : Nat) : Int) := by decide +kernel
  by_cases hs : s < 2048
  · rw [Nat.mod_eq_of_lt hs]; exact h0 ⟨s, hs⟩
  · have := h1 ⟨s - 2048, by omega⟩
    dsimp only at this
    rw [show s - 2048 + 2048 = s by omega] at this
    rw [this, show s % 2048 = s - 2048 by omega]

theorem and52 (x : Nat) (h : x < 18446744073709551616) : bits .and .u64 (x : Int) 4503599627370495 = (fMt x : Nat) := by
  have h1 := bits_and_u64_nat x 4503599627370495 h (by omega)
  have h2 : x &&& 4503599627370495 = x % 4503599627370496 := Nat.and_two_pow_sub_one_eq_mod x 52
  rw [h2] at h1
  exact h1

theorem or52 (m : Nat) (h : m < 4503599627370496) : bits .or .u64 (m : Int) 4503599627370496 = (m + 4503599627370496 : Nat) := by
  have h1 := or_N (m : Int) 4503599627370496 (by omega) (by omega) (by omega) (by omega)
  have h2 : orN (m : Int) 4503599627370496 = m + 4503599627370496 := by
    show m ||| 4503599627370496 = _
    have := Nat.two_pow_add_eq_or_of_lt (i := 52) (b := m) h 1
    have e : (2 : Nat) ^ 52 = 4503599627370496 := by decide
    rw [e, Nat.mul_one] at this
    rw [Nat.or_comm, ← this]; omega
  rw [h2] at h1
  exact h1


theorem ext_fb (x : Nat) (w : World) : (callFunc 84 #[.float .f64 x]).run Tryz.prog w = .ok (.value (.int .u64 x)) w := by kernel_rfl

end Go.Proofs.YtdencljnbilchaaGreatDoor

namespace Go.Proofs.YtdencljnbilchaaGreatDoor
open Go.RowKit

def riV (s : DS) : Nat := if 20 < s.dp then 18446744073709551615 else (preA s.M s.nd s.dp.toNat + (if sruB s s.dp = true then 1 else 0)) % 18446744073709551616

end Go.Proofs.YtdencljnbilchaaGreatDoor
