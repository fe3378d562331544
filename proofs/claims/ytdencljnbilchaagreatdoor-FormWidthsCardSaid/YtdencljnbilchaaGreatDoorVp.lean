/- A whole number's digits are read as it; NumBack: true. -/
import Derived.Test.YtdencljnbilchaaGreatDoorHe
import Derived.Test.YtdencljnbilchaaGreatDoorVk

namespace Go.Proofs.YtdencljnbilchaaGreatDoor
open Go.RowKit

theorem ofInt_pos {X M E : Nat} (h : WholeX X M E) (hE : E ≤ 63) : floatOfInt .f64 (X : Int) = rungX M E := by
  have e : floatOfInt .f64 (X : Int) = FloatKind.f64.format.nearest (decide ((X : Int) < 0)) (X : Int).natAbs 0 := rfl
  rw [e, decide_eq_false (by omega), Int.natAbs_natCast, nearest_int false h (by omega)]
  rfl

theorem text_num (neg : Bool) (D : List UInt8) (hD : ∀ c ∈ D, isDig c = true) : ∀ c ∈ sgnL neg ++ D, c ∈ numChL := fun c hc => by
  rcases List.mem_append.1 hc with h | h
  · cases neg
    · cases h
    · rw [List.mem_singleton.1 h]; decide
  · exact dig_num c (hD c h)

theorem ofInt_zero : floatOfInt .f64 0 = 0 := by kernel_rfl

end Go.Proofs.YtdencljnbilchaaGreatDoor
