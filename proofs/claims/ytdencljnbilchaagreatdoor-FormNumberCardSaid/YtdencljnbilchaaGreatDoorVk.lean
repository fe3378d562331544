/- NumMade: true. -/
import Derived.Test.YtdencljnbilchaaGreatDoorHe
import Derived.Test.YtdencljnbilchaaGreatDoorVi
import Derived.Laws.Cover2

namespace Go.Proofs.YtdencljnbilchaaGreatDoor
open Go.RowKit

def pickN (n : Int) (m : Nat) : Nat := (if n.tmod m < 0 then n.tmod m + m else n.tmod m).toNat
theorem pickN_lt (n : Int) (m : Nat) (hm : 0 < m) : pickN n m < m := by
  have t1 := Int.tmod_lt_of_pos n (b := (m : Int)) (by omega)
  have t2 := Int.lt_tmod_of_pos n (b := (m : Int)) (by omega)
  unfold pickN; split <;> omega

set_option maxRecDepth 100000 in
set_option maxHeartbeats 1600000 in
theorem pick_any (n : Int) (m : Nat) (w : World) (hm : 0 < m) (hm2 : m ≤ maxLen) : Calls Tryz.prog 17 #[.int .i64 n, .int .i64 m] w fun e w' => e = .returned (.int .i64 (pickN n m)) ∧ w = w' := by
  have t1 := Int.tmod_lt_of_pos n (b := (m : Int)) (by omega)
  have t2 := Int.lt_tmod_of_pos n (b := (m : Int)) (by omega)
  unfold maxLen at hm2
  by_cases h : n.tmod m < 0
  · have HF : Hid ((pickN n m : Int) = n.tmod m + m) := by unfold Hid pickN; rw [if_pos h]; omega
    go_enter Tryz.func17, Tryz.ntmps17
    go_wp2
    go_ret
    exact ⟨by rw [HF.out]; rfl, rfl⟩
  · have HF : Hid ((pickN n m : Int) = n.tmod m) := by unfold Hid pickN; rw [if_neg h]; omega
    go_enter Tryz.func17, Tryz.ntmps17
    go_wp2
    go_ret
    exact ⟨by rw [HF.out]; rfl, rfl⟩

/-- A small whole number as a double: finite; of its sign. -/
theorem ofInt_fin (n : Int) (h1 : -9007199254740992 < n) (h2 : n < 9007199254740992) : floatOfInt .f64 n < 18446744073709551616 ∧ finN (floatOfInt .f64 n) ∧ (0 ≤ n → floatOfInt .f64 n < 9223372036854775808) := by
  obtain ⟨r, hr, e⟩ := nearest_fin (decide (n < 0)) n.natAbs (by omega) 0 (by omega)
  rw [Nat.pow_zero, Nat.mul_one] at e
  have e2 : floatOfInt .f64 n = FloatKind.f64.format.nearest (decide (n < 0)) n.natAbs 0 := rfl
  rw [e2, e]
  by_cases h : n < 0
  · rw [if_pos (decide_eq_true h)]
    exact ⟨by omega, by unfold finN; omega, fun h0 => by omega⟩
  · rw [if_neg (by simpa using h)]
    exact ⟨by omega, by unfold finN; omega, fun _ => by omega⟩

theorem ba_list (x y : ByteArray) : (x ++ y).data.toList = x.data.toList ++ y.data.toList := by simp

theorem digits_int (n : Int) (h1 : -9007199254740992 < n) (h2 : n < 9007199254740992) (w : World) (hL : LaidG w) : ∃ ng ds, (0 ≤ n → ng = false) ∧ digL ds ∧
    ∀ W, Below w.heap.size w W → Calls Tryz.prog 16 #[.float .f64 (floatOfInt .f64 n)] W fun e w' => e = .returned (.string ⟨(sgnL ng ++ ds).toArray⟩) ∧ Below W.heap.size W w' := by
  obtain ⟨f1, f2, f3⟩ := ofInt_fin n h1 h2
  obtain ⟨ng, ds, g1, g2, g3, _⟩ := digits_fin _ f1 f2
  exact ⟨ng, ds, fun h => g1 (f3 h), g2, fun W hW => g3 W (hL.below hW)⟩

theorem ba_size (l : List UInt8) : (⟨l.toArray⟩ : ByteArray).size = l.length := by simp [ByteArray.size]

end Go.Proofs.YtdencljnbilchaaGreatDoor
