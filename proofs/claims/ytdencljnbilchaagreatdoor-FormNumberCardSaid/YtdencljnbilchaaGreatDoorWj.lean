/- Walks: special at numerals' bytes, begin, plain, IsInf. Twenty values in one: the open slots of a large activation. No program here. -/
import Derived.Test.YtdencljnbilchaaGreatDoorWa
import Derived.Test.YtdencljnbilchaaGreatDoorPa
import Derived.Test.YtdencljnbilchaaGreatDoorGm
import Derived.WalkKit

namespace Go.Proofs.YtdencljnbilchaaGreatDoor
open Go.RowKit

theorem numCh_prefix {c : UInt8} (h : c ∈ numChL) : (65 ≤ c.toNat ∧ c.toNat ≤ 90 → c = 69) ∧ c ≠ 105 ∧ c ≠ 73 ∧ c ≠ 110 ∧ c ≠ 78 := by
  simp only [numChL, List.mem_cons, List.not_mem_nil, or_false] at h
  rcases h with h | h | h | h | h | h | h | h | h | h | h | h | h | h | h <;> subst h <;> decide

theorem ext_bits (x : Nat) (w : World) : (callFunc 52 #[.float .f64 x]).run Tryz.prog w = .ok (.value (.int .u64 x)) w := by kernel_rfl
theorem ext_frombits (x : Nat) (w : World) : (callFunc 53 #[.int .u64 x]).run Tryz.prog w = .ok (.value (.float .f64 x)) w := by kernel_rfl
/-- -0 is 0. -/
def plainN (x : Nat) : Nat := if FloatKind.f64.format.order x 0 == some .eq then 0 else x
/-- Without its sign. -/
def absN (x : Nat) : Nat := x % 2 ^ 63
def infB (x : Nat) : Bool := FloatKind.f64.format.order (absN x) 9218868437227405311 == some .gt

set_option maxHeartbeats 800000 in
theorem plain_any (x : Nat) (w : World) : Calls Tryz.prog 33 #[.float .f64 x] w fun e w' => e = .returned (.float .f64 (plainN x)) ∧ w = w' := by
  cases h : (FloatKind.f64.format.order x 0 == some .eq) with
  | true =>
    have HP : Hid (plainN x = 0) := by unfold Hid; rw [plainN, h]; rfl
    go_enter Tryz.func33, Tryz.ntmps33
    go_wp2
    go_ret
    exact ⟨by rw [HP.out]; rfl, rfl⟩
  | false =>
    have HP : Hid (plainN x = x) := by unfold Hid; rw [plainN, h]; rfl
    go_enter Tryz.func33, Tryz.ntmps33
    go_wp2
    go_ret
    exact ⟨by rw [HP.out]; rfl, rfl⟩

theorem bits_abs (x : Nat) (hx : x < 18446744073709551616) : bits .andNot .u64 (x : Int) 9223372036854775808 = (absN x : Int) := by
  have h := u64_andNot_nat x 9223372036854775808 hx (by omega)
  rw [absN, ← Nat.and_two_pow_sub_one_eq_mod]; exact h
theorem run_abs (x : Nat) (hx : x < 18446744073709551616) (w : World) : (callFunc 53 #[.int .u64 (bits .andNot .u64 (x : Int) 9223372036854775808)]).run Tryz.prog w = .ok (.value (.float .f64 (absN x))) w := by
  rw [bits_abs x hx]
  exact ext_frombits (absN x) w

set_option maxRecDepth 20000 in
theorem abs_any (x : Nat) (hx : x < 18446744073709551616) (w : World) : Calls Tryz.prog 41 #[.float .f64 x] w fun e w' => e = .returned (.float .f64 (absN x)) ∧ w = w' := by
  have e1 := fun W => ext_bits x W
  have e3 := fun W => run_abs x hx W
  clear hx
  go_enter Tryz.func41, Tryz.ntmps41
  go_wp2_with (fail)
  go_ret
  exact ⟨rfl, rfl⟩

set_option maxHeartbeats 800000 in
theorem isInf_any (x : Nat) (hx : x < 18446744073709551616) (w : World) : Calls Tryz.prog 26 #[.float .f64 x, .int .i64 0] w fun e w' => e = .returned (.bool (infB x)) ∧ w = w' := by
  have HA := Lib.hid (fun W => abs_any x hx W)
  have HB : Hid (infB x = (FloatKind.f64.format.order (absN x) 9218868437227405311 == some .gt)) := rfl
  clear hx
  go_enter Tryz.func26, Tryz.ntmps26
  go_wp2_with (go_at_call 41; refine (HA.out _).mono ?_; rintro e w' ⟨rfl, rfl⟩)
  go_ret
  exact ⟨ret_bool HB.out.symm, rfl⟩

end Go.Proofs.YtdencljnbilchaaGreatDoor

namespace Go
structure V20 where
  a : Value
  b : Value
  c : Value
  d : Value
  e : Value
  f : Value
  g : Value
  h : Value
  i : Value
  j : Value
  k : Value
  l : Value
  m : Value
  n : Value
  o : Value
  p : Value
  q : Value
  r : Value
  s : Value
  t : Value
end Go
