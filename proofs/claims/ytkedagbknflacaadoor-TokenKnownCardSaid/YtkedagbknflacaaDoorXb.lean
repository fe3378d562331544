/- atof64 where the number is a zero, too great, or too small. -/
import Derived.Test.YtkedagbknflacaaDoorXa
namespace Go.Proofs.YtkedagbknflacaaDoor
open Go.RowKit

def sgnBits (neg : Bool) : Nat := if neg = true then 9223372036854775808 else 0
def infBits (neg : Bool) : Nat := if neg = true then 18442240474082181120 else 9218868437227405312

theorem ext_ifb (n : Int) (w : World) : (callFunc 64 #[.int .u64 n]).run Tryd.prog w = .ok (.value (.float .f64 n.toNat)) w := by kernel_rfl

set_option maxRecDepth 100000 in
set_option maxHeartbeats 1600000 in
theorem atof64_big (s : ByteArray) (w : World) (hs : s.size ≤ 140737488351232) (hN : ∀ c ∈ s.data.toList, c ∈ numChL) (hL : LaidF w) (m : Nat) (p : Int) (ng tr : Bool) (n : Nat)
    (hr : rf s.data.toList = ⟨m, p, ng, tr, n, true⟩) (hm0 : m ≠ 0) (hp1 : 310 < p) :
    Calls Tryd.prog 50 #[.string s] w fun e w' => e = .returned (.tuple #[.float .f64 (infBits ng), .int .i64 n, rangeV]) ∧ w = w' := by
  have HS := Lib.hid (fun W => special_num s W (by unfold maxLen; omega) (fun k h => hN _ (List.getElem_mem (l := s.data.toList) (by simpa using h))))
  have hR : ∀ W, Calls Tryd.prog 55 #[.string s] W fun e w' => e = .returned (.tuple #[.int .u64 m, .int .i64 p, .bool ng, .bool tr, .bool false, .int .i64 n, .bool true]) ∧ W = w' := fun W => by
    have := readFloat_any s W hs hN
    rw [hr] at this
    exact this
  have HR := Lib.hid hR
  have h1 := hL.opt
  have bm : ((m : Int) == 0) = false := beq_eq_false_iff_ne.2 (by omega)
  have HF := ext_ifb
  clear hR hL hN hr hm0 hs
  cases ng
  all_goals
   go_enter Tryd.func50, Tryd.ntmps50
   go_wp2_with (first | (go_at_call 54; refine (HS.out _).mono ?_; rintro e w' ⟨rfl, rfl⟩) | (go_at_call 55; refine (HR.out _).mono ?_; rintro e w' ⟨rfl, rfl⟩) | (go_at_call 63; refine (bool2_any _ _).mono ?_; rintro e w' ⟨rfl, rfl⟩))
   go_ret3
   exact ⟨rfl, rfl⟩

set_option maxRecDepth 100000 in
set_option maxHeartbeats 1600000 in
theorem atof64_small (s : ByteArray) (w : World) (hs : s.size ≤ 140737488351232) (hN : ∀ c ∈ s.data.toList, c ∈ numChL) (hL : LaidF w) (m : Nat) (p : Int) (ng tr : Bool) (n : Nat)
    (hr : rf s.data.toList = ⟨m, p, ng, tr, n, true⟩) (hm0 : m ≠ 0) (hp1 : p < -345) :
    Calls Tryd.prog 50 #[.string s] w fun e w' => e = .returned (.tuple #[.float .f64 (sgnBits ng), .int .i64 n, .nilIface]) ∧ w = w' := by
  have HS := Lib.hid (fun W => special_num s W (by unfold maxLen; omega) (fun k h => hN _ (List.getElem_mem (l := s.data.toList) (by simpa using h))))
  have hR : ∀ W, Calls Tryd.prog 55 #[.string s] W fun e w' => e = .returned (.tuple #[.int .u64 m, .int .i64 p, .bool ng, .bool tr, .bool false, .int .i64 n, .bool true]) ∧ W = w' := fun W => by
    have := readFloat_any s W hs hN
    rw [hr] at this
    exact this
  have HR := Lib.hid hR
  have h1 := hL.opt
  have bm : ((m : Int) == 0) = false := beq_eq_false_iff_ne.2 (by omega)
  have HF := ext_ifb
  clear hR hL hN hr hm0 hs
  cases ng
  all_goals
   go_enter Tryd.func50, Tryd.ntmps50
   go_wp2_with (first | (go_at_call 54; refine (HS.out _).mono ?_; rintro e w' ⟨rfl, rfl⟩) | (go_at_call 55; refine (HR.out _).mono ?_; rintro e w' ⟨rfl, rfl⟩) | (go_at_call 63; refine (bool2_any _ _).mono ?_; rintro e w' ⟨rfl, rfl⟩))
   go_ret3
   exact ⟨rfl, rfl⟩

set_option maxRecDepth 100000 in
set_option maxHeartbeats 1600000 in
theorem atof64_zero (s : ByteArray) (w : World) (hs : s.size ≤ 140737488351232) (hN : ∀ c ∈ s.data.toList, c ∈ numChL) (hL : LaidF w) (p : Int) (ng tr : Bool) (n : Nat)
    (hr : rf s.data.toList = ⟨0, p, ng, tr, n, true⟩) :
    Calls Tryd.prog 50 #[.string s] w fun e w' => e = .returned (.tuple #[.float .f64 (sgnBits ng), .int .i64 n, .nilIface]) ∧ w = w' := by
  have HS := Lib.hid (fun W => special_num s W (by unfold maxLen; omega) (fun k h => hN _ (List.getElem_mem (l := s.data.toList) (by simpa using h))))
  have hR : ∀ W, Calls Tryd.prog 55 #[.string s] W fun e w' => e = .returned (.tuple #[.int .u64 (0 : Nat), .int .i64 p, .bool ng, .bool tr, .bool false, .int .i64 n, .bool true]) ∧ W = w' := fun W => by
    have := readFloat_any s W hs hN
    rw [hr] at this
    exact this
  have HR := Lib.hid hR
  have h1 := hL.opt
  have HF := ext_ifb
  clear hR hL hN hr hs
  cases ng
  all_goals
   go_enter Tryd.func50, Tryd.ntmps50
   go_wp2_with (first | (go_at_call 54; refine (HS.out _).mono ?_; rintro e w' ⟨rfl, rfl⟩) | (go_at_call 55; refine (HR.out _).mono ?_; rintro e w' ⟨rfl, rfl⟩) | (go_at_call 63; refine (bool2_any _ _).mono ?_; rintro e w' ⟨rfl, rfl⟩))
   go_ret3
   exact ⟨rfl, rfl⟩

end Go.Proofs.YtkedagbknflacaaDoor
