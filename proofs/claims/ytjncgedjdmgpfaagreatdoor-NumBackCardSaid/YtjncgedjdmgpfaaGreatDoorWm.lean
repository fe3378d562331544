/- atof64, ParseFloat where the exact road serves. -/
import Derived.Test.YtjncgedjdmgpfaaGreatDoorWi
import Derived.Test.YtjncgedjdmgpfaaGreatDoorWl

namespace Go.Proofs.YtjncgedjdmgpfaaGreatDoor
open Go.RowKit

theorem bool2_any (b : Bool) (w : World) : Calls Tryz.prog 93 #[.bool b] w fun e w' => e = .returned (.int .u64 (if b then 1 else 0)) ∧ w = w' := by
  cases b <;> (go_enter Tryz.func93, Tryz.ntmps93; go_wp2; go_ret; exact ⟨rfl, rfl⟩)

set_option maxRecDepth 100000 in
set_option maxHeartbeats 1600000 in
theorem atof64_exact (s : ByteArray) (w : World) (hs : s.size ≤ 140737488351232) (hN : ∀ c ∈ s.data.toList, c ∈ numChL) (hL : LaidF w) (m : Nat) (p : Int) (n x : Nat)
    (hr : rf s.data.toList = ⟨m, p, false, false, n, true⟩) (hm0 : m ≠ 0) (hp1 : -345 ≤ p) (hp2 : p ≤ 310)
    (hE : ∀ W, LaidF W → Calls Tryz.prog 95 #[.int .u64 m, .int .i64 p, .bool false] W fun e w' => e = .returned (.tuple #[.float .f64 x, .bool true]) ∧ W = w') :
    Calls Tryz.prog 61 #[.string s] w fun e w' => e = .returned (.tuple #[.float .f64 x, .int .i64 n, .nilIface]) ∧ w = w' := by
  have HS := Lib.hid (fun W => special_num s W (by unfold maxLen; omega) (fun k h => hN _ (List.getElem_mem (l := s.data.toList) (by simpa using h))))
  have hR : ∀ W, Calls Tryz.prog 85 #[.string s] W fun e w' => e = .returned (.tuple #[.int .u64 m, .int .i64 p, .bool false, .bool false, .bool false, .int .i64 n, .bool true]) ∧ W = w' := fun W => by
    have := readFloat_any s W hs hN
    rw [hr] at this
    exact this
  have HR := Lib.hid hR
  have HE := Lib.hid (hE w hL)
  have h1 := hL.opt
  have bm : ((m : Int) == 0) = false := beq_eq_false_iff_ne.2 (by omega)
  clear hR hE hL hN hr hm0 hs
  go_enter Tryz.func61, Tryz.ntmps61
  go_wp2_with (first | (go_at_call 84; refine (HS.out _).mono ?_; rintro e w' ⟨rfl, rfl⟩) | (go_at_call 85; refine (HR.out _).mono ?_; rintro e w' ⟨rfl, rfl⟩) | (go_at_call 93; refine (bool2_any _ _).mono ?_; rintro e w' ⟨rfl, rfl⟩) | (go_at_call 95; refine HE.out.mono ?_; rintro e w' ⟨rfl, rfl⟩))
  go_ret3
  exact ⟨rfl, rfl⟩

theorem prefix_of (s : ByteArray) (w : World) (R : Ending → World → Prop) (hA : Calls Tryz.prog 61 #[.string s] w fun e w' => ∃ x n v, e = .returned (.tuple #[.float .f64 x, .int .i64 n, v]) ∧ R e w') :
    Calls Tryz.prog 49 #[.string s, .int .i64 64] w R := by
  have HA := Lib.hid hA; clear hA
  go_enter Tryz.func49, Tryz.ntmps49
  go_wp2_with (go_at_call 61; refine HA.out.mono ?_; rintro e w' ⟨x, n, v, rfl, hR⟩)
  go_ret3
  exact hR

theorem iparse_of (s : ByteArray) (w w1 : World) (x : Nat) (v : Value) (hA : Calls Tryz.prog 49 #[.string s, .int .i64 64] w fun e w' => e = .returned (.tuple #[.float .f64 x, .int .i64 s.size, v]) ∧ w1 = w') :
    Calls Tryz.prog 40 #[.string s, .int .i64 64] w fun e w' => e = .returned (.tuple #[.float .f64 x, v]) ∧ w1 = w' := by
  have HA := Lib.hid hA; clear hA
  go_enter Tryz.func40, Tryz.ntmps40
  go_wp2_with (go_at_call 49; refine HA.out.mono ?_; rintro e w' ⟨rfl, rfl⟩)
  go_ret2
  exact ⟨rfl, rfl⟩

set_option maxHeartbeats 1600000 in
theorem parse_exact (s : ByteArray) (w : World) (x : Nat) (hA : ∀ W, LaidF W → Calls Tryz.prog 61 #[.string s] W fun e w' => e = .returned (.tuple #[.float .f64 x, .int .i64 s.size, .nilIface]) ∧ W = w') (hL : LaidF w) :
    Calls Tryz.prog 25 #[.string s, .int .i64 64] w fun e w' => e = .returned (.tuple #[.float .f64 x, .nilIface]) ∧ w = w' := by
  have h1 := iparse_of s w w x .nilIface (prefix_of s w _ ((hA w hL).mono fun e w' h => ⟨x, s.size, .nilIface, h.1, h⟩))
  have HA := Lib.hid h1
  clear hA hL h1
  go_enter Tryz.func25, Tryz.ntmps25
  go_wp2_with (go_at_call 40; refine HA.out.mono ?_; rintro e w' ⟨rfl, rfl⟩)
  go_ret2
  exact ⟨rfl, rfl⟩

theorem rf_15e3 : rf [49, 46, 53, 101, 51] = ⟨15, 2, false, false, 5, true⟩ := by rfl

theorem parse_15e3 (w : World) (s : ByteArray) (hs : s.data.toList = [49, 46, 53, 101, 51]) (hL : LaidF w) :
    Calls Tryz.prog 25 #[.string s, .int .i64 64] w fun e w' => e = .returned (.tuple #[.float .f64 4654311885213007872, .nilIface]) ∧ w = w' := by
  have hsz : s.size = 5 := by
    have : s.data.toList.length = s.size := rfl
    rw [hs] at this; exact this.symm
  refine parse_exact s w _ (fun W hW => ?_) hL
  rw [hsz]
  exact atof64_exact s W (by omega) (by rw [hs]; decide) hW 15 2 5 _ (by rw [hs]; exact rf_15e3) (by omega) (by omega) (by omega) (fun W h => exact_15_2 W h)

end Go.Proofs.YtjncgedjdmgpfaaGreatDoor
