/- NumDigits: true. -/
import Derived.Test.YtjncgedjdmgpfaaGreatDoorVg
import Derived.Test.YtjncgedjdmgpfaaGreatDoorHe
import Derived.Test.YtjncgedjdmgpfaaGreatDoorFq

namespace Go.Proofs.YtjncgedjdmgpfaaGreatDoor
open Go.RowKit

theorem calls_below {f : Nat} {args : Array Value} {w : World} {v : Value} (h : Calls Tryz.prog f args w fun e w' => e = .returned v ∧ w = w') : Calls Tryz.prog f args w fun e w' => e = .returned v ∧ Below w.heap.size w w' :=
  h.mono fun _ _ ⟨h1, h2⟩ => ⟨h1, h2 ▸ Below.refl _ _⟩

theorem digits_both (x : Nat) (hx : x < 18446744073709551616) : ∃ T : ByteArray, ∀ W, LaidG W →
    Calls Tryz.prog 16 #[.float .f64 x] W (fun e w' => e = .returned (.string T) ∧ Below W.heap.size W w') ∧
    Calls Tryz.prog 17 #[.float .f64 x] W (fun e w' => e = .returned (.string T) ∧ Below W.heap.size W w') := by
  rcases class3 x hx with h | rfl | rfl | h
  · obtain ⟨ng, ds, _, _, h1, h2⟩ := digits_fin x hx h
    exact ⟨_, fun W hL => ⟨h1 W hL, rdigits_fin x _ W h (h2 W hL)⟩⟩
  · exact ⟨_, fun W _ => ⟨calls_below (digits_infP _ W (by kernel_rfl) (by kernel_rfl)), calls_below (rdigits_inf W)⟩⟩
  · exact ⟨_, fun W _ => ⟨calls_below (digits_infM _ W (by kernel_rfl) (by kernel_rfl) (by kernel_rfl)), calls_below (rdigits_minf W)⟩⟩
  · have hn := nan_order hx h x
    exact ⟨_, fun W _ => ⟨calls_below (digits_nan x W (by unfold nanB; rw [hn]; rfl)), calls_below (rdigits_nan x hn W)⟩⟩

theorem whole_both (x : Nat) (hx : x < 18446744073709551616) : ∃ b : Bool, ∀ W,
    Calls Tryz.prog 18 #[.float .f64 x] W (fun e w' => e = .returned (.bool b) ∧ Below W.heap.size W w') ∧
    Calls Tryz.prog 19 #[.float .f64 x] W (fun e w' => e = .returned (.bool b) ∧ Below W.heap.size W w') := by
  rcases class3 x hx with h | rfl | rfl | h
  · exact ⟨wholeB x, fun W => ⟨calls_below (whole_fin x h W), calls_below (rwhole_fin x hx h W)⟩⟩
  · exact ⟨false, fun W => ⟨calls_below (whole_inf W), calls_below (rwhole_non _ W rfinite_inf)⟩⟩
  · exact ⟨false, fun W => ⟨calls_below (whole_minf W), calls_below (rwhole_non _ W rfinite_minf)⟩⟩
  · exact ⟨false, fun W => ⟨whole_nan x hx h W, calls_below (rwhole_non x W (fun W' => rfinite_nan x (nan_order hx h x) W'))⟩⟩

set_option maxRecDepth 100000 in
set_option maxHeartbeats 1600000 in
theorem numDigits_true (x : Nat) (w : World) (hx : x < 18446744073709551616) (hL : LaidG w) : Calls Tryz.prog 6 #[.float .f64 x] w fun e w' => e = .returned (.bool true) ∧ Below w.heap.size w w' := by
  obtain ⟨T, hT⟩ := digits_both x hx
  obtain ⟨b, hb⟩ := whole_both x hx
  have HK := Lib.hid (known11_true w hL)
  have HD : Hid (∀ W, Below w.heap.size w W → Calls Tryz.prog 16 #[.float .f64 x] W (fun e w' => e = .returned (.string T) ∧ Below W.heap.size W w') ∧ Calls Tryz.prog 17 #[.float .f64 x] W (fun e w' => e = .returned (.string T) ∧ Below W.heap.size W w')) := fun W hW => hT W (hL.below hW)
  have HW := Lib.hid hb
  clear hL hT hb hx
  go_enter Tryz.func6, Tryz.ntmps6
  go_wp2_with (first
    | (go_at_call 11; refine HK.out.mono ?_; rintro e w1 ⟨rfl, hb1⟩)
    | (go_at_call 16; refine (HD.out _ hb1).1.mono ?_; rintro e w2 ⟨rfl, hb2⟩; have hb12 := hb1.trans (hb2.mono hb1.size))
    | (go_at_call 17; refine (HD.out _ hb12).2.mono ?_; rintro e w3 ⟨rfl, hb3⟩; have hb13 := hb12.trans (hb3.mono hb12.size))
    | (go_at_call 18; refine (HW.out _).1.mono ?_; rintro e w4 ⟨rfl, hb4⟩; have hb14 := hb13.trans (hb4.mono hb13.size))
    | (go_at_call 19; refine (HW.out _).2.mono ?_; rintro e w5 ⟨rfl, hb5⟩; have hb15 := hb14.trans (hb5.mono hb14.size)))
  go_ret
  exact ⟨ret_bool (by simp), hb15⟩

end Go.Proofs.YtjncgedjdmgpfaaGreatDoor
