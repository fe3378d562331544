/- NumDigits: true. -/
import Derived.Test.YtdencljnbilchaaGreatDoorVq
import Derived.Test.YtdencljnbilchaaGreatDoorHe
import Derived.Test.YtdencljnbilchaaGreatDoorFs

namespace Go.Proofs.YtdencljnbilchaaGreatDoor
open Go.RowKit

theorem calls_below {f : Nat} {args : Array Value} {w : World} {v : Value} (h : Calls Tryz.prog f args w fun e w' => e = .returned v ∧ w = w') : Calls Tryz.prog f args w fun e w' => e = .returned v ∧ Below w.heap.size w w' :=
  h.mono fun _ _ ⟨h1, h2⟩ => ⟨h1, h2 ▸ Below.refl _ _⟩

theorem digits_both (x : Nat) (hx : x < 18446744073709551616) : ∃ T : ByteArray, ∀ W, LaidG W →
    Calls Tryz.prog 16 #[.float .f64 x] W (fun e w' => e = .returned (.string T) ∧ Below W.heap.size W w') ∧
    Calls Tryz.prog 38 #[.float .f64 x] W (fun e w' => e = .returned (.string T) ∧ Below W.heap.size W w') := by
  rcases class3 x hx with h | rfl | rfl | h
  · obtain ⟨ng, ds, _, _, h1, h2⟩ := digits_fin x hx h
    exact ⟨_, fun W hL => ⟨h1 W hL, rdigits_fin x _ W h (h2 W hL)⟩⟩
  · exact ⟨_, fun W _ => ⟨calls_below (digits_infP _ W (by kernel_rfl) (by kernel_rfl)), calls_below (rdigits_inf W)⟩⟩
  · exact ⟨_, fun W _ => ⟨calls_below (digits_infM _ W (by kernel_rfl) (by kernel_rfl) (by kernel_rfl)), calls_below (rdigits_minf W)⟩⟩
  · have hn := nan_order hx h x
    exact ⟨_, fun W _ => ⟨calls_below (digits_nan x W (by unfold nanB; rw [hn]; rfl)), calls_below (rdigits_nan x hn W)⟩⟩

theorem whole_both (x : Nat) (hx : x < 18446744073709551616) : ∃ b : Bool, ∀ W,
    Calls Tryz.prog 34 #[.float .f64 x] W (fun e w' => e = .returned (.bool b) ∧ Below W.heap.size W w') ∧
    Calls Tryz.prog 36 #[.float .f64 x] W (fun e w' => e = .returned (.bool b) ∧ Below W.heap.size W w') := by
  rcases class3 x hx with h | rfl | rfl | h
  · exact ⟨wholeB x, fun W => ⟨calls_below (whole_fin x h W), calls_below (rwhole_fin x hx h W)⟩⟩
  · exact ⟨false, fun W => ⟨calls_below (whole_inf W), calls_below (rwhole_non _ W rfinite_inf)⟩⟩
  · exact ⟨false, fun W => ⟨calls_below (whole_minf W), calls_below (rwhole_non _ W rfinite_minf)⟩⟩
  · exact ⟨false, fun W => ⟨whole_nan x hx h W, calls_below (rwhole_non x W (fun W' => rfinite_nan x (nan_order hx h x) W'))⟩⟩

end Go.Proofs.YtdencljnbilchaaGreatDoor
