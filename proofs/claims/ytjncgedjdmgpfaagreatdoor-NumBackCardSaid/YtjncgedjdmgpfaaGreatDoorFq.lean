/- num.Digits at 1e20; chapter 11's known ones. -/
import Derived.Test.YtjncgedjdmgpfaaGreatDoorFo
import Derived.Test.YtjncgedjdmgpfaaGreatDoorFs

namespace Go.Proofs.YtjncgedjdmgpfaaGreatDoor
open Go.RowKit

theorem digits_1e20 (w : World) (hL : LaidG w) : Calls Tryz.prog 16 #[.float .f64 4906019910204099648] w fun e w' => e = .returned (.string ⟨(49 :: zerosL 20).toArray⟩) ∧ Below w.heap.size w w' :=
  digits_of_format 4906019910204099648 _ w (by kernel_rfl) (by kernel_rfl) (by kernel_rfl) (by
    have e : plainN (truncN 4906019910204099648) = 4906019910204099648 := by kernel_rfl
    rw [e]
    exact format_1e20 w hL)

set_option maxRecDepth 100000 in
set_option maxHeartbeats 1600000 in
theorem known11_true (w : World) (hL : LaidG w) : Calls Tryz.prog 11 #[] w fun e w' => e = .returned (.bool true) ∧ Below w.heap.size w w' := by
  have H1 := Lib.hid (prefix_k1 w hL.lt.le.lf)
  have H2 : Hid (∀ W, Below w.heap.size w W → Calls Tryz.prog 9 #[.string ⟨#[45, 55, 101]⟩] W fun e w' => e = .returned (.tuple #[.float .f64 13842939354630062080, .int .i64 2]) ∧ Below W.heap.size W w') := fun W hb => prefix_k2 W (hL.below hb).lt.le.lf
  have H3 : Hid (∀ W, Calls Tryz.prog 13 #[.string ⟨#[32, 49, 101, 51, 32]⟩] W fun e w' => e = .returned (.bool true) ∧ W = w') := fun W => by
    have h := looks_any ⟨#[32, 49, 101, 51, 32]⟩ W (by decide)
    have e : looksB (ByteArray.data ⟨#[32, 49, 101, 51, 32]⟩).toList = true := by decide
    rwa [e] at h
  have H4 : Hid (∀ W, Calls Tryz.prog 13 #[.string ⟨#[49, 120]⟩] W fun e w' => e = .returned (.bool false) ∧ W = w') := fun W => by
    have h := looks_any ⟨#[49, 120]⟩ W (by decide)
    have e : looksB (ByteArray.data ⟨#[49, 120]⟩).toList = false := by decide
    rwa [e] at h
  have H5 : Hid (∀ W, Below w.heap.size w W → Calls Tryz.prog 16 #[.float .f64 4906019910204099648] W fun e w' => e = .returned (.string ⟨#[49, 48, 48, 48, 48, 48, 48, 48, 48, 48, 48, 48, 48, 48, 48, 48, 48, 48, 48, 48, 48]⟩) ∧ Below W.heap.size W w') := fun W hb => digits_1e20 W (hL.below hb)
  have o1 : FloatKind.f64.format.order 4653212373585231872 4653212373585231872 = some .eq := by kernel_rfl
  have o2 : FloatKind.f64.format.order 13842939354630062080 13842939354630062080 = some .eq := by kernel_rfl
  clear hL
  go_enter Tryz.func11, Tryz.ntmps11
  go_wp2_with (first
    | (go_at_call 9; first | (with_reducible refine H1.out.mono ?_; rintro e w1 ⟨rfl, hb1⟩) | (with_reducible refine (H2.out _ hb1).mono ?_; rintro e w2 ⟨rfl, hb2⟩; have hb12 := hb1.trans (hb2.mono hb1.size)))
    | (go_at_call 13; first | (with_reducible refine (H3.out _).mono ?_; rintro e w' ⟨rfl, rfl⟩) | (with_reducible refine (H4.out _).mono ?_; rintro e w' ⟨rfl, rfl⟩))
    | (go_at_call 16; refine (H5.out _ hb12).mono ?_; rintro e w3 ⟨rfl, hb3⟩))
  go_ret
  exact ⟨rfl, hb12.trans (hb3.mono hb12.size)⟩

end Go.Proofs.YtjncgedjdmgpfaaGreatDoor
