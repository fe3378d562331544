/- FormatFloat at nought; NumKnown. -/
import Derived.Test.YtjncgedjdmgpfaaGreatDoorFq

namespace Go.Proofs.YtjncgedjdmgpfaaGreatDoor
open Go.RowKit

theorem appDrew {w wr : World} {e : TypeId} {bd m : Nat} {v : Value} {acc : List UInt8} (h : App (w.drewN m) e bd v wr acc) : App w e bd v wr acc := by
  obtain ⟨g, h1, h2, h3⟩ := h
  exact ⟨g, h1, h2, ⟨h3.os, h3.tape, h3.output, h3.size, h3.block⟩⟩

set_option maxRecDepth 100000 in
set_option maxHeartbeats 3200000 in
theorem ftoa_zero (w : World) (v : Value) (bd : Nat) (hv : RowAt w 5 v bd []) :
    Calls Tryz.prog 55 #[v, .float .f64 0, .int .u8 102, .int .i64 0] w fun e w' => ∃ v', e = .returned v' ∧ App w 5 bd v' w' [48] := by
  have a1 : bits .and .i64 0 2047 = 0 := by decide +kernel
  have a2 : bits .and .u64 0 4503599627370495 = 0 := by decide +kernel
  have HF := ext_fb 0
  have HFM : Hid (∀ m : Nat, Calls Tryz.prog 69 #[v, .bool false, .slice none 0 0, .int .i64 0, .int .i64 0, .int .i64 0, .int .u8 102, .bool false] (w.drewN m) fun e w' => ∃ v', e = .returned v' ∧ App (w.drewN m) 5 bd v' w' [48]) := fun m =>
    fmtEFG_any (w.drewN m) bd v _ [] false false (fun _ => 48) 0 0 0 102 (hv.kept rfl) (by decide) (.inl ⟨rfl, by decide⟩) (fun _ => by decide) (by decide) (by decide) (by decide) (by decide) (by decide) (by decide)
  clear hv
  go_enter Tryz.func55, Tryz.ntmps55
  go_upto_region 14 with fail
  go_quiet (fail)
  go_wp2_with (go_at_call 69; refine (HFM.out _).mono ?_; rintro e w5 ⟨v', rfl, hA⟩)
  go_ret
  exact ⟨v', rfl, appDrew hA⟩

theorem iformat_zero (w : World) : Calls Tryz.prog 43 #[.float .f64 0, .int .u8 102, .int .i64 0, .int .i64 64] w fun e w' => e = .returned (.string ⟨#[48]⟩) ∧ Below w.heap.size w w' :=
  format_of 0 102 0 [48] w (by decide) (by decide) (by decide) (fun W v bd hb _ hr => ftoa_zero W v bd hr)

theorem format_zero (w : World) : Calls Tryz.prog 33 #[.float .f64 0, .int .u8 102, .int .i64 0, .int .i64 64] w fun e w' => e = .returned (.string ⟨#[48]⟩) ∧ Below w.heap.size w w' := by
  have HF := Lib.hid (iformat_zero w)
  go_enter Tryz.func33, Tryz.ntmps33
  go_wp2_with (go_at_call 43; refine HF.out.mono ?_; rintro e w' ⟨rfl, hb⟩)
  go_ret
  exact ⟨rfl, hb⟩

set_option maxRecDepth 100000 in
theorem rest_70 (w : World) : Calls Tryz.prog 20 #[.float .f64 4619567317775286272, .float .f64 0] w fun e w' => e = .returned (.float .f64 9221120237041090561) ∧ w = w' := by
  have o1 : FloatKind.f64.format.order 0 0 = some .eq := by kernel_rfl
  have e1 : ∀ W : World, (callFunc 38 #[.int .u64 9221120237041090561]).run Tryz.prog W = .ok (.value (.float .f64 9221120237041090561)) W := fun W => by kernel_rfl
  have HM : Hid (∀ W, Calls Tryz.prog 37 #[.float .f64 4619567317775286272, .float .f64 0] W fun e w' => e = .returned (.float .f64 9221120237041090561) ∧ W = w') := fun W => by
    go_enter Tryz.func37, Tryz.ntmps37
    go_wp2_with (go_in)
    go_ret
    exact ⟨rfl, rfl⟩
  have hp : plainN 9221120237041090561 = 9221120237041090561 := by kernel_rfl
  clear e1 o1
  go_enter Tryz.func20, Tryz.ntmps20
  go_wp2_with (first | (go_at_call 37; refine (HM.out _).mono ?_; rintro e w' ⟨rfl, rfl⟩) | (go_at_call 26; refine (plain_any _ _).mono ?_; rintro e w' ⟨rfl, rfl⟩))
  go_ret
  exact ⟨rfl, rfl⟩

theorem whole_1e16 (w : World) : Calls Tryz.prog 18 #[.float .f64 4846369599423283200] w fun e w' => e = .returned (.bool false) ∧ w = w' := by
  have o1 : FloatKind.f64.format.order 4846369599423283200 4846369599423283200 = some .eq := by kernel_rfl
  have o2 : FloatKind.f64.format.order 4846369599423283200 14069741636278059008 = some .gt := by kernel_rfl
  have ht : truncN 4846369599423283200 = 4846369599423283200 := by kernel_rfl
  have HT := Lib.hid (fun W => trunc_any 4846369599423283200 (by rw [o1]; simp) W)
  rw [ht] at HT
  go_enter Tryz.func18, Tryz.ntmps18
  go_wp2_with (go_at_call 34; refine (HT.out _).mono ?_; rintro e w' ⟨rfl, rfl⟩)
  go_ret
  exact ⟨rfl, rfl⟩

theorem whole_m3 (w : World) : Calls Tryz.prog 18 #[.float .f64 13837309855095848960] w fun e w' => e = .returned (.bool true) ∧ w = w' := by
  have o1 : FloatKind.f64.format.order 13837309855095848960 13837309855095848960 = some .eq := by kernel_rfl
  have o2 : FloatKind.f64.format.order 13837309855095848960 14069741636278059008 = some .gt := by kernel_rfl
  have o3 : FloatKind.f64.format.order 13837309855095848960 4846369599423283200 = some .lt := by kernel_rfl
  have ht : truncN 13837309855095848960 = 13837309855095848960 := by kernel_rfl
  have HT := Lib.hid (fun W => trunc_any 13837309855095848960 (by rw [o1]; simp) W)
  rw [ht] at HT
  go_enter Tryz.func18, Tryz.ntmps18
  go_wp2_with (go_at_call 34; refine (HT.out _).mono ?_; rintro e w' ⟨rfl, rfl⟩)
  go_ret
  exact ⟨rfl, rfl⟩

theorem digits_mhalf (w : World) : Calls Tryz.prog 16 #[.float .f64 13826050856027422720] w fun e w' => e = .returned (.string ⟨#[48]⟩) ∧ Below w.heap.size w w' :=
  digits_of_format 13826050856027422720 _ w (by kernel_rfl) (by kernel_rfl) (by kernel_rfl) (by
    have e : plainN (truncN 13826050856027422720) = 0 := by kernel_rfl
    rw [e]
    exact format_zero w)

set_option maxRecDepth 100000 in
theorem inf_m1 (w : World) : Calls Tryz.prog 21 #[.int .i64 (-1)] w fun e w' => e = .returned (.float .f64 18442240474082181120) ∧ w = w' := by
  have e1 : ∀ W : World, (callFunc 38 #[.int .u64 18442240474082181120]).run Tryz.prog W = .ok (.value (.float .f64 18442240474082181120)) W := fun W => by kernel_rfl
  go_enter Tryz.func21, Tryz.ntmps21
  go_wp2_with (fail)
  go_ret
  exact ⟨rfl, rfl⟩

set_option maxRecDepth 100000 in
theorem nan_any (w : World) : Calls Tryz.prog 22 #[] w fun e w' => e = .returned (.float .f64 9221120237041090561) ∧ w = w' := by
  have e1 : ∀ W : World, (callFunc 38 #[.int .u64 9221120237041090561]).run Tryz.prog W = .ok (.value (.float .f64 9221120237041090561)) W := fun W => by kernel_rfl
  go_enter Tryz.func22, Tryz.ntmps22
  go_wp2_with (fail)
  go_ret
  exact ⟨rfl, rfl⟩

set_option maxRecDepth 100000 in
set_option maxHeartbeats 1600000 in
theorem numKnown_true (w : World) (hL : LaidG w) : Calls Tryz.prog 7 #[] w fun e w' => e = .returned (.bool true) ∧ Below w.heap.size w w' := by
  have P1 : Hid (∀ W, Calls Tryz.prog 9 #[.string ⟨#[46, 101, 49]⟩] W fun e w' => e = .returned (.tuple #[.float .f64 0, .int .i64 0]) ∧ W = w') := fun W => prefix_none _ W (by decide) (by decide)
  have P2 : Hid (∀ W, Calls Tryz.prog 9 #[.string ⟨#[43]⟩] W fun e w' => e = .returned (.tuple #[.float .f64 0, .int .i64 0]) ∧ W = w') := fun W => prefix_none _ W (by decide) (by decide)
  have HR : Hid (∀ W, Calls Tryz.prog 20 #[.float .f64 4619567317775286272, .float .f64 0] W fun e w' => e = .returned (.float .f64 9221120237041090561) ∧ W = w') := fun W => rest_70 W
  have HK := Lib.hid (known11_true w hL)
  have L1 : Hid (∀ W, Calls Tryz.prog 13 #[.string ⟨#[]⟩] W fun e w' => e = .returned (.bool false) ∧ W = w') := fun W => by
    have h := looks_any ⟨#[]⟩ W (by decide)
    have e : looksB (ByteArray.data ⟨#[]⟩).toList = false := by decide
    rwa [e] at h
  have L2 : Hid (∀ W, Calls Tryz.prog 13 #[.string ⟨#[48, 120, 49]⟩] W fun e w' => e = .returned (.bool false) ∧ W = w') := fun W => by
    have h := looks_any ⟨#[48, 120, 49]⟩ W (by decide)
    have e : looksB (ByteArray.data ⟨#[48, 120, 49]⟩).toList = false := by decide
    rwa [e] at h
  have D1 : Hid (∀ W, Calls Tryz.prog 16 #[.float .f64 13826050856027422720] W fun e w' => e = .returned (.string ⟨#[48]⟩) ∧ Below W.heap.size W w') := fun W => digits_mhalf W
  have W1 : Hid (∀ W, Calls Tryz.prog 18 #[.float .f64 4846369599423283200] W fun e w' => e = .returned (.bool false) ∧ W = w') := fun W => whole_1e16 W
  have W2 : Hid (∀ W, Calls Tryz.prog 18 #[.float .f64 13837309855095848960] W fun e w' => e = .returned (.bool true) ∧ W = w') := fun W => whole_m3 W
  have I1 : Hid (∀ W, Calls Tryz.prog 21 #[.int .i64 (-1)] W fun e w' => e = .returned (.float .f64 18442240474082181120) ∧ W = w') := fun W => inf_m1 W
  have N1 : Hid (∀ W, Calls Tryz.prog 22 #[] W fun e w' => e = .returned (.float .f64 9221120237041090561) ∧ W = w') := fun W => nan_any W
  have D2 : Hid (∀ W, Calls Tryz.prog 16 #[.float .f64 18442240474082181120] W fun e w' => e = .returned (.string ⟨#[45, 105, 110, 102]⟩) ∧ W = w') := fun W => digits_infM _ W (by kernel_rfl) (by kernel_rfl) (by kernel_rfl)
  have D3 : Hid (∀ W, Calls Tryz.prog 16 #[.float .f64 9221120237041090561] W fun e w' => e = .returned (.string ⟨#[110, 97, 110]⟩) ∧ W = w') := fun W => digits_nan _ W (by kernel_rfl)
  have o1 : FloatKind.f64.format.order 0 0 = some .eq := by kernel_rfl
  have o2 : FloatKind.f64.format.order 9221120237041090561 9221120237041090561 = none := by kernel_rfl
  clear hL
  go_enter Tryz.func7, Tryz.ntmps7
  go_wp2_with (first
    | (go_at_call 9; first | (with_reducible refine (P1.out _).mono ?_; rintro e w' ⟨rfl, rfl⟩) | (with_reducible refine (P2.out _).mono ?_; rintro e w' ⟨rfl, rfl⟩))
    | (go_at_call 20; refine (HR.out _).mono ?_; rintro e w' ⟨rfl, rfl⟩)
    | (go_at_call 11; refine HK.out.mono ?_; rintro e w1 ⟨rfl, hb1⟩)
    | (go_at_call 13; first | (with_reducible refine (L1.out _).mono ?_; rintro e w' ⟨rfl, rfl⟩) | (with_reducible refine (L2.out _).mono ?_; rintro e w' ⟨rfl, rfl⟩))
    | (go_at_call 18; first | (with_reducible refine (W1.out _).mono ?_; rintro e w' ⟨rfl, rfl⟩) | (with_reducible refine (W2.out _).mono ?_; rintro e w' ⟨rfl, rfl⟩))
    | (go_at_call 21; refine (I1.out _).mono ?_; rintro e w' ⟨rfl, rfl⟩)
    | (go_at_call 22; refine (N1.out _).mono ?_; rintro e w' ⟨rfl, rfl⟩)
    | (go_at_call 16; first | (with_reducible refine (D1.out _).mono ?_; rintro e w2 ⟨rfl, hb2⟩; have hb12 := hb1.trans (hb2.mono hb1.size)) | (with_reducible refine (D2.out _).mono ?_; rintro e w' ⟨rfl, rfl⟩) | (with_reducible refine (D3.out _).mono ?_; rintro e w' ⟨rfl, rfl⟩)))
  go_ret
  exact ⟨rfl, hb12⟩

end Go.Proofs.YtjncgedjdmgpfaaGreatDoor
