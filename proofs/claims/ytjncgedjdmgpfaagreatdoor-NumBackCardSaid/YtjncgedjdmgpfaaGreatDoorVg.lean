/- The walks of tailraceref11's finite, Whole, Digits; num.Whole. num.Whole at what is no number. -/
import Derived.Test.YtjncgedjdmgpfaaGreatDoorVf
import Derived.Test.YtjncgedjdmgpfaaGreatDoorFs
import Derived.Test.YtjncgedjdmgpfaaGreatDoorXg

namespace Go.Proofs.YtjncgedjdmgpfaaGreatDoor
open Go.RowKit

theorem rfinite_fin (x : Nat) (hf : finN x) (w : World) : Calls Tryz.prog 35 #[.float .f64 x] w fun e w' => e = .returned (.bool true) ∧ w = w' := by
  have o1 : FloatKind.f64.format.order x x = some .eq := by rw [order_num (read_num hf) (read_num hf), cmp_eq]
  rcases order_maxF hf with o2 | o2 <;> rcases order_minF hf with o3 | o3 <;>
  · clear hf
    go_enter Tryz.func35, Tryz.ntmps35
    go_wp2
    go_ret
    exact ⟨rfl, rfl⟩

theorem rfinite_inf (w : World) : Calls Tryz.prog 35 #[.float .f64 9218868437227405312] w fun e w' => e = .returned (.bool false) ∧ w = w' := by
  have o1 : FloatKind.f64.format.order 9218868437227405312 9218868437227405312 = some .eq := by kernel_rfl
  have o2 : FloatKind.f64.format.order 9218868437227405312 9218868437227405311 = some .gt := by kernel_rfl
  go_enter Tryz.func35, Tryz.ntmps35
  go_wp2
  go_ret
  exact ⟨rfl, rfl⟩

theorem rfinite_minf (w : World) : Calls Tryz.prog 35 #[.float .f64 18442240474082181120] w fun e w' => e = .returned (.bool false) ∧ w = w' := by
  have o1 : FloatKind.f64.format.order 18442240474082181120 18442240474082181120 = some .eq := by kernel_rfl
  have o2 : FloatKind.f64.format.order 18442240474082181120 9218868437227405311 = some .lt := by kernel_rfl
  have o3 : FloatKind.f64.format.order 18442240474082181120 18442240474082181119 = some .lt := by kernel_rfl
  go_enter Tryz.func35, Tryz.ntmps35
  go_wp2
  go_ret
  exact ⟨rfl, rfl⟩

theorem rfinite_nan (x : Nat) (hn : FloatKind.f64.format.order x x = none) (w : World) : Calls Tryz.prog 35 #[.float .f64 x] w fun e w' => e = .returned (.bool false) ∧ w = w' := by
  go_enter Tryz.func35, Tryz.ntmps35
  go_wp2
  go_ret
  exact ⟨rfl, rfl⟩

theorem rdigits_fin (x : Nat) (T : ByteArray) (w : World) (hf : finN x)
    (hF : Calls Tryz.prog 33 #[.float .f64 (plainN (truncN x)), .int .u8 102, .int .i64 0, .int .i64 64] w fun e w' => e = .returned (.string T) ∧ Below w.heap.size w w') :
    Calls Tryz.prog 17 #[.float .f64 x] w fun e w' => e = .returned (.string T) ∧ Below w.heap.size w w' := by
  have o1 : FloatKind.f64.format.order x x = some .eq := by rw [order_num (read_num hf) (read_num hf), cmp_eq]
  have HF := Lib.hid hF
  have HT := Lib.hid (fun W => trunc_any x (by rw [o1]; simp) W)
  have HN := Lib.hid (fun W => rfinite_fin x hf W)
  clear hF hf
  go_enter Tryz.func17, Tryz.ntmps17
  go_wp2_with (first | (go_at_call 35; refine (HN.out _).mono ?_; rintro e w' ⟨rfl, rfl⟩) | (go_at_call 34; refine (HT.out _).mono ?_; rintro e w' ⟨rfl, rfl⟩) | (go_at_call 29; refine (clean_any _ _).mono ?_; rintro e w' ⟨rfl, rfl⟩) | (go_at_call 33; refine HF.out.mono ?_; rintro e w' ⟨rfl, hb⟩))
  go_ret
  exact ⟨rfl, hb⟩

theorem rdigits_nan (x : Nat) (hn : FloatKind.f64.format.order x x = none) (w : World) : Calls Tryz.prog 17 #[.float .f64 x] w fun e w' => e = .returned (.string ⟨#[110, 97, 110]⟩) ∧ w = w' := by
  go_enter Tryz.func17, Tryz.ntmps17
  go_wp2
  go_ret
  exact ⟨rfl, rfl⟩

theorem rdigits_inf (w : World) : Calls Tryz.prog 17 #[.float .f64 9218868437227405312] w fun e w' => e = .returned (.string ⟨#[105, 110, 102]⟩) ∧ w = w' := by
  have o1 : FloatKind.f64.format.order 9218868437227405312 9218868437227405312 = some .eq := by kernel_rfl
  have o2 : FloatKind.f64.format.order 9218868437227405312 0 = some .gt := by kernel_rfl
  go_enter Tryz.func17, Tryz.ntmps17
  go_wp2_with (go_at_call 35; refine (rfinite_inf _).mono ?_; rintro e w' ⟨rfl, rfl⟩)
  go_ret
  exact ⟨rfl, rfl⟩

theorem rdigits_minf (w : World) : Calls Tryz.prog 17 #[.float .f64 18442240474082181120] w fun e w' => e = .returned (.string ⟨#[45, 105, 110, 102]⟩) ∧ w = w' := by
  have o1 : FloatKind.f64.format.order 18442240474082181120 18442240474082181120 = some .eq := by kernel_rfl
  have o2 : FloatKind.f64.format.order 18442240474082181120 0 = some .lt := by kernel_rfl
  go_enter Tryz.func17, Tryz.ntmps17
  go_wp2_with (go_at_call 35; refine (rfinite_minf _).mono ?_; rintro e w' ⟨rfl, rfl⟩)
  go_ret
  exact ⟨rfl, rfl⟩

/-- Is a finite number whole, and not too great? -/
def wholeB (x : Nat) : Bool := (FloatKind.f64.format.order x (truncN x) == some .eq) && ltB x

theorem whole_fin (x : Nat) (hf : finN x) (w : World) : Calls Tryz.prog 18 #[.float .f64 x] w fun e w' => e = .returned (.bool (wholeB x)) ∧ w = w' := by
  have o1 : FloatKind.f64.format.order x x = some .eq := by rw [order_num (read_num hf) (read_num hf), cmp_eq]
  have HT := Lib.hid (fun W => trunc_any x (by rw [o1]; simp) W)
  have HO := Lib.hid (whole_orders hf)
  have HW : Hid (wholeB x = ((FloatKind.f64.format.order x (truncN x) == some .eq) && ltB x)) := rfl
  clear hf o1
  cases ht : (FloatKind.f64.format.order x (truncN x) == some .eq) with
  | false =>
    have HW2 : Hid (wholeB x = false) := by unfold Hid; rw [HW.out, ht]; rfl
    go_enter Tryz.func18, Tryz.ntmps18
    go_wp2_with (go_at_call 34; refine (HT.out _).mono ?_; rintro e w' ⟨rfl, rfl⟩)
    go_ret
    exact ⟨ret_bool HW2.out.symm, rfl⟩
  | true =>
    rcases HO.out with ⟨hl, ha, hb⟩ | ⟨hl, ha | hb⟩
    · have HW2 : Hid (wholeB x = true) := by unfold Hid; rw [HW.out, ht, hl]; rfl
      clear hl
      go_enter Tryz.func18, Tryz.ntmps18
      go_wp2_with (go_at_call 34; refine (HT.out _).mono ?_; rintro e w' ⟨rfl, rfl⟩)
      go_ret
      exact ⟨ret_bool HW2.out.symm, rfl⟩
    · have HW2 : Hid (wholeB x = false) := by unfold Hid; rw [HW.out, ht, hl]; rfl
      clear hl
      go_enter Tryz.func18, Tryz.ntmps18
      go_wp2_with (go_at_call 34; refine (HT.out _).mono ?_; rintro e w' ⟨rfl, rfl⟩)
      go_ret
      exact ⟨ret_bool HW2.out.symm, rfl⟩
    · have HW2 : Hid (wholeB x = false) := by unfold Hid; rw [HW.out, ht, hl]; rfl
      clear hl
      cases ha : (FloatKind.f64.format.order x 14069741636278059008 == some .gt) with
      | false =>
        go_enter Tryz.func18, Tryz.ntmps18
        go_wp2_with (go_at_call 34; refine (HT.out _).mono ?_; rintro e w' ⟨rfl, rfl⟩)
        go_ret
        exact ⟨ret_bool HW2.out.symm, rfl⟩
      | true =>
        go_enter Tryz.func18, Tryz.ntmps18
        go_wp2_with (go_at_call 34; refine (HT.out _).mono ?_; rintro e w' ⟨rfl, rfl⟩)
        go_ret
        exact ⟨ret_bool HW2.out.symm, rfl⟩

theorem rwhole_fin (x : Nat) (hx : x < 18446744073709551616) (hf : finN x) (w : World) : Calls Tryz.prog 19 #[.float .f64 x] w fun e w' => e = .returned (.bool (wholeB x)) ∧ w = w' := by
  have o1 : FloatKind.f64.format.order x x = some .eq := by rw [order_num (read_num hf) (read_num hf), cmp_eq]
  have HT := Lib.hid (fun W => trunc_any x (by rw [o1]; simp) W)
  have HN := Lib.hid (fun W => rfinite_fin x hf W)
  have HA := Lib.hid (fun W => abs_any x hx W)
  have HW : Hid (wholeB x = ((FloatKind.f64.format.order x (truncN x) == some .eq) && (FloatKind.f64.format.order (absN x) 4846369599423283200 == some .lt))) := rfl
  clear hf o1 hx
  cases ht : (FloatKind.f64.format.order x (truncN x) == some .eq) with
  | false =>
    have HW2 : Hid (wholeB x = false) := by unfold Hid; rw [HW.out, ht]; rfl
    go_enter Tryz.func19, Tryz.ntmps19
    go_wp2_with (first | (go_at_call 35; refine (HN.out _).mono ?_; rintro e w' ⟨rfl, rfl⟩) | (go_at_call 34; refine (HT.out _).mono ?_; rintro e w' ⟨rfl, rfl⟩) | (go_at_call 36; refine (HA.out _).mono ?_; rintro e w' ⟨rfl, rfl⟩))
    go_ret
    exact ⟨ret_bool HW2.out.symm, rfl⟩
  | true =>
    cases hl : (FloatKind.f64.format.order (absN x) 4846369599423283200 == some .lt) with
    | false =>
      have HW2 : Hid (wholeB x = false) := by unfold Hid; rw [HW.out, ht, hl]; rfl
      go_enter Tryz.func19, Tryz.ntmps19
      go_wp2_with (first | (go_at_call 35; refine (HN.out _).mono ?_; rintro e w' ⟨rfl, rfl⟩) | (go_at_call 34; refine (HT.out _).mono ?_; rintro e w' ⟨rfl, rfl⟩) | (go_at_call 36; refine (HA.out _).mono ?_; rintro e w' ⟨rfl, rfl⟩))
      go_ret
      exact ⟨ret_bool HW2.out.symm, rfl⟩
    | true =>
      have HW2 : Hid (wholeB x = true) := by unfold Hid; rw [HW.out, ht, hl]; rfl
      go_enter Tryz.func19, Tryz.ntmps19
      go_wp2_with (first | (go_at_call 35; refine (HN.out _).mono ?_; rintro e w' ⟨rfl, rfl⟩) | (go_at_call 34; refine (HT.out _).mono ?_; rintro e w' ⟨rfl, rfl⟩) | (go_at_call 36; refine (HA.out _).mono ?_; rintro e w' ⟨rfl, rfl⟩))
      go_ret
      exact ⟨ret_bool HW2.out.symm, rfl⟩

theorem whole_inf (w : World) : Calls Tryz.prog 18 #[.float .f64 9218868437227405312] w fun e w' => e = .returned (.bool false) ∧ w = w' := by
  have o1 : FloatKind.f64.format.order 9218868437227405312 9218868437227405312 = some .eq := by kernel_rfl
  have o2 : FloatKind.f64.format.order 9218868437227405312 14069741636278059008 = some .gt := by kernel_rfl
  have o3 : FloatKind.f64.format.order 9218868437227405312 4846369599423283200 = some .gt := by kernel_rfl
  have ht : truncN 9218868437227405312 = 9218868437227405312 := by kernel_rfl
  have HT := Lib.hid (fun W => trunc_any 9218868437227405312 (by rw [o1]; simp) W)
  rw [ht] at HT
  go_enter Tryz.func18, Tryz.ntmps18
  go_wp2_with (go_at_call 34; refine (HT.out _).mono ?_; rintro e w' ⟨rfl, rfl⟩)
  go_ret
  exact ⟨rfl, rfl⟩

theorem whole_minf (w : World) : Calls Tryz.prog 18 #[.float .f64 18442240474082181120] w fun e w' => e = .returned (.bool false) ∧ w = w' := by
  have o1 : FloatKind.f64.format.order 18442240474082181120 18442240474082181120 = some .eq := by kernel_rfl
  have o2 : FloatKind.f64.format.order 18442240474082181120 14069741636278059008 = some .lt := by kernel_rfl
  have ht : truncN 18442240474082181120 = 18442240474082181120 := by kernel_rfl
  have HT := Lib.hid (fun W => trunc_any 18442240474082181120 (by rw [o1]; simp) W)
  rw [ht] at HT
  go_enter Tryz.func18, Tryz.ntmps18
  go_wp2_with (go_at_call 34; refine (HT.out _).mono ?_; rintro e w' ⟨rfl, rfl⟩)
  go_ret
  exact ⟨rfl, rfl⟩

theorem rwhole_non (x : Nat) (w : World) (hN : ∀ W, Calls Tryz.prog 35 #[.float .f64 x] W fun e w' => e = .returned (.bool false) ∧ W = w') : Calls Tryz.prog 19 #[.float .f64 x] w fun e w' => e = .returned (.bool false) ∧ w = w' := by
  have HN := Lib.hid hN
  clear hN
  go_enter Tryz.func19, Tryz.ntmps19
  go_wp2_with (go_at_call 35; refine (HN.out _).mono ?_; rintro e w' ⟨rfl, rfl⟩)
  go_ret
  exact ⟨rfl, rfl⟩

end Go.Proofs.YtjncgedjdmgpfaaGreatDoor

namespace Go.Proofs.YtjncgedjdmgpfaaGreatDoor
open Go.RowKit

theorem ext_trunc2 (x : Nat) : ∃ N : Bool → Nat → Sem Value, Go.Extern.MathFloor.toIntegral "math.archTrunc" .zero #[.float .f64 x] = Go.Extern.MathFloor.toIntegral.match_1 (motive := fun _ => Sem Value) (FloatKind.f64.decode x) (fun s t => N s t) (fun d => pure (.float .f64 (FloatKind.f64.encode (d.integral .zero)))) ∧
    ∀ s t w, ∃ y n, (N s t).run Tryz.prog w = .ok (.float .f64 y) (w.drewN n) := by
  refine ⟨_, rfl, fun s t w => ?_⟩
  split
  · exact ⟨x, 0, rfl⟩
  · exact ⟨_, 1, rfl⟩

theorem run_truncNaN (x : Nat) (s : Bool) (t : Nat) (hd : FloatKind.f64.decode x = .nan s t) (w : World) : ∃ y n, (callFunc 44 #[.float .f64 x]).run Tryz.prog w = .ok (.value (.float .f64 y)) (w.drewN n) := by
  obtain ⟨N, hN, h2⟩ := ext_trunc2 x
  obtain ⟨y, n, hr⟩ := h2 s t w
  refine ⟨y, n, ?_⟩
  rw [ext_trunc0, hN, hd]
  show Sem.run Tryz.prog (N s t >>= fun v => pure (Next.value v)) w = _
  simp only [Sem.run_bind, hr, Result.andThen_ok, Sem.run_pure]

set_option maxRecDepth 100000 in
theorem truncNaN_any (x : Nat) (hx : x < 18446744073709551616) (h : 9218868437227405312 < x % 9223372036854775808) (w : World) : Calls Tryz.prog 34 #[.float .f64 x] w fun e w' => ∃ y n, e = .returned (.float .f64 y) ∧ w' = w.drewN n := by
  obtain ⟨s, t, hd⟩ := read_nan hx h
  obtain ⟨y, n, e1⟩ := run_truncNaN x s t hd w
  clear hd h hx
  go_enter Tryz.func34, Tryz.ntmps34
  go_wp2_with (fail)
  go_ret
  exact ⟨y, n, rfl, rfl⟩

set_option maxRecDepth 100000 in
theorem whole_nan (x : Nat) (hx : x < 18446744073709551616) (h : 9218868437227405312 < x % 9223372036854775808) (w : World) : Calls Tryz.prog 18 #[.float .f64 x] w fun e w' => e = .returned (.bool false) ∧ Below w.heap.size w w' := by
  have HT := Lib.hid (truncNaN_any x hx h w)
  have HO := Lib.hid (fun y => nan_order hx h y)
  clear hx h
  go_enter Tryz.func18, Tryz.ntmps18
  go_wp2_with (go_at_call 34; refine HT.out.mono ?_; rintro e w' ⟨y, n, rfl, rfl⟩; have o1 := HO.out y)
  go_ret
  exact ⟨rfl, below_drewN (Below.refl _ _) _⟩

end Go.Proofs.YtjncgedjdmgpfaaGreatDoor
