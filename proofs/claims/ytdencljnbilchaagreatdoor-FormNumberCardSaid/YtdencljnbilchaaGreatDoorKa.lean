/- The reference's printf: the walk of take; what math.Trunc gives of a star's argument, as the reference's tests see it. The reference's printf: the walk of amount. The reference's printf: the walk of read. -/
import Derived.Test.YtdencljnbilchaaGreatDoorJm
import Derived.Test.YtdencljnbilchaaGreatDoorVq
import Derived.Deep.DeepCutAuto
import Derived.Deep.CutBlock

namespace Go
open Go.RowKit
/-- The cells of a block of three that a call has laid, in a later world that is as it was below. -/
theorem cells3 {w wx : World} {v0 v1 v2 : Value} {T : TypeId} (hb : Below (w.heap.size + 1) (w.alloc (.cells #[v0, v1, v2] T)) wx) :
    wx.cell? ⟨w.heap.size, 0, none⟩ = some v0 ∧ wx.cell? ⟨w.heap.size, 1, none⟩ = some v1 ∧ wx.cell? ⟨w.heap.size, 2, none⟩ = some v2 ∧ ∀ j, wx.frozen? ⟨w.heap.size, j, none⟩ = false := by
  have hF : ∀ j, wx.frozen? ⟨w.heap.size, j, none⟩ = false := fun j => by rw [hb.frozen (by simp)]; exact World.frozen?_alloc_at _ _ _ _ rfl
  refine ⟨?_, ?_, ?_, hF⟩ <;> (rw [hb.cell (by simp), World.cell?_alloc_at _ _ _ _ rfl]; rfl)
theorem below_set3 {w wx : World} {o : Obj} (hb : Below (w.heap.size + 1) (w.alloc o) wx) (v0 v1 v2 : Value) :
    Below w.heap.size w (((wx.setCell ⟨w.heap.size, 0, none⟩ v0).setCell ⟨w.heap.size, 1, none⟩ v1).setCell ⟨w.heap.size, 2, none⟩ v2) :=
  ((((((Below.refl _ _).alloc (Nat.le_refl _) _).trans (hb.mono (by omega))).setCell (p := ⟨w.heap.size, 0, none⟩) (Nat.le_refl _) _)).setCell (p := ⟨w.heap.size, 1, none⟩) (Nat.le_refl _) _).setCell (p := ⟨w.heap.size, 2, none⟩) (Nat.le_refl _) _
end Go
namespace Go.Proofs.YtdencljnbilchaaGreatDoor
open Go.RowKit

theorem argsAt_set3 {w : World} {N B : Nat} {a : Value} {A : List FArg} (h : ArgsAt w N a A) (hN : N ≤ B) (v0 v1 v2 : Value) : ArgsAt (((w.setCell ⟨B, 0, none⟩ v0).setCell ⟨B, 1, none⟩ v1).setCell ⟨B, 2, none⟩ v2) N a A :=
  h.kept fun k hk => by
    rw [Below.heap_setCell _ _ _ _ (by show k ≠ B; omega), Below.heap_setCell _ _ _ _ (by show k ≠ B; omega), Below.heap_setCell _ _ _ _ (by show k ≠ B; omega)]
theorem ArgsAt.drewN {w : World} {N : Nat} {a : Value} {A : List FArg} (h : ArgsAt w N a A) (n : Nat) : ArgsAt (w.drewN n) N a A := h.kept fun _ _ => rfl

theorem argsAt_below {w w' : World} {N : Nat} {a : Value} {A : List FArg} (h : ArgsAt w N a A) (hN : N ≤ w.heap.size) (hb : Below w.heap.size w w') : ArgsAt w' N a A := h.kept fun b hb' => hb.block b (by omega)

/-- What take leaves. -/
def TakeEnd (w : World) (N : Nat) (A : List FArg) (e : Ending) (w' : World) : Prop :=
  ∃ a', e = .returned (.tuple #[.agg #[.float .f64 (argH A).n, .string ⟨(argH A).s.toArray⟩, .bool (argH A).num], a']) ∧ ArgsAt w' N a' A.tail ∧ Below w.heap.size w w'

set_option maxRecDepth 100000 in
theorem rtake_any (w : World) (N : Nat) (a : Value) (A : List FArg) (hA : ArgsAt w N a A) (hN : N ≤ w.heap.size) : Calls Tryz.prog 30 #[a] w (TakeEnd w N A) := by
  have hal : ∀ Z T, Below w.heap.size w (w.alloc (.cells Z T)) := fun Z T => (Below.refl _ _).alloc (Nat.le_refl _) _
  have HAL := Lib.hid hal
  clear hal
  obtain ⟨cap, ⟨rfl, ba, rfl⟩ | ⟨p, o, rfl, h2, h3, h4⟩⟩ := hA
  · go_enter Tryz.func30, Tryz.ntmps30
    go_wp2
    refine bodyPost_ret (v := .tuple #[.agg #[.float .f64 0, .string ⟨[].toArray⟩, .bool false], .slice none 0 0]) (by simp [results, Tryz.results30, go_sem]) rfl ?_
    exact ⟨_, rfl, ⟨0, .inl ⟨rfl, none, rfl⟩⟩, HAL.out _ _⟩
  · cases A with
    | nil =>
      clear h4 h2
      go_enter Tryz.func30, Tryz.ntmps30
      go_wp2
      refine bodyPost_ret (v := .tuple #[.agg #[.float .f64 0, .string ⟨[].toArray⟩, .bool false], .slice none 0 0]) (by simp [results, Tryz.results30, go_sem]) rfl ?_
      exact ⟨_, rfl, ⟨0, .inl ⟨rfl, none, rfl⟩⟩, HAL.out _ _⟩
    | cons x r =>
      obtain ⟨d0, d1, d2⟩ := h4 0 (by simp)
      have H4 := Lib.hid (ArgsAt.tail h2 h3 h4)
      clear h4
      obtain ⟨n, hn⟩ : ∃ n, r.length = n := ⟨_, rfl⟩
      rw [List.length_cons] at h2
      rw [List.length_cons, hn]
      have HN := Lib.hid hn
      rw [hn] at h2
      clear hn
      simp only [Nat.mul_zero, Nat.add_zero, List.getElem_cons_zero] at d0 d1 d2
      have hpw : p < w.heap.size := by omega
      have al : ∀ Z T q, (w.alloc (.cells Z T)).cell? ⟨p, q, none⟩ = w.cell? ⟨p, q, none⟩ := fun Z T q => World.cell?_of_block (show (w.alloc (.cells Z T)).heap[(⟨p, q, none⟩ : Addr).block]? = _ from Go.heap_alloc_old w _ hpw)
      have e0 : ∀ Z T, (w.alloc (.cells Z T)).cell? ⟨p, o, none⟩ = some (.float .f64 x.n) := fun Z T => (al Z T _).trans d0
      have e1 : ∀ Z T, (w.alloc (.cells Z T)).cell? ⟨p, o + 1, none⟩ = some (.string ⟨x.s.toArray⟩) := fun Z T => (al Z T _).trans d1
      have e2 : ∀ Z T, (w.alloc (.cells Z T)).cell? ⟨p, o + 2, none⟩ = some (.bool x.num) := fun Z T => (al Z T _).trans d2
      have b0 : (((n : Int) + 1) == 0) = false := beq_eq_false_iff_ne.2 (by omega)
      clear al d0 d1 d2
      have HP := Lib.hid (show N ≤ w.heap.size by omega)
      by_cases hcap : cap = 1
      · subst hcap
        obtain rfl : n = 0 := by omega
        obtain rfl : r = [] := List.eq_nil_of_length_eq_zero HN.out
        go_enter Tryz.func30, Tryz.ntmps30
        go_wp2
        go_region
        go_wp2
        refine bodyPost_ret (v := .tuple #[.agg #[.float .f64 x.n, .string ⟨x.s.toArray⟩, .bool x.num], .slice (some ⟨p, o, none⟩) 0 0]) (by simp [results, Tryz.results30, go_sem]) rfl ?_
        exact ⟨_, rfl, ⟨0, .inl ⟨rfl, _, rfl⟩⟩, (HAL.out _ _).drew⟩
      · go_enter Tryz.func30, Tryz.ntmps30
        go_wp2
        go_region
        go_wp2
        refine bodyPost_ret (v := .tuple #[.agg #[.float .f64 x.n, .string ⟨x.s.toArray⟩, .bool x.num], .slice (some ⟨p, o + 3, none⟩) n (cap - 1)]) (by simp [results, Tryz.results30, go_sem]) rfl ?_
        refine ⟨_, rfl, ?_, (HAL.out _ _).drew⟩
        have e : n = (x :: r).length - 1 := by rw [List.length_cons, HN.out]; rfl
        rw [e]
        exact H4.out.kept fun k hk => (HAL.out _ _).drew.block k (Nat.lt_of_lt_of_le hk HP.out)

-- the stars

theorem run_truncNone2 (x : Nat) (hx : x < 18446744073709551616) (h : 9218868437227405312 < x % 9223372036854775808) (w : World) :
    ∃ y n, (callFunc 39 #[.float .f64 x]).run Tryz.prog w = .ok (.value (.float .f64 y)) (w.drewN n) ∧ FloatKind.f64.format.order y y = none := by
  obtain ⟨s, t, hd⟩ := read_nan hx h
  obtain ⟨N, hN, h2⟩ := ext_trunc3 x
  obtain ⟨y, n, hr, hy⟩ := h2 s t w
  refine ⟨y, n, ?_, ?_⟩
  · have hd' : FloatKind.f64.decode x = .nan s t := hd
    rw [ext_trunc0, hN, hd']
    show Sem.run Tryz.prog (N s t >>= fun v => pure (Next.value v)) w = _
    simp only [Sem.run_bind, hr, Result.andThen_ok, Sem.run_pure]
  · rcases hy with rfl | rfl
    · exact nan_order hx h _
    · obtain ⟨q1, q2⟩ := quiet_nan s (read_nan_lt hd)
      exact nan_order q1 q2 _

set_option maxRecDepth 100000 in
/-- At no number: what comes is none. -/
theorem truncNone2 (x : Nat) (hx : x < 18446744073709551616) (h : 9218868437227405312 < x % 9223372036854775808) (w : World) : Calls Tryz.prog 24 #[.float .f64 x] w fun e w' => ∃ y n, e = .returned (.float .f64 y) ∧ FloatKind.f64.format.order y y = none ∧ w' = w.drewN n := by
  obtain ⟨y, n, e1, hy⟩ := run_truncNone2 x hx h w
  have HY := Lib.hid hy
  clear hy h hx
  go_enter Tryz.func24, Tryz.ntmps24
  go_wp2_with (fail)
  go_ret
  exact ⟨y, n, rfl, HY.out, rfl⟩

theorem natAbs_pow2 (e : Nat) : ((2 : Int) ^ e).natAbs = 2 ^ e := by rw [Int.natAbs_pow]; rfl
theorem cast_mul_pow2 (n e : Nat) : ((n * 2 ^ e : Nat) : Int) = (n : Int) * 2 ^ e := by push_cast; rfl

theorem order_abs200 {t : Nat} {v : Int} (hf : finN t) (hs : scal t = v * 2 ^ 1074) : FloatKind.f64.format.order (absN t) 4641240890982006784 = some (compare (v.natAbs : Int) 200) := by
  obtain ⟨h1, h2⟩ := scal_abs hf
  have e : scal (absN t) = (v.natAbs : Int) * 2 ^ 1074 := by
    rw [h1, hs, Int.natAbs_mul, natAbs_pow2 1074]; exact cast_mul_pow2 _ 1074
  rw [order_scal h2 c200.1, e, c200.2, cmp_mul]

/-- finite's answer at t. -/
def FinA (t : Nat) (b : Bool) : Prop := ∀ W, Calls Tryz.prog 37 #[.float .f64 t] W fun e w' => e = .returned (.bool b) ∧ W = w'
/-- Is its size above 200? -/
def gtM (t : Nat) : Bool := FloatKind.f64.format.order (absN t) 4641240890982006784 == some .gt

theorem starW_ref (x : Nat) (hx : x < 18446744073709551616) :
    (∃ v, starW x = some v ∧ -200 ≤ v ∧ v ≤ 200 ∧ ∀ W, Calls Tryz.prog 24 #[.float .f64 x] W fun e w' => ∃ t n, e = .returned (.float .f64 t) ∧ w' = W.drewN n ∧ t < 18446744073709551616 ∧ FinA t true ∧ gtM t = false ∧ ∀ W, (convert 36 3 (.float .f64 t)).run Tryz.prog W = .ok (.int .i64 v) W) ∨
    (starW x = none ∧ ∀ W, Calls Tryz.prog 24 #[.float .f64 x] W fun e w' => ∃ t n, e = .returned (.float .f64 t) ∧ w' = W.drewN n ∧ t < 18446744073709551616 ∧ FinA t true ∧ gtM t = true) ∨
    (starW x = none ∧ ∀ W, Calls Tryz.prog 24 #[.float .f64 x] W fun e w' => ∃ t n, e = .returned (.float .f64 t) ∧ w' = W.drewN n ∧ FinA t false) := by
  rcases class3 x hx with h | rfl | rfl | h
  · have o1 : FloatKind.f64.format.order x x = some .eq := by rw [order_num (read_num h) (read_num h), cmp_eq]
    obtain ⟨s1, s2, s3⟩ := scal_trunc h
    have o3 := order_abs200 s2 s1
    have hfb := (finB_iff x).2 h
    have key := fun W => trunc_any x (by rw [o1]; simp) W
    have hrf : FinA (truncN x) true := fun W => rfinite_fin _ s2 W
    by_cases h1 : -200 ≤ valT x ∧ valT x ≤ 200
    · refine .inl ⟨valT x, by unfold starW; rw [if_pos ⟨hfb, h1.1, h1.2⟩], h1.1, h1.2, fun W => (key W).mono fun e w' ⟨h2, h3⟩ => ⟨_, 0, h2, h3.symm, s3, hrf, ?_, fun W' => ?_⟩⟩
      · unfold gtM; rw [o3]
        rcases Int.lt_or_eq_of_le (show ((valT x).natAbs : Int) ≤ 200 by omega) with h2 | h2
        · rw [cmp_lt h2]; rfl
        · rw [h2, cmp_eq]; rfl
      · have := conv_int s2 (by rw [valT_trunc h]; omega) (by rw [valT_trunc h]; omega) W'
        rw [valT_trunc h] at this
        exact this
    · refine .inr (.inl ⟨by unfold starW; rw [if_neg (fun h => h1 h.2)], fun W => (key W).mono fun e w' ⟨h2, h3⟩ => ⟨_, 0, h2, h3.symm, s3, hrf, ?_⟩⟩)
      unfold gtM; rw [o3, cmp_gt (by omega)]; rfl
  · have ht : truncN 9218868437227405312 = 9218868437227405312 := by kernel_rfl
    exact .inr (.inr ⟨by kernel_rfl, fun W => (trunc_any 9218868437227405312 (by rw [show FloatKind.f64.format.order 9218868437227405312 9218868437227405312 = some .eq by kernel_rfl]; simp) W).mono fun e w' ⟨h1, h2⟩ => ⟨_, 0, h1, h2.symm, by rw [ht]; exact fun W => rfinite_inf W⟩⟩)
  · have ht : truncN 18442240474082181120 = 18442240474082181120 := by kernel_rfl
    exact .inr (.inr ⟨by kernel_rfl, fun W => (trunc_any 18442240474082181120 (by rw [show FloatKind.f64.format.order 18442240474082181120 18442240474082181120 = some .eq by kernel_rfl]; simp) W).mono fun e w' ⟨h1, h2⟩ => ⟨_, 0, h1, h2.symm, by rw [ht]; exact fun W => rfinite_minf W⟩⟩)
  · refine .inr (.inr ⟨?_, fun W => ?_⟩)
    · unfold starW
      rw [if_neg]
      rintro ⟨h', _⟩
      have := (finB_iff x).1 h'
      unfold finN at this; omega
    · refine (truncNone2 x hx h W).mono ?_
      rintro e w' ⟨y, n, rfl, hy, rfl⟩
      exact ⟨y, n, rfl, rfl, fun W => rfinite_nan y hy W⟩

theorem starP_ref (x : Nat) (hx : x < 18446744073709551616) :
    (∃ v, starP x = some v ∧ -1 ≤ v ∧ v ≤ 200 ∧ ∀ W, Calls Tryz.prog 24 #[.float .f64 x] W fun e w' => ∃ t n, e = .returned (.float .f64 t) ∧ w' = W.drewN n ∧ FinA t true ∧ ∃ r, (∀ ts ty W, (Builtin.max_ ts ty #[.float .f64 t, .float .f64 13830554455654793216]).run Tryz.prog W = .ok (.float .f64 r) W) ∧ r < 18446744073709551616 ∧ FinA r true ∧ gtM r = false ∧ ∀ W, (convert 36 3 (.float .f64 r)).run Tryz.prog W = .ok (.int .i64 v) W) ∨
    (starP x = none ∧ ∀ W, Calls Tryz.prog 24 #[.float .f64 x] W fun e w' => ∃ t n, e = .returned (.float .f64 t) ∧ w' = W.drewN n ∧ FinA t true ∧ ∃ r, (∀ ts ty W, (Builtin.max_ ts ty #[.float .f64 t, .float .f64 13830554455654793216]).run Tryz.prog W = .ok (.float .f64 r) W) ∧ r < 18446744073709551616 ∧ FinA r true ∧ gtM r = true) ∨
    (starP x = none ∧ ∀ W, Calls Tryz.prog 24 #[.float .f64 x] W fun e w' => ∃ t n, e = .returned (.float .f64 t) ∧ w' = W.drewN n ∧ FinA t false) := by
  rcases class3 x hx with h | rfl | rfl | h
  · have o1 : FloatKind.f64.format.order x x = some .eq := by rw [order_num (read_num h) (read_num h), cmp_eq]
    obtain ⟨s1, s2, s3⟩ := scal_trunc h
    have o2 := order_whole h cm1.1 cm1.2
    have hfb := (finB_iff x).2 h
    have key := fun W => trunc_any x (by rw [o1]; simp) W
    have hrf : FinA (truncN x) true := fun W => rfinite_fin _ s2 W
    have hv1 : valT 13830554455654793216 = -1 := by kernel_rfl
    have hrc : FinA 13830554455654793216 true := fun W => rfinite_fin _ cm1.1 W
    have hgc : gtM 13830554455654793216 = false := by kernel_rfl
    have c1 : ∀ W, (convert 36 3 (.float .f64 13830554455654793216)).run Tryz.prog W = .ok (.int .i64 (-1)) W := fun W => by
      have := conv_int cm1.1 (by rw [hv1]; omega) (by rw [hv1]; omega) W
      rw [hv1] at this; exact this
    by_cases h4 : 200 < valT x
    · refine .inr (.inl ⟨by unfold starP; rw [if_neg (by omega)], fun W => (key W).mono fun e w' ⟨h2, h3⟩ => ⟨_, 0, h2, h3.symm, hrf, truncN x, run_maxF fun W => ?_, s3, hrf, ?_⟩⟩)
      · unfold Builtin.max2
        simp only [o2, cmp_gt (show -1 < valT x by omega)]; rfl
      · unfold gtM; rw [order_abs200 s2 s1, cmp_gt (by omega)]; rfl
    · refine .inl ⟨max (valT x) (-1), by unfold starP; rw [if_pos ⟨hfb, by omega⟩], by omega, by omega, fun W => (key W).mono fun e w' ⟨h2, h3⟩ => ⟨_, 0, h2, h3.symm, hrf, ?_⟩⟩
      have conv : -1 ≤ valT x → ∀ W, (convert 36 3 (.float .f64 (truncN x))).run Tryz.prog W = .ok (.int .i64 (valT x)) W := fun hge W' => by
        have := conv_int s2 (by rw [valT_trunc h]; omega) (by rw [valT_trunc h]; omega) W'
        rw [valT_trunc h] at this
        exact this
      have hgt : -1 ≤ valT x → gtM (truncN x) = false := fun hge => by
        unfold gtM; rw [order_abs200 s2 s1]
        rcases Int.lt_or_eq_of_le (show ((valT x).natAbs : Int) ≤ 200 by omega) with h2 | h2
        · rw [cmp_lt h2]; rfl
        · rw [h2, cmp_eq]; rfl
      rcases Int.lt_trichotomy (valT x) (-1) with h5 | h5 | h5
      · refine ⟨13830554455654793216, run_maxF fun W => ?_, by omega, hrc, hgc, by rw [show max (valT x) (-1) = -1 by omega]; exact c1⟩
        unfold Builtin.max2
        simp only [o2, cmp_lt h5]; rfl
      · have e : max (valT x) (-1) = -1 := by omega
        rw [e]
        have cv := conv (by omega)
        have hg := hgt (by omega)
        rw [h5] at cv
        cases hn : (FloatKind.f64.decode (truncN x)).neg with
        | true =>
          refine ⟨13830554455654793216, run_maxF fun W => ?_, by omega, hrc, hgc, c1⟩
          unfold Builtin.max2
          simp only [o2, h5, cmp_eq, hn]; rfl
        | false =>
          refine ⟨truncN x, run_maxF fun W => ?_, s3, hrf, hg, cv⟩
          unfold Builtin.max2
          simp only [o2, h5, cmp_eq, hn]; rfl
      · refine ⟨truncN x, run_maxF fun W => ?_, s3, hrf, hgt (by omega), by rw [show max (valT x) (-1) = valT x by omega]; exact conv (by omega)⟩
        unfold Builtin.max2
        simp only [o2, cmp_gt h5]; rfl
  · have ht : truncN 9218868437227405312 = 9218868437227405312 := by kernel_rfl
    exact .inr (.inr ⟨by kernel_rfl, fun W => (trunc_any 9218868437227405312 (by rw [show FloatKind.f64.format.order 9218868437227405312 9218868437227405312 = some .eq by kernel_rfl]; simp) W).mono fun e w' ⟨h1, h2⟩ => ⟨_, 0, h1, h2.symm, by rw [ht]; exact fun W => rfinite_inf W⟩⟩)
  · have ht : truncN 18442240474082181120 = 18442240474082181120 := by kernel_rfl
    exact .inr (.inr ⟨by kernel_rfl, fun W => (trunc_any 18442240474082181120 (by rw [show FloatKind.f64.format.order 18442240474082181120 18442240474082181120 = some .eq by kernel_rfl]; simp) W).mono fun e w' ⟨h1, h2⟩ => ⟨_, 0, h1, h2.symm, by rw [ht]; exact fun W => rfinite_minf W⟩⟩)
  · refine .inr (.inr ⟨?_, fun W => ?_⟩)
    · unfold starP
      rw [if_neg]
      rintro ⟨h', _⟩
      have := (finB_iff x).1 h'
      unfold finN at this; omega
    · refine (truncNone2 x hx h W).mono ?_
      rintro e w' ⟨y, n, rfl, hy, rfl⟩
      exact ⟨y, n, rfl, rfl, fun W => rfinite_nan y hy W⟩

end Go.Proofs.YtdencljnbilchaaGreatDoor

namespace Go.Proofs.YtdencljnbilchaaGreatDoor
open Go.RowKit

/-- The width, or the precision, at a place: how much, the place behind, the arguments left. -/
def amtT (pr : Bool) (l : List UInt8) (k : Nat) (A : List FArg) : Option (Int × Nat × List FArg) :=
  if l[k]? = some 42 then (if pr = true then starP (argH A).n else starW (argH A).n).map fun v => (v, k + 1, A.tail)
  else if satN (digsAt l k) ≤ 200 then some ((satN (digsAt l k) : Nat), k + nWhile isDig (l.drop k), A) else none

/-- What amount leaves. -/
def AmtEnd (R : Option (Int × Nat × List FArg)) (w : World) (N : Nat) (e : Ending) (w' : World) : Prop :=
  ∃ (n i : Int) (a' : Value) (ok : Bool), e = .returned (.tuple #[.int .i64 n, .int .i64 i, a', .bool ok]) ∧ Below w.heap.size w w' ∧
    ((ok = true ∧ ∃ k' A', R = some (n, k', A') ∧ i = (k' : Nat) ∧ ArgsAt w' N a' A') ∨ (ok = false ∧ R = none))

theorem amt_digits {pr : Bool} {l : List UInt8} {k d V : Nat} {A : List FArg} (h42 : l[k]? ≠ some 42) (hd : k + nWhile isDig (l.drop k) = d) (hV : V = satM (digsAt l k)) :
    (V ≤ 200 ∧ amtT pr l k A = some ((V : Int), d, A)) ∨ (200 < V ∧ amtT pr l k A = none) := by
  obtain ⟨h1, h2⟩ := satM_iff (digsAt l k)
  by_cases h : satN (digsAt l k) ≤ 200
  · have := h2 h
    refine .inl ⟨by omega, ?_⟩
    unfold amtT; rw [if_neg h42, if_pos h, hV, h2 h, hd]
  · refine .inr ⟨by have := mt h1.2 h; omega, ?_⟩
    unfold amtT; rw [if_neg h42, if_neg h]

set_option maxRecDepth 100000 in
set_option maxHeartbeats 4000000 in
theorem amount_dig (s : ByteArray) (k : Nat) (pr : Bool) (a : Value) (A : List FArg) (N : Nat) (w : World) (hs : s.size ≤ maxLen) (hk : k ≤ s.size) (hA : ArgsAt w N a A) (h42 : s.data.toList[k]? ≠ some 42) :
    Calls Tryz.prog 47 #[.string s, .int .i64 k, a, .bool pr] w (AmtEnd (amtT pr s.data.toList k A) w N) := by
  have h3 : ¬ k < s.size ∨ (∃ h : k < s.size, ((s[k].toNat : Int) == 42) = false) := by
    by_cases h : k < s.size
    · refine .inr ⟨h, beq_f (d := 42) fun e => h42 ?_⟩
      rw [List.getElem?_eq_getElem (by simpa using h)]; exact congrArg some e
    · exact .inl h
  obtain ⟨d, hd⟩ : ∃ d, k + nWhile isDig (s.data.toList.drop k) = d := ⟨_, rfl⟩
  have hdl : d ≤ s.size := by have := nWhile_le isDig (s.data.toList.drop k); simp at this; omega
  have HAMT : Hid (∀ V, V = satM ((s.data.toList.drop k).take (d - k)) → (V ≤ 200 ∧ amtT pr s.data.toList k A = some ((V : Int), d, A)) ∨ (200 < V ∧ amtT pr s.data.toList k A = none)) := fun V hV => amt_digits h42 hd (by rw [hV]; unfold digsAt; rw [← hd, Nat.add_sub_cancel_left])
  have HD := Lib.hid hd
  have hid : k ≤ d := by omega
  have HA := Lib.hid hA
  have HB := Lib.hid (Below.refl w.heap.size w)
  have HDG := Lib.hid (fun (j : Nat) (x : Int) (hx : x = j) W => rdig_any s j x hx W hs)
  have H3 := Lib.hid h3
  unfold maxLen at hs
  clear hd hA h42 h3
  go_enter Tryz.func47, Tryz.ntmps47
  go_upto_region 1 with (fail)
  go_cut [23] (fun v wx => v = .bool false ∧ w = wx)
  case first =>
    rcases H3.out with h | ⟨h, hb⟩
    · have d1 : decide ((k : Int) < s.size) = false := decide_eq_false (by omega)
      as_aux_lemma =>
        go_wp2
        go_meet
        exact ⟨rfl, rfl⟩
    · have d1 : decide ((k : Int) < s.size) = true := decide_eq_true (by omega)
      as_aux_lemma =>
        go_wp2
        go_meet
        exact ⟨rfl, rfl⟩
  case rest =>
    obtain ⟨rfl, rfl⟩ := hcut
    clear H3
    go_wp2
    go_loop [1, 8] (fun i n => ∃ (j V : Nat), k ≤ j ∧ j ≤ d ∧ i = .int .i64 j ∧ n = .int .i64 V ∧ V ≤ 1000000 ∧ Hid (j + nWhile isDig (s.data.toList.drop j) = d) ∧ Hid (V = satM ((s.data.toList.drop k).take (j - k)))) (fun i _ => d - (intOf i).toNat)
    case atStart => exact ⟨k, 0, Nat.le_refl _, hid, rfl, rfl, by omega, HD, by simp [Hid, satM]⟩
    case round =>
      obtain ⟨j, V, hk1, hk2, rfl, rfl, hV, hJ, HV⟩ := hrel
      have H0 := Lib.hid (fun W => HDG.out j (j : Int) rfl W)
      cases hq : digAt s.data.toList j with
      | true =>
        rw [hq] at H0
        have h1 := nW_on hq
        have hlt := digAt_lt hq
        have h2 := hJ.out
        have hjs : j < s.size := by simpa using hlt
        have hdg : digB (s[j].toNat : Int) = true := by have := digAt_in hlt; rw [hq] at this; exact this.symm
        have hc : 48 ≤ s[j].toNat ∧ s[j].toNat ≤ 57 := by
          unfold digB at hdg
          rw [Bool.and_eq_true, decide_eq_true_iff, decide_eq_true_iff] at hdg
          omega
        obtain ⟨hc1, hc2⟩ := hc
        have hsat : satM ((s.data.toList.drop k).take (j + 1 - k)) = min 1000000 (10 * V + (s[j].toNat - 48)) := by
          have hj : (s.data.toList.drop k)[j - k]? = some s[j] := by
            rw [List.getElem?_drop, show k + (j - k) = j by omega, List.getElem?_eq_getElem hlt]; rfl
          rw [show j + 1 - k = (j - k) + 1 by omega, List.take_add_one, hj]
          unfold satM
          rw [List.foldl_append]
          simp only [Option.toList_some, List.foldl_cons, List.foldl_nil]
          rw [HV.out]; rfl
        have HS := Lib.hid hsat
        have hK2 : Hid (j + 1 + nWhile isDig (s.data.toList.drop (j + 1)) = d) := by unfold Hid; omega
        have hjd : j < d := by omega
        clear hq h1 h2 hlt hdg hsat
        go_wp2_with (go_at_call 65; refine (H0.out _).mono ?_; rintro e w' ⟨rfl, rfl⟩)
        refine ⟨⟨j + 1, min 1000000 (10 * V + (s[j].toNat - 48)), by omega, by omega, by go_num, congrArg (Value.int .i64) (by omega), by omega, hK2, HS.out.symm⟩, ?_⟩
        simp [intOf]; omega
      | false =>
        rw [hq] at H0
        have h1 := nW_off hq
        have h2 := hJ.out
        obtain rfl : j = d := by omega
        rcases HAMT.out V HV.out with ⟨hv, hR⟩ | ⟨hv, hR⟩
        · have HR := Lib.hid hR
          have hv2 : (V : Int) ≤ 200 := by omega
          clear hq h1 h2 hR HAMT
          go_wp2_with (go_at_call 65; refine (H0.out _).mono ?_; rintro e w' ⟨rfl, rfl⟩)
          refine bodyPost_ret (v := .tuple #[.int .i64 V, .int .i64 j, a, .bool true]) (by simp [results, Tryz.results47, go_sem]) rfl ?_
          exact ⟨_, _, _, _, rfl, HB.out, .inl ⟨rfl, j, A, HR.out, rfl, HA.out⟩⟩
        · have HR := Lib.hid hR
          have hv2 : ¬ (V : Int) ≤ 200 := by omega
          clear hq h1 h2 hR HAMT
          go_wp2_with (go_at_call 65; refine (H0.out _).mono ?_; rintro e w' ⟨rfl, rfl⟩)
          refine bodyPost_ret (v := .tuple #[.int .i64 V, .int .i64 j, a, .bool false]) (by simp [results, Tryz.results47, go_sem]; omega) rfl ?_
          exact ⟨_, _, _, _, rfl, HB.out, .inr ⟨rfl, HR.out⟩⟩

set_option maxRecDepth 100000 in
set_option maxHeartbeats 4000000 in
theorem amount_star (s : ByteArray) (k : Nat) (pr : Bool) (a : Value) (A : List FArg) (N : Nat) (w : World) (hs : s.size ≤ maxLen) (hA : ArgsAt w N a A) (hN : N ≤ w.heap.size) (hx : (argH A).n < 18446744073709551616) (h42 : s.data.toList[k]? = some 42) :
    Calls Tryz.prog 47 #[.string s, .int .i64 k, a, .bool pr] w (AmtEnd (amtT pr s.data.toList k A) w N) := by
  have hkl : k < s.data.toList.length := (List.getElem?_eq_some_iff.1 h42).1
  have hks : k < s.size := by simpa using hkl
  have b42 : ((s[k].toNat : Int) == 42) = true := beq_t (d := 42) (by rw [List.getElem?_eq_getElem hkl] at h42; exact Option.some.inj h42)
  have d1 : decide ((k : Int) < s.size) = true := decide_eq_true (by omega)
  have ek : ((k : Int) + 1) = ((k + 1 : Nat) : Int) := by omega
  have EK := Lib.hid ek
  have hal : Below w.heap.size w (w.alloc (.cells #[.float .f64 0, .string ⟨#[]⟩, .bool false] 52)) := (Below.refl _ _).alloc (Nat.le_refl _) _
  have HAL := Lib.hid hal
  have HT := Lib.hid (rtake_any (w.alloc (.cells #[.float .f64 0, .string ⟨#[]⟩, .bool false] 52)) N a A (argsAt_below hA hN hal) (Nat.le_trans hN hal.size))
  unfold maxLen at hs
  clear hA ek hal
  have HN := Lib.hid hN
  clear HAL
  cases pr with
  | false =>
    rcases starW_ref (argH A).n hx with ⟨v, h1, h2, h3, h4⟩ | ⟨h1, h4⟩ | ⟨h1, h4⟩
    · have HR : Hid (amtT false s.data.toList k A = some (v, k + 1, A.tail)) := by unfold Hid amtT; rw [if_pos h42, if_neg (by simp), h1]; rfl
      have HTR := Lib.hid h4
      clear h42 h1 h4 hx
      go_enter Tryz.func47, Tryz.ntmps47
      go_wp2_with (first
        | (go_at_call 30; refine HT.out.mono ?_; rintro e w1 ⟨a1, rfl, ha1, hb1⟩; have hb1' := hb1.mono (B' := w.heap.size + 1) (by simp); have HA1 := Lib.hid ha1; have HB1 := Lib.hid hb1'; obtain ⟨c0, c1, c2, cf⟩ := cells3 hb1'; have f0 := cf 0; have f1 := cf 1; have f2 := cf 2; clear ha1 hb1 hb1' cf)
        | (go_at_call 24; refine (HTR.out _).mono ?_; rintro e w2 ⟨t, n, rfl, hw2, ht, hfin, hgt, hcv⟩; have HB2 : Hid (Below w.heap.size w w2 ∧ ArgsAt w2 N a1 A.tail) := ⟨by rw [hw2]; exact below_drewN (below_set3 HB1.out _ _ _) n, by rw [hw2]; exact (argsAt_set3 HA1.out HN.out _ _ _).drewN n⟩; unfold gtM at hgt; have HFI := Lib.hid hfin; have HAB := Lib.hid (fun W => abs_any t ht W); clear hw2 hfin)
        | (go_at_call 37; refine (HFI.out _).mono ?_; rintro e w' ⟨rfl, rfl⟩)
        | (go_at_call 41; refine (HAB.out _).mono ?_; rintro e w' ⟨rfl, rfl⟩))
      refine bodyPost_ret (v := .tuple #[.int .i64 v, .int .i64 (k + 1), a1, .bool true]) (by simp [results, Tryz.results47, go_sem]) rfl ?_
      exact ⟨_, _, _, _, rfl, HB2.out.1, .inl ⟨rfl, k + 1, A.tail, HR.out, EK.out, HB2.out.2⟩⟩
    · have HR : Hid (amtT false s.data.toList k A = none) := by unfold Hid amtT; rw [if_pos h42, if_neg (by simp), h1]; rfl
      have HTR := Lib.hid h4
      clear h42 h1 h4 hx
      go_enter Tryz.func47, Tryz.ntmps47
      go_wp2_with (first
        | (go_at_call 30; refine HT.out.mono ?_; rintro e w1 ⟨a1, rfl, ha1, hb1⟩; have hb1' := hb1.mono (B' := w.heap.size + 1) (by simp); have HA1 := Lib.hid ha1; have HB1 := Lib.hid hb1'; obtain ⟨c0, c1, c2, cf⟩ := cells3 hb1'; have f0 := cf 0; have f1 := cf 1; have f2 := cf 2; clear ha1 hb1 hb1' cf)
        | (go_at_call 24; refine (HTR.out _).mono ?_; rintro e w2 ⟨t, n, rfl, hw2, ht, hfin, hgt⟩; have HB2 : Hid (Below w.heap.size w w2 ∧ ArgsAt w2 N a1 A.tail) := ⟨by rw [hw2]; exact below_drewN (below_set3 HB1.out _ _ _) n, by rw [hw2]; exact (argsAt_set3 HA1.out HN.out _ _ _).drewN n⟩; unfold gtM at hgt; have HFI := Lib.hid hfin; have HAB := Lib.hid (fun W => abs_any t ht W); clear hw2 hfin)
        | (go_at_call 37; refine (HFI.out _).mono ?_; rintro e w' ⟨rfl, rfl⟩)
        | (go_at_call 41; refine (HAB.out _).mono ?_; rintro e w' ⟨rfl, rfl⟩))
      refine bodyPost_ret (v := .tuple #[.int .i64 0, .int .i64 0, .slice none 0 0, .bool false]) (by simp [results, Tryz.results47, go_sem]) rfl ?_
      exact ⟨_, _, _, _, rfl, HB2.out.1, .inr ⟨rfl, HR.out⟩⟩
    · have HR : Hid (amtT false s.data.toList k A = none) := by unfold Hid amtT; rw [if_pos h42, if_neg (by simp), h1]; rfl
      have HTR := Lib.hid h4
      clear h42 h1 h4 hx
      go_enter Tryz.func47, Tryz.ntmps47
      go_wp2_with (first
        | (go_at_call 30; refine HT.out.mono ?_; rintro e w1 ⟨a1, rfl, ha1, hb1⟩; have hb1' := hb1.mono (B' := w.heap.size + 1) (by simp); have HA1 := Lib.hid ha1; have HB1 := Lib.hid hb1'; obtain ⟨c0, c1, c2, cf⟩ := cells3 hb1'; have f0 := cf 0; have f1 := cf 1; have f2 := cf 2; clear ha1 hb1 hb1' cf)
        | (go_at_call 24; refine (HTR.out _).mono ?_; rintro e w2 ⟨t, n, rfl, hw2, hfin⟩; have HB2 : Hid (Below w.heap.size w w2 ∧ ArgsAt w2 N a1 A.tail) := ⟨by rw [hw2]; exact below_drewN (below_set3 HB1.out _ _ _) n, by rw [hw2]; exact (argsAt_set3 HA1.out HN.out _ _ _).drewN n⟩; have HFI := Lib.hid hfin; clear hw2 hfin)
        | (go_at_call 37; refine (HFI.out _).mono ?_; rintro e w' ⟨rfl, rfl⟩))
      refine bodyPost_ret (v := .tuple #[.int .i64 0, .int .i64 0, .slice none 0 0, .bool false]) (by simp [results, Tryz.results47, go_sem]) rfl ?_
      exact ⟨_, _, _, _, rfl, HB2.out.1, .inr ⟨rfl, HR.out⟩⟩
  | true =>
    rcases starP_ref (argH A).n hx with ⟨v, h1, h2, h3, h4⟩ | ⟨h1, h4⟩ | ⟨h1, h4⟩
    · have HR : Hid (amtT true s.data.toList k A = some (v, k + 1, A.tail)) := by unfold Hid amtT; rw [if_pos h42, if_pos rfl, h1]; rfl
      have HTR := Lib.hid h4
      clear h42 h1 h4 hx
      go_enter Tryz.func47, Tryz.ntmps47
      go_wp2_with (first
        | (go_at_call 30; refine HT.out.mono ?_; rintro e w1 ⟨a1, rfl, ha1, hb1⟩; have hb1' := hb1.mono (B' := w.heap.size + 1) (by simp); have HA1 := Lib.hid ha1; have HB1 := Lib.hid hb1'; obtain ⟨c0, c1, c2, cf⟩ := cells3 hb1'; have f0 := cf 0; have f1 := cf 1; have f2 := cf 2; clear ha1 hb1 hb1' cf)
        | (go_at_call 24; refine (HTR.out _).mono ?_; rintro e w2 ⟨t, n, rfl, hw2, hfin, r, hmx, hr, hfr, hgt, hcv⟩; have HB2 : Hid (Below w.heap.size w w2 ∧ ArgsAt w2 N a1 A.tail) := ⟨by rw [hw2]; exact below_drewN (below_set3 HB1.out _ _ _) n, by rw [hw2]; exact (argsAt_set3 HA1.out HN.out _ _ _).drewN n⟩; unfold gtM at hgt; unfold FinA at hfin hfr; have HFI := Lib.hid hfin; have HFR := Lib.hid hfr; have HAB := Lib.hid (fun W => abs_any r hr W); clear hfr; clear hw2 hfin)
        | (go_at_call 37; first | (with_reducible refine (HFI.out _).mono ?_; rintro e w' ⟨rfl, rfl⟩) | (with_reducible refine (HFR.out _).mono ?_; rintro e w' ⟨rfl, rfl⟩))
        | (go_at_call 41; refine (HAB.out _).mono ?_; rintro e w' ⟨rfl, rfl⟩))
      refine bodyPost_ret (v := .tuple #[.int .i64 v, .int .i64 (k + 1), a1, .bool true]) (by simp [results, Tryz.results47, go_sem]) rfl ?_
      exact ⟨_, _, _, _, rfl, HB2.out.1, .inl ⟨rfl, k + 1, A.tail, HR.out, EK.out, HB2.out.2⟩⟩
    · have HR : Hid (amtT true s.data.toList k A = none) := by unfold Hid amtT; rw [if_pos h42, if_pos rfl, h1]; rfl
      have HTR := Lib.hid h4
      clear h42 h1 h4 hx
      go_enter Tryz.func47, Tryz.ntmps47
      go_wp2_with (first
        | (go_at_call 30; refine HT.out.mono ?_; rintro e w1 ⟨a1, rfl, ha1, hb1⟩; have hb1' := hb1.mono (B' := w.heap.size + 1) (by simp); have HA1 := Lib.hid ha1; have HB1 := Lib.hid hb1'; obtain ⟨c0, c1, c2, cf⟩ := cells3 hb1'; have f0 := cf 0; have f1 := cf 1; have f2 := cf 2; clear ha1 hb1 hb1' cf)
        | (go_at_call 24; refine (HTR.out _).mono ?_; rintro e w2 ⟨t, n, rfl, hw2, hfin, r, hmx, hr, hfr, hgt⟩; have HB2 : Hid (Below w.heap.size w w2 ∧ ArgsAt w2 N a1 A.tail) := ⟨by rw [hw2]; exact below_drewN (below_set3 HB1.out _ _ _) n, by rw [hw2]; exact (argsAt_set3 HA1.out HN.out _ _ _).drewN n⟩; unfold gtM at hgt; unfold FinA at hfin hfr; have HFI := Lib.hid hfin; have HFR := Lib.hid hfr; have HAB := Lib.hid (fun W => abs_any r hr W); clear hfr; clear hw2 hfin)
        | (go_at_call 37; first | (with_reducible refine (HFI.out _).mono ?_; rintro e w' ⟨rfl, rfl⟩) | (with_reducible refine (HFR.out _).mono ?_; rintro e w' ⟨rfl, rfl⟩))
        | (go_at_call 41; refine (HAB.out _).mono ?_; rintro e w' ⟨rfl, rfl⟩))
      refine bodyPost_ret (v := .tuple #[.int .i64 0, .int .i64 0, .slice none 0 0, .bool false]) (by simp [results, Tryz.results47, go_sem]) rfl ?_
      exact ⟨_, _, _, _, rfl, HB2.out.1, .inr ⟨rfl, HR.out⟩⟩
    · have HR : Hid (amtT true s.data.toList k A = none) := by unfold Hid amtT; rw [if_pos h42, if_pos rfl, h1]; rfl
      have HTR := Lib.hid h4
      clear h42 h1 h4 hx
      go_enter Tryz.func47, Tryz.ntmps47
      go_wp2_with (first
        | (go_at_call 30; refine HT.out.mono ?_; rintro e w1 ⟨a1, rfl, ha1, hb1⟩; have hb1' := hb1.mono (B' := w.heap.size + 1) (by simp); have HA1 := Lib.hid ha1; have HB1 := Lib.hid hb1'; obtain ⟨c0, c1, c2, cf⟩ := cells3 hb1'; have f0 := cf 0; have f1 := cf 1; have f2 := cf 2; clear ha1 hb1 hb1' cf)
        | (go_at_call 24; refine (HTR.out _).mono ?_; rintro e w2 ⟨t, n, rfl, hw2, hfin⟩; have HB2 : Hid (Below w.heap.size w w2 ∧ ArgsAt w2 N a1 A.tail) := ⟨by rw [hw2]; exact below_drewN (below_set3 HB1.out _ _ _) n, by rw [hw2]; exact (argsAt_set3 HA1.out HN.out _ _ _).drewN n⟩; have HFI := Lib.hid hfin; clear hw2 hfin)
        | (go_at_call 37; refine (HFI.out _).mono ?_; rintro e w' ⟨rfl, rfl⟩))
      refine bodyPost_ret (v := .tuple #[.int .i64 0, .int .i64 0, .slice none 0 0, .bool false]) (by simp [results, Tryz.results47, go_sem]) rfl ?_
      exact ⟨_, _, _, _, rfl, HB2.out.1, .inr ⟨rfl, HR.out⟩⟩

end Go.Proofs.YtdencljnbilchaaGreatDoor

namespace Go
open Go.RowKit
/-- The reference's conversion in block b. -/
structure SpR (w : World) (T : TypeId) (b : Nat) (l p bl z : Bool) (wd pr c : Int) : Prop where
  sp : SpW w T b l p bl z wd pr
  s6 : w.cell? ⟨b, 6, none⟩ = some (.int .u8 c)

section
variable {w : World} {T : TypeId} {b : Nat} {l p bl z : Bool} {wd pr c : Int}
theorem SpR.kept {w' : World} (h : SpR w T b l p bl z wd pr c) (hk : w'.heap[b]? = w.heap[b]?) : SpR w' T b l p bl z wd pr c := ⟨h.sp.kept hk, by rw [World.cell?_of_block hk]; exact h.s6⟩
theorem SpR.set0 (h : SpR w T b l p bl z wd pr c) (x : Bool) : SpR (w.setCell ⟨b, 0, none⟩ (.bool x)) T b x p bl z wd pr c := ⟨h.sp.set0 x, by rw [cs_other (addr_ne (by omega))]; exact h.s6⟩
theorem SpR.set1 (h : SpR w T b l p bl z wd pr c) (x : Bool) : SpR (w.setCell ⟨b, 1, none⟩ (.bool x)) T b l x bl z wd pr c := ⟨h.sp.set1 x, by rw [cs_other (addr_ne (by omega))]; exact h.s6⟩
theorem SpR.set2 (h : SpR w T b l p bl z wd pr c) (x : Bool) : SpR (w.setCell ⟨b, 2, none⟩ (.bool x)) T b l p x z wd pr c := ⟨h.sp.set2 x, by rw [cs_other (addr_ne (by omega))]; exact h.s6⟩
theorem SpR.set3 (h : SpR w T b l p bl z wd pr c) (x : Bool) : SpR (w.setCell ⟨b, 3, none⟩ (.bool x)) T b l p bl x wd pr c := ⟨h.sp.set3 x, by rw [cs_other (addr_ne (by omega))]; exact h.s6⟩
theorem SpR.set4 (h : SpR w T b l p bl z wd pr c) (x : Int) : SpR (w.setCell ⟨b, 4, none⟩ (.int .i64 x)) T b l p bl z x pr c := ⟨h.sp.set4 x, by rw [cs_other (addr_ne (by omega))]; exact h.s6⟩
theorem SpR.set5 (h : SpR w T b l p bl z wd pr c) (x : Int) : SpR (w.setCell ⟨b, 5, none⟩ (.int .i64 x)) T b l p bl z wd x c := ⟨h.sp.set5 x, by rw [cs_other (addr_ne (by omega))]; exact h.s6⟩
theorem SpR.set6 (h : SpR w T b l p bl z wd pr c) (x : Int) : SpR (w.setCell ⟨b, 6, none⟩ (.int .u8 x)) T b l p bl z wd pr x where
  sp := {
    s0 := by rw [cs_other (addr_ne (by omega))]; exact h.sp.s0
    s1 := by rw [cs_other (addr_ne (by omega))]; exact h.sp.s1
    s2 := by rw [cs_other (addr_ne (by omega))]; exact h.sp.s2
    s3 := by rw [cs_other (addr_ne (by omega))]; exact h.sp.s3
    s4 := by rw [cs_other (addr_ne (by omega))]; exact h.sp.s4
    s5 := by rw [cs_other (addr_ne (by omega))]; exact h.sp.s5
    fz := fun j => by rw [World.frozen?_setCell]; exact h.sp.fz j
    ty := h.sp.ty.set _ _ }
  s6 := cs_same h.s6
theorem SpR.new (w : World) (T : TypeId) : SpR (w.alloc (.cells #[.bool l, .bool p, .bool bl, .bool z, .int .i64 wd, .int .i64 pr, .int .u8 c] T)) T w.heap.size l p bl z wd pr c where
  sp := {
    s0 := by rw [World.cell?_alloc_at _ _ _ _ rfl]; rfl
    s1 := by rw [World.cell?_alloc_at _ _ _ _ rfl]; rfl
    s2 := by rw [World.cell?_alloc_at _ _ _ _ rfl]; rfl
    s3 := by rw [World.cell?_alloc_at _ _ _ _ rfl]; rfl
    s4 := by rw [World.cell?_alloc_at _ _ _ _ rfl]; rfl
    s5 := by rw [World.cell?_alloc_at _ _ _ _ rfl]; rfl
    fz := fun j => World.frozen?_alloc_at _ _ _ _ rfl
    ty := HasT.new _ _ _ }
  s6 := by rw [World.cell?_alloc_at _ _ _ _ rfl]; rfl
end
end Go
namespace Go.Proofs.YtdencljnbilchaaGreatDoor
open Go.RowKit

theorem AmtEnd.some {n : Int} {k' N : Nat} {A' : List FArg} {w w' : World} {e : Ending} (h : AmtEnd (some (n, k', A')) w N e w') : ∃ a', e = .returned (.tuple #[.int .i64 n, .int .i64 k', a', .bool true]) ∧ Below w.heap.size w w' ∧ ArgsAt w' N a' A' := by
  obtain ⟨n', i, a', ok, rfl, hb, ⟨rfl, k2, A2, h1, rfl, h2⟩ | ⟨rfl, h1⟩⟩ := h
  · obtain ⟨⟩ := h1; exact ⟨a', rfl, hb, h2⟩
  · cases h1
theorem AmtEnd.none {N : Nat} {w w' : World} {e : Ending} (h : AmtEnd none w N e w') : ∃ n i a', e = .returned (.tuple #[.int .i64 n, .int .i64 i, a', .bool false]) ∧ Below w.heap.size w w' := by
  obtain ⟨n', i, a', ok, rfl, hb, ⟨rfl, k2, A2, h1, rfl, h2⟩ | ⟨rfl, h1⟩⟩ := h
  · cases h1
  · exact ⟨n', i, a', rfl, hb⟩

theorem widthAt_amt (l : List UInt8) (k : Nat) (A : List FArg) : widthAt l k A = (amtT false l k A).map fun r => (r.1.natAbs, decide (r.1 < 0), r.2.1, r.2.2) := by
  unfold widthAt amtT
  by_cases h : l[k]? = some 42
  · rw [if_pos h, if_pos h, if_neg (by simp), Option.map_map]; rfl
  · rw [if_neg h, if_neg h]
    split
    · simp
    · rfl
theorem precAt_amt (l : List UInt8) (k : Nat) (A : List FArg) : precAt l k A = if l[k]? = some 46 then amtT true l (k + 1) A else some (-1, k, A) := by
  unfold precAt amtT
  rfl

theorem amt_bound {pr : Bool} {l : List UInt8} {k k' : Nat} {A A' : List FArg} {n : Int} (h : amtT pr l k A = some (n, k', A')) (hk : k ≤ l.length) : -200 ≤ n ∧ n ≤ 200 ∧ (pr = true → -1 ≤ n) ∧ k ≤ k' ∧ k' ≤ l.length ∧ (argsOk A → argsOk A') := by
  unfold amtT at h
  by_cases h42 : l[k]? = some 42
  · have hlt := (List.getElem?_eq_some_iff.1 h42).1
    rw [if_pos h42] at h
    cases pr with
    | true =>
      rw [if_pos rfl] at h
      unfold starP at h
      split at h
      · obtain ⟨⟩ := h
        exact ⟨by omega, by omega, fun _ => by omega, by omega, hlt, fun h => h.tail⟩
      · cases h
    | false =>
      rw [if_neg (by simp)] at h
      unfold starW at h
      split at h
      · obtain ⟨⟩ := h
        exact ⟨by omega, by omega, by simp, by omega, hlt, fun h => h.tail⟩
      · cases h
  · rw [if_neg h42] at h
    split at h
    · obtain ⟨⟩ := h
      have := nWhile_le isDig (l.drop k)
      rw [List.length_drop] at this
      exact ⟨by omega, by omega, fun _ => by omega, by omega, by omega, id⟩
    · cases h

/-- What read leaves. -/
def ReadEnd (l : List UInt8) (k : Nat) (A : List FArg) (w : World) (N : Nat) (e : Ending) (w' : World) : Prop :=
  Below w.heap.size w w' ∧ ((∃ cv k' A' a', readT l k A = some (cv, k', A') ∧ e = .returned (.tuple #[.agg #[.bool cv.left, .bool cv.plus, .bool cv.blank, .bool cv.zero, .int .i64 cv.width, .int .i64 cv.prec, .int .u8 cv.c.toNat], .int .i64 (k' : Nat), a', .bool true]) ∧ ArgsAt w' N a' A') ∨
    (readT l k A = none ∧ ∃ (b1 b2 b3 b4 : Bool) (wd pr c : Int), e = .returned (.tuple #[.agg #[.bool b1, .bool b2, .bool b3, .bool b4, .int .i64 wd, .int .i64 pr, .int .u8 c], .int .i64 0, .slice none 0 0, .bool false])))

theorem readR_width {l : List UInt8} {k : Nat} {A : List FArg} (h : amtT false l (k + nWhile isFlag (l.drop k)) A = none) : readT l k A = none := by
  unfold readT
  simp only [widthAt_amt, h, Option.map_none]
theorem readR_prec {l : List UInt8} {k k2 : Nat} {A A2 : List FArg} {n : Int} (h : amtT false l (k + nWhile isFlag (l.drop k)) A = some (n, k2, A2)) (hp : precAt l k2 A2 = none) : readT l k A = none := by
  unfold readT
  simp only [widthAt_amt, h, Option.map_some, hp]
theorem readR_end {l : List UInt8} {k k2 k3 : Nat} {A A2 A3 : List FArg} {n pr : Int} (h : amtT false l (k + nWhile isFlag (l.drop k)) A = some (n, k2, A2)) (hp : precAt l k2 A2 = some (pr, k3, A3)) (he : l[k3]? = none ∨ ∃ c, l[k3]? = some c ∧ isLetter c = false) : readT l k A = none := by
  unfold readT
  simp only [widthAt_amt, h, Option.map_some, hp]
  rcases he with he | ⟨c, he, hl⟩
  · simp only [he]
  · simp only [he, hl]; rfl
theorem readR_of {l : List UInt8} {k k2 k3 : Nat} {A A2 A3 : List FArg} {n pr : Int} {b1 b2 b3 b4 : Bool} {c : UInt8} (hf : FlagsR l k (nWhile isFlag (l.drop k)) b1 b2 b3 b4) (h : amtT false l (k + nWhile isFlag (l.drop k)) A = some (n, k2, A2)) (hp : precAt l k2 A2 = some (pr, k3, A3)) (hc : l[k3]? = some c) (hl : isLetter c = true) :
    readT l k A = some (⟨b1 || decide (n < 0), b2, b3, b4, n.natAbs, pr, c⟩, k3 + 1, A3) := by
  obtain ⟨f1, f2, f3, f4⟩ := hf
  unfold readT
  simp only [widthAt_amt, h, Option.map_some, hp, hc, if_pos hl]
  rw [f1, f2, f3, f4]; rfl

end Go.Proofs.YtdencljnbilchaaGreatDoor
