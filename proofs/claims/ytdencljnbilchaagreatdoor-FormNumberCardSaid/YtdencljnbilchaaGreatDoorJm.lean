/- What math.Trunc gives of a star's argument, as printf's tests see it; the writer and the conversion as printf's Format holds them. What printf's Format comes to, and what holds at its labels: plain, no walk here. Chapter 12's known ones, by the spec. No walk here. -/
import Derived.Test.YtdencljnbilchaaGreatDoorJk
import Derived.Test.YtdencljnbilchaaGreatDoorGt
import Derived.Test.YtdencljnbilchaaGreatDoorVq
import Derived.Test.YtdencljnbilchaaGreatDoorJc
import Derived.Test.YtdencljnbilchaaGreatDoorWj

namespace Go
open Go.RowKit
section
variable {P : Program} {a : Act} {w : World} {Q : Exit → Act → World → Prop}
/-- Three labels; the first is fallen into the second's. -/
theorem wp_scope_three {c r0 r1 r2 : Code} (J : Nat → Act → World → Prop) (μ : Nat → Act → World → Nat) (h0 : findLabel c 0 = some (.seq .skip r0)) (h1 : findLabel c 1 = some (.seq .skip r1)) (h2 : findLabel c 2 = some (.seq .skip r2)) (hJ : ∀ l a w, J l a w → l = 0 ∨ l = 1 ∨ l = 2)
    (pass2 : ∀ a w, J 2 a w → r2.wp P (Exit.jumps (fun l' a' w' => J l' a' w' ∧ μ l' a' w' < μ 2 a w) Q) a w)
    (pass1 : ∀ a w, J 1 a w → r1.wp P (Exit.jumps (fun l' a' w' => J l' a' w' ∧ μ l' a' w' < μ 1 a w) Q) a w)
    (pass0 : (∀ m a w, J 1 a w → μ 1 a w ≤ m → r1.wp P (Exit.jumps (fun l' a' w' => J l' a' w' ∧ μ l' a' w' < m) Q) a w) → ∀ a w, J 0 a w → r0.wp P (Exit.jumps (fun l' a' w' => J l' a' w' ∧ μ l' a' w' < μ 0 a w) Q) a w)
    (first : (∀ a w, J 0 a w → r0.wp P (Exit.jumps J Q) a w) → c.wp P (Exit.jumps J Q) a w) : (Code.scope c).wp P Q a w := by
  have p1 : ∀ m a w, J 1 a w → μ 1 a w ≤ m → r1.wp P (Exit.jumps (fun l' a' w' => J l' a' w' ∧ μ l' a' w' < m) Q) a w := fun m a w h hm =>
    wp_mono (pass1 a w h) (Exit.jumps_mono (fun l a' w' q => ⟨q.1, Nat.lt_of_lt_of_le q.2 hm⟩))
  refine wp_scope_multi J μ (fun l a w h => ?_) (fun hp => first (fun a w h => hp 0 _ a w h0 h))
  rcases hJ l a w h with rfl | rfl | rfl
  · exact ⟨_, h0, pass0 p1 a w h⟩
  · exact ⟨_, h1, pass1 a w h⟩
  · exact ⟨_, h2, pass2 a w h⟩
end

/-- A conversion in block b, written in part. -/
structure SpW (w : World) (T : TypeId) (b : Nat) (l p bl z : Bool) (wd pr : Int) : Prop where
  s0 : w.cell? ⟨b, 0, none⟩ = some (.bool l)
  s1 : w.cell? ⟨b, 1, none⟩ = some (.bool p)
  s2 : w.cell? ⟨b, 2, none⟩ = some (.bool bl)
  s3 : w.cell? ⟨b, 3, none⟩ = some (.bool z)
  s4 : w.cell? ⟨b, 4, none⟩ = some (.int .i64 wd)
  s5 : w.cell? ⟨b, 5, none⟩ = some (.int .i64 pr)
  fz : ∀ i, w.frozen? ⟨b, i, none⟩ = false
  ty : HasT w b T

section
variable {w : World} {T : TypeId} {b : Nat} {l p bl z : Bool} {wd pr : Int}
theorem SpW.kept {w' : World} (h : SpW w T b l p bl z wd pr) (hk : w'.heap[b]? = w.heap[b]?) : SpW w' T b l p bl z wd pr where
  s0 := by rw [World.cell?_of_block hk]; exact h.s0
  s1 := by rw [World.cell?_of_block hk]; exact h.s1
  s2 := by rw [World.cell?_of_block hk]; exact h.s2
  s3 := by rw [World.cell?_of_block hk]; exact h.s3
  s4 := by rw [World.cell?_of_block hk]; exact h.s4
  s5 := by rw [World.cell?_of_block hk]; exact h.s5
  fz := fun j => by rw [World.frozen?_of_block hk]; exact h.fz j
  ty := h.ty.kept hk
theorem SpW.set0 (h : SpW w T b l p bl z wd pr) (x : Bool) : SpW (w.setCell ⟨b, 0, none⟩ (.bool x)) T b x p bl z wd pr where
  s0 := cs_same h.s0
  s1 := by rw [cs_other (addr_ne (by omega))]; exact h.s1
  s2 := by rw [cs_other (addr_ne (by omega))]; exact h.s2
  s3 := by rw [cs_other (addr_ne (by omega))]; exact h.s3
  s4 := by rw [cs_other (addr_ne (by omega))]; exact h.s4
  s5 := by rw [cs_other (addr_ne (by omega))]; exact h.s5
  fz := fun j => by rw [World.frozen?_setCell]; exact h.fz j
  ty := h.ty.set _ _
theorem SpW.set1 (h : SpW w T b l p bl z wd pr) (x : Bool) : SpW (w.setCell ⟨b, 1, none⟩ (.bool x)) T b l x bl z wd pr where
  s1 := cs_same h.s1
  s0 := by rw [cs_other (addr_ne (by omega))]; exact h.s0
  s2 := by rw [cs_other (addr_ne (by omega))]; exact h.s2
  s3 := by rw [cs_other (addr_ne (by omega))]; exact h.s3
  s4 := by rw [cs_other (addr_ne (by omega))]; exact h.s4
  s5 := by rw [cs_other (addr_ne (by omega))]; exact h.s5
  fz := fun j => by rw [World.frozen?_setCell]; exact h.fz j
  ty := h.ty.set _ _
theorem SpW.set2 (h : SpW w T b l p bl z wd pr) (x : Bool) : SpW (w.setCell ⟨b, 2, none⟩ (.bool x)) T b l p x z wd pr where
  s2 := cs_same h.s2
  s0 := by rw [cs_other (addr_ne (by omega))]; exact h.s0
  s1 := by rw [cs_other (addr_ne (by omega))]; exact h.s1
  s3 := by rw [cs_other (addr_ne (by omega))]; exact h.s3
  s4 := by rw [cs_other (addr_ne (by omega))]; exact h.s4
  s5 := by rw [cs_other (addr_ne (by omega))]; exact h.s5
  fz := fun j => by rw [World.frozen?_setCell]; exact h.fz j
  ty := h.ty.set _ _
theorem SpW.set3 (h : SpW w T b l p bl z wd pr) (x : Bool) : SpW (w.setCell ⟨b, 3, none⟩ (.bool x)) T b l p bl x wd pr where
  s3 := cs_same h.s3
  s0 := by rw [cs_other (addr_ne (by omega))]; exact h.s0
  s1 := by rw [cs_other (addr_ne (by omega))]; exact h.s1
  s2 := by rw [cs_other (addr_ne (by omega))]; exact h.s2
  s4 := by rw [cs_other (addr_ne (by omega))]; exact h.s4
  s5 := by rw [cs_other (addr_ne (by omega))]; exact h.s5
  fz := fun j => by rw [World.frozen?_setCell]; exact h.fz j
  ty := h.ty.set _ _
theorem SpW.set4 (h : SpW w T b l p bl z wd pr) (x : Int) : SpW (w.setCell ⟨b, 4, none⟩ (.int .i64 x)) T b l p bl z x pr where
  s4 := cs_same h.s4
  s0 := by rw [cs_other (addr_ne (by omega))]; exact h.s0
  s1 := by rw [cs_other (addr_ne (by omega))]; exact h.s1
  s2 := by rw [cs_other (addr_ne (by omega))]; exact h.s2
  s3 := by rw [cs_other (addr_ne (by omega))]; exact h.s3
  s5 := by rw [cs_other (addr_ne (by omega))]; exact h.s5
  fz := fun j => by rw [World.frozen?_setCell]; exact h.fz j
  ty := h.ty.set _ _
theorem SpW.set5 (h : SpW w T b l p bl z wd pr) (x : Int) : SpW (w.setCell ⟨b, 5, none⟩ (.int .i64 x)) T b l p bl z wd x where
  s5 := cs_same h.s5
  s0 := by rw [cs_other (addr_ne (by omega))]; exact h.s0
  s1 := by rw [cs_other (addr_ne (by omega))]; exact h.s1
  s2 := by rw [cs_other (addr_ne (by omega))]; exact h.s2
  s3 := by rw [cs_other (addr_ne (by omega))]; exact h.s3
  s4 := by rw [cs_other (addr_ne (by omega))]; exact h.s4
  fz := fun j => by rw [World.frozen?_setCell]; exact h.fz j
  ty := h.ty.set _ _
end
end Go
namespace Go.Proofs.YtdencljnbilchaaGreatDoor
open Go.RowKit

-- the stars

def geM (t : Nat) : Bool := FloatKind.f64.format.order t 13864612927836782592 == some .gt || FloatKind.f64.format.order t 13864612927836782592 == some .eq
def leM (t : Nat) : Bool := FloatKind.f64.format.order t 4641240890982006784 == some .lt || FloatKind.f64.format.order t 4641240890982006784 == some .eq

theorem starW_ways (x : Nat) (hx : x < 18446744073709551616) :
    (∃ v, starW x = some v ∧ -200 ≤ v ∧ v ≤ 200 ∧ ∀ W, Calls Tryz.prog 24 #[.float .f64 x] W fun e w' => ∃ t n, e = .returned (.float .f64 t) ∧ w' = W.drewN n ∧ geM t = true ∧ leM t = true ∧ ∀ W, (convert 36 3 (.float .f64 t)).run Tryz.prog W = .ok (.int .i64 v) W) ∨
    (starW x = none ∧ ∀ W, Calls Tryz.prog 24 #[.float .f64 x] W fun e w' => ∃ t n, e = .returned (.float .f64 t) ∧ w' = W.drewN n ∧ geM t = false) ∨
    (starW x = none ∧ ∀ W, Calls Tryz.prog 24 #[.float .f64 x] W fun e w' => ∃ t n, e = .returned (.float .f64 t) ∧ w' = W.drewN n ∧ geM t = true ∧ leM t = false) := by
  rcases class3 x hx with h | rfl | rfl | h
  · have o1 : FloatKind.f64.format.order x x = some .eq := by rw [order_num (read_num h) (read_num h), cmp_eq]
    have o2 := order_whole h cm200.1 cm200.2
    have o3 := order_whole h c200.1 c200.2
    obtain ⟨_, s2, s3⟩ := scal_trunc h
    have hfb := (finB_iff x).2 h
    have key := fun W => trunc_any x (by rw [o1]; simp) W
    by_cases h1 : valT x < -200
    · refine .inr (.inl ⟨by unfold starW; rw [if_neg (by omega)], fun W => (key W).mono fun e w' ⟨h2, h3⟩ => ⟨_, 0, h2, h3.symm, by unfold geM; rw [o2, cmp_lt h1]; rfl⟩⟩)
    · have hg : geM (truncN x) = true := by
        unfold geM; rw [o2]
        rcases Int.lt_or_eq_of_le (Int.not_lt.1 h1) with h2 | h2
        · rw [cmp_gt h2]; rfl
        · rw [← h2, cmp_eq]; rfl
      by_cases h4 : 200 < valT x
      · refine .inr (.inr ⟨by unfold starW; rw [if_neg (by omega)], fun W => (key W).mono fun e w' ⟨h2, h3⟩ => ⟨_, 0, h2, h3.symm, hg, by unfold leM; rw [o3, cmp_gt h4]; rfl⟩⟩)
      · have hl : leM (truncN x) = true := by
          unfold leM; rw [o3]
          rcases Int.lt_or_eq_of_le (Int.not_lt.1 h4) with h2 | h2
          · rw [cmp_lt h2]; rfl
          · rw [h2, cmp_eq]; rfl
        refine .inl ⟨valT x, by unfold starW; rw [if_pos ⟨hfb, by omega, by omega⟩], by omega, by omega, fun W => (key W).mono fun e w' ⟨h2, h3⟩ => ⟨_, 0, h2, h3.symm, hg, hl, fun W' => ?_⟩⟩
        have := conv_int s2 (by rw [valT_trunc h]; omega) (by rw [valT_trunc h]; omega) W'
        rw [valT_trunc h] at this
        exact this
  · have ht : truncN 9218868437227405312 = 9218868437227405312 := by kernel_rfl
    exact .inr (.inr ⟨by kernel_rfl, fun W => (trunc_any 9218868437227405312 (by rw [show FloatKind.f64.format.order 9218868437227405312 9218868437227405312 = some .eq by kernel_rfl]; simp) W).mono fun e w' ⟨h1, h2⟩ => ⟨_, 0, h1, h2.symm, by rw [ht]; kernel_rfl, by rw [ht]; kernel_rfl⟩⟩)
  · have ht : truncN 18442240474082181120 = 18442240474082181120 := by kernel_rfl
    exact .inr (.inl ⟨by kernel_rfl, fun W => (trunc_any 18442240474082181120 (by rw [show FloatKind.f64.format.order 18442240474082181120 18442240474082181120 = some .eq by kernel_rfl]; simp) W).mono fun e w' ⟨h1, h2⟩ => ⟨_, 0, h1, h2.symm, by rw [ht]; kernel_rfl⟩⟩)
  · refine .inr (.inl ⟨?_, fun W => (truncNone_any x hx h W).mono ?_⟩)
    · unfold starW
      rw [if_neg]
      rintro ⟨h', _⟩
      have := (finB_iff x).1 h'
      unfold finN at this; omega
    · rintro e w' ⟨y, n, rfl, hy, rfl⟩
      exact ⟨y, n, rfl, rfl, by unfold geM; rw [hy]; rfl⟩

theorem run_maxF {t c r : Nat} (h : ∀ W, (Builtin.max2 (.float .f64 t) (.float .f64 c)).run Tryz.prog W = .ok (.float .f64 r) W) (ts : Array TypeId) (ty : TypeId) (W : World) : (Builtin.max_ ts ty #[.float .f64 t, .float .f64 c]).run Tryz.prog W = .ok (.float .f64 r) W := by
  show Sem.run Tryz.prog (Builtin.max2 (.float .f64 t) (.float .f64 c) >>= pure) W = _
  simp only [Sem.run_bind, h, Result.andThen_ok, Sem.run_pure]

theorem starP_ways (x : Nat) (hx : x < 18446744073709551616) :
    (∃ v, starP x = some v ∧ -1 ≤ v ∧ v ≤ 200 ∧ ∀ W, Calls Tryz.prog 24 #[.float .f64 x] W fun e w' => ∃ t n, e = .returned (.float .f64 t) ∧ w' = W.drewN n ∧ leM t = true ∧ t < 18446744073709551616 ∧ infP (absN t) = false ∧ ∃ r, (∀ ts ty W, (Builtin.max_ ts ty #[.float .f64 t, .float .f64 13830554455654793216]).run Tryz.prog W = .ok (.float .f64 r) W) ∧ ∀ W, (convert 36 3 (.float .f64 r)).run Tryz.prog W = .ok (.int .i64 v) W) ∨
    (starP x = none ∧ ∀ W, Calls Tryz.prog 24 #[.float .f64 x] W fun e w' => ∃ t n, e = .returned (.float .f64 t) ∧ w' = W.drewN n ∧ leM t = false) ∨
    (starP x = none ∧ ∀ W, Calls Tryz.prog 24 #[.float .f64 x] W fun e w' => ∃ t n, e = .returned (.float .f64 t) ∧ w' = W.drewN n ∧ leM t = true ∧ t < 18446744073709551616 ∧ infP (absN t) = true) := by
  rcases class3 x hx with h | rfl | rfl | h
  · have o1 : FloatKind.f64.format.order x x = some .eq := by rw [order_num (read_num h) (read_num h), cmp_eq]
    have o2 := order_whole h cm1.1 cm1.2
    have o3 := order_whole h c200.1 c200.2
    obtain ⟨_, s2, s3⟩ := scal_trunc h
    have hfb := (finB_iff x).2 h
    have key := fun W => trunc_any x (by rw [o1]; simp) W
    have hv1 : valT 13830554455654793216 = -1 := by kernel_rfl
    have c1 : ∀ W, (convert 36 3 (.float .f64 13830554455654793216)).run Tryz.prog W = .ok (.int .i64 (-1)) W := fun W => by
      have := conv_int cm1.1 (by rw [hv1]; omega) (by rw [hv1]; omega) W
      rw [hv1] at this; exact this
    by_cases h4 : 200 < valT x
    · refine .inr (.inl ⟨by unfold starP; rw [if_neg (by omega)], fun W => (key W).mono fun e w' ⟨h2, h3⟩ => ⟨_, 0, h2, h3.symm, by unfold leM; rw [o3, cmp_gt h4]; rfl⟩⟩)
    · have hl : leM (truncN x) = true := by
        unfold leM; rw [o3]
        rcases Int.lt_or_eq_of_le (Int.not_lt.1 h4) with h2 | h2
        · rw [cmp_lt h2]; rfl
        · rw [h2, cmp_eq]; rfl
      refine .inl ⟨max (valT x) (-1), by unfold starP; rw [if_pos ⟨hfb, by omega⟩], by omega, by omega, fun W => (key W).mono fun e w' ⟨h2, h3⟩ => ⟨_, 0, h2, h3.symm, hl, s3, infP_fin (absN_ok s2).2.1, ?_⟩⟩
      have conv : -1 ≤ valT x → ∀ W, (convert 36 3 (.float .f64 (truncN x))).run Tryz.prog W = .ok (.int .i64 (valT x)) W := fun hge W' => by
        have := conv_int s2 (by rw [valT_trunc h]; omega) (by rw [valT_trunc h]; omega) W'
        rw [valT_trunc h] at this
        exact this
      rcases Int.lt_trichotomy (valT x) (-1) with h5 | h5 | h5
      · refine ⟨13830554455654793216, run_maxF fun W => ?_, by rw [show max (valT x) (-1) = -1 by omega]; exact c1⟩
        unfold Builtin.max2
        simp only [o2, cmp_lt h5]; rfl
      · have e : max (valT x) (-1) = -1 := by omega
        rw [e]
        have cv := conv (by omega)
        rw [h5] at cv
        cases hn : (FloatKind.f64.decode (truncN x)).neg with
        | true =>
          refine ⟨13830554455654793216, run_maxF fun W => ?_, c1⟩
          unfold Builtin.max2
          simp only [o2, h5, cmp_eq, hn]; rfl
        | false =>
          refine ⟨truncN x, run_maxF fun W => ?_, cv⟩
          unfold Builtin.max2
          simp only [o2, h5, cmp_eq, hn]; rfl
      · refine ⟨truncN x, run_maxF fun W => ?_, by rw [show max (valT x) (-1) = valT x by omega]; exact conv (by omega)⟩
        unfold Builtin.max2
        simp only [o2, cmp_gt h5]; rfl
  · have ht : truncN 9218868437227405312 = 9218868437227405312 := by kernel_rfl
    exact .inr (.inl ⟨by kernel_rfl, fun W => (trunc_any 9218868437227405312 (by rw [show FloatKind.f64.format.order 9218868437227405312 9218868437227405312 = some .eq by kernel_rfl]; simp) W).mono fun e w' ⟨h1, h2⟩ => ⟨_, 0, h1, h2.symm, by rw [ht]; kernel_rfl⟩⟩)
  · have ht : truncN 18442240474082181120 = 18442240474082181120 := by kernel_rfl
    exact .inr (.inr ⟨by kernel_rfl, fun W => (trunc_any 18442240474082181120 (by rw [show FloatKind.f64.format.order 18442240474082181120 18442240474082181120 = some .eq by kernel_rfl]; simp) W).mono fun e w' ⟨h1, h2⟩ => ⟨_, 0, h1, h2.symm, by rw [ht]; kernel_rfl, by rw [ht]; omega, by rw [ht]; kernel_rfl⟩⟩)
  · refine .inr (.inl ⟨?_, fun W => (truncNone_any x hx h W).mono ?_⟩)
    · unfold starP
      rw [if_neg]
      rintro ⟨h', _⟩
      have := (finB_iff x).1 h'
      unfold finN at this; omega
    · rintro e w' ⟨y, n, rfl, hy, rfl⟩
      exact ⟨y, n, rfl, rfl, by unfold leM; rw [hy]; rfl⟩

-- the state

/-- The writer lies in the first new block, the conversion in the second. -/
structure FmW (w0 w : World) (v a : Value) (long : Bool) (out : List UInt8) (A : List FArg) (l p bl z : Bool) (wd pr : Int) : Prop where
  be : Below w0.heap.size w0 w
  wr : WrF w 55 w0.heap.size v long a
  sp : SpW w 57 (w0.heap.size + 1) l p bl z wd pr
  ow : w.ownsRow (w0.heap.size + 2) 5 1 v out.length (u8s out)
  ol : out.length ≤ 256
  ar : ArgsAt w w0.heap.size a A

section
variable {w0 w : World} {v a : Value} {long : Bool} {out : List UInt8} {A : List FArg} {l p bl z : Bool} {wd pr : Int}

theorem FmW.size (h : FmW w0 w v a long out A l p bl z wd pr) : w0.heap.size + 2 ≤ w.heap.size := by
  have := h.sp.ty.lt; omega

/-- New blocks only. -/
theorem FmW.below {w' : World} (h : FmW w0 w v a long out A l p bl z wd pr) (hb : Below w.heap.size w w') : FmW w0 w' v a long out A l p bl z wd pr := by
  have hs := h.size
  have keep : ∀ k, k < w.heap.size → w'.heap[k]? = w.heap[k]? := fun k hk => hb.block k hk
  refine ⟨h.be.trans (hb.mono h.be.size), h.wr.kept (keep _ h.wr.ty.lt), h.sp.kept (keep _ h.sp.ty.lt), ?_, h.ol, h.ar.kept fun k hk => keep k (by omega)⟩
  exact owns_kept h.ow fun g hg => by
    obtain ⟨ba, cap, _, h3⟩ := owns_slice h.ow
    obtain ⟨_, cur, z, hz⟩ := h3 g hg
    exact keep g (Array.getElem?_eq_some_iff.1 hz).1

/-- The writer's block is written by arg. -/
theorem FmW.arg {w' : World} {a' : Value} {A' : List FArg} (h : FmW w0 w v a long out A l p bl z wd pr) (hw : WrF w' 55 w0.heap.size v long a') (ha : ArgsAt w' w0.heap.size a' A') (hb : OnlyB w0.heap.size w w') : FmW w0 w' v a' long out A' l p bl z wd pr := by
  have hs := h.size
  refine ⟨hb.below_of h.be (Nat.le_refl _) (by omega), hw, h.sp.kept (hb.block _ h.sp.ty.lt (fun e => by have := Option.some.inj e; omega)), ?_, h.ol, ha⟩
  exact owns_kept h.ow fun g hg => by
    obtain ⟨ba, cap, _, h3⟩ := owns_slice h.ow
    obtain ⟨hge, cur, z, hz⟩ := h3 g hg
    exact hb.block g (Array.getElem?_eq_some_iff.1 hz).1 (fun e => by have := Option.some.inj e; omega)

/-- The conversion's block is written. -/
theorem FmW.spec {w' : World} {l' p' bl' z' : Bool} {wd' pr' : Int} (h : FmW w0 w v a long out A l p bl z wd pr) (hs' : SpW w' 57 (w0.heap.size + 1) l' p' bl' z' wd' pr') (hb : OnlyB (w0.heap.size + 1) w w') : FmW w0 w' v a long out A l' p' bl' z' wd' pr' := by
  have hs := h.size
  refine ⟨hb.below_of h.be (by omega) (by omega), h.wr.kept (hb.block _ h.wr.ty.lt (fun e => by have := Option.some.inj e; omega)), hs', ?_, h.ol, h.ar.kept fun k hk => hb.block k (by omega) (fun e => by have := Option.some.inj e; omega)⟩
  exact owns_kept h.ow fun g hg => by
    obtain ⟨ba, cap, _, h3⟩ := owns_slice h.ow
    obtain ⟨hge, cur, z, hz⟩ := h3 g hg
    exact hb.block g (Array.getElem?_eq_some_iff.1 hz).1 (fun e => by have := Option.some.inj e; omega)

/-- A text is put. -/
theorem FmW.put {w' : World} {v' : Value} {out' : List UInt8} {long' : Bool} (h : FmW w0 w v a long out A l p bl z wd pr) (hw : WrF w' 55 w0.heap.size v' long' a) (ho : w'.ownsRow (w0.heap.size + 2) 5 1 v' out'.length (u8s out')) (hol : out'.length ≤ 256)
    (hp : PutOn w0.heap.size v w w') : FmW w0 w' v' a long' out' A l p bl z wd pr := by
  have hs := h.size
  have hv : ∀ k, v.ownBlock = some k → w0.heap.size + 2 ≤ k := fun k hk => by
    obtain ⟨ba, cap, _, h3⟩ := owns_slice h.ow
    exact (h3 k hk).1
  refine ⟨hp.below h.be (Nat.le_refl _) (by omega) (fun k hk => by have := hv k hk; omega), hw, h.sp.kept (hp.heap h.sp.ty.lt (by omega) (fun e => by have := hv _ e; omega)), ho, hol,
    h.ar.kept fun k hk => hp.heap (by omega) (by omega) (fun e => by have := hv _ e; omega)⟩
end

end Go.Proofs.YtdencljnbilchaaGreatDoor

namespace Go.Proofs.YtdencljnbilchaaGreatDoor
open Go.RowKit

def argOk (a : FArg) : Prop := a.n < 18446744073709551616 ∧ a.s.length ≤ 5000
def argsOk (A : List FArg) : Prop := ∀ a ∈ A, argOk a
theorem argsOk.tail {A : List FArg} (h : argsOk A) : argsOk A.tail := fun a ha => h a (List.mem_of_mem_tail ha)
theorem argsOk.head {A : List FArg} (h : argsOk A) : argOk (argH A) := by
  cases A with
  | nil => exact ⟨by decide, by decide⟩
  | cons a r => exact h a (List.mem_cons_self ..)

/-- An error's number. -/
def errC (n : Nat) : Int := if n = 0 then 0 else if n = 1 then 46 else 43
def FormEnd (l : List UInt8) (A0 : List FArg) (w : World) (e : Ending) (w' : World) : Prop :=
  e = .returned (.tuple #[.string ⟨(formAll uintT l A0).1.toArray⟩, .int .i64 (errC (formAll uintT l A0).2)]) ∧ Below w.heap.size w w'

theorem formEnd_bad {l : List UInt8} {A0 : List FArg} {w w' : World} (h : formT uintT l (l.length + 1) 0 A0 = none) (hb : Below w.heap.size w w') : FormEnd l A0 w (.returned (.tuple #[.string ⟨#[]⟩, .int .i64 46])) w' := by
  refine ⟨?_, hb⟩
  rw [formAll_none h]; rfl
theorem formEnd_long {l t out : List UInt8} {A0 : List FArg} {w w' : World} (h : formT uintT l (l.length + 1) 0 A0 = some t) (hr : WrR t out true) (hb : Below w.heap.size w w') : FormEnd l A0 w (.returned (.tuple #[.string ⟨#[]⟩, .int .i64 43])) w' := by
  refine ⟨?_, hb⟩
  rw [formAll_some h, if_pos (of_decide_eq_true hr.1.symm)]; rfl
theorem formEnd_ok {l t out : List UInt8} {A0 : List FArg} {w w' : World} (h : formT uintT l (l.length + 1) 0 A0 = some t) (hr : WrR t out false) (hb : Below w.heap.size w w') : FormEnd l A0 w (.returned (.tuple #[.string ⟨out.toArray⟩, .int .i64 0])) w' := by
  refine ⟨?_, hb⟩
  have := of_decide_eq_false hr.1.symm
  rw [formAll_some h, if_neg this, hr.2.2 rfl]; rfl

/-- What put leaves, on the spec's side. -/
theorem WrR.of_put {t out out' : List UInt8} {s : ByteArray} {long long' : Bool} (h : WrR t out long)
    (hp : (256 - out.length < s.size ∧ long' = true ∧ out' = out) ∨ (s.size ≤ 256 - out.length ∧ long = true ∧ long' = true ∧ out' = out) ∨ (s.size ≤ 256 - out.length ∧ long = false ∧ long' = false ∧ out' = out ++ s.data.toList)) : WrR (t ++ s.data.toList) out' long' := by
  have z : s.size = s.data.toList.length := rfl
  rcases hp with ⟨h1, rfl, rfl⟩ | ⟨_, rfl, rfl, rfl⟩ | ⟨h1, rfl, rfl, rfl⟩
  · exact h.full (by omega)
  · exact h.skip
  · exact h.put (by omega)

theorem FmW.start {w : World} {v : Value} {A : List FArg} (hA : ArgsAt w w.heap.size v A) :
    FmW w ((w.alloc (.cells #[.slice none 0 0, .bool false, v] 55)).alloc (.cells #[.bool false, .bool false, .bool false, .bool false, .int .i64 0, .int .i64 0] 57)) (.slice none 0 0) v false [] A false false false false 0 0 := by
  have e : (w.alloc (.cells #[.slice none 0 0, .bool false, v] 55)).heap.size = w.heap.size + 1 := by simp
  refine ⟨((Below.refl _ _).alloc (Nat.le_refl _) _).alloc (by simp) _, ?_, ?_, ⟨rfl, .inl ⟨rfl, rfl⟩⟩, by simp, hA.kept fun k hk => ?_⟩
  · refine WrF.alloc ?_ _
    exact ⟨by rw [World.cell?_alloc_at _ _ _ _ rfl]; rfl, by rw [World.cell?_alloc_at _ _ _ _ rfl]; rfl, by rw [World.cell?_alloc_at _ _ _ _ rfl]; rfl, fun i => World.frozen?_alloc_at _ _ _ _ rfl, HasT.new _ _ _⟩
  · rw [← e]
    exact ⟨by rw [World.cell?_alloc_at _ _ _ _ rfl]; rfl, by rw [World.cell?_alloc_at _ _ _ _ rfl]; rfl, by rw [World.cell?_alloc_at _ _ _ _ rfl]; rfl, by rw [World.cell?_alloc_at _ _ _ _ rfl]; rfl, by rw [World.cell?_alloc_at _ _ _ _ rfl]; rfl, by rw [World.cell?_alloc_at _ _ _ _ rfl]; rfl, fun i => World.frozen?_alloc_at _ _ _ _ rfl, HasT.new _ _ _⟩
  · rw [Go.heap_alloc_old _ _ (by omega), Go.heap_alloc_old _ _ hk]

-- flags

theorem nF_on {l : List UInt8} {k : Nat} (h : k < l.length) (hc : isFlag l[k] = true) : nWhile isFlag (l.drop k) = nWhile isFlag (l.drop (k + 1)) + 1 := nWhile_yes isFlag l k h hc
theorem nF_off {l : List UInt8} {k : Nat} (h : k < l.length) (hc : isFlag l[k] = false) : nWhile isFlag (l.drop k) = 0 := nWhile_no isFlag l k h hc

/-- The flags of the first j bytes behind the place k. -/
def FlagsR (l : List UInt8) (k j : Nat) (b45 b43 b32 b48 : Bool) : Prop := b45 = flagB l k j 45 ∧ b43 = flagB l k j 43 ∧ b32 = flagB l k j 32 ∧ b48 = flagB l k j 48

theorem FlagsR.zero (l : List UInt8) (k : Nat) : FlagsR l k 0 false false false false := ⟨rfl, rfl, rfl, rfl⟩
theorem FlagsR.step {l : List UInt8} {k j : Nat} {a b c d : Bool} (h : FlagsR l k j a b c d) {x : UInt8} (hx : l[k + j]? = some x) : FlagsR l k (j + 1) (a || (x == 45)) (b || (x == 43)) (c || (x == 32)) (d || (x == 48)) := by
  obtain ⟨h1, h2, h3, h4⟩ := h
  exact ⟨by rw [flagB_succ hx, h1], by rw [flagB_succ hx, h2], by rw [flagB_succ hx, h3], by rw [flagB_succ hx, h4]⟩

theorem FlagsR.s45 {l : List UInt8} {k j : Nat} {a b c d : Bool} (h : FlagsR l k j a b c d) (hx : l[k + j]? = some 45) : FlagsR l k (j + 1) true b c d := by
  have := h.step hx
  cases a <;> cases b <;> cases c <;> cases d <;> exact this
theorem FlagsR.s43 {l : List UInt8} {k j : Nat} {a b c d : Bool} (h : FlagsR l k j a b c d) (hx : l[k + j]? = some 43) : FlagsR l k (j + 1) a true c d := by
  have := h.step hx
  cases a <;> cases b <;> cases c <;> cases d <;> exact this
theorem FlagsR.s32 {l : List UInt8} {k j : Nat} {a b c d : Bool} (h : FlagsR l k j a b c d) (hx : l[k + j]? = some 32) : FlagsR l k (j + 1) a b true d := by
  have := h.step hx
  cases a <;> cases b <;> cases c <;> cases d <;> exact this
theorem FlagsR.s48 {l : List UInt8} {k j : Nat} {a b c d : Bool} (h : FlagsR l k j a b c d) (hx : l[k + j]? = some 48) : FlagsR l k (j + 1) a b c true := by
  have := h.step hx
  cases a <;> cases b <;> cases c <;> cases d <;> exact this

-- what holds at the labels

/-- Ahead of a piece. -/
def JF0 (f : ByteArray) (A0 : List FArg) (w : World) (v0 : Value) (a' : Act) (wr : World) : Prop :=
  ∃ (k : Nat) (v av : Value) (long : Bool) (out t : List UInt8) (A : List FArg) (l p bl z : Bool) (wd pr : Int), k ≤ f.size ∧ Hid (FmW w wr v av long out A l p bl z wd pr) ∧ Hid (argsOk A) ∧ Hid (WrR t out long) ∧ Hid (FormR uintT f.data.toList A0 t k A) ∧
    ∃ (g0 g1 g2 g3 g4 g5 g6 g7 g8 g9 : V20), a' = { tmps := #[.string f, v0, g0.a, g0.b, g0.c, g0.d, .pointer (some ⟨w.heap.size, 0, none⟩), .pointer (some ⟨w.heap.size + 1, 0, none⟩), .int .i64 k, g0.e, g0.f, g0.g, g0.h, g0.i, g0.j, g0.k, g0.l, g0.m, g0.n, g0.o, g0.p, g0.q, g0.r, g0.s, g0.t, g1.a, g1.b, g1.c, g1.d, g1.e, g1.f, g1.g, g1.h, g1.i, g1.j, g1.k, g1.l, g1.m, g1.n, g1.o, g1.p, g1.q, g1.r, g1.s, g1.t, g2.a, g2.b, g2.c, g2.d, g2.e, g2.f, g2.g, g2.h, g2.i, g2.j, g2.k, g2.l, g2.m, g2.n, g2.o, g2.p, g2.q, g2.r, g2.s, g2.t, g3.a, g3.b, g3.c, g3.d, g3.e, g3.f, g3.g, g3.h, g3.i, g3.j, g3.k, g3.l, g3.m, g3.n, g3.o, g3.p, g3.q, g3.r, g3.s, g3.t, g4.a, g4.b, g4.c, g4.d, g4.e, g4.f, g4.g, g4.h, g4.i, g4.j, g4.k, g4.l, g4.m, g4.n, g4.o, g4.p, g4.q, g4.r, g4.s, g4.t, g5.a, g5.b, g5.c, g5.d, g5.e, g5.f, g5.g, g5.h, g5.i, g5.j, g5.k, g5.l, g5.m, g5.n, g5.o, g5.p, g5.q, g5.r, g5.s, g5.t, g6.a, g6.b, g6.c, g6.d, g6.e, g6.f, g6.g, g6.h, g6.i, g6.j, g6.k, g6.l, g6.m, g6.n, g6.o, g6.p, g6.q, g6.r, g6.s, g6.t, g7.a, g7.b, g7.c, g7.d, g7.e, g7.f, g7.g, g7.h, g7.i, g7.j, g7.k, g7.l, g7.m, g7.n, g7.o, g7.p, g7.q, g7.r, g7.s, g7.t, g8.a, g8.b, g8.c, g8.d, g8.e, g8.f, g8.g, g8.h, g8.i, g8.j, g8.k, g8.l, g8.m, g8.n, g8.o, g8.p, g8.q, g8.r, g8.s, g8.t, g9.a, g9.b, g9.c, g9.d, g9.e, g9.f, g9.g, g9.h, g9.i, g9.j], defers := [] }

/-- A conversion's flags: j of them are read. -/
def JF1 (f : ByteArray) (A0 : List FArg) (w : World) (v0 : Value) (a' : Act) (wr : World) : Prop :=
  ∃ (k k0 j : Nat) (v av : Value) (long : Bool) (out t : List UInt8) (A : List FArg) (l p bl z : Bool), k ≤ f.size ∧ k = k0 + 1 + j ∧ Hid (FmW w wr v av long out A l p bl z 0 (-1)) ∧ Hid (argsOk A) ∧ Hid (WrR t out long) ∧ Hid (FormR uintT f.data.toList A0 t k0 A ∧ f.data.toList[k0]? = some 37 ∧ f.data.toList[k0 + 1]? ≠ some 37) ∧
    Hid (j + nWhile isFlag (f.data.toList.drop k) = nWhile isFlag (f.data.toList.drop (k0 + 1))) ∧ Hid (FlagsR f.data.toList (k0 + 1) j l p bl z) ∧
    ∃ (g0 g1 g2 g3 g4 g5 g6 g7 g8 g9 : V20), a' = { tmps := #[.string f, v0, g0.a, g0.b, g0.c, g0.d, .pointer (some ⟨w.heap.size, 0, none⟩), .pointer (some ⟨w.heap.size + 1, 0, none⟩), .int .i64 k, g0.e, g0.f, g0.g, g0.h, g0.i, g0.j, g0.k, g0.l, g0.m, g0.n, g0.o, g0.p, g0.q, g0.r, g0.s, g0.t, g1.a, g1.b, g1.c, g1.d, g1.e, g1.f, g1.g, g1.h, g1.i, g1.j, g1.k, g1.l, g1.m, g1.n, g1.o, g1.p, g1.q, g1.r, g1.s, g1.t, g2.a, g2.b, g2.c, g2.d, g2.e, g2.f, g2.g, g2.h, g2.i, g2.j, g2.k, g2.l, g2.m, g2.n, g2.o, g2.p, g2.q, g2.r, g2.s, g2.t, g3.a, g3.b, g3.c, g3.d, g3.e, g3.f, g3.g, g3.h, g3.i, g3.j, g3.k, g3.l, g3.m, g3.n, g3.o, g3.p, g3.q, g3.r, g3.s, g3.t, g4.a, g4.b, g4.c, g4.d, g4.e, g4.f, g4.g, g4.h, g4.i, g4.j, g4.k, g4.l, g4.m, g4.n, g4.o, g4.p, g4.q, g4.r, g4.s, g4.t, g5.a, g5.b, g5.c, g5.d, g5.e, g5.f, g5.g, g5.h, g5.i, g5.j, g5.k, g5.l, g5.m, g5.n, g5.o, g5.p, g5.q, g5.r, g5.s, g5.t, g6.a, g6.b, g6.c, g6.d, g6.e, g6.f, g6.g, g6.h, g6.i, g6.j, g6.k, g6.l, g6.m, g6.n, g6.o, g6.p, g6.q, g6.r, g6.s, g6.t, g7.a, g7.b, g7.c, g7.d, g7.e, g7.f, g7.g, g7.h, g7.i, g7.j, g7.k, g7.l, g7.m, g7.n, g7.o, g7.p, g7.q, g7.r, g7.s, g7.t, g8.a, g8.b, g8.c, g8.d, g8.e, g8.f, g8.g, g8.h, g8.i, g8.j, g8.k, g8.l, g8.m, g8.n, g8.o, g8.p, g8.q, g8.r, g8.s, g8.t, g9.a, g9.b, g9.c, g9.d, g9.e, g9.f, g9.g, g9.h, g9.i, g9.j], defers := [] }

/-- Behind a conversion's flags. -/
def JF2 (f : ByteArray) (A0 : List FArg) (w : World) (v0 : Value) (a' : Act) (wr : World) : Prop :=
  ∃ (k k0 j : Nat) (v av : Value) (long : Bool) (out t : List UInt8) (A : List FArg) (l p bl z : Bool), k < f.size ∧ k = k0 + 1 + j ∧ Hid (FmW w wr v av long out A l p bl z 0 (-1)) ∧ Hid (argsOk A) ∧ Hid (WrR t out long) ∧ Hid (FormR uintT f.data.toList A0 t k0 A ∧ f.data.toList[k0]? = some 37 ∧ f.data.toList[k0 + 1]? ≠ some 37) ∧
    Hid (j = nWhile isFlag (f.data.toList.drop (k0 + 1))) ∧ Hid (FlagsR f.data.toList (k0 + 1) j l p bl z) ∧
    ∃ (g0 g1 g2 g3 g4 g5 g6 g7 g8 g9 : V20), a' = { tmps := #[.string f, v0, g0.a, g0.b, g0.c, g0.d, .pointer (some ⟨w.heap.size, 0, none⟩), .pointer (some ⟨w.heap.size + 1, 0, none⟩), .int .i64 k, g0.e, g0.f, g0.g, g0.h, g0.i, g0.j, g0.k, g0.l, g0.m, g0.n, g0.o, g0.p, g0.q, g0.r, g0.s, g0.t, g1.a, g1.b, g1.c, g1.d, g1.e, g1.f, g1.g, g1.h, g1.i, g1.j, g1.k, g1.l, g1.m, g1.n, g1.o, g1.p, g1.q, g1.r, g1.s, g1.t, g2.a, g2.b, g2.c, g2.d, g2.e, g2.f, g2.g, g2.h, g2.i, g2.j, g2.k, g2.l, g2.m, g2.n, g2.o, g2.p, g2.q, g2.r, g2.s, g2.t, g3.a, g3.b, g3.c, g3.d, g3.e, g3.f, g3.g, g3.h, g3.i, g3.j, g3.k, g3.l, g3.m, g3.n, g3.o, g3.p, g3.q, g3.r, g3.s, g3.t, g4.a, g4.b, g4.c, g4.d, g4.e, g4.f, g4.g, g4.h, g4.i, g4.j, g4.k, g4.l, g4.m, g4.n, g4.o, g4.p, g4.q, g4.r, g4.s, g4.t, g5.a, g5.b, g5.c, g5.d, g5.e, g5.f, g5.g, g5.h, g5.i, g5.j, g5.k, g5.l, g5.m, g5.n, g5.o, g5.p, g5.q, g5.r, g5.s, g5.t, g6.a, g6.b, g6.c, g6.d, g6.e, g6.f, g6.g, g6.h, g6.i, g6.j, g6.k, g6.l, g6.m, g6.n, g6.o, g6.p, g6.q, g6.r, g6.s, g6.t, g7.a, g7.b, g7.c, g7.d, g7.e, g7.f, g7.g, g7.h, g7.i, g7.j, g7.k, g7.l, g7.m, g7.n, g7.o, g7.p, g7.q, g7.r, g7.s, g7.t, g8.a, g8.b, g8.c, g8.d, g8.e, g8.f, g8.g, g8.h, g8.i, g8.j, g8.k, g8.l, g8.m, g8.n, g8.o, g8.p, g8.q, g8.r, g8.s, g8.t, g9.a, g9.b, g9.c, g9.d, g9.e, g9.f, g9.g, g9.h, g9.i, g9.j], defers := [] }

def JFm (f : ByteArray) (A0 : List FArg) (w : World) (v0 : Value) : Nat → Act → World → Prop
  | 0 => JF0 f A0 w v0
  | 1 => JF1 f A0 w v0
  | 2 => JF2 f A0 w v0
  | _ => fun _ _ => False

def muF (f : ByteArray) (lb : Nat) (a' : Act) (_ : World) : Nat := 3 * (f.size - (intOf (a'.tmps.getD 8 undef)).toNat) + (if lb = 1 then 1 else if lb = 0 then 2 else 0)
theorem muF_at (f : ByteArray) (lb : Nat) (a : Act) (w : World) (k : Nat) (ha : a.tmps.getD 8 undef = .int .i64 k) : muF f lb a w = 3 * (f.size - k) + (if lb = 1 then 1 else if lb = 0 then 2 else 0) := by
  unfold muF; rw [ha]; rfl
theorem muF_lt {f : ByteArray} {lb lb' : Nat} {a b : Act} {w w' : World} {k k' : Nat} (h : k < k') (hk : k < f.size) (ha : a.tmps.getD 8 undef = .int .i64 k) (hb : b.tmps.getD 8 undef = .int .i64 k') : muF f lb' b w' < muF f lb a w := by
  rw [muF_at f lb a w k ha, muF_at f lb' b w' k' hb]
  have : (if lb' = 1 then 1 else if lb' = 0 then 2 else 0 : Nat) ≤ 2 := by split <;> (try split) <;> omega
  omega
theorem muF_le1 {f : ByteArray} {a b : Act} {w w' : World} {k : Nat} (hk : k < f.size) (ha : a.tmps.getD 8 undef = .int .i64 k) (hb : b.tmps.getD 8 undef = .int .i64 (k + 1 : Nat)) : muF f 1 b w' ≤ muF f 0 a w := by
  rw [muF_at f 0 a w k ha, muF_at f 1 b w' _ hb, if_pos rfl, if_neg (by omega), if_pos rfl]; omega
theorem muF_12 {f : ByteArray} {a b : Act} {w w' : World} {k : Nat} (ha : a.tmps.getD 8 undef = .int .i64 k) (hb : b.tmps.getD 8 undef = .int .i64 k) : muF f 2 b w' < muF f 1 a w := by
  rw [muF_at f 1 a w k ha, muF_at f 2 b w' k hb, if_pos rfl, if_neg (by omega), if_neg (by omega)]; omega

end Go.Proofs.YtdencljnbilchaaGreatDoor

namespace Go.Proofs.YtdencljnbilchaaGreatDoor

def numA (x : Nat) : FArg := ⟨x, [], true⟩

theorem k12a : formAll uintT [37, 53, 46, 50, 102, 124, 37, 45, 52, 100, 124, 37, 48, 52, 100] [numA 4614256650576692846, numA 4619567317775286272, numA 13842939354630062080] = ([32, 51, 46, 49, 52, 124, 55, 32, 32, 32, 124, 45, 48, 48, 55], 0) := by kernel_rfl
theorem k12b : formAll uintT [37, 120, 32, 37, 111, 32, 37, 99, 37, 99, 32, 37, 115] [numA 4643176031446892544, numA 4620693217682128896, numA 4634274385308418048, ⟨0, [104, 105], false⟩, ⟨0, [121, 101, 115], false⟩] = ([102, 102, 32, 49, 48, 32, 65, 104, 32, 121, 101, 115], 0) := by kernel_rfl
theorem k12c : formAll uintT [37, 113] [] = ([], 1) := by kernel_rfl
theorem k12d : formAll uintT [37] [] = ([], 1) := by kernel_rfl
theorem k12e : formAll uintT [37, 57, 57, 57, 100] [numA 4607182418800017408] = ([], 1) := by kernel_rfl
theorem k12f : formAll uintT [37, 46, 54, 103] [⟨4591870180066957722, [48], true⟩] = ([48, 46, 49], 0) := by kernel_rfl
theorem k12g : formAll uintT [37, 46, 54, 103] [⟨9094988921128908188, [], true⟩] = ([49, 101, 43, 51, 48, 48], 0) := by kernel_rfl
theorem k12h : formAll uintT [37, 100, 32, 37, 115] [⟨0, [], false⟩] = ([48, 32], 0) := by kernel_rfl
theorem k12i : formAll uintT [37, 42, 100, 124, 37, 46, 42, 102, 124, 37, 45, 42, 115, 124, 37, 53, 99, 124, 37, 88, 124, 37, 117, 124, 37, 105, 124, 37, 43, 100, 124, 37, 32, 100, 124, 37, 71, 124, 37, 101] [numA 4617315517961601024, numA 4631107791820423168, numA 4607182418800017408, numA 4612248968380809216, numA 4616189618054758400, ⟨0, [97, 98], false⟩, numA 4634344754052595712, numA 13832806255468478464, numA 13832806255468478464, numA 4615964438073389875, numA 4615964438073389875, numA 4615964438073389875, numA 4532020583610935537, numA 4683220244930494464] = ([32, 32, 32, 52, 50, 124, 50, 46, 50, 124, 97, 98, 32, 32, 124, 32, 32, 32, 32, 66, 124, 45, 49, 124, 45, 49, 124, 51, 124, 43, 51, 124, 32, 51, 124, 49, 69, 45, 48, 53, 124, 49, 46, 50, 51, 52, 53, 54, 48, 101, 43, 48, 53], 0) := by kernel_rfl

end Go.Proofs.YtdencljnbilchaaGreatDoor
