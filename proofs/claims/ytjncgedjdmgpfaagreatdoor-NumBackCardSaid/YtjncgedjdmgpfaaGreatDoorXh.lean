/- The walk of atof64exact, whatever the number. atof64exact: the whole. -/
import Derived.Test.YtjncgedjdmgpfaaGreatDoorXg
import Derived.Test.YtjncgedjdmgpfaaGreatDoorPn

namespace Go.Proofs.YtjncgedjdmgpfaaGreatDoor
open Go.RowKit

theorem pow10_nz : ∀ i : Fin 23, NZ (pow10L.getD i 0) := by
  have h : ∀ i : Fin 23, (match FloatKind.f64.format.read (pow10L.getD i 0) with | .number _ m _ => decide (m ≠ 0) | _ => false) = true := by decide +kernel
  intro i
  have := h i
  cases hd : FloatKind.f64.format.read (pow10L.getD i 0) with
  | number s m e => rw [hd] at this; exact ⟨s, m, e, hd, by simpa using this⟩
  | infinity s => rw [hd] at this; simp at this
  | nan s m => rw [hd] at this; simp at this

def exP (m : Nat) (p : Int) (ng : Bool) (x : Nat) (b : Bool) : Prop := x < 18446744073709551616 ∧ NN x ∧
  ∀ w, LaidF w → Calls Tryz.prog 95 #[.int .u64 m, .int .i64 p, .bool ng] w fun e w' => e = .returned (.tuple #[.float .f64 x, .bool b]) ∧ w = w'

theorem run_negF (f : Nat) (w : World) : Sem.run Tryz.prog (Op.unary .neg (.float .f64 f)) w = .ok (.float .f64 (f ^^^ 9223372036854775808)) w := rfl

set_option maxRecDepth 100000 in
set_option maxHeartbeats 4000000 in
/-- Behind the sign: F is the number. -/
theorem exact_sg (m F : Nat) (p : Int) (ng : Bool) (hb0 : Hid (((m : Int) / 4503599627370496 != 0) = false)) (hp : -1000000 ≤ p) (hp' : p ≤ 1000000) (hF : NN F) (hlF : F < 18446744073709551616)
    (hc : (ng = false ∧ floatOfInt .f64 m = F) ∨ (ng = true ∧ ∃ f, floatOfInt .f64 m = f ∧ f ^^^ 9223372036854775808 = F)) : ∃ x b, exP m p ng x b := by
  have N1 := run_negF
  by_cases h0 : p = 0
  · subst h0
    refine ⟨F, true, hlF, hF, fun w hL => ?_⟩
    obtain ⟨h1, h2, b, o, cap, h3, h4⟩ := hL
    clear h4 hF hlF
    have b0 := hb0.out
    rcases hc with ⟨rfl, e0⟩ | ⟨rfl, f, e0, e1⟩
    all_goals
      go_enter Tryz.func95, Tryz.ntmps95
      go_wp2
      go_ret2
      exact ⟨rfl, rfl⟩
  · have bp : (p == 0) = false := beq_eq_false_iff_ne.2 h0
    by_cases hpos : 0 < p
    · clear h0
      by_cases h37 : p ≤ 37
      · by_cases h22 : 22 < p
        · obtain ⟨j, rfl⟩ : ∃ j : Nat, p = (j : Int) + 22 := ⟨(p - 22).toNat, by omega⟩
          have hj : j ≤ 15 := by omega
          obtain ⟨q1, eq1⟩ : ∃ q1, pow10L.getD j 0 = q1 := ⟨_, rfl⟩
          have nz1 := pow10_nz ⟨j, by omega⟩
          rw [eq1] at nz1
          obtain ⟨r1, m1, lr1, nr1⟩ := mul_some hF nz1
          have M1 := fun W => run_float_arith (P := Tryz.prog) W .mul 24 .f64 F q1 r1 m1
          clear m1 nz1
          cases hg : (FloatKind.f64.format.order r1 4831355200913801216 == some .gt) with
          | true =>
            refine ⟨r1, false, lr1, nr1, fun w hL => ?_⟩
            obtain ⟨h1, h2, b, o, cap, h3, h4⟩ := hL
            have c1 := h4 j (by omega)
            rw [eq1] at c1
            clear eq1
            clear h4
            have b0 := hb0.out
            rcases hc with ⟨rfl, e0⟩ | ⟨rfl, f, e0, e1⟩
            all_goals
              go_enter Tryz.func95, Tryz.ntmps95
              go_wp2
              go_ret2
              exact ⟨rfl, rfl⟩
          | false =>
            cases hl : (FloatKind.f64.format.order r1 14054727237768577024 == some .lt) with
            | true =>
              refine ⟨r1, false, lr1, nr1, fun w hL => ?_⟩
              obtain ⟨h1, h2, b, o, cap, h3, h4⟩ := hL
              have c1 := h4 j (by omega)
              rw [eq1] at c1
              clear eq1
              clear h4
              have b0 := hb0.out
              rcases hc with ⟨rfl, e0⟩ | ⟨rfl, f, e0, e1⟩
              all_goals
                go_enter Tryz.func95, Tryz.ntmps95
                go_wp2
                go_ret2
                exact ⟨rfl, rfl⟩
            | false =>
              obtain ⟨q2, eq2⟩ : ∃ q2, pow10L.getD 22 0 = q2 := ⟨_, rfl⟩
              have nz2 := pow10_nz ⟨22, by omega⟩
              rw [eq2] at nz2
              obtain ⟨r2, m2, lr2, nr2⟩ := mul_some nr1 nz2
              have M2 := fun W => run_float_arith (P := Tryz.prog) W .mul 24 .f64 r1 q2 r2 m2
              refine ⟨r2, true, lr2, nr2, fun w hL => ?_⟩
              obtain ⟨h1, h2, b, o, cap, h3, h4⟩ := hL
              have c1 := h4 j (by omega)
              rw [eq1] at c1
              clear eq1
              have c2 := h4 22 (by omega)
              rw [eq2] at c2
              clear eq2 m2 nz2
              clear h4
              have b0 := hb0.out
              rcases hc with ⟨rfl, e0⟩ | ⟨rfl, f, e0, e1⟩
              all_goals
                go_enter Tryz.func95, Tryz.ntmps95
                go_wp2
                go_ret2
                exact ⟨rfl, rfl⟩
        · obtain ⟨i, rfl⟩ : ∃ i : Nat, p = (i : Int) := ⟨p.toNat, by omega⟩
          have hi : i ≤ 22 := by omega
          cases hg : (FloatKind.f64.format.order F 4831355200913801216 == some .gt) with
          | true =>
            refine ⟨F, false, hlF, hF, fun w hL => ?_⟩
            obtain ⟨h1, h2, b, o, cap, h3, h4⟩ := hL
            clear h4
            have b0 := hb0.out
            rcases hc with ⟨rfl, e0⟩ | ⟨rfl, f, e0, e1⟩
            all_goals
              go_enter Tryz.func95, Tryz.ntmps95
              go_wp2
              go_ret2
              exact ⟨rfl, rfl⟩
          | false =>
            cases hl : (FloatKind.f64.format.order F 14054727237768577024 == some .lt) with
            | true =>
              refine ⟨F, false, hlF, hF, fun w hL => ?_⟩
              obtain ⟨h1, h2, b, o, cap, h3, h4⟩ := hL
              clear h4
              have b0 := hb0.out
              rcases hc with ⟨rfl, e0⟩ | ⟨rfl, f, e0, e1⟩
              all_goals
                go_enter Tryz.func95, Tryz.ntmps95
                go_wp2
                go_ret2
                exact ⟨rfl, rfl⟩
            | false =>
              obtain ⟨q2, eq2⟩ : ∃ q2, pow10L.getD i 0 = q2 := ⟨_, rfl⟩
              have nz2 := pow10_nz ⟨i, by omega⟩
              rw [eq2] at nz2
              obtain ⟨r2, m2, lr2, nr2⟩ := mul_some hF nz2
              have M2 := fun W => run_float_arith (P := Tryz.prog) W .mul 24 .f64 F q2 r2 m2
              refine ⟨r2, true, lr2, nr2, fun w hL => ?_⟩
              obtain ⟨h1, h2, b, o, cap, h3, h4⟩ := hL
              have c2 := h4 i (by omega)
              rw [eq2] at c2
              clear eq2 m2 nz2
              clear h4
              have b0 := hb0.out
              rcases hc with ⟨rfl, e0⟩ | ⟨rfl, f, e0, e1⟩
              all_goals
                go_enter Tryz.func95, Tryz.ntmps95
                go_wp2
                go_ret2
                exact ⟨rfl, rfl⟩
      · refine ⟨F, false, hlF, hF, fun w hL => ?_⟩
        obtain ⟨h1, h2, b, o, cap, h3, h4⟩ := hL
        clear h4
        have b0 := hb0.out
        rcases hc with ⟨rfl, e0⟩ | ⟨rfl, f, e0, e1⟩
        all_goals
          go_enter Tryz.func95, Tryz.ntmps95
          go_wp2
          go_ret2
          exact ⟨rfl, rfl⟩
    · have hneg : p < 0 := by omega
      clear h0
      by_cases h22 : -22 ≤ p
      · obtain ⟨i, rfl⟩ : ∃ i : Nat, p = -(i : Int) := ⟨(-p).toNat, by omega⟩
        have hi : i ≤ 22 := by omega
        obtain ⟨q2, eq2⟩ : ∃ q2, pow10L.getD i 0 = q2 := ⟨_, rfl⟩
        have nz2 := pow10_nz ⟨i, by omega⟩
        rw [eq2] at nz2
        obtain ⟨r2, m2, lr2, nr2⟩ := div_some hF nz2
        have M2 := fun W => run_float_arith (P := Tryz.prog) W .quo 24 .f64 F q2 r2 m2
        refine ⟨r2, true, lr2, nr2, fun w hL => ?_⟩
        obtain ⟨h1, h2, b, o, cap, h3, h4⟩ := hL
        have c2 := h4 i (by omega)
        rw [eq2] at c2
        clear eq2 m2 nz2
        clear h4
        have b0 := hb0.out
        rcases hc with ⟨rfl, e0⟩ | ⟨rfl, f, e0, e1⟩
        all_goals
          go_enter Tryz.func95, Tryz.ntmps95
          go_wp2
          go_ret2
          exact ⟨rfl, rfl⟩
      · refine ⟨F, false, hlF, hF, fun w hL => ?_⟩
        obtain ⟨h1, h2, b, o, cap, h3, h4⟩ := hL
        clear h4
        have b0 := hb0.out
        rcases hc with ⟨rfl, e0⟩ | ⟨rfl, f, e0, e1⟩
        all_goals
          go_enter Tryz.func95, Tryz.ntmps95
          go_wp2
          go_ret2
          exact ⟨rfl, rfl⟩

end Go.Proofs.YtjncgedjdmgpfaaGreatDoor

namespace Go.Proofs.YtjncgedjdmgpfaaGreatDoor
open Go.RowKit

set_option maxHeartbeats 1000000 in
theorem exact_great (m : Nat) (p : Int) (ng : Bool) (hb0 : Hid (((m : Int) / 4503599627370496 != 0) = true)) : exP m p ng 0 false := by
  refine ⟨by omega, by unfold NN; omega, fun w hL => ?_⟩
  obtain ⟨h1, h2, b, o, cap, h3, h4⟩ := hL
  clear h4
  have b0 := hb0.out
  go_enter Tryz.func95, Tryz.ntmps95
  go_wp2
  go_ret2
  exact ⟨rfl, rfl⟩

theorem exact_gen (m : Nat) (p : Int) (ng : Bool) (hp : -1000000 ≤ p) (hp' : p ≤ 1000000) : ∃ x b, exP m p ng x b := by
  cases h : ((m : Int) / 4503599627370496 != 0) with
  | true => exact ⟨0, false, exact_great m p ng h⟩
  | false =>
    cases ng with
    | false => exact exact_sg m (floatOfInt .f64 m) p false h hp hp' (nn_ofInt _) (ofInt_lt _) (.inl ⟨rfl, rfl⟩)
    | true => exact exact_sg m (floatOfInt .f64 m ^^^ 9223372036854775808) p true h hp hp' (nn_neg (nn_ofInt _)) (neg_lt (ofInt_lt _)) (.inr ⟨rfl, _, rfl, rfl⟩)

end Go.Proofs.YtjncgedjdmgpfaaGreatDoor
