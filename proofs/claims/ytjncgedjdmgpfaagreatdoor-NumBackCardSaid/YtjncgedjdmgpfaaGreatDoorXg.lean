/- Walks: prescale, pack64, parseFloat64. -/
import Derived.Test.YtjncgedjdmgpfaaGreatDoorXf
import GoSem.PinnedTables

namespace Go.Proofs.YtjncgedjdmgpfaaGreatDoor
open Go.RowKit

def p10hi (i : Nat) : Nat := (Go.Pinned.pow10Rows.getD i (0, 0)).1
def p10lo (i : Nat) : Nat := (Go.Pinned.pow10Rows.getD i (0, 0)).2
theorem p10_all : (Go.Pinned.pow10Rows.all fun x => decide (x.1 < 18446744073709551616) && decide (x.2 < 18446744073709551616)) = true := by decide +kernel
theorem p10_lt (i : Nat) : p10hi i < 18446744073709551616 ∧ p10lo i < 18446744073709551616 := by
  unfold p10hi p10lo
  rw [List.getD_eq_getElem?_getD]
  cases h : Go.Pinned.pow10Rows[i]? with
  | none => simp
  | some x =>
    have := List.all_eq_true.1 p10_all x (List.mem_of_getElem? h)
    simpa using this

structure LaidT (w : World) : Prop where
  le : LaidE w
  tab : ∀ i, i < 696 → w.cell? ⟨10, 2 * i, none⟩ = some (.int .u64 (p10hi i)) ∧ w.cell? ⟨10, 2 * i + 1, none⟩ = some (.int .u64 (p10lo i))

theorem LaidT.below {w w' : World} (h : LaidT w) (hb : Below w.heap.size w w') : LaidT w' := by
  obtain ⟨h1, h2⟩ := h
  refine ⟨h1.below hb, fun i hi => ?_⟩
  obtain ⟨a, b⟩ := h2 i hi
  exact ⟨by rw [hb.cell (World.block_lt_of_cell? w _ a)]; exact a, by rw [hb.cell (World.block_lt_of_cell? w _ b)]; exact b⟩

theorem cell_al {W : World} {a : Addr} {v : Value} (h : W.cell? a = some v) (o : Obj) : (W.alloc o).cell? a = some v :=
  (((Below.refl W.heap.size W).alloc (Nat.le_refl _) o).cell (World.block_lt_of_cell? W a h)).trans h

set_option maxHeartbeats 1000000 in
theorem prescale_any (k : Nat) (e lp : Int) (v0 v1 v2 : Value) (w : World) (hk : k < 696) (hL : LaidT w) (he : -100000 ≤ e) (he' : e ≤ 100000) (hl : -100000 ≤ lp) (hl' : lp ≤ 100000) :
    Calls Tryz.prog 102 #[.pointer (some ⟨w.heap.size, 0, none⟩), .int .i64 e, .int .i64 ((k : Int) - 348), .int .i64 lp] (w.alloc (.cells #[v0, v1, v2] 123)) fun en w' => en = .returned (.tuple #[]) ∧ w.alloc (.cells #[.int .u64 (p10hi k), .int .u64 (p10lo k), .int .i64 (-(e + lp + 3))] 123) = w' := by
  obtain ⟨t1, t2⟩ := hL.tab k hk
  rw [Nat.mul_comm 2 k] at t1 t2
  have g1 := fun o => cell_al t1 o
  have g2 := fun o => cell_al t2 o
  clear hL t1 t2
  go_enter Tryz.func102, Tryz.ntmps102
  go_wp2
  go_end0
  exact ⟨rfl, rfl⟩

theorem bits_bd (op : BinOp) (a b : Int) : 0 ≤ bits op .u64 a b ∧ bits op .u64 a b < 18446744073709551616 := by
  have h : bits op .u64 a b = IntKind.u64.wrap (bits op .u64 a b) := by
    unfold bits
    simp only [IntKind.wrap_u64]
    omega
  rw [h, IntKind.wrap_u64]
  omega

set_option maxHeartbeats 1000000 in
theorem pack64_any (m : Nat) (e : Int) (hm : m < 18446744073709551616) (he : -1074 ≤ e) (he' : e ≤ 100000) : ∃ x v, x < 18446744073709551616 ∧ okErr v ∧
    ∀ w, Calls Tryz.prog 126 #[.int .u64 m, .int .i64 e] w fun en w' => en = .returned (.tuple #[.float .f64 x, v]) ∧ w = w' := by
  have HF := ext_ifb
  cases h1 : (bits .and .u64 (m : Int) 4503599627370496 == 0) with
  | true =>
    refine ⟨m, .nilIface, hm, .inl rfl, fun w => ?_⟩
    go_enter Tryz.func126, Tryz.ntmps126
    go_wp2
    go_ret2
    exact ⟨rfl, rfl⟩
  | false =>
    by_cases h2 : 972 ≤ e
    · refine ⟨(bits .or .u64 (bits .and .u64 (m : Int) 9223372036854775808) 9218868437227405312).toNat, rangeV, ?_, .inr rfl, fun w => ?_⟩
      · have := bits_bd .or (bits .and .u64 (m : Int) 9223372036854775808) 9218868437227405312; omega
      go_enter Tryz.func126, Tryz.ntmps126
      go_wp2
      go_ret2
      exact ⟨rfl, rfl⟩
    · refine ⟨(bits .or .u64 (bits .andNot .u64 (m : Int) 4503599627370496) ((1075 + e) * 4503599627370496)).toNat, .nilIface, ?_, .inl rfl, fun w => ?_⟩
      · have := bits_bd .or (bits .andNot .u64 (m : Int) 4503599627370496) ((1075 + e) * 4503599627370496); omega
      go_enter Tryz.func126, Tryz.ntmps126
      go_wp2
      go_ret2
      exact ⟨rfl, rfl⟩

theorem bitLen_bd (x : Nat) : Lib.bitLen x ≤ 64 := by
  have h : ∀ f x, Lib.bitLenAux f x ≤ f := by
    intro f
    induction f with
    | zero => intro x; simp [Lib.bitLenAux]
    | succ f ih => intro x; rw [Lib.bitLenAux]; split; omega; have := ih (x / 2); omega
  exact h 64 x
theorem bitLen_pos (x : Nat) (h : x ≠ 0) : 1 ≤ Lib.bitLen x := by
  unfold Lib.bitLen; rw [Lib.bitLenAux, if_neg h]; omega

def sgnOk (s : Nat) : Prop := s = 0 ∨ s = 9223372036854775808

theorem below_drewN {B : Nat} {a w : World} (h : Below B a w) (n : Nat) : Below B a (w.drewN n) := ⟨h.os, h.tape, h.output, h.size, h.block⟩

set_option maxRecDepth 100000 in
set_option maxHeartbeats 4000000 in
theorem parse64_any (d : Nat) (p : Int) (sg : Nat) (hd0 : d ≠ 0) (hd : d < 18446744073709551616) (hp : -345 ≤ p) (hp' : p ≤ 310) (hs : sg < 18446744073709551616) : ∃ x v, x < 18446744073709551616 ∧ okErr v ∧
    ∀ w, LaidT w → Calls Tryz.prog 96 #[.int .u64 d, .int .i64 p, .int .u64 sg] w fun en w' => en = .returned (.tuple #[.float .f64 x, v]) ∧ Below w.heap.size w w' := by
  have HF := ext_ifb
  obtain ⟨B, eB⟩ : ∃ B, Lib.bitLen d = B := ⟨_, rfl⟩
  have hB : B ≤ 64 := by have := bitLen_bd d; omega
  have hB1 : 1 ≤ B := by have := bitLen_pos d hd0; omega
  have h1 := fun W => len64_any d W hd
  rw [eB] at h1
  have H1 := Lib.hid h1
  obtain ⟨lp, elp⟩ : ∃ lp, p * 108853 / 32768 = lp := ⟨_, rfl⟩
  have hl : -1147 ≤ lp ∧ lp ≤ 1030 := by omega
  have h2 := fun W => log2p_any p (by omega) (by omega) W
  rw [elp] at h2
  have H2 := Lib.hid h2
  obtain ⟨e, ee⟩ : ∃ e, min 1074 (53 - (B : Int) - lp) = e := ⟨_, rfl⟩
  have he : e ≤ 1074 ∧ e ≤ 53 - B - lp ∧ -1100 ≤ e := by omega
  obtain ⟨k, ek⟩ : ∃ k : Nat, p = (k : Int) - 348 := ⟨(p + 348).toNat, by omega⟩
  have hk : k < 696 := by omega
  obtain ⟨s, es⟩ : ∃ s : Nat, -(e - (64 - (B : Int)) + lp + 3) = s := ⟨(-(e - (64 - (B : Int)) + lp + 3)).toNat, by omega⟩
  have h3 := fun W (hL : LaidT W) => prescale_any k (e - (64 - (B : Int))) lp (.int .u64 0) (.int .u64 0) (.int .i64 0) W hk hL (by omega) (by omega) (by omega) (by omega)
  rw [es] at h3
  have H3 := Lib.hid h3
  have EE := Lib.hid ee
  clear h1 h2 h3 eB elp ee
  subst ek
  by_cases h64 : 64 ≤ s
  · refine ⟨(bits .or .u64 (sg : Int) 0).toNat, .nilIface, by have := bits_bd .or (sg : Int) 0; omega, .inl rfl, fun w hL => ?_⟩
    have HL := Lib.hid hL
    clear hL
    go_enter Tryz.func96, Tryz.ntmps96
    go_wp2_with (first | (go_at_call 70; refine (H1.out _).mono ?_; rintro e w' ⟨rfl, rfl⟩) | (go_at_call 103; refine (H2.out _).mono ?_; rintro e w' ⟨rfl, rfl⟩) | (go_at_call 102; rw [EE.out]; refine (H3.out _ HL.out).mono ?_; rintro e w' ⟨rfl, rfl⟩))
    go_ret2
    exact ⟨rfl, (Below.refl _ _).alloc (Nat.le_refl _) _⟩
  · have hs63 : s ≤ 63 := by omega
    obtain ⟨X, eX⟩ : ∃ X : Nat, IntKind.u64.wrap ((d : Int) * 2 ^ (64 - B)) = X := ⟨(IntKind.u64.wrap ((d : Int) * 2 ^ (64 - B))).toNat, by rw [IntKind.wrap_u64]; omega⟩
    have hX : X < 18446744073709551616 := by rw [IntKind.wrap_u64] at eX; omega
    have HX := Lib.hid eX
    have h4 := fun (W : World) b c0 c1 c2 => uscale_any X (p10hi k) (p10lo k) s b W hX (p10_lt k).1 (p10_lt k).2 hs63 c0 c1 c2
    have hu0 := uscV_lt X (p10hi k) (p10lo k) s hX (p10_lt k).1
    generalize uscV X (p10hi k) (p10lo k) s = u at h4 hu0
    have H4 := Lib.hid h4
    have a1 : bits .and .u64 (u : Int) 1 = (u : Int) % 2 := by
      have h := bits_and_u64_nat u 1 hu0 (by omega)
      rw [nat_mask1] at h
      exact h.trans (by omega)
    clear h4 eX
    by_cases hu : 36028797018963966 ≤ u
    · have hul : (36028797018963966 : Int) ≤ u := by omega
      have o1 := or_N ((u : Int) / 2) ((u : Int) % 2) (by omega) (by omega) (by omega) (by omega)
      obtain ⟨v1, ev1⟩ : ∃ v1, orN ((u : Int) / 2) ((u : Int) % 2) = v1 := ⟨_, rfl⟩
      have hv1 : v1 < 18446744073709551612 := by
        rw [← ev1]
        have := Nat.or_lt_two_pow (n := 63) (x := ((u : Int) / 2).toNat) (y := ((u : Int) % 2).toNat) (by omega) (by omega)
        unfold orN; omega
      rw [ev1] at o1
      have h5 := fun W => round_any v1 hv1 W
      have hr1 : roundN v1 < 18446744073709551616 := by unfold roundN; omega
      generalize roundN v1 = r at h5 hr1
      have H5 := Lib.hid h5
      have o2 := or_N (sg : Int) (r : Int) (by omega) (by omega) (by omega) (by omega)
      obtain ⟨m1, em1⟩ : ∃ m1, orN (sg : Int) (r : Int) = m1 := ⟨_, rfl⟩
      have hm1 : m1 < 18446744073709551616 := by rw [← em1]; exact orN_lt _ _ (by omega) (by omega)
      rw [em1] at o2
      obtain ⟨x, v, hx, hv, h6⟩ := pack64_any m1 (-(e - 1)) hm1 (by omega) (by omega)
      have H6 := Lib.hid h6
      refine ⟨x, v, hx, hv, fun w hL => ?_⟩
      have HL := Lib.hid hL
      clear hL ev1 em1 h5 h6
      go_enter Tryz.func96, Tryz.ntmps96
      go_wp2_with (first | (go_at_call 70; refine (H1.out _).mono ?_; rintro e w' ⟨rfl, rfl⟩) | (go_at_call 103; refine (H2.out _).mono ?_; rintro e w' ⟨rfl, rfl⟩) | (go_at_call 102; rw [EE.out]; refine (H3.out _ HL.out).mono ?_; rintro e w' ⟨rfl, rfl⟩) | (go_at_call 104; rw [HX.out]; refine (H4.out _ _ ?c0 ?c1 ?c2).mono ?_; rotate_left 3; rintro e w' ⟨rfl, nq, rfl⟩) | (go_at_call 111; refine (unmin_any 9007199254740992 (by decide) (by decide) _).mono ?_; rintro e w' ⟨rfl, rfl⟩) | (go_at_call 110; refine (bool2i_any _ _).mono ?_; rintro e w' ⟨rfl, rfl⟩) | (go_at_call 108; refine (H5.out _).mono ?_; rintro e w' ⟨rfl, rfl⟩) | (go_at_call 126; refine (H6.out _).mono ?_; rintro e w' ⟨rfl, rfl⟩))
      case c0 => rw [World.cell?_alloc_at _ _ _ _ rfl]; rfl
      case c1 => rw [World.cell?_alloc_at _ _ _ _ rfl]; rfl
      case c2 => rw [World.cell?_alloc_at _ _ _ _ rfl]; rfl
      go_ret2
      exact ⟨rfl, below_drewN ((Below.refl _ _).alloc (Nat.le_refl _) _) _⟩
    · have hul : decide ((36028797018963966 : Int) ≤ u) = false := decide_eq_false (by omega)
      have o1 := or_N ((u : Int)) ((u : Int) % 2) (by omega) (by omega) (by omega) (by omega)
      obtain ⟨v1, ev1⟩ : ∃ v1, orN ((u : Int)) ((u : Int) % 2) = v1 := ⟨_, rfl⟩
      have hv1 : v1 < 18446744073709551612 := by
        rw [← ev1]
        have := Nat.or_lt_two_pow (n := 63) (x := ((u : Int)).toNat) (y := ((u : Int) % 2).toNat) (by omega) (by omega)
        unfold orN; omega
      rw [ev1] at o1
      have h5 := fun W => round_any v1 hv1 W
      have hr1 : roundN v1 < 18446744073709551616 := by unfold roundN; omega
      generalize roundN v1 = r at h5 hr1
      have H5 := Lib.hid h5
      have o2 := or_N (sg : Int) (r : Int) (by omega) (by omega) (by omega) (by omega)
      obtain ⟨m1, em1⟩ : ∃ m1, orN (sg : Int) (r : Int) = m1 := ⟨_, rfl⟩
      have hm1 : m1 < 18446744073709551616 := by rw [← em1]; exact orN_lt _ _ (by omega) (by omega)
      rw [em1] at o2
      obtain ⟨x, v, hx, hv, h6⟩ := pack64_any m1 (-(e)) hm1 (by omega) (by omega)
      have H6 := Lib.hid h6
      refine ⟨x, v, hx, hv, fun w hL => ?_⟩
      have HL := Lib.hid hL
      clear hL ev1 em1 h5 h6 hu
      go_enter Tryz.func96, Tryz.ntmps96
      go_wp2_with (first | (go_at_call 70; refine (H1.out _).mono ?_; rintro e w' ⟨rfl, rfl⟩) | (go_at_call 103; refine (H2.out _).mono ?_; rintro e w' ⟨rfl, rfl⟩) | (go_at_call 102; rw [EE.out]; refine (H3.out _ HL.out).mono ?_; rintro e w' ⟨rfl, rfl⟩) | (go_at_call 104; rw [HX.out]; refine (H4.out _ _ ?c0 ?c1 ?c2).mono ?_; rotate_left 3; rintro e w' ⟨rfl, nq, rfl⟩) | (go_at_call 111; refine (unmin_any 9007199254740992 (by decide) (by decide) _).mono ?_; rintro e w' ⟨rfl, rfl⟩) | (go_at_call 110; refine (bool2i_any _ _).mono ?_; rintro e w' ⟨rfl, rfl⟩) | (go_at_call 108; refine (H5.out _).mono ?_; rintro e w' ⟨rfl, rfl⟩) | (go_at_call 126; refine (H6.out _).mono ?_; rintro e w' ⟨rfl, rfl⟩))
      case c0 => rw [World.cell?_alloc_at _ _ _ _ rfl]; rfl
      case c1 => rw [World.cell?_alloc_at _ _ _ _ rfl]; rfl
      case c2 => rw [World.cell?_alloc_at _ _ _ _ rfl]; rfl
      go_ret2
      exact ⟨rfl, below_drewN ((Below.refl _ _).alloc (Nat.le_refl _) _) _⟩

end Go.Proofs.YtjncgedjdmgpfaaGreatDoor
