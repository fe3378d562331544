/- FormOne: the law. -/
import Derived.Test.YtdencljnbilchaaGreatDoorKn
import Derived.Deep.DeepCutAuto
import Derived.Deep.CutBlock
import Derived.Deep.RegionWith
import Derived.StillTailTactics

namespace Go.Proofs.YtdencljnbilchaaGreatDoor
open Go.RowKit

theorem raws_new {W : World} {r : RawA} (h : r.Ok W) (T : TypeId) : RawsAt (W.alloc (.cells #[.float .f64 r.n, .slice r.sa r.sn r.sc, .bool r.num, .int .i64 r.whole] T)) (some ⟨W.heap.size, 0, none⟩) 1 := by
  refine .inr ⟨W.heap.size, 0, fun _ => r, rfl, fun i hi => ?_⟩
  obtain rfl : i = 0 := by omega
  refine ⟨h.below ((Below.refl _ _).alloc (Nat.le_refl _) _), ?_, ?_, ?_, ?_⟩ <;> (rw [World.cell?_alloc_at _ _ _ _ rfl]; rfl)

theorem digitsB (x : Nat) (hx : x < 18446744073709551616) (W : World) (hL : LaidJ W) : Calls Tryz.prog 16 #[.float .f64 x] W fun e w' => ∃ T : ByteArray, e = .returned (.string T) ∧ T.size ≤ 1001 ∧ Below W.heap.size W w' := by
  refine (digits_bare x hx W hL.lg).mono fun e w' ⟨h1, h2⟩ => ⟨_, h1, ?_, h2⟩
  have := digT_len x hx
  show (sgnL (bareT x).2 ++ (bareT x).1).toArray.size ≤ 1001
  rw [List.size_toArray]; exact this

theorem flagB1 (d : Nat) (h : d < 4) : (({ data := #[45, 43, 32, 48] } : ByteArray).extract d (d + 1)).size = 1 := by
  have key : ∀ d : Fin 4, (({ data := #[45, 43, 32, 48] } : ByteArray).extract d.1 (d.1 + 1)).size = 1 := by decide +kernel
  exact key ⟨d, h⟩
theorem letB1 (d : Nat) (h : d < 14) : (({ data := #[100, 105, 117, 111, 120, 88, 102, 70, 101, 69, 103, 71, 99, 115] } : ByteArray).extract d (d + 1)).size = 1 := by
  have key : ∀ d : Fin 14, (({ data := #[100, 105, 117, 111, 120, 88, 102, 70, 101, 69, 103, 71, 99, 115] } : ByteArray).extract d.1 (d.1 + 1)).size = 1 := by decide +kernel
  exact key ⟨d, h⟩

/-- The argument's own block. -/
structure BoxR (w wr : World) (r : RawA) : Prop where
  c0 : wr.cell? ⟨w.heap.size, 0, none⟩ = some (.float .f64 r.n)
  c1 : wr.cell? ⟨w.heap.size, 1, none⟩ = some (.slice r.sa r.sn r.sc)
  c2 : wr.cell? ⟨w.heap.size, 2, none⟩ = some (.bool r.num)
  c3 : wr.cell? ⟨w.heap.size, 3, none⟩ = some (.int .i64 r.whole)
  below : Below w.heap.size w wr
theorem BoxR.new (w : World) (r : RawA) (T : TypeId) : BoxR w (w.alloc (.cells #[.float .f64 r.n, .slice r.sa r.sn r.sc, .bool r.num, .int .i64 r.whole] T)) r := by
  refine ⟨?_, ?_, ?_, ?_, (Below.refl _ _).alloc (Nat.le_refl _) _⟩ <;> (rw [World.cell?_alloc_at _ _ _ _ rfl]; rfl)
theorem BoxR.more {w wr wx : World} {r : RawA} (h : BoxR w wr r) (hb : Below wr.heap.size wr wx) : BoxR w wx r := by
  have keep : ∀ (a : Addr) (v : Value), wr.cell? a = some v → wx.cell? a = some v := fun a v hv => by
    rw [hb.cell (World.block_lt_of_cell? wr a hv)]; exact hv
  exact ⟨keep _ _ h.c0, keep _ _ h.c1, keep _ _ h.c2, keep _ _ h.c3, h.below.trans (hb.mono h.below.size)⟩

set_option maxRecDepth 100000 in
set_option maxHeartbeats 8000000 in
theorem formOne_true (ao : Option Addr) (n cap : Nat) (Z : Nat → Nat) (wd pr lt : Int) (r : RawA) (sel : Int) (w : World) (hn : n ≤ 9223372036854775807) (hl : n = 0 ∨ ∃ b o, ao = some ⟨b, o, none⟩ ∧ ∀ i, i < n → Z i < 256 ∧ w.cell? ⟨b, o + i, none⟩ = some (.int .u8 (Z i)))
    (hr : r.Ok w) (hL : LaidJ w) :
    Calls Tryz.prog 5 #[.slice ao n cap, .int .i64 wd, .int .i64 pr, .int .i64 lt, .agg #[.float .f64 r.n, .slice r.sa r.sn r.sc, .bool r.num, .int .i64 r.whole], .int .i64 sel] w fun e w' => e = .returned (.bool true) ∧ Below w.heap.size w w' := by
  have HL := Lib.hid hL
  have HA : Hid (∀ (f : ByteArray) W T, f.size ≤ 140737488351232 → BoxR w W r → Calls Tryz.prog 3 #[.string f, .slice (some ⟨W.heap.size, 0, none⟩) 1 1] (W.alloc (.cells #[.float .f64 r.n, .slice r.sa r.sn r.sc, .bool r.num, .int .i64 r.whole] T)).drew fun e w' => e = .returned (.bool true) ∧ Below w.heap.size w w') := fun f W T hf hW => by
    have hb0 : Below w.heap.size w (W.alloc (.cells #[.float .f64 r.n, .slice r.sa r.sn r.sc, .bool r.num, .int .i64 r.whole] T)) := hW.below.alloc hW.below.size _
    have hb : Below w.heap.size w (W.alloc (.cells #[.float .f64 r.n, .slice r.sa r.sn r.sc, .bool r.num, .int .i64 r.whole] T)).drew := hb0.drew
    exact (formAny_true f _ 1 1 _ hf (by omega) ((raws_new (hr.below hW.below) T).below (Below.refl _ _).drew) (HL.out.below hb)).mono fun e w' ⟨h1, h2⟩ => ⟨h1, hb.trans (h2.mono hb.size)⟩
  obtain ⟨p1, hp1⟩ : ∃ p, pickN wd 30 = p := ⟨_, rfl⟩
  obtain ⟨p2, hp2⟩ : ∃ p, pickN pr 25 = p := ⟨_, rfl⟩
  obtain ⟨p3, hp3⟩ : ∃ p, pickN lt 14 = p := ⟨_, rfl⟩
  have h30 : p1 < 30 := by rw [← hp1]; exact pickN_lt wd 30 (by omega)
  have h25 : p2 < 25 := by rw [← hp2]; exact pickN_lt pr 25 (by omega)
  have h14 : p3 < 14 := by rw [← hp3]; exact pickN_lt lt 14 (by omega)
  have HP1 : Hid (∀ W, Calls Tryz.prog 17 #[.int .i64 wd, .int .i64 30] W fun e w' => e = .returned (.int .i64 p1) ∧ W = w') := fun W => by
    have h := pick_any wd 30 W (by omega) (by decide); rw [hp1] at h; exact h
  have HP2 : Hid (∀ W, Calls Tryz.prog 17 #[.int .i64 pr, .int .i64 25] W fun e w' => e = .returned (.int .i64 p2) ∧ W = w') := fun W => by
    have h := pick_any pr 25 W (by omega) (by decide); rw [hp2] at h; exact h
  have HP3 : Hid (∀ W, Calls Tryz.prog 17 #[.int .i64 lt, .int .i64 14] W fun e w' => e = .returned (.int .i64 p3) ∧ W = w') := fun W => by
    have h := pick_any lt 14 W (by omega) (by decide); rw [hp3] at h; exact h
  have HLB := Lib.hid (letB1 p3 h14)
  have HZ : Hid (n = 0 ∨ ∃ b o, ao = some ⟨b, o, none⟩ ∧ ∀ W, BoxR w W r → ∀ i, i < n → Z i < 256 ∧ W.cell? ⟨b, o + i, none⟩ = some (.int .u8 (Z i))) := hl.imp id fun ⟨b, o, h1, h2⟩ => ⟨b, o, h1, fun W hW i hi => ⟨(h2 i hi).1, by
    rw [hW.below.cell (World.block_lt_of_cell? w ⟨b, o + i, none⟩ (h2 i hi).2)]; exact (h2 i hi).2⟩⟩
  have HBX := Lib.hid (BoxR.new w r 38)
  have HD1 : Hid (∀ W, BoxR w W r → Calls Tryz.prog 16 #[.float .f64 (floatOfInt .f64 p1)] W fun e w' => ∃ T : ByteArray, e = .returned (.string T) ∧ T.size ≤ 1001 ∧ Below W.heap.size W w') := fun W hW => digitsB _ (ofInt_lt p1) W (HL.out.below hW.below)
  have HD2 : Hid (∀ W, BoxR w W r → Calls Tryz.prog 16 #[.float .f64 (floatOfInt .f64 p2)] W fun e w' => ∃ T : ByteArray, e = .returned (.string T) ∧ T.size ≤ 1001 ∧ Below W.heap.size W w') := fun W hW => digitsB _ (ofInt_lt p2) W (HL.out.below hW.below)
  clear hp1 hp2 hp3 hl hr hL HL
  go_enter Tryz.func5, Tryz.ntmps5
  go_wp2
  go_loopg [13, 14] 4 (fun g t i wr => ∃ (T : ByteArray) (j : Nat), t = .string T ∧ i = .int .i64 j ∧ j ≤ n ∧ j + g = 4 ∧ T.size = j + 1 ∧ Hid (BoxR w wr r))
  case atStart => exact ⟨⟨#[37]⟩, 0, rfl, rfl, by omega, by omega, rfl, HBX⟩
  case round =>
    obtain ⟨T, j, rfl, rfl, hj, hjm, hT, HB⟩ := hrel
    clear HBX
    by_cases hjn : j < n ∧ j < 4
    · obtain ⟨hjn, hjm2⟩ := hjn
      obtain ⟨b, o, rfl, hc⟩ := HZ.out.resolve_left (by omega)
      obtain ⟨hz, hcell⟩ := hc wr HB.out j hjn
      have hd := Nat.mod_lt (Z j) (show 0 < 4 by decide)
      have hz1 := flagB1 (Z j % 4) hd
      have hsz : (T ++ ({ data := #[45, 43, 32, 48] } : ByteArray).extract (Z j % 4) (Z j % 4 + 1)).size = j + 1 + 1 := by rw [ByteArray.size_append, hz1, hT]
      have HS := Lib.hid hsz
      clear hd hz1 hsz hc
      go_wp2
      go_quiet (fail)
      go_wp2
      go_roundg (gk - 1)
      case measure => omega
      case rel => exact ⟨_, j + 1, rfl, congrArg (Value.int .i64) (by omega), by omega, by omega, HS.out, HB.out.more (by first | exact Below.refl _ _ | exact (Below.refl _ _).drew | exact below_drewN (Below.refl _ _) _)⟩
    · have hq : ¬ j < n ∨ (j < n ∧ ¬ j < 4) := by omega
      clear hjn
      have hT5 : T.size ≤ 5 := by omega
      clear HZ
      have h46 : (⟨#[46]⟩ : ByteArray).size = 1 := rfl
      have hlb := HLB.out
      rcases hq with hq | ⟨hq, hq2⟩
      all_goals
        by_cases h3 : 0 < sel.tmod 3
        · obtain ⟨b2, hb2⟩ : ∃ b, (sel.tmod 2 == 0) = b := ⟨_, rfl⟩
          cases b2 with
          | true =>
            go_upto_region 11 with (first
              | (go_at_call 17; first
                | (with_reducible refine (HP1.out _).mono ?_; rintro e wp ⟨rfl, rfl⟩)
                | (with_reducible refine (HP2.out _).mono ?_; rintro e wp ⟨rfl, rfl⟩)
                | (with_reducible refine (HP3.out _).mono ?_; rintro e wp ⟨rfl, rfl⟩))
              | (go_at_call 16; first
                | (with_reducible refine (HD1.out _ HB.out).mono ?_; rintro e wd1 ⟨T1, rfl, hT1, hb1⟩; have HB := Lib.hid (HB.out.more hb1); clear hb1)
                | (with_reducible refine (HD2.out _ HB.out).mono ?_; rintro e wd2 ⟨T2, rfl, hT2, hb1⟩; have HB := Lib.hid (HB.out.more hb1); clear hb1)))
            obtain ⟨T0, hT0⟩ : ∃ X : ByteArray, ((T ++ T1) ++ (⟨#[46]⟩ : ByteArray)) ++ T2 = X := ⟨_, rfl⟩
            have hZ0 : T0.size ≤ 3000 := by
              rw [← hT0]
              try simp only [ByteArray.size_append]
              omega
            try rw [hT0]
            clear hT0 hlb
            obtain ⟨c0, c1, c2, c3, _⟩ := HB.out
            have e1 : IntKind.i64.wrap ((p3 : Int) + 1) = (p3 : Int) + 1 := IntWalk.i64_in _ (by omega)
            have e2 : (p3 : Int) + 1 ≤ 14 := by omega
            have e3 : (p3 : Int) ≤ (p3 : Int) + 1 := by omega
            have e4 : (0 : Int) ≤ (p3 : Int) + 1 := by omega
            have e5 : ¬ 9223372036854775807 < T0.size + (min (p3 + 1) 14 - p3) := by omega
            go_region_with (go_at_call 3; refine (HA.out _ _ _ (by simp only [ByteArray.size_append, HLB.out]; omega) HB.out).mono ?_; rintro e wz ⟨rfl, hbz⟩)
            all_goals
              go_wp2
              go_ret
              exact ⟨rfl, hbz⟩
          | false =>
            go_upto_region 11 with (first
              | (go_at_call 17; first
                | (with_reducible refine (HP1.out _).mono ?_; rintro e wp ⟨rfl, rfl⟩)
                | (with_reducible refine (HP2.out _).mono ?_; rintro e wp ⟨rfl, rfl⟩)
                | (with_reducible refine (HP3.out _).mono ?_; rintro e wp ⟨rfl, rfl⟩))
              | (go_at_call 16; first
                | (with_reducible refine (HD1.out _ HB.out).mono ?_; rintro e wd1 ⟨T1, rfl, hT1, hb1⟩; have HB := Lib.hid (HB.out.more hb1); clear hb1)
                | (with_reducible refine (HD2.out _ HB.out).mono ?_; rintro e wd2 ⟨T2, rfl, hT2, hb1⟩; have HB := Lib.hid (HB.out.more hb1); clear hb1)))
            obtain ⟨T0, hT0⟩ : ∃ X : ByteArray, T ++ T1 = X := ⟨_, rfl⟩
            have hZ0 : T0.size ≤ 3000 := by
              rw [← hT0]
              try simp only [ByteArray.size_append]
              omega
            try rw [hT0]
            clear hT0 hlb
            obtain ⟨c0, c1, c2, c3, _⟩ := HB.out
            have e1 : IntKind.i64.wrap ((p3 : Int) + 1) = (p3 : Int) + 1 := IntWalk.i64_in _ (by omega)
            have e2 : (p3 : Int) + 1 ≤ 14 := by omega
            have e3 : (p3 : Int) ≤ (p3 : Int) + 1 := by omega
            have e4 : (0 : Int) ≤ (p3 : Int) + 1 := by omega
            have e5 : ¬ 9223372036854775807 < T0.size + (min (p3 + 1) 14 - p3) := by omega
            go_region_with (go_at_call 3; refine (HA.out _ _ _ (by simp only [ByteArray.size_append, HLB.out]; omega) HB.out).mono ?_; rintro e wz ⟨rfl, hbz⟩)
            all_goals
              go_wp2
              go_ret
              exact ⟨rfl, hbz⟩
        · obtain ⟨b2, hb2⟩ : ∃ b, (sel.tmod 2 == 0) = b := ⟨_, rfl⟩
          cases b2 with
          | true =>
            go_upto_region 11 with (first
              | (go_at_call 17; first
                | (with_reducible refine (HP1.out _).mono ?_; rintro e wp ⟨rfl, rfl⟩)
                | (with_reducible refine (HP2.out _).mono ?_; rintro e wp ⟨rfl, rfl⟩)
                | (with_reducible refine (HP3.out _).mono ?_; rintro e wp ⟨rfl, rfl⟩))
              | (go_at_call 16; first
                | (with_reducible refine (HD1.out _ HB.out).mono ?_; rintro e wd1 ⟨T1, rfl, hT1, hb1⟩; have HB := Lib.hid (HB.out.more hb1); clear hb1)
                | (with_reducible refine (HD2.out _ HB.out).mono ?_; rintro e wd2 ⟨T2, rfl, hT2, hb1⟩; have HB := Lib.hid (HB.out.more hb1); clear hb1)))
            obtain ⟨T0, hT0⟩ : ∃ X : ByteArray, (T ++ (⟨#[46]⟩ : ByteArray)) ++ T2 = X := ⟨_, rfl⟩
            have hZ0 : T0.size ≤ 3000 := by
              rw [← hT0]
              try simp only [ByteArray.size_append]
              omega
            try rw [hT0]
            clear hT0 hlb
            obtain ⟨c0, c1, c2, c3, _⟩ := HB.out
            have e1 : IntKind.i64.wrap ((p3 : Int) + 1) = (p3 : Int) + 1 := IntWalk.i64_in _ (by omega)
            have e2 : (p3 : Int) + 1 ≤ 14 := by omega
            have e3 : (p3 : Int) ≤ (p3 : Int) + 1 := by omega
            have e4 : (0 : Int) ≤ (p3 : Int) + 1 := by omega
            have e5 : ¬ 9223372036854775807 < T0.size + (min (p3 + 1) 14 - p3) := by omega
            go_region_with (go_at_call 3; refine (HA.out _ _ _ (by simp only [ByteArray.size_append, HLB.out]; omega) HB.out).mono ?_; rintro e wz ⟨rfl, hbz⟩)
            all_goals
              go_wp2
              go_ret
              exact ⟨rfl, hbz⟩
          | false =>
            go_upto_region 11 with (first
              | (go_at_call 17; first
                | (with_reducible refine (HP1.out _).mono ?_; rintro e wp ⟨rfl, rfl⟩)
                | (with_reducible refine (HP2.out _).mono ?_; rintro e wp ⟨rfl, rfl⟩)
                | (with_reducible refine (HP3.out _).mono ?_; rintro e wp ⟨rfl, rfl⟩))
              | (go_at_call 16; first
                | (with_reducible refine (HD1.out _ HB.out).mono ?_; rintro e wd1 ⟨T1, rfl, hT1, hb1⟩; have HB := Lib.hid (HB.out.more hb1); clear hb1)
                | (with_reducible refine (HD2.out _ HB.out).mono ?_; rintro e wd2 ⟨T2, rfl, hT2, hb1⟩; have HB := Lib.hid (HB.out.more hb1); clear hb1)))
            obtain ⟨T0, hT0⟩ : ∃ X : ByteArray, T = X := ⟨_, rfl⟩
            have hZ0 : T0.size ≤ 3000 := by
              rw [← hT0]
              try simp only [ByteArray.size_append]
              omega
            try rw [hT0]
            clear hT0 hlb
            obtain ⟨c0, c1, c2, c3, _⟩ := HB.out
            have e1 : IntKind.i64.wrap ((p3 : Int) + 1) = (p3 : Int) + 1 := IntWalk.i64_in _ (by omega)
            have e2 : (p3 : Int) + 1 ≤ 14 := by omega
            have e3 : (p3 : Int) ≤ (p3 : Int) + 1 := by omega
            have e4 : (0 : Int) ≤ (p3 : Int) + 1 := by omega
            have e5 : ¬ 9223372036854775807 < T0.size + (min (p3 + 1) 14 - p3) := by omega
            go_region_with (go_at_call 3; refine (HA.out _ _ _ (by simp only [ByteArray.size_append, HLB.out]; omega) HB.out).mono ?_; rintro e wz ⟨rfl, hbz⟩)
            all_goals
              go_wp2
              go_ret
              exact ⟨rfl, hbz⟩

end Go.Proofs.YtdencljnbilchaaGreatDoor
