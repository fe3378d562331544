/- atof64, whatever the numeral. ftoa64 at 1e20. FormatFloat at 1e20. math.IsInf at both signs, math.Trunc, num.Digits over FormatFloat. -/
import Derived.Test.YtdencljnbilchaaGreatDoorHc
import Derived.Test.YtdencljnbilchaaGreatDoorXr
import Derived.Test.YtdencljnbilchaaGreatDoorXh
import Derived.Test.YtdencljnbilchaaGreatDoorWi
import Derived.Test.YtdencljnbilchaaGreatDoorPx
import Derived.Test.YtdencljnbilchaaGreatDoorFn
import Derived.BigQuiet
import Derived.Deep.QuietTactic
import Derived.Deep.RegionWith
import Derived.BigCall
import Derived.Test.YtdencljnbilchaaGreatDoorWj

namespace Go.Proofs.YtdencljnbilchaaGreatDoor
open Go.RowKit

def sgN (ng : Bool) : Nat := if ng = true then 9223372036854775808 else 0

theorem decF_zero (w : World) (T : TypeId) (Z : Array Value) (hz : ∀ i, i < 800 → Z[i]? = some (.int .u8 0)) (h0 : Z[800]? = some (.int .i64 0)) (h1 : Z[801]? = some (.int .i64 0)) (h2 : Z[802]? = some (.bool false)) (h3 : Z[803]? = some (.bool false)) :
    DecF (w.alloc (.cells Z T)) w.heap.size (fun _ => 0) 0 0 false false where
  d := fun i hi => by rw [cell_of_row _ _ _ _ _ _ (heap_alloc_new w _), hz i hi]; rfl
  nd := by rw [cell_of_row _ _ _ _ _ _ (heap_alloc_new w _), h0]
  dp := by rw [cell_of_row _ _ _ _ _ _ (heap_alloc_new w _), h1]
  ng := by rw [cell_of_row _ _ _ _ _ _ (heap_alloc_new w _), h2]
  tr := by rw [cell_of_row _ _ _ _ _ _ (heap_alloc_new w _), h3]
  fz := fun i => World.frozen?_alloc_at _ _ _ _ rfl

set_option maxRecDepth 100000 in
theorem decF_z (w : World) : DecF (w.alloc (.cells Tryz.zeroCells135 135)) w.heap.size (fun _ => 0) 0 0 false false := by
  have h : Tryz.zeroCells135.toList.take 800 = List.replicate 800 (.int .u8 0) := by kernel_rfl
  refine decF_zero w _ _ (fun i hi => ?_) (by kernel_rfl) (by kernel_rfl) (by kernel_rfl) (by kernel_rfl)
  have h1 : (Tryz.zeroCells135.toList.take 800)[i]? = some (.int .u8 0) := by rw [h, List.getElem?_replicate, if_pos hi]
  rw [List.getElem?_take, if_pos hi] at h1
  simpa using h1

end Go.Proofs.YtdencljnbilchaaGreatDoor

namespace Go.Proofs.YtdencljnbilchaaGreatDoor
open Go.RowKit

theorem appUnder {w w3 wr : World} {e : TypeId} {bd m : Nat} {v : Value} {acc : List UInt8} (hb : Below w.heap.size w w3) (h : App (w3.drewN m) e bd v wr acc) : App w e bd v wr acc := by
  obtain ⟨g, h1, h2, h3⟩ := h
  have hs := hb.size
  refine ⟨g, h1, h2.imp id (fun h => Nat.le_trans hs h), ⟨h3.os.trans hb.os, h3.tape.trans hb.tape, h3.output.trans hb.output, Nat.le_trans hs h3.size, fun k hk hne => ?_⟩⟩
  exact (h3.block k (Nat.lt_of_lt_of_le hk hs) hne).trans (hb.block k hk)

theorem s0_eq : (⟨(trimN 16 6103515625000000).2, (trimN 16 6103515625000000).1, dpT (trimN 16 6103515625000000).1 (16 : Nat), false⟩ : DS) = ⟨6103515625, 10, 16, false⟩ := by kernel_rfl
theorem s1_eq : shlR ⟨6103515625, 10, 16, false⟩ 14 = ⟨1, 1, 21, false⟩ := by kernel_rfl

set_option maxRecDepth 100000 in
set_option maxHeartbeats 3200000 in
theorem ftoa_1e20 (w : World) (v : Value) (bd : Nat) (hL : LaidG w) (hv : RowAt w 5 v bd []) :
    Calls Tryz.prog 68 #[v, .float .f64 4906019910204099648, .int .u8 102, .int .i64 0] w fun e w' => ∃ v', e = .returned v' ∧ App w 5 bd v' w' (49 :: zerosL 20) := by
  have a1 : bits .and .i64 1089 2047 = 1089 := by decide +kernel
  have a2 : bits .and .u64 4906019910204099648 4503599627370495 = 1599915997629504 := by decide +kernel
  have a3 : bits .or .u64 1599915997629504 4503599627370496 = 6103515625000000 := by decide +kernel
  have HF := ext_fb 4906019910204099648
  have hop := hL.lt.le.lf.opt
  have HLG := Lib.hid hL
  have HRow := Lib.hid hv
  have H1 := Lib.hid (fun W => log10p_any 67 (by omega) (by omega) W)
  have HAS : Hid (∀ q : Nat, Calls Tryz.prog 94 #[.pointer (some ⟨w.heap.size, 0, none⟩), .int .u64 6103515625000000] ((w.drewN q).alloc (.cells Tryz.zeroCells135 135)) fun e w' => e = .returned (.tuple #[]) ∧ DecS w' w.heap.size false ⟨6103515625, 10, 16, false⟩ ∧ OnlyB w.heap.size ((w.drewN q).alloc (.cells Tryz.zeroCells135 135)) w') := fun q => by
    have h := assign_any ((w.drewN q).alloc (.cells Tryz.zeroCells135 135)) w.heap.size 6103515625000000 16 (fun _ => 0) 0 0 false false (by decide) (by decide) (by decide) (.inr (by decide)) (decF_z (w.drewN q))
    rw [s0_eq] at h
    exact h
  have HSH : Hid (∀ (W : World), Under W w.heap.size → DecS W w.heap.size false ⟨6103515625, 10, 16, false⟩ → Calls Tryz.prog 95 #[.pointer (some ⟨w.heap.size, 0, none⟩), .int .i64 14] W (DecEnd W w.heap.size false ⟨1, 1, 21, false⟩)) := fun W h1 h2 => by
    have h := shiftL_any W w.heap.size 14 false ⟨6103515625, 10, 16, false⟩ h1 ⟨by decide, by decide, by decide, by decide⟩ (by decide) (by decide) h2 (by decide) (by decide)
    rw [s1_eq] at h
    exact h
  have HRD : Hid (∀ (W : World), DecS W w.heap.size false ⟨1, 1, 21, false⟩ → Calls Tryz.prog 96 #[.pointer (some ⟨w.heap.size, 0, none⟩), .int .i64 21] W fun e w' => e = .returned (.tuple #[]) ∧ W = w') := fun W h => round_none W w.heap.size false ⟨1, 1, 21, false⟩ 21 (by decide) h
  have hlt : bd < w.heap.size := hv.lt
  clear hL hv
  go_enter Tryz.func68, Tryz.ntmps68
  go_upto_region 14 with fail
  go_quiet (fail)
  go_wp2_with (first | (go_at_call 92; refine (H1.out _).mono ?_; rintro e w' ⟨rfl, rfl⟩) | (go_at_call 94; refine (HAS.out _).mono ?_; rintro e w2 ⟨rfl, hd2, hb2⟩) | (go_at_call 95; refine (HSH.out w2 ⟨w, HLG.out, hb2.below_of ((below_drewN (Below.refl _ _) _).alloc (Nat.le_refl _) _) (Nat.le_refl _) (by simp), Nat.le_refl _⟩ hd2).mono ?_; rintro e w3 ⟨rfl, hd3, hb3⟩; obtain ⟨f3, hF3, hg3⟩ := hd3; have c801 : w3.cell? ⟨w.heap.size, 801, none⟩ = some (.int .i64 21) := hF3.dp; have c800 : w3.cell? ⟨w.heap.size, 800, none⟩ = some (.int .i64 1) := hF3.nd) | (go_at_call 96; refine (HRD.out w3 ⟨f3, hF3, hg3⟩).mono ?_; rintro e w4 ⟨rfl, rfl⟩))
  have hbel : Below w.heap.size w w3 := hb3.below_of (hb2.below_of ((below_drewN (Below.refl _ _) _).alloc (Nat.le_refl _) _) (Nat.le_refl _) (by simp)) (Nat.le_refl _) (by have := hb2.size; simp at this; omega)
  have hrow3 : RowAt w3 5 v bd (u8s []) := HRow.out.kept (hbel.block bd hlt)
  have hf0 : f3 0 = 49 := by have := hg3.2 0 (by decide); simpa using this
  have hsrc : digSrc w3 bd (.slice (some ⟨w.heap.size, 0, none⟩) 800 800) (fun _ => 49) 1 21 := .inr ⟨w.heap.size, 800, 800, rfl, by decide, by decide, by decide, by decide, by omega, fun i hi => by
    obtain rfl : i = 0 := by omega
    have := hF3.d 0 (by decide)
    rw [hf0] at this; exact this⟩
  have HFM : Hid (∀ m : Nat, Calls Tryz.prog 87 #[v, .bool false, .slice (some ⟨w.heap.size, 0, none⟩) 800 800, .int .i64 21, .int .i64 1, .int .i64 0, .int .u8 102, .bool false] (w3.drewN m) fun e w' => ∃ v', e = .returned v' ∧ App (w3.drewN m) 5 bd v' w' (49 :: zerosL 20)) := fun m =>
    fmtEFG_any (w3.drewN m) bd v _ [] false false (fun _ => 49) 1 21 0 102 (hrow3.kept rfl) (by decide) hsrc (fun _ => by decide) (by decide) (by decide) (by decide) (by decide) (by decide) (by decide)
  clear hrow3 hsrc hf0 hb2 hb3 hd2 hg3
  go_region_with (go_at_call 87; refine (HFM.out _).mono ?_; rintro e w5 ⟨v', rfl, hA⟩)
  all_goals go_wp2
  all_goals go_ret
  all_goals exact ⟨v', rfl, appUnder hbel hA⟩

end Go.Proofs.YtdencljnbilchaaGreatDoor

namespace Go.Proofs.YtdencljnbilchaaGreatDoor
open Go.RowKit

theorem iformat_1e20 (w : World) (hL : LaidG w) : Calls Tryz.prog 49 #[.float .f64 4906019910204099648, .int .u8 102, .int .i64 0, .int .i64 64] w fun e w' => e = .returned (.string ⟨(49 :: zerosL 20).toArray⟩) ∧ Below w.heap.size w w' :=
  format_of 4906019910204099648 102 0 (49 :: zerosL 20) w (by decide) (by decide) (by decide) (fun W v bd hb _ hr => ftoa_1e20 W v bd (hL.below hb) hr)

theorem format_1e20 (w : World) (hL : LaidG w) : Calls Tryz.prog 32 #[.float .f64 4906019910204099648, .int .u8 102, .int .i64 0, .int .i64 64] w fun e w' => e = .returned (.string ⟨(49 :: zerosL 20).toArray⟩) ∧ Below w.heap.size w w' := by
  have HF := Lib.hid (iformat_1e20 w hL)
  clear hL
  go_enter Tryz.func32, Tryz.ntmps32
  go_wp2_with (go_at_call 49; refine HF.out.mono ?_; rintro e w' ⟨rfl, hb⟩)
  go_ret
  exact ⟨rfl, hb⟩

end Go.Proofs.YtdencljnbilchaaGreatDoor

namespace Go.Proofs.YtdencljnbilchaaGreatDoor
open Go.RowKit

def infP (x : Nat) : Bool := FloatKind.f64.format.order x 9218868437227405311 == some .gt
def infM (x : Nat) : Bool := FloatKind.f64.format.order (x ^^^ 9223372036854775808) 9218868437227405311 == some .gt

theorem isInfP_any (x : Nat) (w : World) : Calls Tryz.prog 26 #[.float .f64 x, .int .i64 1] w fun e w' => e = .returned (.bool (infP x)) ∧ w = w' := by
  have HB : Hid (infP x = (FloatKind.f64.format.order x 9218868437227405311 == some .gt)) := rfl
  go_enter Tryz.func26, Tryz.ntmps26
  go_wp2
  go_ret
  exact ⟨ret_bool HB.out.symm, rfl⟩

theorem isInfM_any (x : Nat) (w : World) : Calls Tryz.prog 26 #[.float .f64 x, .int .i64 (-1)] w fun e w' => e = .returned (.bool (infM x)) ∧ w = w' := by
  have HB : Hid (infM x = (FloatKind.f64.format.order (x ^^^ 9223372036854775808) 9218868437227405311 == some .gt)) := rfl
  have N1 := run_negF
  go_enter Tryz.func26, Tryz.ntmps26
  go_wp2
  go_ret
  exact ⟨ret_bool HB.out.symm, rfl⟩

/-- The whole part. -/
def truncN (x : Nat) : Nat := FloatKind.f64.encode ((FloatKind.f64.decode x).integral .zero)

theorem ext_trunc0 (x : Nat) (w : World) : (callFunc 39 #[.float .f64 x]).run Tryz.prog w = (do let v ← Go.Extern.MathFloor.toIntegral "math.archTrunc" .zero #[.float .f64 x]; pure (.value v) : Sem Next).run Tryz.prog w := by kernel_rfl

theorem ext_trunc1 (x : Nat) : ∃ N : Bool → Nat → Sem Value, Go.Extern.MathFloor.toIntegral "math.archTrunc" .zero #[.float .f64 x] = Go.Extern.MathFloor.toIntegral.match_1 (motive := fun _ => Sem Value) (FloatKind.f64.decode x) (fun s t => N s t) (fun d => pure (.float .f64 (FloatKind.f64.encode (d.integral .zero)))) := ⟨_, rfl⟩

theorem run_trunc (x : Nat) (hn : FloatKind.f64.format.order x x ≠ none) (w : World) : (callFunc 39 #[.float .f64 x]).run Tryz.prog w = .ok (.value (.float .f64 (truncN x))) w := by
  obtain ⟨N, hN⟩ := ext_trunc1 x
  rw [ext_trunc0, hN]
  have h : ∀ s t, FloatKind.f64.decode x ≠ .nan s t := fun s t e => hn (by
    have e' : FloatKind.f64.format.read x = .nan s t := e
    unfold Ieee.Format.order; rw [e']; rfl)
  unfold truncN
  cases hd : FloatKind.f64.decode x with
  | nan s t => exact absurd hd (h s t)
  | infinity s => rfl
  | number s m e => rfl

theorem trunc_any (x : Nat) (hn : FloatKind.f64.format.order x x ≠ none) (w : World) : Calls Tryz.prog 24 #[.float .f64 x] w fun e w' => e = .returned (.float .f64 (truncN x)) ∧ w = w' := by
  have e1 := fun W => run_trunc x hn W
  clear hn
  go_enter Tryz.func24, Tryz.ntmps24
  go_wp2_with (fail)
  go_ret
  exact ⟨rfl, rfl⟩

/-- Is it a number? -/
def nanB (x : Nat) : Bool := !(FloatKind.f64.format.order x x == some .eq)

theorem order_self (x : Nat) : FloatKind.f64.format.order x x = none ∨ FloatKind.f64.format.order x x = some .eq := by
  unfold Ieee.Format.order
  cases h : FloatKind.f64.format.read x with
  | nan s t => left; rfl
  | infinity s => right; cases s <;> rfl
  | number s m e => right; simp [Ieee.Datum.order]

theorem digits_of_format (x : Nat) (T : ByteArray) (w : World) (h1 : nanB x = false) (h2 : infP x = false) (h3 : infM x = false)
    (hF : Calls Tryz.prog 32 #[.float .f64 (plainN (truncN x)), .int .u8 102, .int .i64 0, .int .i64 64] w fun e w' => e = .returned (.string T) ∧ Below w.heap.size w w') :
    Calls Tryz.prog 16 #[.float .f64 x] w fun e w' => e = .returned (.string T) ∧ Below w.heap.size w w' := by
  have o1 : FloatKind.f64.format.order x x = some .eq := by
    unfold nanB at h1; rcases order_self x with h | h
    · rw [h] at h1; cases h1
    · exact h
  have HF := Lib.hid hF
  have HT := Lib.hid (fun W => trunc_any x (by rw [o1]; simp) W)
  have HP := Lib.hid (fun W => isInfP_any x W)
  have HM := Lib.hid (fun W => isInfM_any x W)
  rw [h2] at HP
  rw [h3] at HM
  clear hF h1 h2 h3
  go_enter Tryz.func16, Tryz.ntmps16
  go_wp2_with (first | (go_at_call 26; first | (with_reducible refine (HP.out _).mono ?_; rintro e w' ⟨rfl, rfl⟩) | (with_reducible refine (HM.out _).mono ?_; rintro e w' ⟨rfl, rfl⟩)) | (go_at_call 24; refine (HT.out _).mono ?_; rintro e w' ⟨rfl, rfl⟩) | (go_at_call 33; refine (plain_any _ _).mono ?_; rintro e w' ⟨rfl, rfl⟩) | (go_at_call 32; refine HF.out.mono ?_; rintro e w' ⟨rfl, hb⟩))
  go_ret
  exact ⟨rfl, hb⟩

theorem digits_nan (x : Nat) (w : World) (h1 : nanB x = true) : Calls Tryz.prog 16 #[.float .f64 x] w fun e w' => e = .returned (.string ⟨#[110, 97, 110]⟩) ∧ w = w' := by
  have o1 : FloatKind.f64.format.order x x = none := by
    unfold nanB at h1; rcases order_self x with h | h
    · exact h
    · rw [h] at h1; cases h1
  clear h1
  go_enter Tryz.func16, Tryz.ntmps16
  go_wp2
  go_ret
  exact ⟨rfl, rfl⟩

theorem digits_infP (x : Nat) (w : World) (h1 : nanB x = false) (h2 : infP x = true) : Calls Tryz.prog 16 #[.float .f64 x] w fun e w' => e = .returned (.string ⟨#[105, 110, 102]⟩) ∧ w = w' := by
  have o1 : FloatKind.f64.format.order x x = some .eq := by
    unfold nanB at h1; rcases order_self x with h | h
    · rw [h] at h1; cases h1
    · exact h
  have HP := Lib.hid (fun W => isInfP_any x W)
  rw [h2] at HP
  clear h1 h2
  go_enter Tryz.func16, Tryz.ntmps16
  go_wp2_with (go_at_call 26; with_reducible refine (HP.out _).mono ?_; rintro e w' ⟨rfl, rfl⟩)
  go_ret
  exact ⟨rfl, rfl⟩

theorem digits_infM (x : Nat) (w : World) (h1 : nanB x = false) (h2 : infP x = false) (h3 : infM x = true) : Calls Tryz.prog 16 #[.float .f64 x] w fun e w' => e = .returned (.string ⟨#[45, 105, 110, 102]⟩) ∧ w = w' := by
  have o1 : FloatKind.f64.format.order x x = some .eq := by
    unfold nanB at h1; rcases order_self x with h | h
    · rw [h] at h1; cases h1
    · exact h
  have HP := Lib.hid (fun W => isInfP_any x W)
  have HM := Lib.hid (fun W => isInfM_any x W)
  rw [h2] at HP
  rw [h3] at HM
  clear h1 h2 h3
  go_enter Tryz.func16, Tryz.ntmps16
  go_wp2_with (go_at_call 26; first | (with_reducible refine (HP.out _).mono ?_; rintro e w' ⟨rfl, rfl⟩) | (with_reducible refine (HM.out _).mono ?_; rintro e w' ⟨rfl, rfl⟩))
  go_ret
  exact ⟨rfl, rfl⟩

end Go.Proofs.YtdencljnbilchaaGreatDoor
