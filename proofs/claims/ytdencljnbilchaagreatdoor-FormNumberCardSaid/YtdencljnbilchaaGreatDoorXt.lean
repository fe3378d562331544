/- atof64, whatever the numeral. ftoa64 at 1e20. FormatFloat at 1e20. math.IsInf at both signs, math.Trunc, num.Digits over FormatFloat. ParseFloat, num.Prefix, whatever the text. num.Prefix at the texts that chapter 11's known ones ask for. num.Digits at 1e20; chapter 11's known ones. FormatFloat at nought; NumKnown. Finite numbers, their whole part, their order. -/
import Derived.Test.YtdencljnbilchaaGreatDoorHc
import Derived.Test.YtdencljnbilchaaGreatDoorXr
import Derived.Test.YtdencljnbilchaaGreatDoorXj
import Derived.Test.YtdencljnbilchaaGreatDoorPa
import Derived.Test.YtdencljnbilchaaGreatDoorFn
import Derived.BigQuiet
import Derived.Deep.QuietTactic
import Derived.Deep.RegionWith
import Derived.BigCall
import Derived.Test.YtdencljnbilchaaGreatDoorWj
import Derived.Test.YtdencljnbilchaaGreatDoorXa
import Derived.Test.YtdencljnbilchaaGreatDoorWl
import Derived.Test.YtdencljnbilchaaGreatDoorXe
import Derived.Test.YtdencljnbilchaaGreatDoorPi

namespace Go.Proofs.YtdencljnbilchaaGreatDoor
open Go.RowKit

def sgN (ng : Bool) : Nat := if ng = true then 9223372036854775808 else 0

theorem decF_zero (w : World) (T : TypeId) (Z : Array Value) (hz : ∀ i, i < 800 → Z[i]? = some (.int .u8 0)) (h0 : Z[800]? = some (.int .i64 0)) (h1 : Z[801]? = some (.int .i64 0)) (h2 : Z[802]? = some (.bool false)) (h3 : Z[803]? = some (.bool false)) :
    DecF (w.alloc (.cells Z T)) w.heap.size (fun _ => 0) 0 0 false false where
  d := fun i hi => by rw [cell_of_row _ _ _ _ _ _ (heap_alloc_new w _), hz i hi]; rfl
  nd := by rw [cell_of_row _ _ _ _ _ _ (heap_alloc_new w _), h0]
  dp := by rw [cell_of_row _ _ _ _ _ _ (heap_alloc_new w _), h1]
  ng := by rw [cell_of_row _ _ _ _ _ _ (heap_alloc_new w _), h2]
  tr := by rw [cell_of_row _ _ _ _ _ _ (heap_alloc_new w _), h3]
  fz := fun i => World.frozen?_alloc_at _ _ _ _ rfl

set_option maxRecDepth 100000 in
theorem decF_z (w : World) : DecF (w.alloc (.cells Tryz.zeroCells135 135)) w.heap.size (fun _ => 0) 0 0 false false := by
  have h : Tryz.zeroCells135.toList.take 800 = List.replicate 800 (.int .u8 0) := by kernel_rfl
  refine decF_zero w _ _ (fun i hi => ?_) (by kernel_rfl) (by kernel_rfl) (by kernel_rfl) (by kernel_rfl)
  have h1 : (Tryz.zeroCells135.toList.take 800)[i]? = some (.int .u8 0) := by rw [h, List.getElem?_replicate, if_pos hi]
  rw [List.getElem?_take, if_pos hi] at h1
  simpa using h1

end Go.Proofs.YtdencljnbilchaaGreatDoor

namespace Go.Proofs.YtdencljnbilchaaGreatDoor
open Go.RowKit

theorem appUnder {w w3 wr : World} {e : TypeId} {bd m : Nat} {v : Value} {acc : List UInt8} (hb : Below w.heap.size w w3) (h : App (w3.drewN m) e bd v wr acc) : App w e bd v wr acc := by
  obtain ⟨g, h1, h2, h3⟩ := h
  have hs := hb.size
  refine ⟨g, h1, h2.imp id (fun h => Nat.le_trans hs h), ⟨h3.os.trans hb.os, h3.tape.trans hb.tape, h3.output.trans hb.output, Nat.le_trans hs h3.size, fun k hk hne => ?_⟩⟩
  exact (h3.block k (Nat.lt_of_lt_of_le hk hs) hne).trans (hb.block k hk)

theorem s0_eq : (⟨(trimN 16 6103515625000000).2, (trimN 16 6103515625000000).1, dpT (trimN 16 6103515625000000).1 (16 : Nat), false⟩ : DS) = ⟨6103515625, 10, 16, false⟩ := by kernel_rfl
theorem s1_eq : shlR ⟨6103515625, 10, 16, false⟩ 14 = ⟨1, 1, 21, false⟩ := by kernel_rfl

set_option maxRecDepth 100000 in
set_option maxHeartbeats 3200000 in
theorem ftoa_1e20 (w : World) (v : Value) (bd : Nat) (hL : LaidG w) (hv : RowAt w 5 v bd []) :
    Calls Tryz.prog 68 #[v, .float .f64 4906019910204099648, .int .u8 102, .int .i64 0] w fun e w' => ∃ v', e = .returned v' ∧ App w 5 bd v' w' (49 :: zerosL 20) := by
  have a1 : bits .and .i64 1089 2047 = 1089 := by decide +kernel
  have a2 : bits .and .u64 4906019910204099648 4503599627370495 = 1599915997629504 := by decide +kernel
  have a3 : bits .or .u64 1599915997629504 4503599627370496 = 6103515625000000 := by decide +kernel
  have HF := ext_fb 4906019910204099648
  have hop := hL.lt.le.lf.opt
  have HLG := Lib.hid hL
  have HRow := Lib.hid hv
  have H1 := Lib.hid (fun W => log10p_any 67 (by omega) (by omega) W)
  have HAS : Hid (∀ q : Nat, Calls Tryz.prog 94 #[.pointer (some ⟨w.heap.size, 0, none⟩), .int .u64 6103515625000000] ((w.drewN q).alloc (.cells Tryz.zeroCells135 135)) fun e w' => e = .returned (.tuple #[]) ∧ DecS w' w.heap.size false ⟨6103515625, 10, 16, false⟩ ∧ OnlyB w.heap.size ((w.drewN q).alloc (.cells Tryz.zeroCells135 135)) w') := fun q => by
    have h := assign_any ((w.drewN q).alloc (.cells Tryz.zeroCells135 135)) w.heap.size 6103515625000000 16 (fun _ => 0) 0 0 false false (by decide) (by decide) (by decide) (.inr (by decide)) (decF_z (w.drewN q))
    rw [s0_eq] at h
    exact h
  have HSH : Hid (∀ (W : World), Under W w.heap.size → DecS W w.heap.size false ⟨6103515625, 10, 16, false⟩ → Calls Tryz.prog 95 #[.pointer (some ⟨w.heap.size, 0, none⟩), .int .i64 14] W (DecEnd W w.heap.size false ⟨1, 1, 21, false⟩)) := fun W h1 h2 => by
    have h := shiftL_any W w.heap.size 14 false ⟨6103515625, 10, 16, false⟩ h1 ⟨by decide, by decide, by decide, by decide⟩ (by decide) (by decide) h2 (by decide) (by decide)
    rw [s1_eq] at h
    exact h
  have HRD : Hid (∀ (W : World), DecS W w.heap.size false ⟨1, 1, 21, false⟩ → Calls Tryz.prog 96 #[.pointer (some ⟨w.heap.size, 0, none⟩), .int .i64 21] W fun e w' => e = .returned (.tuple #[]) ∧ W = w') := fun W h => round_none W w.heap.size false ⟨1, 1, 21, false⟩ 21 (by decide) h
  have hlt : bd < w.heap.size := hv.lt
  clear hL hv
  go_enter Tryz.func68, Tryz.ntmps68
  go_upto_region 14 with fail
  go_quiet (fail)
  go_wp2_with (first | (go_at_call 92; refine (H1.out _).mono ?_; rintro e w' ⟨rfl, rfl⟩) | (go_at_call 94; refine (HAS.out _).mono ?_; rintro e w2 ⟨rfl, hd2, hb2⟩) | (go_at_call 95; refine (HSH.out w2 ⟨w, HLG.out, hb2.below_of ((below_drewN (Below.refl _ _) _).alloc (Nat.le_refl _) _) (Nat.le_refl _) (by simp), Nat.le_refl _⟩ hd2).mono ?_; rintro e w3 ⟨rfl, hd3, hb3⟩; obtain ⟨f3, hF3, hg3⟩ := hd3; have c801 : w3.cell? ⟨w.heap.size, 801, none⟩ = some (.int .i64 21) := hF3.dp; have c800 : w3.cell? ⟨w.heap.size, 800, none⟩ = some (.int .i64 1) := hF3.nd) | (go_at_call 96; refine (HRD.out w3 ⟨f3, hF3, hg3⟩).mono ?_; rintro e w4 ⟨rfl, rfl⟩))
  have hbel : Below w.heap.size w w3 := hb3.below_of (hb2.below_of ((below_drewN (Below.refl _ _) _).alloc (Nat.le_refl _) _) (Nat.le_refl _) (by simp)) (Nat.le_refl _) (by have := hb2.size; simp at this; omega)
  have hrow3 : RowAt w3 5 v bd (u8s []) := HRow.out.kept (hbel.block bd hlt)
  have hf0 : f3 0 = 49 := by have := hg3.2 0 (by decide); simpa using this
  have hsrc : digSrc w3 bd (.slice (some ⟨w.heap.size, 0, none⟩) 800 800) (fun _ => 49) 1 21 := .inr ⟨w.heap.size, 800, 800, rfl, by decide, by decide, by decide, by decide, by omega, fun i hi => by
    obtain rfl : i = 0 := by omega
    have := hF3.d 0 (by decide)
    rw [hf0] at this; exact this⟩
  have HFM : Hid (∀ m : Nat, Calls Tryz.prog 87 #[v, .bool false, .slice (some ⟨w.heap.size, 0, none⟩) 800 800, .int .i64 21, .int .i64 1, .int .i64 0, .int .u8 102, .bool false] (w3.drewN m) fun e w' => ∃ v', e = .returned v' ∧ App (w3.drewN m) 5 bd v' w' (49 :: zerosL 20)) := fun m =>
    fmtEFG_any (w3.drewN m) bd v _ [] false false (fun _ => 49) 1 21 0 102 (hrow3.kept rfl) (by decide) hsrc (fun _ => by decide) (by decide) (by decide) (by decide) (by decide) (by decide) (by decide)
  clear hrow3 hsrc hf0 hb2 hb3 hd2 hg3
  go_region_with (go_at_call 87; refine (HFM.out _).mono ?_; rintro e w5 ⟨v', rfl, hA⟩)
  all_goals go_wp2
  all_goals go_ret
  all_goals exact ⟨v', rfl, appUnder hbel hA⟩

end Go.Proofs.YtdencljnbilchaaGreatDoor

namespace Go.Proofs.YtdencljnbilchaaGreatDoor
open Go.RowKit

theorem iformat_1e20 (w : World) (hL : LaidG w) : Calls Tryz.prog 49 #[.float .f64 4906019910204099648, .int .u8 102, .int .i64 0, .int .i64 64] w fun e w' => e = .returned (.string ⟨(49 :: zerosL 20).toArray⟩) ∧ Below w.heap.size w w' :=
  format_of 4906019910204099648 102 0 (49 :: zerosL 20) w (by decide) (by decide) (by decide) (fun W v bd hb _ hr => ftoa_1e20 W v bd (hL.below hb) hr)

theorem format_1e20 (w : World) (hL : LaidG w) : Calls Tryz.prog 32 #[.float .f64 4906019910204099648, .int .u8 102, .int .i64 0, .int .i64 64] w fun e w' => e = .returned (.string ⟨(49 :: zerosL 20).toArray⟩) ∧ Below w.heap.size w w' := by
  have HF := Lib.hid (iformat_1e20 w hL)
  clear hL
  go_enter Tryz.func32, Tryz.ntmps32
  go_wp2_with (go_at_call 49; refine HF.out.mono ?_; rintro e w' ⟨rfl, hb⟩)
  go_ret
  exact ⟨rfl, hb⟩

end Go.Proofs.YtdencljnbilchaaGreatDoor

namespace Go.Proofs.YtdencljnbilchaaGreatDoor
open Go.RowKit

def infP (x : Nat) : Bool := FloatKind.f64.format.order x 9218868437227405311 == some .gt
def infM (x : Nat) : Bool := FloatKind.f64.format.order (x ^^^ 9223372036854775808) 9218868437227405311 == some .gt

theorem isInfP_any (x : Nat) (w : World) : Calls Tryz.prog 26 #[.float .f64 x, .int .i64 1] w fun e w' => e = .returned (.bool (infP x)) ∧ w = w' := by
  have HB : Hid (infP x = (FloatKind.f64.format.order x 9218868437227405311 == some .gt)) := rfl
  go_enter Tryz.func26, Tryz.ntmps26
  go_wp2
  go_ret
  exact ⟨ret_bool HB.out.symm, rfl⟩

theorem isInfM_any (x : Nat) (w : World) : Calls Tryz.prog 26 #[.float .f64 x, .int .i64 (-1)] w fun e w' => e = .returned (.bool (infM x)) ∧ w = w' := by
  have HB : Hid (infM x = (FloatKind.f64.format.order (x ^^^ 9223372036854775808) 9218868437227405311 == some .gt)) := rfl
  have N1 := run_negF
  go_enter Tryz.func26, Tryz.ntmps26
  go_wp2
  go_ret
  exact ⟨ret_bool HB.out.symm, rfl⟩

/-- The whole part. -/
def truncN (x : Nat) : Nat := FloatKind.f64.encode ((FloatKind.f64.decode x).integral .zero)

theorem ext_trunc0 (x : Nat) (w : World) : (callFunc 39 #[.float .f64 x]).run Tryz.prog w = (do let v ← Go.Extern.MathFloor.toIntegral "math.archTrunc" .zero #[.float .f64 x]; pure (.value v) : Sem Next).run Tryz.prog w := by kernel_rfl

theorem ext_trunc1 (x : Nat) : ∃ N : Bool → Nat → Sem Value, Go.Extern.MathFloor.toIntegral "math.archTrunc" .zero #[.float .f64 x] = Go.Extern.MathFloor.toIntegral.match_1 (motive := fun _ => Sem Value) (FloatKind.f64.decode x) (fun s t => N s t) (fun d => pure (.float .f64 (FloatKind.f64.encode (d.integral .zero)))) := ⟨_, rfl⟩

theorem run_trunc (x : Nat) (hn : FloatKind.f64.format.order x x ≠ none) (w : World) : (callFunc 39 #[.float .f64 x]).run Tryz.prog w = .ok (.value (.float .f64 (truncN x))) w := by
  obtain ⟨N, hN⟩ := ext_trunc1 x
  rw [ext_trunc0, hN]
  have h : ∀ s t, FloatKind.f64.decode x ≠ .nan s t := fun s t e => hn (by
    have e' : FloatKind.f64.format.read x = .nan s t := e
    unfold Ieee.Format.order; rw [e']; rfl)
  unfold truncN
  cases hd : FloatKind.f64.decode x with
  | nan s t => exact absurd hd (h s t)
  | infinity s => rfl
  | number s m e => rfl

theorem trunc_any (x : Nat) (hn : FloatKind.f64.format.order x x ≠ none) (w : World) : Calls Tryz.prog 24 #[.float .f64 x] w fun e w' => e = .returned (.float .f64 (truncN x)) ∧ w = w' := by
  have e1 := fun W => run_trunc x hn W
  clear hn
  go_enter Tryz.func24, Tryz.ntmps24
  go_wp2_with (fail)
  go_ret
  exact ⟨rfl, rfl⟩

/-- Is it a number? -/
def nanB (x : Nat) : Bool := !(FloatKind.f64.format.order x x == some .eq)

theorem order_self (x : Nat) : FloatKind.f64.format.order x x = none ∨ FloatKind.f64.format.order x x = some .eq := by
  unfold Ieee.Format.order
  cases h : FloatKind.f64.format.read x with
  | nan s t => left; rfl
  | infinity s => right; cases s <;> rfl
  | number s m e => right; simp [Ieee.Datum.order]

theorem digits_of_format (x : Nat) (T : ByteArray) (w : World) (h1 : nanB x = false) (h2 : infP x = false) (h3 : infM x = false)
    (hF : Calls Tryz.prog 32 #[.float .f64 (plainN (truncN x)), .int .u8 102, .int .i64 0, .int .i64 64] w fun e w' => e = .returned (.string T) ∧ Below w.heap.size w w') :
    Calls Tryz.prog 16 #[.float .f64 x] w fun e w' => e = .returned (.string T) ∧ Below w.heap.size w w' := by
  have o1 : FloatKind.f64.format.order x x = some .eq := by
    unfold nanB at h1; rcases order_self x with h | h
    · rw [h] at h1; cases h1
    · exact h
  have HF := Lib.hid hF
  have HT := Lib.hid (fun W => trunc_any x (by rw [o1]; simp) W)
  have HP := Lib.hid (fun W => isInfP_any x W)
  have HM := Lib.hid (fun W => isInfM_any x W)
  rw [h2] at HP
  rw [h3] at HM
  clear hF h1 h2 h3
  go_enter Tryz.func16, Tryz.ntmps16
  go_wp2_with (first | (go_at_call 26; first | (with_reducible refine (HP.out _).mono ?_; rintro e w' ⟨rfl, rfl⟩) | (with_reducible refine (HM.out _).mono ?_; rintro e w' ⟨rfl, rfl⟩)) | (go_at_call 24; refine (HT.out _).mono ?_; rintro e w' ⟨rfl, rfl⟩) | (go_at_call 33; refine (plain_any _ _).mono ?_; rintro e w' ⟨rfl, rfl⟩) | (go_at_call 32; refine HF.out.mono ?_; rintro e w' ⟨rfl, hb⟩))
  go_ret
  exact ⟨rfl, hb⟩

theorem digits_nan (x : Nat) (w : World) (h1 : nanB x = true) : Calls Tryz.prog 16 #[.float .f64 x] w fun e w' => e = .returned (.string ⟨#[110, 97, 110]⟩) ∧ w = w' := by
  have o1 : FloatKind.f64.format.order x x = none := by
    unfold nanB at h1; rcases order_self x with h | h
    · exact h
    · rw [h] at h1; cases h1
  clear h1
  go_enter Tryz.func16, Tryz.ntmps16
  go_wp2
  go_ret
  exact ⟨rfl, rfl⟩

theorem digits_infP (x : Nat) (w : World) (h1 : nanB x = false) (h2 : infP x = true) : Calls Tryz.prog 16 #[.float .f64 x] w fun e w' => e = .returned (.string ⟨#[105, 110, 102]⟩) ∧ w = w' := by
  have o1 : FloatKind.f64.format.order x x = some .eq := by
    unfold nanB at h1; rcases order_self x with h | h
    · rw [h] at h1; cases h1
    · exact h
  have HP := Lib.hid (fun W => isInfP_any x W)
  rw [h2] at HP
  clear h1 h2
  go_enter Tryz.func16, Tryz.ntmps16
  go_wp2_with (go_at_call 26; with_reducible refine (HP.out _).mono ?_; rintro e w' ⟨rfl, rfl⟩)
  go_ret
  exact ⟨rfl, rfl⟩

theorem digits_infM (x : Nat) (w : World) (h1 : nanB x = false) (h2 : infP x = false) (h3 : infM x = true) : Calls Tryz.prog 16 #[.float .f64 x] w fun e w' => e = .returned (.string ⟨#[45, 105, 110, 102]⟩) ∧ w = w' := by
  have o1 : FloatKind.f64.format.order x x = some .eq := by
    unfold nanB at h1; rcases order_self x with h | h
    · rw [h] at h1; cases h1
    · exact h
  have HP := Lib.hid (fun W => isInfP_any x W)
  have HM := Lib.hid (fun W => isInfM_any x W)
  rw [h2] at HP
  rw [h3] at HM
  clear h1 h2 h3
  go_enter Tryz.func16, Tryz.ntmps16
  go_wp2_with (go_at_call 26; first | (with_reducible refine (HP.out _).mono ?_; rintro e w' ⟨rfl, rfl⟩) | (with_reducible refine (HM.out _).mono ?_; rintro e w' ⟨rfl, rfl⟩))
  go_ret
  exact ⟨rfl, rfl⟩

end Go.Proofs.YtdencljnbilchaaGreatDoor

namespace Go.Proofs.YtdencljnbilchaaGreatDoor
open Go.RowKit

end Go.Proofs.YtdencljnbilchaaGreatDoor

namespace Go.Proofs.YtdencljnbilchaaGreatDoor
open Go.RowKit

/-- Does it look like a number? -/
def looksB (l : List UInt8) : Bool := if numeralN (l.drop (beginA l)) = 0 then false else decide (prefixE l + nWhile isBlank (l.drop (prefixE l)) = l.length)

end Go.Proofs.YtdencljnbilchaaGreatDoor

namespace Go.Proofs.YtdencljnbilchaaGreatDoor
open Go.RowKit

theorem digits_1e20 (w : World) (hL : LaidG w) : Calls Tryz.prog 16 #[.float .f64 4906019910204099648] w fun e w' => e = .returned (.string ⟨(49 :: zerosL 20).toArray⟩) ∧ Below w.heap.size w w' :=
  digits_of_format 4906019910204099648 _ w (by kernel_rfl) (by kernel_rfl) (by kernel_rfl) (by
    have e : plainN (truncN 4906019910204099648) = 4906019910204099648 := by kernel_rfl
    rw [e]
    exact format_1e20 w hL)

end Go.Proofs.YtdencljnbilchaaGreatDoor

namespace Go.Proofs.YtdencljnbilchaaGreatDoor
open Go.RowKit

theorem appDrew {w wr : World} {e : TypeId} {bd m : Nat} {v : Value} {acc : List UInt8} (h : App (w.drewN m) e bd v wr acc) : App w e bd v wr acc := by
  obtain ⟨g, h1, h2, h3⟩ := h
  exact ⟨g, h1, h2, ⟨h3.os, h3.tape, h3.output, h3.size, h3.block⟩⟩

set_option maxRecDepth 100000 in
set_option maxHeartbeats 3200000 in
theorem ftoa_zero (w : World) (v : Value) (bd : Nat) (hv : RowAt w 5 v bd []) :
    Calls Tryz.prog 68 #[v, .float .f64 0, .int .u8 102, .int .i64 0] w fun e w' => ∃ v', e = .returned v' ∧ App w 5 bd v' w' [48] := by
  have a1 : bits .and .i64 0 2047 = 0 := by decide +kernel
  have a2 : bits .and .u64 0 4503599627370495 = 0 := by decide +kernel
  have HF := ext_fb 0
  have HFM : Hid (∀ m : Nat, Calls Tryz.prog 87 #[v, .bool false, .slice none 0 0, .int .i64 0, .int .i64 0, .int .i64 0, .int .u8 102, .bool false] (w.drewN m) fun e w' => ∃ v', e = .returned v' ∧ App (w.drewN m) 5 bd v' w' [48]) := fun m =>
    fmtEFG_any (w.drewN m) bd v _ [] false false (fun _ => 48) 0 0 0 102 (hv.kept rfl) (by decide) (.inl ⟨rfl, by decide⟩) (fun _ => by decide) (by decide) (by decide) (by decide) (by decide) (by decide) (by decide)
  clear hv
  go_enter Tryz.func68, Tryz.ntmps68
  go_upto_region 14 with fail
  go_quiet (fail)
  go_wp2_with (go_at_call 87; refine (HFM.out _).mono ?_; rintro e w5 ⟨v', rfl, hA⟩)
  go_ret
  exact ⟨v', rfl, appDrew hA⟩

theorem iformat_zero (w : World) : Calls Tryz.prog 49 #[.float .f64 0, .int .u8 102, .int .i64 0, .int .i64 64] w fun e w' => e = .returned (.string ⟨#[48]⟩) ∧ Below w.heap.size w w' :=
  format_of 0 102 0 [48] w (by decide) (by decide) (by decide) (fun W v bd hb _ hr => ftoa_zero W v bd hr)

theorem format_zero (w : World) : Calls Tryz.prog 32 #[.float .f64 0, .int .u8 102, .int .i64 0, .int .i64 64] w fun e w' => e = .returned (.string ⟨#[48]⟩) ∧ Below w.heap.size w w' := by
  have HF := Lib.hid (iformat_zero w)
  go_enter Tryz.func32, Tryz.ntmps32
  go_wp2_with (go_at_call 49; refine HF.out.mono ?_; rintro e w' ⟨rfl, hb⟩)
  go_ret
  exact ⟨rfl, hb⟩

theorem whole_1e16 (w : World) : Calls Tryz.prog 34 #[.float .f64 4846369599423283200] w fun e w' => e = .returned (.bool false) ∧ w = w' := by
  have o1 : FloatKind.f64.format.order 4846369599423283200 4846369599423283200 = some .eq := by kernel_rfl
  have o2 : FloatKind.f64.format.order 4846369599423283200 14069741636278059008 = some .gt := by kernel_rfl
  have ht : truncN 4846369599423283200 = 4846369599423283200 := by kernel_rfl
  have HT := Lib.hid (fun W => trunc_any 4846369599423283200 (by rw [o1]; simp) W)
  rw [ht] at HT
  go_enter Tryz.func34, Tryz.ntmps34
  go_wp2_with (go_at_call 24; refine (HT.out _).mono ?_; rintro e w' ⟨rfl, rfl⟩)
  go_ret
  exact ⟨rfl, rfl⟩

theorem whole_m3 (w : World) : Calls Tryz.prog 34 #[.float .f64 13837309855095848960] w fun e w' => e = .returned (.bool true) ∧ w = w' := by
  have o1 : FloatKind.f64.format.order 13837309855095848960 13837309855095848960 = some .eq := by kernel_rfl
  have o2 : FloatKind.f64.format.order 13837309855095848960 14069741636278059008 = some .gt := by kernel_rfl
  have o3 : FloatKind.f64.format.order 13837309855095848960 4846369599423283200 = some .lt := by kernel_rfl
  have ht : truncN 13837309855095848960 = 13837309855095848960 := by kernel_rfl
  have HT := Lib.hid (fun W => trunc_any 13837309855095848960 (by rw [o1]; simp) W)
  rw [ht] at HT
  go_enter Tryz.func34, Tryz.ntmps34
  go_wp2_with (go_at_call 24; refine (HT.out _).mono ?_; rintro e w' ⟨rfl, rfl⟩)
  go_ret
  exact ⟨rfl, rfl⟩

theorem digits_mhalf (w : World) : Calls Tryz.prog 16 #[.float .f64 13826050856027422720] w fun e w' => e = .returned (.string ⟨#[48]⟩) ∧ Below w.heap.size w w' :=
  digits_of_format 13826050856027422720 _ w (by kernel_rfl) (by kernel_rfl) (by kernel_rfl) (by
    have e : plainN (truncN 13826050856027422720) = 0 := by kernel_rfl
    rw [e]
    exact format_zero w)

end Go.Proofs.YtdencljnbilchaaGreatDoor

namespace Go.Proofs.YtdencljnbilchaaGreatDoor
open Ieee

def finN (x : Nat) : Prop := x % 9223372036854775808 < 9218868437227405312

theorem truncN_fin {x : Nat} (hx : x < 18446744073709551616) (h : finN x) : ∃ r, r < 9218868437227405312 ∧ truncN x = if 9223372036854775808 ≤ x then 9223372036854775808 + r else r := by
  have hr := read_num h
  have hm := mgN_lt x
  have hp := plN_bd x h
  have hs : (x / 9223372036854775808 % 2 == 1) = decide (9223372036854775808 ≤ x) := by
    by_cases h9 : 9223372036854775808 ≤ x
    · rw [decide_eq_true h9, beq_iff_eq]; omega
    · rw [decide_eq_false h9, beq_eq_false_iff_ne]; omega
  rw [hs] at hr
  have e : truncN x = FloatKind.f64.format.nearest (decide (9223372036854775808 ≤ x)) (Toward.zero.cut (decide (9223372036854775808 ≤ x)) (mgN x <<< (plN x).toNat) (-(plN x)).toNat) 0 := by
    unfold truncN FloatKind.encode FloatKind.decode
    rw [hr]; rfl
  obtain ⟨m, k, hm', hk, hc⟩ : ∃ m k, m < 9007199254740992 ∧ k ≤ 971 ∧ Toward.zero.cut (decide (9223372036854775808 ≤ x)) (mgN x <<< (plN x).toNat) (-(plN x)).toNat = m * 2 ^ k := by
    by_cases h0 : plN x < 0
    · refine ⟨_, 0, ?_, by omega, by rw [Nat.pow_zero, Nat.mul_one]⟩
      have := cut_low .zero (decide (9223372036854775808 ≤ x)) (mgN x <<< (plN x).toNat) (-(plN x)).toNat rfl
      rw [show (plN x).toNat = 0 by omega, Nat.shiftLeft_zero] at this ⊢
      omega
    · refine ⟨mgN x, (plN x).toNat, hm, by omega, ?_⟩
      rw [show (-(plN x)).toNat = 0 by omega, Nat.shiftLeft_eq]
      unfold Toward.cut
      simp
  rw [hc] at e
  obtain ⟨r, hr1, hr2⟩ := nearest_fin (decide (9223372036854775808 ≤ x)) m hm' k hk
  refine ⟨r, hr1, ?_⟩
  rw [e, hr2]
  by_cases h9 : 9223372036854775808 ≤ x
  · rw [if_pos h9, if_pos (decide_eq_true h9)]
  · rw [if_neg h9, if_neg (by simpa using h9)]

theorem cmp_lt {a b : Int} (h : a < b) : compare a b = .lt := by simp [compare, compareOfLessAndEq, h]
theorem cmp_eq (a : Int) : compare a a = .eq := by simp [compare, compareOfLessAndEq]
theorem cmp_gt {a b : Int} (h : b < a) : compare a b = .gt := by
  have h1 : ¬ a < b := by omega
  have h2 : ¬ a = b := by omega
  simp [compare, compareOfLessAndEq, h1, h2]

theorem signed_t (m k : Nat) : signed true m k = -((m * 2 ^ k : Nat) : Int) := by unfold signed; simp [Nat.shiftLeft_eq]
theorem signed_f (m k : Nat) : signed false m k = ((m * 2 ^ k : Nat) : Int) := by unfold signed; simp [Nat.shiftLeft_eq]
theorem signed_le (s : Bool) (m k : Nat) : -((m * 2 ^ k : Nat) : Int) ≤ signed s m k ∧ signed s m k ≤ ((m * 2 ^ k : Nat) : Int) := by
  cases s
  · rw [signed_f]; omega
  · rw [signed_t]; omega

theorem read_maxF : FloatKind.f64.format.read 9218868437227405311 = .number false 9007199254740991 971 := by kernel_rfl
theorem read_minF : FloatKind.f64.format.read 18442240474082181119 = .number true 9007199254740991 971 := by kernel_rfl
theorem read_1e16 : FloatKind.f64.format.read 4846369599423283200 = .number false 5000000000000000 1 := by kernel_rfl
theorem read_m1e16 : FloatKind.f64.format.read 14069741636278059008 = .number true 5000000000000000 1 := by kernel_rfl

theorem order_num {x y : Nat} {s t : Bool} {m n : Nat} {i j : Int} (hx : FloatKind.f64.format.read x = .number s m i) (hy : FloatKind.f64.format.read y = .number t n j) :
    FloatKind.f64.format.order x y = some (compare (signed s m (i - min i j).toNat) (signed t n (j - min i j).toNat)) := by
  unfold Format.order; rw [hx, hy]; rfl

theorem big_le (m k : Nat) (h : m < 9007199254740992) : m * 2 ^ 0 ≤ 9007199254740991 * 2 ^ k := by
  have : 1 ≤ 2 ^ k := Nat.one_le_two_pow
  rw [Nat.pow_zero, Nat.mul_one]
  calc m ≤ 9007199254740991 * 1 := by omega
    _ ≤ 9007199254740991 * 2 ^ k := Nat.mul_le_mul_left _ this

theorem order_maxF {x : Nat} (h : finN x) : FloatKind.f64.format.order x 9218868437227405311 = some .lt ∨ FloatKind.f64.format.order x 9218868437227405311 = some .eq := by
  have hp := plN_bd x h
  rw [order_num (read_num h) read_maxF, Int.min_eq_left hp.2, show (plN x - plN x).toNat = 0 by omega, signed_f]
  have h1 := (signed_le (x / 9223372036854775808 % 2 == 1) (mgN x) 0).2
  have h2 := big_le (mgN x) (971 - plN x).toNat (mgN_lt x)
  rcases Int.lt_or_eq_of_le (Int.le_trans h1 (Int.ofNat_le.2 h2)) with h3 | h3
  · left; rw [cmp_lt h3]
  · right; rw [h3, cmp_eq]
theorem order_minF {x : Nat} (h : finN x) : FloatKind.f64.format.order x 18442240474082181119 = some .gt ∨ FloatKind.f64.format.order x 18442240474082181119 = some .eq := by
  have hp := plN_bd x h
  rw [order_num (read_num h) read_minF, Int.min_eq_left hp.2, show (plN x - plN x).toNat = 0 by omega, signed_t]
  have h1 := (signed_le (x / 9223372036854775808 % 2 == 1) (mgN x) 0).1
  have h2 := big_le (mgN x) (971 - plN x).toNat (mgN_lt x)
  have h4 : -((9007199254740991 * 2 ^ (971 - plN x).toNat : Nat) : Int) ≤ signed (x / 9223372036854775808 % 2 == 1) (mgN x) 0 := Int.le_trans (Int.neg_le_neg (Int.ofNat_le.2 h2)) h1
  rcases Int.lt_or_eq_of_le h4 with h3 | h3
  · left; rw [cmp_gt h3]
  · right; rw [← h3, cmp_eq]

theorem flip_mod (x : Nat) : (x ^^^ 9223372036854775808) % 9223372036854775808 = x % 9223372036854775808 := by
  have h : (x ^^^ 2 ^ 63) % 2 ^ 63 = x % 2 ^ 63 ^^^ 2 ^ 63 % 2 ^ 63 := Nat.xor_mod_two_pow
  have e : (2 : Nat) ^ 63 = 9223372036854775808 := by decide
  rw [e] at h
  rw [h, Nat.mod_self, Nat.xor_zero]
theorem fin_flip {x : Nat} (h : finN x) : finN (x ^^^ 9223372036854775808) := by unfold finN; rw [flip_mod]; exact h

theorem infP_fin {x : Nat} (h : finN x) : infP x = false := by
  unfold infP; rcases order_maxF h with e | e <;> rw [e] <;> rfl
theorem infM_fin {x : Nat} (h : finN x) : infM x = false := by
  unfold infM; rcases order_maxF (fin_flip h) with e | e <;> rw [e] <;> rfl
theorem nanB_fin {x : Nat} (h : finN x) : nanB x = false := by
  unfold nanB; rw [order_num (read_num h) (read_num h), cmp_eq]; rfl

theorem nan_order {x : Nat} (hx : x < 18446744073709551616) (h : 9218868437227405312 < x % 9223372036854775808) (y : Nat) : FloatKind.f64.format.order x y = none := by
  obtain ⟨s, t, e⟩ := read_nan hx h
  unfold Format.order; rw [e]; rfl

/-- What a double is: finite, an infinity, none. -/
theorem class3 (x : Nat) (hx : x < 18446744073709551616) : finN x ∨ x = 9218868437227405312 ∨ x = 18442240474082181120 ∨ 9218868437227405312 < x % 9223372036854775808 := by
  unfold finN; omega

/-- Is a finite number less than 1e16, without its sign? -/
def ltB (x : Nat) : Bool := FloatKind.f64.format.order (absN x) 4846369599423283200 == some .lt

theorem absN_fin {x : Nat} (h : finN x) : finN (absN x) ∧ mgN (absN x) = mgN x ∧ plN (absN x) = plN x ∧ (absN x / 9223372036854775808 % 2 == 1) = false := by
  have e : absN x = x % 9223372036854775808 := rfl
  rw [e]
  unfold finN mgN plN at *
  rw [Nat.mod_mod]
  refine ⟨h, rfl, rfl, ?_⟩
  rw [beq_eq_false_iff_ne]
  omega

theorem whole_orders {x : Nat} (h : finN x) :
    (ltB x = true ∧ FloatKind.f64.format.order x 14069741636278059008 = some .gt ∧ FloatKind.f64.format.order x 4846369599423283200 = some .lt) ∨
    (ltB x = false ∧ ((FloatKind.f64.format.order x 14069741636278059008 == some .gt) = false ∨ (FloatKind.f64.format.order x 4846369599423283200 == some .lt) = false)) := by
  obtain ⟨h1, h2, h3, h4⟩ := absN_fin h
  unfold ltB
  rw [order_num (read_num h1) read_1e16, order_num (read_num h) read_1e16, order_num (read_num h) read_m1e16, h2, h3, h4, signed_f, signed_f, signed_t]
  obtain ⟨a, ea⟩ : ∃ a : Nat, mgN x * 2 ^ (plN x - min (plN x) 1).toNat = a := ⟨_, rfl⟩
  obtain ⟨b, eb⟩ : ∃ b : Nat, 5000000000000000 * 2 ^ (1 - min (plN x) 1).toNat = b := ⟨_, rfl⟩
  have hb : 0 < b := by rw [← eb]; exact Nat.mul_pos (by decide) (Nat.pow_pos (by decide))
  cases hs : (x / 9223372036854775808 % 2 == 1) with
  | true =>
    rw [signed_t, ea, eb]
    by_cases hab : a < b
    · left
      rw [cmp_lt (show (a : Int) < b by omega), cmp_gt (show -(b : Int) < -(a : Int) by omega), cmp_lt (show -(a : Int) < (b : Int) by omega)]
      exact ⟨rfl, rfl, rfl⟩
    · right
      refine ⟨?_, .inl ?_⟩
      · rcases Nat.lt_or_eq_of_le (Nat.le_of_not_lt hab) with h5 | h5
        · rw [cmp_gt (show (b : Int) < a by omega)]; rfl
        · rw [h5, cmp_eq]; rfl
      · rcases Nat.lt_or_eq_of_le (Nat.le_of_not_lt hab) with h5 | h5
        · rw [cmp_lt (show -(a : Int) < -(b : Int) by omega)]; rfl
        · rw [h5, cmp_eq]; rfl
  | false =>
    rw [signed_f, ea, eb]
    by_cases hab : a < b
    · left
      rw [cmp_lt (show (a : Int) < b by omega), cmp_gt (show -(b : Int) < (a : Int) by omega)]
      exact ⟨rfl, rfl, rfl⟩
    · right
      refine ⟨?_, .inr ?_⟩ <;>
      · rcases Nat.lt_or_eq_of_le (Nat.le_of_not_lt hab) with h5 | h5
        · rw [cmp_gt (show (b : Int) < a by omega)]; rfl
        · rw [h5, cmp_eq]; rfl

end Go.Proofs.YtdencljnbilchaaGreatDoor
