/- num.Prefix at the texts that chapter 11's known ones ask for. num.Digits at 1e20; chapter 11's known ones. FormatFloat at nought; NumKnown. -/
import Derived.Test.YtdencljnbilchaaGreatDoorXu
import Derived.Test.YtdencljnbilchaaGreatDoorXe
import Derived.Test.YtdencljnbilchaaGreatDoorXt

namespace Go.Proofs.YtdencljnbilchaaGreatDoor
open Go.RowKit

/-- Does it look like a number? -/
def looksB (l : List UInt8) : Bool := if numeralN (l.drop (beginA l)) = 0 then false else decide (prefixE l + nWhile isBlank (l.drop (prefixE l)) = l.length)

end Go.Proofs.YtdencljnbilchaaGreatDoor

namespace Go.Proofs.YtdencljnbilchaaGreatDoor
open Go.RowKit

theorem digits_1e20 (w : World) (hL : LaidG w) : Calls Tryz.prog 16 #[.float .f64 4906019910204099648] w fun e w' => e = .returned (.string ⟨(49 :: zerosL 20).toArray⟩) ∧ Below w.heap.size w w' :=
  digits_of_format 4906019910204099648 _ w (by kernel_rfl) (by kernel_rfl) (by kernel_rfl) (by
    have e : plainN (truncN 4906019910204099648) = 4906019910204099648 := by kernel_rfl
    rw [e]
    exact format_1e20 w hL)

end Go.Proofs.YtdencljnbilchaaGreatDoor

namespace Go.Proofs.YtdencljnbilchaaGreatDoor
open Go.RowKit

theorem appDrew {w wr : World} {e : TypeId} {bd m : Nat} {v : Value} {acc : List UInt8} (h : App (w.drewN m) e bd v wr acc) : App w e bd v wr acc := by
  obtain ⟨g, h1, h2, h3⟩ := h
  exact ⟨g, h1, h2, ⟨h3.os, h3.tape, h3.output, h3.size, h3.block⟩⟩

set_option maxRecDepth 100000 in
set_option maxHeartbeats 3200000 in
theorem ftoa_zero (w : World) (v : Value) (bd : Nat) (hv : RowAt w 5 v bd []) :
    Calls Tryz.prog 68 #[v, .float .f64 0, .int .u8 102, .int .i64 0] w fun e w' => ∃ v', e = .returned v' ∧ App w 5 bd v' w' [48] := by
  have a1 : bits .and .i64 0 2047 = 0 := by decide +kernel
  have a2 : bits .and .u64 0 4503599627370495 = 0 := by decide +kernel
  have HF := ext_fb 0
  have HFM : Hid (∀ m : Nat, Calls Tryz.prog 87 #[v, .bool false, .slice none 0 0, .int .i64 0, .int .i64 0, .int .i64 0, .int .u8 102, .bool false] (w.drewN m) fun e w' => ∃ v', e = .returned v' ∧ App (w.drewN m) 5 bd v' w' [48]) := fun m =>
    fmtEFG_any (w.drewN m) bd v _ [] false false (fun _ => 48) 0 0 0 102 (hv.kept rfl) (by decide) (.inl ⟨rfl, by decide⟩) (fun _ => by decide) (by decide) (by decide) (by decide) (by decide) (by decide) (by decide)
  clear hv
  go_enter Tryz.func68, Tryz.ntmps68
  go_upto_region 14 with fail
  go_quiet (fail)
  go_wp2_with (go_at_call 87; refine (HFM.out _).mono ?_; rintro e w5 ⟨v', rfl, hA⟩)
  go_ret
  exact ⟨v', rfl, appDrew hA⟩

theorem iformat_zero (w : World) : Calls Tryz.prog 49 #[.float .f64 0, .int .u8 102, .int .i64 0, .int .i64 64] w fun e w' => e = .returned (.string ⟨#[48]⟩) ∧ Below w.heap.size w w' :=
  format_of 0 102 0 [48] w (by decide) (by decide) (by decide) (fun W v bd hb _ hr => ftoa_zero W v bd hr)

theorem format_zero (w : World) : Calls Tryz.prog 32 #[.float .f64 0, .int .u8 102, .int .i64 0, .int .i64 64] w fun e w' => e = .returned (.string ⟨#[48]⟩) ∧ Below w.heap.size w w' := by
  have HF := Lib.hid (iformat_zero w)
  go_enter Tryz.func32, Tryz.ntmps32
  go_wp2_with (go_at_call 49; refine HF.out.mono ?_; rintro e w' ⟨rfl, hb⟩)
  go_ret
  exact ⟨rfl, hb⟩

theorem whole_1e16 (w : World) : Calls Tryz.prog 34 #[.float .f64 4846369599423283200] w fun e w' => e = .returned (.bool false) ∧ w = w' := by
  have o1 : FloatKind.f64.format.order 4846369599423283200 4846369599423283200 = some .eq := by kernel_rfl
  have o2 : FloatKind.f64.format.order 4846369599423283200 14069741636278059008 = some .gt := by kernel_rfl
  have ht : truncN 4846369599423283200 = 4846369599423283200 := by kernel_rfl
  have HT := Lib.hid (fun W => trunc_any 4846369599423283200 (by rw [o1]; simp) W)
  rw [ht] at HT
  go_enter Tryz.func34, Tryz.ntmps34
  go_wp2_with (go_at_call 24; refine (HT.out _).mono ?_; rintro e w' ⟨rfl, rfl⟩)
  go_ret
  exact ⟨rfl, rfl⟩

theorem whole_m3 (w : World) : Calls Tryz.prog 34 #[.float .f64 13837309855095848960] w fun e w' => e = .returned (.bool true) ∧ w = w' := by
  have o1 : FloatKind.f64.format.order 13837309855095848960 13837309855095848960 = some .eq := by kernel_rfl
  have o2 : FloatKind.f64.format.order 13837309855095848960 14069741636278059008 = some .gt := by kernel_rfl
  have o3 : FloatKind.f64.format.order 13837309855095848960 4846369599423283200 = some .lt := by kernel_rfl
  have ht : truncN 13837309855095848960 = 13837309855095848960 := by kernel_rfl
  have HT := Lib.hid (fun W => trunc_any 13837309855095848960 (by rw [o1]; simp) W)
  rw [ht] at HT
  go_enter Tryz.func34, Tryz.ntmps34
  go_wp2_with (go_at_call 24; refine (HT.out _).mono ?_; rintro e w' ⟨rfl, rfl⟩)
  go_ret
  exact ⟨rfl, rfl⟩

theorem digits_mhalf (w : World) : Calls Tryz.prog 16 #[.float .f64 13826050856027422720] w fun e w' => e = .returned (.string ⟨#[48]⟩) ∧ Below w.heap.size w w' :=
  digits_of_format 13826050856027422720 _ w (by kernel_rfl) (by kernel_rfl) (by kernel_rfl) (by
    have e : plainN (truncN 13826050856027422720) = 0 := by kernel_rfl
    rw [e]
    exact format_zero w)

end Go.Proofs.YtdencljnbilchaaGreatDoor
