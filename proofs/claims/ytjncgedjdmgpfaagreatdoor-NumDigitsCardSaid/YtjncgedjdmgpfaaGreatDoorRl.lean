/- What the rows list of the library's tables, as the walks ask for it. -/
import Derived.Test.YtjncgedjdmgpfaaGreatDoorRows
import Derived.Test.YtjncgedjdmgpfaaGreatDoorWl
import Derived.WalkKit
import Derived.ProofKit
import Derived.OpenShut
import Derived.ShutString
import Derived.Lay
import Derived.LaidOnce

namespace Go.Proofs.YtjncgedjdmgpfaaGreatDoor
open Go.ChangeShapes Go.WideShapes Go.ChangeAt Go.RowKit

theorem own : ownKnob Tryz.prog.godebug = none := by kernel_rfl

set_option maxRecDepth 100000 in
theorem laidF_of (W : World) (r1 : Lib.VarReads Tryz.prog W "internal/strconv.optimize" Rows.laid_internal_strconv_optimize)
    (r2 : Lib.VarReads Tryz.prog W "internal/strconv.float64info" Rows.laid_internal_strconv_float64info)
    (r3 : Lib.VarReads Tryz.prog W "internal/strconv.float64pow10" Rows.laid_internal_strconv_float64pow10) : LaidF W := by
  refine ⟨?_, ?_, ?_⟩
  · obtain ⟨g, t, cs, fuel, p, hg, hty, hvar, hd⟩ := r1
    obtain rfl := Option.some.inj ((show Tryz.prog.globalNamed "internal/strconv.optimize" = some 3 by kernel_rfl).symm.trans hg)
    obtain rfl := Option.some.inj ((show (Tryz.prog.globals[3]?).map (·.type) = some 4 by kernel_rfl).symm.trans hty)
    have hcs := trod_bool_inv Tryz.underlying4 hd
    rw [World.var?_cell hg hvar 0, ← Array.getElem?_toList, hcs]; rfl
  · obtain ⟨g, t, cs, fuel, p, hg, hty, hvar, hd⟩ := r2
    obtain rfl := Option.some.inj ((show Tryz.prog.globalNamed "internal/strconv.float64info" = some 5 by kernel_rfl).symm.trans hg)
    obtain rfl := Option.some.inj ((show (Tryz.prog.globals[5]?).map (·.type) = some 102 by kernel_rfl).symm.trans hty)
    obtain ⟨xs, n, _, hx, hl, hxl, hall⟩ := DataW.trod_struct Tryz.underlying102 hd
    have hxs : xs.map (·.1) = [(.lit (.int .u64 52) : DataW Unit), .lit (.int .u64 11), .lit (.int .i64 (-1023))] := by
      have := congrArg Prod.fst hx
      simpa [Rows.laid_internal_strconv_float64info] using this.symm
    have h0 := hall 0 _ rfl
    cases xs with
    | nil => simp at hxs
    | cons b r =>
      simp only [List.map_cons, List.cons.injEq] at hxs
      obtain ⟨b1, b2⟩ := b
      obtain rfl : b1 = _ := hxs.1
      have hc1 : Tryz.prog.cellsOf 66 = 1 := by kernel_rfl
      have h1 : (cs.toList.drop 0).take 1 = [.int .u64 52] := by rw [← hc1]; exact trod_int_inv (k := .u64) (by kernel_rfl) h0
      rw [World.var?_cell hg hvar 0, ← Array.getElem?_toList]
      generalize cs.toList = l at h1
      cases l with
      | nil => simp at h1
      | cons c r' => exact congrArg List.head? h1
  · obtain ⟨g, t, cs, fuel, p, hg, hty, hvar, hd⟩ := r3
    obtain rfl := Option.some.inj ((show Tryz.prog.globalNamed "internal/strconv.float64pow10" = some 9 by kernel_rfl).symm.trans hg)
    obtain rfl := Option.some.inj ((show (Tryz.prog.globals[9]?).map (·.type) = some 141 by kernel_rfl).symm.trans hty)
    obtain ⟨a, cap, hcs, hall⟩ := trod_slice_inv (e := 24) (by kernel_rfl) (by kernel_rfl) hd
    have hds : ∀ i, i < 23 → ([(.lit (.float .f64 0) : DataW Unit)].take 0 ++ pow10L.map fun x => .lit (.float .f64 x))[i]? = some (.lit (.float .f64 (pow10L.getD i 0))) := by
      intro i hi
      simp only [List.take_zero, List.nil_append, List.getElem?_map, List.getD_eq_getElem?_getD]
      rw [List.getElem?_eq_getElem (show i < pow10L.length from hi)]; rfl
    have hcell : ∀ i, i < 23 → W.cell? (a.add i) = some (.float .f64 (pow10L.getD i 0)) := by
      intro i hi
      obtain ⟨v, fu, q, hc, ht⟩ := hall i _ (hds i hi)
      have := trod_float_inv (k := .f64) (by kernel_rfl) ht
      rw [hc]; exact congrArg some (List.cons.inj this).1
    obtain ⟨b, o, sp⟩ := a
    obtain rfl : sp = none := by
      have h00 := hcell 0 (by omega)
      have : (Addr.add ⟨b, o, sp⟩ 0) = ⟨b, o, sp⟩ := by simp [Addr.add]
      rw [this] at h00
      exact cell_spot h00
    refine ⟨b, o, cap, ?_, fun i hi => ?_⟩
    · rw [World.var?_cell hg hvar 0, ← Array.getElem?_toList, hcs]; rfl
    · have := hcell i hi
      rwa [Addr.add_lit] at this

end Go.Proofs.YtjncgedjdmgpfaaGreatDoor
