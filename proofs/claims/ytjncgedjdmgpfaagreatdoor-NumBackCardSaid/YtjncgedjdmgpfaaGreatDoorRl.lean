/- What the rows list of the library's tables, as the walks ask for it. What the rows list, the error among it. What the rows list of the library's tables: the great ones too. A slice of whole numbers that came in. A slice of bytes that came in. -/
import Derived.Test.YtjncgedjdmgpfaaGreatDoorRows
import Derived.Test.YtjncgedjdmgpfaaGreatDoorWl
import Derived.WalkKit
import Derived.ProofKit
import Derived.OpenShut
import Derived.ShutString
import Derived.Lay
import Derived.LaidOnce
import Derived.Test.YtjncgedjdmgpfaaGreatDoorXa
import Derived.LaidLaws
import Derived.Test.YtjncgedjdmgpfaaGreatDoorXl
import Derived.Test.YtjncgedjdmgpfaaGreatDoorGl
import Derived.Lib.LaidU8
import Derived.Carry
import Derived.ChangeSlices
import Derived.Laws.Cover2

namespace Go.Proofs.YtjncgedjdmgpfaaGreatDoor
open Go.ChangeShapes Go.WideShapes Go.ChangeAt Go.RowKit

theorem own : ownKnob Tryz.prog.godebug = none := by kernel_rfl

set_option maxRecDepth 100000 in
theorem laidF_of (W : World) (r1 : Lib.VarReads Tryz.prog W "internal/strconv.optimize" Rows.laid_internal_strconv_optimize)
    (r2 : Lib.VarReads Tryz.prog W "internal/strconv.float64info" Rows.laid_internal_strconv_float64info)
    (r3 : Lib.VarReads Tryz.prog W "internal/strconv.float64pow10" Rows.laid_internal_strconv_float64pow10) : LaidF W := by
  refine ⟨?_, ?_, ?_⟩
  · obtain ⟨g, t, cs, fuel, p, hg, hty, hvar, hd⟩ := r1
    obtain rfl := Option.some.inj ((show Tryz.prog.globalNamed "internal/strconv.optimize" = some 3 by kernel_rfl).symm.trans hg)
    obtain rfl := Option.some.inj ((show (Tryz.prog.globals[3]?).map (·.type) = some 4 by kernel_rfl).symm.trans hty)
    have hcs := trod_bool_inv Tryz.underlying4 hd
    rw [World.var?_cell hg hvar 0, ← Array.getElem?_toList, hcs]; rfl
  · obtain ⟨g, t, cs, fuel, p, hg, hty, hvar, hd⟩ := r2
    obtain rfl := Option.some.inj ((show Tryz.prog.globalNamed "internal/strconv.float64info" = some 5 by kernel_rfl).symm.trans hg)
    obtain rfl := Option.some.inj ((show (Tryz.prog.globals[5]?).map (·.type) = some 102 by kernel_rfl).symm.trans hty)
    obtain ⟨xs, n, _, hx, hl, hxl, hall⟩ := DataW.trod_struct Tryz.underlying102 hd
    have hxs : xs.map (·.1) = [(.lit (.int .u64 52) : DataW Unit), .lit (.int .u64 11), .lit (.int .i64 (-1023))] := by
      have := congrArg Prod.fst hx
      simpa [Rows.laid_internal_strconv_float64info] using this.symm
    have h0 := hall 0 _ rfl
    cases xs with
    | nil => simp at hxs
    | cons b r =>
      simp only [List.map_cons, List.cons.injEq] at hxs
      obtain ⟨b1, b2⟩ := b
      obtain rfl : b1 = _ := hxs.1
      have hc1 : Tryz.prog.cellsOf 66 = 1 := by kernel_rfl
      have h1 : (cs.toList.drop 0).take 1 = [.int .u64 52] := by rw [← hc1]; exact trod_int_inv (k := .u64) (by kernel_rfl) h0
      rw [World.var?_cell hg hvar 0, ← Array.getElem?_toList]
      generalize cs.toList = l at h1
      cases l with
      | nil => simp at h1
      | cons c r' => exact congrArg List.head? h1
  · obtain ⟨g, t, cs, fuel, p, hg, hty, hvar, hd⟩ := r3
    obtain rfl := Option.some.inj ((show Tryz.prog.globalNamed "internal/strconv.float64pow10" = some 9 by kernel_rfl).symm.trans hg)
    obtain rfl := Option.some.inj ((show (Tryz.prog.globals[9]?).map (·.type) = some 141 by kernel_rfl).symm.trans hty)
    obtain ⟨a, cap, hcs, hall⟩ := trod_slice_inv (e := 24) (by kernel_rfl) (by kernel_rfl) hd
    have hds : ∀ i, i < 23 → ([(.lit (.float .f64 0) : DataW Unit)].take 0 ++ pow10L.map fun x => .lit (.float .f64 x))[i]? = some (.lit (.float .f64 (pow10L.getD i 0))) := by
      intro i hi
      simp only [List.take_zero, List.nil_append, List.getElem?_map, List.getD_eq_getElem?_getD]
      rw [List.getElem?_eq_getElem (show i < pow10L.length from hi)]; rfl
    have hcell : ∀ i, i < 23 → W.cell? (a.add i) = some (.float .f64 (pow10L.getD i 0)) := by
      intro i hi
      obtain ⟨v, fu, q, hc, ht⟩ := hall i _ (hds i hi)
      have := trod_float_inv (k := .f64) (by kernel_rfl) ht
      rw [hc]; exact congrArg some (List.cons.inj this).1
    obtain ⟨b, o, sp⟩ := a
    obtain rfl : sp = none := by
      have h00 := hcell 0 (by omega)
      have : (Addr.add ⟨b, o, sp⟩ 0) = ⟨b, o, sp⟩ := by simp [Addr.add]
      rw [this] at h00
      exact cell_spot h00
    refine ⟨b, o, cap, ?_, fun i hi => ?_⟩
    · rw [World.var?_cell hg hvar 0, ← Array.getElem?_toList, hcs]; rfl
    · have := hcell i hi
      rwa [Addr.add_lit] at this

end Go.Proofs.YtjncgedjdmgpfaaGreatDoor

namespace Go.Proofs.YtjncgedjdmgpfaaGreatDoor
open Go.ChangeShapes Go.WideShapes Go.ChangeAt Go.RowKit

theorem laidE_of (W : World) (hF : LaidF W) (r4 : Lib.VarReads Tryz.prog W "strconv.ErrRange" Rows.laid_strconv_ErrRange) : LaidE W := by
  refine ⟨hF, ?_⟩
  obtain ⟨g, t, cs, fuel, p, hg, hty, hvar, hd⟩ := r4
  obtain rfl := Option.some.inj ((show Tryz.prog.globalNamed "strconv.ErrRange" = some 2 by kernel_rfl).symm.trans hg)
  obtain rfl := Option.some.inj ((show (Tryz.prog.globals[2]?).map (·.type) = some 45 by kernel_rfl).symm.trans hty)
  obtain ⟨_, u, v, hcs, _, _⟩ := iface_of_trod Tryz.underlying45 hd
  exact ⟨u, v, by rw [World.var?_cell hg hvar 0, ← Array.getElem?_toList, hcs]; rfl⟩

end Go.Proofs.YtjncgedjdmgpfaaGreatDoor

namespace Go.Proofs.YtjncgedjdmgpfaaGreatDoor
open Go.ChangeShapes Go.WideShapes Go.ChangeAt Go.RowKit

set_option maxRecDepth 100000 in
theorem powtab_of (W : World) (r : Lib.VarReads Tryz.prog W "internal/strconv.powtab" Rows.laid_internal_strconv_powtab) :
    ∃ B o cap, W.cell? ⟨8, 0, none⟩ = some (.slice (some ⟨B, o, none⟩) 9 cap) ∧ ∀ i, i < 9 → W.cell? ⟨B, o + i, none⟩ = some (.int .i64 (powL.getD i 0)) := by
  obtain ⟨g, t, cs, fuel, p, hg, hty, hvar, hd⟩ := r
  obtain rfl := Option.some.inj ((show Tryz.prog.globalNamed "internal/strconv.powtab" = some 8 by kernel_rfl).symm.trans hg)
  obtain rfl := Option.some.inj ((show (Tryz.prog.globals[8]?).map (·.type) = some 140 by kernel_rfl).symm.trans hty)
  obtain ⟨a, cap, hcs, hall⟩ := trod_slice_inv (e := 3) (by kernel_rfl) (by kernel_rfl) hd
  have hds : ∀ i, i < 9 → ([1, 3, 6, 9, 13, 16, 19, 23, 26].map fun x : Int => (.lit (.int .i64 x) : DataW Unit))[i]? = some (.lit (.int .i64 (powL.getD i 0))) := by
    intro i hi
    have : ∀ i : Fin 9, ([1, 3, 6, 9, 13, 16, 19, 23, 26] : List Int)[(i : Nat)]? = some (powL.getD i 0 : Int) := by decide
    rw [List.getElem?_map, this ⟨i, hi⟩]; rfl
  have hcell : ∀ i, i < 9 → W.cell? (a.add i) = some (.int .i64 (powL.getD i 0)) := by
    intro i hi
    obtain ⟨v, fu, q, hc, ht⟩ := hall i _ (hds i hi)
    have := trod_int_inv (k := .i64) (by kernel_rfl) ht
    rw [hc]; exact congrArg some (List.cons.inj this).1
  obtain ⟨b, o, sp⟩ := a
  obtain rfl : sp = none := by
    have h00 := hcell 0 (by omega)
    have : (Addr.add ⟨b, o, sp⟩ 0) = ⟨b, o, sp⟩ := by simp [Addr.add]
    rw [this] at h00
    exact cell_spot h00
  refine ⟨b, o, cap, ?_, fun i hi => ?_⟩
  · rw [World.var?_cell hg hvar 0, ← Array.getElem?_toList, hcs]; rfl
  · have := hcell i hi
    rwa [Addr.add_lit] at this

set_option maxRecDepth 100000 in
theorem u10_of (W : World) (r : Lib.VarReads Tryz.prog W "internal/strconv.uint64pow10" Rows.laid_internal_strconv_uint64pow10) :
    ∀ i, i < 20 → W.cell? ⟨6, i, none⟩ = some (.int .u64 (10 ^ i : Nat)) := by
  obtain ⟨g, t, cs, fuel, p, hg, hty, hvar, hd⟩ := r
  obtain rfl := Option.some.inj ((show Tryz.prog.globalNamed "internal/strconv.uint64pow10" = some 6 by kernel_rfl).symm.trans hg)
  obtain rfl := Option.some.inj ((show (Tryz.prog.globals[6]?).map (·.type) = some 132 by kernel_rfl).symm.trans hty)
  have hcs := Lib.cells_of_tab (t := 132) (e := 50) (n := 20) (k := .u64) (zs := (List.range 20).map fun i => ((10 ^ i : Nat) : Int)) (by kernel_rfl) (by kernel_rfl) (by kernel_rfl) (by kernel_rfl) hd
  intro i hi
  rw [World.var?_cell hg hvar i, ← Array.getElem?_toList, hcs]
  simp [hi]

set_option maxRecDepth 100000 in
theorem fi_of (W : World) (r2 : Lib.VarReads Tryz.prog W "internal/strconv.float64info" Rows.laid_internal_strconv_float64info) :
    W.cell? ⟨5, 1, none⟩ = some (.int .u64 11) ∧ W.cell? ⟨5, 2, none⟩ = some (.int .i64 (-1023)) := by
  obtain ⟨g, t, cs, fuel, p, hg, hty, hvar, hd⟩ := r2
  obtain rfl := Option.some.inj ((show Tryz.prog.globalNamed "internal/strconv.float64info" = some 5 by kernel_rfl).symm.trans hg)
  obtain rfl := Option.some.inj ((show (Tryz.prog.globals[5]?).map (·.type) = some 102 by kernel_rfl).symm.trans hty)
  obtain ⟨xs, n, _, hx, hl, hxl, hall⟩ := DataW.trod_struct Tryz.underlying102 hd
  have hxs : xs.map (·.1) = [(.lit (.int .u64 52) : DataW Unit), .lit (.int .u64 11), .lit (.int .i64 (-1023))] := by
    have := congrArg Prod.fst hx
    simpa [Rows.laid_internal_strconv_float64info] using this.symm
  have h1 := hall 1 _ rfl
  have h2 := hall 2 _ rfl
  match xs, hxs with
  | [b0, b1, b2], hxs =>
    simp only [List.map_cons, List.map_nil, List.cons.injEq, and_true] at hxs
    obtain ⟨_, e1, e2⟩ := hxs
    obtain ⟨b1, q1⟩ := b1
    obtain ⟨b2, q2⟩ := b2
    obtain rfl : b1 = _ := e1
    obtain rfl : b2 = _ := e2
    have hc1 : Tryz.prog.cellsOf 66 = 1 := by kernel_rfl
    have hc2 : Tryz.prog.cellsOf 3 = 1 := by kernel_rfl
    have k1 : (cs.toList.drop 1).take 1 = [.int .u64 11] := by rw [← hc1]; exact trod_int_inv (k := .u64) (by kernel_rfl) h1
    have k2 : (cs.toList.drop 2).take 1 = [.int .i64 (-1023)] := by rw [← hc2]; exact trod_int_inv (k := .i64) (by kernel_rfl) h2
    refine ⟨?_, ?_⟩
    · rw [World.var?_cell hg hvar 1, ← Array.getElem?_toList]
      have := congrArg (·[0]?) k1
      simpa [List.getElem?_take, List.getElem?_drop] using this
    · rw [World.var?_cell hg hvar 2, ← Array.getElem?_toList]
      have := congrArg (·[0]?) k2
      simpa [List.getElem?_take, List.getElem?_drop] using this

set_option maxRecDepth 100000 in
theorem tab_of (W : World) (r : Lib.VarReads Tryz.prog W "internal/strconv.pow10Tab" Rows.laid_internal_strconv_pow10Tab) :
    ∀ i, i < 696 → W.cell? ⟨10, 2 * i, none⟩ = some (.int .u64 (p10hi i)) ∧ W.cell? ⟨10, 2 * i + 1, none⟩ = some (.int .u64 (p10lo i)) := by
  obtain ⟨g, t, cs, fuel, p, hg, hty, hvar, hd⟩ := r
  obtain rfl := Option.some.inj ((show Tryz.prog.globalNamed "internal/strconv.pow10Tab" = some 10 by kernel_rfl).symm.trans hg)
  obtain rfl := Option.some.inj ((show (Tryz.prog.globals[10]?).map (·.type) = some 148 by kernel_rfl).symm.trans hty)
  have hlen : Go.Pinned.pow10Rows.length = 696 := by decide +kernel
  intro i hi
  have hd' : DataW.trod (fun _ => ()) Tryz.prog W 0 (fun _ => true) false fuel 148 cs.toList = some (.agg (Go.Pinned.pow10Rows.map fun x => .agg [.lit (.int .u64 x.1), .lit (.int .u64 x.2)]), p) := hd
  obtain ⟨fuel', d, q, hdi, hti⟩ := Lib.array_elem (e := 147) (n := 696) (by kernel_rfl) hd' i hi
  have hc2 : Tryz.prog.cellsOf 147 = 2 := by kernel_rfl
  have hx : Go.Pinned.pow10Rows[i]? = some (Go.Pinned.pow10Rows.getD i (0, 0)) := by
    rw [List.getD_eq_getElem?_getD, List.getElem?_eq_getElem (by omega)]; rfl
  rw [List.getElem?_map, hx] at hdi
  obtain rfl := (Option.some.inj hdi)
  rw [hc2] at hti
  have hz := Lib.ints_of_struct (k := .u64) (zs := [((p10hi i : Nat) : Int), ((p10lo i : Nat) : Int)]) (t := 147) Tryz.underlying147 (by
    intro j f hf
    match j with
    | 0 => cases hf; exact ⟨by kernel_rfl, rfl, by kernel_rfl⟩
    | 1 => cases hf; exact ⟨by kernel_rfl, rfl, by kernel_rfl⟩
    | j + 2 => simp at hf) (by kernel_rfl) hti
  refine ⟨?_, ?_⟩
  · rw [World.var?_cell hg hvar (2 * i), ← Array.getElem?_toList]
    have := congrArg (·[0]?) hz
    simpa [List.getElem?_take, List.getElem?_drop, Nat.mul_comm] using this
  · rw [World.var?_cell hg hvar (2 * i + 1), ← Array.getElem?_toList]
    have := congrArg (·[1]?) hz
    simpa [List.getElem?_take, List.getElem?_drop, Nat.mul_comm] using this

set_option maxRecDepth 100000 in
theorem cheats_of (W : World) (r : Lib.VarReads Tryz.prog W "internal/strconv.leftcheats" Rows.laid_internal_strconv_leftcheats) :
    ∃ B o cap, W.cell? ⟨11, 0, none⟩ = some (.slice (some ⟨B, o, none⟩) 61 cap) ∧ ∀ k, k < 61 → W.cell? ⟨B, o + 2 * k, none⟩ = some (.int .i64 (Go.Pinned.cheatRows.getD k (0, [])).1) ∧ W.cell? ⟨B, o + 2 * k + 1, none⟩ = some (.string ⟨(Go.Pinned.cheatRows.getD k (0, [])).2.toArray⟩) := by
  obtain ⟨g, t, cs, fuel, p, hg, hty, hvar, hd⟩ := r
  obtain rfl := Option.some.inj ((show Tryz.prog.globalNamed "internal/strconv.leftcheats" = some 11 by kernel_rfl).symm.trans hg)
  obtain rfl := Option.some.inj ((show (Tryz.prog.globals[11]?).map (·.type) = some 154 by kernel_rfl).symm.trans hty)
  have hlen : Go.Pinned.cheatRows.length = 61 := by decide +kernel
  have hd' : DataW.trod (fun _ => ()) Tryz.prog W 0 (fun _ => true) false fuel 154 cs.toList = some (.slice (Go.Pinned.cheatRows.map fun x => .agg [.lit (.int .i64 x.1), .lit (.string x.2)]) [], p) := hd
  obtain ⟨a, cap, hcs, hall⟩ := trod_slice_inv2 (e := 153) (by kernel_rfl) (by kernel_rfl) hd'
  have hcell : ∀ i, i < 61 → W.cell? (a.add (i * 2)) = some (.int .i64 (Go.Pinned.cheatRows.getD i (0, [])).1) ∧ W.cell? ((a.add (i * 2)).add 1) = some (.string ⟨(Go.Pinned.cheatRows.getD i (0, [])).2.toArray⟩) := by
    intro i hi
    have hx : Go.Pinned.cheatRows[i]? = some (Go.Pinned.cheatRows.getD i (0, [])) := by
      rw [List.getD_eq_getElem?_getD, List.getElem?_eq_getElem (by omega)]; rfl
    obtain ⟨v, v', fu, q, hc, hc', ht⟩ := hall i _ (by rw [List.getElem?_map, hx]; rfl)
    obtain ⟨y0, y1, n, hyy, _, t0, t1⟩ := trod_struct2 Tryz.underlying153 ht
    simp only [Prod.mk.injEq, DataW.agg.injEq, List.cons.injEq, and_true] at hyy
    obtain ⟨⟨e0, e1⟩, _⟩ := hyy
    obtain ⟨y0, q0⟩ := y0
    obtain ⟨y1, q1⟩ := y1
    obtain rfl : _ = y0 := e0
    obtain rfl : _ = y1 := e1
    have hc1 : Tryz.prog.cellsOf 3 = 1 := by kernel_rfl
    have hc2 : Tryz.prog.cellsOf 9 = 1 := by kernel_rfl
    have k0 : ([v, v'].drop 0).take 1 = [.int .i64 (Go.Pinned.cheatRows.getD i (0, [])).1] := by rw [← hc1]; exact trod_int_inv (k := .i64) (by kernel_rfl) t0
    have k1 : ([v, v'].drop 1).take 1 = [.string ⟨(Go.Pinned.cheatRows.getD i (0, [])).2.toArray⟩] := by rw [← hc2]; exact trod_string_inv (by kernel_rfl) t1
    simp at k0 k1
    rw [hc, hc', k0, k1]; exact ⟨rfl, rfl⟩
  obtain ⟨b, o, sp⟩ := a
  obtain rfl : sp = none := by
    have h00 := (hcell 0 (by omega)).1
    have : (Addr.add ⟨b, o, sp⟩ (0 * 2)) = ⟨b, o, sp⟩ := by simp [Addr.add]
    rw [this] at h00
    exact cell_spot h00
  refine ⟨b, o, cap, ?_, fun i hi => ?_⟩
  · rw [World.var?_cell hg hvar 0, ← Array.getElem?_toList, hcs]
    simp [hlen]
  · have := hcell i hi
    rw [Addr.add_lit, Addr.add_lit] at this
    rwa [Nat.mul_comm 2 i]

theorem laidG_of (W : World) (hE : LaidE W) (r1 : Lib.VarReads Tryz.prog W "internal/strconv.pow10Tab" Rows.laid_internal_strconv_pow10Tab)
    (r2 : Lib.VarReads Tryz.prog W "internal/strconv.leftcheats" Rows.laid_internal_strconv_leftcheats) (r3 : Lib.VarReads Tryz.prog W "internal/strconv.powtab" Rows.laid_internal_strconv_powtab)
    (r4 : Lib.VarReads Tryz.prog W "internal/strconv.float64info" Rows.laid_internal_strconv_float64info) (r5 : Lib.VarReads Tryz.prog W "internal/strconv.uint64pow10" Rows.laid_internal_strconv_uint64pow10) : LaidG W :=
  ⟨⟨hE, tab_of W r1⟩, cheats_of W r2, powtab_of W r3, fi_of W r4, u10_of W r5⟩

theorem syn_of (W : World) (r4 : Lib.VarReads Tryz.prog W "strconv.ErrSyntax" Rows.laid_strconv_ErrSyntax) : ∃ te pe, W.cell? ⟨1, 0, none⟩ = some (.iface te pe) := by
  obtain ⟨g, t, cs, fuel, p, hg, hty, hvar, hd⟩ := r4
  obtain rfl := Option.some.inj ((show Tryz.prog.globalNamed "strconv.ErrSyntax" = some 1 by kernel_rfl).symm.trans hg)
  obtain rfl := Option.some.inj ((show (Tryz.prog.globals[1]?).map (·.type) = some 45 by kernel_rfl).symm.trans hty)
  obtain ⟨_, u, v, hcs, _, _⟩ := iface_of_trod Tryz.underlying45 hd
  exact ⟨u, v, by rw [World.var?_cell hg hvar 0, ← Array.getElem?_toList, hcs]; rfl⟩

end Go.Proofs.YtjncgedjdmgpfaaGreatDoor

namespace Go.Proofs.YtjncgedjdmgpfaaGreatDoor
open Go.ChangeShapes Go.WideShapes Go.ChangeAt Go.RowKit

set_option maxRecDepth 1000000 in
theorem laidOutP : laidOutB Tryz.prog = true := by kernel_rfl

set_option maxRecDepth 1000000 in
theorem open_intsV {H : Type} {enc : TypeId × Value → H} {W : World} {base : Nat} {v : Value} {d : DataW H} {p : List MemPlace} (hval : Value.okWide Tryz.prog W .any base 140 v) (h : DataW.Trod enc Tryz.prog W 0 (fun _ => true) true 140 v d p) :
    ∃ (ao : Option Addr) (n cap : Nat) (Z : Nat → Int), v = .slice ao n cap ∧ n ≤ 9223372036854775807 ∧ (n = 0 ∨ ∃ b o, ao = some ⟨b, o, none⟩ ∧ ∀ i, i < n → W.cell? ⟨b, o + i, none⟩ = some (.int .i64 (Z i))) := by
  obtain ⟨a1, len, cap, rfl⟩ := okWide_slice Tryz.underlying140 hval
  obtain ⟨fuel, hf⟩ := h
  rcases open_ints Tryz.underlying140 Tryz.underlying3 (by kernel_rfl) hf with ⟨hcs, hx⟩ | ⟨a, len', cap', zs, hcs, _, hl, hm, hz, hx, hcell, hwz⟩
  · simp [Value.cells] at hcs
    obtain ⟨rfl, rfl, rfl⟩ := hcs
    exact ⟨none, 0, 0, fun _ => 0, rfl, by omega, .inl rfl⟩
  · simp [Value.cells] at hcs
    obtain ⟨rfl, rfl, rfl⟩ := hcs
    simp only [if_true] at hz
    refine ⟨some a, len, cap, fun i => zs.getD i 0, rfl, by unfold maxLen at hm; omega, ?_⟩
    by_cases h0 : len = 0
    · exact .inl h0
    · right
      obtain ⟨ab, ao, spot⟩ := a
      have hspot : spot = none := by simpa [Addr.add] using World.cell?_spot (hcell 0 (by omega))
      subst hspot
      refine ⟨ab, ao, rfl, fun i hi => ?_⟩
      have := hcell i (by omega)
      rwa [Addr.add_lit] at this

end Go.Proofs.YtjncgedjdmgpfaaGreatDoor

namespace Go.Proofs.YtjncgedjdmgpfaaGreatDoor
open Go.ChangeShapes Go.WideShapes Go.ChangeAt Go.RowKit

theorem wf_u8' {n : Int} (h : (Lit.int IntKind.u8 n).wf = true) : 0 ≤ n ∧ n ≤ 255 := by
  have h2 : IntKind.u8.min ≤ n ∧ n ≤ IntKind.u8.max := by simpa [Lit.wf] using h
  exact h2

set_option maxRecDepth 1000000 in
theorem open_bytesV {H : Type} {enc : TypeId × Value → H} {W : World} {base : Nat} {v : Value} {d : DataW H} {p : List MemPlace} (hval : Value.okWide Tryz.prog W .any base 22 v) (h : DataW.Trod enc Tryz.prog W 0 (fun _ => true) true 22 v d p) :
    ∃ (ao : Option Addr) (n cap : Nat) (Z : Nat → Nat), v = .slice ao n cap ∧ n ≤ 9223372036854775807 ∧ (n = 0 ∨ ∃ b o, ao = some ⟨b, o, none⟩ ∧ ∀ i, i < n → Z i < 256 ∧ W.cell? ⟨b, o + i, none⟩ = some (.int .u8 (Z i))) := by
  obtain ⟨a1, len, cap, rfl⟩ := okWide_slice Tryz.underlying22 hval
  obtain ⟨fuel, hf⟩ := h
  rcases open_ints Tryz.underlying22 Tryz.underlying5 (by kernel_rfl) hf with ⟨hcs, hx⟩ | ⟨a, len', cap', zs, hcs, _, hl, hm, hz, hx, hcell, hwz⟩
  · simp [Value.cells] at hcs
    obtain ⟨rfl, rfl, rfl⟩ := hcs
    exact ⟨none, 0, 0, fun _ => 0, rfl, by omega, .inl rfl⟩
  · simp [Value.cells] at hcs
    obtain ⟨rfl, rfl, rfl⟩ := hcs
    simp only [if_true] at hz
    refine ⟨some a, len, cap, fun i => (zs.getD i 0).toNat, rfl, by unfold maxLen at hm; omega, ?_⟩
    by_cases h0 : len = 0
    · exact .inl h0
    · right
      obtain ⟨ab, ao, spot⟩ := a
      have hspot : spot = none := by simpa [Addr.add] using World.cell?_spot (hcell 0 (by omega))
      subst hspot
      refine ⟨ab, ao, rfl, fun i hi => ?_⟩
      have h1 := hcell i (by omega)
      have h2 : (Lit.int IntKind.u8 (zs.getD i 0)).wf = true := hwz _ (by
        have hlt : i < zs.length := by omega
        rw [List.getD_eq_getElem?_getD, List.getElem?_eq_getElem hlt]
        exact List.getElem_mem hlt)
      obtain ⟨h3, h4⟩ : 0 ≤ zs.getD i 0 ∧ zs.getD i 0 ≤ 255 := by
        exact wf_u8' h2
      rw [Addr.add_lit] at h1
      refine ⟨by show (zs.getD i 0).toNat < 256; omega, ?_⟩
      rw [h1]
      show some (Value.int IntKind.u8 (zs.getD i 0)) = some (Value.int IntKind.u8 ((zs.getD i 0).toNat : Int))
      rw [Int.toNat_of_nonneg h3]

theorem wf_both {k : IntKind} {n : Int} (h : (Lit.int k n).wf = true) : k.min ≤ n ∧ n ≤ k.max := by simpa [Lit.wf] using h
theorem wf_u32 {n : Int} (h : (Lit.int .u32 n).wf = true) : 0 ≤ n ∧ n ≤ 4294967295 := wf_both h
theorem wf_i8 {n : Int} (h : (Lit.int .i8 n).wf = true) : -128 ≤ n ∧ n ≤ 127 := wf_both h
theorem wf_i64 {n : Int} (h : (Lit.int .i64 n).wf = true) : -9223372036854775808 ≤ n ∧ n ≤ 9223372036854775807 := wf_both h
theorem wf_float {b : Nat} (h : (Lit.float .f64 b).wf = true) : b < 18446744073709551616 := by simpa [Lit.wf] using h

end Go.Proofs.YtjncgedjdmgpfaaGreatDoor
