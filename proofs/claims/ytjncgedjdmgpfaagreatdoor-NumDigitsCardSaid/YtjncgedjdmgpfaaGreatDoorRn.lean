/- What the rows list of the library's tables: the great ones too. -/
import Derived.Test.YtjncgedjdmgpfaaGreatDoorRm
import Derived.Test.YtjncgedjdmgpfaaGreatDoorXl
import Derived.Test.YtjncgedjdmgpfaaGreatDoorGl
import Derived.LaidLaws
import Derived.Lib.LaidU8

namespace Go.Proofs.YtjncgedjdmgpfaaGreatDoor
open Go.ChangeShapes Go.WideShapes Go.ChangeAt Go.RowKit

set_option maxRecDepth 100000 in
theorem powtab_of (W : World) (r : Lib.VarReads Tryz.prog W "internal/strconv.powtab" Rows.laid_internal_strconv_powtab) :
    ∃ B o cap, W.cell? ⟨8, 0, none⟩ = some (.slice (some ⟨B, o, none⟩) 9 cap) ∧ ∀ i, i < 9 → W.cell? ⟨B, o + i, none⟩ = some (.int .i64 (powL.getD i 0)) := by
  obtain ⟨g, t, cs, fuel, p, hg, hty, hvar, hd⟩ := r
  obtain rfl := Option.some.inj ((show Tryz.prog.globalNamed "internal/strconv.powtab" = some 8 by kernel_rfl).symm.trans hg)
  obtain rfl := Option.some.inj ((show (Tryz.prog.globals[8]?).map (·.type) = some 140 by kernel_rfl).symm.trans hty)
  obtain ⟨a, cap, hcs, hall⟩ := trod_slice_inv (e := 3) (by kernel_rfl) (by kernel_rfl) hd
  have hds : ∀ i, i < 9 → ([1, 3, 6, 9, 13, 16, 19, 23, 26].map fun x : Int => (.lit (.int .i64 x) : DataW Unit))[i]? = some (.lit (.int .i64 (powL.getD i 0))) := by
    intro i hi
    have : ∀ i : Fin 9, ([1, 3, 6, 9, 13, 16, 19, 23, 26] : List Int)[(i : Nat)]? = some (powL.getD i 0 : Int) := by decide
    rw [List.getElem?_map, this ⟨i, hi⟩]; rfl
  have hcell : ∀ i, i < 9 → W.cell? (a.add i) = some (.int .i64 (powL.getD i 0)) := by
    intro i hi
    obtain ⟨v, fu, q, hc, ht⟩ := hall i _ (hds i hi)
    have := trod_int_inv (k := .i64) (by kernel_rfl) ht
    rw [hc]; exact congrArg some (List.cons.inj this).1
  obtain ⟨b, o, sp⟩ := a
  obtain rfl : sp = none := by
    have h00 := hcell 0 (by omega)
    have : (Addr.add ⟨b, o, sp⟩ 0) = ⟨b, o, sp⟩ := by simp [Addr.add]
    rw [this] at h00
    exact cell_spot h00
  refine ⟨b, o, cap, ?_, fun i hi => ?_⟩
  · rw [World.var?_cell hg hvar 0, ← Array.getElem?_toList, hcs]; rfl
  · have := hcell i hi
    rwa [Addr.add_lit] at this

set_option maxRecDepth 100000 in
theorem u10_of (W : World) (r : Lib.VarReads Tryz.prog W "internal/strconv.uint64pow10" Rows.laid_internal_strconv_uint64pow10) :
    ∀ i, i < 20 → W.cell? ⟨6, i, none⟩ = some (.int .u64 (10 ^ i : Nat)) := by
  obtain ⟨g, t, cs, fuel, p, hg, hty, hvar, hd⟩ := r
  obtain rfl := Option.some.inj ((show Tryz.prog.globalNamed "internal/strconv.uint64pow10" = some 6 by kernel_rfl).symm.trans hg)
  obtain rfl := Option.some.inj ((show (Tryz.prog.globals[6]?).map (·.type) = some 132 by kernel_rfl).symm.trans hty)
  have hcs := Lib.cells_of_tab (t := 132) (e := 50) (n := 20) (k := .u64) (zs := (List.range 20).map fun i => ((10 ^ i : Nat) : Int)) (by kernel_rfl) (by kernel_rfl) (by kernel_rfl) (by kernel_rfl) hd
  intro i hi
  rw [World.var?_cell hg hvar i, ← Array.getElem?_toList, hcs]
  simp [hi]

set_option maxRecDepth 100000 in
theorem fi_of (W : World) (r2 : Lib.VarReads Tryz.prog W "internal/strconv.float64info" Rows.laid_internal_strconv_float64info) :
    W.cell? ⟨5, 1, none⟩ = some (.int .u64 11) ∧ W.cell? ⟨5, 2, none⟩ = some (.int .i64 (-1023)) := by
  obtain ⟨g, t, cs, fuel, p, hg, hty, hvar, hd⟩ := r2
  obtain rfl := Option.some.inj ((show Tryz.prog.globalNamed "internal/strconv.float64info" = some 5 by kernel_rfl).symm.trans hg)
  obtain rfl := Option.some.inj ((show (Tryz.prog.globals[5]?).map (·.type) = some 102 by kernel_rfl).symm.trans hty)
  obtain ⟨xs, n, _, hx, hl, hxl, hall⟩ := DataW.trod_struct Tryz.underlying102 hd
  have hxs : xs.map (·.1) = [(.lit (.int .u64 52) : DataW Unit), .lit (.int .u64 11), .lit (.int .i64 (-1023))] := by
    have := congrArg Prod.fst hx
    simpa [Rows.laid_internal_strconv_float64info] using this.symm
  have h1 := hall 1 _ rfl
  have h2 := hall 2 _ rfl
  match xs, hxs with
  | [b0, b1, b2], hxs =>
    simp only [List.map_cons, List.map_nil, List.cons.injEq, and_true] at hxs
    obtain ⟨_, e1, e2⟩ := hxs
    obtain ⟨b1, q1⟩ := b1
    obtain ⟨b2, q2⟩ := b2
    obtain rfl : b1 = _ := e1
    obtain rfl : b2 = _ := e2
    have hc1 : Tryz.prog.cellsOf 66 = 1 := by kernel_rfl
    have hc2 : Tryz.prog.cellsOf 3 = 1 := by kernel_rfl
    have k1 : (cs.toList.drop 1).take 1 = [.int .u64 11] := by rw [← hc1]; exact trod_int_inv (k := .u64) (by kernel_rfl) h1
    have k2 : (cs.toList.drop 2).take 1 = [.int .i64 (-1023)] := by rw [← hc2]; exact trod_int_inv (k := .i64) (by kernel_rfl) h2
    refine ⟨?_, ?_⟩
    · rw [World.var?_cell hg hvar 1, ← Array.getElem?_toList]
      have := congrArg (·[0]?) k1
      simpa [List.getElem?_take, List.getElem?_drop] using this
    · rw [World.var?_cell hg hvar 2, ← Array.getElem?_toList]
      have := congrArg (·[0]?) k2
      simpa [List.getElem?_take, List.getElem?_drop] using this

set_option maxRecDepth 100000 in
theorem tab_of (W : World) (r : Lib.VarReads Tryz.prog W "internal/strconv.pow10Tab" Rows.laid_internal_strconv_pow10Tab) :
    ∀ i, i < 696 → W.cell? ⟨10, 2 * i, none⟩ = some (.int .u64 (p10hi i)) ∧ W.cell? ⟨10, 2 * i + 1, none⟩ = some (.int .u64 (p10lo i)) := by
  obtain ⟨g, t, cs, fuel, p, hg, hty, hvar, hd⟩ := r
  obtain rfl := Option.some.inj ((show Tryz.prog.globalNamed "internal/strconv.pow10Tab" = some 10 by kernel_rfl).symm.trans hg)
  obtain rfl := Option.some.inj ((show (Tryz.prog.globals[10]?).map (·.type) = some 148 by kernel_rfl).symm.trans hty)
  have hlen : Go.Pinned.pow10Rows.length = 696 := by decide +kernel
  intro i hi
  have hd' : DataW.trod (fun _ => ()) Tryz.prog W 0 (fun _ => true) false fuel 148 cs.toList = some (.agg (Go.Pinned.pow10Rows.map fun x => .agg [.lit (.int .u64 x.1), .lit (.int .u64 x.2)]), p) := hd
  obtain ⟨fuel', d, q, hdi, hti⟩ := Lib.array_elem (e := 147) (n := 696) (by kernel_rfl) hd' i hi
  have hc2 : Tryz.prog.cellsOf 147 = 2 := by kernel_rfl
  have hx : Go.Pinned.pow10Rows[i]? = some (Go.Pinned.pow10Rows.getD i (0, 0)) := by
    rw [List.getD_eq_getElem?_getD, List.getElem?_eq_getElem (by omega)]; rfl
  rw [List.getElem?_map, hx] at hdi
  obtain rfl := (Option.some.inj hdi)
  rw [hc2] at hti
  have hz := Lib.ints_of_struct (k := .u64) (zs := [((p10hi i : Nat) : Int), ((p10lo i : Nat) : Int)]) (t := 147) Tryz.underlying147 (by
    intro j f hf
    match j with
    | 0 => cases hf; exact ⟨by kernel_rfl, rfl, by kernel_rfl⟩
    | 1 => cases hf; exact ⟨by kernel_rfl, rfl, by kernel_rfl⟩
    | j + 2 => simp at hf) (by kernel_rfl) hti
  refine ⟨?_, ?_⟩
  · rw [World.var?_cell hg hvar (2 * i), ← Array.getElem?_toList]
    have := congrArg (·[0]?) hz
    simpa [List.getElem?_take, List.getElem?_drop, Nat.mul_comm] using this
  · rw [World.var?_cell hg hvar (2 * i + 1), ← Array.getElem?_toList]
    have := congrArg (·[1]?) hz
    simpa [List.getElem?_take, List.getElem?_drop, Nat.mul_comm] using this

set_option maxRecDepth 100000 in
theorem cheats_of (W : World) (r : Lib.VarReads Tryz.prog W "internal/strconv.leftcheats" Rows.laid_internal_strconv_leftcheats) :
    ∃ B o cap, W.cell? ⟨11, 0, none⟩ = some (.slice (some ⟨B, o, none⟩) 61 cap) ∧ ∀ k, k < 61 → W.cell? ⟨B, o + 2 * k, none⟩ = some (.int .i64 (Go.Pinned.cheatRows.getD k (0, [])).1) ∧ W.cell? ⟨B, o + 2 * k + 1, none⟩ = some (.string ⟨(Go.Pinned.cheatRows.getD k (0, [])).2.toArray⟩) := by
  obtain ⟨g, t, cs, fuel, p, hg, hty, hvar, hd⟩ := r
  obtain rfl := Option.some.inj ((show Tryz.prog.globalNamed "internal/strconv.leftcheats" = some 11 by kernel_rfl).symm.trans hg)
  obtain rfl := Option.some.inj ((show (Tryz.prog.globals[11]?).map (·.type) = some 154 by kernel_rfl).symm.trans hty)
  have hlen : Go.Pinned.cheatRows.length = 61 := by decide +kernel
  have hd' : DataW.trod (fun _ => ()) Tryz.prog W 0 (fun _ => true) false fuel 154 cs.toList = some (.slice (Go.Pinned.cheatRows.map fun x => .agg [.lit (.int .i64 x.1), .lit (.string x.2)]) [], p) := hd
  obtain ⟨a, cap, hcs, hall⟩ := trod_slice_inv2 (e := 153) (by kernel_rfl) (by kernel_rfl) hd'
  have hcell : ∀ i, i < 61 → W.cell? (a.add (i * 2)) = some (.int .i64 (Go.Pinned.cheatRows.getD i (0, [])).1) ∧ W.cell? ((a.add (i * 2)).add 1) = some (.string ⟨(Go.Pinned.cheatRows.getD i (0, [])).2.toArray⟩) := by
    intro i hi
    have hx : Go.Pinned.cheatRows[i]? = some (Go.Pinned.cheatRows.getD i (0, [])) := by
      rw [List.getD_eq_getElem?_getD, List.getElem?_eq_getElem (by omega)]; rfl
    obtain ⟨v, v', fu, q, hc, hc', ht⟩ := hall i _ (by rw [List.getElem?_map, hx]; rfl)
    obtain ⟨y0, y1, n, hyy, _, t0, t1⟩ := trod_struct2 Tryz.underlying153 ht
    simp only [Prod.mk.injEq, DataW.agg.injEq, List.cons.injEq, and_true] at hyy
    obtain ⟨⟨e0, e1⟩, _⟩ := hyy
    obtain ⟨y0, q0⟩ := y0
    obtain ⟨y1, q1⟩ := y1
    obtain rfl : _ = y0 := e0
    obtain rfl : _ = y1 := e1
    have hc1 : Tryz.prog.cellsOf 3 = 1 := by kernel_rfl
    have hc2 : Tryz.prog.cellsOf 9 = 1 := by kernel_rfl
    have k0 : ([v, v'].drop 0).take 1 = [.int .i64 (Go.Pinned.cheatRows.getD i (0, [])).1] := by rw [← hc1]; exact trod_int_inv (k := .i64) (by kernel_rfl) t0
    have k1 : ([v, v'].drop 1).take 1 = [.string ⟨(Go.Pinned.cheatRows.getD i (0, [])).2.toArray⟩] := by rw [← hc2]; exact trod_string_inv (by kernel_rfl) t1
    simp at k0 k1
    rw [hc, hc', k0, k1]; exact ⟨rfl, rfl⟩
  obtain ⟨b, o, sp⟩ := a
  obtain rfl : sp = none := by
    have h00 := (hcell 0 (by omega)).1
    have : (Addr.add ⟨b, o, sp⟩ (0 * 2)) = ⟨b, o, sp⟩ := by simp [Addr.add]
    rw [this] at h00
    exact cell_spot h00
  refine ⟨b, o, cap, ?_, fun i hi => ?_⟩
  · rw [World.var?_cell hg hvar 0, ← Array.getElem?_toList, hcs]
    simp [hlen]
  · have := hcell i hi
    rw [Addr.add_lit, Addr.add_lit] at this
    rwa [Nat.mul_comm 2 i]

theorem laidG_of (W : World) (hE : LaidE W) (r1 : Lib.VarReads Tryz.prog W "internal/strconv.pow10Tab" Rows.laid_internal_strconv_pow10Tab)
    (r2 : Lib.VarReads Tryz.prog W "internal/strconv.leftcheats" Rows.laid_internal_strconv_leftcheats) (r3 : Lib.VarReads Tryz.prog W "internal/strconv.powtab" Rows.laid_internal_strconv_powtab)
    (r4 : Lib.VarReads Tryz.prog W "internal/strconv.float64info" Rows.laid_internal_strconv_float64info) (r5 : Lib.VarReads Tryz.prog W "internal/strconv.uint64pow10" Rows.laid_internal_strconv_uint64pow10) : LaidG W :=
  ⟨⟨hE, tab_of W r1⟩, cheats_of W r2, powtab_of W r3, fi_of W r4, u10_of W r5⟩

theorem syn_of (W : World) (r4 : Lib.VarReads Tryz.prog W "strconv.ErrSyntax" Rows.laid_strconv_ErrSyntax) : ∃ te pe, W.cell? ⟨1, 0, none⟩ = some (.iface te pe) := by
  obtain ⟨g, t, cs, fuel, p, hg, hty, hvar, hd⟩ := r4
  obtain rfl := Option.some.inj ((show Tryz.prog.globalNamed "strconv.ErrSyntax" = some 1 by kernel_rfl).symm.trans hg)
  obtain rfl := Option.some.inj ((show (Tryz.prog.globals[1]?).map (·.type) = some 45 by kernel_rfl).symm.trans hty)
  obtain ⟨_, u, v, hcs, _, _⟩ := iface_of_trod Tryz.underlying45 hd
  exact ⟨u, v, by rw [World.var?_cell hg hvar 0, ← Array.getElem?_toList, hcs]; rfl⟩

end Go.Proofs.YtjncgedjdmgpfaaGreatDoor
