/- What the rows list of the library's tables, as the walks ask for it. What the rows list, the error among it. What the rows list of the library's tables: the great ones too. What the rows of chapter 12 list, as the walks ask for it. -/
import Derived.Test.YtdencljnbilchaaGreatDoorRows
import Derived.Test.YtdencljnbilchaaGreatDoorWl
import Derived.WalkKit
import Derived.ProofKit
import Derived.OpenShut
import Derived.ShutString
import Derived.Lay
import Derived.LaidOnce
import Derived.Test.YtdencljnbilchaaGreatDoorXa
import Derived.LaidLaws
import Derived.Test.YtdencljnbilchaaGreatDoorXl
import Derived.Test.YtdencljnbilchaaGreatDoorVi
import Derived.Lib.LaidU8
import Derived.Test.YtdencljnbilchaaGreatDoorVq

namespace Go.Proofs.YtdencljnbilchaaGreatDoor
open Go.ChangeShapes Go.WideShapes Go.ChangeAt Go.RowKit

theorem own : ownKnob Tryz.prog.godebug = none := by kernel_rfl

end Go.Proofs.YtdencljnbilchaaGreatDoor

namespace Go.Proofs.YtdencljnbilchaaGreatDoor
open Go.ChangeShapes Go.WideShapes Go.ChangeAt Go.RowKit

end Go.Proofs.YtdencljnbilchaaGreatDoor

namespace Go.Proofs.YtdencljnbilchaaGreatDoor
open Go.ChangeShapes Go.WideShapes Go.ChangeAt Go.RowKit

set_option maxRecDepth 100000 in
theorem u10_of (W : World) (r : Lib.VarReads Tryz.prog W "internal/strconv.uint64pow10" Rows.laid_internal_strconv_uint64pow10) :
    ∀ i, i < 20 → W.cell? ⟨3, i, none⟩ = some (.int .u64 (10 ^ i : Nat)) := by
  obtain ⟨g, t, cs, fuel, p, hg, hty, hvar, hd⟩ := r
  obtain rfl := Option.some.inj ((show Tryz.prog.globalNamed "internal/strconv.uint64pow10" = some 3 by kernel_rfl).symm.trans hg)
  obtain rfl := Option.some.inj ((show (Tryz.prog.globals[3]?).map (·.type) = some 162 by kernel_rfl).symm.trans hty)
  have hcs := Lib.cells_of_tab (t := 162) (e := 84) (n := 20) (k := .u64) (zs := (List.range 20).map fun i => ((10 ^ i : Nat) : Int)) (by kernel_rfl) (by kernel_rfl) (by kernel_rfl) (by kernel_rfl) hd
  intro i hi
  rw [World.var?_cell hg hvar i, ← Array.getElem?_toList, hcs]
  simp [hi]

set_option maxRecDepth 100000 in
theorem tab_of (W : World) (r : Lib.VarReads Tryz.prog W "internal/strconv.pow10Tab" Rows.laid_internal_strconv_pow10Tab) :
    ∀ i, i < 696 → W.cell? ⟨5, 2 * i, none⟩ = some (.int .u64 (p10hi i)) ∧ W.cell? ⟨5, 2 * i + 1, none⟩ = some (.int .u64 (p10lo i)) := by
  obtain ⟨g, t, cs, fuel, p, hg, hty, hvar, hd⟩ := r
  obtain rfl := Option.some.inj ((show Tryz.prog.globalNamed "internal/strconv.pow10Tab" = some 5 by kernel_rfl).symm.trans hg)
  obtain rfl := Option.some.inj ((show (Tryz.prog.globals[5]?).map (·.type) = some 176 by kernel_rfl).symm.trans hty)
  have hlen : Go.Pinned.pow10Rows.length = 696 := by decide +kernel
  intro i hi
  have hd' : DataW.trod (fun _ => ()) Tryz.prog W 0 (fun _ => true) false fuel 176 cs.toList = some (.agg (Go.Pinned.pow10Rows.map fun x => .agg [.lit (.int .u64 x.1), .lit (.int .u64 x.2)]), p) := hd
  obtain ⟨fuel', d, q, hdi, hti⟩ := Lib.array_elem (e := 175) (n := 696) (by kernel_rfl) hd' i hi
  have hc2 : Tryz.prog.cellsOf 175 = 2 := by kernel_rfl
  have hx : Go.Pinned.pow10Rows[i]? = some (Go.Pinned.pow10Rows.getD i (0, 0)) := by
    rw [List.getD_eq_getElem?_getD, List.getElem?_eq_getElem (by omega)]; rfl
  rw [List.getElem?_map, hx] at hdi
  obtain rfl := (Option.some.inj hdi)
  rw [hc2] at hti
  have hz := Lib.ints_of_struct (k := .u64) (zs := [((p10hi i : Nat) : Int), ((p10lo i : Nat) : Int)]) (t := 175) Tryz.underlying175 (by
    intro j f hf
    match j with
    | 0 => cases hf; exact ⟨by kernel_rfl, rfl, by kernel_rfl⟩
    | 1 => cases hf; exact ⟨by kernel_rfl, rfl, by kernel_rfl⟩
    | j + 2 => simp at hf) (by kernel_rfl) hti
  refine ⟨?_, ?_⟩
  · rw [World.var?_cell hg hvar (2 * i), ← Array.getElem?_toList]
    have := congrArg (·[0]?) hz
    simpa [List.getElem?_take, List.getElem?_drop, Nat.mul_comm] using this
  · rw [World.var?_cell hg hvar (2 * i + 1), ← Array.getElem?_toList]
    have := congrArg (·[1]?) hz
    simpa [List.getElem?_take, List.getElem?_drop, Nat.mul_comm] using this

set_option maxRecDepth 100000 in
theorem cheats_of (W : World) (r : Lib.VarReads Tryz.prog W "internal/strconv.leftcheats" Rows.laid_internal_strconv_leftcheats) :
    ∃ B o cap, W.cell? ⟨6, 0, none⟩ = some (.slice (some ⟨B, o, none⟩) 61 cap) ∧ ∀ k, k < 61 → W.cell? ⟨B, o + 2 * k, none⟩ = some (.int .i64 (Go.Pinned.cheatRows.getD k (0, [])).1) ∧ W.cell? ⟨B, o + 2 * k + 1, none⟩ = some (.string ⟨(Go.Pinned.cheatRows.getD k (0, [])).2.toArray⟩) := by
  obtain ⟨g, t, cs, fuel, p, hg, hty, hvar, hd⟩ := r
  obtain rfl := Option.some.inj ((show Tryz.prog.globalNamed "internal/strconv.leftcheats" = some 6 by kernel_rfl).symm.trans hg)
  obtain rfl := Option.some.inj ((show (Tryz.prog.globals[6]?).map (·.type) = some 181 by kernel_rfl).symm.trans hty)
  have hlen : Go.Pinned.cheatRows.length = 61 := by decide +kernel
  have hd' : DataW.trod (fun _ => ()) Tryz.prog W 0 (fun _ => true) false fuel 181 cs.toList = some (.slice (Go.Pinned.cheatRows.map fun x => .agg [.lit (.int .i64 x.1), .lit (.string x.2)]) [], p) := hd
  obtain ⟨a, cap, hcs, hall⟩ := trod_slice_inv2 (e := 180) (by kernel_rfl) (by kernel_rfl) hd'
  have hcell : ∀ i, i < 61 → W.cell? (a.add (i * 2)) = some (.int .i64 (Go.Pinned.cheatRows.getD i (0, [])).1) ∧ W.cell? ((a.add (i * 2)).add 1) = some (.string ⟨(Go.Pinned.cheatRows.getD i (0, [])).2.toArray⟩) := by
    intro i hi
    have hx : Go.Pinned.cheatRows[i]? = some (Go.Pinned.cheatRows.getD i (0, [])) := by
      rw [List.getD_eq_getElem?_getD, List.getElem?_eq_getElem (by omega)]; rfl
    obtain ⟨v, v', fu, q, hc, hc', ht⟩ := hall i _ (by rw [List.getElem?_map, hx]; rfl)
    obtain ⟨y0, y1, n, hyy, _, t0, t1⟩ := trod_struct2 Tryz.underlying180 ht
    simp only [Prod.mk.injEq, DataW.agg.injEq, List.cons.injEq, and_true] at hyy
    obtain ⟨⟨e0, e1⟩, _⟩ := hyy
    obtain ⟨y0, q0⟩ := y0
    obtain ⟨y1, q1⟩ := y1
    obtain rfl : _ = y0 := e0
    obtain rfl : _ = y1 := e1
    have hc1 : Tryz.prog.cellsOf 3 = 1 := by kernel_rfl
    have hc2 : Tryz.prog.cellsOf 9 = 1 := by kernel_rfl
    have k0 : ([v, v'].drop 0).take 1 = [.int .i64 (Go.Pinned.cheatRows.getD i (0, [])).1] := by rw [← hc1]; exact trod_int_inv (k := .i64) (by kernel_rfl) t0
    have k1 : ([v, v'].drop 1).take 1 = [.string ⟨(Go.Pinned.cheatRows.getD i (0, [])).2.toArray⟩] := by rw [← hc2]; exact trod_string_inv (by kernel_rfl) t1
    simp at k0 k1
    rw [hc, hc', k0, k1]; exact ⟨rfl, rfl⟩
  obtain ⟨b, o, sp⟩ := a
  obtain rfl : sp = none := by
    have h00 := (hcell 0 (by omega)).1
    have : (Addr.add ⟨b, o, sp⟩ (0 * 2)) = ⟨b, o, sp⟩ := by simp [Addr.add]
    rw [this] at h00
    exact cell_spot h00
  refine ⟨b, o, cap, ?_, fun i hi => ?_⟩
  · rw [World.var?_cell hg hvar 0, ← Array.getElem?_toList, hcs]
    simp [hlen]
  · have := hcell i hi
    rw [Addr.add_lit, Addr.add_lit] at this
    rwa [Nat.mul_comm 2 i]

end Go.Proofs.YtdencljnbilchaaGreatDoor

namespace Go.Proofs.YtdencljnbilchaaGreatDoor
open Go.ChangeShapes Go.WideShapes Go.ChangeAt Go.RowKit

theorem opt_of (W : World) (r1 : Lib.VarReads Tryz.prog W "internal/strconv.optimize" Rows.laid_internal_strconv_optimize) : W.cell? ⟨2, 0, none⟩ = some (.bool true) := by
  obtain ⟨g, t, cs, fuel, p, hg, hty, hvar, hd⟩ := r1
  obtain rfl := Option.some.inj ((show Tryz.prog.globalNamed "internal/strconv.optimize" = some 2 by kernel_rfl).symm.trans hg)
  obtain rfl := Option.some.inj ((show (Tryz.prog.globals[2]?).map (·.type) = some 4 by kernel_rfl).symm.trans hty)
  have hcs := trod_bool_inv Tryz.underlying4 hd
  rw [World.var?_cell hg hvar 0, ← Array.getElem?_toList, hcs]; rfl

set_option maxRecDepth 100000 in
theorem deb_of (W : World) (r : Lib.VarReads Tryz.prog W "math/bits.deBruijn64tab" Rows.laid_math_bits_deBruijn64tab) :
    W.cell? ⟨10, 7, none⟩ = some (.int .u8 3) ∧ W.cell? ⟨10, 15, none⟩ = some (.int .u8 4) := by
  obtain ⟨g, t, cs, fuel, p, hg, hty, hvar, hd⟩ := r
  obtain rfl := Option.some.inj ((show Tryz.prog.globalNamed "math/bits.deBruijn64tab" = some 10 by kernel_rfl).symm.trans hg)
  obtain rfl := Option.some.inj ((show (Tryz.prog.globals[10]?).map (·.type) = some 191 by kernel_rfl).symm.trans hty)
  have hcs := Lib.cells_of_tab (t := 191) (e := 5) (n := 64) (k := .u8) (zs := [0, 1, 56, 2, 57, 49, 28, 3, 61, 58, 42, 50, 38, 29, 17, 4, 62, 47, 59, 36, 45, 43, 51, 22, 53, 39, 33, 30, 24, 18, 12, 5, 63, 55, 48, 27, 60, 41, 37, 16, 46, 35, 44, 21, 52, 32, 23, 11, 54, 26, 40, 15, 34, 20, 31, 10, 25, 14, 19, 9, 13, 8, 7, 6]) (by kernel_rfl) (by kernel_rfl) (by kernel_rfl) (by kernel_rfl) hd
  refine ⟨?_, ?_⟩
  · rw [World.var?_cell hg hvar 7, ← Array.getElem?_toList, hcs]; rfl
  · rw [World.var?_cell hg hvar 15, ← Array.getElem?_toList, hcs]; rfl

theorem laidJ_of (W : World) (r1 : Lib.VarReads Tryz.prog W "internal/strconv.optimize" Rows.laid_internal_strconv_optimize) (r2 : Lib.VarReads Tryz.prog W "internal/strconv.pow10Tab" Rows.laid_internal_strconv_pow10Tab)
    (r3 : Lib.VarReads Tryz.prog W "internal/strconv.leftcheats" Rows.laid_internal_strconv_leftcheats) (r4 : Lib.VarReads Tryz.prog W "internal/strconv.uint64pow10" Rows.laid_internal_strconv_uint64pow10)
    (r5 : Lib.VarReads Tryz.prog W "math/bits.deBruijn64tab" Rows.laid_math_bits_deBruijn64tab) : LaidJ W := by
  have o := opt_of W r1
  have d := deb_of W r5
  exact ⟨⟨⟨⟨⟨o, o, ⟨0, 0, 0, o, fun _ _ => o⟩⟩, ⟨0, 0, o⟩⟩, tab_of W r2⟩, cheats_of W r3, ⟨0, 0, 0, o, fun _ _ => o⟩, ⟨o, o⟩, u10_of W r4⟩, d.1, d.2⟩

end Go.Proofs.YtdencljnbilchaaGreatDoor
