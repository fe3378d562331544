/- A slice of whole numbers that came in. A slice of bytes that came in. Raw arguments of printf that came in: a slice of them, one alone. -/
import Derived.Test.YtdencljnbilchaaGreatDoorRows
import Derived.WalkKit
import Derived.ProofKit
import Derived.OpenShut
import Derived.Carry
import Derived.ChangeSlices
import Derived.Lay
import Derived.LaidOnce
import Derived.Laws.Cover2
import Derived.Deep.Slices
import Derived.Lib.SmallJoins

namespace Go.Proofs.YtdencljnbilchaaGreatDoor
open Go.ChangeShapes Go.WideShapes Go.ChangeAt Go.RowKit

set_option maxRecDepth 1000000 in
theorem laidOutP : laidOutB Tryz.prog = true := by kernel_rfl

end Go.Proofs.YtdencljnbilchaaGreatDoor

namespace Go.Proofs.YtdencljnbilchaaGreatDoor
open Go.ChangeShapes Go.WideShapes Go.ChangeAt Go.RowKit

theorem wf_u8' {n : Int} (h : (Lit.int IntKind.u8 n).wf = true) : 0 ≤ n ∧ n ≤ 255 := by
  have h2 : IntKind.u8.min ≤ n ∧ n ≤ IntKind.u8.max := by simpa [Lit.wf] using h
  exact h2

set_option maxRecDepth 1000000 in
theorem open_bytesV {H : Type} {enc : TypeId × Value → H} {W : World} {base : Nat} {v : Value} {d : DataW H} {p : List MemPlace} (hval : Value.okWide Tryz.prog W .any base 33 v) (h : DataW.Trod enc Tryz.prog W 0 (fun _ => true) true 33 v d p) :
    ∃ (ao : Option Addr) (n cap : Nat) (Z : Nat → Nat), v = .slice ao n cap ∧ n ≤ 9223372036854775807 ∧ (n = 0 ∨ ∃ b o, ao = some ⟨b, o, none⟩ ∧ ∀ i, i < n → Z i < 256 ∧ W.cell? ⟨b, o + i, none⟩ = some (.int .u8 (Z i))) := by
  obtain ⟨a1, len, cap, rfl⟩ := okWide_slice Tryz.underlying33 hval
  obtain ⟨fuel, hf⟩ := h
  rcases open_ints Tryz.underlying33 Tryz.underlying5 (by kernel_rfl) hf with ⟨hcs, hx⟩ | ⟨a, len', cap', zs, hcs, _, hl, hm, hz, hx, hcell, hwz⟩
  · simp [Value.cells] at hcs
    obtain ⟨rfl, rfl, rfl⟩ := hcs
    exact ⟨none, 0, 0, fun _ => 0, rfl, by omega, .inl rfl⟩
  · simp [Value.cells] at hcs
    obtain ⟨rfl, rfl, rfl⟩ := hcs
    simp only [if_true] at hz
    refine ⟨some a, len, cap, fun i => (zs.getD i 0).toNat, rfl, by unfold maxLen at hm; omega, ?_⟩
    by_cases h0 : len = 0
    · exact .inl h0
    · right
      obtain ⟨ab, ao, spot⟩ := a
      have hspot : spot = none := by simpa [Addr.add] using World.cell?_spot (hcell 0 (by omega))
      subst hspot
      refine ⟨ab, ao, rfl, fun i hi => ?_⟩
      have h1 := hcell i (by omega)
      have h2 : (Lit.int IntKind.u8 (zs.getD i 0)).wf = true := hwz _ (by
        have hlt : i < zs.length := by omega
        rw [List.getD_eq_getElem?_getD, List.getElem?_eq_getElem hlt]
        exact List.getElem_mem hlt)
      obtain ⟨h3, h4⟩ : 0 ≤ zs.getD i 0 ∧ zs.getD i 0 ≤ 255 := by
        exact wf_u8' h2
      rw [Addr.add_lit] at h1
      refine ⟨by show (zs.getD i 0).toNat < 256; omega, ?_⟩
      rw [h1]
      show some (Value.int IntKind.u8 (zs.getD i 0)) = some (Value.int IntKind.u8 ((zs.getD i 0).toNat : Int))
      rw [Int.toNat_of_nonneg h3]

theorem wf_both {k : IntKind} {n : Int} (h : (Lit.int k n).wf = true) : k.min ≤ n ∧ n ≤ k.max := by simpa [Lit.wf] using h
theorem wf_u32 {n : Int} (h : (Lit.int .u32 n).wf = true) : 0 ≤ n ∧ n ≤ 4294967295 := wf_both h
theorem wf_i8 {n : Int} (h : (Lit.int .i8 n).wf = true) : -128 ≤ n ∧ n ≤ 127 := wf_both h
theorem wf_i64 {n : Int} (h : (Lit.int .i64 n).wf = true) : -9223372036854775808 ≤ n ∧ n ≤ 9223372036854775807 := wf_both h
theorem wf_float {b : Nat} (h : (Lit.float .f64 b).wf = true) : b < 18446744073709551616 := by simpa [Lit.wf] using h

end Go.Proofs.YtdencljnbilchaaGreatDoor

namespace Go.Proofs.YtdencljnbilchaaGreatDoor
open Go.ChangeShapes Go.WideShapes Go.ChangeAt Go.RowKit Go.Deep

theorem trod_float {H : Type} {enc : TypeId × Value → H} {P : Program} {w : World} {base : Nat} {spare : Nat → Bool} {held : Bool} {fuel : Nat} {t : TypeId} {cs : List Value} {x : DataW H × List MemPlace} {k : FloatKind} (ht : P.underlying t = some (.float k)) (h : DataW.trod enc P w base spare held fuel t cs = some x) : ∃ n, cs = [.float k n] ∧ (Lit.float k n).wf = true := by
  cases fuel with
  | zero => simp [DataW.trod] at h
  | succ n =>
    unfold DataW.trod at h
    rw [ht] at h
    split at h <;> simp_all

/-- A raw argument: its bytes lie somewhere. -/
structure RawA where
  n : Nat
  sa : Option Addr
  sn : Nat
  sc : Nat
  z : Nat → Nat
  num : Bool
  whole : Int
instance : Inhabited RawA := ⟨⟨0, none, 0, 0, fun _ => 0, false, 0⟩⟩

structure RawA.Ok (W : World) (x : RawA) : Prop where
  n : x.n < 18446744073709551616
  s : x.sn ≤ 9223372036854775807
  w : -9223372036854775808 ≤ x.whole ∧ x.whole ≤ 9223372036854775807
  b : x.sn = 0 ∨ ∃ b o, x.sa = some ⟨b, o, none⟩ ∧ ∀ i, i < x.sn → x.z i < 256 ∧ W.cell? ⟨b, o + i, none⟩ = some (.int .u8 (x.z i))

def RawA.vals (x : RawA) : Value × Value × Value × Value := (.float .f64 x.n, .slice x.sa x.sn x.sc, .bool x.num, .int .i64 x.whole)

/-- The slice of them. -/
def RawsAt (W : World) (ao : Option Addr) (n : Nat) : Prop :=
  n = 0 ∨ ∃ b o, ∃ X : Nat → RawA, ao = some ⟨b, o, none⟩ ∧ ∀ i, i < n → (X i).Ok W ∧ W.cell? ⟨b, o + 4 * i, none⟩ = some (.float .f64 (X i).n) ∧ W.cell? ⟨b, o + 4 * i + 1, none⟩ = some (.slice (X i).sa (X i).sn (X i).sc) ∧ W.cell? ⟨b, o + 4 * i + 2, none⟩ = some (.bool (X i).num) ∧ W.cell? ⟨b, o + 4 * i + 3, none⟩ = some (.int .i64 (X i).whole)

theorem RawA.Ok.below {W W' : World} {x : RawA} (h : x.Ok W) (hb : Below W.heap.size W W') : x.Ok W' :=
  ⟨h.n, h.s, h.w, h.b.imp id fun ⟨b, o, h1, h2⟩ => ⟨b, o, h1, fun i hi => ⟨(h2 i hi).1, by rw [hb.cell (World.block_lt_of_cell? W ⟨b, o + i, none⟩ (h2 i hi).2)]; exact (h2 i hi).2⟩⟩⟩
theorem RawsAt.below {W W' : World} {ao : Option Addr} {n : Nat} (h : RawsAt W ao n) (hb : Below W.heap.size W W') : RawsAt W' ao n := by
  have keep : ∀ (a : Addr) (v : Value), W.cell? a = some v → W'.cell? a = some v := fun a v hv => by
    rw [hb.cell (World.block_lt_of_cell? W a hv)]; exact hv
  exact h.imp id fun ⟨b, o, X, h1, h2⟩ => ⟨b, o, X, h1, fun i hi => ⟨(h2 i hi).1.below hb, keep _ _ (h2 i hi).2.1, keep _ _ (h2 i hi).2.2.1, keep _ _ (h2 i hi).2.2.2.1, keep _ _ (h2 i hi).2.2.2.2⟩⟩

theorem bytes_cells {H : Type} {enc : TypeId × Value → H} {W : World} {fuel : Nat} {v : Value} {x : DataW H × List MemPlace} (h : DataW.trod enc Tryz.prog W 0 (fun _ => true) true fuel 33 [v] = some x) :
    ∃ (ao : Option Addr) (n cap : Nat) (Z : Nat → Nat), v = .slice ao n cap ∧ n ≤ 9223372036854775807 ∧ (n = 0 ∨ ∃ b o, ao = some ⟨b, o, none⟩ ∧ ∀ i, i < n → Z i < 256 ∧ W.cell? ⟨b, o + i, none⟩ = some (.int .u8 (Z i))) := by
  rcases open_ints Tryz.underlying33 Tryz.underlying5 (by kernel_rfl) h with ⟨hcs, hx⟩ | ⟨a, len', cap', zs, hcs, _, hl, hm, hz, hx, hcell, hwz⟩
  · simp only [List.cons.injEq, and_true] at hcs
    subst hcs
    exact ⟨none, 0, 0, fun _ => 0, rfl, by omega, .inl rfl⟩
  · simp only [List.cons.injEq, and_true] at hcs
    subst hcs
    simp only [if_true] at hz
    refine ⟨some a, len', cap', fun i => (zs.getD i 0).toNat, rfl, by unfold maxLen at hm; omega, ?_⟩
    by_cases h0 : len' = 0
    · exact .inl h0
    · right
      obtain ⟨ab, ao, spot⟩ := a
      have hspot : spot = none := by simpa [Addr.add] using World.cell?_spot (hcell 0 (by omega))
      subst hspot
      refine ⟨ab, ao, rfl, fun i hi => ?_⟩
      have h1 := hcell i (by omega)
      have h2 : (Lit.int IntKind.u8 (zs.getD i 0)).wf = true := hwz _ (by
        have hlt : i < zs.length := by omega
        rw [List.getD_eq_getElem?_getD, List.getElem?_eq_getElem hlt]
        exact List.getElem_mem hlt)
      obtain ⟨h3, h4⟩ : 0 ≤ zs.getD i 0 ∧ zs.getD i 0 ≤ 255 := wf_u8' h2
      rw [Addr.add_lit] at h1
      refine ⟨by show (zs.getD i 0).toNat < 256; omega, ?_⟩
      rw [h1]
      show some (Value.int IntKind.u8 (zs.getD i 0)) = some (Value.int IntKind.u8 ((zs.getD i 0).toNat : Int))
      rw [Int.toNat_of_nonneg h3]

set_option maxRecDepth 1000000 in
/-- One, from its four cells. -/
theorem raw_cells {H : Type} {enc : TypeId × Value → H} {W : World} {fuel : Nat} {cs : List Value} {x : DataW H × List MemPlace} (h : DataW.trod enc Tryz.prog W 0 (fun _ => true) true fuel 38 cs = some x) :
    ∃ r : RawA, r.Ok W ∧ cs = [.float .f64 r.n, .slice r.sa r.sn r.sc, .bool r.num, .int .i64 r.whole] := by
  obtain ⟨y0, y1, y2, y3, n, _, hl, h0, h1, h2, h3⟩ := Go.Joins.trod_struct4 Tryz.underlying38 h
  have c0 : Tryz.prog.cellsOf 36 = 1 := by kernel_rfl
  have c1 : Tryz.prog.cellsOf 33 = 1 := by kernel_rfl
  have c2 : Tryz.prog.cellsOf 4 = 1 := by kernel_rfl
  have c3 : Tryz.prog.cellsOf 3 = 1 := by kernel_rfl
  have c4 : Tryz.prog.cellsOf 38 = 4 := by kernel_rfl
  rw [c4] at hl
  match cs, hl with
  | [v0, v1, v2, v3], _ =>
    simp only [c0, c1, c2, c3] at h0 h1 h2 h3
    obtain ⟨b, hb, wb⟩ := trod_float Tryz.underlying36 h0
    obtain ⟨ao, sn, sc, Z, hv, hn, hz⟩ := bytes_cells h1
    obtain ⟨q, hq, _⟩ := DataW.trod_bool Tryz.underlying4 h2
    obtain ⟨k, hk, _, wk⟩ := DataW.trod_int Tryz.underlying3 h3
    simp at hb hq hk
    subst hb hv hq hk
    exact ⟨⟨b, ao, sn, sc, Z, q, k⟩, ⟨wf_float wb, hn, wf_i64 wk, hz⟩, rfl⟩

set_option maxRecDepth 1000000 in
theorem open_rawsV {H : Type} {enc : TypeId × Value → H} {W : World} {base : Nat} {v : Value} {d : DataW H} {p : List MemPlace} (hval : Value.okWide Tryz.prog W .any base 22 v) (h : DataW.Trod enc Tryz.prog W 0 (fun _ => true) true 22 v d p) :
    ∃ (ao : Option Addr) (n cap : Nat), v = .slice ao n cap ∧ n ≤ 9223372036854775807 ∧ RawsAt W ao n := by
  obtain ⟨a1, len, cap, rfl⟩ := okWide_slice Tryz.underlying22 hval
  obtain ⟨fuel, hf⟩ := h
  rcases open_slice Tryz.underlying22 hf with ⟨hcs, _⟩ | ⟨a, len', cap', m, n, D, Pl, hcs, _, hl, hm, hmm, _, hx⟩
  · simp [Value.cells] at hcs
    obtain ⟨rfl, rfl, rfl⟩ := hcs
    exact ⟨none, 0, 0, rfl, by omega, .inl rfl⟩
  · simp [Value.cells] at hcs
    obtain ⟨rfl, rfl, rfl⟩ := hcs
    simp only [if_true] at hmm
    refine ⟨some a, len, cap, rfl, by unfold maxLen at hm; omega, ?_⟩
    by_cases h0 : len = 0
    · exact .inl h0
    · right
      have c4 : Tryz.prog.cellsOf 38 = 4 := by kernel_rfl
      have each : ∀ i, i < len → ∃ r : RawA, r.Ok W ∧ W.cell? (a.add (i * 4)) = some (.float .f64 r.n) ∧ W.cell? (a.add (i * 4 + 1)) = some (.slice r.sa r.sn r.sc) ∧ W.cell? (a.add (i * 4 + 2)) = some (.bool r.num) ∧ W.cell? (a.add (i * 4 + 3)) = some (.int .i64 r.whole) := by
        intro i hi
        obtain ⟨cs', h1, h2⟩ := hx i (by omega)
        rw [c4] at h1
        obtain ⟨_, _, hcell⟩ := World.cells?_some h1
        obtain ⟨r, hr, rfl⟩ := raw_cells h2
        have e0 := hcell 0 (by omega)
        have e1 := hcell 1 (by omega)
        have e2 := hcell 2 (by omega)
        have e3 := hcell 3 (by omega)
        rw [add_add] at e0 e1 e2 e3
        exact ⟨r, hr, e0, e1, e2, e3⟩
      obtain ⟨X, hX⟩ := choose_lt each
      obtain ⟨ab, ao, spot⟩ := a
      have hspot : spot = none := by simpa [Addr.add] using World.cell?_spot (hX 0 (by omega)).2.1
      subst hspot
      refine ⟨ab, ao, X, rfl, fun i hi => ?_⟩
      obtain ⟨h1, h2, h3, h4, h5⟩ := hX i hi
      rw [Addr.add_lit] at h2 h3 h4 h5
      exact ⟨h1, by rw [← h2]; congr 2; omega, by rw [← h3]; congr 2; omega, by rw [← h4]; congr 2; omega, by rw [← h5]; congr 2; omega⟩

set_option maxRecDepth 1000000 in
theorem open_rawV {H : Type} {enc : TypeId × Value → H} {W : World} {base : Nat} {v : Value} {d : DataW H} {p : List MemPlace} (hval : Value.okWide Tryz.prog W .any base 38 v) (h : DataW.Trod enc Tryz.prog W 0 (fun _ => true) true 38 v d p) :
    ∃ r : RawA, r.Ok W ∧ v = .agg #[.float .f64 r.n, .slice r.sa r.sn r.sc, .bool r.num, .int .i64 r.whole] := by
  obtain ⟨cs, rfl, hsz⟩ := okWide_struct Tryz.underlying38 hval
  obtain ⟨fuel, hf⟩ := h
  obtain ⟨r, hr, hc⟩ := raw_cells hf
  refine ⟨r, hr, ?_⟩
  have hc' : cs.toList = _ := hc
  rw [← Array.toArray_toList (xs := cs), hc']

end Go.Proofs.YtdencljnbilchaaGreatDoor
