/- Memory: a block that holds a decimal: 800 bytes, how many count, the point, the sign, whether more was dropped. No program here. -/
import Derived.WalkKit
import Derived.Deep.Draws
import Derived.Laws.AppendOwn
import Derived.OwnWalk

namespace Go
open Go.RowKit

structure DecF (w : World) (b : Nat) (f : Nat → Nat) (nd dp : Int) (ng tr : Bool) : Prop where
  d : ∀ i, i < 800 → w.cell? ⟨b, i, none⟩ = some (.int .u8 (f i))
  nd : w.cell? ⟨b, 800, none⟩ = some (.int .i64 nd)
  dp : w.cell? ⟨b, 801, none⟩ = some (.int .i64 dp)
  ng : w.cell? ⟨b, 802, none⟩ = some (.bool ng)
  tr : w.cell? ⟨b, 803, none⟩ = some (.bool tr)
  fz : ∀ i, w.frozen? ⟨b, i, none⟩ = false

def upd (f : Nat → Nat) (i v : Nat) : Nat → Nat := fun j => if j = i then v else f j
theorem upd_same (f : Nat → Nat) (i v : Nat) : upd f i v i = v := by simp [upd]
theorem upd_other (f : Nat → Nat) {i j : Nat} (v : Nat) (h : j ≠ i) : upd f i v j = f j := by simp [upd, h]

section
variable {w : World} {b : Nat} {f : Nat → Nat} {nd dp : Int} {ng tr : Bool}

theorem cs_same {w : World} {a : Addr} {u v : Value} (h : w.cell? a = some u) : (w.setCell a v).cell? a = some v := by
  first | exact World.cell?_setCell_same _ _ h | exact World.cell?_setCell_same _ _ _ h | simp [World.cell?_setCell_same, h]
theorem cs_other {w : World} {a b : Addr} {v : Value} (h : a ≠ b) : (w.setCell a v).cell? b = w.cell? b := by
  first | exact World.cell?_setCell_other _ _ h | exact World.cell?_setCell_other _ _ _ h | exact World.cell?_setCell_other _ _ _ _ h
theorem addr_ne {b i j : Nat} (h : i ≠ j) : (⟨b, i, none⟩ : Addr) ≠ ⟨b, j, none⟩ := fun e => h (by injection e)

theorem DecF.setD (h : DecF w b f nd dp ng tr) {i : Nat} (hi : i < 800) (v : Nat) : DecF (w.setCell ⟨b, i, none⟩ (.int .u8 v)) b (upd f i v) nd dp ng tr where
  d := fun j hj => by
    by_cases e : j = i
    · subst e; rw [upd_same]; exact cs_same (h.d j hj)
    · rw [upd_other f v e, cs_other (addr_ne (Ne.symm e))]; exact h.d j hj
  nd := by rw [cs_other (addr_ne (by omega))]; exact h.nd
  dp := by rw [cs_other (addr_ne (by omega))]; exact h.dp
  ng := by rw [cs_other (addr_ne (by omega))]; exact h.ng
  tr := by rw [cs_other (addr_ne (by omega))]; exact h.tr
  fz := fun j => by rw [World.frozen?_setCell]; exact h.fz j
theorem DecF.setNd (h : DecF w b f nd dp ng tr) (v : Int) : DecF (w.setCell ⟨b, 800, none⟩ (.int .i64 v)) b f v dp ng tr where
  d := fun j hj => by rw [cs_other (addr_ne (by omega))]; exact h.d j hj
  nd := cs_same h.nd
  dp := by rw [cs_other (addr_ne (by omega))]; exact h.dp
  ng := by rw [cs_other (addr_ne (by omega))]; exact h.ng
  tr := by rw [cs_other (addr_ne (by omega))]; exact h.tr
  fz := fun j => by rw [World.frozen?_setCell]; exact h.fz j
theorem DecF.setDp (h : DecF w b f nd dp ng tr) (v : Int) : DecF (w.setCell ⟨b, 801, none⟩ (.int .i64 v)) b f nd v ng tr where
  d := fun j hj => by rw [cs_other (addr_ne (by omega))]; exact h.d j hj
  nd := by rw [cs_other (addr_ne (by omega))]; exact h.nd
  dp := cs_same h.dp
  ng := by rw [cs_other (addr_ne (by omega))]; exact h.ng
  tr := by rw [cs_other (addr_ne (by omega))]; exact h.tr
  fz := fun j => by rw [World.frozen?_setCell]; exact h.fz j
theorem DecF.setNg (h : DecF w b f nd dp ng tr) (v : Bool) : DecF (w.setCell ⟨b, 802, none⟩ (.bool v)) b f nd dp v tr where
  d := fun j hj => by rw [cs_other (addr_ne (by omega))]; exact h.d j hj
  nd := by rw [cs_other (addr_ne (by omega))]; exact h.nd
  dp := by rw [cs_other (addr_ne (by omega))]; exact h.dp
  ng := cs_same h.ng
  tr := by rw [cs_other (addr_ne (by omega))]; exact h.tr
  fz := fun j => by rw [World.frozen?_setCell]; exact h.fz j
theorem DecF.setTr (h : DecF w b f nd dp ng tr) (v : Bool) : DecF (w.setCell ⟨b, 803, none⟩ (.bool v)) b f nd dp ng v where
  d := fun j hj => by rw [cs_other (addr_ne (by omega))]; exact h.d j hj
  nd := by rw [cs_other (addr_ne (by omega))]; exact h.nd
  dp := by rw [cs_other (addr_ne (by omega))]; exact h.dp
  ng := by rw [cs_other (addr_ne (by omega))]; exact h.ng
  tr := cs_same h.tr
  fz := fun j => by rw [World.frozen?_setCell]; exact h.fz j
theorem DecF.below {w' : World} (h : DecF w b f nd dp ng tr) (hb : Below w.heap.size w w') : DecF w' b f nd dp ng tr where
  d := fun j hj => by rw [hb.cell (World.block_lt_of_cell? w _ (h.d j hj))]; exact h.d j hj
  nd := by rw [hb.cell (World.block_lt_of_cell? w _ h.nd)]; exact h.nd
  dp := by rw [hb.cell (World.block_lt_of_cell? w _ h.dp)]; exact h.dp
  ng := by rw [hb.cell (World.block_lt_of_cell? w _ h.ng)]; exact h.ng
  tr := by rw [hb.cell (World.block_lt_of_cell? w _ h.tr)]; exact h.tr
  fz := fun j => by rw [hb.frozen (p := ⟨b, j, none⟩) (World.block_lt_of_cell? w ⟨b, 800, none⟩ h.nd)]; exact h.fz j
theorem DecF.drewN (h : DecF w b f nd dp ng tr) (n : Nat) : DecF (w.drewN n) b f nd dp ng tr := ⟨h.d, h.nd, h.dp, h.ng, h.tr, h.fz⟩
theorem DecF.drew (h : DecF w b f nd dp ng tr) : DecF w.drew b f nd dp ng tr := ⟨h.d, h.nd, h.dp, h.ng, h.tr, h.fz⟩
theorem DecF.lt (h : DecF w b f nd dp ng tr) : b < w.heap.size := World.block_lt_of_cell? w ⟨b, 800, none⟩ h.nd

/-- Nothing that was there has changed but the block b. -/
def OnlyB (b : Nat) (a w : World) : Prop := a.grownBy w (some b)
theorem OnlyB.refl (b : Nat) (w : World) : OnlyB b w w := World.grownBy.refl w _
theorem OnlyB.trans {b : Nat} {a w w' : World} (h : OnlyB b a w) (h' : OnlyB b w w') : OnlyB b a w' :=
  ⟨h'.os.trans h.os, h'.tape.trans h.tape, h'.output.trans h.output, Nat.le_trans h.size h'.size, fun i hi hn => (h'.block i (Nat.lt_of_lt_of_le hi h.size) hn).trans (h.block i hi hn)⟩
theorem OnlyB.drewN {b : Nat} {a w : World} (h : OnlyB b a w) (n : Nat) : OnlyB b a (w.drewN n) := ⟨h.os, h.tape, h.output, h.size, h.block⟩
theorem OnlyB.drew {b : Nat} {a w : World} (h : OnlyB b a w) : OnlyB b a w.drew := ⟨h.os, h.tape, h.output, h.size, h.block⟩
theorem OnlyB.set {a w : World} {b : Nat} (h : OnlyB b a w) (i : Nat) (u : Value) : OnlyB b a (w.setCell ⟨b, i, none⟩ u) :=
  ⟨h.os, h.tape, h.output, by simpa [World.setCell] using h.size, fun i' hi hne => (Below.heap_setCell w ⟨b, i, none⟩ u i' (by
    rintro rfl
    exact hne rfl)).trans (h.block i' hi hne)⟩
theorem OnlyB.of_below {a w : World} (b : Nat) (h : Below a.heap.size a w) : OnlyB b a w := ⟨h.os, h.tape, h.output, h.size, fun i hi _ => h.block i hi⟩
theorem OnlyB.cell {a w : World} {b : Nat} (h : OnlyB b a w) {p : Addr} (hp : p.block ≠ b) (hlt : p.block < a.heap.size) : w.cell? p = a.cell? p :=
  World.cell?_of_block (h.block p.block hlt (fun e => hp (by injection e)))
/-- A block that is new since then: all that was there is as it was. -/
theorem OnlyB.below_of {a w : World} {b B : Nat} (h : OnlyB b a w) {w0 : World} (h0 : Below B w0 a) (hB : B ≤ b) (hs : B ≤ a.heap.size) : Below B w0 w :=
  ⟨h.os.trans h0.os, h.tape.trans h0.tape, h.output.trans h0.output, Nat.le_trans h0.size h.size, fun i hi => (h.block i (Nat.lt_of_lt_of_le hi hs) (fun e => by injection e with e; omega)).trans (h0.block i hi)⟩
end
end Go
