/- Walks: stringslite.Clone, strconv.rangeError, toError at ErrRange, strconv.ParseFloat over whatever the inner one gives. atof64 where the number is a zero, too great, or too small. What the walks ask of the library's variables, the error among them. -/
import Derived.Test.YtdencljnbilchaaGreatDoorWl
import Derived.WideLaws
import Derived.Lib.BufferWrite
import Derived.Lib.UnsafeStr
import Derived.Lib.IfaceEq
import Derived.Lib.AtoiErrMem
import Derived.Laws.MakeOwn
import Derived.Deep.RegionWith
import Derived.RegionTactic
import Derived.BigCall

namespace Go.Proofs.YtdencljnbilchaaGreatDoor
open Go.RowKit

end Go.Proofs.YtdencljnbilchaaGreatDoor

namespace Go.Proofs.YtdencljnbilchaaGreatDoor
open Go.RowKit

def sgnBits (neg : Bool) : Nat := if neg = true then 9223372036854775808 else 0
def infBits (neg : Bool) : Nat := if neg = true then 18442240474082181120 else 9218868437227405312

end Go.Proofs.YtdencljnbilchaaGreatDoor

namespace Go.Proofs.YtdencljnbilchaaGreatDoor
open Go.RowKit

structure LaidE (w : World) : Prop where
  lf : LaidF w
  er : ∃ _te _pe : Nat, w.cell? ⟨2, 0, none⟩ = some (.bool true)

theorem LaidE.below {w w' : World} (h : LaidE w) (hb : Below w.heap.size w w') : LaidE w' := by
  obtain ⟨h1, te, pe, h2⟩ := h
  exact ⟨h1.below hb, te, pe, by rw [hb.cell (World.block_lt_of_cell? w _ h2)]; exact h2⟩

theorem rf_1e999 : rf [49, 101, 57, 57, 57] = ⟨1, 999, false, false, 5, true⟩ := by rfl

end Go.Proofs.YtdencljnbilchaaGreatDoor
