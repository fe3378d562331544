/- The walk of fmtEFG. -/
import Derived.Test.YtdencljnbilchaaGreatDoorFm
import Derived.Test.YtdencljnbilchaaGreatDoorFa
import Derived.Test.YtdencljnbilchaaGreatDoorChecked
import Derived.Deep.DeepCutAuto
import Derived.Deep.CutBlock
import Derived.Lib.Hide

namespace Go.Proofs.YtdencljnbilchaaGreatDoor
open Go.RowKit

theorem Tryz.info_u8' : (Tryz.prog.info? 5).map (fun i => (i.zero, i.size, i.bytes)) = some (some (.int .u8 0), 1, 1) := by kernel_rfl

def digSrc (w : World) (bd : Nat) (sv : Value) (f : Nat → Nat) (nd : Nat) (dp : Int) : Prop :=
  (nd = 0 ∧ dp ≤ 0) ∨ (∃ b len cap : Nat, sv = .slice (some ⟨b, 0, none⟩) len cap ∧ nd ≤ len ∧ len ≤ cap ∧ cap ≤ 1000 ∧ 0 < cap ∧ b ≠ bd ∧ ∀ i, i < nd → w.cell? ⟨b, i, none⟩ = some (.int .u8 (f i)))

def g5 (nd : Nat) (dp prec : Int) (fmt : Nat) (sh : Bool) : Int :=
  if fmt = 103 ∨ fmt = 71 then (if gE nd dp prec sh = true then min prec nd - 1 else max ((if prec > dp then (nd : Int) else prec) - dp) 0) else prec
def g6 (nd : Nat) (dp prec : Int) (fmt : Nat) (sh : Bool) : Nat :=
  if fmt = 103 ∨ fmt = 71 then (if gE nd dp prec sh = true then fmt - 2 else 102) else fmt

theorem fmtL_g (ng : Bool) (f : Nat → Nat) (nd : Nat) (dp prec : Int) (fmt : Nat) (sh : Bool) (_hf : fmt = 101 ∨ fmt = 69 ∨ fmt = 102 ∨ fmt = 103 ∨ fmt = 71) :
    fmtL ng f nd dp prec fmt sh = if g6 nd dp prec fmt sh = 102 then fmtF ng f nd dp (g5 nd dp prec fmt sh) else fmtE ng f nd dp (g5 nd dp prec fmt sh) (g6 nd dp prec fmt sh) := by
  unfold fmtL g5 g6
  split
  · split
    · rw [if_neg (by omega)]
    · rw [if_pos rfl]
  · rfl

end Go.Proofs.YtdencljnbilchaaGreatDoor
