/- The walk of atof64exact, whatever the number. atof64exact: the whole. -/
import Derived.Test.YtdencljnbilchaaGreatDoorXg
import Derived.Test.YtdencljnbilchaaGreatDoorPn

namespace Go.Proofs.YtdencljnbilchaaGreatDoor
open Go.RowKit

theorem pow10_nz : ∀ i : Fin 23, NZ (pow10L.getD i 0) := by
  have h : ∀ i : Fin 23, (match FloatKind.f64.format.read (pow10L.getD i 0) with | .number _ m _ => decide (m ≠ 0) | _ => false) = true := by decide +kernel
  intro i
  have := h i
  cases hd : FloatKind.f64.format.read (pow10L.getD i 0) with
  | number s m e => rw [hd] at this; exact ⟨s, m, e, hd, by simpa using this⟩
  | infinity s => rw [hd] at this; simp at this
  | nan s m => rw [hd] at this; simp at this

theorem run_negF (f : Nat) (w : World) : Sem.run Tryz.prog (Op.unary .neg (.float .f64 f)) w = .ok (.float .f64 (f ^^^ 9223372036854775808)) w := rfl

end Go.Proofs.YtdencljnbilchaaGreatDoor

namespace Go.Proofs.YtdencljnbilchaaGreatDoor
open Go.RowKit

end Go.Proofs.YtdencljnbilchaaGreatDoor
