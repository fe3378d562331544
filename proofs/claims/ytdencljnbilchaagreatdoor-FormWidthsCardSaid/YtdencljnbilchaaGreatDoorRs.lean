/- A slice of whole numbers that came in. -/
import Derived.Test.YtdencljnbilchaaGreatDoorRows
import Derived.WalkKit
import Derived.ProofKit
import Derived.OpenShut
import Derived.Carry
import Derived.ChangeSlices
import Derived.Lay
import Derived.LaidOnce

namespace Go.Proofs.YtdencljnbilchaaGreatDoor
open Go.ChangeShapes Go.WideShapes Go.ChangeAt Go.RowKit

set_option maxRecDepth 1000000 in
theorem laidOutP : laidOutB Tryz.prog = true := by kernel_rfl

end Go.Proofs.YtdencljnbilchaaGreatDoor
