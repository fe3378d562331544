/- What the rows list, the error among it. -/
import Derived.Test.YtjncgedjdmgpfaaGreatDoorRl
import Derived.Test.YtjncgedjdmgpfaaGreatDoorXa
import Derived.LaidLaws

namespace Go.Proofs.YtjncgedjdmgpfaaGreatDoor
open Go.ChangeShapes Go.WideShapes Go.ChangeAt Go.RowKit

theorem laidE_of (W : World) (hF : LaidF W) (r4 : Lib.VarReads Tryz.prog W "strconv.ErrRange" Rows.laid_strconv_ErrRange) : LaidE W := by
  refine ⟨hF, ?_⟩
  obtain ⟨g, t, cs, fuel, p, hg, hty, hvar, hd⟩ := r4
  obtain rfl := Option.some.inj ((show Tryz.prog.globalNamed "strconv.ErrRange" = some 2 by kernel_rfl).symm.trans hg)
  obtain rfl := Option.some.inj ((show (Tryz.prog.globals[2]?).map (·.type) = some 45 by kernel_rfl).symm.trans hty)
  obtain ⟨_, u, v, hcs, _, _⟩ := iface_of_trod Tryz.underlying45 hd
  exact ⟨u, v, by rw [World.var?_cell hg hvar 0, ← Array.getElem?_toList, hcs]; rfl⟩

end Go.Proofs.YtjncgedjdmgpfaaGreatDoor
