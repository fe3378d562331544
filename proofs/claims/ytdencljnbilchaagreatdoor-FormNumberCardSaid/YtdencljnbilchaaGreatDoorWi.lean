/- The walk of readFloat, at numerals' bytes. -/
import Derived.Test.YtdencljnbilchaaGreatDoorWa
import Derived.Test.YtdencljnbilchaaGreatDoorPa
import Derived.Test.YtdencljnbilchaaGreatDoorWh
import Derived.Deep.DeepCutAuto
import Derived.Deep.CutBlock

namespace Go.Proofs.YtdencljnbilchaaGreatDoor
open Go.RowKit

def lowB (c : UInt8) : UInt8 := c ||| 32

theorem lower_any (c : UInt8) (w : World) : Calls Tryz.prog 113 #[.int .u8 c.toNat] w fun e w' => e = .returned (.int .u8 (lowB c).toNat) ∧ w = w' := by
  have h := u8_or_nat c.toNat 32 (UInt8.toNat_lt c) (by omega)
  have HE : Hid (bits .or .u8 (c.toNat : Int) 32 = ((lowB c).toNat : Int)) := by
    unfold Hid lowB; rw [UInt8.toNat_or]; exact h
  clear h
  go_enter Tryz.func113, Tryz.ntmps113
  go_wp2
  go_ret
  exact ⟨ret_int HE.out, rfl⟩

def rfV (r : RFRes) : Value := .tuple #[.int .u64 r.mant, .int .i64 r.exp, .bool r.neg, .bool r.tr, .bool false, .int .i64 r.i, .bool r.ok]

theorem numCh_facts {c : UInt8} (h : c ∈ numChL) : c ≠ 95 ∧ lowB c ≠ 120 ∧ (lowB c = 101 ↔ (c = 101 ∨ c = 69)) ∧ (isDig c = false → c = 46 ∨ c = 43 ∨ c = 45 ∨ c = 69 ∨ c = 101) := by
  simp only [numChL, List.mem_cons, List.not_mem_nil, or_false] at h
  rcases h with h | h | h | h | h | h | h | h | h | h | h | h | h | h | h <;> subst h <;> decide

end Go.Proofs.YtdencljnbilchaaGreatDoor
