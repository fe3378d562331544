/- What the listed variables give a walk; atof64exact at one number. Walks: num.begin, num.Prefix, token.number. atof64, ParseFloat where the exact road serves. -/
import Derived.Test.YtdencljnbilchaaGreatDoorWj
import Derived.Test.YtdencljnbilchaaGreatDoorGl
import Derived.Test.YtdencljnbilchaaGreatDoorWh
import Derived.Test.YtdencljnbilchaaGreatDoorWi

namespace Go.Proofs.YtdencljnbilchaaGreatDoor
open Go.RowKit

def pow10L : List Nat := [4607182418800017408, 4621819117588971520, 4636737291354636288, 4652007308841189376, 4666723172467343360, 4681608360884174848, 4696837146684686336, 4711630319722168320, 4726483295884279808, 4741671816366391296, 4756540486875873280, 4771362005757984768, 4786511204640096256, 4801453603149578240, 4816244402031689728, 4831355200913801216, 4846369599423283200, 4861130398305394688, 4876203697187506176, 4891288408196988160, 4906019910204099648, 4921056587992461136, 4936209963552724370]

structure LaidF (w : World) : Prop where
  opt : w.cell? ⟨2, 0, none⟩ = some (.bool true)
  mb : w.cell? ⟨2, 0, none⟩ = some (.bool true)
  pow : ∃ _b _o _cap : Nat, w.cell? ⟨2, 0, none⟩ = some (.bool true) ∧ ∀ i : Nat, i < 23 → w.cell? ⟨2, 0, none⟩ = some (.bool true)

theorem LaidF.below {w w' : World} (h : LaidF w) (hb : Below w.heap.size w w') : LaidF w' := by
  obtain ⟨h1, h2, b, o, cap, h3, h4⟩ := h
  have keep : ∀ (a : Addr) (v : Value), w.cell? a = some v → w'.cell? a = some v := fun a v hv => by
    rw [hb.cell (World.block_lt_of_cell? w a hv)]; exact hv
  exact ⟨keep _ _ h1, keep _ _ h2, b, o, cap, keep _ _ h3, fun i hi => keep _ _ (h4 i hi)⟩

end Go.Proofs.YtdencljnbilchaaGreatDoor

namespace Go.Proofs.YtdencljnbilchaaGreatDoor
open Go.RowKit

def beginS (l : List UInt8) : Nat := nWhile isBlank l
def beginA (l : List UInt8) : Nat := beginS l + sgnN (l.drop (beginS l))

theorem beginS_le (l : List UInt8) : beginS l ≤ l.length := nWhile_le _ _
theorem beginA_le (l : List UInt8) : beginS l ≤ beginA l ∧ beginA l ≤ l.length := by
  have h1 := beginS_le l
  unfold beginA sgnN
  split
  · rename_i h
    rcases Nat.lt_or_ge (beginS l) l.length with h2 | h2
    · omega
    · rw [drop_head_end l _ h2] at h; simp at h
  · omega

/-- Where the numeral at the beginning ends. -/
def prefixE (l : List UInt8) : Nat := beginA l + numeralN (l.drop (beginA l))

end Go.Proofs.YtdencljnbilchaaGreatDoor

namespace Go.Proofs.YtdencljnbilchaaGreatDoor
open Go.RowKit

theorem bool2_any (b : Bool) (w : World) : Calls Tryz.prog 136 #[.bool b] w fun e w' => e = .returned (.int .u64 (if b then 1 else 0)) ∧ w = w' := by
  cases b <;> (go_enter Tryz.func136, Tryz.ntmps136; go_wp2; go_ret; exact ⟨rfl, rfl⟩)

theorem rf_15e3 : rf [49, 46, 53, 101, 51] = ⟨15, 2, false, false, 5, true⟩ := by rfl

end Go.Proofs.YtdencljnbilchaaGreatDoor
