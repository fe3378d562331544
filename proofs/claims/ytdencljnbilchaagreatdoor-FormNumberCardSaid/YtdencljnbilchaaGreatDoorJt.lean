/- Letters of raw bytes: what FormWidths and FormAny both need. -/
import Derived.Test.YtdencljnbilchaaGreatDoorJp
import Derived.Test.YtdencljnbilchaaGreatDoorVk
import Derived.Deep.DeepCutAuto
import Derived.Deep.CutBlock

namespace Go.Proofs.YtdencljnbilchaaGreatDoor
open Go.RowKit

theorem ltrB (d : Nat) (h : d < 8) : (({ data := #[97, 97, 98, 98, 99, 49, 10, 65] } : ByteArray).extract d (d + 1)).size = 1 := by
  have key : ∀ d : Fin 8, (({ data := #[97, 97, 98, 98, 99, 49, 10, 65] } : ByteArray).extract d.1 (d.1 + 1)).size = 1 := by decide +kernel
  exact key ⟨d, h⟩

set_option maxRecDepth 100000 in
set_option maxHeartbeats 2000000 in
theorem letters_any (ao : Option Addr) (n cap : Nat) (Z : Nat → Nat) (m : Nat) (w : World) (hm : m ≤ 1000) (hn : n ≤ 9223372036854775807) (hl : n = 0 ∨ ∃ b o, ao = some ⟨b, o, none⟩ ∧ ∀ i, i < n → Z i < 256 ∧ w.cell? ⟨b, o + i, none⟩ = some (.int .u8 (Z i))) :
    Calls Tryz.prog 18 #[.slice ao n cap, .int .i64 m] w fun e w' => ∃ T : ByteArray, e = .returned (.string T) ∧ T.size ≤ m ∧ Below w.heap.size w w' := by
  have HB := Lib.hid (Below.refl w.heap.size w)
  by_cases h0 : n = 0
  · subst h0
    clear hl
    go_enter Tryz.func18, Tryz.ntmps18
    go_wp2
    go_loop [5, 6] (fun t i => t = .string ⟨#[]⟩ ∧ i = .int .i64 0) (fun _ _ => 0)
    case atStart => exact ⟨rfl, rfl⟩
    case round =>
      obtain ⟨rfl, rfl⟩ := hrel
      go_wp2
      go_ret
      exact ⟨_, rfl, Nat.zero_le _, HB.out⟩
  · obtain ⟨b, o, rfl, hc⟩ := hl.resolve_left h0
    have HC := Lib.hid hc
    clear hc hl
    go_enter Tryz.func18, Tryz.ntmps18
    go_wp2
    go_loopg [5, 6] m (fun g t i wr => ∃ (T : ByteArray) (j : Nat), t = .string T ∧ i = .int .i64 j ∧ j ≤ n ∧ j + g = m ∧ T.size = j ∧ Hid (Below w.heap.size w wr))
    case atStart => exact ⟨⟨#[]⟩, 0, rfl, rfl, by omega, by omega, rfl, HB⟩
    case round =>
      obtain ⟨T, j, rfl, rfl, hj, hjm, hT, HBW⟩ := hrel
      by_cases hjn : j < n
      · by_cases hjm2 : j < m
        · obtain ⟨hz, hcell⟩ := HC.out j hjn
          have hcj : wr.cell? ⟨b, o + j, none⟩ = some (.int .u8 (Z j)) := by
            rw [HBW.out.cell (World.block_lt_of_cell? w ⟨b, o + j, none⟩ hcell)]; exact hcell
          have hd := Nat.mod_lt (Z j) (show 0 < 8 by decide)
          have hz1 := ltrB (Z j % 8) hd
          have hsz : (T ++ ({ data := #[97, 97, 98, 98, 99, 49, 10, 65] } : ByteArray).extract (Z j % 8) (Z j % 8 + 1)).size = j + 1 := by rw [ByteArray.size_append, hz1, hT]
          have HS := Lib.hid hsz
          clear hcell hd hz1 hsz
          go_wp2
          go_quiet (fail)
          go_wp2
          go_roundg (gk - 1)
          case measure => omega
          case rel => exact ⟨_, j + 1, rfl, congrArg (Value.int .i64) (by omega), by omega, by omega, HS.out, by first | exact HBW.out | exact HBW.out.drew | exact below_drewN HBW.out _⟩
        · go_wp2
          go_ret
          exact ⟨T, rfl, by omega, HBW.out⟩
      · go_wp2
        go_ret
        exact ⟨T, rfl, by omega, HBW.out⟩

end Go.Proofs.YtdencljnbilchaaGreatDoor
