/- Shift and Round whatever the sign; the bound of fixedWidthFloat's number. The walk of set. -/
import Derived.Test.YtdencljnbilchaaGreatDoorHa
import Derived.Test.YtdencljnbilchaaGreatDoorFe
import Derived.Test.YtdencljnbilchaaGreatDoorXl
import Derived.Test.YtdencljnbilchaaGreatDoorWi
import Derived.Test.YtdencljnbilchaaGreatDoorPa
import Derived.Deep.DeepCutAuto
import Derived.Deep.CutBlock
import Derived.StillTailTactics
import Derived.BigRegion

namespace Go.Proofs.YtdencljnbilchaaGreatDoor
open Go.RowKit

theorem shift0_any (w : World) (b : Nat) (ng : Bool) (s : DS) (hs : s.ok) (hD : DecS w b ng s) :
    Calls Tryz.prog 95 #[.pointer (some ⟨b, 0, none⟩), .int .i64 0] w (DecEnd w b ng s) := by
  have hn1 := hs.1
  have HD := Lib.hid hD
  obtain ⟨f0, hF0, _⟩ := hD
  have c800 := hF0.nd
  have bn : ((s.nd : Int) == 0) = false := beq_eq_false_iff_ne.2 (by omega)
  clear hF0 hs hn1
  go_enter Tryz.func95, Tryz.ntmps95
  go_wp2
  go_end0
  exact ⟨rfl, HD.out, OnlyB.refl b w⟩

theorem shift_any (w : World) (b : Nat) (k : Int) (ng : Bool) (s : DS) (hU : Under w b) (hs : s.ok) (hk1 : -1100 ≤ k) (hk : k ≤ 1000) (hD : DecS w b ng s) (hp1 : -500000000 ≤ s.dp) (hp2 : s.dp ≤ 500000000) :
    Calls Tryz.prog 95 #[.pointer (some ⟨b, 0, none⟩), .int .i64 k] w (DecEnd w b ng (shiR s k)) := by
  unfold shiR
  split
  · rename_i h
    have := shiftL_any w b k.toNat ng s hU hs (by omega) (by omega) hD hp1 hp2
    rwa [Int.toNat_of_nonneg (by omega)] at this
  · split
    · rename_i h1 h
      have := shiftR_any w b (-k).toNat ng s hs (by omega) (by omega) hD hp1 hp2
      rwa [Int.toNat_of_nonneg (by omega), Int.neg_neg] at this
    · obtain rfl : k = 0 := by omega
      exact shift0_any w b ng s hs hD

theorem round_neg (w : World) (b : Nat) (k : Int) (hk : k < 0) : 
    Calls Tryz.prog 96 #[.pointer (some ⟨b, 0, none⟩), .int .i64 k] w fun e w' => e = .returned (.tuple #[]) ∧ w = w' := by
  go_enter Tryz.func96, Tryz.ntmps96
  go_wp2
  exact bodyPost_ret (v := .tuple #[]) (by simp [results, Tryz.results96, go_sem]) rfl ⟨rfl, rfl⟩

def roundI (s : DS) (k : Int) : DS := if k < 0 then s else roundR s k.toNat

theorem roundI_any (w : World) (b : Nat) (ng : Bool) (s : DS) (k : Int) (hk : k ≤ 1000000) (hs : s.nd ≤ 800) (hd1 : -1000000000 ≤ s.dp) (hd2 : s.dp ≤ 1000000000) (hD : DecS w b ng s) :
    Calls Tryz.prog 96 #[.pointer (some ⟨b, 0, none⟩), .int .i64 k] w (DecEnd w b ng (roundI s k)) := by
  unfold roundI
  split
  · rename_i h
    exact (round_neg w b k h).mono fun e w' ⟨h1, h2⟩ => ⟨h1, h2 ▸ hD, h2 ▸ OnlyB.refl b w⟩
  · have := round_any10 w b ng s k.toNat (by omega) hs hd1 hd2 hD
    rwa [Int.toNat_of_nonneg (by omega)] at this

theorem upN_le : ∀ (n A k B : Nat), upN n A = some (k, B) → k ≤ n
  | 0, _, _, _, h => by cases h
  | n + 1, A, k, B, h => by
    unfold upN at h
    split at h
    · have := upN_le n (A / 10) k B h; omega
    · cases h; exact Nat.le_refl _

theorem roundI_bd (s : DS) (k : Int) (h1 : 1 ≤ s.nd) (h2 : s.nd ≤ 800) (lo hi : Int) (hl : lo ≤ s.dp) (hh : s.dp ≤ hi) (hl0 : lo ≤ 0) (hh0 : 0 ≤ hi) :
    (roundI s k).nd ≤ 800 ∧ lo ≤ (roundI s k).dp ∧ (roundI s k).dp ≤ hi + 1 := by
  unfold roundI
  split
  · exact ⟨h2, hl, by omega⟩
  · unfold roundR
    split
    · exact ⟨h2, hl, by omega⟩
    · split
      · unfold upR
        split
        · exact ⟨by show (1 : Nat) ≤ 800; omega, by show lo ≤ s.dp + 1; omega, by show s.dp + 1 ≤ hi + 1; omega⟩
        · rename_i k' B' he
          have := upN_le _ _ _ _ he
          exact ⟨by show k' ≤ 800; omega, hl, by show s.dp ≤ hi + 1; omega⟩
      · have := trimN_le k.toNat (s.M / 10 ^ (s.nd - k.toNat))
        refine ⟨by show (trimN k.toNat (s.M / 10 ^ (s.nd - k.toNat))).1 ≤ 800; omega, ?_, ?_⟩
        · show lo ≤ dpT _ s.dp; unfold dpT; split <;> omega
        · show dpT _ s.dp ≤ hi + 1; unfold dpT; split <;> omega

theorem fw_one (e : Int) (n : Nat) (he1 : -1137 ≤ e) (he2 : e ≤ 960) (hn1 : 1 ≤ n) (hn2 : n ≤ 18) : 1 ≤ -(e + fwP e n * 108853 / 32768 + 3) := by
  unfold fwP
  obtain ⟨a, ea⟩ : ∃ a, (e + 63) * 78913 / 262144 = a := ⟨_, rfl⟩
  rw [ea]
  have : 262144 * a ≤ (e + 63) * 78913 ∧ (e + 63) * 78913 < 262144 * a + 262144 := by omega
  clear ea
  omega

theorem fwU_lt (m : Nat) (e : Int) (n : Nat) (hm : m < 18446744073709551616) (he1 : -1137 ≤ e) (he2 : e ≤ 960) (hn1 : 1 ≤ n) (hn2 : n ≤ 18) : fwU m e n < 18446744073709551612 := by
  have h1 := fw_one e n he1 he2 hn1 hn2
  obtain ⟨b1, b2, _, h63⟩ := fw_bd e n he1 he2 hn1 hn2
  have hS : 1 ≤ fwS e n ∧ fwS e n ≤ 63 := by unfold fwS; omega
  have hk := p10_lt (fwP e n + 348).toNat
  unfold fwU
  generalize p10hi (fwP e n + 348).toNat = H at hk
  generalize p10lo (fwP e n + 348).toNat = L at hk
  generalize fwS e n = s at hS
  have hX := hi64_lt m H hm hk.1
  have hp : (2 : Int) ≤ 2 ^ s := by
    obtain ⟨t, rfl⟩ : ∃ t, s = t + 1 := ⟨s - 1, by omega⟩
    have : (1 : Int) ≤ 2 ^ t := by
      have : 0 < (2 : Int) ^ t := Int.pow_pos (by decide)
      omega
    rw [Int.pow_succ]; omega
  obtain ⟨X, eX⟩ : ∃ X, m * H / 18446744073709551616 = X := ⟨_, rfl⟩
  rw [eX] at hX
  have key : ∀ (Y : Int) (c : Int), 0 ≤ Y → Y < 18446744073709551616 → 0 ≤ c → c ≤ 1 → orN (Y / 2 ^ s) c < 18446744073709551612 := fun Y c h0 h2 hc0 hc1 => by
    have hd0 : 0 ≤ Y / 2 ^ s := Int.ediv_nonneg h0 (by omega)
    have hd1 : Y / 2 ^ s < 9223372036854775808 := by
      rw [Int.ediv_lt_iff_lt_mul (by omega)]
      omega
    have : orN (Y / 2 ^ s) c < 2 ^ 63 := Nat.or_lt_two_pow (by omega) (by omega)
    omega
  unfold uscV
  rw [eX]
  split
  · exact key _ _ (by omega) (by omega) (by omega) (by omega)
  · split
    · exact key _ _ (by omega) (by omega) (by split <;> omega) (by split <;> omega)
    · exact key _ _ (by omega) (by omega) (by split <;> omega) (by split <;> omega)

end Go.Proofs.YtdencljnbilchaaGreatDoor

namespace Go.Proofs.YtdencljnbilchaaGreatDoor
open Go.RowKit

def SetEnd (w : World) (b : Nat) (ng : Bool) (R : Option DS) (e : Ending) (w' : World) : Prop := e = .returned (.bool R.isSome) ∧ OnlyB b w w' ∧ ∀ d, R = some d → DecS w' b ng d

def SD.ds (st : SD) : DS := ⟨st.M, st.nd, st.dp, st.tr⟩

end Go.Proofs.YtdencljnbilchaaGreatDoor
