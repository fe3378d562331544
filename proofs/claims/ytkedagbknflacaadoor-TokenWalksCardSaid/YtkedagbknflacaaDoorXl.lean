/- The walk of leftShift. Plain: shifts by any number. No program here. -/
import Derived.Test.YtkedagbknflacaaDoorXj
import Derived.Test.YtkedagbknflacaaDoorXg
import Derived.Test.YtkedagbknflacaaDoorPo
import Derived.Deep.RegionHeld

namespace Go.Proofs.YtkedagbknflacaaDoor
open Go.RowKit

structure LaidG (w : World) : Prop where
  lt : LaidT w
  ch : ∃ B o cap, w.cell? ⟨10, 0, none⟩ = some (.slice (some ⟨B, o, none⟩) 61 cap) ∧ ∀ k, k < 61 → w.cell? ⟨B, o + 2 * k, none⟩ = some (.int .i64 (Go.Pinned.cheatRows.getD k (0, [])).1) ∧ w.cell? ⟨B, o + 2 * k + 1, none⟩ = some (.string ⟨(Go.Pinned.cheatRows.getD k (0, [])).2.toArray⟩)
  pt : ∃ B o cap, w.cell? ⟨7, 0, none⟩ = some (.slice (some ⟨B, o, none⟩) 9 cap) ∧ ∀ i, i < 9 → w.cell? ⟨B, o + i, none⟩ = some (.int .i64 (powL.getD i 0))
  fi : w.cell? ⟨5, 1, none⟩ = some (.int .u64 11) ∧ w.cell? ⟨5, 2, none⟩ = some (.int .i64 (-1023))
  u10 : ∀ i, i < 20 → w.cell? ⟨11, i, none⟩ = some (.int .u64 (10 ^ i : Nat))

theorem LaidG.below {w w' : World} (h : LaidG w) (hb : Below w.heap.size w w') : LaidG w' := by
  obtain ⟨h1, ⟨B, o, cap, h2, h3⟩, ⟨B', o', cap', h4, h5⟩, h7, h6⟩ := h
  have keep : ∀ (a : Addr) (v : Value), w.cell? a = some v → w'.cell? a = some v := fun a v hv => by
    rw [hb.cell (World.block_lt_of_cell? w a hv)]; exact hv
  exact ⟨h1.below hb, ⟨B, o, cap, keep _ _ h2, fun k hk => ⟨keep _ _ (h3 k hk).1, keep _ _ (h3 k hk).2⟩⟩, ⟨B', o', cap', keep _ _ h4, fun i hi => keep _ _ (h5 i hi)⟩, ⟨keep _ _ h7.1, keep _ _ h7.2⟩, fun i hi => keep _ _ (h6 i hi)⟩

def LSInv (w wr : World) (b : Nat) (f : Nat → Nat) (nd P T : Nat) (dp : Int) (ng tr : Bool) (q : Nat) : Prop :=
  ∃ f', DecF wr b f' nd dp ng (tr || dropB P T q) ∧ (∀ i, i + q < nd → f' i = f i) ∧ putD f' P T q ∧ OnlyB b w wr

theorem lsInv_in {w wr : World} {b : Nat} {f : Nat → Nat} {nd P T : Nat} {dp : Int} {ng tr : Bool} {q : Nat} (h : LSInv w wr b f nd P T dp ng tr q) (hq : q < T) (hT : nd ≤ T) (hw : T - (q + 1) < 800) :
    LSInv w (wr.setCell ⟨b, T - (q + 1), none⟩ (.int .u8 (48 + P / 10 ^ q % 10 : Nat))) b f nd P T dp ng tr (q + 1) := by
  obtain ⟨f', h1, h2, h3, h4⟩ := h
  refine ⟨upd f' (T - (q + 1)) (48 + P / 10 ^ q % 10), ?_, fun i hi => ?_, fun j hj h5 h6 => ?_, h4.set _ _⟩
  · rw [dropB_in hw]; exact h1.setD hw _
  · rw [upd_other _ _ (by omega)]; exact h2 i (by omega)
  · by_cases e : j = T - (q + 1)
    · subst e; rw [upd_same, show T - 1 - (T - (q + 1)) = q by omega]
    · rw [upd_other _ _ e]; exact h3 j hj (by omega) h6

theorem lsInv_out0 {w wr : World} {b : Nat} {f : Nat → Nat} {nd P T : Nat} {dp : Int} {ng tr : Bool} {q : Nat} (h : LSInv w wr b f nd P T dp ng tr q) (hw : ¬ T - (q + 1) < 800) (h0 : P / 10 ^ q % 10 = 0) :
    LSInv w wr b f nd P T dp ng tr (q + 1) := by
  obtain ⟨f', h1, h2, h3, h4⟩ := h
  refine ⟨f', ?_, fun i hi => h2 i (by omega), fun j hj h5 h6 => ?_, h4⟩
  · rw [dropB_out hw, h0]; simpa using h1
  · exact absurd hj (by omega)
theorem lsInv_out1 {w wr : World} {b : Nat} {f : Nat → Nat} {nd P T : Nat} {dp : Int} {ng tr : Bool} {q : Nat} (h : LSInv w wr b f nd P T dp ng tr q) (hw : ¬ T - (q + 1) < 800) (h0 : P / 10 ^ q % 10 ≠ 0) :
    LSInv w (wr.setCell ⟨b, 803, none⟩ (.bool true)) b f nd P T dp ng tr (q + 1) := by
  obtain ⟨f', h1, h2, h3, h4⟩ := h
  refine ⟨f', ?_, fun i hi => h2 i (by omega), fun j hj h5 h6 => ?_, h4.set _ _⟩
  · rw [dropB_out hw, decide_eq_true h0, Bool.or_true, Bool.or_true]; exact h1.setTr true
  · exact absurd hj (by omega)

def ShiftEnd (w : World) (b P T : Nat) (dp : Int) (ng tr : Bool) (e : Ending) (w' : World) : Prop :=
  e = .returned (.tuple #[]) ∧ ∃ f', DecF w' b f' (shRes P T).1 (dpT (shRes P T).1 dp) ng (tr || decide (P % 10 ^ (T - 800) ≠ 0)) ∧ dgs f' (shRes P T).1 (shRes P T).2 ∧ OnlyB b w w'

theorem cheat_row (k : Nat) (h1 : 1 ≤ k) (h2 : k ≤ 60) : cheatOk k (Go.Pinned.cheatRows.getD k (0, [])) = true := by
  have := List.all_eq_true.1 cheats_ok (k - 1) (List.mem_range.2 (by omega))
  rwa [show k - 1 + 1 = k by omega] at this

end Go.Proofs.YtkedagbknflacaaDoor

namespace Go.Proofs.YtkedagbknflacaaDoor

def shlR (s : DS) (k : Nat) : DS := if 60 < k then shlR (shlS s 60) (k - 60) else shlS s k
def shrR (s : DS) (k : Nat) : DS := if 60 < k then shrR (shrS s 60) (k - 60) else shrS s k

theorem shlS_bd {s : DS} (h : s.ok) (k : Nat) : s.dp ≤ (shlS s k).dp ∧ (shlS s k).dp ≤ s.dp + k := by
  have := shlS_dp h (k := k) (a := 0) (c := k) (by simpa using Nat.one_le_two_pow) (Nat.pow_le_pow_left (by decide) k)
  omega

theorem shlR_ok (k : Nat) : ∀ (s : DS), s.ok → (shlR s k).ok ∧ s.dp ≤ (shlR s k).dp ∧ (shlR s k).dp ≤ s.dp + k := by
  induction k using Nat.strongRecOn with
  | _ k ih =>
    intro s h
    rw [shlR]
    split
    · have h1 := shlS_bd h 60
      obtain ⟨a, b, c⟩ := ih (k - 60) (by omega) _ (shlS_ok h 60).1
      exact ⟨a, by omega, by omega⟩
    · exact ⟨(shlS_ok h k).1, shlS_bd h k⟩
theorem shrR_ok (k : Nat) : ∀ (s : DS), s.ok → (shrR s k).ok ∧ s.dp - k ≤ (shrR s k).dp ∧ (shrR s k).dp ≤ s.dp := by
  induction k using Nat.strongRecOn with
  | _ k ih =>
    intro s h
    rw [shrR]
    split
    · have h1 := shrS_dp h 60
      obtain ⟨a, b, c⟩ := ih (k - 60) (by omega) _ (shrS_ok h 60).1
      exact ⟨a, by omega, by omega⟩
    · exact ⟨(shrS_ok h k).1, shrS_dp h k⟩

/-- Should it be rounded up behind i digits? -/
def sruB (s : DS) (i : Int) : Bool :=
  if i < 0 ∨ (s.nd : Int) ≤ i then false
  else if s.M / 10 ^ (s.nd - 1 - i.toNat) % 10 = 5 ∧ i.toNat + 1 = s.nd then
    (if s.tr = true then true else decide (0 < i.toNat ∧ s.M / 10 ^ (s.nd - 1 - (i.toNat - 1)) % 10 % 2 ≠ 0))
  else decide (5 ≤ s.M / 10 ^ (s.nd - 1 - i.toNat) % 10)

end Go.Proofs.YtkedagbknflacaaDoor
