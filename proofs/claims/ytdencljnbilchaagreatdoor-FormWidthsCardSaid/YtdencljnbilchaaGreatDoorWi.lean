/- The walk of readFloat, at numerals' bytes. Plain: how far readFloat reads, how great its number is. No program here. -/
import Derived.Test.YtdencljnbilchaaGreatDoorWa
import Derived.Test.YtdencljnbilchaaGreatDoorWh
import Derived.Deep.DeepCutAuto
import Derived.Deep.CutBlock

namespace Go.Proofs.YtdencljnbilchaaGreatDoor
open Go.RowKit

def lowB (c : UInt8) : UInt8 := c ||| 32

theorem lower_any (c : UInt8) (w : World) : Calls Tryz.prog 113 #[.int .u8 c.toNat] w fun e w' => e = .returned (.int .u8 (lowB c).toNat) ∧ w = w' := by
  have h := u8_or_nat c.toNat 32 (UInt8.toNat_lt c) (by omega)
  have HE : Hid (bits .or .u8 (c.toNat : Int) 32 = ((lowB c).toNat : Int)) := by
    unfold Hid lowB; rw [UInt8.toNat_or]; exact h
  clear h
  go_enter Tryz.func113, Tryz.ntmps113
  go_wp2
  go_ret
  exact ⟨ret_int HE.out, rfl⟩

def rfV (r : RFRes) : Value := .tuple #[.int .u64 r.mant, .int .i64 r.exp, .bool r.neg, .bool r.tr, .bool false, .int .i64 r.i, .bool r.ok]

theorem numCh_facts {c : UInt8} (h : c ∈ numChL) : c ≠ 95 ∧ lowB c ≠ 120 ∧ (lowB c = 101 ↔ (c = 101 ∨ c = 69)) ∧ (isDig c = false → c = 46 ∨ c = 43 ∨ c = 45 ∨ c = 69 ∨ c = 101) := by
  simp only [numChL, List.mem_cons, List.not_mem_nil, or_false] at h
  rcases h with h | h | h | h | h | h | h | h | h | h | h | h | h | h | h <;> subst h <;> decide

end Go.Proofs.YtdencljnbilchaaGreatDoor

namespace Go.Proofs.YtdencljnbilchaaGreatDoor

theorem rfLoop_len : ∀ (l : List UInt8) (st : RF), (rfLoop st l).2 ≤ l.length
  | [], _ => Nat.le_refl _
  | c :: r, st => by
    rw [rfLoop]
    cases h : rfStep st c with
    | none => simp
    | some st' => have := rfLoop_len r st'; simp only [List.length_cons]; omega

theorem eLoop_len : ∀ (l : List UInt8) (e : Nat), (eLoop e l).2 ≤ l.length
  | [], _ => Nat.le_refl _
  | c :: r, e => by
    rw [eLoop]
    split
    · have := eLoop_len r (if e < 10000 then e * 10 + (c.toNat - 48) else e); simp only [List.length_cons]; omega
    · simp

theorem rfLoop_okS : ∀ (l : List UInt8) (st : RF) (k : Nat), st.ok k → (rfLoop st l).1.ok (k + (rfLoop st l).2)
  | [], st, k, h => h
  | c :: r, st, k, h => by
    rw [rfLoop]
    cases hs : rfStep st c with
    | none => exact h
    | some st' =>
      have := rfLoop_okS r st' (k + 1) (rfStep_ok st st' k c h hs)
      dsimp only
      rwa [show k + ((rfLoop st' r).2 + 1) = k + 1 + (rfLoop st' r).2 by omega]

theorem RF.init_okS : RF.init.ok 0 := ⟨by show 0 < 1; omega, by show 0 ≤ 19; omega, Nat.le_refl _, Nat.le_refl _, by show -((0 : Nat) : Int) ≤ 0; omega, by show (0 : Int) ≤ ((0 : Nat) : Int); omega⟩

theorem sgnN_le (l : List UInt8) : sgnN l ≤ l.length := by
  unfold sgnN; split
  · cases l with
    | nil => simp at *
    | cons c r => simp
  · omega

theorem rfDone_i (ng : Bool) (st : RF) (dp : Int) (i : Nat) : (rfDone ng st dp i).i = i := rfl
theorem rfDone_mant (ng : Bool) (st : RF) (dp : Int) (i : Nat) : (rfDone ng st dp i).mant = st.mant := rfl

theorem rf_bd (l : List UInt8) : (rf l).i ≤ l.length ∧ (rf l).mant < 10000000000000000000 := by
  unfold rf
  split
  · exact ⟨Nat.zero_le _, by show 0 < 10000000000000000000; omega⟩
  · have h1 := sgnN_le l
    have h2 := rfLoop_len (l.drop (sgnN l)) .init
    have h3 := rfLoop_okS (l.drop (sgnN l)) .init 0 RF.init_okS
    rw [List.length_drop] at h2
    generalize rfLoop .init (l.drop (sgnN l)) = R at h2 h3
    generalize sgnN l = g at h1 h2
    have hm : R.1.mant < 10000000000000000000 := by
      have := h3.1
      have h19 := h3.2.1
      have := Nat.pow_le_pow_right (n := 10) (by omega) h19
      have e : (10 : Nat) ^ 19 = 10000000000000000000 := by decide
      omega
    have hh : ∀ k, (l.drop k).head? = some 101 ∨ (l.drop k).head? = some 69 → k < l.length := by
      intro k hk
      by_cases hl : k < l.length
      · exact hl
      · rw [List.drop_eq_nil_of_le (by omega)] at hk; simp at hk
    unfold rfTail
    split
    · exact ⟨by show g + R.2 ≤ _; omega, hm⟩
    · split
      · rename_i h
        have := hh _ h
        unfold rfExp
        split
        · exact ⟨by show g + R.2 + 1 ≤ _; omega, hm⟩
        · have h5 := sgnN_le (l.drop (g + R.2 + 1))
          rw [List.length_drop] at h5
          split
          · exact ⟨by show g + R.2 + 1 + _ ≤ _; omega, hm⟩
          · rw [rfDone_i, rfDone_mant]
            have h6 := eLoop_len (l.drop (g + R.2 + 1 + sgnN (l.drop (g + R.2 + 1)))) 0
            rw [List.length_drop] at h6
            exact ⟨by omega, hm⟩
      · rw [rfDone_i, rfDone_mant]; exact ⟨by omega, hm⟩

end Go.Proofs.YtdencljnbilchaaGreatDoor
