/- atof64, ParseFloat where the exact road serves. Plain: a numeral is of numerals' bytes. No program here. -/
import Derived.Test.YtdencljnbilchaaGreatDoorWi
import Derived.Test.YtdencljnbilchaaGreatDoorWl
import Derived.Test.YtdencljnbilchaaGreatDoorWh

namespace Go.Proofs.YtdencljnbilchaaGreatDoor
open Go.RowKit

theorem bool2_any (b : Bool) (w : World) : Calls Tryz.prog 136 #[.bool b] w fun e w' => e = .returned (.int .u64 (if b then 1 else 0)) ∧ w = w' := by
  cases b <;> (go_enter Tryz.func136, Tryz.ntmps136; go_wp2; go_ret; exact ⟨rfl, rfl⟩)

theorem rf_15e3 : rf [49, 46, 53, 101, 51] = ⟨15, 2, false, false, 5, true⟩ := by rfl

end Go.Proofs.YtdencljnbilchaaGreatDoor

namespace Go.Proofs.YtdencljnbilchaaGreatDoor

def allN (l : List UInt8) (n : Nat) : Prop := ∀ c ∈ l.take n, c ∈ numChL

theorem allN_zero (l : List UInt8) : allN l 0 := fun c hc => by simp at hc
theorem allN_add {l : List UInt8} {a b : Nat} (h : allN l a) (h' : allN (l.drop a) b) : allN l (a + b) := by
  intro c hc
  rw [List.take_add] at hc
  rcases List.mem_append.1 hc with hc | hc
  · exact h c hc
  · exact h' c hc
theorem dig_num (c : UInt8) (h : isDig c = true) : c ∈ numChL := by
  have hall : ∀ n : Fin 256, isDig (UInt8.ofNat n) = true → UInt8.ofNat n ∈ numChL := by decide +kernel
  have := hall ⟨c.toNat, c.toNat_lt⟩
  have e : UInt8.ofNat c.toNat = c := UInt8.toNat_inj.1 (by rw [UInt8.toNat_ofNat']; exact Nat.mod_eq_of_lt c.toNat_lt)
  simp only [e] at this
  exact this h
theorem allN_digs : ∀ l : List UInt8, allN l (nWhile isDig l)
  | [] => allN_zero _
  | c :: r => by
    unfold nWhile
    split
    · rename_i h
      intro x hx
      rw [List.take_succ_cons] at hx
      rcases List.mem_cons.1 hx with rfl | hx
      · exact dig_num _ h
      · exact allN_digs r x hx
    · exact allN_zero _
theorem allN_head {l : List UInt8} {c : UInt8} (h : l.head? = some c) (hc : c ∈ numChL) : allN l 1 := by
  cases l with
  | nil => cases h
  | cons d r =>
    cases h
    intro x hx
    simp at hx
    subst hx; exact hc
theorem allN_sgn (l : List UInt8) : allN l (sgnN l) := by
  unfold sgnN
  split
  · rename_i h
    rcases h with h | h
    · exact allN_head h (by decide)
    · exact allN_head h (by decide)
  · exact allN_zero _
theorem allN_mant (l : List UInt8) : allN l (mantN l) := by
  unfold mantN
  split
  · rename_i h
    split
    · exact allN_zero _
    · refine allN_add (allN_add (allN_digs l) (allN_head h (by decide))) ?_
      exact allN_digs _
  · exact allN_digs l
theorem allN_exp (l : List UInt8) : allN l (expN l) := by
  unfold expN
  split
  · rename_i h
    split
    · exact allN_zero _
    · refine allN_add (allN_add ?_ (allN_sgn _)) (allN_digs _)
      rcases h with h | h
      · exact allN_head h (by decide)
      · exact allN_head h (by decide)
  · exact allN_zero _
theorem allN_numeral (l : List UInt8) : allN l (numeralN l) := by
  unfold numeralN
  split
  · exact allN_zero _
  · exact allN_add (allN_mant l) (allN_exp _)

/-- The sign and the numeral behind the blanks. -/
theorem numeral_bytes (l : List UInt8) (b : Nat) : allN (l.drop b) (sgnN (l.drop b) + numeralN (l.drop (b + sgnN (l.drop b)))) := by
  refine allN_add (allN_sgn _) ?_
  rw [List.drop_drop]
  exact allN_numeral _

end Go.Proofs.YtdencljnbilchaaGreatDoor
