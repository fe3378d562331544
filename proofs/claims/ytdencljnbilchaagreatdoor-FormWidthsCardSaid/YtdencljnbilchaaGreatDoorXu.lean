/- ParseFloat, num.Prefix, whatever the text. Finite numbers, their whole part, their order. -/
import Derived.Test.YtdencljnbilchaaGreatDoorXt
import Derived.Test.YtdencljnbilchaaGreatDoorXa
import Derived.Test.YtdencljnbilchaaGreatDoorWl
import Derived.Test.YtdencljnbilchaaGreatDoorWm
import Derived.Test.YtdencljnbilchaaGreatDoorPi

namespace Go.Proofs.YtdencljnbilchaaGreatDoor
open Go.RowKit

end Go.Proofs.YtdencljnbilchaaGreatDoor

namespace Go.Proofs.YtdencljnbilchaaGreatDoor
open Ieee

def finN (x : Nat) : Prop := x % 9223372036854775808 < 9218868437227405312

theorem truncN_fin {x : Nat} (hx : x < 18446744073709551616) (h : finN x) : ∃ r, r < 9218868437227405312 ∧ truncN x = if 9223372036854775808 ≤ x then 9223372036854775808 + r else r := by
  have hr := read_num h
  have hm := mgN_lt x
  have hp := plN_bd x h
  have hs : (x / 9223372036854775808 % 2 == 1) = decide (9223372036854775808 ≤ x) := by
    by_cases h9 : 9223372036854775808 ≤ x
    · rw [decide_eq_true h9, beq_iff_eq]; omega
    · rw [decide_eq_false h9, beq_eq_false_iff_ne]; omega
  rw [hs] at hr
  have e : truncN x = FloatKind.f64.format.nearest (decide (9223372036854775808 ≤ x)) (Toward.zero.cut (decide (9223372036854775808 ≤ x)) (mgN x <<< (plN x).toNat) (-(plN x)).toNat) 0 := by
    unfold truncN FloatKind.encode FloatKind.decode
    rw [hr]; rfl
  obtain ⟨m, k, hm', hk, hc⟩ : ∃ m k, m < 9007199254740992 ∧ k ≤ 971 ∧ Toward.zero.cut (decide (9223372036854775808 ≤ x)) (mgN x <<< (plN x).toNat) (-(plN x)).toNat = m * 2 ^ k := by
    by_cases h0 : plN x < 0
    · refine ⟨_, 0, ?_, by omega, by rw [Nat.pow_zero, Nat.mul_one]⟩
      have := cut_low .zero (decide (9223372036854775808 ≤ x)) (mgN x <<< (plN x).toNat) (-(plN x)).toNat rfl
      rw [show (plN x).toNat = 0 by omega, Nat.shiftLeft_zero] at this ⊢
      omega
    · refine ⟨mgN x, (plN x).toNat, hm, by omega, ?_⟩
      rw [show (-(plN x)).toNat = 0 by omega, Nat.shiftLeft_eq]
      unfold Toward.cut
      simp
  rw [hc] at e
  obtain ⟨r, hr1, hr2⟩ := nearest_fin (decide (9223372036854775808 ≤ x)) m hm' k hk
  refine ⟨r, hr1, ?_⟩
  rw [e, hr2]
  by_cases h9 : 9223372036854775808 ≤ x
  · rw [if_pos h9, if_pos (decide_eq_true h9)]
  · rw [if_neg h9, if_neg (by simpa using h9)]

theorem cmp_lt {a b : Int} (h : a < b) : compare a b = .lt := by simp [compare, compareOfLessAndEq, h]
theorem cmp_eq (a : Int) : compare a a = .eq := by simp [compare, compareOfLessAndEq]
theorem cmp_gt {a b : Int} (h : b < a) : compare a b = .gt := by
  have h1 : ¬ a < b := by omega
  have h2 : ¬ a = b := by omega
  simp [compare, compareOfLessAndEq, h1, h2]

theorem signed_t (m k : Nat) : signed true m k = -((m * 2 ^ k : Nat) : Int) := by unfold signed; simp [Nat.shiftLeft_eq]
theorem signed_f (m k : Nat) : signed false m k = ((m * 2 ^ k : Nat) : Int) := by unfold signed; simp [Nat.shiftLeft_eq]
theorem signed_le (s : Bool) (m k : Nat) : -((m * 2 ^ k : Nat) : Int) ≤ signed s m k ∧ signed s m k ≤ ((m * 2 ^ k : Nat) : Int) := by
  cases s
  · rw [signed_f]; omega
  · rw [signed_t]; omega

theorem read_maxF : FloatKind.f64.format.read 9218868437227405311 = .number false 9007199254740991 971 := by kernel_rfl
theorem read_minF : FloatKind.f64.format.read 18442240474082181119 = .number true 9007199254740991 971 := by kernel_rfl
theorem read_1e16 : FloatKind.f64.format.read 4846369599423283200 = .number false 5000000000000000 1 := by kernel_rfl
theorem read_m1e16 : FloatKind.f64.format.read 14069741636278059008 = .number true 5000000000000000 1 := by kernel_rfl

theorem order_num {x y : Nat} {s t : Bool} {m n : Nat} {i j : Int} (hx : FloatKind.f64.format.read x = .number s m i) (hy : FloatKind.f64.format.read y = .number t n j) :
    FloatKind.f64.format.order x y = some (compare (signed s m (i - min i j).toNat) (signed t n (j - min i j).toNat)) := by
  unfold Format.order; rw [hx, hy]; rfl

theorem big_le (m k : Nat) (h : m < 9007199254740992) : m * 2 ^ 0 ≤ 9007199254740991 * 2 ^ k := by
  have : 1 ≤ 2 ^ k := Nat.one_le_two_pow
  rw [Nat.pow_zero, Nat.mul_one]
  calc m ≤ 9007199254740991 * 1 := by omega
    _ ≤ 9007199254740991 * 2 ^ k := Nat.mul_le_mul_left _ this

theorem order_maxF {x : Nat} (h : finN x) : FloatKind.f64.format.order x 9218868437227405311 = some .lt ∨ FloatKind.f64.format.order x 9218868437227405311 = some .eq := by
  have hp := plN_bd x h
  rw [order_num (read_num h) read_maxF, Int.min_eq_left hp.2, show (plN x - plN x).toNat = 0 by omega, signed_f]
  have h1 := (signed_le (x / 9223372036854775808 % 2 == 1) (mgN x) 0).2
  have h2 := big_le (mgN x) (971 - plN x).toNat (mgN_lt x)
  rcases Int.lt_or_eq_of_le (Int.le_trans h1 (Int.ofNat_le.2 h2)) with h3 | h3
  · left; rw [cmp_lt h3]
  · right; rw [h3, cmp_eq]
theorem order_minF {x : Nat} (h : finN x) : FloatKind.f64.format.order x 18442240474082181119 = some .gt ∨ FloatKind.f64.format.order x 18442240474082181119 = some .eq := by
  have hp := plN_bd x h
  rw [order_num (read_num h) read_minF, Int.min_eq_left hp.2, show (plN x - plN x).toNat = 0 by omega, signed_t]
  have h1 := (signed_le (x / 9223372036854775808 % 2 == 1) (mgN x) 0).1
  have h2 := big_le (mgN x) (971 - plN x).toNat (mgN_lt x)
  have h4 : -((9007199254740991 * 2 ^ (971 - plN x).toNat : Nat) : Int) ≤ signed (x / 9223372036854775808 % 2 == 1) (mgN x) 0 := Int.le_trans (Int.neg_le_neg (Int.ofNat_le.2 h2)) h1
  rcases Int.lt_or_eq_of_le h4 with h3 | h3
  · left; rw [cmp_gt h3]
  · right; rw [← h3, cmp_eq]

theorem flip_mod (x : Nat) : (x ^^^ 9223372036854775808) % 9223372036854775808 = x % 9223372036854775808 := by
  have h : (x ^^^ 2 ^ 63) % 2 ^ 63 = x % 2 ^ 63 ^^^ 2 ^ 63 % 2 ^ 63 := Nat.xor_mod_two_pow
  have e : (2 : Nat) ^ 63 = 9223372036854775808 := by decide
  rw [e] at h
  rw [h, Nat.mod_self, Nat.xor_zero]
theorem fin_flip {x : Nat} (h : finN x) : finN (x ^^^ 9223372036854775808) := by unfold finN; rw [flip_mod]; exact h

theorem infP_fin {x : Nat} (h : finN x) : infP x = false := by
  unfold infP; rcases order_maxF h with e | e <;> rw [e] <;> rfl
theorem infM_fin {x : Nat} (h : finN x) : infM x = false := by
  unfold infM; rcases order_maxF (fin_flip h) with e | e <;> rw [e] <;> rfl
theorem nanB_fin {x : Nat} (h : finN x) : nanB x = false := by
  unfold nanB; rw [order_num (read_num h) (read_num h), cmp_eq]; rfl

theorem nan_order {x : Nat} (hx : x < 18446744073709551616) (h : 9218868437227405312 < x % 9223372036854775808) (y : Nat) : FloatKind.f64.format.order x y = none := by
  obtain ⟨s, t, e⟩ := read_nan hx h
  unfold Format.order; rw [e]; rfl

/-- What a double is: finite, an infinity, none. -/
theorem class3 (x : Nat) (hx : x < 18446744073709551616) : finN x ∨ x = 9218868437227405312 ∨ x = 18442240474082181120 ∨ 9218868437227405312 < x % 9223372036854775808 := by
  unfold finN; omega

/-- Is a finite number less than 1e16, without its sign? -/
def ltB (x : Nat) : Bool := FloatKind.f64.format.order (absN x) 4846369599423283200 == some .lt

theorem absN_fin {x : Nat} (h : finN x) : finN (absN x) ∧ mgN (absN x) = mgN x ∧ plN (absN x) = plN x ∧ (absN x / 9223372036854775808 % 2 == 1) = false := by
  have e : absN x = x % 9223372036854775808 := rfl
  rw [e]
  unfold finN mgN plN at *
  rw [Nat.mod_mod]
  refine ⟨h, rfl, rfl, ?_⟩
  rw [beq_eq_false_iff_ne]
  omega

theorem whole_orders {x : Nat} (h : finN x) :
    (ltB x = true ∧ FloatKind.f64.format.order x 14069741636278059008 = some .gt ∧ FloatKind.f64.format.order x 4846369599423283200 = some .lt) ∨
    (ltB x = false ∧ ((FloatKind.f64.format.order x 14069741636278059008 == some .gt) = false ∨ (FloatKind.f64.format.order x 4846369599423283200 == some .lt) = false)) := by
  obtain ⟨h1, h2, h3, h4⟩ := absN_fin h
  unfold ltB
  rw [order_num (read_num h1) read_1e16, order_num (read_num h) read_1e16, order_num (read_num h) read_m1e16, h2, h3, h4, signed_f, signed_f, signed_t]
  obtain ⟨a, ea⟩ : ∃ a : Nat, mgN x * 2 ^ (plN x - min (plN x) 1).toNat = a := ⟨_, rfl⟩
  obtain ⟨b, eb⟩ : ∃ b : Nat, 5000000000000000 * 2 ^ (1 - min (plN x) 1).toNat = b := ⟨_, rfl⟩
  have hb : 0 < b := by rw [← eb]; exact Nat.mul_pos (by decide) (Nat.pow_pos (by decide))
  cases hs : (x / 9223372036854775808 % 2 == 1) with
  | true =>
    rw [signed_t, ea, eb]
    by_cases hab : a < b
    · left
      rw [cmp_lt (show (a : Int) < b by omega), cmp_gt (show -(b : Int) < -(a : Int) by omega), cmp_lt (show -(a : Int) < (b : Int) by omega)]
      exact ⟨rfl, rfl, rfl⟩
    · right
      refine ⟨?_, .inl ?_⟩
      · rcases Nat.lt_or_eq_of_le (Nat.le_of_not_lt hab) with h5 | h5
        · rw [cmp_gt (show (b : Int) < a by omega)]; rfl
        · rw [h5, cmp_eq]; rfl
      · rcases Nat.lt_or_eq_of_le (Nat.le_of_not_lt hab) with h5 | h5
        · rw [cmp_lt (show -(a : Int) < -(b : Int) by omega)]; rfl
        · rw [h5, cmp_eq]; rfl
  | false =>
    rw [signed_f, ea, eb]
    by_cases hab : a < b
    · left
      rw [cmp_lt (show (a : Int) < b by omega), cmp_gt (show -(b : Int) < (a : Int) by omega)]
      exact ⟨rfl, rfl, rfl⟩
    · right
      refine ⟨?_, .inr ?_⟩ <;>
      · rcases Nat.lt_or_eq_of_le (Nat.le_of_not_lt hab) with h5 | h5
        · rw [cmp_gt (show (b : Int) < a by omega)]; rfl
        · rw [h5, cmp_eq]; rfl

end Go.Proofs.YtdencljnbilchaaGreatDoor
