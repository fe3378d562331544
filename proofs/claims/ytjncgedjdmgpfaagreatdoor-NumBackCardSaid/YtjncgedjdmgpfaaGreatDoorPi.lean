/- Plain: doubles taken apart; the whole part; orders. No program here. -/
import GoSem.Core.Float
import Derived.WalkKit

namespace Go.Proofs.YtjncgedjdmgpfaaGreatDoor
open Ieee

def Fm64 : Format := FloatKind.f64.format

theorem read_nan {x : Nat} (_hx : x < 18446744073709551616) (h : 9218868437227405312 < x % 9223372036854775808) : ∃ s t, FloatKind.f64.format.read x = .nan s t := by
  refine ⟨x / 9223372036854775808 % 2 == 1, x % 9223372036854775808 - 9218868437227405312, ?_⟩
  unfold Format.read
  have e1 : FloatKind.f64.format.signWeight = 9223372036854775808 := by decide
  have e2 : FloatKind.f64.format.binade = 4503599627370496 := by decide
  have e3 : FloatKind.f64.format.infRung = 9218868437227405312 := by decide
  simp only [e1, e2, e3]
  rw [if_neg (by omega), if_neg (by omega), if_neg (by omega)]

theorem read_inf {x : Nat} (h : x % 9223372036854775808 = 9218868437227405312) : FloatKind.f64.format.read x = .infinity (x / 9223372036854775808 % 2 == 1) := by
  unfold Format.read
  have e1 : FloatKind.f64.format.signWeight = 9223372036854775808 := by decide
  have e2 : FloatKind.f64.format.binade = 4503599627370496 := by decide
  have e3 : FloatKind.f64.format.infRung = 9218868437227405312 := by decide
  simp only [e1, e2, e3]
  rw [if_neg (by omega), if_neg (by omega), if_pos h]

/-- A finite number: its mantissa and its place. -/
def mgN (x : Nat) : Nat := if x % 9223372036854775808 < 4503599627370496 then x % 9223372036854775808 else 4503599627370496 + x % 9223372036854775808 % 4503599627370496
def plN (x : Nat) : Int := if x % 9223372036854775808 < 4503599627370496 then -1074 else -1074 + (x % 9223372036854775808 / 4503599627370496 - 1 : Nat)

theorem read_num {x : Nat} (h : x % 9223372036854775808 < 9218868437227405312) : FloatKind.f64.format.read x = .number (x / 9223372036854775808 % 2 == 1) (mgN x) (plN x) := by
  unfold Format.read mgN plN
  have e1 : FloatKind.f64.format.signWeight = 9223372036854775808 := by decide
  have e2 : FloatKind.f64.format.binade = 4503599627370496 := by decide
  have e3 : FloatKind.f64.format.infRung = 9218868437227405312 := by decide
  have e4 : FloatKind.f64.format.leastPlace = -1074 := by decide
  simp only [e1, e2, e3, e4]
  by_cases hb : x % 9223372036854775808 < 4503599627370496
  · rw [if_pos hb, if_pos hb, if_pos hb]
  · rw [if_neg hb, if_pos h, if_neg hb, if_neg hb]

theorem mgN_lt (x : Nat) : mgN x < 9007199254740992 := by unfold mgN; split <;> omega
theorem plN_bd (x : Nat) (h : x % 9223372036854775808 < 9218868437227405312) : -1074 ≤ plN x ∧ plN x ≤ 971 := by unfold plN; split <;> omega

/-- A number that is whole and of at most 53 digits, times a power: its rung. -/
theorem cut_low (way : Toward) (neg : Bool) (n drop : Nat) : way = .zero → way.cut neg n drop ≤ n := by
  rintro rfl
  unfold Toward.cut
  simp only [Bool.toNat_false, Nat.add_zero]
  exact Nat.div_le_self _ _

theorem log2_lt (n k : Nat) (h : n < 2 ^ k) (h0 : n ≠ 0) : n.log2 < k := (Nat.log2_lt h0).2 h

/-- The nearest word to a whole number below 2^1023 is finite. -/
theorem nearest_fin (neg : Bool) (mag : Nat) (h : mag < 9007199254740992) (e : Nat) (he : e ≤ 971) : ∃ r, r < 9218868437227405312 ∧ FloatKind.f64.format.nearest neg (mag * 2 ^ e) 0 = if neg then 9223372036854775808 + r else r := by
  have e1 : FloatKind.f64.format.signWeight = 9223372036854775808 := by decide
  have e2 : FloatKind.f64.format.binade = 4503599627370496 := by decide
  have e3 : FloatKind.f64.format.infRung = 9218868437227405312 := by decide
  have e4 : FloatKind.f64.format.leastPlace = -1074 := by decide
  have e5 : (FloatKind.f64.format.fractionBits : Int) = 52 := by decide
  unfold Format.nearest
  split
  · exact ⟨0, by omega, by unfold Format.word; rw [e1]⟩
  · rename_i h0
    have hm0 : mag ≠ 0 := fun e => h0 (by rw [e, Nat.zero_mul])
    have hlm : mag.log2 ≤ 52 := by have := log2_lt mag 53 (by simpa using h) hm0; omega
    have hlg : (mag * 2 ^ e).log2 = mag.log2 + e := by
      have h1 := Nat.log2_self_le hm0
      have h2 : mag < 2 ^ (mag.log2 + 1) := Nat.lt_log2_self
      rw [Nat.log2_eq_iff h0]
      constructor
      · rw [Nat.pow_add]; exact Nat.mul_le_mul_right _ h1
      · rw [show mag.log2 + e + 1 = mag.log2 + 1 + e by omega, Nat.pow_add]; exact Nat.mul_lt_mul_of_pos_right h2 (Nat.pow_pos (by decide))
    refine ⟨_, ?_, by unfold Format.word; rw [e1]⟩
    rw [e2, e3, e4, e5, hlg]
    obtain ⟨L, eL⟩ : ∃ L, mag.log2 = L := ⟨_, rfl⟩
    rw [eL] at hlm ⊢
    have hlast : max (0 + ((L + e : Nat) : Int) - 52) (-1074) = (L : Int) + e - 52 := by omega
    rw [hlast]
    have hlow : 2 ^ L ≤ mag := by rw [← eL]; exact Nat.log2_self_le hm0
    have hhigh : mag < 2 ^ (L + 1) := by rw [← eL]; exact Nat.lt_log2_self
    -- what is kept has 53 digits
    have kept : Toward.even.cut neg ((mag * 2 ^ e) <<< (0 - ((L : Int) + e - 52)).toNat) ((L : Int) + e - 52 - 0).toNat < 9007199254740992 := by
      rcases Nat.lt_or_ge (L + e) 52 with hlt | hge
      · have t1 : (0 - ((L : Int) + e - 52)).toNat = 52 - (L + e) := by omega
        have t2 : ((L : Int) + e - 52 - 0).toNat = 0 := by omega
        rw [t1, t2, Nat.shiftLeft_eq]
        unfold Toward.cut
        simp only [Nat.zero_min, Nat.shiftLeft_zero, Nat.div_one, Nat.mod_one]
        simp
        rw [Nat.mul_assoc, ← Nat.pow_add, show e + (52 - (L + e)) = 52 - L by omega]
        calc mag * 2 ^ (52 - L) < 2 ^ (L + 1) * 2 ^ (52 - L) := Nat.mul_lt_mul_of_pos_right hhigh (Nat.pow_pos (by decide))
          _ = 9007199254740992 := by rw [← Nat.pow_add, show L + 1 + (52 - L) = 53 by omega]
      · have t1 : (0 - ((L : Int) + e - 52)).toNat = 0 := by omega
        obtain ⟨d, hd⟩ : ∃ d, d = L + e - 52 := ⟨_, rfl⟩
        have t2 : ((L : Int) + e - 52 - 0).toNat = d := by omega
        rw [t1, t2, Nat.shiftLeft_zero]
        unfold Toward.cut
        have hlg2 : (mag * 2 ^ e).log2 = L + e := by rw [hlg, eL]
        rw [hlg2, Nat.min_eq_left (by omega), Nat.one_shiftLeft]
        -- the whole divides exactly
        have hdiv : mag * 2 ^ e % 2 ^ d = 0 := by
          have : d ≤ e := by omega
          rw [show e = (e - d) + d by omega, Nat.pow_add, ← Nat.mul_assoc]
          exact Nat.mul_mod_left _ _
        have hq : mag * 2 ^ e / 2 ^ d < 9007199254740992 := by
          have hde : d ≤ e := by omega
          rw [show e = (e - d) + d by omega, Nat.pow_add, ← Nat.mul_assoc, Nat.mul_div_cancel _ (Nat.pow_pos (by decide))]
          calc mag * 2 ^ (e - d) < 2 ^ (L + 1) * 2 ^ (e - d) := Nat.mul_lt_mul_of_pos_right hhigh (Nat.pow_pos (by decide))
            _ = 9007199254740992 := by rw [← Nat.pow_add, show L + 1 + (e - d) = 53 by omega]
        simp only [hdiv, Nat.mul_zero]
        have hp : ¬ 2 ^ d < 0 := by omega
        have hp2 : ¬ 2 ^ d = 0 := by have := Nat.pow_pos (n := d) (show 0 < 2 by decide); omega
        have hb1 : (2 ^ d == 0) = false := beq_eq_false_iff_ne.2 hp2
        simp only [hb1, Bool.false_and, decide_eq_false hp, Bool.or_self, Bool.toNat_false, Nat.add_zero]
        exact hq
    rw [Nat.min_eq_left]
    · have : ((L : Int) + e - 52 - -1074).toNat ≤ 2045 - 52 + 52 := by omega
      omega
    · omega

end Go.Proofs.YtjncgedjdmgpfaaGreatDoor
