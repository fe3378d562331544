/- Plain: doubles taken apart; the whole part; orders. No program here. Plain: whole numbers as doubles. No program here. Plain: bits of doubles put together. No program here. Plain: whole parts of doubles, however great. No program here. -/
import GoSem.Core.Float
import Derived.WalkKit

namespace Go.Proofs.YtdencljnbilchaaGreatDoor
open Ieee

def Fm64 : Format := FloatKind.f64.format

theorem read_nan {x : Nat} (_hx : x < 18446744073709551616) (h : 9218868437227405312 < x % 9223372036854775808) : ∃ s t, FloatKind.f64.format.read x = .nan s t := by
  refine ⟨x / 9223372036854775808 % 2 == 1, x % 9223372036854775808 - 9218868437227405312, ?_⟩
  unfold Format.read
  have e1 : FloatKind.f64.format.signWeight = 9223372036854775808 := by decide
  have e2 : FloatKind.f64.format.binade = 4503599627370496 := by decide
  have e3 : FloatKind.f64.format.infRung = 9218868437227405312 := by decide
  simp only [e1, e2, e3]
  rw [if_neg (by omega), if_neg (by omega), if_neg (by omega)]

theorem read_inf {x : Nat} (h : x % 9223372036854775808 = 9218868437227405312) : FloatKind.f64.format.read x = .infinity (x / 9223372036854775808 % 2 == 1) := by
  unfold Format.read
  have e1 : FloatKind.f64.format.signWeight = 9223372036854775808 := by decide
  have e2 : FloatKind.f64.format.binade = 4503599627370496 := by decide
  have e3 : FloatKind.f64.format.infRung = 9218868437227405312 := by decide
  simp only [e1, e2, e3]
  rw [if_neg (by omega), if_neg (by omega), if_pos h]

/-- A finite number: its mantissa and its place. -/
def mgN (x : Nat) : Nat := if x % 9223372036854775808 < 4503599627370496 then x % 9223372036854775808 else 4503599627370496 + x % 9223372036854775808 % 4503599627370496
def plN (x : Nat) : Int := if x % 9223372036854775808 < 4503599627370496 then -1074 else -1074 + (x % 9223372036854775808 / 4503599627370496 - 1 : Nat)

theorem read_num {x : Nat} (h : x % 9223372036854775808 < 9218868437227405312) : FloatKind.f64.format.read x = .number (x / 9223372036854775808 % 2 == 1) (mgN x) (plN x) := by
  unfold Format.read mgN plN
  have e1 : FloatKind.f64.format.signWeight = 9223372036854775808 := by decide
  have e2 : FloatKind.f64.format.binade = 4503599627370496 := by decide
  have e3 : FloatKind.f64.format.infRung = 9218868437227405312 := by decide
  have e4 : FloatKind.f64.format.leastPlace = -1074 := by decide
  simp only [e1, e2, e3, e4]
  by_cases hb : x % 9223372036854775808 < 4503599627370496
  · rw [if_pos hb, if_pos hb, if_pos hb]
  · rw [if_neg hb, if_pos h, if_neg hb, if_neg hb]

theorem mgN_lt (x : Nat) : mgN x < 9007199254740992 := by unfold mgN; split <;> omega
theorem plN_bd (x : Nat) (h : x % 9223372036854775808 < 9218868437227405312) : -1074 ≤ plN x ∧ plN x ≤ 971 := by unfold plN; split <;> omega

/-- A number that is whole and of at most 53 digits, times a power: its rung. -/
theorem cut_low (way : Toward) (neg : Bool) (n drop : Nat) : way = .zero → way.cut neg n drop ≤ n := by
  rintro rfl
  unfold Toward.cut
  simp only [Bool.toNat_false, Nat.add_zero]
  exact Nat.div_le_self _ _

theorem log2_lt (n k : Nat) (h : n < 2 ^ k) (h0 : n ≠ 0) : n.log2 < k := (Nat.log2_lt h0).2 h

/-- The nearest word to a whole number below 2^1023 is finite. -/
theorem nearest_fin (neg : Bool) (mag : Nat) (h : mag < 9007199254740992) (e : Nat) (he : e ≤ 971) : ∃ r, r < 9218868437227405312 ∧ FloatKind.f64.format.nearest neg (mag * 2 ^ e) 0 = if neg then 9223372036854775808 + r else r := by
  have e1 : FloatKind.f64.format.signWeight = 9223372036854775808 := by decide
  have e2 : FloatKind.f64.format.binade = 4503599627370496 := by decide
  have e3 : FloatKind.f64.format.infRung = 9218868437227405312 := by decide
  have e4 : FloatKind.f64.format.leastPlace = -1074 := by decide
  have e5 : (FloatKind.f64.format.fractionBits : Int) = 52 := by decide
  unfold Format.nearest
  split
  · exact ⟨0, by omega, by unfold Format.word; rw [e1]⟩
  · rename_i h0
    have hm0 : mag ≠ 0 := fun e => h0 (by rw [e, Nat.zero_mul])
    have hlm : mag.log2 ≤ 52 := by have := log2_lt mag 53 (by simpa using h) hm0; omega
    have hlg : (mag * 2 ^ e).log2 = mag.log2 + e := by
      have h1 := Nat.log2_self_le hm0
      have h2 : mag < 2 ^ (mag.log2 + 1) := Nat.lt_log2_self
      rw [Nat.log2_eq_iff h0]
      constructor
      · rw [Nat.pow_add]; exact Nat.mul_le_mul_right _ h1
      · rw [show mag.log2 + e + 1 = mag.log2 + 1 + e by omega, Nat.pow_add]; exact Nat.mul_lt_mul_of_pos_right h2 (Nat.pow_pos (by decide))
    refine ⟨_, ?_, by unfold Format.word; rw [e1]⟩
    rw [e2, e3, e4, e5, hlg]
    obtain ⟨L, eL⟩ : ∃ L, mag.log2 = L := ⟨_, rfl⟩
    rw [eL] at hlm ⊢
    have hlast : max (0 + ((L + e : Nat) : Int) - 52) (-1074) = (L : Int) + e - 52 := by omega
    rw [hlast]
    have hlow : 2 ^ L ≤ mag := by rw [← eL]; exact Nat.log2_self_le hm0
    have hhigh : mag < 2 ^ (L + 1) := by rw [← eL]; exact Nat.lt_log2_self
    -- what is kept has 53 digits
    have kept : Toward.even.cut neg ((mag * 2 ^ e) <<< (0 - ((L : Int) + e - 52)).toNat) ((L : Int) + e - 52 - 0).toNat < 9007199254740992 := by
      rcases Nat.lt_or_ge (L + e) 52 with hlt | hge
      · have t1 : (0 - ((L : Int) + e - 52)).toNat = 52 - (L + e) := by omega
        have t2 : ((L : Int) + e - 52 - 0).toNat = 0 := by omega
        rw [t1, t2, Nat.shiftLeft_eq]
        unfold Toward.cut
        simp only [Nat.zero_min, Nat.shiftLeft_zero, Nat.div_one, Nat.mod_one]
        simp
        rw [Nat.mul_assoc, ← Nat.pow_add, show e + (52 - (L + e)) = 52 - L by omega]
        calc mag * 2 ^ (52 - L) < 2 ^ (L + 1) * 2 ^ (52 - L) := Nat.mul_lt_mul_of_pos_right hhigh (Nat.pow_pos (by decide))
          _ = 9007199254740992 := by rw [← Nat.pow_add, show L + 1 + (52 - L) = 53 by omega]
      · have t1 : (0 - ((L : Int) + e - 52)).toNat = 0 := by omega
        obtain ⟨d, hd⟩ : ∃ d, d = L + e - 52 := ⟨_, rfl⟩
        have t2 : ((L : Int) + e - 52 - 0).toNat = d := by omega
        rw [t1, t2, Nat.shiftLeft_zero]
        unfold Toward.cut
        have hlg2 : (mag * 2 ^ e).log2 = L + e := by rw [hlg, eL]
        rw [hlg2, Nat.min_eq_left (by omega), Nat.one_shiftLeft]
        -- the whole divides exactly
        have hdiv : mag * 2 ^ e % 2 ^ d = 0 := by
          have : d ≤ e := by omega
          rw [show e = (e - d) + d by omega, Nat.pow_add, ← Nat.mul_assoc]
          exact Nat.mul_mod_left _ _
        have hq : mag * 2 ^ e / 2 ^ d < 9007199254740992 := by
          have hde : d ≤ e := by omega
          rw [show e = (e - d) + d by omega, Nat.pow_add, ← Nat.mul_assoc, Nat.mul_div_cancel _ (Nat.pow_pos (by decide))]
          calc mag * 2 ^ (e - d) < 2 ^ (L + 1) * 2 ^ (e - d) := Nat.mul_lt_mul_of_pos_right hhigh (Nat.pow_pos (by decide))
            _ = 9007199254740992 := by rw [← Nat.pow_add, show L + 1 + (e - d) = 53 by omega]
        simp only [hdiv, Nat.mul_zero]
        have hp : ¬ 2 ^ d < 0 := by omega
        have hp2 : ¬ 2 ^ d = 0 := by have := Nat.pow_pos (n := d) (show 0 < 2 by decide); omega
        have hb1 : (2 ^ d == 0) = false := beq_eq_false_iff_ne.2 hp2
        simp only [hb1, Bool.false_and, decide_eq_false hp, Bool.or_self, Bool.toNat_false, Nat.add_zero]
        exact hq
    rw [Nat.min_eq_left]
    · have : ((L : Int) + e - 52 - -1074).toNat ≤ 2045 - 52 + 52 := by omega
      omega
    · omega

end Go.Proofs.YtdencljnbilchaaGreatDoor

namespace Go.Proofs.YtdencljnbilchaaGreatDoor
open Ieee

/-- A whole number X, as M and E say. -/
structure WholeX (X M E : Nat) : Prop where
  m1 : 4503599627370496 ≤ M
  m2 : M < 9007199254740992
  e : X * 4503599627370496 = M * 2 ^ E

theorem WholeX.lt {X M E : Nat} (h : WholeX X M E) : X < 2 ^ (E + 1) ∧ 2 ^ E ≤ X := by
  obtain ⟨h1, h2, h3⟩ := h
  have hp : 0 < 2 ^ E := Nat.pow_pos (by decide)
  constructor
  · rw [Nat.pow_succ]
    refine Nat.lt_of_mul_lt_mul_right (a := 4503599627370496) ?_
    rw [h3]
    have : M * 2 ^ E < 9007199254740992 * 2 ^ E := Nat.mul_lt_mul_of_pos_right h2 hp
    omega
  · refine Nat.le_of_mul_le_mul_right (c := 4503599627370496) ?_ (by decide)
    rw [h3, Nat.mul_comm]
    exact Nat.mul_le_mul_right _ h1

theorem WholeX.pos {X M E : Nat} (h : WholeX X M E) : 0 < X := Nat.lt_of_lt_of_le (Nat.pow_pos (by decide)) h.lt.2

theorem WholeX.log {X M E : Nat} (h : WholeX X M E) : X.log2 = E := by
  rw [Nat.log2_eq_iff (by have := h.pos; omega)]
  exact ⟨h.lt.2, h.lt.1⟩

theorem WholeX.small {X M E : Nat} (h : WholeX X M E) (hE : E ≤ 52) : X * 2 ^ (52 - E) = M := by
  have hp : 0 < 2 ^ E := Nat.pow_pos (by decide)
  refine Nat.eq_of_mul_eq_mul_right hp ?_
  rw [Nat.mul_assoc, ← Nat.pow_add, show 52 - E + E = 52 by omega, ← h.e]
theorem WholeX.big {X M E : Nat} (h : WholeX X M E) (hE : 52 ≤ E) : X = M * 2 ^ (E - 52) := by
  refine Nat.eq_of_mul_eq_mul_right (show 0 < 4503599627370496 by decide) ?_
  have e52 : (4503599627370496 : Nat) = 2 ^ 52 := by decide
  rw [h.e, Nat.mul_assoc, e52, ← Nat.pow_add, show E - 52 + 52 = E by omega]

def rungX (M E : Nat) : Nat := (E + 1022) * 4503599627370496 + M
def wordX (neg : Bool) (M E : Nat) : Nat := if neg = true then 9223372036854775808 + rungX M E else rungX M E

theorem even_zero (neg : Bool) (n : Nat) : Toward.even.cut neg n 0 = n := by
  unfold Toward.cut
  simp [Nat.mod_one]

theorem even_exact (neg : Bool) (m d : Nat) (hd : d ≤ (m * 2 ^ d).log2 + 2) : Toward.even.cut neg (m * 2 ^ d) d = m := by
  unfold Toward.cut
  rw [Nat.min_eq_left hd, Nat.one_shiftLeft]
  have hp2 : ¬ 2 ^ d = 0 := by have := Nat.pow_pos (n := d) (show 0 < 2 by decide); omega
  have hb1 : (2 ^ d == 0) = false := beq_eq_false_iff_ne.2 hp2
  have hlt : ¬ (2 : Nat) ^ d < 0 := Nat.not_lt_zero _
  simp only [Nat.mul_mod_left, Nat.mul_zero, hb1, Bool.false_and, decide_eq_false hlt, Bool.or_self, Bool.toNat_false, Nat.add_zero]
  exact Nat.mul_div_cancel _ (Nat.pow_pos (by decide))

theorem nearest_int (neg : Bool) {X M E : Nat} (h : WholeX X M E) (hE : E ≤ 971) : FloatKind.f64.format.nearest neg X 0 = wordX neg M E := by
  have e1 : FloatKind.f64.format.signWeight = 9223372036854775808 := by decide
  have e2 : FloatKind.f64.format.binade = 4503599627370496 := by decide
  have e3 : FloatKind.f64.format.infRung = 9218868437227405312 := by decide
  have e4 : FloatKind.f64.format.leastPlace = -1074 := by decide
  have e5 : (FloatKind.f64.format.fractionBits : Int) = 52 := by decide
  have hlast : max (0 + (E : Int) - 52) (-1074) = (E : Int) - 52 := by omega
  have hk : Toward.even.cut neg (X <<< (0 - ((E : Int) - 52)).toNat) ((E : Int) - 52 - 0).toNat = M := by
    rcases Nat.lt_or_ge E 52 with hlt | hge
    · rw [show (0 - ((E : Int) - 52)).toNat = 52 - E by omega, show ((E : Int) - 52 - 0).toNat = 0 by omega, even_zero, Nat.shiftLeft_eq]
      exact h.small (by omega)
    · rw [show (0 - ((E : Int) - 52)).toNat = 0 by omega, show ((E : Int) - 52 - 0).toNat = E - 52 by omega, Nat.shiftLeft_zero]
      have hb := h.big hge
      have hl := h.log
      rw [hb] at hl ⊢
      exact even_exact neg M (E - 52) (by rw [hl]; omega)
  unfold Format.nearest Format.word
  rw [if_neg (by have := h.pos; omega), e1, e2, e3, e4, e5, h.log]
  simp only [hlast, hk]
  have hr : ((E : Int) - 52 - -1074).toNat * 4503599627370496 + M = rungX M E := by unfold rungX; rw [show ((E : Int) - 52 - -1074).toNat = E + 1022 by omega]
  rw [hr, Nat.min_eq_left (by unfold rungX; have := h.m2; omega)]
  rfl

theorem carry_rung (L : Nat) : (L + 1022) * 4503599627370496 + 9007199254740992 = (L + 1 + 1022) * 4503599627370496 + 4503599627370496 := by
  have e : L + 1 + 1022 = (L + 1022) + 1 := by omega
  rw [e, Nat.add_mul (L + 1022) 1, Nat.one_mul, Nat.add_assoc]

set_option maxHeartbeats 1600000 in
/-- A whole number of at most 64 digits is rounded to a whole number. -/
theorem nearest_round (neg : Bool) (N : Nat) (h0 : N ≠ 0) (hN : N ≤ 9223372036854775808) : ∃ X M E, WholeX X M E ∧ E ≤ 63 ∧ (E = 63 → M = 4503599627370496) ∧ FloatKind.f64.format.nearest neg N 0 = wordX neg M E := by
  obtain ⟨L, eL⟩ : ∃ L, N.log2 = L := ⟨_, rfl⟩
  have hlow : 2 ^ L ≤ N := by rw [← eL]; exact Nat.log2_self_le h0
  have hhigh : N < 2 ^ (L + 1) := by rw [← eL]; exact Nat.lt_log2_self
  have e63 : (9223372036854775808 : Nat) = 2 ^ 63 := by decide
  have e52 : (4503599627370496 : Nat) = 2 ^ 52 := by decide
  have hL : L ≤ 63 := (Nat.pow_le_pow_iff_right (a := 2) (by decide)).1 (by rw [← e63]; omega)
  rcases Nat.lt_or_ge 52 L with h52 | h52
  · -- what is over is rounded
    obtain ⟨d, hd⟩ : ∃ d, L = d + 52 := ⟨L - 52, by omega⟩
    have hp : 0 < 2 ^ d := Nat.pow_pos (by decide)
    have hlo : 4503599627370496 ≤ N / 2 ^ d := by
      rw [Nat.le_div_iff_mul_le hp, e52, ← Nat.pow_add, show 52 + d = L by omega]; exact hlow
    have hhi : N / 2 ^ d < 9007199254740992 := by
      rw [Nat.div_lt_iff_lt_mul hp, show (9007199254740992 : Nat) = 2 ^ 53 by decide, ← Nat.pow_add, show 53 + d = L + 1 by omega]; exact hhigh
    obtain ⟨b, hb⟩ : ∃ b : Bool, Toward.even.cut neg N d = N / 2 ^ d + b.toNat ∧ (N % 2 ^ d = 0 → b = false) := by
      unfold Toward.cut
      rw [eL, Nat.min_eq_left (by omega), Nat.one_shiftLeft]
      refine ⟨_, rfl, fun hr => ?_⟩
      have hp2 : ¬ 2 ^ d = 0 := by omega
      have hb1 : (2 ^ d == 0) = false := beq_eq_false_iff_ne.2 hp2
      have hlt : ¬ (2 : Nat) ^ d < 0 := Nat.not_lt_zero _
      simp only [hr, Nat.mul_zero, hb1, Bool.false_and, decide_eq_false hlt, Bool.or_self]
    have key : FloatKind.f64.format.nearest neg N 0 = (if neg = true then 9223372036854775808 + ((L + 1022) * 4503599627370496 + (N / 2 ^ d + b.toNat)) else (L + 1022) * 4503599627370496 + (N / 2 ^ d + b.toNat)) := by
      have e1 : FloatKind.f64.format.signWeight = 9223372036854775808 := by decide
      have e2 : FloatKind.f64.format.binade = 4503599627370496 := by decide
      have e3 : FloatKind.f64.format.infRung = 9218868437227405312 := by decide
      have e4 : FloatKind.f64.format.leastPlace = -1074 := by decide
      have e5 : (FloatKind.f64.format.fractionBits : Int) = 52 := by decide
      have hlast : max (0 + (L : Int) - 52) (-1074) = (L : Int) - 52 := by omega
      have hb1 : b.toNat ≤ 1 := by cases b <;> decide
      unfold Format.nearest Format.word
      rw [if_neg h0, e1, e2, e3, e4, e5, eL]
      simp only [hlast]
      rw [show (0 - ((L : Int) - 52)).toNat = 0 by omega, show ((L : Int) - 52 - 0).toNat = d by omega, Nat.shiftLeft_zero, hb.1, show ((L : Int) - 52 - -1074).toNat = L + 1022 by omega, Nat.min_eq_left (by omega)]
      
    by_cases hc : N / 2 ^ d + b.toNat < 9007199254740992
    · refine ⟨(N / 2 ^ d + b.toNat) * 2 ^ d, N / 2 ^ d + b.toNat, L, ⟨by omega, hc, ?_⟩, hL, fun h63 => ?_, key⟩
      · rw [e52, Nat.mul_assoc, ← Nat.pow_add, hd]
      · subst h63
        have hN2 : N = 9223372036854775808 := by rw [← e63] at hlow; omega
        have hd11 : d = 11 := by omega
        have e11 : (2 : Nat) ^ d = 2048 := by rw [hd11]
        have hz : N % 2 ^ d = 0 := by rw [e11]; omega
        have hbf := hb.2 hz
        rw [hbf, e11, hN2]; rfl
    · have hk : N / 2 ^ d + b.toNat = 9007199254740992 := by
        have : b.toNat ≤ 1 := by cases b <;> decide
        omega
      have hL62 : L + 1 ≤ 63 := by
        rcases Nat.lt_or_ge L 63 with h | h
        · omega
        · exfalso
          obtain rfl : L = 63 := by omega
          have hN2 : N = 9223372036854775808 := by rw [← e63] at hlow; omega
          have hd11 : d = 11 := by omega
          have e11 : (2 : Nat) ^ d = 2048 := by rw [hd11]
          have hz : N % 2 ^ d = 0 := by rw [e11]; omega
          have hbf := hb.2 hz
          rw [hbf, e11] at hk
          have : (false : Bool).toNat = 0 := rfl
          omega
      refine ⟨4503599627370496 * 2 ^ (d + 1), 4503599627370496, L + 1, ⟨by omega, by omega, ?_⟩, hL62, fun _ => rfl, ?_⟩
      · have e3 : 2 ^ (d + 1) * 4503599627370496 = 2 ^ (L + 1) := by rw [e52, ← Nat.pow_add, show d + 1 + 52 = L + 1 by omega]
        rw [Nat.mul_assoc, e3]
      · have e : (L + 1022) * 4503599627370496 + 9007199254740992 = (L + 1 + 1022) * 4503599627370496 + 4503599627370496 := carry_rung L
        rw [key, hk, e]; rfl
  · -- it fits
    have hX : WholeX N (N * 2 ^ (52 - L)) L := by
      refine ⟨?_, ?_, ?_⟩
      · calc 4503599627370496 = 2 ^ L * 2 ^ (52 - L) := by rw [← Nat.pow_add, show L + (52 - L) = 52 by omega]
          _ ≤ N * 2 ^ (52 - L) := Nat.mul_le_mul_right _ hlow
      · calc N * 2 ^ (52 - L) < 2 ^ (L + 1) * 2 ^ (52 - L) := Nat.mul_lt_mul_of_pos_right hhigh (Nat.pow_pos (by decide))
          _ = 9007199254740992 := by rw [← Nat.pow_add, show L + 1 + (52 - L) = 53 by omega]
      · rw [Nat.mul_assoc, ← Nat.pow_add, show 52 - L + L = 52 by omega]
    exact ⟨N, _, L, hX, hL, fun h63 => by omega, nearest_int neg hX (by omega)⟩

end Go.Proofs.YtdencljnbilchaaGreatDoor

namespace Go.Proofs.YtdencljnbilchaaGreatDoor

theorem e52n : (2 : Nat) ^ 52 = 4503599627370496 := by decide

theorem by_parts (a b : Nat) (h1 : a / 2 ^ 52 = b / 2 ^ 52) (h2 : a % 2 ^ 52 = b % 2 ^ 52) : a = b := by
  rw [← Nat.div_add_mod a (2 ^ 52), ← Nat.div_add_mod b (2 ^ 52), h1, h2]

theorem and_top (a : Nat) (s : Bool) (f : Nat) (hf : f < 4503599627370496) (ha : a = (if s = true then 2049 else 1) * 4503599627370496 + f) :
    a &&& (18446744073709551615 - 4503599627370496) = (if s = true then 2048 else 0) * 4503599627370496 + f := by
  have hd : a / 2 ^ 52 = if s = true then 2049 else 1 := by rw [e52n, ha]; split <;> omega
  have hm : a % 2 ^ 52 = f := by rw [e52n, ha]; split <;> omega
  refine by_parts _ _ ?_ ?_
  · rw [Nat.and_div_two_pow, hd]
    have e1 : (18446744073709551615 - 4503599627370496) / 2 ^ 52 = 4094 := by decide
    rw [e1]
    have e2 : ((if s = true then 2048 else 0) * 4503599627370496 + f) / 2 ^ 52 = if s = true then 2048 else 0 := by rw [e52n]; split <;> omega
    rw [e2]; cases s <;> decide
  · rw [Nat.and_mod_two_pow, hm]
    have e1 : (18446744073709551615 - 4503599627370496) % 2 ^ 52 = 2 ^ 52 - 1 := by decide
    rw [e1, Nat.and_two_pow_sub_one_eq_mod, e52n]
    split <;> omega

theorem or_top (s : Bool) (f b : Nat) (hf : f < 4503599627370496) (hb : b < 2048) :
    ((if s = true then 2048 else 0) * 4503599627370496 + f) ||| (b * 4503599627370496) = ((if s = true then 2048 else 0) + b) * 4503599627370496 + f := by
  have hd : ((if s = true then 2048 else 0) * 4503599627370496 + f) / 2 ^ 52 = if s = true then 2048 else 0 := by rw [e52n]; split <;> omega
  have hm : ((if s = true then 2048 else 0) * 4503599627370496 + f) % 2 ^ 52 = f := by rw [e52n]; split <;> omega
  refine by_parts _ _ ?_ ?_
  · rw [Nat.or_div_two_pow, hd, e52n, Nat.mul_div_cancel _ (by decide)]
    have e2 : (((if s = true then 2048 else 0) + b) * 4503599627370496 + f) / 4503599627370496 = (if s = true then 2048 else 0) + b := by
      rw [Nat.mul_comm, Nat.mul_add_div (by decide), Nat.div_eq_of_lt hf, Nat.add_zero]
    rw [e2]
    cases s
    · simp
    · have := Nat.two_pow_add_eq_or_of_lt (i := 11) (b := b) (by omega) 1
      simpa using this.symm
  · rw [Nat.or_mod_two_pow, hm, e52n, Nat.mul_mod_left, Nat.or_zero, Nat.mul_comm, Nat.mul_add_mod, Nat.mod_eq_of_lt hf]

theorem or_sign (s : Bool) (M : Nat) (hM : M < 9223372036854775808) : (if s = true then 9223372036854775808 else 0) ||| M = (if s = true then 9223372036854775808 else 0) + M := by
  cases s
  · simp
  · have := Nat.two_pow_add_eq_or_of_lt (i := 63) (b := M) (by omega) 1
    have e : (2 : Nat) ^ 63 = 9223372036854775808 := by decide
    rw [e, Nat.mul_one] at this
    simpa using this.symm

theorem xor_top (r : Nat) (h : r < 9223372036854775808) : r ^^^ 9223372036854775808 = 9223372036854775808 + r := by
  have e : (2 : Nat) ^ 63 = 9223372036854775808 := by decide
  have h1 : (r ^^^ 2 ^ 63) / 2 ^ 63 = r / 2 ^ 63 ^^^ 2 ^ 63 / 2 ^ 63 := Nat.xor_div_two_pow
  have h2 : (r ^^^ 2 ^ 63) % 2 ^ 63 = r % 2 ^ 63 ^^^ 2 ^ 63 % 2 ^ 63 := Nat.xor_mod_two_pow
  rw [e] at h1 h2
  rw [Nat.div_eq_of_lt h] at h1
  rw [Nat.mod_eq_of_lt h] at h2
  have h3 := Nat.div_add_mod (r ^^^ 9223372036854775808) 9223372036854775808
  rw [h1, h2] at h3
  rw [← h3]
  simp

end Go.Proofs.YtdencljnbilchaaGreatDoor

namespace Go.Proofs.YtdencljnbilchaaGreatDoor
open Ieee

theorem nearest_intG (neg : Bool) {X M E : Nat} (h : WholeX X M E) (hE : E ≤ 1023) : FloatKind.f64.format.nearest neg X 0 = wordX neg M E := by
  have e1 : FloatKind.f64.format.signWeight = 9223372036854775808 := by decide
  have e2 : FloatKind.f64.format.binade = 4503599627370496 := by decide
  have e3 : FloatKind.f64.format.infRung = 9218868437227405312 := by decide
  have e4 : FloatKind.f64.format.leastPlace = -1074 := by decide
  have e5 : (FloatKind.f64.format.fractionBits : Int) = 52 := by decide
  have hlast : max (0 + (E : Int) - 52) (-1074) = (E : Int) - 52 := by omega
  have hk : Toward.even.cut neg (X <<< (0 - ((E : Int) - 52)).toNat) ((E : Int) - 52 - 0).toNat = M := by
    rcases Nat.lt_or_ge E 52 with hlt | hge
    · rw [show (0 - ((E : Int) - 52)).toNat = 52 - E by omega, show ((E : Int) - 52 - 0).toNat = 0 by omega, even_zero, Nat.shiftLeft_eq]
      exact h.small (by omega)
    · rw [show (0 - ((E : Int) - 52)).toNat = 0 by omega, show ((E : Int) - 52 - 0).toNat = E - 52 by omega, Nat.shiftLeft_zero]
      have hb := h.big hge
      have hl := h.log
      rw [hb] at hl ⊢
      exact even_exact neg M (E - 52) (by rw [hl]; omega)
  unfold Format.nearest Format.word
  rw [if_neg (by have := h.pos; omega), e1, e2, e3, e4, e5, h.log]
  simp only [hlast, hk]
  have hr : ((E : Int) - 52 - -1074).toNat * 4503599627370496 + M = rungX M E := by unfold rungX; rw [show ((E : Int) - 52 - -1074).toNat = E + 1022 by omega]
  rw [hr, Nat.min_eq_left (by unfold rungX; have := h.m2; omega)]
  rfl

/-- A mantissa and a place: its whole part is nought, or a whole number. -/
theorem whole_cut (neg : Bool) (m : Nat) (p : Int) (hm : m < 9007199254740992) (hp1 : -1074 ≤ p) (hp2 : p ≤ 971) :
    Toward.zero.cut neg (m <<< p.toNat) (-p).toNat = 0 ∨ ∃ X M E, WholeX X M E ∧ E ≤ 1023 ∧ Toward.zero.cut neg (m <<< p.toNat) (-p).toNat = X := by
  -- what is cut is below 2^53 times a power
  obtain ⟨q, k, hq, hk, hc⟩ : ∃ q k, q < 9007199254740992 ∧ k ≤ 971 ∧ Toward.zero.cut neg (m <<< p.toNat) (-p).toNat = q * 2 ^ k := by
    by_cases h0 : p < 0
    · refine ⟨_, 0, ?_, by omega, by rw [Nat.pow_zero, Nat.mul_one]⟩
      have := cut_low .zero neg (m <<< p.toNat) (-p).toNat rfl
      rw [show p.toNat = 0 by omega, Nat.shiftLeft_zero] at this ⊢
      omega
    · refine ⟨m, p.toNat, hm, by omega, ?_⟩
      rw [show (-p).toNat = 0 by omega, Nat.shiftLeft_eq]
      unfold Toward.cut
      simp
  rw [hc]
  by_cases hq0 : q = 0
  · left; rw [hq0, Nat.zero_mul]
  · right
    have e52 : (4503599627370496 : Nat) = 2 ^ 52 := by decide
    obtain ⟨L, eL⟩ : ∃ L, q.log2 = L := ⟨_, rfl⟩
    have hlow : 2 ^ L ≤ q := by rw [← eL]; exact Nat.log2_self_le hq0
    have hhigh : q < 2 ^ (L + 1) := by rw [← eL]; exact Nat.lt_log2_self
    have hL : L ≤ 52 := by have := log2_lt q 53 (by simpa using hq) hq0; omega
    refine ⟨q * 2 ^ k, q * 2 ^ (52 - L), L + k, ⟨?_, ?_, ?_⟩, by omega, rfl⟩
    · calc 4503599627370496 = 2 ^ L * 2 ^ (52 - L) := by rw [← Nat.pow_add, show L + (52 - L) = 52 by omega]
        _ ≤ q * 2 ^ (52 - L) := Nat.mul_le_mul_right _ hlow
    · calc q * 2 ^ (52 - L) < 2 ^ (L + 1) * 2 ^ (52 - L) := Nat.mul_lt_mul_of_pos_right hhigh (Nat.pow_pos (by decide))
        _ = 9007199254740992 := by rw [← Nat.pow_add, show L + 1 + (52 - L) = 53 by omega]
    · rw [Nat.mul_assoc, Nat.mul_assoc, e52, ← Nat.pow_add, ← Nat.pow_add, show k + 52 = 52 - L + (L + k) by omega]

end Go.Proofs.YtdencljnbilchaaGreatDoor
