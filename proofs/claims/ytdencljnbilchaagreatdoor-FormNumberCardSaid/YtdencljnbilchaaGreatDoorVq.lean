/- num.Digits of any finite number, said outright: a sign, and digits that do not hang on it. Finite numbers on one scale: their order is that of whole numbers; their whole parts. What a conversion of printf tells: the spec of both sides (no walk here). The walks of tailraceref11's finite, Whole, Digits; num.Whole. num.Whole at what is no number. math.Trunc at what is no number: what comes is none either. The walk of strconv.FormatUint in base 8 and 16. Plain laws of formats: texts without conversions; widths. No walk here. A format's loops, as the two walks turn through them: plain laws, no walk here. -/
import Derived.Test.YtdencljnbilchaaGreatDoorHe
import Derived.Test.YtdencljnbilchaaGreatDoorPi
import Derived.Test.YtdencljnbilchaaGreatDoorFl
import Derived.Test.YtdencljnbilchaaGreatDoorXt
import Derived.Test.YtdencljnbilchaaGreatDoorXg
import Derived.Test.YtdencljnbilchaaGreatDoorFe
import Derived.Test.YtdencljnbilchaaGreatDoorXl

namespace Go.Proofs.YtdencljnbilchaaGreatDoor
open Go.RowKit

theorem wordX_ltG (neg : Bool) {X M E : Nat} (h : WholeX X M E) (hE : E ≤ 1023) : rungX M E < 9218868437227405312 ∧ wordX neg M E < 18446744073709551616 := by
  have h1 := h.m2
  have hr : rungX M E < 9218868437227405312 := by unfold rungX; omega
  refine ⟨hr, ?_⟩
  unfold wordX; split <;> omega

theorem word_lowG (neg : Bool) {X M E : Nat} (h : WholeX X M E) (hE : E ≤ 1023) : wordX neg M E % 9223372036854775808 = rungX M E ∧ (wordX neg M E / 9223372036854775808 % 2 == 1) = neg ∧ fNg (wordX neg M E) = neg := by
  obtain ⟨hr, _⟩ := wordX_ltG neg h hE
  unfold wordX fNg
  generalize rungX M E = R at hr
  cases neg
  · refine ⟨?_, ?_, ?_⟩
    · show R % 9223372036854775808 = R; omega
    · show (R / 9223372036854775808 % 2 == 1) = false
      rw [beq_eq_false_iff_ne]; omega
    · show decide (9223372036854775808 ≤ R) = false
      exact decide_eq_false (by omega)
  · refine ⟨?_, ?_, ?_⟩
    · show (9223372036854775808 + R) % 9223372036854775808 = R; omega
    · show ((9223372036854775808 + R) / 9223372036854775808 % 2 == 1) = true
      rw [beq_iff_eq]; omega
    · show decide (9223372036854775808 ≤ 9223372036854775808 + R) = true
      exact decide_eq_true (by omega)

theorem word_finG (neg : Bool) {X M E : Nat} (h : WholeX X M E) (hE : E ≤ 1023) : finN (wordX neg M E) := by
  unfold finN
  rw [(word_lowG neg h hE).1]
  exact (wordX_ltG neg h hE).1

theorem word_partsG (neg : Bool) {X M E : Nat} (h : WholeX X M E) (hE : E ≤ 1023) : mgN (wordX neg M E) = M ∧ plN (wordX neg M E) = (E : Int) - 52 := by
  obtain ⟨h1, h2⟩ := rung_div h
  have hm1 := h.m1
  unfold mgN plN
  rw [(word_lowG neg h hE).1, h2, h1]
  have hge : ¬ rungX M E < 4503599627370496 := by
    intro hlt
    rw [Nat.div_eq_of_lt hlt] at h1; omega
  rw [if_neg hge, if_neg hge]
  exact ⟨by omega, by omega⟩

theorem word_fG (neg : Bool) {X M E : Nat} (h : WholeX X M E) (hE : E ≤ 1023) : fEx (wordX neg M E) = E + 1023 ∧ fMm (wordX neg M E) = M ∧ fE1 (wordX neg M E) = E + 1023 := by
  obtain ⟨h1, h2⟩ := rung_div h
  have hm1 := h.m1
  have hx : fEx (wordX neg M E) = E + 1023 := by unfold fEx; rw [mod_div, (word_lowG neg h hE).1, h1]
  have hm : fMt (wordX neg M E) = M - 4503599627370496 := by unfold fMt; rw [mod_mod52, (word_lowG neg h hE).1, h2]
  refine ⟨hx, ?_, ?_⟩
  · unfold fMm; rw [hx, hm, if_neg (by omega)]; omega
  · unfold fE1; rw [hx, if_neg (by omega)]

theorem abs_word (neg : Bool) {X M E : Nat} (h : WholeX X M E) (hE : E ≤ 1023) : absN (wordX neg M E) = wordX false M E := by
  have e : absN (wordX neg M E) = wordX neg M E % 9223372036854775808 := rfl
  rw [e, (word_lowG neg h hE).1]; rfl

/-- A finite number's sign. -/
def sgB (x : Nat) : Bool := x / 9223372036854775808 % 2 == 1

theorem trunc_eq {x : Nat} (hf : finN x) : truncN x = FloatKind.f64.format.nearest (sgB x) (Ieee.Toward.zero.cut (sgB x) (mgN x <<< (plN x).toNat) (-(plN x)).toNat) 0 := by
  have hr := read_num hf
  unfold truncN FloatKind.encode FloatKind.decode
  rw [hr]; rfl

theorem nearest_nought (neg : Bool) : FloatKind.f64.format.nearest neg 0 0 = if neg = true then 9223372036854775808 else 0 := by cases neg <;> kernel_rfl

/-- The whole part of a finite number: a nought of its sign, or a whole number of its sign. -/
theorem trunc_cases {x : Nat} (hf : finN x) : truncN x = (if sgB x = true then 9223372036854775808 else 0) ∨ ∃ X M E, WholeX X M E ∧ E ≤ 1023 ∧ truncN x = wordX (sgB x) M E := by
  obtain ⟨p1, p2⟩ := plN_bd x hf
  rcases whole_cut (sgB x) (mgN x) (plN x) (mgN_lt x) p1 p2 with h | ⟨X, M, E, h1, h2, h3⟩
  · left; rw [trunc_eq hf, h, nearest_nought]
  · right; exact ⟨X, M, E, h1, h2, by rw [trunc_eq hf, h3, nearest_intG _ h1 h2]⟩

theorem trunc_word (neg : Bool) {X M E : Nat} (h : WholeX X M E) (hE : E ≤ 1023) : truncN (wordX neg M E) = wordX neg M E := by
  obtain ⟨p1, p2⟩ := word_partsG neg h hE
  have hs : sgB (wordX neg M E) = neg := (word_lowG neg h hE).2.1
  have hc : Ieee.Toward.zero.cut neg (M <<< ((E : Int) - 52).toNat) (-((E : Int) - 52)).toNat = X := by
    rcases Nat.lt_or_ge E 52 with hlt | hge
    · rw [show ((E : Int) - 52).toNat = 0 by omega, show (-((E : Int) - 52)).toNat = 52 - E by omega, Nat.shiftLeft_zero]
      unfold Ieee.Toward.cut
      have hl : M.log2 = 52 := by
        have hm1 := h.m1; have hm2 := h.m2
        rw [Nat.log2_eq_iff (by omega)]
        exact ⟨by rw [e52n]; exact hm1, by rw [show (2 : Nat) ^ (52 + 1) = 9007199254740992 by decide]; exact hm2⟩
      rw [hl, Nat.min_eq_left (by omega), Nat.one_shiftLeft]
      simp only [Bool.toNat_false, Nat.add_zero]
      rw [← h.small (by omega), Nat.mul_div_cancel _ (Nat.pow_pos (by decide))]
    · rw [show ((E : Int) - 52).toNat = E - 52 by omega, show (-((E : Int) - 52)).toNat = 0 by omega, Nat.shiftLeft_eq, ← h.big hge]
      unfold Ieee.Toward.cut
      simp
  rw [trunc_eq (word_finG neg h hE), p1, p2, hs, hc, nearest_intG neg h hE]

theorem plain_word (neg : Bool) {X M E : Nat} (h : WholeX X M E) (hE : E ≤ 1023) : plainN (wordX neg M E) = wordX neg M E := by
  have hz : (FloatKind.f64.format.order (wordX neg M E) 0 == some .eq) = false := by
    have hr0 : FloatKind.f64.format.read 0 = .number false 0 (-1074) := by kernel_rfl
    obtain ⟨p1, p2⟩ := word_partsG neg h hE
    have hrd := read_num (word_finG neg h hE)
    rw [p1, p2, (word_lowG neg h hE).2.1] at hrd
    rw [order_num hrd hr0]
    have z1 : ∀ s k, Ieee.signed s 0 k = 0 := fun s k => by cases s <;> simp [signed_t, signed_f]
    rw [z1]
    have hpos : 0 < M * 2 ^ (((E : Int) - 52) - min ((E : Int) - 52) (-1074)).toNat := Nat.mul_pos (by have := h.m1; omega) (Nat.pow_pos (by decide))
    cases neg
    · rw [signed_f, cmp_gt (by omega)]; rfl
    · rw [signed_t, cmp_lt (by omega)]; rfl
  unfold plainN
  rw [hz]; rfl

theorem ftoaT_sign (ng : Bool) (M : Nat) (E : Int) : ftoaT ng M E 0 102 = sgnL ng ++ ftoaT false M E 0 102 := by
  have hp : fPr 102 0 = 0 := by decide
  have key : ∀ f nd dp, fmtL ng f nd dp 0 102 false = sgnL ng ++ fmtL false f nd dp 0 102 false := fun f nd dp => by
    rw [fmtL_whole, fmtL_whole]; rfl
  unfold ftoaT
  rw [hp]
  split
  · unfold fastT; split <;> exact key _ _ _
  · unfold slowT; exact key _ _ _

/-- A whole part's digits, without its sign. -/
def absT (x : Nat) : List UInt8 := if fMm (plainN (truncN x)) = 0 then [48] else ftoaT false (fMm (plainN (truncN x))) ((fE1 (plainN (truncN x)) : Nat) - 1023) 0 102
/-- Is its whole part below nought? -/
def belowB (x : Nat) : Bool := fNg (plainN (truncN x))

theorem digits_said (x : Nat) (hx : x < 18446744073709551616) (hf : finN x) (w : World) (hL : LaidG w) :
    Calls Tryz.prog 16 #[.float .f64 x] w fun e w' => e = .returned (.string ⟨(sgnL (belowB x) ++ absT x).toArray⟩) ∧ Below w.heap.size w w' := by
  obtain ⟨h1, h2, h3, _⟩ := plain_trunc x hx hf
  refine digits_of_format x _ w (nanB_fin hf) (infP_fin hf) (infM_fin hf) ?_
  obtain ⟨y, ey⟩ : ∃ y, plainN (truncN x) = y := ⟨_, rfl⟩
  unfold belowB absT
  rw [ey] at h1 h2 h3 ⊢
  have h := (format_all y 102 0 h1 h2 h3 (.inr (.inr (.inl rfl))) (by decide) (by decide)).2 w hL
  have e : floatT y 102 0 = sgnL (fNg y) ++ (if fMm y = 0 then [48] else ftoaT false (fMm y) ((fE1 y : Nat) - 1023) 0 102) := by
    unfold floatT
    rcases h3 with h3 | h3
    · subst h3
      rw [if_pos rfl]; rfl
    · by_cases h0 : y = 0
      · subst h0
        exact absurd rfl h3
      · rw [if_neg h0, if_neg h3, ftoaT_sign]
  rw [e] at h
  exact h

theorem said_nought {x : Nat} (h : truncN x = 0 ∨ truncN x = 9223372036854775808) : absT x = [48] ∧ belowB x = false := by
  have hp : plainN (truncN x) = 0 := by rcases h with h | h <;> rw [h] <;> kernel_rfl
  unfold absT belowB
  rw [hp]
  exact ⟨if_pos (by decide), by decide⟩

theorem said_word {x : Nat} {neg : Bool} {X M E : Nat} (h : WholeX X M E) (hE : E ≤ 1023) (e : truncN x = wordX neg M E) : absT x = ftoaT false M E 0 102 ∧ belowB x = neg := by
  obtain ⟨f1, f2, f3⟩ := word_fG neg h hE
  unfold absT belowB
  rw [e, plain_word neg h hE, f2, f3, (word_lowG neg h hE).2.2, if_neg (by have := h.m1; omega), show ((E + 1023 : Nat) : Int) - 1023 = (E : Int) by omega]
  exact ⟨rfl, rfl⟩

/-- Without its sign a number's whole part has the same digits. -/
theorem said_abs {x : Nat} (hf : finN x) : absT (absN (truncN x)) = absT x ∧ belowB (absN (truncN x)) = false ∧ finN (absN (truncN x)) ∧ absN (truncN x) < 18446744073709551616 := by
  have hb : ∀ y : Nat, absN y < 18446744073709551616 := fun y => by
    have e : absN y = y % 9223372036854775808 := rfl
    rw [e]; omega
  rcases trunc_cases hf with h | ⟨X, M, E, h1, h2, h3⟩
  · have h' : truncN x = 0 ∨ truncN x = 9223372036854775808 := by rw [h]; split <;> simp
    have ha : absN (truncN x) = 0 := by rcases h' with h' | h' <;> rw [h'] <;> decide
    have h0 : truncN 0 = 0 := by kernel_rfl
    rw [ha]
    have n1 := said_nought (x := 0) (.inl h0)
    exact ⟨by rw [n1.1, (said_nought h').1], n1.2, by unfold finN; omega, by omega⟩
  · rw [h3, abs_word _ h1 h2]
    have w1 := said_word h1 h2 (trunc_word false h1 h2)
    exact ⟨by rw [w1.1, (said_word h1 h2 h3).1], w1.2, word_finG false h1 h2, (wordX_ltG false h1 h2).2⟩

end Go.Proofs.YtdencljnbilchaaGreatDoor

namespace Go.Proofs.YtdencljnbilchaaGreatDoor
open Go.RowKit

/-- A finite number, counted in the least unit. -/
def scal (x : Nat) : Int := Ieee.signed (sgB x) (mgN x) (plN x + 1074).toNat

theorem signed_mul (s : Bool) (m a b : Nat) : Ieee.signed s m (a + b) = Ieee.signed s m a * 2 ^ b := by
  cases s
  · rw [signed_f, signed_f, Nat.pow_add, ← Nat.mul_assoc]; push_cast; rfl
  · rw [signed_t, signed_t, Nat.pow_add, ← Nat.mul_assoc]; push_cast; rw [Int.neg_mul]

theorem cmp_mul (a b : Int) (k : Nat) : compare (a * 2 ^ k) (b * 2 ^ k) = compare a b := by
  have hp : (0 : Int) < 2 ^ k := Int.pow_pos (by decide)
  rcases Int.lt_trichotomy a b with h | h | h
  · rw [cmp_lt h, cmp_lt (Int.mul_lt_mul_of_pos_right h hp)]
  · rw [h, cmp_eq, cmp_eq]
  · rw [cmp_gt h, cmp_gt (Int.mul_lt_mul_of_pos_right h hp)]

theorem order_scal {x y : Nat} (hx : finN x) (hy : finN y) : FloatKind.f64.format.order x y = some (compare (scal x) (scal y)) := by
  obtain ⟨a1, a2⟩ := plN_bd x hx
  obtain ⟨b1, b2⟩ := plN_bd y hy
  rw [order_num (read_num hx) (read_num hy)]
  congr 1
  obtain ⟨c, hc⟩ : ∃ c : Nat, min (plN x) (plN y) + 1074 = c := ⟨(min (plN x) (plN y) + 1074).toNat, by omega⟩
  have e1 : (plN x + 1074).toNat = (plN x - min (plN x) (plN y)).toNat + c := by omega
  have e2 : (plN y + 1074).toNat = (plN y - min (plN x) (plN y)).toNat + c := by omega
  unfold scal sgB
  rw [e1, e2, signed_mul, signed_mul, cmp_mul]

/-- A finite number's whole part. -/
def valT (x : Nat) : Int := Ieee.signed (sgB x) (Ieee.Toward.zero.cut (sgB x) (mgN x <<< (plN x).toNat) (-(plN x)).toNat) 0

theorem toInt_fin {x : Nat} (hf : finN x) : (FloatKind.f64.decode x).toInt .zero = some (valT x) := by
  unfold FloatKind.decode
  rw [read_num hf]; rfl

theorem signed_zero (s : Bool) (k : Nat) : Ieee.signed s 0 k = 0 := by cases s <;> simp [signed_t, signed_f]

theorem pow_join (X a b c : Nat) (h : a + b = c) : X * 2 ^ a * 2 ^ b = X * 2 ^ c := by
  subst h; rw [Nat.pow_add, Nat.mul_assoc]

theorem valT_nought (s : Bool) : valT (if s = true then 9223372036854775808 else 0) = 0 := by cases s <;> kernel_rfl

theorem scal_word (neg : Bool) {X M E : Nat} (h : WholeX X M E) (hE : E ≤ 1023) : scal (wordX neg M E) = Ieee.signed neg X 0 * 2 ^ 1074 := by
  obtain ⟨p1, p2⟩ := word_partsG neg h hE
  have hs : sgB (wordX neg M E) = neg := (word_lowG neg h hE).2.1
  unfold scal
  rw [p1, p2, hs, ← signed_mul, Nat.zero_add]
  have key : M * 2 ^ ((E : Int) - 52 + 1074).toNat = X * 2 ^ 1074 := by
    rw [show ((E : Int) - 52 + 1074).toNat = E + 1022 by omega, Nat.pow_add, ← Nat.mul_assoc, ← h.e]
    have := pow_join X 52 1022 1074 rfl
    rw [e52n] at this
    exact this
  cases neg
  · rw [signed_f, signed_f, key]
  · rw [signed_t, signed_t, key]

/-- The whole part of a finite number, on the scale. -/
theorem scal_trunc {x : Nat} (hf : finN x) : scal (truncN x) = valT x * 2 ^ 1074 ∧ finN (truncN x) ∧ truncN x < 18446744073709551616 := by
  obtain ⟨p1, p2⟩ := plN_bd x hf
  rcases whole_cut (sgB x) (mgN x) (plN x) (mgN_lt x) p1 p2 with h | ⟨X, M, E, h1, h2, h3⟩
  · have ht : truncN x = if sgB x = true then 9223372036854775808 else 0 := by rw [trunc_eq hf, h, nearest_nought]
    have hv : valT x = 0 := by unfold valT; rw [h, signed_zero]
    rw [ht, hv, Int.zero_mul]
    cases sgB x
    · exact ⟨by kernel_rfl, by show finN 0; unfold finN; omega, by show (0 : Nat) < _; omega⟩
    · exact ⟨by kernel_rfl, by show finN 9223372036854775808; unfold finN; omega, by show (9223372036854775808 : Nat) < _; omega⟩
  · have ht : truncN x = wordX (sgB x) M E := by rw [trunc_eq hf, h3, nearest_intG _ h1 h2]
    have hv : valT x = Ieee.signed (sgB x) X 0 := by unfold valT; rw [h3]
    rw [ht, hv]
    exact ⟨scal_word _ h1 h2, word_finG _ h1 h2, (wordX_ltG _ h1 h2).2⟩

theorem valT_trunc {x : Nat} (hf : finN x) : valT (truncN x) = valT x := by
  rcases trunc_cases hf with h | ⟨X, M, E, h1, h2, h3⟩
  · have h2 := (scal_trunc hf).1
    rw [h] at h2 ⊢
    have hz : valT x = 0 := by
      have hs : scal (if sgB x = true then 9223372036854775808 else 0) = 0 := by cases sgB x <;> kernel_rfl
      rw [hs] at h2
      have hp : (0 : Int) < 2 ^ 1074 := Int.pow_pos (by decide)
      rcases Int.mul_eq_zero.1 h2.symm with h3 | h3
      · exact h3
      · omega
    rw [hz]
    exact valT_nought _
  · have e := trunc_word (sgB x) h1 h2
    have hf2 := word_finG (sgB x) h1 h2
    have a := (scal_trunc hf).1
    have b := (scal_trunc hf2).1
    rw [e, scal_word _ h1 h2] at b
    rw [h3, scal_word _ h1 h2] at a
    rw [h3]
    have hp : (0 : Int) < 2 ^ 1074 := Int.pow_pos (by decide)
    exact Int.eq_of_mul_eq_mul_right (by omega) (b.symm.trans a)

/-- A whole part against a whole number. -/
theorem order_whole {x c : Nat} {v : Int} (hf : finN x) (hc : finN c) (hv : scal c = v * 2 ^ 1074) : FloatKind.f64.format.order (truncN x) c = some (compare (valT x) v) := by
  obtain ⟨h1, h2, _⟩ := scal_trunc hf
  rw [order_scal h2 hc, h1, hv, cmp_mul]

theorem scal_abs {x : Nat} (hf : finN x) : scal (absN x) = (scal x).natAbs ∧ finN (absN x) := by
  obtain ⟨h1, h2, h3, h4⟩ := absN_fin hf
  refine ⟨?_, h1⟩
  unfold scal
  rw [h2, h3]
  have hs : sgB (absN x) = false := h4
  rw [hs, signed_f]
  cases sgB x
  · rw [signed_f]; omega
  · rw [signed_t]; omega

theorem c200 : finN 4641240890982006784 ∧ scal 4641240890982006784 = 200 * 2 ^ 1074 := ⟨by unfold finN; omega, by kernel_rfl⟩
theorem cm200 : finN 13864612927836782592 ∧ scal 13864612927836782592 = (-200) * 2 ^ 1074 := ⟨by unfold finN; omega, by kernel_rfl⟩
theorem cm1 : finN 13830554455654793216 ∧ scal 13830554455654793216 = (-1) * 2 ^ 1074 := ⟨by unfold finN; omega, by kernel_rfl⟩
theorem c2p53 : finN 4845873199050653696 ∧ scal 4845873199050653696 = 9007199254740992 * 2 ^ 1074 := ⟨by unfold finN; omega, by kernel_rfl⟩
theorem c2p64 : finN 4895412794951729152 ∧ scal 4895412794951729152 = 18446744073709551616 * 2 ^ 1074 := ⟨by unfold finN; omega, by kernel_rfl⟩
theorem c0 : finN 0 ∧ scal 0 = 0 * 2 ^ 1074 := ⟨by unfold finN; omega, by kernel_rfl⟩

end Go.Proofs.YtdencljnbilchaaGreatDoor

namespace Go.Proofs.YtdencljnbilchaaGreatDoor
open Go.RowKit

theorem valT_word {x : Nat} {neg : Bool} {X M E : Nat} (hf : finN x) (h : WholeX X M E) (hE : E ≤ 1023) (e : truncN x = wordX neg M E) : valT x = Ieee.signed neg X 0 := by
  have a := (scal_trunc hf).1
  rw [e, scal_word _ h hE] at a
  have hp : (0 : Int) < 2 ^ 1074 := Int.pow_pos (by decide)
  exact (Int.eq_of_mul_eq_mul_right (by omega) a).symm

theorem valT_of_nought {x : Nat} (hf : finN x) (e : truncN x = if sgB x = true then 9223372036854775808 else 0) : valT x = 0 := by
  rw [← valT_trunc hf, e]; exact valT_nought _

/-- Below nought: as num.Digits tells it. -/
theorem belowB_val {x : Nat} (hf : finN x) : belowB x = decide (valT x < 0) := by
  rcases trunc_cases hf with h | ⟨X, M, E, h1, h2, h3⟩
  · have h' : truncN x = 0 ∨ truncN x = 9223372036854775808 := by rw [h]; split <;> simp
    rw [(said_nought h').2, valT_of_nought hf h]; rfl
  · have hX := h1.pos
    rw [(said_word h1 h2 h3).2, valT_word hf h1 h2 h3]
    cases sgB x
    · rw [signed_f]; symm; apply decide_eq_false; omega
    · rw [signed_t]; symm; apply decide_eq_true; omega

theorem scal_sign {x : Nat} : (scal x < 0 → valT x ≤ 0) ∧ (0 ≤ scal x → 0 ≤ valT x) := by
  unfold scal valT
  generalize hc : Ieee.Toward.zero.cut (sgB x) (mgN x <<< (plN x).toNat) (-(plN x)).toNat = q
  cases hs : sgB x
  · rw [signed_f, signed_f]; omega
  · rw [signed_t, signed_t]
    refine ⟨fun _ => by omega, fun h0 => ?_⟩
    have hm : mgN x * 2 ^ (plN x + 1074).toNat = 0 := by omega
    have hm0 : mgN x = 0 := by
      rcases Nat.mul_eq_zero.1 hm with h | h
      · exact h
      · have := Nat.pow_pos (n := (plN x + 1074).toNat) (show 0 < 2 by decide); omega
    have hq : q = 0 := by
      rw [← hc, hm0, Nat.zero_shiftLeft]
      unfold Ieee.Toward.cut
      simp
    rw [hq]; simp

def finB (x : Nat) : Bool := decide (x % 9223372036854775808 < 9218868437227405312)
theorem finB_iff (x : Nat) : finB x = true ↔ finN x := by unfold finB finN; exact decide_eq_true_iff

/-- Digits without their sign; had they one? -/
def bareT (x : Nat) : List UInt8 × Bool :=
  if finB x = true then (absT x, belowB x)
  else if 9218868437227405312 < x % 9223372036854775808 then ([110, 97, 110], false)
  else ([105, 110, 102], decide (9223372036854775808 ≤ x))

/-- d i u o x X; uT: what FormatUint writes. -/
def wholeT (uT : Nat → Nat → List UInt8) (cv : FConv) (x : Nat) : List UInt8 × List UInt8 :=
  let sg := if cv.c = 100 ∨ cv.c = 105 then signT cv.plus cv.blank (bareT x).2 else signT false false (bareT x).2
  let base := if cv.c = 111 then 8 else if cv.c = 120 ∨ cv.c = 88 then 16 else 0
  let p := if 0 < base ∧ finB x = true ∧ 0 ≤ valT x ∧ valT x < 18446744073709551616 then ([], if cv.c = 88 then upL (uT (valT x).toNat base) else uT (valT x).toNat base) else (sg, (bareT x).1)
  (p.1, if finB x = true ∧ (p.2.length : Int) < cv.prec then zerosL (cv.prec.toNat - p.2.length) ++ p.2 else p.2)

/-- f F e E g G. -/
def realT (cv : FConv) (x : Nat) : List UInt8 × List UInt8 :=
  if finB x = true then
    (signT cv.plus cv.blank (decide (scal x < 0)), floatT (absN x) (if cv.c = 70 then 102 else cv.c.toNat) (if cv.c = 103 ∨ cv.c = 71 then max (if cv.prec < 0 then 6 else cv.prec) 1 else if cv.prec < 0 then 6 else cv.prec))
  else (signT cv.plus cv.blank (bareT x).2, (bareT x).1)

def letterT (a : FArg) : List UInt8 :=
  if a.num = true then (if finB a.n = true ∧ 0 ≤ scal a.n ∧ valT a.n < 9007199254740992 then [UInt8.ofNat (valT a.n).toNat] else [0]) else a.s.take 1

def tellT (uT : Nat → Nat → List UInt8) (cv : FConv) (a : FArg) : List UInt8 :=
  if cv.c = 115 then fillT cv.left cv.zero false cv.width [] (if 0 ≤ cv.prec then a.s.take cv.prec.toNat else a.s)
  else if cv.c = 99 then fillT cv.left cv.zero false cv.width [] (letterT a)
  else if isWholeC cv.c = true then fillT cv.left cv.zero (finB a.n && decide (cv.prec < 0)) cv.width (wholeT uT cv a.n).1 (wholeT uT cv a.n).2
  else fillT cv.left cv.zero (finB a.n) cv.width (realT cv a.n).1 (realT cv a.n).2

/-- A star's width, a star's precision. -/
def starW (x : Nat) : Option Int := if finB x = true ∧ -200 ≤ valT x ∧ valT x ≤ 200 then some (valT x) else none
def starP (x : Nat) : Option Int := if finB x = true ∧ valT x ≤ 200 then some (max (valT x) (-1)) else none

/-- The width at a place: how wide, to the left?, the place behind, the arguments left. -/
def widthAt (l : List UInt8) (k : Nat) (A : List FArg) : Option (Nat × Bool × Nat × List FArg) :=
  if l[k]? = some 42 then (starW (argH A).n).map fun v => (v.natAbs, decide (v < 0), k + 1, A.tail)
  else if satN (digsAt l k) ≤ 200 then some (satN (digsAt l k), false, k + nWhile isDig (l.drop k), A) else none

def precAt (l : List UInt8) (k : Nat) (A : List FArg) : Option (Int × Nat × List FArg) :=
  if l[k]? = some 46 then
    (if l[k + 1]? = some 42 then (starP (argH A).n).map fun v => (v, k + 2, A.tail)
     else if satN (digsAt l (k + 1)) ≤ 200 then some ((satN (digsAt l (k + 1)) : Nat), k + 1 + nWhile isDig (l.drop (k + 1)), A) else none)
  else some (-1, k, A)

/-- A conversion behind its percent sign: none: a fault. -/
def readT (l : List UInt8) (k : Nat) (A : List FArg) : Option (FConv × Nat × List FArg) :=
  let F := (l.drop k).take (nWhile isFlag (l.drop k))
  match widthAt l (k + nWhile isFlag (l.drop k)) A with
  | none => none
  | some (wd, lf, k2, A2) => match precAt l k2 A2 with
    | none => none
    | some (pr, k3, A3) => match l[k3]? with
      | none => none
      | some c => if isLetter c = true then some (⟨F.contains 45 || lf, F.contains 43, F.contains 32, F.contains 48, wd, pr, c⟩, k3 + 1, A3) else none

/-- What a format tells from a place on; none: a fault. -/
def formT (uT : Nat → Nat → List UInt8) (l : List UInt8) : Nat → Nat → List FArg → Option (List UInt8)
  | 0, _, _ => some []
  | g + 1, k, A =>
    if l.length ≤ k then some []
    else if l[k]? ≠ some 37 then (formT uT l g (k + 1) A).map fun t => (l.getD k 0) :: t
    else if l[k + 1]? = some 37 then (formT uT l g (k + 2) A).map fun t => 37 :: t
    else match readT l (k + 1) A with
      | none => none
      | some (cv, k', A') => (formT uT l g k' A'.tail).map fun t => tellT uT cv (argH A') ++ t

/-- The whole: a text of at most 256 bytes, or a fault: 0 none, 1 the format, 2 the text's length. -/
def formAll (uT : Nat → Nat → List UInt8) (l : List UInt8) (A : List FArg) : List UInt8 × Nat :=
  match formT uT l (l.length + 1) 0 A with
  | none => ([], 1)
  | some t => if 256 < t.length then ([], 2) else (t, 0)

end Go.Proofs.YtdencljnbilchaaGreatDoor

namespace Go.Proofs.YtdencljnbilchaaGreatDoor
open Go.RowKit

theorem rfinite_fin (x : Nat) (hf : finN x) (w : World) : Calls Tryz.prog 37 #[.float .f64 x] w fun e w' => e = .returned (.bool true) ∧ w = w' := by
  have o1 : FloatKind.f64.format.order x x = some .eq := by rw [order_num (read_num hf) (read_num hf), cmp_eq]
  rcases order_maxF hf with o2 | o2 <;> rcases order_minF hf with o3 | o3 <;>
  · clear hf
    go_enter Tryz.func37, Tryz.ntmps37
    go_wp2
    go_ret
    exact ⟨rfl, rfl⟩

theorem rfinite_inf (w : World) : Calls Tryz.prog 37 #[.float .f64 9218868437227405312] w fun e w' => e = .returned (.bool false) ∧ w = w' := by
  have o1 : FloatKind.f64.format.order 9218868437227405312 9218868437227405312 = some .eq := by kernel_rfl
  have o2 : FloatKind.f64.format.order 9218868437227405312 9218868437227405311 = some .gt := by kernel_rfl
  go_enter Tryz.func37, Tryz.ntmps37
  go_wp2
  go_ret
  exact ⟨rfl, rfl⟩

theorem rfinite_minf (w : World) : Calls Tryz.prog 37 #[.float .f64 18442240474082181120] w fun e w' => e = .returned (.bool false) ∧ w = w' := by
  have o1 : FloatKind.f64.format.order 18442240474082181120 18442240474082181120 = some .eq := by kernel_rfl
  have o2 : FloatKind.f64.format.order 18442240474082181120 9218868437227405311 = some .lt := by kernel_rfl
  have o3 : FloatKind.f64.format.order 18442240474082181120 18442240474082181119 = some .lt := by kernel_rfl
  go_enter Tryz.func37, Tryz.ntmps37
  go_wp2
  go_ret
  exact ⟨rfl, rfl⟩

theorem rfinite_nan (x : Nat) (hn : FloatKind.f64.format.order x x = none) (w : World) : Calls Tryz.prog 37 #[.float .f64 x] w fun e w' => e = .returned (.bool false) ∧ w = w' := by
  go_enter Tryz.func37, Tryz.ntmps37
  go_wp2
  go_ret
  exact ⟨rfl, rfl⟩

theorem rdigits_fin (x : Nat) (T : ByteArray) (w : World) (hf : finN x)
    (hF : Calls Tryz.prog 32 #[.float .f64 (plainN (truncN x)), .int .u8 102, .int .i64 0, .int .i64 64] w fun e w' => e = .returned (.string T) ∧ Below w.heap.size w w') :
    Calls Tryz.prog 38 #[.float .f64 x] w fun e w' => e = .returned (.string T) ∧ Below w.heap.size w w' := by
  have o1 : FloatKind.f64.format.order x x = some .eq := by rw [order_num (read_num hf) (read_num hf), cmp_eq]
  have HF := Lib.hid hF
  have HT := Lib.hid (fun W => trunc_any x (by rw [o1]; simp) W)
  have HN := Lib.hid (fun W => rfinite_fin x hf W)
  clear hF hf
  go_enter Tryz.func38, Tryz.ntmps38
  go_wp2_with (first | (go_at_call 37; refine (HN.out _).mono ?_; rintro e w' ⟨rfl, rfl⟩) | (go_at_call 24; refine (HT.out _).mono ?_; rintro e w' ⟨rfl, rfl⟩) | (go_at_call 50; refine (clean_any _ _).mono ?_; rintro e w' ⟨rfl, rfl⟩) | (go_at_call 32; refine HF.out.mono ?_; rintro e w' ⟨rfl, hb⟩))
  go_ret
  exact ⟨rfl, hb⟩

theorem rdigits_nan (x : Nat) (hn : FloatKind.f64.format.order x x = none) (w : World) : Calls Tryz.prog 38 #[.float .f64 x] w fun e w' => e = .returned (.string ⟨#[110, 97, 110]⟩) ∧ w = w' := by
  go_enter Tryz.func38, Tryz.ntmps38
  go_wp2
  go_ret
  exact ⟨rfl, rfl⟩

theorem rdigits_inf (w : World) : Calls Tryz.prog 38 #[.float .f64 9218868437227405312] w fun e w' => e = .returned (.string ⟨#[105, 110, 102]⟩) ∧ w = w' := by
  have o1 : FloatKind.f64.format.order 9218868437227405312 9218868437227405312 = some .eq := by kernel_rfl
  have o2 : FloatKind.f64.format.order 9218868437227405312 0 = some .gt := by kernel_rfl
  go_enter Tryz.func38, Tryz.ntmps38
  go_wp2_with (go_at_call 37; refine (rfinite_inf _).mono ?_; rintro e w' ⟨rfl, rfl⟩)
  go_ret
  exact ⟨rfl, rfl⟩

theorem rdigits_minf (w : World) : Calls Tryz.prog 38 #[.float .f64 18442240474082181120] w fun e w' => e = .returned (.string ⟨#[45, 105, 110, 102]⟩) ∧ w = w' := by
  have o1 : FloatKind.f64.format.order 18442240474082181120 18442240474082181120 = some .eq := by kernel_rfl
  have o2 : FloatKind.f64.format.order 18442240474082181120 0 = some .lt := by kernel_rfl
  go_enter Tryz.func38, Tryz.ntmps38
  go_wp2_with (go_at_call 37; refine (rfinite_minf _).mono ?_; rintro e w' ⟨rfl, rfl⟩)
  go_ret
  exact ⟨rfl, rfl⟩

/-- Is a finite number whole, and not too great? -/
def wholeB (x : Nat) : Bool := (FloatKind.f64.format.order x (truncN x) == some .eq) && ltB x

theorem whole_fin (x : Nat) (hf : finN x) (w : World) : Calls Tryz.prog 34 #[.float .f64 x] w fun e w' => e = .returned (.bool (wholeB x)) ∧ w = w' := by
  have o1 : FloatKind.f64.format.order x x = some .eq := by rw [order_num (read_num hf) (read_num hf), cmp_eq]
  have HT := Lib.hid (fun W => trunc_any x (by rw [o1]; simp) W)
  have HO := Lib.hid (whole_orders hf)
  have HW : Hid (wholeB x = ((FloatKind.f64.format.order x (truncN x) == some .eq) && ltB x)) := rfl
  clear hf o1
  cases ht : (FloatKind.f64.format.order x (truncN x) == some .eq) with
  | false =>
    have HW2 : Hid (wholeB x = false) := by unfold Hid; rw [HW.out, ht]; rfl
    go_enter Tryz.func34, Tryz.ntmps34
    go_wp2_with (go_at_call 24; refine (HT.out _).mono ?_; rintro e w' ⟨rfl, rfl⟩)
    go_ret
    exact ⟨ret_bool HW2.out.symm, rfl⟩
  | true =>
    rcases HO.out with ⟨hl, ha, hb⟩ | ⟨hl, ha | hb⟩
    · have HW2 : Hid (wholeB x = true) := by unfold Hid; rw [HW.out, ht, hl]; rfl
      clear hl
      go_enter Tryz.func34, Tryz.ntmps34
      go_wp2_with (go_at_call 24; refine (HT.out _).mono ?_; rintro e w' ⟨rfl, rfl⟩)
      go_ret
      exact ⟨ret_bool HW2.out.symm, rfl⟩
    · have HW2 : Hid (wholeB x = false) := by unfold Hid; rw [HW.out, ht, hl]; rfl
      clear hl
      go_enter Tryz.func34, Tryz.ntmps34
      go_wp2_with (go_at_call 24; refine (HT.out _).mono ?_; rintro e w' ⟨rfl, rfl⟩)
      go_ret
      exact ⟨ret_bool HW2.out.symm, rfl⟩
    · have HW2 : Hid (wholeB x = false) := by unfold Hid; rw [HW.out, ht, hl]; rfl
      clear hl
      cases ha : (FloatKind.f64.format.order x 14069741636278059008 == some .gt) with
      | false =>
        go_enter Tryz.func34, Tryz.ntmps34
        go_wp2_with (go_at_call 24; refine (HT.out _).mono ?_; rintro e w' ⟨rfl, rfl⟩)
        go_ret
        exact ⟨ret_bool HW2.out.symm, rfl⟩
      | true =>
        go_enter Tryz.func34, Tryz.ntmps34
        go_wp2_with (go_at_call 24; refine (HT.out _).mono ?_; rintro e w' ⟨rfl, rfl⟩)
        go_ret
        exact ⟨ret_bool HW2.out.symm, rfl⟩

theorem rwhole_fin (x : Nat) (hx : x < 18446744073709551616) (hf : finN x) (w : World) : Calls Tryz.prog 36 #[.float .f64 x] w fun e w' => e = .returned (.bool (wholeB x)) ∧ w = w' := by
  have o1 : FloatKind.f64.format.order x x = some .eq := by rw [order_num (read_num hf) (read_num hf), cmp_eq]
  have HT := Lib.hid (fun W => trunc_any x (by rw [o1]; simp) W)
  have HN := Lib.hid (fun W => rfinite_fin x hf W)
  have HA := Lib.hid (fun W => abs_any x hx W)
  have HW : Hid (wholeB x = ((FloatKind.f64.format.order x (truncN x) == some .eq) && (FloatKind.f64.format.order (absN x) 4846369599423283200 == some .lt))) := rfl
  clear hf o1 hx
  cases ht : (FloatKind.f64.format.order x (truncN x) == some .eq) with
  | false =>
    have HW2 : Hid (wholeB x = false) := by unfold Hid; rw [HW.out, ht]; rfl
    go_enter Tryz.func36, Tryz.ntmps36
    go_wp2_with (first | (go_at_call 37; refine (HN.out _).mono ?_; rintro e w' ⟨rfl, rfl⟩) | (go_at_call 24; refine (HT.out _).mono ?_; rintro e w' ⟨rfl, rfl⟩) | (go_at_call 41; refine (HA.out _).mono ?_; rintro e w' ⟨rfl, rfl⟩))
    go_ret
    exact ⟨ret_bool HW2.out.symm, rfl⟩
  | true =>
    cases hl : (FloatKind.f64.format.order (absN x) 4846369599423283200 == some .lt) with
    | false =>
      have HW2 : Hid (wholeB x = false) := by unfold Hid; rw [HW.out, ht, hl]; rfl
      go_enter Tryz.func36, Tryz.ntmps36
      go_wp2_with (first | (go_at_call 37; refine (HN.out _).mono ?_; rintro e w' ⟨rfl, rfl⟩) | (go_at_call 24; refine (HT.out _).mono ?_; rintro e w' ⟨rfl, rfl⟩) | (go_at_call 41; refine (HA.out _).mono ?_; rintro e w' ⟨rfl, rfl⟩))
      go_ret
      exact ⟨ret_bool HW2.out.symm, rfl⟩
    | true =>
      have HW2 : Hid (wholeB x = true) := by unfold Hid; rw [HW.out, ht, hl]; rfl
      go_enter Tryz.func36, Tryz.ntmps36
      go_wp2_with (first | (go_at_call 37; refine (HN.out _).mono ?_; rintro e w' ⟨rfl, rfl⟩) | (go_at_call 24; refine (HT.out _).mono ?_; rintro e w' ⟨rfl, rfl⟩) | (go_at_call 41; refine (HA.out _).mono ?_; rintro e w' ⟨rfl, rfl⟩))
      go_ret
      exact ⟨ret_bool HW2.out.symm, rfl⟩

theorem whole_inf (w : World) : Calls Tryz.prog 34 #[.float .f64 9218868437227405312] w fun e w' => e = .returned (.bool false) ∧ w = w' := by
  have o1 : FloatKind.f64.format.order 9218868437227405312 9218868437227405312 = some .eq := by kernel_rfl
  have o2 : FloatKind.f64.format.order 9218868437227405312 14069741636278059008 = some .gt := by kernel_rfl
  have o3 : FloatKind.f64.format.order 9218868437227405312 4846369599423283200 = some .gt := by kernel_rfl
  have ht : truncN 9218868437227405312 = 9218868437227405312 := by kernel_rfl
  have HT := Lib.hid (fun W => trunc_any 9218868437227405312 (by rw [o1]; simp) W)
  rw [ht] at HT
  go_enter Tryz.func34, Tryz.ntmps34
  go_wp2_with (go_at_call 24; refine (HT.out _).mono ?_; rintro e w' ⟨rfl, rfl⟩)
  go_ret
  exact ⟨rfl, rfl⟩

theorem whole_minf (w : World) : Calls Tryz.prog 34 #[.float .f64 18442240474082181120] w fun e w' => e = .returned (.bool false) ∧ w = w' := by
  have o1 : FloatKind.f64.format.order 18442240474082181120 18442240474082181120 = some .eq := by kernel_rfl
  have o2 : FloatKind.f64.format.order 18442240474082181120 14069741636278059008 = some .lt := by kernel_rfl
  have ht : truncN 18442240474082181120 = 18442240474082181120 := by kernel_rfl
  have HT := Lib.hid (fun W => trunc_any 18442240474082181120 (by rw [o1]; simp) W)
  rw [ht] at HT
  go_enter Tryz.func34, Tryz.ntmps34
  go_wp2_with (go_at_call 24; refine (HT.out _).mono ?_; rintro e w' ⟨rfl, rfl⟩)
  go_ret
  exact ⟨rfl, rfl⟩

theorem rwhole_non (x : Nat) (w : World) (hN : ∀ W, Calls Tryz.prog 37 #[.float .f64 x] W fun e w' => e = .returned (.bool false) ∧ W = w') : Calls Tryz.prog 36 #[.float .f64 x] w fun e w' => e = .returned (.bool false) ∧ w = w' := by
  have HN := Lib.hid hN
  clear hN
  go_enter Tryz.func36, Tryz.ntmps36
  go_wp2_with (go_at_call 37; refine (HN.out _).mono ?_; rintro e w' ⟨rfl, rfl⟩)
  go_ret
  exact ⟨rfl, rfl⟩

end Go.Proofs.YtdencljnbilchaaGreatDoor

namespace Go.Proofs.YtdencljnbilchaaGreatDoor
open Go.RowKit

theorem ext_trunc2 (x : Nat) : ∃ N : Bool → Nat → Sem Value, Go.Extern.MathFloor.toIntegral "math.archTrunc" .zero #[.float .f64 x] = Go.Extern.MathFloor.toIntegral.match_1 (motive := fun _ => Sem Value) (FloatKind.f64.decode x) (fun s t => N s t) (fun d => pure (.float .f64 (FloatKind.f64.encode (d.integral .zero)))) ∧
    ∀ s t w, ∃ y n, (N s t).run Tryz.prog w = .ok (.float .f64 y) (w.drewN n) := by
  refine ⟨_, rfl, fun s t w => ?_⟩
  split
  · exact ⟨x, 0, rfl⟩
  · exact ⟨_, 1, rfl⟩

theorem run_truncNaN (x : Nat) (s : Bool) (t : Nat) (hd : FloatKind.f64.decode x = .nan s t) (w : World) : ∃ y n, (callFunc 39 #[.float .f64 x]).run Tryz.prog w = .ok (.value (.float .f64 y)) (w.drewN n) := by
  obtain ⟨N, hN, h2⟩ := ext_trunc2 x
  obtain ⟨y, n, hr⟩ := h2 s t w
  refine ⟨y, n, ?_⟩
  rw [ext_trunc0, hN, hd]
  show Sem.run Tryz.prog (N s t >>= fun v => pure (Next.value v)) w = _
  simp only [Sem.run_bind, hr, Result.andThen_ok, Sem.run_pure]

set_option maxRecDepth 100000 in
theorem truncNaN_any (x : Nat) (hx : x < 18446744073709551616) (h : 9218868437227405312 < x % 9223372036854775808) (w : World) : Calls Tryz.prog 24 #[.float .f64 x] w fun e w' => ∃ y n, e = .returned (.float .f64 y) ∧ w' = w.drewN n := by
  obtain ⟨s, t, hd⟩ := read_nan hx h
  obtain ⟨y, n, e1⟩ := run_truncNaN x s t hd w
  clear hd h hx
  go_enter Tryz.func24, Tryz.ntmps24
  go_wp2_with (fail)
  go_ret
  exact ⟨y, n, rfl, rfl⟩

set_option maxRecDepth 100000 in
theorem whole_nan (x : Nat) (hx : x < 18446744073709551616) (h : 9218868437227405312 < x % 9223372036854775808) (w : World) : Calls Tryz.prog 34 #[.float .f64 x] w fun e w' => e = .returned (.bool false) ∧ Below w.heap.size w w' := by
  have HT := Lib.hid (truncNaN_any x hx h w)
  have HO := Lib.hid (fun y => nan_order hx h y)
  clear hx h
  go_enter Tryz.func34, Tryz.ntmps34
  go_wp2_with (go_at_call 24; refine HT.out.mono ?_; rintro e w' ⟨y, n, rfl, rfl⟩; have o1 := HO.out y)
  go_ret
  exact ⟨rfl, below_drewN (Below.refl _ _) _⟩

end Go.Proofs.YtdencljnbilchaaGreatDoor

namespace Go.Proofs.YtdencljnbilchaaGreatDoor
open Go.RowKit

theorem quiet_nan (s : Bool) {t : Nat} (ht : t < 4503599627370496) : FloatKind.f64.encode (.nan s (FloatKind.f64.format.quiet t)) < 18446744073709551616 ∧ 9218868437227405312 < FloatKind.f64.encode (.nan s (FloatKind.f64.format.quiet t)) % 9223372036854775808 := by
  have e1 : FloatKind.f64.format.signWeight = 9223372036854775808 := by decide
  have e3 : FloatKind.f64.format.infRung = 9218868437227405312 := by decide
  have hq1 : FloatKind.f64.format.quiet t < 2 ^ 52 := Nat.or_lt_two_pow (by omega) (by show (2251799813685248 : Nat) < _; omega)
  have hq2 : 2251799813685248 ≤ FloatKind.f64.format.quiet t := Nat.right_le_or
  generalize FloatKind.f64.format.quiet t = q at hq1 hq2
  have e2 : FloatKind.f64.format.binade = 4503599627370496 := by decide
  have e : FloatKind.f64.encode (.nan s q) = FloatKind.f64.format.word s (FloatKind.f64.format.infRung + q % FloatKind.f64.format.binade) := rfl
  rw [e, e3, e2, Nat.mod_eq_of_lt (show q < 4503599627370496 from hq1)]
  unfold Ieee.Format.word
  rw [e1]
  cases s
  · show 9218868437227405312 + q < _ ∧ _ < (9218868437227405312 + q) % _
    omega
  · show 9223372036854775808 + (9218868437227405312 + q) < _ ∧ _ < (9223372036854775808 + (9218868437227405312 + q)) % _
    omega

theorem ext_trunc3 (x : Nat) : ∃ N : Bool → Nat → Sem Value, Go.Extern.MathFloor.toIntegral "math.archTrunc" .zero #[.float .f64 x] = Go.Extern.MathFloor.toIntegral.match_1 (motive := fun _ => Sem Value) (FloatKind.f64.decode x) (fun s t => N s t) (fun d => pure (.float .f64 (FloatKind.f64.encode (d.integral .zero)))) ∧
    ∀ s t w, ∃ y n, (N s t).run Tryz.prog w = .ok (.float .f64 y) (w.drewN n) ∧ (y = x ∨ y = FloatKind.f64.encode (.nan s (FloatKind.f64.format.quiet t))) := by
  refine ⟨_, rfl, fun s t w => ?_⟩
  split
  · exact ⟨x, 0, rfl, .inl rfl⟩
  · refine ⟨_, 1, rfl, ?_⟩
    split
    · exact .inl rfl
    · exact .inr rfl

theorem read_nan_lt {x : Nat} {s : Bool} {t : Nat} (e : FloatKind.f64.format.read x = .nan s t) : t < 4503599627370496 := by
  unfold Ieee.Format.read at e
  have e1 : FloatKind.f64.format.signWeight = 9223372036854775808 := by decide
  have e2 : FloatKind.f64.format.binade = 4503599627370496 := by decide
  have e3 : FloatKind.f64.format.infRung = 9218868437227405312 := by decide
  simp only [e1, e2, e3] at e
  split at e
  · cases e
  · split at e
    · cases e
    · split at e
      · cases e
      · injection e with _ h; omega

theorem run_truncNone (x : Nat) (hx : x < 18446744073709551616) (h : 9218868437227405312 < x % 9223372036854775808) (w : World) :
    ∃ y n, (callFunc 39 #[.float .f64 x]).run Tryz.prog w = .ok (.value (.float .f64 y)) (w.drewN n) ∧ ∀ c, FloatKind.f64.format.order y c = none := by
  obtain ⟨s, t, hd⟩ := read_nan hx h
  obtain ⟨N, hN, h2⟩ := ext_trunc3 x
  obtain ⟨y, n, hr, hy⟩ := h2 s t w
  refine ⟨y, n, ?_, ?_⟩
  · have hd' : FloatKind.f64.decode x = .nan s t := hd
    rw [ext_trunc0, hN, hd']
    show Sem.run Tryz.prog (N s t >>= fun v => pure (Next.value v)) w = _
    simp only [Sem.run_bind, hr, Result.andThen_ok, Sem.run_pure]
  · rcases hy with rfl | rfl
    · exact nan_order hx h
    · obtain ⟨q1, q2⟩ := quiet_nan s (read_nan_lt hd)
      exact nan_order q1 q2

set_option maxRecDepth 100000 in
theorem truncNone_any (x : Nat) (hx : x < 18446744073709551616) (h : 9218868437227405312 < x % 9223372036854775808) (w : World) : Calls Tryz.prog 24 #[.float .f64 x] w fun e w' => ∃ y n, e = .returned (.float .f64 y) ∧ (∀ c, FloatKind.f64.format.order y c = none) ∧ w' = w.drewN n := by
  obtain ⟨y, n, e1, hy⟩ := run_truncNone x hx h w
  have HY := Lib.hid hy
  clear hy h hx
  go_enter Tryz.func24, Tryz.ntmps24
  go_wp2_with (fail)
  go_ret
  exact ⟨y, n, rfl, HY.out, rfl⟩

end Go.Proofs.YtdencljnbilchaaGreatDoor

namespace Go.Proofs.YtdencljnbilchaaGreatDoor
open Go.RowKit

/-- The library's tables, and what TrailingZeros reads at 8 and 16. -/
structure LaidJ (w : World) : Prop where
  lg : LaidG w
  z8 : w.cell? ⟨10, 7, none⟩ = some (.int .u8 3)
  z16 : w.cell? ⟨10, 15, none⟩ = some (.int .u8 4)

theorem LaidJ.below {w w' : World} (h : LaidJ w) (hb : Below w.heap.size w w') : LaidJ w' := by
  obtain ⟨h1, h2, h3⟩ := h
  have keep : ∀ (a : Addr) (v : Value), w.cell? a = some v → w'.cell? a = some v := fun a v hv => by
    rw [hb.cell (World.block_lt_of_cell? w a hv)]; exact hv
  exact ⟨h1.below hb, keep _ _ h2, keep _ _ h3⟩

def digC (d : Nat) : UInt8 := UInt8.ofNat (if d < 10 then 48 + d else 87 + d)
theorem digit36 : ∀ (d : Nat) (h : d < ({ data := #[48, 49, 50, 51, 52, 53, 54, 55, 56, 57, 97, 98, 99, 100, 101, 102, 103, 104, 105, 106, 107, 108, 109, 110, 111, 112, 113, 114, 115, 116, 117, 118, 119, 120, 121, 122] } : ByteArray).size), ({ data := #[48, 49, 50, 51, 52, 53, 54, 55, 56, 57, 97, 98, 99, 100, 101, 102, 103, 104, 105, 106, 107, 108, 109, 110, 111, 112, 113, 114, 115, 116, 117, 118, 119, 120, 121, 122] } : ByteArray)[d] = digC d := by
  have key : ∀ d : Fin 36, (({ data := #[48, 49, 50, 51, 52, 53, 54, 55, 56, 57, 97, 98, 99, 100, 101, 102, 103, 104, 105, 106, 107, 108, 109, 110, 111, 112, 113, 114, 115, 116, 117, 118, 119, 120, 121, 122] } : ByteArray).get d.1 d.2) = digC d.1 := by decide +kernel
  exact fun d h => key ⟨d, h⟩

theorem baseT_step {g V b : Nat} (hg : 0 < g) (h : b ≤ V) : baseT g V b = baseT (g - 1) (V / b) b ++ [digC (V % b)] := by
  obtain ⟨g', rfl⟩ : ∃ g', g = g' + 1 := ⟨g - 1, by omega⟩
  rw [baseT, if_neg (by omega)]; rfl
theorem baseT_last {g V b : Nat} (hg : 0 < g) (h : V < b) : baseT g V b = [digC V] := by
  obtain ⟨g', rfl⟩ : ∃ g', g = g' + 1 := ⟨g - 1, by omega⟩
  rw [baseT, if_pos h]; rfl

theorem tz8_any (w : World) (h : LaidJ w) : Calls Tryz.prog 140 #[.int .u64 8] w fun e w' => e = .returned (.int .i64 3) ∧ w = w' := by
  have c := h.z8
  have e1 : bits BinOp.and IntKind.u64 8 (IntKind.u64.wrap (-8)) = 8 := by kernel_rfl
  have e2 : IntKind.u64.wrap (8 * 285870213051353865) / 288230376151711744 = 7 := by kernel_rfl
  have e3 : IntKind.u64.wrap 2286961704410830920 / 288230376151711744 = 7 := by kernel_rfl
  clear h
  go_enter Tryz.func140, Tryz.ntmps140
  go_wp2
  go_ret
  exact ⟨rfl, rfl⟩

theorem tzu8_any (w : World) (h : LaidJ w) : Calls Tryz.prog 132 #[.int .u64 8] w fun e w' => e = .returned (.int .i64 3) ∧ w = w' := by
  have HT := Lib.hid (tz8_any w h)
  clear h
  go_enter Tryz.func132, Tryz.ntmps132
  go_wp2_with (go_at_call 140; refine HT.out.mono ?_; rintro e w' ⟨rfl, rfl⟩)
  go_ret
  exact ⟨rfl, rfl⟩

theorem pow8_any (w : World) : Calls Tryz.prog 131 #[.int .i64 8] w fun e w' => e = .returned (.bool true) ∧ w = w' := by
  have e0 : (bits BinOp.and IntKind.i64 8 7 == 0) = true := by kernel_rfl
  go_enter Tryz.func131, Tryz.ntmps131
  go_wp2
  go_ret
  exact ⟨rfl, rfl⟩

theorem slice_65 (W : World) (b k : Nat) (hk : k < 65) : Sem.run Tryz.prog (Instr.sliceAt 167 (.pointer (some ⟨b, 0, none⟩)) (some (.int .i64 k)) none none) W = .ok (.slice (some ⟨b, k, none⟩) (65 - k) (65 - k)) W := by
  have h2 : Tryz.prog.arrayLen 167 = 65 := by kernel_rfl
  have h3 : Tryz.prog.elem 167 = 5 := by kernel_rfl
  have h := run_sliceAt_array_l (P := Tryz.prog) W 167 ⟨b, 0, none⟩ (by rw [h2, h3]; exact Tryz.underlying167) .i64 k (by omega) (by rw [h2]; omega)
  rw [h, h2, h3]
  obtain ⟨i0, hi0, hz0, hz1, hz2⟩ := info_parts Tryz.info_u8
  simp [go_sem, slicedAt, sizeOf, typeInfo, hi0, Addr.add, hz1]
  rw [if_neg (by omega)]
  split
  · rename_i h0; rw [h0]
  · rfl

/-- The bytes from a place on, as a string. -/
theorem conv_65 (W : World) (b k : Nat) (g : Nat → Nat) (h : BufF W b g 65) (l : List UInt8) (hl : l.length = 65 - k) (hg : ∀ q (h : q < l.length), g (k + q) = l[q].toNat) :
    Sem.run Tryz.prog (convert 33 9 (.slice (some ⟨b, k, none⟩) (65 - k) (65 - k))) W = .ok (.string ⟨l.toArray⟩) W := by
  rw [← strOfNums_u8]
  refine run_convert_bytes_arg W 33 5 Tryz.underlying33 Tryz.underlying5 b k (65 - k) (65 - k) _ (by simp [hl]) (fun i hi => ?_) 9 Tryz.underlying9
  rw [h.d (k + i) (by omega), hg i (by omega)]
  simp [show i < l.length by omega]

/-- While the number is not below the base. -/
def Bits8 (u : Nat) (w : World) (j V : Nat) (wr : World) : Prop :=
  V < 8 ^ (22 - j) ∧ Below w.heap.size w wr ∧ w.heap.size < wr.heap.size ∧ ∃ T : List UInt8, T.length = j ∧ uintT u 8 = baseT (64 - j) V 8 ++ T ∧ ∃ g, BufF wr w.heap.size g 65 ∧ ∀ q (h : q < T.length), g (65 - j + q) = T[q].toNat

set_option maxRecDepth 100000 in
set_option maxHeartbeats 4000000 in
theorem bits8_any (u : Nat) (w : World) (hL : LaidJ w) (hu : u < 18446744073709551616) : Calls Tryz.prog 103 #[.slice none 0 0, .int .u64 u, .int .i64 8, .bool false, .bool false] w fun e w' => e = .returned (.tuple #[.slice none 0 0, .string ⟨(uintT u 8).toArray⟩]) ∧ Below w.heap.size w w' := by
  have HL := Lib.hid hL
  clear hL
  go_enter Tryz.func103, Tryz.ntmps103
  go_wp2_with (first | (go_at_call 131; refine (pow8_any _).mono ?_; rintro e w' ⟨rfl, rfl⟩) | (go_at_call 132; refine (tzu8_any _ (HL.out.below ((Below.refl _ _).alloc (Nat.le_refl _) _))).mono ?_; rintro e w' ⟨rfl, rfl⟩))
  go_loopg [13, 1] 21 (fun gk i x wr => ∃ (j ix V : Nat), gk + j = 21 ∧ ix + j = 65 ∧ i = .int .i64 ix ∧ x = .int .u64 V ∧ V < 18446744073709551616 ∧ Hid (Bits8 u w j V wr))
  case atStart =>
    refine ⟨0, 65, u, by omega, by omega, rfl, rfl, hu, ?_, (Below.refl _ _).alloc (Nat.le_refl _) _, by simp, [], rfl, by rw [List.append_nil]; rfl, _, bufF_zero w _ 65 _ (by kernel_rfl), fun q h => absurd h (by simp)⟩
    exact Nat.lt_of_lt_of_le hu (by decide)
  case round =>
    obtain ⟨j, ix, V, hj, hix, rfl, rfl, hV, HB⟩ := hrel
    by_cases hge : 8 ≤ V
    · have hb := HB.out
      obtain ⟨k, rfl⟩ : ∃ k, ix = k + 1 := ⟨ix - 1, by omega⟩
      have hk65 : k < 65 := by omega
      have hj20 : j ≤ 20 := by
        rcases Nat.lt_or_ge 20 j with h | h
        · have h1 := hb.1
          rw [show 22 - j = 1 by omega, Nat.pow_one] at h1
          omega
        · exact h
      obtain ⟨hpw, hbel, hsz, T, hT, hU, g, hG, hg⟩ := hb
      have HPW := Lib.hid hpw
      have HBS := Lib.hid (And.intro hbel hsz)
      have ck := hG.d k hk65
      have fk := hG.fz k
      have hd := bits_and_u64_nat V 7 hV (by omega)
      obtain ⟨dg, hdg⟩ : ∃ dg, V % 8 = dg := ⟨_, rfl⟩
      have hd2 : bits BinOp.and IntKind.u64 (V : Int) 7 = (dg : Int) := by
        rw [← hdg]
        refine hd.trans ?_
        rw [show (7 : Nat) = 2 ^ 3 - 1 by decide, Nat.and_two_pow_sub_one_eq_mod]
      have hdl : dg < 8 := by omega
      have HG := Lib.hid hG
      have Hg := Lib.hid hg
      have HU := Lib.hid hU
      clear hd hG hg hU hpw hbel hsz
      obtain ⟨gk', rfl⟩ : ∃ gk', gk = gk' + 1 := ⟨gk - 1, by omega⟩
      as_aux_lemma =>
        go_wp2
        go_roundg gk'
        case measure => omega
        case rel =>
          refine ⟨j + 1, k, V / 8, by omega, by omega, rfl, by go_num, by omega, ?_, HBS.out.1.setCell (p := ⟨w.heap.size, k, none⟩) (Nat.le_refl _) _, by have := HBS.out.2; simpa using this, digC dg :: T, by rw [List.length_cons, hT], ?_, _, HG.out.set hk65 _, fun q hq => ?_⟩
          · have h1 := HPW.out
            rw [show 22 - j = (22 - (j + 1)) + 1 by omega, Nat.pow_succ] at h1
            exact Nat.div_lt_of_lt_mul (by rw [Nat.mul_comm]; exact h1)
          · rw [HU.out, baseT_step (by omega) hge, show 64 - j - 1 = 64 - (j + 1) by omega, hdg, List.append_assoc]; rfl
          · cases q with
            | zero =>
              rw [show 65 - (j + 1) + 0 = k by omega, upd_same]
              exact congrArg UInt8.toNat (digit36 dg (by show dg < 36; omega))
            | succ q =>
              rw [upd_other _ _ (by omega), show 65 - (j + 1) + (q + 1) = 65 - j + q by omega]
              exact Hg.out q (by simpa using hq)
    · have hb := HB.out
      obtain ⟨k, rfl⟩ : ∃ k, ix = k + 1 := ⟨ix - 1, by omega⟩
      have hk65 : k < 65 := by omega
      have hV36 : V < 36 := by omega
      obtain ⟨_, hbel, hsz, T, hT, hU, g, hG, hg⟩ := hb
      have ck := hG.d k hk65
      have fk := hG.fz k
      have HBS := Lib.hid (And.intro hbel hsz)
      have HG := Lib.hid hG
      have Hg := Lib.hid hg
      have HU := Lib.hid hU
      have hS := slice_65
      have hgk : ∀ q (h : q < (digC V :: T).length), upd g k (digC V).toNat (k + q) = (digC V :: T)[q].toNat := fun q hq => by
        cases q with
        | zero => rw [Nat.add_zero, upd_same]; rfl
        | succ q =>
          rw [upd_other _ _ (by omega), show k + (q + 1) = 65 - j + q by omega]
          exact hg q (by simpa using hq)
      have hC := conv_65 _ w.heap.size k _ (hG.set hk65 (digC V).toNat) (digC V :: T) (by rw [List.length_cons, hT]; omega) hgk
      have hD : ({ data := #[48, 49, 50, 51, 52, 53, 54, 55, 56, 57, 97, 98, 99, 100, 101, 102, 103, 104, 105, 106, 107, 108, 109, 110, 111, 112, 113, 114, 115, 116, 117, 118, 119, 120, 121, 122] } : ByteArray)[V]'hV36 = digC V := digit36 V hV36
      have HE : Hid (uintT u 8 = digC V :: T) := by unfold Hid; rw [hU, baseT_last (by omega) (by omega)]; rfl
      clear hG hg hU hbel hsz hgk
      as_aux_lemma =>
        go_wp2
        go_ret2
        exact ⟨by rw [HE.out]; rfl, HBS.out.1.setCell (p := ⟨w.heap.size, k, none⟩) (Nat.le_refl _) _⟩

theorem tz16_any (w : World) (h : LaidJ w) : Calls Tryz.prog 140 #[.int .u64 16] w fun e w' => e = .returned (.int .i64 4) ∧ w = w' := by
  have c := h.z16
  have e1 : bits BinOp.and IntKind.u64 16 (IntKind.u64.wrap (-16)) = 16 := by kernel_rfl
  have e2 : IntKind.u64.wrap (16 * 285870213051353865) / 288230376151711744 = 15 := by kernel_rfl
  have e3 : IntKind.u64.wrap 4573923408821661840 / 288230376151711744 = 15 := by kernel_rfl
  clear h
  go_enter Tryz.func140, Tryz.ntmps140
  go_wp2
  go_ret
  exact ⟨rfl, rfl⟩

theorem tzu16_any (w : World) (h : LaidJ w) : Calls Tryz.prog 132 #[.int .u64 16] w fun e w' => e = .returned (.int .i64 4) ∧ w = w' := by
  have HT := Lib.hid (tz16_any w h)
  clear h
  go_enter Tryz.func132, Tryz.ntmps132
  go_wp2_with (go_at_call 140; refine HT.out.mono ?_; rintro e w' ⟨rfl, rfl⟩)
  go_ret
  exact ⟨rfl, rfl⟩

theorem pow16_any (w : World) : Calls Tryz.prog 131 #[.int .i64 16] w fun e w' => e = .returned (.bool true) ∧ w = w' := by
  have e0 : (bits BinOp.and IntKind.i64 16 15 == 0) = true := by kernel_rfl
  go_enter Tryz.func131, Tryz.ntmps131
  go_wp2
  go_ret
  exact ⟨rfl, rfl⟩

/-- While the number is not below the base. -/
def Bits16 (u : Nat) (w : World) (j V : Nat) (wr : World) : Prop :=
  V < 16 ^ (22 - j) ∧ Below w.heap.size w wr ∧ w.heap.size < wr.heap.size ∧ ∃ T : List UInt8, T.length = j ∧ uintT u 16 = baseT (64 - j) V 16 ++ T ∧ ∃ g, BufF wr w.heap.size g 65 ∧ ∀ q (h : q < T.length), g (65 - j + q) = T[q].toNat

set_option maxRecDepth 100000 in
set_option maxHeartbeats 4000000 in
theorem bits16_any (u : Nat) (w : World) (hL : LaidJ w) (hu : u < 18446744073709551616) : Calls Tryz.prog 103 #[.slice none 0 0, .int .u64 u, .int .i64 16, .bool false, .bool false] w fun e w' => e = .returned (.tuple #[.slice none 0 0, .string ⟨(uintT u 16).toArray⟩]) ∧ Below w.heap.size w w' := by
  have HL := Lib.hid hL
  clear hL
  go_enter Tryz.func103, Tryz.ntmps103
  go_wp2_with (first | (go_at_call 131; refine (pow16_any _).mono ?_; rintro e w' ⟨rfl, rfl⟩) | (go_at_call 132; refine (tzu16_any _ (HL.out.below ((Below.refl _ _).alloc (Nat.le_refl _) _))).mono ?_; rintro e w' ⟨rfl, rfl⟩))
  go_loopg [13, 1] 21 (fun gk i x wr => ∃ (j ix V : Nat), gk + j = 21 ∧ ix + j = 65 ∧ i = .int .i64 ix ∧ x = .int .u64 V ∧ V < 18446744073709551616 ∧ Hid (Bits16 u w j V wr))
  case atStart =>
    refine ⟨0, 65, u, by omega, by omega, rfl, rfl, hu, ?_, (Below.refl _ _).alloc (Nat.le_refl _) _, by simp, [], rfl, by rw [List.append_nil]; rfl, _, bufF_zero w _ 65 _ (by kernel_rfl), fun q h => absurd h (by simp)⟩
    exact Nat.lt_of_lt_of_le hu (by decide)
  case round =>
    obtain ⟨j, ix, V, hj, hix, rfl, rfl, hV, HB⟩ := hrel
    by_cases hge : 16 ≤ V
    · have hb := HB.out
      obtain ⟨k, rfl⟩ : ∃ k, ix = k + 1 := ⟨ix - 1, by omega⟩
      have hk65 : k < 65 := by omega
      have hj20 : j ≤ 20 := by
        rcases Nat.lt_or_ge 20 j with h | h
        · have h1 := hb.1
          rw [show 22 - j = 1 by omega, Nat.pow_one] at h1
          omega
        · exact h
      obtain ⟨hpw, hbel, hsz, T, hT, hU, g, hG, hg⟩ := hb
      have HPW := Lib.hid hpw
      have HBS := Lib.hid (And.intro hbel hsz)
      have ck := hG.d k hk65
      have fk := hG.fz k
      have hd := bits_and_u64_nat V 15 hV (by omega)
      obtain ⟨dg, hdg⟩ : ∃ dg, V % 16 = dg := ⟨_, rfl⟩
      have hd2 : bits BinOp.and IntKind.u64 (V : Int) 15 = (dg : Int) := by
        rw [← hdg]
        refine hd.trans ?_
        rw [show (15 : Nat) = 2 ^ 4 - 1 by decide, Nat.and_two_pow_sub_one_eq_mod]
      have hdl : dg < 16 := by omega
      have HG := Lib.hid hG
      have Hg := Lib.hid hg
      have HU := Lib.hid hU
      clear hd hG hg hU hpw hbel hsz
      obtain ⟨gk', rfl⟩ : ∃ gk', gk = gk' + 1 := ⟨gk - 1, by omega⟩
      as_aux_lemma =>
        go_wp2
        go_roundg gk'
        case measure => omega
        case rel =>
          refine ⟨j + 1, k, V / 16, by omega, by omega, rfl, by go_num, by omega, ?_, HBS.out.1.setCell (p := ⟨w.heap.size, k, none⟩) (Nat.le_refl _) _, by have := HBS.out.2; simpa using this, digC dg :: T, by rw [List.length_cons, hT], ?_, _, HG.out.set hk65 _, fun q hq => ?_⟩
          · have h1 := HPW.out
            rw [show 22 - j = (22 - (j + 1)) + 1 by omega, Nat.pow_succ] at h1
            exact Nat.div_lt_of_lt_mul (by rw [Nat.mul_comm]; exact h1)
          · rw [HU.out, baseT_step (by omega) hge, show 64 - j - 1 = 64 - (j + 1) by omega, hdg, List.append_assoc]; rfl
          · cases q with
            | zero =>
              rw [show 65 - (j + 1) + 0 = k by omega, upd_same]
              exact congrArg UInt8.toNat (digit36 dg (by show dg < 36; omega))
            | succ q =>
              rw [upd_other _ _ (by omega), show 65 - (j + 1) + (q + 1) = 65 - j + q by omega]
              exact Hg.out q (by simpa using hq)
    · have hb := HB.out
      obtain ⟨k, rfl⟩ : ∃ k, ix = k + 1 := ⟨ix - 1, by omega⟩
      have hk65 : k < 65 := by omega
      have hV36 : V < 36 := by omega
      obtain ⟨_, hbel, hsz, T, hT, hU, g, hG, hg⟩ := hb
      have ck := hG.d k hk65
      have fk := hG.fz k
      have HBS := Lib.hid (And.intro hbel hsz)
      have HG := Lib.hid hG
      have Hg := Lib.hid hg
      have HU := Lib.hid hU
      have hS := slice_65
      have hgk : ∀ q (h : q < (digC V :: T).length), upd g k (digC V).toNat (k + q) = (digC V :: T)[q].toNat := fun q hq => by
        cases q with
        | zero => rw [Nat.add_zero, upd_same]; rfl
        | succ q =>
          rw [upd_other _ _ (by omega), show k + (q + 1) = 65 - j + q by omega]
          exact hg q (by simpa using hq)
      have hC := conv_65 _ w.heap.size k _ (hG.set hk65 (digC V).toNat) (digC V :: T) (by rw [List.length_cons, hT]; omega) hgk
      have hD : ({ data := #[48, 49, 50, 51, 52, 53, 54, 55, 56, 57, 97, 98, 99, 100, 101, 102, 103, 104, 105, 106, 107, 108, 109, 110, 111, 112, 113, 114, 115, 116, 117, 118, 119, 120, 121, 122] } : ByteArray)[V]'hV36 = digC V := digit36 V hV36
      have HE : Hid (uintT u 16 = digC V :: T) := by unfold Hid; rw [hU, baseT_last (by omega) (by omega)]; rfl
      clear hG hg hU hbel hsz hgk
      as_aux_lemma =>
        go_wp2
        go_ret2
        exact ⟨by rw [HE.out]; rfl, HBS.out.1.setCell (p := ⟨w.heap.size, k, none⟩) (Nat.le_refl _) _⟩

theorem iuint8_any (u : Nat) (w : World) (hL : LaidJ w) (hu : u < 18446744073709551616) : Calls Tryz.prog 74 #[.int .u64 u, .int .i64 8] w fun e w' => e = .returned (.string ⟨(uintT u 8).toArray⟩) ∧ Below w.heap.size w w' := by
  have HB := Lib.hid (bits8_any u w hL hu)
  clear hL
  go_enter Tryz.func74, Tryz.ntmps74
  go_wp2_with (go_at_call 103; refine HB.out.mono ?_; rintro e w' ⟨rfl, hb⟩)
  go_ret
  exact ⟨rfl, hb⟩

theorem uint8_any (u : Nat) (w : World) (hL : LaidJ w) (hu : u < 18446744073709551616) : Calls Tryz.prog 57 #[.int .u64 u, .int .i64 8] w fun e w' => e = .returned (.string ⟨(uintT u 8).toArray⟩) ∧ Below w.heap.size w w' := by
  have HB := Lib.hid (iuint8_any u w hL hu)
  clear hL
  go_enter Tryz.func57, Tryz.ntmps57
  go_wp2_with (go_at_call 74; refine HB.out.mono ?_; rintro e w' ⟨rfl, hb⟩)
  go_ret
  exact ⟨rfl, hb⟩

theorem iuint16_any (u : Nat) (w : World) (hL : LaidJ w) (hu : u < 18446744073709551616) : Calls Tryz.prog 74 #[.int .u64 u, .int .i64 16] w fun e w' => e = .returned (.string ⟨(uintT u 16).toArray⟩) ∧ Below w.heap.size w w' := by
  have HB := Lib.hid (bits16_any u w hL hu)
  clear hL
  go_enter Tryz.func74, Tryz.ntmps74
  go_wp2_with (go_at_call 103; refine HB.out.mono ?_; rintro e w' ⟨rfl, hb⟩)
  go_ret
  exact ⟨rfl, hb⟩

theorem uint16_any (u : Nat) (w : World) (hL : LaidJ w) (hu : u < 18446744073709551616) : Calls Tryz.prog 57 #[.int .u64 u, .int .i64 16] w fun e w' => e = .returned (.string ⟨(uintT u 16).toArray⟩) ∧ Below w.heap.size w w' := by
  have HB := Lib.hid (iuint16_any u w hL hu)
  clear hL
  go_enter Tryz.func57, Tryz.ntmps57
  go_wp2_with (go_at_call 74; refine HB.out.mono ?_; rintro e w' ⟨rfl, hb⟩)
  go_ret
  exact ⟨rfl, hb⟩

theorem digC_bd : ∀ d, d < 16 → (digC d).toNat < 128 ∧ (48 ≤ (digC d).toNat) := by decide
theorem baseT_ascii (b : Nat) (hb : b ≤ 16) (h0 : 0 < b) : ∀ g V, ∀ c ∈ baseT g V b, c.toNat < 128
  | 0, _, c, h => by cases h
  | g + 1, V, c, h => by
    by_cases hV : b ≤ V
    · rw [baseT_step (by omega) hV, List.mem_append] at h
      rcases h with h | h
      · exact baseT_ascii b hb h0 _ _ c (by rwa [Nat.add_sub_cancel] at h)
      · rw [List.mem_singleton] at h; subst h
        exact (digC_bd _ (Nat.lt_of_lt_of_le (Nat.mod_lt _ h0) hb)).1
    · rw [baseT_last (by omega) (by omega), List.mem_singleton] at h
      subst h
      exact (digC_bd _ (by omega)).1
theorem baseT_len (b : Nat) : ∀ g V, (baseT g V b).length ≤ g
  | 0, _ => by simp [baseT]
  | g + 1, V => by
    rw [baseT]
    split
    · simp
    · have := baseT_len b g (V / b); simp; omega

end Go.Proofs.YtdencljnbilchaaGreatDoor

namespace Go.Proofs.YtdencljnbilchaaGreatDoor

theorem formT_plain (uT : Nat → Nat → List UInt8) (A : List FArg) : ∀ (t pre : List UInt8) (g : Nat), (∀ c ∈ t, c ≠ 37) → t.length + 2 ≤ g →
    formT uT (pre ++ (t ++ [37, 37])) g pre.length A = some (t ++ [37])
  | [], pre, g, _, hg => by
    obtain ⟨g', rfl⟩ : ∃ g', g = g' + 2 := ⟨g - 2, by simp at hg; omega⟩
    have h0 : (pre ++ ([] ++ [37, 37]))[pre.length]? = some 37 := by simp
    have h1 : (pre ++ ([] ++ [37, 37]))[pre.length + 1]? = some 37 := by simp
    have hl : ¬ (pre ++ ([] ++ [37, 37])).length ≤ pre.length := by simp
    have hl2 : (pre ++ ([] ++ [37, 37])).length ≤ pre.length + 2 := by simp
    rw [formT, if_neg hl, if_neg (by rw [h0]; simp), if_pos h1, formT, if_pos hl2]
    rfl
  | c :: t, pre, g, ht, hg => by
    obtain ⟨g', rfl⟩ : ∃ g', g = g' + 1 := ⟨g - 1, by simp at hg; omega⟩
    have hc : c ≠ 37 := ht c (List.mem_cons_self ..)
    have h0 : (pre ++ (c :: t ++ [37, 37]))[pre.length]? = some c := by simp
    have hl : ¬ (pre ++ (c :: t ++ [37, 37])).length ≤ pre.length := by simp
    have ih := formT_plain uT A t (pre ++ [c]) g' (fun d hd => ht d (List.mem_cons_of_mem _ hd)) (by simp at hg; omega)
    have e : pre ++ [c] ++ (t ++ [37, 37]) = pre ++ (c :: t ++ [37, 37]) := by simp
    rw [e, List.length_append, List.length_singleton] at ih
    rw [formT, if_neg hl, if_pos (by rw [h0]; simpa using hc), ih]
    have hgd : (pre ++ (c :: t ++ [37, 37])).getD pre.length 0 = c := by rw [List.getD_eq_getElem?_getD, h0]; rfl
    rw [hgd]; rfl

theorem fillT_len (left zero nou : Bool) (width : Nat) (sign body : List UInt8) : (fillT left zero nou width sign body).length = max width (sign.length + body.length) := by
  unfold fillT blanksL
  split
  · simp; omega
  · split
    · simp; omega
    · split
      · simp [zerosL_len]; omega
      · simp; omega

/-- A number's digits as a width. -/
theorem sat_dec (w N : Nat) (hw : w ≤ 200) (h2 : w < 10 ^ N) : ∀ j, j ≤ N → (digsL (dgf w N) 0 j).foldl (fun n c => min (10 * n + (c.toNat - 48)) 201) 0 = w / 10 ^ (N - j)
  | 0, _ => by rw [Nat.sub_zero, Nat.div_eq_of_lt h2]; rfl
  | j + 1, hj => by
    rw [digsL_succ, List.foldl_append, sat_dec w N hw h2 j (by omega)]
    simp only [List.foldl_cons, List.foldl_nil, Nat.zero_add]
    rw [dgf_byte]
    have e : 10 * (w / 10 ^ (N - j)) + (dgf w N j - 48) = w / 10 ^ (N - (j + 1)) := by
      unfold dgf
      rw [show N - 1 - j = N - (j + 1) by omega, show N - j = (N - (j + 1)) + 1 by omega, Nat.pow_succ, ← Nat.div_div_eq_div_mul]
      omega
    rw [e]
    have : w / 10 ^ (N - (j + 1)) ≤ w := Nat.div_le_self _ _
    omega

theorem satN_dec (w : Nat) (h0 : 0 < w) (hw : w ≤ 200) : satN (decL w) = w := by
  obtain ⟨_, _, _, n4, _⟩ := ndN_ok w h0 (by omega)
  have := sat_dec w (ndN w) hw n4 (ndN w) (Nat.le_refl _)
  rw [Nat.sub_self, Nat.pow_zero, Nat.div_one] at this
  exact this

end Go.Proofs.YtdencljnbilchaaGreatDoor

namespace Go.Proofs.YtdencljnbilchaaGreatDoor

/-- What the writer has come to, after the text t: out, and whether it is too long. -/
def WrR (t out : List UInt8) (long : Bool) : Prop := long = decide (256 < t.length) ∧ out.length ≤ 256 ∧ (long = false → out = t)

theorem WrR.start : WrR [] [] false := ⟨rfl, by simp, fun _ => rfl⟩
theorem WrR.full {t out s : List UInt8} {long : Bool} (h : WrR t out long) (hs : 256 - out.length < s.length) : WrR (t ++ s) out true := by
  obtain ⟨h1, h2, h3⟩ := h
  refine ⟨?_, h2, fun h => by cases h⟩
  symm; apply decide_eq_true
  rw [List.length_append]
  cases long with
  | true => have := of_decide_eq_true h1.symm; omega
  | false => rw [h3 rfl] at hs h2; omega
theorem WrR.skip {t out s : List UInt8} (h : WrR t out true) : WrR (t ++ s) out true := by
  obtain ⟨h1, h2, _⟩ := h
  refine ⟨?_, h2, fun h => by cases h⟩
  symm; apply decide_eq_true
  rw [List.length_append]
  have := of_decide_eq_true h1.symm; omega
theorem WrR.put {t out s : List UInt8} (h : WrR t out false) (hs : s.length ≤ 256 - out.length) : WrR (t ++ s) (out ++ s) false := by
  obtain ⟨h1, h2, h3⟩ := h
  have e := h3 rfl
  subst e
  refine ⟨?_, by rw [List.length_append]; omega, fun _ => rfl⟩
  symm; apply decide_eq_false
  rw [List.length_append]; omega

/-- The text t is what the format tells up to the place k; A: the arguments left. -/
def FormR (uT : Nat → Nat → List UInt8) (l : List UInt8) (A0 : List FArg) (t : List UInt8) (k : Nat) (A : List FArg) : Prop :=
  k ≤ l.length ∧ ∃ g, l.length - k < g ∧ formT uT l (l.length + 1) 0 A0 = (formT uT l g k A).map (t ++ ·)

theorem FormR.start (uT : Nat → Nat → List UInt8) (l : List UInt8) (A : List FArg) : FormR uT l A [] 0 A := by
  refine ⟨by omega, l.length + 1, by omega, ?_⟩
  cases formT uT l (l.length + 1) 0 A <;> simp

theorem FormR.done {uT : Nat → Nat → List UInt8} {l : List UInt8} {A0 A : List FArg} {t : List UInt8} {k : Nat} (h : FormR uT l A0 t k A) (hk : l.length ≤ k) : formT uT l (l.length + 1) 0 A0 = some t := by
  obtain ⟨_, g, hg, e⟩ := h
  obtain ⟨g', rfl⟩ : ∃ g', g = g' + 1 := ⟨g - 1, by omega⟩
  rw [e, formT, if_pos hk]; simp

theorem FormR.char {uT : Nat → Nat → List UInt8} {l : List UInt8} {A0 A : List FArg} {t : List UInt8} {k : Nat} {c : UInt8} (h : FormR uT l A0 t k A) (hc : l[k]? = some c) (h37 : c ≠ 37) : FormR uT l A0 (t ++ [c]) (k + 1) A := by
  obtain ⟨_, g, hg, e⟩ := h
  obtain ⟨g', rfl⟩ : ∃ g', g = g' + 1 := ⟨g - 1, by omega⟩
  have hlt := (List.getElem?_eq_some_iff.1 hc).1
  refine ⟨hlt, g', by omega, ?_⟩
  have hgd : l.getD k 0 = c := by rw [List.getD_eq_getElem?_getD, hc]; rfl
  rw [e, formT, if_neg (by omega), if_pos (by rw [hc]; simpa using h37), hgd]
  cases formT uT l g' (k + 1) A <;> simp

theorem FormR.pct {uT : Nat → Nat → List UInt8} {l : List UInt8} {A0 A : List FArg} {t : List UInt8} {k : Nat} (h : FormR uT l A0 t k A) (hc : l[k]? = some 37) (h1 : l[k + 1]? = some 37) : FormR uT l A0 (t ++ [37]) (k + 2) A := by
  obtain ⟨_, g, hg, e⟩ := h
  obtain ⟨g', rfl⟩ : ∃ g', g = g' + 1 := ⟨g - 1, by omega⟩
  have hlt := (List.getElem?_eq_some_iff.1 h1).1
  refine ⟨hlt, g', by omega, ?_⟩
  rw [e, formT, if_neg (by omega), if_neg (by rw [hc]; simp), if_pos h1]
  cases formT uT l g' (k + 2) A <;> simp

theorem FormR.bad {uT : Nat → Nat → List UInt8} {l : List UInt8} {A0 A : List FArg} {t : List UInt8} {k : Nat} (h : FormR uT l A0 t k A) (hc : l[k]? = some 37) (h1 : l[k + 1]? ≠ some 37) (hr : readT l (k + 1) A = none) : formT uT l (l.length + 1) 0 A0 = none := by
  obtain ⟨_, g, hg, e⟩ := h
  obtain ⟨g', rfl⟩ : ∃ g', g = g' + 1 := ⟨g - 1, by omega⟩
  have hlt := (List.getElem?_eq_some_iff.1 hc).1
  rw [e, formT, if_neg (by omega), if_neg (by rw [hc]; simp), if_neg h1, hr]; rfl

theorem FormR.conv {uT : Nat → Nat → List UInt8} {l : List UInt8} {A0 A A' : List FArg} {t : List UInt8} {k k' : Nat} {cv : FConv} (h : FormR uT l A0 t k A) (hc : l[k]? = some 37) (h1 : l[k + 1]? ≠ some 37) (hr : readT l (k + 1) A = some (cv, k', A')) (hk : k < k') (hk' : k' ≤ l.length) :
    FormR uT l A0 (t ++ tellT uT cv (argH A')) k' A'.tail := by
  obtain ⟨_, g, hg, e⟩ := h
  obtain ⟨g', rfl⟩ : ∃ g', g = g' + 1 := ⟨g - 1, by omega⟩
  have hlt := (List.getElem?_eq_some_iff.1 hc).1
  refine ⟨hk', g', by omega, ?_⟩
  rw [e, formT, if_neg (by omega), if_neg (by rw [hc]; simp), if_neg h1, hr]
  show (Option.map (fun t => tellT uT cv (argH A') ++ t) (formT uT l g' k' A'.tail)).map (t ++ ·) = _
  cases formT uT l g' k' A'.tail <;> simp

/-- The answer: a text and an error's number. -/
theorem formAll_none {uT : Nat → Nat → List UInt8} {l : List UInt8} {A : List FArg} (h : formT uT l (l.length + 1) 0 A = none) : formAll uT l A = ([], 1) := by unfold formAll; rw [h]
theorem formAll_some {uT : Nat → Nat → List UInt8} {l t : List UInt8} {A : List FArg} (h : formT uT l (l.length + 1) 0 A = some t) : formAll uT l A = if 256 < t.length then ([], 2) else (t, 0) := by unfold formAll; rw [h]

-- the width and the precision, before they are looked at

/-- The program's: 201 stands for what is too great. -/
def widthP (l : List UInt8) (k : Nat) (A : List FArg) : Option (Nat × Bool × Nat × List FArg) :=
  if l[k]? = some 42 then (starW (argH A).n).map fun v => (v.natAbs, decide (v < 0), k + 1, A.tail)
  else some (satN (digsAt l k), false, k + nWhile isDig (l.drop k), A)
def precP (l : List UInt8) (k : Nat) (A : List FArg) : Option (Int × Nat × List FArg) :=
  if l[k]? = some 46 then
    (if l[k + 1]? = some 42 then (starP (argH A).n).map fun v => (v, k + 2, A.tail)
     else some ((satN (digsAt l (k + 1)) : Nat), k + 1 + nWhile isDig (l.drop (k + 1)), A))
  else some (-1, k, A)

theorem widthP_eq (l : List UInt8) (k : Nat) (A : List FArg) : widthAt l k A = (widthP l k A).bind fun r => if r.1 ≤ 200 then some r else none := by
  unfold widthAt widthP
  by_cases h : l[k]? = some 42
  · rw [if_pos h, if_pos h]
    unfold starW
    split
    · rename_i hv; simp only [Option.map_some, Option.bind_some]; rw [if_pos (by omega)]
    · rfl
  · rw [if_neg h, if_neg h]; rfl
theorem precP_eq (l : List UInt8) (k : Nat) (A : List FArg) : precAt l k A = (precP l k A).bind fun r => if r.1 ≤ 200 then some r else none := by
  unfold precAt precP
  by_cases h : l[k]? = some 46
  · rw [if_pos h, if_pos h]
    by_cases h2 : l[k + 1]? = some 42
    · rw [if_pos h2, if_pos h2]
      unfold starP
      split
      · rename_i hv; simp only [Option.map_some, Option.bind_some]; rw [if_pos (by omega)]
      · rfl
    · rw [if_neg h2, if_neg h2]; simp only [Option.bind_some]
      by_cases h3 : satN (digsAt l (k + 1)) ≤ 200
      · rw [if_pos h3, if_pos (by omega)]
      · rw [if_neg h3, if_neg (by omega)]
  · rw [if_neg h, if_neg h]; rfl

/-- The flags at a place: of the first j bytes. -/
def flagB (l : List UInt8) (k j : Nat) (c : UInt8) : Bool := ((l.drop k).take j).contains c

theorem flagB_zero (l : List UInt8) (k : Nat) (c : UInt8) : flagB l k 0 c = false := rfl
theorem flagB_succ {l : List UInt8} {k j : Nat} {d : UInt8} (h : l[k + j]? = some d) (c : UInt8) : flagB l k (j + 1) c = (flagB l k j c || (d == c)) := by
  unfold flagB
  have hj : (l.drop k)[j]? = some d := by rw [List.getElem?_drop]; exact h
  rw [List.take_add_one, hj, Option.toList_some, List.contains_eq_any_beq, List.contains_eq_any_beq, List.any_append]
  congr 1
  rw [List.any_cons, List.any_nil, Bool.or_false]
  exact Bool.eq_iff_iff.2 ⟨fun h => by rw [beq_iff_eq] at h ⊢; exact h.symm, fun h => by rw [beq_iff_eq] at h ⊢; exact h.symm⟩

/-- A conversion that is read: in the program's order. -/
theorem readT_of {l : List UInt8} {k k1 k2 k3 wd : Nat} {A A2 A3 : List FArg} {lf : Bool} {pr : Int} {c : UInt8} (h1 : k1 = k + nWhile isFlag (l.drop k))
    (hw : widthP l k1 A = some (wd, lf, k2, A2)) (hp : precP l k2 A2 = some (pr, k3, A3)) (w2 : wd ≤ 200) (p2 : pr ≤ 200) (hc : l[k3]? = some c) (hl : isLetter c = true) :
    readT l k A = some (⟨flagB l k (nWhile isFlag (l.drop k)) 45 || lf, flagB l k (nWhile isFlag (l.drop k)) 43, flagB l k (nWhile isFlag (l.drop k)) 32, flagB l k (nWhile isFlag (l.drop k)) 48, wd, pr, c⟩, k3 + 1, A3) := by
  subst h1
  unfold readT
  simp only [widthP_eq, precP_eq, hw, hp, Option.bind_some, if_pos w2, if_pos p2, hc, if_pos hl]
  rfl

theorem readT_width {l : List UInt8} {k k1 : Nat} {A : List FArg} (h1 : k1 = k + nWhile isFlag (l.drop k)) (hw : widthP l k1 A = none) : readT l k A = none := by
  subst h1
  unfold readT
  simp only [widthP_eq, hw, Option.bind_none]
theorem readT_prec {l : List UInt8} {k k1 k2 wd : Nat} {A A2 : List FArg} {lf : Bool} (h1 : k1 = k + nWhile isFlag (l.drop k))
    (hw : widthP l k1 A = some (wd, lf, k2, A2)) (hp : precP l k2 A2 = none) : readT l k A = none := by
  subst h1
  unfold readT
  simp only [widthP_eq, precP_eq, hw, Option.bind_some]
  split
  · rfl
  · rename_i h; split at h
    · obtain ⟨⟩ := h; simp only [hp, Option.bind_none]
    · cases h
theorem readT_end {l : List UInt8} {k k1 k2 k3 wd : Nat} {A A2 A3 : List FArg} {lf : Bool} {pr : Int} (h1 : k1 = k + nWhile isFlag (l.drop k))
    (hw : widthP l k1 A = some (wd, lf, k2, A2)) (hp : precP l k2 A2 = some (pr, k3, A3)) (h : 200 < wd ∨ 200 < pr ∨ l[k3]? = none ∨ ∃ c, l[k3]? = some c ∧ isLetter c = false) : readT l k A = none := by
  subst h1
  unfold readT
  simp only [widthP_eq, precP_eq, hw, Option.bind_some]
  by_cases w2 : wd ≤ 200
  · simp only [if_pos w2, hp, Option.bind_some]
    by_cases p2 : pr ≤ 200
    · simp only [if_pos p2]
      rcases h with h | h | h | ⟨c, h, hl⟩
      · omega
      · omega
      · simp only [h]
      · simp only [h, hl]; rfl
    · simp only [if_neg p2]
  · simp only [if_neg w2]

/-- At a format's end there is no conversion. -/
theorem readT_over {l : List UInt8} {k : Nat} {A : List FArg} (h : l.length ≤ k + nWhile isFlag (l.drop k)) : readT l k A = none := by
  have e : l[k + nWhile isFlag (l.drop k)]? = none := List.getElem?_eq_none h
  have hd : l.drop (k + nWhile isFlag (l.drop k)) = [] := List.drop_eq_nil_of_le h
  have hw : widthP l (k + nWhile isFlag (l.drop k)) A = some (0, false, k + nWhile isFlag (l.drop k), A) := by
    unfold widthP
    rw [if_neg (by rw [e]; simp)]
    unfold digsAt
    rw [hd]; rfl
  have hp : precP l (k + nWhile isFlag (l.drop k)) A = some (-1, k + nWhile isFlag (l.drop k), A) := by
    unfold precP
    rw [if_neg (by rw [e]; simp)]
  exact readT_end rfl hw hp (.inr (.inr (.inl e)))

end Go.Proofs.YtdencljnbilchaaGreatDoor
