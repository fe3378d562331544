/- What ftoa64 writes of a whole number: its digits, to the last. What ftoa64 writes of a whole number: the slow road; both. ParseFloat at a whole number's digits: exact. Plain: what readFloat reads of a whole number's digits. No program here. A whole number's double: its parts; its digits, and back. A whole number's digits are read as it; NumBack: true. -/
import Derived.Test.YtjncgedjdmgpfaaGreatDoorHe
import Derived.Test.YtjncgedjdmgpfaaGreatDoorPk
import Derived.Test.YtjncgedjdmgpfaaGreatDoorXt
import Derived.Test.YtjncgedjdmgpfaaGreatDoorXu
import Derived.Test.YtjncgedjdmgpfaaGreatDoorFb
import Derived.Test.YtjncgedjdmgpfaaGreatDoorPj
import Derived.Test.YtjncgedjdmgpfaaGreatDoorVf

namespace Go.Proofs.YtjncgedjdmgpfaaGreatDoor
open Go.RowKit

/-- A whole number's digits. -/
def decL (V : Nat) : List UInt8 := digsL (dgf V (ndN V)) 0 (ndN V)

theorem digsL_split (f : Nat → Nat) (i a b : Nat) : digsL f i (a + b) = digsL f i a ++ digsL f (i + a) b := by
  induction b with
  | zero => simp [digsL_zero]
  | succ b ih => rw [← Nat.add_assoc, digsL_succ, ih, digsL_succ, List.append_assoc, Nat.add_assoc]
theorem digsL_congr {f g : Nat → Nat} (i n : Nat) (h : ∀ k, k < n → f (i + k) = g (i + k)) : digsL f i n = digsL g i n := by
  induction n with
  | zero => rfl
  | succ n ih => rw [digsL_succ, digsL_succ, ih (fun k hk => h k (by omega)), h n (by omega)]
theorem digsL_zeros {f : Nat → Nat} (i n : Nat) (h : ∀ k, k < n → f (i + k) = 48) : digsL f i n = zerosL n := by
  induction n with
  | zero => rfl
  | succ n ih => rw [digsL_succ, zerosL_succ, ih (fun k hk => h k (by omega)), h n (by omega)]; rfl

/-- A number that ends in noughts. -/
theorem dgf_head {V m N nd : Nat} (h : V = m * 10 ^ (N - nd)) (hle : nd ≤ N) (i : Nat) (hi : i < nd) : dgf V N i = dgf m nd i := by
  unfold dgf
  rw [h, show N - 1 - i = (nd - 1 - i) + (N - nd) by omega, Nat.pow_add, Nat.mul_comm (10 ^ (nd - 1 - i)), ← Nat.div_div_eq_div_mul, Nat.mul_div_cancel _ (p10_pos _)]
theorem dgf_tail {V m N nd : Nat} (h : V = m * 10 ^ (N - nd)) (i : Nat) (hi : nd ≤ i) (hN : i < N) : dgf V N i = 48 := by
  unfold dgf
  have e : 10 ^ (N - nd) = 10 ^ (N - 1 - i) * (10 * 10 ^ (i - nd)) := by
    rw [← Nat.pow_succ', ← Nat.pow_add]; congr 1; omega
  have h2 : V / 10 ^ (N - 1 - i) = m * 10 ^ (i - nd) * 10 := by
    rw [h, e, Nat.mul_left_comm, Nat.mul_div_cancel_left _ (p10_pos _), Nat.mul_comm 10, Nat.mul_assoc]
  rw [h2, Nat.mul_mod_left]

theorem trimN_val : ∀ (n M : Nat), M < 10 ^ n → M = (trimN n M).2 * 10 ^ (n - (trimN n M).1)
  | 0, M, h => by
    have : M = 0 := by simpa using h
    subst this; rfl
  | n + 1, M, h => by
    by_cases h0 : M % 10 = 0
    · rw [trimN_yes h0]
      have ih := trimN_val n (M / 10) (by rw [Nat.pow_succ] at h; omega)
      have hle := trimN_le n (M / 10)
      generalize (trimN n (M / 10)).1 = a at ih hle
      generalize (trimN n (M / 10)).2 = v at ih
      rw [show n + 1 - a = (n - a) + 1 by omega, Nat.pow_succ, ← Nat.mul_assoc, ← ih]
      omega
    · rw [trimN_no h0]; simp

theorem whole_of (f : Nat → Nat) (V N nd : Nat) (hle : nd ≤ N) (hN : 0 < N) (h1 : ∀ i, i < nd → f i = dgf V N i) (h2 : ∀ i, nd ≤ i → i < N → dgf V N i = 48) : wholeL f nd (N : Int) = digsL (dgf V N) 0 N := by
  unfold wholeL
  rw [if_pos (by omega), Int.toNat_natCast, Nat.min_eq_left hle]
  have e : N = nd + (N - nd) := by omega
  have e2 : digsL (dgf V N) 0 N = digsL (dgf V N) 0 (nd + (N - nd)) := by rw [← e]
  rw [e2, digsL_split, digsL_zeros (0 + nd) (N - nd) (fun k hk => h2 _ (by omega) (by omega)), digsL_congr (f := f) (g := dgf V N) 0 nd (fun k hk => by rw [Nat.zero_add]; exact h1 k hk)]

theorem ndN_eq {V n : Nat} (h0 : 0 < V) (hV : V < 18446744073709551616) (h1 : 10 ^ (n - 1) ≤ V) (h2 : V < 10 ^ n) (hn : 1 ≤ n) : ndN V = n := by
  obtain ⟨n1, _, n3, n4, _⟩ := ndN_ok V h0 hV
  have a : n - 1 < ndN V := (Nat.pow_lt_pow_iff_right (a := 10) (by decide)).1 (Nat.lt_of_le_of_lt h1 n4)
  have b : ndN V - 1 < n := (Nat.pow_lt_pow_iff_right (a := 10) (by decide)).1 (Nat.lt_of_le_of_lt n3 h2)
  omega

theorem usc_exact (x hi s U : Nat) (h : x * hi = U * 2 ^ s * 18446744073709551616) (hU : U * 2 ^ s < 18446744073709551616) : uscV x hi 0 s = U := by
  have hX : x * hi / 18446744073709551616 = U * 2 ^ s := by rw [h, Nat.mul_div_cancel _ (by decide)]
  have hm : x * hi % 18446744073709551616 = 0 := by rw [h, Nat.mul_mod_left]
  have hp : (0 : Int) < 2 ^ s := Int.pow_pos (by decide)
  have hq : ((U * 2 ^ s : Nat) : Int) / 2 ^ s = U := by
    push_cast
    exact Int.mul_ediv_cancel _ (by omega)
  have hq2 : ((U : Int) * 2 ^ s) % 18446744073709551616 = ((U * 2 ^ s : Nat) : Int) := by
    have : (U : Int) * 2 ^ s = ((U * 2 ^ s : Nat) : Int) := by push_cast; rfl
    rw [this]; omega
  unfold uscV
  rw [hX, hm, hq, Nat.mul_zero, Nat.zero_div, if_neg (by rw [hq2]; exact fun e => e rfl), if_neg (by omega)]
  unfold orN
  simp

theorem p348 : p10hi 348 = 9223372036854775808 ∧ p10lo 348 = 0 := by constructor <;> kernel_rfl
theorem p349 : p10hi 349 = 11529215046068469760 ∧ p10lo 349 = 0 := by constructor <;> kernel_rfl

theorem ten_tab : ∀ E : Fin 59, 2 ^ ((E : Nat) + 1) ≤ 10 ^ (1 + (1 + (E : Nat)) * 78913 / 262144) := by decide +kernel

theorem divU_40 (X : Nat) (h : 40 * X < 18446744073709551616) : divU (40 * X) = 4 * X := by
  unfold divU orN
  have h1 : (((40 * X : Nat) : Int) / 10).toNat = 4 * X := by omega
  have h2 : (((40 * X : Nat) : Int) % 2).toNat = 0 := by omega
  rw [h1, h2, if_pos (by omega), Nat.or_zero, Int.toNat_natCast]
  simp

theorem round_4 (X : Nat) : roundN (4 * X) = X := by unfold roundN; omega

theorem bitLen_53 (M : Nat) (h1 : 4503599627370496 ≤ M) (h2 : M < 9007199254740992) : Lib.bitLen M = 53 := by
  have hb : Lib.bitLen M = Lib.bitLenAux 64 M := rfl
  rcases bitLen_two 64 M (by rw [show (2 : Nat) ^ 64 = 18446744073709551616 from by decide]; omega) with ⟨h, _⟩ | ⟨a, b, c, d⟩
  · omega
  · rw [← hb] at a b c d
    generalize Lib.bitLen M = L at a b c d
    have e52 : (4503599627370496 : Nat) = 2 ^ 52 := by decide
    have e53 : (9007199254740992 : Nat) = 2 ^ 53 := by decide
    rw [e52] at h1; rw [e53] at h2
    have l1 : 52 < L := (Nat.pow_lt_pow_iff_right (a := 2) (by decide)).1 (Nat.lt_of_le_of_lt h1 b)
    have l2 : L - 1 < 53 := (Nat.pow_lt_pow_iff_right (a := 2) (by decide)).1 (Nat.lt_of_le_of_lt a h2)
    omega

theorem lin4 (X : Nat) : 4 * X * 1152921504606846976 = 1024 * (X * 4503599627370496) := by omega
theorem lin40 (X : Nat) : 40 * X * 144115188075855872 = 1280 * (X * 4503599627370496) := by omega

theorem fast_exact {X M E : Nat} (h : WholeX X M E) (hE : E ≤ 58) : fastN M E (fDg 102 E 0) 0 102 = X ∧ fastP M E (fDg 102 E 0) 0 102 = 0 ∧ 0 < fDg 102 E 0 ∧ fDg 102 E 0 ≤ 18 := by
  obtain ⟨hX1, hX2⟩ := h.lt
  have hX58 : X < 576460752303423488 := Nat.lt_of_lt_of_le hX1 (by
    have := Nat.pow_le_pow_right (n := 2) (by decide) (show E + 1 ≤ 59 by omega)
    exact Nat.le_trans this (by decide))
  obtain ⟨l1, el1⟩ : ∃ l1 : Nat, (1 + E) * 78913 / 262144 = l1 := ⟨_, rfl⟩
  obtain ⟨l0, el0⟩ : ∃ l0 : Nat, E * 78913 / 262144 = l0 := ⟨_, rfl⟩
  have hD : fDg 102 E 0 = ((1 + l1 : Nat) : Int) := by unfold fDg; rw [if_pos rfl, if_pos (by omega)]; omega
  have hl1 : l1 ≤ 17 := by omega
  have hll : l1 = l0 ∨ l1 = l0 + 1 := by omega
  have h10 : X < 10 ^ (1 + l1) := by
    have := ten_tab ⟨E, by omega⟩
    rw [el1] at this
    exact Nat.lt_of_lt_of_le hX1 this
  have hfw : fwP ((E : Int) - (64 - (53 : Nat)) - 52) (1 + l1) = (l1 : Int) - l0 := by unfold fwP; omega
  -- the number is exact
  have hend : fwEnd (M * 2 ^ (64 - 53)) ((E : Int) - (64 - (53 : Nat)) - 52) (1 + l1) 0 102 = (4 * X, 0) := by
    rcases hll with hl | hl
    · have hP : fwP ((E : Int) - (64 - (53 : Nat)) - 52) (1 + l1) = 0 := by rw [hfw]; omega
      have hS : fwS ((E : Int) - (64 - (53 : Nat)) - 52) (1 + l1) = 60 - E := by unfold fwS; rw [hP]; omega
      have hU : fwU (M * 2 ^ (64 - 53)) ((E : Int) - (64 - (53 : Nat)) - 52) (1 + l1) = 4 * X := by
        unfold fwU
        rw [hP, hS, show ((0 : Int) + 348).toNat = 348 from rfl, p348.1, p348.2]
        have e4 : 4 * X * 2 ^ (60 - E) = M * 1024 := by
          have hp : 0 < 2 ^ E := Nat.pow_pos (by decide)
          refine Nat.eq_of_mul_eq_mul_right hp ?_
          rw [Nat.mul_assoc, ← Nat.pow_add, show 60 - E + E = 60 by omega]
          have := h.e
          have e60 : (2 : Nat) ^ 60 = 1152921504606846976 := by decide
          rw [e60]
          have : M * 1024 * 2 ^ E = 1024 * (M * 2 ^ E) := by rw [Nat.mul_comm M 1024, Nat.mul_assoc]
          rw [this, ← h.e]; exact lin4 X
        refine usc_exact _ _ _ _ ?_ ?_
        · rw [e4]
          have : (2 : Nat) ^ (64 - 53) = 2048 := by decide
          rw [this, Nat.mul_assoc, Nat.mul_assoc]
        · rw [e4]; have := h.m2; clear e4; omega
      have hUP : fwUP (M * 2 ^ (64 - 53)) ((E : Int) - (64 - (53 : Nat)) - 52) (1 + l1) = (4 * X, 0) := by
        unfold fwUP
        rw [hU, hP, if_neg (by omega)]
      unfold fwEnd
      rw [hUP, if_neg (fun hh => absurd (show (0 : Int) < 0 from hh.2) (by decide))]
    · have hP : fwP ((E : Int) - (64 - (53 : Nat)) - 52) (1 + l1) = 1 := by rw [hfw]; omega
      have hE57 : E ≤ 57 := by omega
      have hS : fwS ((E : Int) - (64 - (53 : Nat)) - 52) (1 + l1) = 57 - E := by unfold fwS; rw [hP]; omega
      have h57 := fw_one ((E : Int) - (64 - (53 : Nat)) - 52) (1 + l1) (by omega) (by omega) (by omega) (by omega)
      rw [hP] at h57
      have hX40 : 40 * X < 18446744073709551616 := by
        have : X < 2 ^ (E + 1) := hX1
        have h2 := Nat.pow_le_pow_right (n := 2) (by decide) (show E + 1 ≤ 57 by omega)
        have e57 : (2 : Nat) ^ 57 = 144115188075855872 := by decide
        omega
      have hU : fwU (M * 2 ^ (64 - 53)) ((E : Int) - (64 - (53 : Nat)) - 52) (1 + l1) = 40 * X := by
        unfold fwU
        rw [hP, hS, show ((1 : Int) + 348).toNat = 349 from rfl, p349.1, p349.2]
        have e4 : 40 * X * 2 ^ (57 - E) = M * 1280 := by
          have hp : 0 < 2 ^ E := Nat.pow_pos (by decide)
          refine Nat.eq_of_mul_eq_mul_right hp ?_
          rw [Nat.mul_assoc, ← Nat.pow_add, show 57 - E + E = 57 by omega]
          have e60 : (2 : Nat) ^ 57 = 144115188075855872 := by decide
          rw [e60]
          have : M * 1280 * 2 ^ E = 1280 * (M * 2 ^ E) := by rw [Nat.mul_comm M 1280, Nat.mul_assoc]
          rw [this, ← h.e]; exact lin40 X
        refine usc_exact _ _ _ _ ?_ ?_
        · rw [e4]
          have : (2 : Nat) ^ (64 - 53) = 2048 := by decide
          rw [this, Nat.mul_assoc, Nat.mul_assoc]
        · rw [e4]; have := h.m2; clear e4; omega
      unfold fwEnd fwUP
      rw [hU, hP]
      by_cases hc : 4 * 10 ^ (1 + l1) - 2 ≤ 40 * X
      · rw [if_pos hc, divU_40 X hX40, if_neg (fun hh => absurd (show (0 : Int) < 1 - 1 from hh.2) (by decide))]; rfl
      · rw [if_neg hc, if_pos ⟨rfl, (by decide : (0 : Int) < 1)⟩]
        show (itU 1 (40 * X), (0 : Int)) = _
        unfold itU itU
        rw [divU_40 X hX40]
  refine ⟨?_, ?_, by omega, by omega⟩
  · unfold fastN
    rw [bitLen_53 M h.m1 h.m2, hD, Int.toNat_natCast, hend]
    exact round_4 X
  · unfold fastP
    rw [bitLen_53 M h.m1 h.m2, hD, Int.toNat_natCast, hend]

end Go.Proofs.YtjncgedjdmgpfaaGreatDoor

namespace Go.Proofs.YtjncgedjdmgpfaaGreatDoor
open Go.RowKit

theorem fmtL_whole (ng : Bool) (f : Nat → Nat) (nd : Nat) (dp : Int) : fmtL ng f nd dp 0 102 false = sgnL ng ++ wholeL f nd dp := by
  unfold fmtL
  rw [if_neg (by decide), if_pos rfl]
  unfold fmtF fracL
  rw [if_neg (by decide), List.append_nil]

theorem fast_text (ng : Bool) {X M E : Nat} (h : WholeX X M E) (hE : E ≤ 58) (hX : X < 18446744073709551616) : ftoaT ng M E 0 102 = sgnL ng ++ decL X := by
  obtain ⟨h1, h2, h3, h4⟩ := fast_exact h hE
  have hp : fPr 102 0 = 0 := by decide
  have h0 := h.pos
  obtain ⟨n1, n2, n3, n4, _⟩ := ndN_ok X h0 hX
  have hle := trimN_le (ndN X) X
  have hv := trimN_val (ndN X) X n4
  unfold ftoaT
  rw [hp, if_pos h4]
  unfold fastT
  rw [h1, h2, if_pos ⟨h3, by omega⟩, fmtL_whole, show ((ndN X : Nat) : Int) + -0 = ((ndN X : Nat) : Int) by omega]
  unfold decL
  congr 1
  exact whole_of _ X (ndN X) _ hle (by omega) (fun i _ => rfl) (fun i hi hN => dgf_tail hv i hi hN)

theorem slow_text (ng : Bool) {X M E : Nat} (h : WholeX X M E) (hE1 : 59 ≤ E) (hE2 : E ≤ 63) (hX : X < 18446744073709551616) : ftoaT ng M E 0 102 = sgnL ng ++ decL X := by
  have hp : fPr 102 0 = 0 := by decide
  have hD : ¬ fDg 102 E 0 ≤ 18 := by unfold fDg; rw [if_pos rfl, if_pos (by omega)]; omega
  have hM0 : 0 < M := by have := h.m1; omega
  have hM64 : M < 18446744073709551616 := by have := h.m2; omega
  obtain ⟨n1, n2, n3, n4, _⟩ := ndN_ok M hM0 hM64
  obtain ⟨hok0, hdp0⟩ := dsOf_ok n1 n2 n3 n4
  have hv0 := trimN_val (ndN M) M n4
  have hle0 := trimN_le (ndN M) M
  obtain ⟨k, hk⟩ : ∃ k, E = k + 52 := ⟨E - 52, by omega⟩
  have hXM : X = M * 2 ^ k := by have := h.big (by omega); rwa [show E - 52 = k by omega] at this
  obtain ⟨n, en⟩ : ∃ n, ndN M = n := ⟨_, rfl⟩
  rw [en] at hok0 hdp0 hv0 hle0 n1 n2 n3 n4
  obtain ⟨m0, em0⟩ : ∃ m0, (dsOf n M).M = m0 := ⟨_, rfl⟩
  obtain ⟨z0, ez0⟩ : ∃ z0, (dsOf n M).nd = z0 := ⟨_, rfl⟩
  have hv0' : M = m0 * 10 ^ (n - z0) := by rw [← em0, ← ez0]; exact hv0
  have hle0' : z0 ≤ n := by rw [← ez0]; exact hle0
  obtain ⟨P, eP⟩ : ∃ P, m0 * 2 ^ k = P := ⟨_, rfl⟩
  have hXP : X = P * 10 ^ (n - z0) := by rw [hXM, hv0', ← eP, Nat.mul_right_comm]
  have hm0 : 0 < m0 := by
    rcases Nat.eq_zero_or_pos m0 with h0 | h0
    · rw [h0, Nat.zero_mul] at hv0'; omega
    · exact h0
  have hP0 : 0 < P := by rw [← eP]; exact Nat.mul_pos hm0 (Nat.pow_pos (by decide))
  obtain ⟨t1, t2, t3⟩ := nD_bd P hP0
  obtain ⟨T1, eT⟩ : ∃ T1, nD P = T1 := ⟨_, rfl⟩
  rw [eT] at t1 t2 t3
  have hT1 : T1 ≤ 20 := by
    have hPX : P ≤ X := by rw [hXP]; exact Nat.le_mul_of_pos_right _ (p10_pos _)
    have h20 : (18446744073709551616 : Nat) < 10 ^ 20 := by decide
    have : T1 - 1 < 20 := (Nat.pow_lt_pow_iff_right (a := 10) (by decide)).1 (Nat.lt_of_le_of_lt t2 (by omega))
    omega
  have hS1 : slow1 M E = ⟨(trimN T1 P).2, (trimN T1 P).1, dpT (trimN T1 P).1 ((n : Int) + T1 - z0), false || decide (P % 10 ^ (T1 - 800) ≠ 0)⟩ := by
    unfold slow1 shiR
    rw [if_pos (by omega), show ((E : Int) - 52).toNat = k by omega, shlR, if_neg (by omega)]
    unfold shlS
    rw [en, em0, eP, eT, ez0, hdp0]
    unfold shRes
    rw [Nat.min_eq_left (by omega), show T1 - 800 = 0 by omega, Nat.pow_zero, Nat.div_one]
    rfl
  obtain ⟨q1, q2, q3, q4, _⟩ := trimN_ok T1 P t1 t2 t3
  have hv1 := trimN_val T1 P t3
  obtain ⟨a, ea⟩ : ∃ a, (trimN T1 P).1 = a := ⟨_, rfl⟩
  obtain ⟨m, em⟩ : ∃ m, (trimN T1 P).2 = m := ⟨_, rfl⟩
  rw [ea, em] at hS1 hv1
  rw [ea] at q1 q2
  obtain ⟨N, eN⟩ : ∃ N, n + T1 - z0 = N := ⟨_, rfl⟩
  have hdpN : dpT a ((n : Int) + T1 - z0) = (N : Int) := by unfold dpT; rw [if_neg (by omega)]; omega
  rw [hdpN] at hS1
  have hXN : X = m * 10 ^ (N - a) := by
    rw [hXP, hv1, Nat.mul_assoc, ← Nat.pow_add]; congr 2; omega
  have hS2 : slow2 M E 0 102 = slow1 M E := by
    unfold slow2
    rw [if_pos rfl, hS1]
    unfold roundI
    rw [if_neg (by show ¬ ((N : Int) + 0 < 0); omega)]
    unfold roundR
    rw [if_pos (by show a ≤ ((N : Int) + 0).toNat; omega)]
  have hXlo : 10 ^ (N - 1) ≤ X := by
    rw [hXP, show N - 1 = (T1 - 1) + (n - z0) by omega, Nat.pow_add]
    exact Nat.mul_le_mul_right _ t2
  have hXhi : X < 10 ^ N := by
    rw [hXP, show N = T1 + (n - z0) by omega, Nat.pow_add]
    exact Nat.mul_lt_mul_of_pos_right t3 (p10_pos _)
  have hNX : ndN X = N := ndN_eq h.pos hX hXlo hXhi (by omega)
  unfold ftoaT
  rw [hp, if_neg hD]
  unfold slowT
  rw [hS2, hS1, fmtL_whole]
  unfold decL
  rw [hNX]
  congr 1
  exact whole_of _ X N a (by omega) (by omega) (fun i hi => (dgf_head hXN (by omega) i hi).symm) (fun i hi hN => dgf_tail hXN i hi hN)

theorem ftoaT_whole (ng : Bool) {X M E : Nat} (h : WholeX X M E) (hE : E ≤ 63) : ftoaT ng M E 0 102 = sgnL ng ++ decL X := by
  have hX : X < 18446744073709551616 := by
    have h1 := h.lt.1
    have h2 := Nat.pow_le_pow_right (n := 2) (by decide) (show E + 1 ≤ 64 by omega)
    have h3 : (2 : Nat) ^ 64 = 18446744073709551616 := by decide
    omega
  by_cases h58 : E ≤ 58
  · exact fast_text ng h h58 hX
  · exact slow_text ng h (by omega) hE hX

end Go.Proofs.YtjncgedjdmgpfaaGreatDoor

namespace Go.Proofs.YtjncgedjdmgpfaaGreatDoor
open Go.RowKit

theorem wordX_lt (neg : Bool) {X M E : Nat} (h : WholeX X M E) (hE : E ≤ 63) : rungX M E < 9218868437227405312 ∧ wordX neg M E < 18446744073709551616 := by
  have h1 := h.m2
  have hr : rungX M E < 9218868437227405312 := by unfold rungX; omega
  refine ⟨hr, ?_⟩
  unfold wordX; split <;> omega

theorem or_word (neg : Bool) {X M E : Nat} (h : WholeX X M E) (hE : E ≤ 63) :
    ((if neg = true then 2048 else 0) * 4503599627370496 + (M - 4503599627370496)) ||| ((E + 1023) * 4503599627370496) = wordX neg M E := by
  rw [or_top neg (M - 4503599627370496) (E + 1023) (by have := h.m2; omega) (by omega)]
  have h1 := h.m1
  unfold wordX rungX
  cases neg
  · simp only [Bool.false_eq_true, if_false]; omega
  · simp only [if_true]; omega

theorem sg_split (neg : Bool) {X M E : Nat} (h : WholeX X M E) : sgN neg + M = (if neg = true then 2049 else 1) * 4503599627370496 + (M - 4503599627370496) := by
  have h1 := h.m1
  unfold sgN; cases neg
  · simp only [Bool.false_eq_true, if_false]; omega
  · simp only [if_true]; omega

theorem sg_lt (neg : Bool) {X M E : Nat} (h : WholeX X M E) : sgN neg + M < 18446744073709551616 := by
  have := h.m2
  unfold sgN; split <;> omega

theorem and_bit (neg : Bool) {X M E : Nat} (h : WholeX X M E) : (bits .and .u64 ((sgN neg + M : Nat) : Int) 4503599627370496 == 0) = false := by
  have hm1 := h.m1
  have hm2 := h.m2
  have hs := sg_split neg h
  have e : bits .and .u64 ((sgN neg + M : Nat) : Int) 4503599627370496 = (((sgN neg + M) &&& 4503599627370496 : Nat) : Int) := bits_and_u64_nat (sgN neg + M) 4503599627370496 (sg_lt neg h) (by omega)
  rw [e, beq_eq_false_iff_ne]
  intro hc
  have hc' : (sgN neg + M) &&& 4503599627370496 = 0 := by omega
  have hd : ((sgN neg + M) &&& 4503599627370496) / 2 ^ 52 = 1 := by
    rw [Nat.and_div_two_pow, hs, e52n, Nat.div_self (by decide)]
    have : ((if neg = true then 2049 else 1) * 4503599627370496 + (M - 4503599627370496)) / 4503599627370496 = if neg = true then 2049 else 1 := by
      rw [Nat.mul_comm, Nat.mul_add_div (by decide), Nat.div_eq_of_lt (by omega), Nat.add_zero]
    rw [this]; cases neg <;> rfl
  rw [hc', Nat.zero_div] at hd
  cases hd

theorem pack_bits (neg : Bool) {X M E : Nat} (h : WholeX X M E) (hE : E ≤ 63) :
    (bits .or .u64 (bits .andNot .u64 ((sgN neg + M : Nat) : Int) 4503599627370496) ((1075 + ((E : Int) - 52)) * 4503599627370496)).toNat = wordX neg M E := by
  have hm2 := h.m2
  have hs := sg_split neg h
  have e1 : bits .andNot .u64 ((sgN neg + M : Nat) : Int) 4503599627370496 = (((sgN neg + M) &&& (18446744073709551615 - 4503599627370496) : Nat) : Int) := u64_andNot_nat (sgN neg + M) 4503599627370496 (sg_lt neg h) (by omega)
  have e3 : 1075 + ((E : Int) - 52) = ((E + 1023 : Nat) : Int) := by omega
  have e2 : (1075 + ((E : Int) - 52)) * 4503599627370496 = (((E + 1023) * 4503599627370496 : Nat) : Int) := by rw [e3, Int.natCast_mul]; rfl
  have hle := Nat.and_le_left (n := sgN neg + M) (m := 18446744073709551615 - 4503599627370496)
  have hlt := sg_lt neg h
  have hw : (sgN neg + M) &&& (18446744073709551615 - 4503599627370496) ||| ((E + 1023) * 4503599627370496) = wordX neg M E := by
    rw [and_top _ neg (M - 4503599627370496) (by omega) hs]
    exact or_word neg h hE
  rw [e1, e2]
  generalize (sgN neg + M) &&& (18446744073709551615 - 4503599627370496) = A at hle hw
  obtain ⟨Z, eZ⟩ : ∃ Z, (E + 1023) * 4503599627370496 = Z := ⟨_, rfl⟩
  have hZ : Z < 18446744073709551616 := by rw [← eZ]; exact Nat.lt_of_le_of_lt (Nat.mul_le_mul_right _ (show E + 1023 ≤ 2047 by omega)) (by decide)
  rw [eZ] at hw ⊢
  rw [or_N _ _ (by omega) (by omega) (by omega) (by omega), Int.toNat_natCast]
  unfold orN
  rw [Int.toNat_natCast, Int.toNat_natCast]
  exact hw

set_option maxHeartbeats 1000000 in
theorem pack64_at (m : Nat) (e : Int) (h1 : (bits .and .u64 (m : Int) 4503599627370496 == 0) = false) (h2 : ¬ 972 ≤ e) (he : -1074 ≤ e) (w : World) :
    Calls Tryz.prog 126 #[.int .u64 m, .int .i64 e] w fun en w' => en = .returned (.tuple #[.float .f64 (bits .or .u64 (bits .andNot .u64 (m : Int) 4503599627370496) ((1075 + e) * 4503599627370496)).toNat, .nilIface]) ∧ w = w' := by
  have HF := ext_ifb
  go_enter Tryz.func126, Tryz.ntmps126
  go_wp2
  go_ret2
  exact ⟨rfl, rfl⟩

theorem pack64_exact (neg : Bool) {X M E : Nat} (h : WholeX X M E) (hE : E ≤ 63) (w : World) :
    Calls Tryz.prog 126 #[.int .u64 (sgN neg + M : Nat), .int .i64 ((E : Int) - 52)] w fun en w' => en = .returned (.tuple #[.float .f64 (wordX neg M E), .nilIface]) ∧ w = w' := by
  have := pack64_at (sgN neg + M) ((E : Int) - 52) (and_bit neg h) (by omega) (by omega) w
  rw [pack_bits neg h hE] at this
  exact this

set_option maxRecDepth 100000 in
set_option maxHeartbeats 4000000 in
theorem parse64_exact (neg : Bool) {X M E : Nat} (p : Int) (hp0 : p = 0) (h : WholeX X M E) (hE0 : 52 ≤ E) (hE : E ≤ 63) (w : World) (hL : LaidT w) :
    Calls Tryz.prog 96 #[.int .u64 X, .int .i64 p, .int .u64 (sgN neg)] w fun en w' => en = .returned (.tuple #[.float .f64 (wordX neg M E), .nilIface]) ∧ Below w.heap.size w w' := by
  have hX64 : X < 18446744073709551616 := by
    have h1 := h.lt.1
    have h2 := Nat.pow_le_pow_right (n := 2) (by decide) (show E + 1 ≤ 64 by omega)
    have h3 : (2 : Nat) ^ 64 = 18446744073709551616 := by decide
    omega
  have hm1 := h.m1
  have hm2 := h.m2
  obtain ⟨B, eB⟩ : ∃ B, Lib.bitLen X = B := ⟨_, rfl⟩
  have hBE : B = E + 1 := by
    have hb : Lib.bitLen X = Lib.bitLenAux 64 X := rfl
    rcases bitLen_two 64 X (by rw [show (2 : Nat) ^ 64 = 18446744073709551616 from by decide]; exact hX64) with ⟨h0, _⟩ | ⟨a, b, c, d⟩
    · have := h.pos; omega
    · rw [← hb, eB] at a b c d
      have l1 : E < B := (Nat.pow_lt_pow_iff_right (a := 2) (by decide)).1 (Nat.lt_of_le_of_lt h.lt.2 b)
      have l2 : B - 1 < E + 1 := (Nat.pow_lt_pow_iff_right (a := 2) (by decide)).1 (Nat.lt_of_le_of_lt a h.lt.1)
      omega
  have h1 := fun W => len64_any X W hX64
  rw [eB] at h1
  have H1 := Lib.hid h1
  obtain ⟨lp, elp⟩ : ∃ lp, p * 108853 / 32768 = lp := ⟨_, rfl⟩
  have hl : lp = 0 := by omega
  have h2 := fun W => log2p_any p (by omega) (by omega) W
  rw [elp] at h2
  have H2 := Lib.hid h2
  obtain ⟨e, ee⟩ : ∃ e, min 1074 (53 - (B : Int) - lp) = e := ⟨_, rfl⟩
  have he : e = 52 - (E : Int) := by omega
  obtain ⟨k, ek⟩ : ∃ k : Nat, p = (k : Int) - 348 := ⟨(p + 348).toNat, by omega⟩
  have hk : k = 348 := by omega
  obtain ⟨s, es⟩ : ∃ s : Nat, -(e - (64 - (B : Int)) + lp + 3) = s := ⟨(-(e - (64 - (B : Int)) + lp + 3)).toNat, by omega⟩
  have hs8 : s = 8 := by omega
  have h3 := fun W (hL : LaidT W) => prescale_any k (e - (64 - (B : Int))) lp (.int .u64 0) (.int .u64 0) (.int .i64 0) W (by omega) hL (by omega) (by omega) (by omega) (by omega)
  rw [es] at h3
  have H3 := Lib.hid h3
  have EE := Lib.hid ee
  -- the number, shifted up
  obtain ⟨Y, eY⟩ : ∃ Y : Nat, X * 2 ^ (64 - B) = Y := ⟨_, rfl⟩
  have hY : Y = M * 2048 := by
    rw [← eY, h.big hE0, Nat.mul_assoc, ← Nat.pow_add, hBE, show E - 52 + (64 - (E + 1)) = 11 by omega]
  have hYlt : Y < 18446744073709551616 := by omega
  have hw : IntKind.u64.wrap ((X : Int) * 2 ^ (64 - B)) = (Y : Nat) := by
    have e1 : (X : Int) * 2 ^ (64 - B) = (Y : Nat) := by rw [← eY]; push_cast; rfl
    rw [e1, IntKind.wrap_u64]; omega
  have HX := Lib.hid hw
  have hu : uscV Y (p10hi k) (p10lo k) s = 4 * M := by
    rw [hk, hs8, p348.1, p348.2]
    refine usc_exact _ _ _ _ ?_ (by omega)
    rw [hY, show (2 : Nat) ^ 8 = 256 by decide]; omega
  have h4 := fun (W : World) b c0 c1 c2 => uscale_any Y (p10hi k) (p10lo k) s b W hYlt (p10_lt k).1 (p10_lt k).2 (by omega) c0 c1 c2
  rw [hu] at h4
  obtain ⟨u, eu⟩ : ∃ u, 4 * M = u := ⟨_, rfl⟩
  rw [eu] at h4
  have H4 := Lib.hid h4
  have hub : u < 36028797018963966 := by omega
  have a1 : bits .and .u64 (u : Int) 1 = 0 := by
    have h := bits_and_u64_nat u 1 (by omega) (by omega)
    rw [nat_mask1] at h
    exact h.trans (by omega)
  have o1 : bits .or .u64 (u : Int) 0 = (u : Int) := by
    rw [or_N _ _ (by omega) (by omega) (by omega) (by omega)]
    unfold orN; simp
  have h5 := fun W => round_any u (by omega) W
  rw [← eu, round_4 M, eu] at h5
  have H5 := Lib.hid h5
  have o2 : bits .or .u64 ((sgN neg : Nat) : Int) (M : Int) = ((sgN neg + M : Nat) : Int) := by
    have hsg : sgN neg < 18446744073709551616 := by unfold sgN; split <;> omega
    rw [or_N _ _ (by omega) (by omega) (by omega) (by omega)]
    unfold orN
    rw [Int.toNat_natCast, Int.toNat_natCast]
    exact congrArg (fun (z : Nat) => (z : Int)) (or_sign neg M (by omega))
  obtain ⟨sg, esg⟩ : ∃ sg : Nat, sgN neg = sg := ⟨_, rfl⟩
  have h6 := fun W => pack64_exact neg h hE W
  obtain ⟨m1, em1⟩ : ∃ m1, sgN neg + M = m1 := ⟨_, rfl⟩
  rw [em1] at o2 h6
  rw [esg] at o2
  have H6 : Hid (∀ W, Calls Tryz.prog 126 #[.int .u64 m1, .int .i64 (-e)] W fun en w' => en = .returned (.tuple #[.float .f64 (wordX neg M E), .nilIface]) ∧ W = w') := fun W => by
    rw [show -e = (E : Int) - 52 by omega]; exact h6 W
  obtain ⟨x, ex⟩ : ∃ x, wordX neg M E = x := ⟨_, rfl⟩
  rw [ex] at H6 ⊢
  rw [esg]
  have HL := Lib.hid hL
  have hul : decide ((36028797018963966 : Int) ≤ u) = false := decide_eq_false (by omega)
  have heb : -1100 ≤ e ∧ e ≤ 1074 ∧ (B : Int) ≤ 64 ∧ 1 ≤ (B : Int) ∧ -10 ≤ lp ∧ lp ≤ 10 ∧ k ≤ 400 ∧ s ≤ 63 := by omega
  obtain ⟨hb1, hb2, hb3, hb4, hb5, hb6, hb7, hb8⟩ := heb
  have hB64 : B ≤ 64 := by omega
  have hB1 : 1 ≤ B := by omega
  subst ek
  clear hL h1 h2 h3 h4 h5 h6 eB ee hu eY hY em1 esg ex eu h elp hl he hk hs8 hBE es hp0 hw
  go_enter Tryz.func96, Tryz.ntmps96
  go_wp2_with (first | (go_at_call 70; refine (H1.out _).mono ?_; rintro e w' ⟨rfl, rfl⟩) | (go_at_call 103; refine (H2.out _).mono ?_; rintro e w' ⟨rfl, rfl⟩) | (go_at_call 102; rw [EE.out]; refine (H3.out _ HL.out).mono ?_; rintro e w' ⟨rfl, rfl⟩) | (go_at_call 104; rw [HX.out]; refine (H4.out _ _ ?c0 ?c1 ?c2).mono ?_; rotate_left 3; rintro e w' ⟨rfl, nq, rfl⟩) | (go_at_call 111; refine (unmin_any 9007199254740992 (by decide) (by decide) _).mono ?_; rintro e w' ⟨rfl, rfl⟩) | (go_at_call 110; refine (bool2i_any _ _).mono ?_; rintro e w' ⟨rfl, rfl⟩) | (go_at_call 108; refine (H5.out _).mono ?_; rintro e w' ⟨rfl, rfl⟩) | (go_at_call 126; refine (H6.out _).mono ?_; rintro e w' ⟨rfl, rfl⟩))
  case c0 => rw [World.cell?_alloc_at _ _ _ _ rfl]; rfl
  case c1 => rw [World.cell?_alloc_at _ _ _ _ rfl]; rfl
  case c2 => rw [World.cell?_alloc_at _ _ _ _ rfl]; rfl
  go_ret2
  exact ⟨rfl, below_drewN ((Below.refl _ _).alloc (Nat.le_refl _) _) _⟩

end Go.Proofs.YtjncgedjdmgpfaaGreatDoor

namespace Go.Proofs.YtjncgedjdmgpfaaGreatDoor

theorem rfLoop_append : ∀ (A B : List UInt8) (st st' : RF), rfLoop st A = (st', A.length) → rfLoop st (A ++ B) = ((rfLoop st' B).1, A.length + (rfLoop st' B).2)
  | [], B, st, st', h => by
    have e : st' = st := by have := congrArg Prod.fst h; exact this.symm
    subst e
    simp
  | a :: A, B, st, st', h => by
    rw [List.cons_append, rfLoop]
    rw [rfLoop] at h
    cases hs : rfStep st a with
    | none => rw [hs] at h; have := congrArg Prod.snd h; simp at this
    | some s1 =>
      rw [hs] at h
      have h1 : rfLoop s1 A = (st', A.length) := by
        have a1 := congrArg Prod.fst h
        have a2 := congrArg Prod.snd h
        simp only [List.length_cons] at a1 a2
        exact Prod.ext a1 (by show (rfLoop s1 A).2 = A.length; omega)
      have ih := rfLoop_append A B s1 st' h1
      simp only [ih, List.length_cons]
      congr 1
      omega

theorem dgf_isDig (X N i : Nat) : isDig (UInt8.ofNat (dgf X N i)) = true := by
  have h := dgf_digit X N i
  unfold isDig digB
  rw [UInt8.toNat_ofNat', Nat.mod_eq_of_lt (by omega)]
  simp; omega

theorem dgf_byte (X N i : Nat) : (UInt8.ofNat (dgf X N i)).toNat = dgf X N i := by
  have h := dgf_digit X N i
  rw [UInt8.toNat_ofNat', Nat.mod_eq_of_lt (by omega)]

def stJ (X N j : Nat) : RF := ⟨X / 10 ^ (N - j), j, j, 0, false, decide (0 < j), false⟩

theorem rfLoop_digits (X N : Nat) (hN : 1 ≤ N) (hN19 : N ≤ 19) (h1 : 10 ^ (N - 1) ≤ X) (h2 : X < 10 ^ N) : ∀ j, j ≤ N → rfLoop .init (digsL (dgf X N) 0 j) = (stJ X N j, j)
  | 0, _ => by
    have h0 : X / 10 ^ N = 0 := Nat.div_eq_of_lt h2
    show (RF.init, 0) = _
    unfold stJ RF.init
    rw [Nat.sub_zero, h0]; rfl
  | j + 1, hj => by
    have ih := rfLoop_digits X N hN hN19 h1 h2 j (by omega)
    have e := rfLoop_append (digsL (dgf X N) 0 j) [UInt8.ofNat (dgf X N (0 + j))] .init (stJ X N j) (by rw [ih, digsL_len])
    rw [digsL_succ, e, digsL_len, Nat.zero_add]
    have hd := dgf_digit X N j
    have hb := dgf_byte X N j
    have hst : rfStep (stJ X N j) (UInt8.ofNat (dgf X N j)) = some (stJ X N (j + 1)) := by
      have n46 : UInt8.ofNat (dgf X N j) ≠ 46 := fun e => by rw [e] at hb; have : (46 : UInt8).toNat = 46 := rfl; omega
      have n48 : ¬ (UInt8.ofNat (dgf X N j) = 48 ∧ (stJ X N j).nd = 0) := by
        rintro ⟨e, e0⟩
        have hj0 : j = 0 := e0
        subst hj0
        rw [e] at hb
        have e48 : (48 : UInt8).toNat = 48 := rfl
        have hz : X / 10 ^ (N - 1 - 0) % 10 = 0 := by unfold dgf at hb; omega
        have hp : 1 ≤ X / 10 ^ (N - 1) := (Nat.le_div_iff_mul_le (Nat.pow_pos (by decide))).2 (by omega)
        have hlt : X / 10 ^ (N - 1) < 10 := by
          rw [Nat.div_lt_iff_lt_mul (Nat.pow_pos (by decide)), ← Nat.pow_succ', show (N - 1).succ = N by omega]; exact h2
        rw [Nat.sub_zero] at hz
        omega
      unfold rfStep
      rw [if_neg n46, if_pos (dgf_isDig X N j), if_neg n48, if_pos (show (stJ X N j).ndm < 19 by show j < 19; omega)]
      have hm : X / 10 ^ (N - j) * 10 + (dgf X N j - 48) = X / 10 ^ (N - (j + 1)) := by
        unfold dgf
        rw [show N - 1 - j = N - (j + 1) by omega, show N - j = (N - (j + 1)) + 1 by omega, Nat.pow_succ, ← Nat.div_div_eq_div_mul]
        omega
      show some (RF.mk (X / 10 ^ (N - j) * 10 + ((UInt8.ofNat (dgf X N j)).toNat - 48)) (j + 1) (j + 1) 0 false true false) = some (stJ X N (j + 1))
      rw [hb, hm]
      unfold stJ
      rw [decide_eq_true (show 0 < j + 1 by omega)]
    have h1s : rfLoop (stJ X N j) [UInt8.ofNat (dgf X N j)] = (stJ X N (j + 1), 1) := by
      rw [rfLoop, hst]; rfl
    rw [h1s]

theorem rf_whole (neg : Bool) (X N : Nat) (hN : 1 ≤ N) (hN19 : N ≤ 19) (h1 : 10 ^ (N - 1) ≤ X) (h2 : X < 10 ^ N) :
    rf (sgnL neg ++ digsL (dgf X N) 0 N) = ⟨X, 0, neg, false, (sgnL neg ++ digsL (dgf X N) 0 N).length, true⟩ := by
  have hX0 : X ≠ 0 := by have := Nat.pow_pos (n := N - 1) (show 0 < 10 by decide); omega
  have hD : digsL (dgf X N) 0 N ≠ [] ∧ ∀ c ∈ digsL (dgf X N) 0 N, isDig c = true := by
    refine ⟨fun e => by have := congrArg List.length e; rw [digsL_len] at this; simp at this; omega, fun c hc => ?_⟩
    unfold digsL at hc
    obtain ⟨k, _, rfl⟩ := List.mem_map.1 hc
    exact dgf_isDig _ _ _
  have hl := rfLoop_digits X N hN hN19 h1 h2 N (Nat.le_refl _)
  have hst : stJ X N N = ⟨X, N, N, 0, false, true, false⟩ := by unfold stJ; rw [Nat.sub_self, Nat.pow_zero, Nat.div_one, decide_eq_true (by omega)]
  rw [hst] at hl
  obtain ⟨D, eD⟩ : ∃ D, digsL (dgf X N) 0 N = D := ⟨_, rfl⟩
  have hDl : D.length = N := by rw [← eD, digsL_len]
  rw [eD] at hD hl ⊢
  have hsg : sgnN (sgnL neg ++ D) = (sgnL neg).length := by
    cases neg
    · have := sgn_digits hD []
      rw [List.append_nil] at this
      exact this
    · unfold sgnN; rw [if_pos (.inr rfl)]; rfl
  have hneg : decide ((sgnL neg ++ D).head? = some 45) = neg := by
    cases neg
    · obtain ⟨c, hc, hd⟩ := head_digits hD []
      rw [List.append_nil] at hc
      show decide (D.head? = some 45) = false
      rw [hc]
      exact decide_eq_false (fun e => (dig_ne hd).2.1 (Option.some.inj e))
    · exact decide_eq_true rfl
  have hne : sgnL neg ++ D ≠ [] := fun e => hD.1 (List.append_eq_nil_iff.1 e).2
  unfold rf
  rw [if_neg hne, hneg, hsg, List.drop_left, hl]
  unfold rfTail
  have hlen : (sgnL neg).length + N = (sgnL neg ++ D).length := by rw [List.length_append, hDl]
  have hend : ((sgnL neg ++ D).drop ((sgnL neg).length + N)).head? = none := by rw [hlen, List.drop_length]; rfl
  simp only [hend]
  rw [if_neg (by decide), if_neg (by simp)]
  unfold rfDone
  simp only [if_neg hX0, hlen]
  congr 1
  simp

end Go.Proofs.YtjncgedjdmgpfaaGreatDoor

namespace Go.Proofs.YtjncgedjdmgpfaaGreatDoor
open Go.RowKit

theorem rung_eq {X M E : Nat} (h : WholeX X M E) : rungX M E = 4503599627370496 * (E + 1023) + (M - 4503599627370496) := by
  have h1 := h.m1
  unfold rungX
  rw [Nat.mul_comm 4503599627370496, show E + 1023 = (E + 1022) + 1 by omega, Nat.add_mul (E + 1022) 1, Nat.one_mul, Nat.add_assoc, Nat.add_sub_cancel' h1]

theorem rung_div {X M E : Nat} (h : WholeX X M E) : rungX M E / 4503599627370496 = E + 1023 ∧ rungX M E % 4503599627370496 = M - 4503599627370496 := by
  have h2 := h.m2
  rw [rung_eq h]
  refine ⟨?_, ?_⟩
  · rw [Nat.mul_add_div (by decide), Nat.div_eq_of_lt (by omega), Nat.add_zero]
  · rw [Nat.mul_add_mod, Nat.mod_eq_of_lt (by omega)]

theorem word_low (neg : Bool) {X M E : Nat} (h : WholeX X M E) (hE : E ≤ 63) : wordX neg M E % 9223372036854775808 = rungX M E ∧ (wordX neg M E / 9223372036854775808 % 2 == 1) = neg ∧ fNg (wordX neg M E) = neg := by
  obtain ⟨hr, _⟩ := wordX_lt neg h hE
  unfold wordX fNg
  generalize rungX M E = R at hr
  cases neg
  · refine ⟨?_, ?_, ?_⟩
    · show R % 9223372036854775808 = R; omega
    · show (R / 9223372036854775808 % 2 == 1) = false
      rw [beq_eq_false_iff_ne]; omega
    · show decide (9223372036854775808 ≤ R) = false
      exact decide_eq_false (by omega)
  · refine ⟨?_, ?_, ?_⟩
    · show (9223372036854775808 + R) % 9223372036854775808 = R; omega
    · show ((9223372036854775808 + R) / 9223372036854775808 % 2 == 1) = true
      rw [beq_iff_eq]; omega
    · show decide (9223372036854775808 ≤ 9223372036854775808 + R) = true
      exact decide_eq_true (by omega)

theorem word_fin (neg : Bool) {X M E : Nat} (h : WholeX X M E) (hE : E ≤ 63) : finN (wordX neg M E) := by
  unfold finN
  rw [(word_low neg h hE).1]
  exact (wordX_lt neg h hE).1

theorem word_parts (neg : Bool) {X M E : Nat} (h : WholeX X M E) (hE : E ≤ 63) : mgN (wordX neg M E) = M ∧ plN (wordX neg M E) = (E : Int) - 52 := by
  obtain ⟨h1, h2⟩ := rung_div h
  have hm1 := h.m1
  unfold mgN plN
  rw [(word_low neg h hE).1, h2, h1]
  have hge : ¬ rungX M E < 4503599627370496 := by
    intro hlt
    rw [Nat.div_eq_of_lt hlt] at h1; omega
  rw [if_neg hge, if_neg hge]
  exact ⟨by omega, by omega⟩

theorem mod_div (x : Nat) : x / 4503599627370496 % 2048 = x % 9223372036854775808 / 4503599627370496 := by
  have h : (9223372036854775808 : Nat) = 4503599627370496 * 2048 := by decide
  rw [h, Nat.mod_mul_right_div_self]
theorem mod_mod52 (x : Nat) : x % 4503599627370496 = x % 9223372036854775808 % 4503599627370496 := by
  have h : (9223372036854775808 : Nat) = 4503599627370496 * 2048 := by decide
  rw [h, Nat.mod_mul_right_mod]

theorem word_f (neg : Bool) {X M E : Nat} (h : WholeX X M E) (hE : E ≤ 63) : fEx (wordX neg M E) = E + 1023 ∧ fMm (wordX neg M E) = M ∧ fE1 (wordX neg M E) = E + 1023 := by
  obtain ⟨h1, h2⟩ := rung_div h
  have hm1 := h.m1
  have hx : fEx (wordX neg M E) = E + 1023 := by unfold fEx; rw [mod_div, (word_low neg h hE).1, h1]
  have hm : fMt (wordX neg M E) = M - 4503599627370496 := by unfold fMt; rw [mod_mod52, (word_low neg h hE).1, h2]
  refine ⟨hx, ?_, ?_⟩
  · unfold fMm; rw [hx, hm, if_neg (by omega)]; omega
  · unfold fE1; rw [hx, if_neg (by omega)]

theorem trunc_whole (neg : Bool) {X M E : Nat} (h : WholeX X M E) (hE : E ≤ 63) : truncN (wordX neg M E) = wordX neg M E := by
  have hrd := read_num (word_fin neg h hE)
  obtain ⟨p1, p2⟩ := word_parts neg h hE
  rw [p1, p2, (word_low neg h hE).2.1] at hrd
  have hc : Ieee.Toward.zero.cut neg (M <<< ((E : Int) - 52).toNat) (-((E : Int) - 52)).toNat = X := by
    rcases Nat.lt_or_ge E 52 with hlt | hge
    · rw [show ((E : Int) - 52).toNat = 0 by omega, show (-((E : Int) - 52)).toNat = 52 - E by omega, Nat.shiftLeft_zero]
      unfold Ieee.Toward.cut
      have hl : M.log2 = 52 := by
        have hm1 := h.m1; have hm2 := h.m2
        rw [Nat.log2_eq_iff (by omega)]
        exact ⟨by rw [e52n]; exact hm1, by rw [show (2 : Nat) ^ (52 + 1) = 9007199254740992 by decide]; exact hm2⟩
      rw [hl, Nat.min_eq_left (by omega), Nat.one_shiftLeft]
      simp only [Bool.toNat_false, Nat.add_zero]
      rw [← h.small (by omega), Nat.mul_div_cancel _ (Nat.pow_pos (by decide))]
    · rw [show ((E : Int) - 52).toNat = E - 52 by omega, show (-((E : Int) - 52)).toNat = 0 by omega, Nat.shiftLeft_eq, ← h.big hge]
      unfold Ieee.Toward.cut
      simp
  have e : truncN (wordX neg M E) = FloatKind.f64.format.nearest neg (Ieee.Toward.zero.cut neg (M <<< ((E : Int) - 52).toNat) (-((E : Int) - 52)).toNat) 0 := by
    unfold truncN FloatKind.encode FloatKind.decode
    rw [hrd]; rfl
  rw [e, hc]
  exact nearest_int neg h (by omega)

theorem plain_whole (neg : Bool) {X M E : Nat} (h : WholeX X M E) (hE : E ≤ 63) : plainN (wordX neg M E) = wordX neg M E := by
  have hz : (FloatKind.f64.format.order (wordX neg M E) 0 == some .eq) = false := by
    have hr0 : FloatKind.f64.format.read 0 = .number false 0 (-1074) := by kernel_rfl
    obtain ⟨p1, p2⟩ := word_parts neg h hE
    have hrd := read_num (word_fin neg h hE)
    rw [p1, p2, (word_low neg h hE).2.1] at hrd
    rw [order_num hrd hr0]
    have z1 : ∀ s k, Ieee.signed s 0 k = 0 := fun s k => by cases s <;> simp [signed_t, signed_f]
    rw [z1]
    have hpos : 0 < M * 2 ^ (((E : Int) - 52) - min ((E : Int) - 52) (-1074)).toNat := Nat.mul_pos (by have := h.m1; omega) (Nat.pow_pos (by decide))
    cases neg
    · rw [signed_f, cmp_gt (by omega)]; rfl
    · rw [signed_t, cmp_lt (by omega)]; rfl
  unfold plainN
  rw [hz]; rfl

theorem decL_digL {X M E : Nat} (h : WholeX X M E) (hX : X < 18446744073709551616) : digL (decL X) := by
  obtain ⟨n1, n2, _, _, _⟩ := ndN_ok X h.pos hX
  refine ⟨fun e => ?_, fun c hc => ?_, ?_⟩
  · have := congrArg List.length e
    unfold decL at this; rw [digsL_len] at this; simp at this; omega
  · unfold decL digsL at hc
    obtain ⟨k, _, rfl⟩ := List.mem_map.1 hc
    exact dgf_isDig _ _ _
  · unfold decL; rw [digsL_len]; omega

theorem whole_lt {X M E : Nat} (h : WholeX X M E) (hE : E ≤ 63) : X < 18446744073709551616 := by
  have h1 := h.lt.1
  have h2 := Nat.pow_le_pow_right (n := 2) (by decide) (show E + 1 ≤ 64 by omega)
  have h3 : (2 : Nat) ^ 64 = 18446744073709551616 := by decide
  omega

theorem digits_whole (neg : Bool) {X M E : Nat} (h : WholeX X M E) (hE : E ≤ 63) (w : World) (hL : LaidG w) :
    Calls Tryz.prog 16 #[.float .f64 (wordX neg M E)] w fun e w' => e = .returned (.string ⟨(sgnL neg ++ decL X).toArray⟩) ∧ Below w.heap.size w w' := by
  have hf := word_fin neg h hE
  refine digits_of_format (wordX neg M E) _ w (nanB_fin hf) (infP_fin hf) (infM_fin hf) ?_
  rw [trunc_whole neg h hE, plain_whole neg h hE]
  obtain ⟨f1, f2, f3⟩ := word_f neg h hE
  have hd := decL_digL h (whole_lt h hE)
  have hsg := sgnL_len neg
  have hI : Calls Tryz.prog 43 #[.float .f64 (wordX neg M E), .int .u8 102, .int .i64 0, .int .i64 64] w fun e w' => e = .returned (.string ⟨(sgnL neg ++ decL X).toArray⟩) ∧ Below w.heap.size w w' :=
    format_of (wordX neg M E) 102 0 (sgnL neg ++ decL X) w (by decide) (by decide) (by have := hd.2.2; rw [List.length_append]; omega) (fun W v bd hb _ hr => by
      have h1 := ftoa_any (wordX neg M E) 102 0 W v bd (wordX_lt neg h hE).2 (by rw [f1]; omega) (by rw [f2]; have := h.m1; omega) (.inr (.inr (.inl rfl))) (by decide) (by decide) (hL.below hb) hr
      rw [f2, f3, (word_low neg h hE).2.2, show ((E + 1023 : Nat) : Int) - 1023 = (E : Int) by omega, ftoaT_whole neg h hE] at h1
      exact h1)
  obtain ⟨x, ex⟩ : ∃ x, wordX neg M E = x := ⟨_, rfl⟩
  rw [ex] at hI ⊢
  have HF := Lib.hid hI
  clear hI hL h f1 f2 f3 hd hf ex
  go_enter Tryz.func33, Tryz.ntmps33
  go_wp2_with (go_at_call 43; refine HF.out.mono ?_; rintro e w' ⟨rfl, hb⟩)
  go_ret
  exact ⟨rfl, hb⟩

end Go.Proofs.YtjncgedjdmgpfaaGreatDoor

namespace Go.Proofs.YtjncgedjdmgpfaaGreatDoor
open Go.RowKit

theorem ofInt_pos {X M E : Nat} (h : WholeX X M E) (hE : E ≤ 63) : floatOfInt .f64 (X : Int) = rungX M E := by
  have e : floatOfInt .f64 (X : Int) = FloatKind.f64.format.nearest (decide ((X : Int) < 0)) (X : Int).natAbs 0 := rfl
  rw [e, decide_eq_false (by omega), Int.natAbs_natCast, nearest_int false h (by omega)]
  rfl

set_option maxHeartbeats 1000000 in
theorem exact_whole (neg : Bool) {X M E : Nat} (h : WholeX X M E) (hE : E ≤ 51) (w : World) (hL : LaidF w) :
    Calls Tryz.prog 95 #[.int .u64 X, .int .i64 0, .bool neg] w fun e w' => e = .returned (.tuple #[.float .f64 (wordX neg M E), .bool true]) ∧ w = w' := by
  have hX : X < 4503599627370496 := by
    have h1 := h.lt.1
    have h2 := Nat.pow_le_pow_right (n := 2) (by decide) (show E + 1 ≤ 52 by omega)
    rw [e52n] at h2
    omega
  have b0 : ((X : Int) / 4503599627370496 != 0) = false := by
    have : (X : Int) / 4503599627370496 = 0 := by omega
    rw [this]; rfl
  have e0 := ofInt_pos h (by omega)
  have hr := (wordX_lt neg h (by omega)).1
  have x1 := xor_top (rungX M E) (by omega)
  have hw : wordX neg M E = if neg = true then 9223372036854775808 + rungX M E else rungX M E := rfl
  rw [hw]
  have N1 := run_negF
  obtain ⟨h1, h2, b, o, cap, h3, h4⟩ := hL
  obtain ⟨R, eR⟩ : ∃ R, rungX M E = R := ⟨_, rfl⟩
  rw [eR] at e0 x1 hr ⊢
  clear h4 hw eR h
  cases neg
  all_goals
    go_enter Tryz.func95, Tryz.ntmps95
    go_wp2
    go_ret2
    exact ⟨rfl, rfl⟩

set_option maxRecDepth 100000 in
set_option maxHeartbeats 3200000 in
theorem atof64_whole (s : ByteArray) (hs : s.size ≤ 140737488351232) (hN : ∀ c ∈ s.data.toList, c ∈ numChL) (neg : Bool) {X M E : Nat} (h : WholeX X M E) (hE0 : 52 ≤ E) (hE : E ≤ 63) (n : Nat)
    (hr : rf s.data.toList = ⟨X, 0, neg, false, n, true⟩) (w : World) (hL : LaidG w) :
    Calls Tryz.prog 61 #[.string s] w fun e w' => e = .returned (.tuple #[.float .f64 (wordX neg M E), .int .i64 n, .nilIface]) ∧ Below w.heap.size w w' := by
  have HS := Lib.hid (fun W => special_rf s W hs hN)
  have HR := Lib.hid (fun W => readFloat_rf s W hs hN X 0 neg false n true hr)
  have bm : ((X : Int) == 0) = false := beq_eq_false_iff_ne.2 (by have := h.pos; omega)
  have hX : ((X : Int) / 4503599627370496 != 0) = true := by
    have h1 := h.lt.2
    have h2 := Nat.pow_le_pow_right (n := 2) (by decide) hE0
    rw [e52n] at h2
    rw [bne_iff_ne]; omega
  have HE := Lib.hid (exact_great X 0 neg hX).2.2
  have HP := Lib.hid (fun W hT => parse64_exact neg 0 rfl h hE0 hE W hT)
  have h1 := hL.lt.le.lf.opt
  have HT := Lib.hid hL.lt
  have HL := Lib.hid hL.lt.le.lf
  obtain ⟨x, ex⟩ : ∃ x, wordX neg M E = x := ⟨_, rfl⟩
  rw [ex] at HP ⊢
  clear hN hr hs hL hX ex h
  cases neg
  all_goals
   go_enter Tryz.func61, Tryz.ntmps61
   go_wp2_with (first | (go_at_call 84; refine (HS.out _).mono ?_; rintro e w' ⟨rfl, rfl⟩) | (go_at_call 85; refine (HR.out _).mono ?_; rintro e w' ⟨rfl, rfl⟩) | (go_at_call 93; refine (bool2_any _ _).mono ?_; rintro e w' ⟨rfl, rfl⟩) | (go_at_call 95; refine (HE.out _ HL.out).mono ?_; rintro e w' ⟨rfl, rfl⟩) | (go_at_call 96; refine (HP.out _ HT.out).mono ?_; rintro e w' ⟨rfl, hb⟩))
   go_ret3
   exact ⟨rfl, hb⟩

/-- ParseFloat, where atof64 reads the whole. -/
theorem parse_from (s : ByteArray) (x : Nat) (w : World) (hA : Calls Tryz.prog 61 #[.string s] w fun e w' => e = .returned (.tuple #[.float .f64 x, .int .i64 s.size, .nilIface]) ∧ Below w.heap.size w w') :
    Calls Tryz.prog 25 #[.string s, .int .i64 64] w fun e w' => ∃ v, e = .returned (.tuple #[.float .f64 x, v]) ∧ Below w.heap.size w w' := by
  have hB : Calls Tryz.prog 49 #[.string s, .int .i64 64] w fun e w' => e = .returned (.tuple #[.float .f64 x, .int .i64 s.size, .nilIface]) ∧ Below w.heap.size w w' :=
    prefix_of s w _ (hA.mono fun e w' ⟨h1, h2⟩ => ⟨x, s.size, .nilIface, h1, h1, h2⟩)
  have HB := Lib.hid hB
  have hC : Calls Tryz.prog 40 #[.string s, .int .i64 64] w fun e w' => e = .returned (.tuple #[.float .f64 x, .nilIface]) ∧ Below w.heap.size w w' := by
    clear hA hB
    go_enter Tryz.func40, Tryz.ntmps40
    go_wp2_with (go_at_call 49; refine HB.out.mono ?_; rintro e w' ⟨rfl, hb⟩)
    go_ret2
    exact ⟨rfl, hb⟩
  have HC := Lib.hid hC
  have n2 : ∀ (W : World), (binOp .neq 45 .nilIface .nilIface).run Tryz.prog W = .ok (.bool false) W := fun W => run_neq_nil_nil W 45 (by kernel_rfl)
  clear hA hB hC HB
  go_enter Tryz.func25, Tryz.ntmps25
  go_wp2_with (go_at_call 40; refine HC.out.mono ?_; rintro e w' ⟨rfl, hb⟩)
  go_ret2
  exact ⟨_, rfl, hb⟩

theorem text_num (neg : Bool) (D : List UInt8) (hD : ∀ c ∈ D, isDig c = true) : ∀ c ∈ sgnL neg ++ D, c ∈ numChL := fun c hc => by
  rcases List.mem_append.1 hc with h | h
  · cases neg
    · cases h
    · rw [List.mem_singleton.1 h]; decide
  · exact dig_num c (hD c h)

theorem parse_whole (neg : Bool) {X M E : Nat} (h : WholeX X M E) (hE : E ≤ 63) (hX : X < 10000000000000000000) (s : ByteArray) (hs : s.data.toList = sgnL neg ++ decL X) (w : World) (hL : LaidG w) :
    Calls Tryz.prog 25 #[.string s, .int .i64 64] w fun e w' => ∃ v, e = .returned (.tuple #[.float .f64 (wordX neg M E), v]) ∧ Below w.heap.size w w' := by
  have hX64 := whole_lt h hE
  obtain ⟨n1, n2, n3, n4, _⟩ := ndN_ok X h.pos hX64
  have hn19 : ndN X ≤ 19 := by
    have : ndN X - 1 < 19 := (Nat.pow_lt_pow_iff_right (a := 10) (by decide)).1 (Nat.lt_of_le_of_lt n3 (by omega))
    omega
  have hd := decL_digL h hX64
  have hsz : s.size = (sgnL neg ++ decL X).length := by
    have : s.data.toList.length = s.size := rfl
    rw [← this, hs]
  have hsl : s.size ≤ 140737488351232 := by
    rw [hsz, List.length_append]
    have := hd.2.2; have := sgnL_len neg; omega
  have hN : ∀ c ∈ s.data.toList, c ∈ numChL := by rw [hs]; exact text_num neg _ hd.2.1
  have hr : rf s.data.toList = ⟨X, 0, neg, false, s.size, true⟩ := by
    rw [hsz, hs]
    exact rf_whole neg X (ndN X) n1 hn19 n3 n4
  refine parse_from s _ w ?_
  by_cases h52 : 52 ≤ E
  · exact atof64_whole s hsl hN neg h h52 hE s.size hr w hL
  · exact (atof64_exactG s w hsl hN hL.lt.le.lf X 0 s.size (wordX neg M E) neg hr (by have := h.pos; omega) (by omega) (by omega) (fun W hW => exact_whole neg h (by omega) W hW)).mono fun e w' ⟨h1, h2⟩ => ⟨h1, h2 ▸ Below.refl _ _⟩

theorem parse_zero (s : ByteArray) (hs : s.data.toList = [48]) (w : World) (hL : LaidG w) :
    Calls Tryz.prog 25 #[.string s, .int .i64 64] w fun e w' => ∃ v, e = .returned (.tuple #[.float .f64 0, v]) ∧ Below w.heap.size w w' := by
  have hsz : s.size = 1 := by
    have : s.data.toList.length = s.size := rfl
    rw [hs] at this; exact this.symm
  refine parse_from s 0 w ?_
  rw [hsz]
  exact (atof64_zero s w (by omega) (by rw [hs]; decide) hL.lt.le.lf 0 false false 1 (by rw [hs]; rfl)).mono fun e w' ⟨h1, h2⟩ => ⟨h1, h2 ▸ Below.refl _ _⟩

/-- A sign and digits are read by num.Prefix as whatever ParseFloat makes of them. -/
theorem prefix_text (neg : Bool) (D : List UInt8) (hD : D ≠ [] ∧ ∀ c ∈ D, isDig c = true) (x : Nat) (s : ByteArray) (hs : s.data.toList = sgnL neg ++ D) (hlen : s.size ≤ maxLen) (w : World)
    (hP : ∀ t : ByteArray, t.data.toList = sgnL neg ++ D → Calls Tryz.prog 25 #[.string t, .int .i64 64] w fun e w' => ∃ v, e = .returned (.tuple #[.float .f64 x, v]) ∧ Below w.heap.size w w') :
    (Calls Tryz.prog 9 #[.string s] w fun e w' => e = .returned (.tuple #[.float .f64 (plainN x), .int .i64 s.size]) ∧ Below w.heap.size w w') ∧
    ∀ W, Calls Tryz.prog 13 #[.string s] W fun e w' => e = .returned (.bool true) ∧ W = w' := by
  have hparts : numParts (sgnL neg) D [] [] := ⟨by cases neg <;> simp [sgnL], hD, .inl rfl, .inl rfl⟩
  have el : s.data.toList = [] ++ (sgnL neg ++ (D ++ [] ++ ([] ++ []))) := by rw [hs]; simp
  have hb : ∀ c ∈ ([] : List UInt8), isBlank c = true := fun c hc => by cases hc
  obtain ⟨h1, h2, _⟩ := prefix_parts (t := []) hb hparts (.inl rfl)
  obtain ⟨b1, _, _⟩ := begin_parts (t := []) hb hparts
  rw [← el] at h1 h2 b1
  have hsz : s.data.toList.length = s.size := rfl
  have hpe : prefixE s.data.toList = s.size := by rw [h2, ← hsz, hs]; simp
  refine ⟨?_, fun W => made_looks s hlen hb hparts (.inl rfl) el true (by decide) W⟩
  have h := prefix_some s w x hlen h1 (hP _ (by
    have hE : (s.extract (beginS s.data.toList) (prefixE s.data.toList)).data.toList = (s.data.toList.drop (beginS s.data.toList)).take (prefixE s.data.toList - beginS s.data.toList) := Lib.extract_data _ _ _
    rw [hE, b1, hpe, ← hs]
    show (s.data.toList.drop 0).take (s.size - 0) = s.data.toList
    rw [List.drop_zero, Nat.sub_zero, ← hsz, List.take_length]))
  rw [hpe] at h
  exact h

theorem ofInt_zero : floatOfInt .f64 0 = 0 := by kernel_rfl

/-- Each whole number of 64 bits: its digits, and what they are read as. -/
theorem back_all (n : Int) (h1 : -9223372036854775808 ≤ n) (h2 : n ≤ 9223372036854775807) : ∃ s : ByteArray, s.size ≤ 2000 ∧ (FloatKind.f64.format.order (floatOfInt .f64 n) (floatOfInt .f64 n) = some .eq) ∧ ∀ w, LaidG w →
    (Calls Tryz.prog 16 #[.float .f64 (floatOfInt .f64 n)] w fun e w' => e = .returned (.string s) ∧ Below w.heap.size w w') ∧
    (Calls Tryz.prog 9 #[.string s] w fun e w' => e = .returned (.tuple #[.float .f64 (floatOfInt .f64 n), .int .i64 s.size]) ∧ Below w.heap.size w w') ∧
    (Calls Tryz.prog 13 #[.string s] w fun e w' => e = .returned (.bool true) ∧ w = w') := by
  by_cases h0 : n = 0
  · subst h0
    rw [ofInt_zero]
    refine ⟨⟨#[48]⟩, by decide, by kernel_rfl, fun w hL => ?_⟩
    have hd : ([48] : List UInt8) ≠ [] ∧ ∀ c ∈ ([48] : List UInt8), isDig c = true := ⟨by simp, fun c hc => by rw [List.mem_singleton.1 hc]; decide⟩
    obtain ⟨p1, p2⟩ := prefix_text false [48] hd 0 ⟨#[48]⟩ rfl (by decide) w (fun t ht => parse_zero t ht w hL)
    have hp : plainN 0 = 0 := by kernel_rfl
    rw [hp] at p1
    refine ⟨digits_of_format 0 _ w (by kernel_rfl) (by kernel_rfl) (by kernel_rfl) ?_, p1, p2 w⟩
    have e : plainN (truncN 0) = 0 := by kernel_rfl
    rw [e]
    exact format_zero w
  · obtain ⟨X, M, E, hW, hE, h63, e⟩ := nearest_round (decide (n < 0)) n.natAbs (by omega) (by omega)
    have e2 : floatOfInt .f64 n = wordX (decide (n < 0)) M E := e
    rw [e2]
    obtain ⟨neg, en⟩ : ∃ neg, decide (n < 0) = neg := ⟨_, rfl⟩
    rw [en]
    have hX64 := whole_lt hW hE
    have hXs : X < 10000000000000000000 := by
      rcases Nat.lt_or_ge E 63 with hlt | hge
      · have h5 := hW.lt.1
        have h6 := Nat.pow_le_pow_right (n := 2) (by decide) (show E + 1 ≤ 63 by omega)
        have h7 : (2 : Nat) ^ 63 = 9223372036854775808 := by decide
        omega
      · obtain rfl : E = 63 := by omega
        have h5 := hW.e
        rw [h63 rfl, show (2 : Nat) ^ 63 = 9223372036854775808 by decide, Nat.mul_comm] at h5
        have := Nat.eq_of_mul_eq_mul_left (show 0 < 4503599627370496 by decide) h5
        omega
    have hd := decL_digL hW hX64
    have hf := word_fin neg hW hE
    refine ⟨⟨(sgnL neg ++ decL X).toArray⟩, ?_, by rw [order_num (read_num hf) (read_num hf), cmp_eq], fun w hL => ?_⟩
    · rw [ba_size, List.length_append]; have := hd.2.2; have := sgnL_len neg; omega
    · obtain ⟨p1, p2⟩ := prefix_text neg (decL X) ⟨hd.1, hd.2.1⟩ (wordX neg M E) ⟨(sgnL neg ++ decL X).toArray⟩ (by simp) (by
        rw [ba_size, List.length_append]; have := hd.2.2; have := sgnL_len neg; unfold maxLen; omega) w (fun t ht => parse_whole neg hW hE hXs t ht w hL)
      rw [plain_whole neg hW hE] at p1
      exact ⟨digits_whole neg hW hE w hL, p1, p2 w⟩

set_option maxRecDepth 100000 in
set_option maxHeartbeats 1600000 in
theorem numBack_true (n : Int) (w : World) (hn : -9223372036854775808 ≤ n ∧ n ≤ 9223372036854775807) (hL : LaidG w) : Calls Tryz.prog 5 #[.int .i64 n] w fun e w' => e = .returned (.bool true) ∧ Below w.heap.size w w' := by
  obtain ⟨s, hs, ho, hA⟩ := back_all n hn.1 hn.2
  have HK : Hid (∀ W, Below w.heap.size w W → Calls Tryz.prog 11 #[] W fun e w' => e = .returned (.bool true) ∧ Below W.heap.size W w') := fun W hb => known11_true W (hL.below hb)
  have HA : Hid (∀ W, Below w.heap.size w W → (Calls Tryz.prog 16 #[.float .f64 (floatOfInt .f64 n)] W fun e w' => e = .returned (.string s) ∧ Below W.heap.size W w') ∧
    (Calls Tryz.prog 9 #[.string s] W fun e w' => e = .returned (.tuple #[.float .f64 (floatOfInt .f64 n), .int .i64 s.size]) ∧ Below W.heap.size W w') ∧
    (Calls Tryz.prog 13 #[.string s] W fun e w' => e = .returned (.bool true) ∧ W = w')) := fun W hb => hA W (hL.below hb)
  have r0 := Below.refl w.heap.size w
  obtain ⟨x, ex⟩ : ∃ x, floatOfInt .f64 n = x := ⟨_, rfl⟩
  rw [ex] at HA ho
  clear hA hL
  go_enter Tryz.func5, Tryz.ntmps5
  go_wp2_with (first
    | (go_at_call 16; refine (HA.out _ r0).1.mono ?_; rintro e w1 ⟨rfl, hb1⟩)
    | (go_at_call 9; refine (HA.out _ hb1).2.1.mono ?_; rintro e w2 ⟨rfl, hb2⟩; have hb12 := hb1.trans (hb2.mono hb1.size))
    | (go_at_call 11; refine (HK.out _ hb12).mono ?_; rintro e w3 ⟨rfl, hb3⟩; have hb13 := hb12.trans (hb3.mono hb12.size))
    | (go_at_call 13; refine (HA.out _ hb13).2.2.mono ?_; rintro e w' ⟨rfl, rfl⟩))
  go_ret
  exact ⟨ret_bool (by simp), hb13⟩

end Go.Proofs.YtjncgedjdmgpfaaGreatDoor
