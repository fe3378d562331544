/- Plain: a row of decimal digits times a power of two, from its end. No program here. Plain: a row of decimal digits by a power of two, from its beginning. No program here. Plain: what of a quotient is dropped, and its trailing noughts. No program here. Plain: decimals as numbers: shifting them, and that repeated shifts come to an end. No program here. Plain: scaling a decimal into [1/2, 1) comes to an end. No program here. -/
import Derived.Test.YtdencljnbilchaaGreatDoorGm
import GoSem.PinnedTables

namespace Go.Proofs.YtdencljnbilchaaGreatDoor

/-- What is carried behind the q last digits. -/
def carry (M k q : Nat) : Nat := M % 10 ^ q * 2 ^ k / 10 ^ q

theorem mod_succ (M q : Nat) : M % 10 ^ (q + 1) = M / 10 ^ q % 10 * 10 ^ q + M % 10 ^ q := by
  rw [Nat.pow_succ, Nat.mod_mul, Nat.mul_comm]; omega

theorem carry_step (M k q : Nat) : carry M k q + M / 10 ^ q % 10 * 2 ^ k = M % 10 ^ (q + 1) * 2 ^ k / 10 ^ q := by
  unfold carry
  rw [mod_succ, Nat.add_mul, Nat.mul_assoc, Nat.mul_comm (10 ^ q) (2 ^ k), ← Nat.mul_assoc, Nat.add_comm (M / 10 ^ q % 10 * 2 ^ k * 10 ^ q), Nat.add_mul_div_right _ _ (p10_pos q)]

theorem carry_quo (M k q : Nat) : (carry M k q + M / 10 ^ q % 10 * 2 ^ k) / 10 = carry M k (q + 1) := by
  rw [carry_step, carry, Nat.div_div_eq_div_mul, ← Nat.pow_succ]

theorem carry_rem (M k q : Nat) : (carry M k q + M / 10 ^ q % 10 * 2 ^ k) % 10 = M * 2 ^ k / 10 ^ q % 10 := by
  rw [carry_step]
  have e : M * 2 ^ k = M % 10 ^ (q + 1) * 2 ^ k + M / 10 ^ (q + 1) * 2 ^ k * 10 * 10 ^ q := by
    have h := Nat.div_add_mod M (10 ^ (q + 1))
    have h2 : M / 10 ^ (q + 1) * 2 ^ k * 10 * 10 ^ q = M / 10 ^ (q + 1) * 10 ^ (q + 1) * 2 ^ k := by
      rw [Nat.pow_succ]; ac_rfl
    rw [h2, ← Nat.add_mul]
    congr 1
    rw [Nat.mul_comm (M / 10 ^ (q + 1))]; omega
  rw [e, Nat.add_mul_div_right _ _ (p10_pos q)]
  omega

theorem carry_lt (M k q : Nat) : carry M k q < 2 ^ k := by
  unfold carry
  rw [Nat.div_lt_iff_lt_mul (p10_pos q), Nat.mul_comm]
  exact Nat.mul_lt_mul_of_pos_left (Nat.mod_lt _ (p10_pos q)) (Nat.pow_pos (by decide))

theorem carry_zero (M k : Nat) : carry M k 0 = 0 := by simp [carry, Nat.mod_one]
theorem carry_all {M k nd : Nat} (h : M < 10 ^ nd) : carry M k nd = M * 2 ^ k / 10 ^ nd := by rw [carry, Nat.mod_eq_of_lt h]

/-- What has been dropped. -/
def dropB (P T q : Nat) : Bool := decide (P % 10 ^ min q (T - 800) ≠ 0)
theorem dropB_zero (P T : Nat) : dropB P T 0 = false := by simp [dropB, Nat.mod_one]
theorem dropB_in {P T q : Nat} (h : T - (q + 1) < 800) : dropB P T (q + 1) = dropB P T q := by
  unfold dropB; rw [show min (q + 1) (T - 800) = min q (T - 800) by omega]
theorem dropB_out {P T q : Nat} (h : ¬ T - (q + 1) < 800) : dropB P T (q + 1) = (dropB P T q || decide (P / 10 ^ q % 10 ≠ 0)) := by
  unfold dropB
  rw [show min (q + 1) (T - 800) = q + 1 by omega, show min q (T - 800) = q by omega, mod_succ]
  have hp := p10_pos q
  rcases Nat.eq_zero_or_pos (P / 10 ^ q % 10) with h0 | h0
  · rw [h0, Nat.zero_mul, Nat.zero_add]; simp
  · have h1 : P / 10 ^ q % 10 * 10 ^ q + P % 10 ^ q ≠ 0 := by
      have := Nat.mul_pos h0 hp; omega
    have h2 : P / 10 ^ q % 10 ≠ 0 := by omega
    rw [decide_eq_true h1, decide_eq_true h2, Bool.or_true]
theorem dropB_all {P T q : Nat} (h : T - 800 ≤ q) : dropB P T q = decide (P % 10 ^ (T - 800) ≠ 0) := by
  unfold dropB; rw [Nat.min_eq_right h]

def shRes (P T : Nat) : Nat × Nat := trimN (min T 800) (P / 10 ^ (T - 800))

/-- The digits that have been put down. -/
def putD (f : Nat → Nat) (P T q : Nat) : Prop := ∀ j, j < 800 → T - q ≤ j → j < T → f j = 48 + P / 10 ^ (T - 1 - j) % 10
theorem putD_zero (f : Nat → Nat) (P T : Nat) : putD f P T 0 := fun j _ h1 h2 => absurd h2 (by omega)

theorem putD_dgs {f : Nat → Nat} {P T : Nat} (h : putD f P T T) (hP : P < 10 ^ T) : dgs f (min T 800) (P / 10 ^ (T - 800)) := by
  refine ⟨?_, fun i hi => ?_⟩
  · rw [Nat.div_lt_iff_lt_mul (p10_pos _), ← Nat.pow_add, show min T 800 + (T - 800) = T by omega]; exact hP
  · rw [h i (by omega) (by omega) (by omega), Nat.div_div_eq_div_mul, ← Nat.pow_add, show T - 800 + (min T 800 - 1 - i) = T - 1 - i by omega]

structure Cheat (k delta L : Nat) : Prop where
  sum : L + delta = k + 1
  d1 : 1 ≤ delta
  up : 2 ^ k ≤ 10 ^ delta
  lo : 10 ^ (delta - 1) ≤ 2 ^ k

theorem cheat_less {M nd k delta L : Nat} (h : Cheat k delta L) : decide (M * 10 ^ L < 5 ^ k * 10 ^ nd) = decide (M * 2 ^ k < 10 ^ (nd + delta - 1)) := by
  have h1 := h.sum
  have h2 := h.d1
  have e : M * 2 ^ k < 10 ^ (nd + delta - 1) ↔ M * 10 ^ L < 5 ^ k * 10 ^ nd := by
    have e1 : M * 2 ^ k * (5 ^ k * 10 ^ L) = M * 10 ^ L * 10 ^ k := by
      rw [show (10 : Nat) ^ k = 2 ^ k * 5 ^ k by rw [← Nat.mul_pow]]; ac_rfl
    have e2 : 10 ^ (nd + delta - 1) * (5 ^ k * 10 ^ L) = 5 ^ k * 10 ^ nd * 10 ^ k := by
      have : 10 ^ (nd + delta - 1) * 10 ^ L = 10 ^ nd * 10 ^ k := by rw [← Nat.pow_add, ← Nat.pow_add]; congr 1; omega
      rw [Nat.mul_comm (5 ^ k) (10 ^ L), ← Nat.mul_assoc, this]; ac_rfl
    have hp : 0 < 5 ^ k * 10 ^ L := Nat.mul_pos (Nat.pow_pos (by decide)) (p10_pos L)
    rw [← Nat.mul_lt_mul_right hp, e1, e2, Nat.mul_lt_mul_right (p10_pos k)]
  exact decide_eq_decide.2 e.symm

/-- How many digits the product has. -/
def lenP (P nd delta : Nat) : Nat := if P < 10 ^ (nd + delta - 1) then nd + delta - 1 else nd + delta

theorem lenP_bd {M nd k delta L : Nat} (h : Cheat k delta L) (hM : M < 10 ^ nd) (hM0 : 10 ^ (nd - 1) ≤ M) (hnd : 1 ≤ nd) :
    M * 2 ^ k < 10 ^ lenP (M * 2 ^ k) nd delta ∧ 10 ^ (lenP (M * 2 ^ k) nd delta - 1) ≤ M * 2 ^ k ∧ nd ≤ lenP (M * 2 ^ k) nd delta ∧ lenP (M * 2 ^ k) nd delta ≤ nd + delta := by
  have h2 := h.d1
  unfold lenP
  split
  · rename_i hl
    refine ⟨hl, ?_, by omega, by omega⟩
    have e : 10 ^ (nd + delta - 1 - 1) = 10 ^ (nd - 1) * 10 ^ (delta - 1) := by rw [← Nat.pow_add]; congr 1; omega
    rw [e]; exact Nat.mul_le_mul hM0 h.lo
  · rename_i hl
    refine ⟨?_, by omega, by omega, by omega⟩
    have : M * 2 ^ k < 10 ^ nd * 2 ^ k := Nat.mul_lt_mul_of_pos_right hM (Nat.pow_pos (by decide))
    refine Nat.lt_of_lt_of_le this ?_
    rw [Nat.pow_add]
    exact Nat.mul_le_mul_left _ h.up

/-- The table, row by row. -/
def cheatOk (k : Nat) (x : Nat × List UInt8) : Bool :=
  decide (x.2.length + x.1 = k + 1) && decide (1 ≤ x.1) && decide (2 ^ k ≤ 10 ^ x.1) && decide (10 ^ (x.1 - 1) ≤ 2 ^ k) && decide (5 ^ k < 10 ^ x.2.length) && decide (x.2.length ≤ 100) &&
    (List.range x.2.length).all fun i => decide ((x.2.getD i 0).toNat = 48 + 5 ^ k / 10 ^ (x.2.length - 1 - i) % 10)
theorem cheats_ok : ((List.range 60).all fun i => cheatOk (i + 1) (Go.Pinned.cheatRows.getD (i + 1) (0, []))) = true := by decide +kernel

theorem pow5_mod (k : Nat) (h : 1 ≤ k) : 5 ^ k % 10 ≠ 0 := by
  have : ∀ n, 5 ^ (n + 1) % 10 = 5 := by
    intro n
    induction n with
    | zero => rfl
    | succ n ih => rw [Nat.pow_succ, Nat.mul_mod, ih]
  obtain ⟨n, rfl⟩ : ∃ n, k = n + 1 := ⟨k - 1, by omega⟩
  rw [this n]; decide

/-- How many digits. -/
def nD (P : Nat) : Nat := if P = 0 then 0 else nD (P / 10) + 1
decreasing_by omega
theorem nD_of : ∀ (T P : Nat), 10 ^ (T - 1) ≤ P → P < 10 ^ T → 1 ≤ T → nD P = T
  | 0, _, _, _, h => absurd h (by omega)
  | 1, P, h1, h2, _ => by
    rw [nD, if_neg (by simp at h1; omega), Nat.div_eq_of_lt (by simpa using h2), nD, if_pos rfl]
  | T + 2, P, h1, h2, _ => by
    have hp := p10_pos T
    have e1 : 10 ^ (T + 2 - 1) = 10 ^ T * 10 := by rw [show T + 2 - 1 = T + 1 by omega, Nat.pow_succ]
    have e2 : 10 ^ (T + 2) = 10 ^ (T + 1) * 10 := Nat.pow_succ ..
    rw [e1] at h1
    rw [e2] at h2
    rw [nD, if_neg (by omega), nD_of (T + 1) (P / 10) (by rw [Nat.add_sub_cancel]; omega) (by omega) (by omega)]

end Go.Proofs.YtdencljnbilchaaGreatDoor

namespace Go.Proofs.YtdencljnbilchaaGreatDoor

/-- The first r digits. -/
def preA (M nd r : Nat) : Nat := M * 10 ^ r / 10 ^ nd

theorem preA_zero {M nd : Nat} (h : M < 10 ^ nd) : preA M nd 0 = 0 := by
  unfold preA; rw [Nat.pow_zero, Nat.mul_one, Nat.div_eq_of_lt h]
theorem preA_in {M nd r : Nat} (h : r ≤ nd) : preA M nd r = M / 10 ^ (nd - r) := by
  unfold preA
  have e : 10 ^ nd = 10 ^ (nd - r) * 10 ^ r := by rw [← Nat.pow_add]; congr 1; omega
  rw [e, Nat.mul_div_mul_right _ _ (p10_pos r)]
theorem preA_out {M nd r : Nat} (h : nd ≤ r) : preA M nd r = M * 10 ^ (r - nd) := by
  unfold preA
  have e : 10 ^ r = 10 ^ (r - nd) * 10 ^ nd := by rw [← Nat.pow_add]; congr 1; omega
  rw [e, ← Nat.mul_assoc, Nat.mul_div_cancel _ (p10_pos nd)]
theorem preA_succ_in {M nd r : Nat} (h : r < nd) : preA M nd (r + 1) = preA M nd r * 10 + M / 10 ^ (nd - 1 - r) % 10 := by
  rw [preA_in (by omega), preA_in (by omega)]; exact pre_succ M nd r h
theorem preA_succ_out {M nd r : Nat} (h : nd ≤ r) : preA M nd (r + 1) = preA M nd r * 10 := by
  rw [preA_out (by omega), preA_out h, show r + 1 - nd = (r - nd) + 1 by omega, Nat.pow_succ, Nat.mul_assoc]
theorem preA_succ_le (M nd r : Nat) : preA M nd (r + 1) ≤ preA M nd r * 10 + 9 := by
  rcases Nat.lt_or_ge r nd with h | h
  · rw [preA_succ_in h]; omega
  · rw [preA_succ_out h]; omega
theorem preA_nd (M nd : Nat) : preA M nd nd = M := by rw [preA_in (Nat.le_refl _)]; simp

/-- Where the quotient's digits begin. -/
structure Start (M nd k r0 : Nat) : Prop where
  pos : 1 ≤ r0
  before : ∀ r, r < r0 → preA M nd r < 2 ^ k
  at_ : 2 ^ k ≤ preA M nd r0

theorem start_ex {M nd : Nat} (k : Nat) (hM : M < 10 ^ nd) (h0 : 0 < M) : ∃ r0, Start M nd k r0 := by
  have hex : ∃ r, 2 ^ k ≤ preA M nd r := by
    refine ⟨nd + k, ?_⟩
    rw [preA_out (by omega), show nd + k - nd = k by omega]
    have : 2 ^ k ≤ 10 ^ k := Nat.pow_le_pow_left (by decide) k
    exact Nat.le_trans this (Nat.le_mul_of_pos_left _ h0)
  obtain ⟨r, hr⟩ := hex
  induction r with
  | zero => rw [preA_zero hM] at hr; have := Nat.pow_pos (n := k) (show 0 < 2 by decide); omega
  | succ r ih =>
    rcases Nat.lt_or_ge (preA M nd r) (2 ^ k) with h | h
    · by_cases hall : ∀ r', r' < r + 1 → preA M nd r' < 2 ^ k
      · exact ⟨r + 1, by omega, hall, hr⟩
      · exfalso
        apply hall
        intro r' hr'
        -- the beginnings grow
        have mono : ∀ d, preA M nd r' ≤ preA M nd (r' + d) := by
          intro d
          induction d with
          | zero => exact Nat.le_refl _
          | succ d ihd =>
            refine Nat.le_trans ihd ?_
            rw [show r' + (d + 1) = (r' + d) + 1 by omega]
            rcases Nat.lt_or_ge (r' + d) nd with h' | h'
            · rw [preA_succ_in h']; omega
            · rw [preA_succ_out h']; omega
        have := mono (r - r')
        rw [show r' + (r - r') = r by omega] at this
        omega
    · exact ih h

theorem Start.lt {M nd k r0 : Nat} (h : Start M nd k r0) : preA M nd r0 < 10 * 2 ^ k := by
  have h1 := h.before (r0 - 1) (by have := h.pos; omega)
  have h2 := preA_succ_le M nd (r0 - 1)
  rw [show r0 - 1 + 1 = r0 by have := h.pos; omega] at h2
  omega

theorem preA_div (M nd k r : Nat) : preA M nd r / 2 ^ k = M * 5 ^ k * 10 ^ r / 10 ^ (nd + k) := by
  unfold preA
  have e : M * 5 ^ k * 10 ^ r = M * 10 ^ r * 5 ^ k := by ac_rfl
  have e2 : 10 ^ (nd + k) = 10 ^ nd * 2 ^ k * 5 ^ k := by rw [Nat.pow_add, Nat.mul_assoc, ← Nat.mul_pow]
  rw [e, e2, Nat.mul_div_mul_right _ _ (Nat.pow_pos (by decide)), Nat.div_div_eq_div_mul]

/-- How many digits the product with 5^k has. -/
theorem Start.len {M nd k r0 : Nat} (h : Start M nd k r0) (h0 : 0 < M) : r0 ≤ nd + k ∧ nD (M * 5 ^ k) = nd + k - r0 + 1 ∧ M * 5 ^ k < 10 ^ (nd + k - r0 + 1) := by
  have h1 := h.lt
  have h2 := h.at_
  have hp : 0 < 2 ^ k := Nat.pow_pos (by decide)
  have h3 : 1 ≤ preA M nd r0 / 2 ^ k := Nat.div_pos h2 hp
  have h4 : preA M nd r0 / 2 ^ k < 10 := by rw [Nat.div_lt_iff_lt_mul hp]; exact h1
  rw [preA_div] at h3 h4
  have hP : 0 < M * 5 ^ k := Nat.mul_pos h0 (Nat.pow_pos (by decide))
  have h5 : 10 ^ (nd + k) ≤ M * 5 ^ k * 10 ^ r0 := by
    have := Nat.div_mul_le_self (M * 5 ^ k * 10 ^ r0) (10 ^ (nd + k))
    exact Nat.le_trans (Nat.le_mul_of_pos_left _ h3) this
  have h6 : M * 5 ^ k * 10 ^ r0 < 10 ^ (nd + k + 1) := by
    rw [Nat.div_lt_iff_lt_mul (p10_pos _)] at h4
    rw [Nat.pow_succ, Nat.mul_comm (10 ^ (nd + k))]; exact h4
  have h7 : r0 ≤ nd + k := by
    rcases Nat.lt_or_ge (nd + k) r0 with h | h
    · have := Nat.pow_le_pow_right (n := 10) (by decide) (show nd + k + 1 ≤ r0 by omega)
      have h8 := Nat.le_mul_of_pos_left (10 ^ r0) hP
      omega
    · exact h
  have e5 : 10 ^ (nd + k) = 10 ^ (nd + k - r0) * 10 ^ r0 := by rw [← Nat.pow_add]; congr 1; omega
  have e6 : 10 ^ (nd + k + 1) = 10 ^ (nd + k - r0 + 1) * 10 ^ r0 := by rw [← Nat.pow_add]; congr 1; omega
  rw [e5] at h5
  rw [e6] at h6
  have h8 := Nat.le_of_mul_le_mul_right h5 (p10_pos r0)
  have h9 := Nat.lt_of_mul_lt_mul_right h6
  exact ⟨h7, nD_of _ _ (by rw [Nat.add_sub_cancel]; exact h8) h9 (by omega), h9⟩

/-- A digit of the quotient. -/
theorem quo_digit {M nd k r0 T q : Nat} (hT : T = nd + k - r0 + 1) (hr : r0 ≤ nd + k) (hq : q < T) : preA M nd (r0 + q) % (10 * 2 ^ k) / 2 ^ k = M * 5 ^ k / 10 ^ (T - 1 - q) % 10 := by
  have e : preA M nd (r0 + q) % (10 * 2 ^ k) / 2 ^ k = preA M nd (r0 + q) / 2 ^ k % 10 := by
    rw [Nat.mul_comm 10, Nat.mod_mul_right_div_self]
  rw [e, preA_div]
  have e2 : 10 ^ (nd + k) = 10 ^ (T - 1 - q) * 10 ^ (r0 + q) := by rw [← Nat.pow_add]; congr 1; omega
  rw [e2, Nat.mul_div_mul_right _ _ (p10_pos _)]

theorem rest_in {M nd k r : Nat} (h : r < nd) : preA M nd (r + 1) % (10 * 2 ^ k) = preA M nd r % (10 * 2 ^ k) % 2 ^ k * 10 + M / 10 ^ (nd - 1 - r) % 10 := by
  have hp : 0 < 2 ^ k := Nat.pow_pos (by decide)
  rw [preA_succ_in h, Nat.mod_mul_left_mod]
  have hd : M / 10 ^ (nd - 1 - r) % 10 < 10 := Nat.mod_lt _ (by decide)
  generalize M / 10 ^ (nd - 1 - r) % 10 = d at hd
  generalize preA M nd r = A
  have e : A * 10 + d = 10 * 2 ^ k * (A / 2 ^ k) + (A % 2 ^ k * 10 + d) := by
    have := Nat.div_add_mod A (2 ^ k)
    have e2 : 10 * 2 ^ k * (A / 2 ^ k) = 2 ^ k * (A / 2 ^ k) * 10 := by ac_rfl
    rw [e2]; omega
  rw [e, Nat.mul_add_mod, Nat.mod_eq_of_lt]
  have := Nat.mod_lt A hp
  omega
theorem rest_out {M nd k r : Nat} (h : nd ≤ r) : preA M nd (r + 1) % (10 * 2 ^ k) = preA M nd r % (10 * 2 ^ k) % 2 ^ k * 10 := by
  rw [preA_succ_out h, Nat.mod_mul_left_mod, Nat.mul_comm (preA M nd r), Nat.mul_mod_mul_left, Nat.mul_comm]

theorem rest_end {M nd k r0 T q : Nat} (hT : T = nd + k - r0 + 1) (hr : r0 ≤ nd + k) (hq : T ≤ q) : preA M nd (r0 + q) % (10 * 2 ^ k) = 0 := by
  rw [preA_out (by omega)]
  have e : 10 ^ (r0 + q - nd) = 10 ^ (r0 + q - nd - (k + 1)) * (5 ^ k * (10 * 2 ^ k)) := by
    have : 5 ^ k * (10 * 2 ^ k) = 10 ^ (k + 1) := by rw [Nat.pow_succ, show (10 : Nat) ^ k = 5 ^ k * 2 ^ k by rw [← Nat.mul_pow]]; ac_rfl
    rw [this, ← Nat.pow_add]; congr 1; omega
  rw [e, ← Nat.mul_assoc, ← Nat.mul_assoc]
  exact Nat.mul_mod_left _ _

theorem rest_zero {M nd k r0 T q : Nat} (hT : T = nd + k - r0 + 1) (hr : r0 ≤ nd + k) (hq : q ≤ T) (hn : nd ≤ r0 + q) (h : preA M nd (r0 + q) % (10 * 2 ^ k) = 0) : M * 5 ^ k % 10 ^ (T - q) = 0 := by
  rw [preA_out hn] at h
  have hd : 10 * 2 ^ k ∣ M * 10 ^ (r0 + q - nd) := Nat.dvd_of_mod_eq_zero h
  have hd2 : 10 * 2 ^ k * 5 ^ k ∣ M * 10 ^ (r0 + q - nd) * 5 ^ k := Nat.mul_dvd_mul_right hd _
  have e1 : 10 * 2 ^ k * 5 ^ k = 10 ^ (T - q) * 10 ^ (r0 + q - nd) := by
    rw [Nat.mul_assoc, ← Nat.mul_pow, ← Nat.pow_succ', ← Nat.pow_add]; congr 1; omega
  have e2 : M * 10 ^ (r0 + q - nd) * 5 ^ k = M * 5 ^ k * 10 ^ (r0 + q - nd) := by ac_rfl
  rw [e1, e2] at hd2
  exact Nat.mod_eq_zero_of_dvd (Nat.dvd_of_mul_dvd_mul_right (p10_pos _) hd2)

end Go.Proofs.YtdencljnbilchaaGreatDoor

namespace Go.Proofs.YtdencljnbilchaaGreatDoor

theorem trimN_mul : ∀ (c a M : Nat), trimN (a + c) (M * 10 ^ c) = trimN a M
  | 0, a, M => by simp
  | c + 1, a, M => by
    have e : M * 10 ^ (c + 1) = M * 10 ^ c * 10 := by rw [Nat.pow_succ, Nat.mul_assoc]
    rw [show a + (c + 1) = (a + c) + 1 by omega, e, trimN_yes (Nat.mul_mod_left _ _), Nat.mul_div_cancel _ (by decide)]
    exact trimN_mul c a M

theorem div_pow_split {P a c : Nat} (h : P % 10 ^ (a + c) = 0) : P / 10 ^ a = P / 10 ^ (a + c) * 10 ^ c := by
  have hd : 10 ^ (a + c) ∣ P := Nat.dvd_of_mod_eq_zero h
  obtain ⟨m, rfl⟩ := hd
  rw [Nat.mul_div_cancel_left _ (p10_pos _), Nat.pow_add, Nat.mul_assoc, Nat.mul_div_cancel_left _ (p10_pos a), Nat.mul_comm]

theorem shRes_of {P T q : Nat} (hq : q ≤ T) (h : P % 10 ^ (T - q) = 0) : trimN (min q 800) (P / 10 ^ (T - min q 800)) = shRes P T := by
  unfold shRes
  rcases Nat.lt_or_ge q 800 with h8 | h8
  · have e1 : min q 800 = q := by omega
    have e2 : min T 800 = q + (min T 800 - q) := by omega
    have e3 : T - q = (T - 800) + (min T 800 - q) := by omega
    rw [e1, e2, e3]
    rw [e3] at h
    rw [div_pow_split h]
    exact (trimN_mul _ _ _).symm
  · have e1 : min q 800 = 800 := by omega
    have e2 : min T 800 = 800 := by omega
    rw [e1, e2]

def dropQ (P T q : Nat) : Bool := decide (P / 10 ^ (T - q) % 10 ^ (q - 800) ≠ 0)
theorem dropQ_in {P T q : Nat} (h : q ≤ 800) : dropQ P T q = false := by
  unfold dropQ; rw [show q - 800 = 0 by omega]; simp [Nat.mod_one]
theorem dropQ_out {P T q : Nat} (h : 800 ≤ q) (hT : q < T) : dropQ P T (q + 1) = (dropQ P T q || decide (P / 10 ^ (T - 1 - q) % 10 ≠ 0)) := by
  unfold dropQ
  have e1 : P / 10 ^ (T - q) = P / 10 ^ (T - 1 - q) / 10 := by
    rw [Nat.div_div_eq_div_mul, show T - q = (T - 1 - q) + 1 by omega, Nat.pow_succ]
  rw [e1, show T - (q + 1) = T - 1 - q by omega, show q + 1 - 800 = (q - 800) + 1 by omega]
  generalize P / 10 ^ (T - 1 - q) = X
  generalize q - 800 = u
  have e2 : X % 10 ^ (u + 1) = X / 10 % 10 ^ (u) * 10 + X % 10 := by
    rw [Nat.pow_succ, Nat.mul_comm (10 ^ (u)), Nat.mod_mul]; generalize X / 10 % 10 ^ (u) = Y; omega
  rw [e2]
  generalize X / 10 % 10 ^ (u) = Y
  rw [Bool.eq_iff_iff]
  simp only [decide_eq_true_eq, Bool.or_eq_true]
  omega

theorem dropQ_all {P T q : Nat} (hq : q ≤ T) (h : P % 10 ^ (T - q) = 0) : dropQ P T q = decide (P % 10 ^ (T - 800) ≠ 0) := by
  rcases Nat.lt_or_ge q 800 with h8 | h8
  · rw [dropQ_in (by omega)]
    have hd : 10 ^ (T - 800) ∣ P := Nat.dvd_trans (Nat.pow_dvd_pow 10 (by omega)) (Nat.dvd_of_mod_eq_zero h)
    simp [Nat.mod_eq_zero_of_dvd hd]
  · unfold dropQ
    have e : 10 ^ (T - 800) = 10 ^ (T - q) * 10 ^ (q - 800) := by rw [← Nat.pow_add, show T - q + (q - 800) = T - 800 by omega]
    rw [e, Nat.mod_mul, h, Nat.zero_add]
    have hp := p10_pos (T - q)
    refine decide_eq_decide.2 ⟨fun h1 h2 => h1 ?_, fun h1 h2 => h1 ?_⟩
    · rcases Nat.mul_eq_zero.1 h2 with h3 | h3
      · omega
      · exact h3
    · rw [h2, Nat.mul_zero]

theorem quo_dgs {f : Nat → Nat} {P T q : Nat} (h : ∀ j, j < q → j < 800 → f j = 48 + P / 10 ^ (T - 1 - j) % 10) (hP : P < 10 ^ T) (hq : q ≤ T) : dgs f (min q 800) (P / 10 ^ (T - min q 800)) := by
  refine ⟨?_, fun i hi => ?_⟩
  · rw [Nat.div_lt_iff_lt_mul (p10_pos _), ← Nat.pow_add, show min q 800 + (T - min q 800) = T by omega]; exact hP
  · rw [h i (by omega) (by omega), Nat.div_div_eq_div_mul, ← Nat.pow_add, show T - min q 800 + (min q 800 - 1 - i) = T - 1 - i by omega]

end Go.Proofs.YtdencljnbilchaaGreatDoor

namespace Go.Proofs.YtdencljnbilchaaGreatDoor

structure DS where
  M : Nat
  nd : Nat
  dp : Int
  tr : Bool

/-- The first digit is none that is nought. -/
def DS.ok (s : DS) : Prop := 1 ≤ s.nd ∧ s.nd ≤ 800 ∧ 10 ^ (s.nd - 1) ≤ s.M ∧ s.M < 10 ^ s.nd
/-- The first digit. -/
def DS.lead (s : DS) : Nat := s.M / 10 ^ (s.nd - 1)

theorem lead_bd {s : DS} (h : s.ok) : 1 ≤ s.lead ∧ s.lead ≤ 9 := by
  obtain ⟨h1, _, h3, h4⟩ := h
  unfold DS.lead
  refine ⟨Nat.div_pos h3 (p10_pos _), ?_⟩
  have : s.M / 10 ^ (s.nd - 1) < 10 := by
    have e : 10 ^ s.nd = 10 ^ (s.nd - 1) * 10 := by
      obtain ⟨n, hn⟩ : ∃ n, s.nd = n + 1 := ⟨s.nd - 1, by omega⟩
      rw [hn, Nat.add_sub_cancel, Nat.pow_succ]
    rw [Nat.div_lt_iff_lt_mul (p10_pos _), Nat.mul_comm, ← e]; exact h4
  omega

theorem nD_bd (P : Nat) (h : 0 < P) : 1 ≤ nD P ∧ 10 ^ (nD P - 1) ≤ P ∧ P < 10 ^ nD P := by
  induction P using Nat.strongRecOn with
  | _ P ih =>
    rw [nD, if_neg (by omega)]
    rcases Nat.eq_zero_or_pos (P / 10) with h0 | h0
    · rw [h0, nD, if_pos rfl]; exact ⟨by omega, by simp; omega, by simp; omega⟩
    · obtain ⟨a, b, c⟩ := ih (P / 10) (by omega) h0
      refine ⟨by omega, ?_, ?_⟩
      · rw [Nat.add_sub_cancel, show nD (P / 10) = nD (P / 10) - 1 + 1 by omega, Nat.pow_succ]; omega
      · rw [Nat.pow_succ]; omega

theorem trimN_ok : ∀ (n M : Nat), 1 ≤ n → 10 ^ (n - 1) ≤ M → M < 10 ^ n → 1 ≤ (trimN n M).1 ∧ (trimN n M).1 ≤ n ∧ 10 ^ ((trimN n M).1 - 1) ≤ (trimN n M).2 ∧ (trimN n M).2 < 10 ^ (trimN n M).1 ∧ (trimN n M).2 / 10 ^ ((trimN n M).1 - 1) = M / 10 ^ (n - 1)
  | 0, _, h, _, _ => absurd h (by omega)
  | 1, M, _, h1, h2 => by
    have : M % 10 ≠ 0 := by simp at h1 h2; omega
    rw [trimN_no this]; exact ⟨by omega, by omega, h1, h2, rfl⟩
  | n + 2, M, _, h1, h2 => by
    by_cases h : M % 10 = 0
    · rw [trimN_yes h]
      have e1 : 10 ^ (n + 2 - 1) = 10 ^ n * 10 := by rw [show n + 2 - 1 = n + 1 by omega, Nat.pow_succ]
      have e2 : 10 ^ (n + 2) = 10 ^ (n + 1) * 10 := Nat.pow_succ ..
      rw [e1] at h1
      rw [e2] at h2
      obtain ⟨a, b, c, d, e⟩ := trimN_ok (n + 1) (M / 10) (by omega) (by rw [Nat.add_sub_cancel]; omega) (by omega)
      refine ⟨a, by omega, c, d, ?_⟩
      rw [e, e1, Nat.add_sub_cancel, Nat.mul_comm, ← Nat.div_div_eq_div_mul]
    · rw [trimN_no h]; exact ⟨by omega, by omega, h1, h2, rfl⟩

theorem shRes_ok (P : Nat) (h : 0 < P) : 1 ≤ (shRes P (nD P)).1 ∧ (shRes P (nD P)).1 ≤ 800 ∧ 10 ^ ((shRes P (nD P)).1 - 1) ≤ (shRes P (nD P)).2 ∧ (shRes P (nD P)).2 < 10 ^ (shRes P (nD P)).1 ∧ (shRes P (nD P)).2 / 10 ^ ((shRes P (nD P)).1 - 1) = P / 10 ^ (nD P - 1) := by
  obtain ⟨h1, h2, h3⟩ := nD_bd P h
  generalize nD P = T at *
  unfold shRes
  have e1 : 10 ^ (T - 1) = 10 ^ (min T 800 - 1) * 10 ^ (T - 800) := by rw [← Nat.pow_add, show min T 800 - 1 + (T - 800) = T - 1 by omega]
  have e2 : 10 ^ T = 10 ^ min T 800 * 10 ^ (T - 800) := by rw [← Nat.pow_add, show min T 800 + (T - 800) = T by omega]
  obtain ⟨a, b, c, d, e⟩ := trimN_ok (min T 800) (P / 10 ^ (T - 800)) (by omega) (by rw [Nat.le_div_iff_mul_le (p10_pos _), ← e1]; exact h2) (by rw [Nat.div_lt_iff_lt_mul (p10_pos _), ← e2]; exact h3)
  refine ⟨a, by omega, c, d, ?_⟩
  rw [e, Nat.div_div_eq_div_mul, Nat.mul_comm, ← e1]

def shlS (s : DS) (k : Nat) : DS := ⟨(shRes (s.M * 2 ^ k) (nD (s.M * 2 ^ k))).2, (shRes (s.M * 2 ^ k) (nD (s.M * 2 ^ k))).1, dpT (shRes (s.M * 2 ^ k) (nD (s.M * 2 ^ k))).1 (s.dp + nD (s.M * 2 ^ k) - s.nd), s.tr || decide (s.M * 2 ^ k % 10 ^ (nD (s.M * 2 ^ k) - 800) ≠ 0)⟩
def shrS (s : DS) (k : Nat) : DS := ⟨(shRes (s.M * 5 ^ k) (nD (s.M * 5 ^ k))).2, (shRes (s.M * 5 ^ k) (nD (s.M * 5 ^ k))).1, dpT (shRes (s.M * 5 ^ k) (nD (s.M * 5 ^ k))).1 (s.dp + nD (s.M * 5 ^ k) - s.nd - k), s.tr || decide (s.M * 5 ^ k % 10 ^ (nD (s.M * 5 ^ k) - 800) ≠ 0)⟩

theorem DS.ok.pos {s : DS} (h : s.ok) : 0 < s.M := Nat.lt_of_lt_of_le (p10_pos _) h.2.2.1

theorem shlS_ok {s : DS} (h : s.ok) (k : Nat) : (shlS s k).ok ∧ (shlS s k).dp = s.dp + nD (s.M * 2 ^ k) - s.nd ∧ (shlS s k).lead = s.M * 2 ^ k / 10 ^ (nD (s.M * 2 ^ k) - 1) := by
  obtain ⟨a, b, c, d, e⟩ := shRes_ok (s.M * 2 ^ k) (Nat.mul_pos h.pos (Nat.pow_pos (by decide)))
  exact ⟨⟨a, b, c, d⟩, if_neg (by omega), e⟩
theorem shrS_ok {s : DS} (h : s.ok) (k : Nat) : (shrS s k).ok ∧ (shrS s k).dp = s.dp + nD (s.M * 5 ^ k) - s.nd - k ∧ (shrS s k).lead = s.M * 5 ^ k / 10 ^ (nD (s.M * 5 ^ k) - 1) := by
  obtain ⟨a, b, c, d, e⟩ := shRes_ok (s.M * 5 ^ k) (Nat.mul_pos h.pos (Nat.pow_pos (by decide)))
  exact ⟨⟨a, b, c, d⟩, if_neg (by omega), e⟩

/-- Leftwards the point goes right, by the digits that come in. -/
theorem shlS_dp {s : DS} (h : s.ok) {k a c : Nat} (h1 : 10 ^ a ≤ 2 ^ k) (h2 : 2 ^ k ≤ 10 ^ c) : s.dp + a ≤ (shlS s k).dp ∧ (shlS s k).dp ≤ s.dp + c := by
  obtain ⟨_, e, _⟩ := shlS_ok h k
  obtain ⟨n1, n2, n3⟩ := nD_bd (s.M * 2 ^ k) (Nat.mul_pos h.pos (Nat.pow_pos (by decide)))
  obtain ⟨p1, _, p3, p4⟩ := h
  have l1 : 10 ^ (s.nd - 1 + a) ≤ s.M * 2 ^ k := by rw [Nat.pow_add]; exact Nat.mul_le_mul p3 h1
  have l2 : s.M * 2 ^ k < 10 ^ (s.nd + c) := by
    rw [Nat.pow_add]
    exact Nat.lt_of_lt_of_le (Nat.mul_lt_mul_of_pos_right p4 (Nat.pow_pos (by decide))) (Nat.mul_le_mul_left _ h2)
  have g1 : s.nd - 1 + a < nD (s.M * 2 ^ k) := (Nat.pow_lt_pow_iff_right (by decide)).1 (Nat.lt_of_le_of_lt l1 n3)
  have g2 : nD (s.M * 2 ^ k) - 1 < s.nd + c := (Nat.pow_lt_pow_iff_right (a := 10) (by decide)).1 (Nat.lt_of_le_of_lt n2 l2)
  rw [e]; omega

/-- Rightwards the point goes left. -/
theorem shrS_dp {s : DS} (h : s.ok) (k : Nat) : s.dp - k ≤ (shrS s k).dp ∧ (shrS s k).dp ≤ s.dp := by
  obtain ⟨_, e, _⟩ := shrS_ok h k
  obtain ⟨n1, n2, n3⟩ := nD_bd (s.M * 5 ^ k) (Nat.mul_pos h.pos (Nat.pow_pos (by decide)))
  obtain ⟨p1, _, p3, p4⟩ := h
  have l1 : 10 ^ (s.nd - 1) ≤ s.M * 5 ^ k := Nat.le_trans p3 (Nat.le_mul_of_pos_right _ (Nat.pow_pos (by decide)))
  have l2 : s.M * 5 ^ k < 10 ^ (s.nd + k) := by
    rw [Nat.pow_add]
    exact Nat.lt_of_lt_of_le (Nat.mul_lt_mul_of_pos_right p4 (Nat.pow_pos (by decide))) (Nat.mul_le_mul_left _ (Nat.pow_le_pow_left (by decide) k))
  have g1 : s.nd - 1 < nD (s.M * 5 ^ k) := (Nat.pow_lt_pow_iff_right (a := 10) (by decide)).1 (Nat.lt_of_le_of_lt l1 n3)
  have g2 : nD (s.M * 5 ^ k) - 1 < s.nd + k := (Nat.pow_lt_pow_iff_right (a := 10) (by decide)).1 (Nat.lt_of_le_of_lt n2 l2)
  rw [e]; omega

end Go.Proofs.YtdencljnbilchaaGreatDoor

namespace Go.Proofs.YtdencljnbilchaaGreatDoor

def powL : List Nat := [1, 3, 6, 9, 13, 16, 19, 23, 26]
def powN (d : Nat) : Nat := if 9 ≤ d then 27 else powL.getD d 0
theorem powN_bd (d : Nat) : 1 ≤ powN d ∧ powN d ≤ 27 := by
  unfold powN
  split
  · omega
  · obtain rfl | rfl | rfl | rfl | rfl | rfl | rfl | rfl | rfl : d = 0 ∨ d = 1 ∨ d = 2 ∨ d = 3 ∨ d = 4 ∨ d = 5 ∨ d = 6 ∨ d = 7 ∨ d = 8 := by omega
    all_goals decide
theorem powN_two (d : Nat) (h : 2 ≤ d) : 6 ≤ powN d := by
  unfold powN
  split
  · omega
  · obtain rfl | rfl | rfl | rfl | rfl | rfl | rfl : d = 2 ∨ d = 3 ∨ d = 4 ∨ d = 5 ∨ d = 6 ∨ d = 7 ∨ d = 8 := by omega
    all_goals decide

theorem pow2_ge (k : Nat) (h : 4 ≤ k) : 10 ≤ 2 ^ k := by
  have := Nat.pow_le_pow_right (n := 2) (by decide) h
  omega

theorem p10_pred {n : Nat} (h : 1 ≤ n) : 10 ^ n = 10 ^ (n - 1) * 10 := by
  obtain ⟨m, rfl⟩ : ∃ m, n = m + 1 := ⟨n - 1, by omega⟩
  rw [Nat.add_sub_cancel, Nat.pow_succ]

/-- A quotient that loses a digit. -/
theorem shrS_less {s : DS} (h : s.ok) (k : Nat) (hl : s.M < 2 ^ k * 10 ^ (s.nd - 1)) : (shrS s k).dp ≤ s.dp - 1 := by
  obtain ⟨_, e, _⟩ := shrS_ok h k
  obtain ⟨n1, n2, n3⟩ := nD_bd (s.M * 5 ^ k) (Nat.mul_pos h.pos (Nat.pow_pos (by decide)))
  have l2 : s.M * 5 ^ k < 10 ^ (s.nd - 1 + k) := by
    have h2 : s.M * 5 ^ k < 2 ^ k * 10 ^ (s.nd - 1) * 5 ^ k := Nat.mul_lt_mul_of_pos_right hl (Nat.pow_pos (by decide))
    have e2 : 2 ^ k * 10 ^ (s.nd - 1) * 5 ^ k = 10 ^ (s.nd - 1 + k) := by
      rw [Nat.pow_add, show (10 : Nat) ^ k = 2 ^ k * 5 ^ k by rw [← Nat.mul_pow]]; ac_rfl
    rwa [e2] at h2
  have g2 : nD (s.M * 5 ^ k) - 1 < s.nd - 1 + k := (Nat.pow_lt_pow_iff_right (a := 10) (by decide)).1 (Nat.lt_of_le_of_lt n2 l2)
  have := h.1
  rw [e]; omega

theorem shrS_less10 {s : DS} (h : s.ok) (k : Nat) (hk : 4 ≤ k) : (shrS s k).dp ≤ s.dp - 1 := by
  refine shrS_less h k (Nat.lt_of_lt_of_le h.2.2.2 ?_)
  rw [p10_pred h.1, Nat.mul_comm]
  exact Nat.mul_le_mul_right _ (pow2_ge k hk)

/-- By eight: a first digit of eight or nine becomes a one. -/
theorem shrS_three {s : DS} (h : s.ok) (hl : ¬ s.M < 2 ^ 3 * 10 ^ (s.nd - 1)) : (shrS s 3).lead = 1 := by
  obtain ⟨_, _, e⟩ := shrS_ok h 3
  obtain ⟨n1, n2, n3⟩ := nD_bd (s.M * 5 ^ 3) (Nat.mul_pos h.pos (Nat.pow_pos (by decide)))
  obtain ⟨p1, _, p3, p4⟩ := h
  have hp := p10_pos (s.nd - 1)
  rw [p10_pred p1] at p4
  have hT : nD (s.M * 5 ^ 3) = s.nd + 3 := by
    refine nD_of _ _ ?_ ?_ (by omega)
    · rw [show s.nd + 3 - 1 = s.nd - 1 + 3 by omega, Nat.pow_add]; omega
    · rw [show s.nd + 3 = s.nd - 1 + 4 by omega, Nat.pow_add]; omega
  rw [e, hT, show s.nd + 3 - 1 = s.nd - 1 + 3 by omega, Nat.pow_add]
  generalize 10 ^ (s.nd - 1) = X at *
  apply Nat.div_eq_of_lt_le <;> omega

def mu1 (s : DS) : Nat := 2 * s.dp.toNat + (if 8 ≤ s.lead then 1 else 0)
theorem lead_le {s : DS} (n : Nat) (h : s.M < n * 10 ^ (s.nd - 1)) : s.lead < n := by
  unfold DS.lead; rw [Nat.div_lt_iff_lt_mul (p10_pos _)]; exact h
theorem lead_ge {s : DS} (n : Nat) (h : ¬ s.M < n * 10 ^ (s.nd - 1)) : n ≤ s.lead := by
  unfold DS.lead; rw [Nat.le_div_iff_mul_le (p10_pos _)]; omega

theorem mu1_lt {s : DS} (h : s.ok) (hd : 0 < s.dp) : mu1 (shrS s (powN s.dp.toNat)) < mu1 s := by
  unfold mu1
  by_cases h2 : 2 ≤ s.dp.toNat
  · have := shrS_less10 h (powN s.dp.toNat) (by have := powN_two _ h2; omega)
    split <;> split <;> omega
  · have h1 : s.dp.toNat = 1 := by omega
    rw [h1]
    have hp : powN 1 = 3 := rfl
    rw [hp]
    by_cases hl : s.M < 2 ^ 3 * 10 ^ (s.nd - 1)
    · have := shrS_less h 3 hl
      split <;> split <;> omega
    · have g := lead_ge _ hl
      have l := shrS_three h hl
      have := (shrS_dp h 3).2
      rw [l, if_neg (by omega), if_pos (by omega)]; omega

def fb1 : Nat → DS → Int → DS × Int
  | 0, s, e => (s, e)
  | n + 1, s, e => if 0 < s.dp then fb1 n (shrS s (powN s.dp.toNat)) (e + powN s.dp.toNat) else (s, e)
theorem fb1_stop (n : Nat) (s : DS) (e : Int) (h : ¬ 0 < s.dp) : fb1 n s e = (s, e) := by
  cases n with
  | zero => rfl
  | succ n => rw [fb1, if_neg h]

/-- By two: a first digit below five grows. -/
theorem shlS_one {s : DS} (h : s.ok) (hl : s.lead < 5) : (shlS s 1).dp = s.dp ∧ 2 * s.lead ≤ (shlS s 1).lead := by
  obtain ⟨_, e, el⟩ := shlS_ok h 1
  obtain ⟨p1, _, p3, p4⟩ := h
  have hM : s.M < 5 * 10 ^ (s.nd - 1) := by
    unfold DS.lead at hl; rwa [Nat.div_lt_iff_lt_mul (p10_pos _)] at hl
  have hT : nD (s.M * 2 ^ 1) = s.nd := nD_of _ _ (by omega) (by rw [p10_pred p1]; omega) p1
  rw [e, el, hT]
  refine ⟨by omega, ?_⟩
  rw [Nat.le_div_iff_mul_le (p10_pos _)]
  have := Nat.div_mul_le_self s.M (10 ^ (s.nd - 1))
  unfold DS.lead
  rw [Nat.mul_assoc]; omega

theorem shlS_three {s : DS} (h : s.ok) : s.dp + 1 ≤ (shlS s 3).dp ∨ ((shlS s 3).dp = s.dp ∧ 8 * s.lead ≤ (shlS s 3).lead) := by
  obtain ⟨_, e, el⟩ := shlS_ok h 3
  obtain ⟨n1, n2, n3⟩ := nD_bd (s.M * 2 ^ 3) (Nat.mul_pos h.pos (Nat.pow_pos (by decide)))
  obtain ⟨p1, _, p3, p4⟩ := h
  have g1 : s.nd - 1 < nD (s.M * 2 ^ 3) := (Nat.pow_lt_pow_iff_right (a := 10) (by decide)).1 (Nat.lt_of_le_of_lt (Nat.le_trans p3 (Nat.le_mul_of_pos_right _ (by decide))) n3)
  by_cases hT : nD (s.M * 2 ^ 3) = s.nd
  · right
    rw [e, el, hT]
    refine ⟨by omega, ?_⟩
    rw [Nat.le_div_iff_mul_le (p10_pos _)]
    have := Nat.div_mul_le_self s.M (10 ^ (s.nd - 1))
    unfold DS.lead
    rw [Nat.mul_assoc]; omega
  · left; rw [e]; omega

def mu2 (s : DS) : Nat := if s.dp < 0 then 20 * (-s.dp).toNat + (10 - s.lead) else if s.dp = 0 then 10 - s.lead else 0
def cond2 (s : DS) : Prop := s.dp < 0 ∨ (s.dp = 0 ∧ s.lead < 5)
instance (s : DS) : Decidable (cond2 s) := by unfold cond2; infer_instance

theorem mu2_lt {s : DS} (h : s.ok) (hd : cond2 s) : mu2 (shlS s (powN (-s.dp).toNat)) < mu2 s := by
  have hb := lead_bd h
  have hb2 := lead_bd (shlS_ok h (powN (-s.dp).toNat)).1
  rcases hd with hd | ⟨hd, hl⟩
  · have key : s.dp + 1 ≤ (shlS s (powN (-s.dp).toNat)).dp ∨ ((shlS s (powN (-s.dp).toNat)).dp = s.dp ∧ 8 * s.lead ≤ (shlS s (powN (-s.dp).toNat)).lead) := by
      by_cases h2 : 2 ≤ (-s.dp).toNat
      · left
        have h6 := powN_two _ h2
        have hb := powN_bd (-s.dp).toNat
        have := (shlS_dp h (k := powN (-s.dp).toNat) (a := 1) (c := powN (-s.dp).toNat) (pow2_ge _ (by omega)) (Nat.pow_le_pow_left (by decide) _)).1
        omega
      · have h1 : (-s.dp).toNat = 1 := by omega
        rw [h1]; exact shlS_three h
    unfold mu2
    rw [if_pos hd]
    split <;> (try split) <;> omega
  · have h0 : (-s.dp).toNat = 0 := by omega
    rw [h0] at hb2 ⊢
    have hp : powN 0 = 1 := rfl
    rw [hp] at hb2 ⊢
    obtain ⟨a, b⟩ := shlS_one h hl
    unfold mu2
    rw [a, hd]
    simp only [Int.lt_irrefl, if_false, if_true]
    omega

def fb2 : Nat → DS → Int → DS × Int
  | 0, s, e => (s, e)
  | n + 1, s, e => if cond2 s then fb2 n (shlS s (powN (-s.dp).toNat)) (e - powN (-s.dp).toNat) else (s, e)
theorem fb2_stop (n : Nat) (s : DS) (e : Int) (h : ¬ cond2 s) : fb2 n s e = (s, e) := by
  cases n with
  | zero => rfl
  | succ n => rw [fb2, if_neg h]

end Go.Proofs.YtdencljnbilchaaGreatDoor
