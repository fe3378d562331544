/- FormatFloat at 'f', 0 of any finite number: a sign and digits. What ftoa64 writes of a whole number: its digits, to the last. What ftoa64 writes of a whole number: the slow road; both. ParseFloat at a whole number's digits: exact. Texts of numerals that are put together: what num.Prefix and num.Looks say of them. A whole number's double: its parts; its digits, and back. FormatFloat at e, E, f, g, G of any finite number, at any precision: some text. -/
import Derived.Test.YtdencljnbilchaaGreatDoorHd
import Derived.Test.YtdencljnbilchaaGreatDoorXt
import Derived.Test.YtdencljnbilchaaGreatDoorPi
import Derived.Test.YtdencljnbilchaaGreatDoorXr

namespace Go.Proofs.YtdencljnbilchaaGreatDoor
open Go.RowKit

def digL (ds : List UInt8) : Prop := ds ≠ [] ∧ (∀ c ∈ ds, isDig c = true) ∧ ds.length ≤ 1000

theorem isDig_of (n : Nat) (h1 : 48 ≤ n) (h2 : n ≤ 57) : isDig (UInt8.ofNat n) = true := by
  unfold isDig digB
  rw [UInt8.toNat_ofNat', Nat.mod_eq_of_lt (by omega)]
  simp; omega

theorem fmtL_digits (ng : Bool) (f : Nat → Nat) (nd : Nat) (dp : Int) (hf : ∀ i, 48 ≤ f i ∧ f i ≤ 57) (hd : dp ≤ 900) :
    ∃ ds, fmtL ng f nd dp 0 102 false = sgnL ng ++ ds ∧ digL ds := by
  refine ⟨wholeL f nd dp, ?_, ?_⟩
  · unfold fmtL
    rw [if_neg (by decide), if_pos rfl]
    unfold fmtF fracL
    rw [if_neg (by decide), List.append_nil]
  · unfold wholeL
    split
    · rename_i h
      refine ⟨fun e => ?_, fun c hc => ?_, ?_⟩
      · have := congrArg List.length e
        simp only [List.length_append, digsL_len, zerosL_len, List.length_nil] at this
        omega
      · rcases List.mem_append.1 hc with hc | hc
        · unfold digsL at hc
          obtain ⟨k, _, rfl⟩ := List.mem_map.1 hc
          exact isDig_of _ (hf _).1 (hf _).2
        · unfold zerosL at hc
          rw [(List.mem_replicate.1 hc).2]; decide
      · simp only [List.length_append, digsL_len, zerosL_len]
        omega
    · exact ⟨by simp, fun c hc => by rw [List.mem_singleton.1 hc]; decide, by simp⟩

theorem ftoaT_digits (ng : Bool) (M : Nat) (E : Int) (hM0 : M ≠ 0) (hM : M < 9007199254740992) (hE1 : -1022 ≤ E) (hE2 : E ≤ 1023) :
    ∃ ds, ftoaT ng M E 0 102 = sgnL ng ++ ds ∧ digL ds := by
  have hp : fPr 102 0 = 0 := by decide
  unfold ftoaT
  rw [hp]
  split
  · rename_i h18
    unfold fastT
    split
    · rename_i h
      obtain ⟨hL1, hL2, hL3⟩ := bitLen_full M hM0 hM
      have hb := fwEnd_bd (M * 2 ^ (64 - Lib.bitLen M)) (E - (64 - (Lib.bitLen M : Int)) - 52) (fDg 102 E 0).toNat 0 102 hL3 (by omega) (by omega) (by omega) (by omega) (by decide)
      have hU : fastN M E (fDg 102 E 0) 0 102 < 18446744073709551616 := by unfold fastN roundN; omega
      have hn := ndN_ok (fastN M E (fDg 102 E 0) 0 102) (by omega) hU
      have hP : -400 ≤ fastP M E (fDg 102 E 0) 0 102 ∧ fastP M E (fDg 102 E 0) 0 102 ≤ 400 := hb.2
      exact fmtL_digits ng _ _ _ (fun i => dgf_digit _ _ _) (by omega)
    · exact fmtL_digits ng _ _ _ (fun i => ⟨by decide, by decide⟩) (by decide)
  · obtain ⟨n1, n2, n3, n4, _⟩ := ndN_ok M (by omega) (by omega)
    obtain ⟨hok0, hdp0⟩ := dsOf_ok n1 n2 n3 n4
    have hs1 := shiR_ok hok0 (E - 52) (by omega) (by omega)
    rw [hdp0] at hs1
    have hs1' : (slow1 M E).ok ∧ -400 ≤ (slow1 M E).dp ∧ (slow1 M E).dp ≤ 360 := ⟨hs1.1, by have := hs1.2.1; unfold slow1; omega, by have := hs1.2.2; unfold slow1; omega⟩
    have hb := roundI_bd (slow1 M E) (if (102 : Nat) = 102 then (slow1 M E).dp + 0 else if (102 : Nat) = 101 ∨ (102 : Nat) = 69 then 0 + 1 else 0) hs1'.1.1 hs1'.1.2.1 (-400) 360 hs1'.2.1 hs1'.2.2 (by decide) (by decide)
    unfold slowT
    exact fmtL_digits ng _ _ _ (fun i => dgf_digit _ _ _) (by
      show (roundI (slow1 M E) (if (102 : Nat) = 102 then (slow1 M E).dp + 0 else if (102 : Nat) = 101 ∨ (102 : Nat) = 69 then 0 + 1 else 0)).dp ≤ 900
      omega)

theorem sgnL_false : sgnL false = [] := rfl

theorem format_fin (y : Nat) (hy : y < 18446744073709551616) (hf : finN y) (hz : y = 0 ∨ fMm y ≠ 0) : ∃ ds, digL ds ∧ ∀ w, LaidG w →
    Calls Tryz.prog 32 #[.float .f64 y, .int .u8 102, .int .i64 0, .int .i64 64] w fun e w' => e = .returned (.string ⟨(sgnL (fNg y) ++ ds).toArray⟩) ∧ Below w.heap.size w w' := by
  by_cases h0 : y = 0
  · subst h0
    exact ⟨[48], ⟨by simp, fun c hc => by rw [List.mem_singleton.1 hc]; decide, by simp⟩, fun w _ => format_zero w⟩
  · have hm := hz.resolve_left h0
    have hE : fEx y ≠ 2047 := by unfold finN at hf; unfold fEx; omega
    have hE1 : 1 ≤ fE1 y ∧ fE1 y ≤ 2046 := by
      have : fEx y < 2048 := by unfold fEx; omega
      unfold fE1; split <;> omega
    obtain ⟨ds, h1, h2⟩ := ftoaT_digits (fNg y) (fMm y) ((fE1 y : Nat) - 1023) hm (fMm_lt y) (by omega) (by omega)
    refine ⟨ds, h2, fun w hL => ?_⟩
    have hsg := sgnL_len (fNg y)
    have hI : Calls Tryz.prog 49 #[.float .f64 y, .int .u8 102, .int .i64 0, .int .i64 64] w fun e w' => e = .returned (.string ⟨(sgnL (fNg y) ++ ds).toArray⟩) ∧ Below w.heap.size w w' :=
      format_of y 102 0 (sgnL (fNg y) ++ ds) w (by decide) (by decide) (by have := h2.2.2; rw [List.length_append]; omega) (fun W v bd hb _ hr => by
        have h := ftoa_any y 102 0 W v bd hy hE hm (.inr (.inr (.inl rfl))) (by decide) (by decide) (hL.below hb) hr
        rw [h1] at h
        exact h)
    have HF := Lib.hid hI
    clear hI hL h1 h2
    go_enter Tryz.func32, Tryz.ntmps32
    go_wp2_with (go_at_call 49; refine HF.out.mono ?_; rintro e w' ⟨rfl, hb⟩)
    go_ret
    exact ⟨rfl, hb⟩

theorem order_zero {t : Nat} (ht : finN t) (h : fMm t = 0) : (FloatKind.f64.format.order t 0 == some .eq) = true := by
  have h0 : t % 9223372036854775808 = 0 := by
    unfold fMm fEx fMt at h; unfold finN at ht
    split at h
    · omega
    · omega
  have hm : mgN t = 0 := by unfold mgN; rw [h0]; rfl
  have hr0 : FloatKind.f64.format.read 0 = .number false 0 (-1074) := by kernel_rfl
  rw [order_num (read_num ht) hr0, hm]
  have z1 : ∀ s k, Ieee.signed s 0 k = 0 := fun s k => by cases s <;> simp [signed_t, signed_f]
  rw [z1, z1, cmp_eq]; rfl

theorem plain_trunc (x : Nat) (hx : x < 18446744073709551616) (hf : finN x) :
    plainN (truncN x) < 18446744073709551616 ∧ finN (plainN (truncN x)) ∧ (plainN (truncN x) = 0 ∨ fMm (plainN (truncN x)) ≠ 0) ∧ (x < 9223372036854775808 → fNg (plainN (truncN x)) = false) := by
  obtain ⟨r, hr, e⟩ := truncN_fin hx hf
  have ht : truncN x < 18446744073709551616 := by rw [e]; split <;> omega
  have htf : finN (truncN x) := by unfold finN; rw [e]; split <;> omega
  by_cases h0 : (FloatKind.f64.format.order (truncN x) 0 == some .eq) = true
  · have hp : plainN (truncN x) = 0 := by unfold plainN; rw [if_pos h0]
    rw [hp]
    exact ⟨by omega, by unfold finN; omega, .inl rfl, fun _ => by decide⟩
  · have hp : plainN (truncN x) = truncN x := by unfold plainN; rw [if_neg h0]
    rw [hp]
    refine ⟨ht, htf, .inr (fun hm => h0 (order_zero htf hm)), fun h9 => ?_⟩
    rw [if_neg (by omega)] at e
    unfold fNg
    rw [e]; exact decide_eq_false (by omega)

theorem digits_fin (x : Nat) (hx : x < 18446744073709551616) (hf : finN x) : ∃ ng ds, (x < 9223372036854775808 → ng = false) ∧ digL ds ∧
    (∀ w, LaidG w → Calls Tryz.prog 16 #[.float .f64 x] w fun e w' => e = .returned (.string ⟨(sgnL ng ++ ds).toArray⟩) ∧ Below w.heap.size w w') ∧
    (∀ w, LaidG w → Calls Tryz.prog 32 #[.float .f64 (plainN (truncN x)), .int .u8 102, .int .i64 0, .int .i64 64] w fun e w' => e = .returned (.string ⟨(sgnL ng ++ ds).toArray⟩) ∧ Below w.heap.size w w') := by
  obtain ⟨h1, h2, h3, h4⟩ := plain_trunc x hx hf
  obtain ⟨ds, h5, h6⟩ := format_fin _ h1 h2 h3
  exact ⟨_, ds, h4, h5, fun w hL => digits_of_format x _ w (nanB_fin hf) (infP_fin hf) (infM_fin hf) (h6 w hL), h6⟩

end Go.Proofs.YtdencljnbilchaaGreatDoor

namespace Go.Proofs.YtdencljnbilchaaGreatDoor
open Go.RowKit

/-- A whole number's digits. -/
def decL (V : Nat) : List UInt8 := digsL (dgf V (ndN V)) 0 (ndN V)

theorem digsL_split (f : Nat → Nat) (i a b : Nat) : digsL f i (a + b) = digsL f i a ++ digsL f (i + a) b := by
  induction b with
  | zero => simp [digsL_zero]
  | succ b ih => rw [← Nat.add_assoc, digsL_succ, ih, digsL_succ, List.append_assoc, Nat.add_assoc]
theorem digsL_congr {f g : Nat → Nat} (i n : Nat) (h : ∀ k, k < n → f (i + k) = g (i + k)) : digsL f i n = digsL g i n := by
  induction n with
  | zero => rfl
  | succ n ih => rw [digsL_succ, digsL_succ, ih (fun k hk => h k (by omega)), h n (by omega)]
theorem digsL_zeros {f : Nat → Nat} (i n : Nat) (h : ∀ k, k < n → f (i + k) = 48) : digsL f i n = zerosL n := by
  induction n with
  | zero => rfl
  | succ n ih => rw [digsL_succ, zerosL_succ, ih (fun k hk => h k (by omega)), h n (by omega)]; rfl

/-- A number that ends in noughts. -/
theorem dgf_head {V m N nd : Nat} (h : V = m * 10 ^ (N - nd)) (hle : nd ≤ N) (i : Nat) (hi : i < nd) : dgf V N i = dgf m nd i := by
  unfold dgf
  rw [h, show N - 1 - i = (nd - 1 - i) + (N - nd) by omega, Nat.pow_add, Nat.mul_comm (10 ^ (nd - 1 - i)), ← Nat.div_div_eq_div_mul, Nat.mul_div_cancel _ (p10_pos _)]
theorem dgf_tail {V m N nd : Nat} (h : V = m * 10 ^ (N - nd)) (i : Nat) (hi : nd ≤ i) (hN : i < N) : dgf V N i = 48 := by
  unfold dgf
  have e : 10 ^ (N - nd) = 10 ^ (N - 1 - i) * (10 * 10 ^ (i - nd)) := by
    rw [← Nat.pow_succ', ← Nat.pow_add]; congr 1; omega
  have h2 : V / 10 ^ (N - 1 - i) = m * 10 ^ (i - nd) * 10 := by
    rw [h, e, Nat.mul_left_comm, Nat.mul_div_cancel_left _ (p10_pos _), Nat.mul_comm 10, Nat.mul_assoc]
  rw [h2, Nat.mul_mod_left]

theorem trimN_val : ∀ (n M : Nat), M < 10 ^ n → M = (trimN n M).2 * 10 ^ (n - (trimN n M).1)
  | 0, M, h => by
    have : M = 0 := by simpa using h
    subst this; rfl
  | n + 1, M, h => by
    by_cases h0 : M % 10 = 0
    · rw [trimN_yes h0]
      have ih := trimN_val n (M / 10) (by rw [Nat.pow_succ] at h; omega)
      have hle := trimN_le n (M / 10)
      generalize (trimN n (M / 10)).1 = a at ih hle
      generalize (trimN n (M / 10)).2 = v at ih
      rw [show n + 1 - a = (n - a) + 1 by omega, Nat.pow_succ, ← Nat.mul_assoc, ← ih]
      omega
    · rw [trimN_no h0]; simp

theorem whole_of (f : Nat → Nat) (V N nd : Nat) (hle : nd ≤ N) (hN : 0 < N) (h1 : ∀ i, i < nd → f i = dgf V N i) (h2 : ∀ i, nd ≤ i → i < N → dgf V N i = 48) : wholeL f nd (N : Int) = digsL (dgf V N) 0 N := by
  unfold wholeL
  rw [if_pos (by omega), Int.toNat_natCast, Nat.min_eq_left hle]
  have e : N = nd + (N - nd) := by omega
  have e2 : digsL (dgf V N) 0 N = digsL (dgf V N) 0 (nd + (N - nd)) := by rw [← e]
  rw [e2, digsL_split, digsL_zeros (0 + nd) (N - nd) (fun k hk => h2 _ (by omega) (by omega)), digsL_congr (f := f) (g := dgf V N) 0 nd (fun k hk => by rw [Nat.zero_add]; exact h1 k hk)]

theorem ndN_eq {V n : Nat} (h0 : 0 < V) (hV : V < 18446744073709551616) (h1 : 10 ^ (n - 1) ≤ V) (h2 : V < 10 ^ n) (hn : 1 ≤ n) : ndN V = n := by
  obtain ⟨n1, _, n3, n4, _⟩ := ndN_ok V h0 hV
  have a : n - 1 < ndN V := (Nat.pow_lt_pow_iff_right (a := 10) (by decide)).1 (Nat.lt_of_le_of_lt h1 n4)
  have b : ndN V - 1 < n := (Nat.pow_lt_pow_iff_right (a := 10) (by decide)).1 (Nat.lt_of_le_of_lt n3 h2)
  omega

theorem usc_exact (x hi s U : Nat) (h : x * hi = U * 2 ^ s * 18446744073709551616) (hU : U * 2 ^ s < 18446744073709551616) : uscV x hi 0 s = U := by
  have hX : x * hi / 18446744073709551616 = U * 2 ^ s := by rw [h, Nat.mul_div_cancel _ (by decide)]
  have hm : x * hi % 18446744073709551616 = 0 := by rw [h, Nat.mul_mod_left]
  have hp : (0 : Int) < 2 ^ s := Int.pow_pos (by decide)
  have hq : ((U * 2 ^ s : Nat) : Int) / 2 ^ s = U := by
    push_cast
    exact Int.mul_ediv_cancel _ (by omega)
  have hq2 : ((U : Int) * 2 ^ s) % 18446744073709551616 = ((U * 2 ^ s : Nat) : Int) := by
    have : (U : Int) * 2 ^ s = ((U * 2 ^ s : Nat) : Int) := by push_cast; rfl
    rw [this]; omega
  unfold uscV
  rw [hX, hm, hq, Nat.mul_zero, Nat.zero_div, if_neg (by rw [hq2]; exact fun e => e rfl), if_neg (by omega)]
  unfold orN
  simp

theorem p348 : p10hi 348 = 9223372036854775808 ∧ p10lo 348 = 0 := by constructor <;> kernel_rfl
theorem p349 : p10hi 349 = 11529215046068469760 ∧ p10lo 349 = 0 := by constructor <;> kernel_rfl

theorem ten_tab : ∀ E : Fin 59, 2 ^ ((E : Nat) + 1) ≤ 10 ^ (1 + (1 + (E : Nat)) * 78913 / 262144) := by decide +kernel

theorem divU_40 (X : Nat) (h : 40 * X < 18446744073709551616) : divU (40 * X) = 4 * X := by
  unfold divU orN
  have h1 : (((40 * X : Nat) : Int) / 10).toNat = 4 * X := by omega
  have h2 : (((40 * X : Nat) : Int) % 2).toNat = 0 := by omega
  rw [h1, h2, if_pos (by omega), Nat.or_zero, Int.toNat_natCast]
  simp

theorem round_4 (X : Nat) : roundN (4 * X) = X := by unfold roundN; omega

theorem bitLen_53 (M : Nat) (h1 : 4503599627370496 ≤ M) (h2 : M < 9007199254740992) : Lib.bitLen M = 53 := by
  have hb : Lib.bitLen M = Lib.bitLenAux 64 M := rfl
  rcases bitLen_two 64 M (by rw [show (2 : Nat) ^ 64 = 18446744073709551616 from by decide]; omega) with ⟨h, _⟩ | ⟨a, b, c, d⟩
  · omega
  · rw [← hb] at a b c d
    generalize Lib.bitLen M = L at a b c d
    have e52 : (4503599627370496 : Nat) = 2 ^ 52 := by decide
    have e53 : (9007199254740992 : Nat) = 2 ^ 53 := by decide
    rw [e52] at h1; rw [e53] at h2
    have l1 : 52 < L := (Nat.pow_lt_pow_iff_right (a := 2) (by decide)).1 (Nat.lt_of_le_of_lt h1 b)
    have l2 : L - 1 < 53 := (Nat.pow_lt_pow_iff_right (a := 2) (by decide)).1 (Nat.lt_of_le_of_lt a h2)
    omega

theorem lin4 (X : Nat) : 4 * X * 1152921504606846976 = 1024 * (X * 4503599627370496) := by omega
theorem lin40 (X : Nat) : 40 * X * 144115188075855872 = 1280 * (X * 4503599627370496) := by omega

theorem fast_exact {X M E : Nat} (h : WholeX X M E) (hE : E ≤ 58) : fastN M E (fDg 102 E 0) 0 102 = X ∧ fastP M E (fDg 102 E 0) 0 102 = 0 ∧ 0 < fDg 102 E 0 ∧ fDg 102 E 0 ≤ 18 := by
  obtain ⟨hX1, hX2⟩ := h.lt
  have hX58 : X < 576460752303423488 := Nat.lt_of_lt_of_le hX1 (by
    have := Nat.pow_le_pow_right (n := 2) (by decide) (show E + 1 ≤ 59 by omega)
    exact Nat.le_trans this (by decide))
  obtain ⟨l1, el1⟩ : ∃ l1 : Nat, (1 + E) * 78913 / 262144 = l1 := ⟨_, rfl⟩
  obtain ⟨l0, el0⟩ : ∃ l0 : Nat, E * 78913 / 262144 = l0 := ⟨_, rfl⟩
  have hD : fDg 102 E 0 = ((1 + l1 : Nat) : Int) := by unfold fDg; rw [if_pos rfl, if_pos (by omega)]; omega
  have hl1 : l1 ≤ 17 := by omega
  have hll : l1 = l0 ∨ l1 = l0 + 1 := by omega
  have h10 : X < 10 ^ (1 + l1) := by
    have := ten_tab ⟨E, by omega⟩
    rw [el1] at this
    exact Nat.lt_of_lt_of_le hX1 this
  have hfw : fwP ((E : Int) - (64 - (53 : Nat)) - 52) (1 + l1) = (l1 : Int) - l0 := by unfold fwP; omega
  -- the number is exact
  have hend : fwEnd (M * 2 ^ (64 - 53)) ((E : Int) - (64 - (53 : Nat)) - 52) (1 + l1) 0 102 = (4 * X, 0) := by
    rcases hll with hl | hl
    · have hP : fwP ((E : Int) - (64 - (53 : Nat)) - 52) (1 + l1) = 0 := by rw [hfw]; omega
      have hS : fwS ((E : Int) - (64 - (53 : Nat)) - 52) (1 + l1) = 60 - E := by unfold fwS; rw [hP]; omega
      have hU : fwU (M * 2 ^ (64 - 53)) ((E : Int) - (64 - (53 : Nat)) - 52) (1 + l1) = 4 * X := by
        unfold fwU
        rw [hP, hS, show ((0 : Int) + 348).toNat = 348 from rfl, p348.1, p348.2]
        have e4 : 4 * X * 2 ^ (60 - E) = M * 1024 := by
          have hp : 0 < 2 ^ E := Nat.pow_pos (by decide)
          refine Nat.eq_of_mul_eq_mul_right hp ?_
          rw [Nat.mul_assoc, ← Nat.pow_add, show 60 - E + E = 60 by omega]
          have := h.e
          have e60 : (2 : Nat) ^ 60 = 1152921504606846976 := by decide
          rw [e60]
          have : M * 1024 * 2 ^ E = 1024 * (M * 2 ^ E) := by rw [Nat.mul_comm M 1024, Nat.mul_assoc]
          rw [this, ← h.e]; exact lin4 X
        refine usc_exact _ _ _ _ ?_ ?_
        · rw [e4]
          have : (2 : Nat) ^ (64 - 53) = 2048 := by decide
          rw [this, Nat.mul_assoc, Nat.mul_assoc]
        · rw [e4]; have := h.m2; clear e4; omega
      have hUP : fwUP (M * 2 ^ (64 - 53)) ((E : Int) - (64 - (53 : Nat)) - 52) (1 + l1) = (4 * X, 0) := by
        unfold fwUP
        rw [hU, hP, if_neg (by omega)]
      unfold fwEnd
      rw [hUP, if_neg (fun hh => absurd (show (0 : Int) < 0 from hh.2) (by decide))]
    · have hP : fwP ((E : Int) - (64 - (53 : Nat)) - 52) (1 + l1) = 1 := by rw [hfw]; omega
      have hE57 : E ≤ 57 := by omega
      have hS : fwS ((E : Int) - (64 - (53 : Nat)) - 52) (1 + l1) = 57 - E := by unfold fwS; rw [hP]; omega
      have h57 := fw_one ((E : Int) - (64 - (53 : Nat)) - 52) (1 + l1) (by omega) (by omega) (by omega) (by omega)
      rw [hP] at h57
      have hX40 : 40 * X < 18446744073709551616 := by
        have : X < 2 ^ (E + 1) := hX1
        have h2 := Nat.pow_le_pow_right (n := 2) (by decide) (show E + 1 ≤ 57 by omega)
        have e57 : (2 : Nat) ^ 57 = 144115188075855872 := by decide
        omega
      have hU : fwU (M * 2 ^ (64 - 53)) ((E : Int) - (64 - (53 : Nat)) - 52) (1 + l1) = 40 * X := by
        unfold fwU
        rw [hP, hS, show ((1 : Int) + 348).toNat = 349 from rfl, p349.1, p349.2]
        have e4 : 40 * X * 2 ^ (57 - E) = M * 1280 := by
          have hp : 0 < 2 ^ E := Nat.pow_pos (by decide)
          refine Nat.eq_of_mul_eq_mul_right hp ?_
          rw [Nat.mul_assoc, ← Nat.pow_add, show 57 - E + E = 57 by omega]
          have e60 : (2 : Nat) ^ 57 = 144115188075855872 := by decide
          rw [e60]
          have : M * 1280 * 2 ^ E = 1280 * (M * 2 ^ E) := by rw [Nat.mul_comm M 1280, Nat.mul_assoc]
          rw [this, ← h.e]; exact lin40 X
        refine usc_exact _ _ _ _ ?_ ?_
        · rw [e4]
          have : (2 : Nat) ^ (64 - 53) = 2048 := by decide
          rw [this, Nat.mul_assoc, Nat.mul_assoc]
        · rw [e4]; have := h.m2; clear e4; omega
      unfold fwEnd fwUP
      rw [hU, hP]
      by_cases hc : 4 * 10 ^ (1 + l1) - 2 ≤ 40 * X
      · rw [if_pos hc, divU_40 X hX40, if_neg (fun hh => absurd (show (0 : Int) < 1 - 1 from hh.2) (by decide))]; rfl
      · rw [if_neg hc, if_pos ⟨rfl, (by decide : (0 : Int) < 1)⟩]
        show (itU 1 (40 * X), (0 : Int)) = _
        unfold itU itU
        rw [divU_40 X hX40]
  refine ⟨?_, ?_, by omega, by omega⟩
  · unfold fastN
    rw [bitLen_53 M h.m1 h.m2, hD, Int.toNat_natCast, hend]
    exact round_4 X
  · unfold fastP
    rw [bitLen_53 M h.m1 h.m2, hD, Int.toNat_natCast, hend]

end Go.Proofs.YtdencljnbilchaaGreatDoor

namespace Go.Proofs.YtdencljnbilchaaGreatDoor
open Go.RowKit

theorem fmtL_whole (ng : Bool) (f : Nat → Nat) (nd : Nat) (dp : Int) : fmtL ng f nd dp 0 102 false = sgnL ng ++ wholeL f nd dp := by
  unfold fmtL
  rw [if_neg (by decide), if_pos rfl]
  unfold fmtF fracL
  rw [if_neg (by decide), List.append_nil]

theorem fast_text (ng : Bool) {X M E : Nat} (h : WholeX X M E) (hE : E ≤ 58) (hX : X < 18446744073709551616) : ftoaT ng M E 0 102 = sgnL ng ++ decL X := by
  obtain ⟨h1, h2, h3, h4⟩ := fast_exact h hE
  have hp : fPr 102 0 = 0 := by decide
  have h0 := h.pos
  obtain ⟨n1, n2, n3, n4, _⟩ := ndN_ok X h0 hX
  have hle := trimN_le (ndN X) X
  have hv := trimN_val (ndN X) X n4
  unfold ftoaT
  rw [hp, if_pos h4]
  unfold fastT
  rw [h1, h2, if_pos ⟨h3, by omega⟩, fmtL_whole, show ((ndN X : Nat) : Int) + -0 = ((ndN X : Nat) : Int) by omega]
  unfold decL
  congr 1
  exact whole_of _ X (ndN X) _ hle (by omega) (fun i _ => rfl) (fun i hi hN => dgf_tail hv i hi hN)

theorem slow_text (ng : Bool) {X M E : Nat} (h : WholeX X M E) (hE1 : 59 ≤ E) (hE2 : E ≤ 63) (hX : X < 18446744073709551616) : ftoaT ng M E 0 102 = sgnL ng ++ decL X := by
  have hp : fPr 102 0 = 0 := by decide
  have hD : ¬ fDg 102 E 0 ≤ 18 := by unfold fDg; rw [if_pos rfl, if_pos (by omega)]; omega
  have hM0 : 0 < M := by have := h.m1; omega
  have hM64 : M < 18446744073709551616 := by have := h.m2; omega
  obtain ⟨n1, n2, n3, n4, _⟩ := ndN_ok M hM0 hM64
  obtain ⟨hok0, hdp0⟩ := dsOf_ok n1 n2 n3 n4
  have hv0 := trimN_val (ndN M) M n4
  have hle0 := trimN_le (ndN M) M
  obtain ⟨k, hk⟩ : ∃ k, E = k + 52 := ⟨E - 52, by omega⟩
  have hXM : X = M * 2 ^ k := by have := h.big (by omega); rwa [show E - 52 = k by omega] at this
  obtain ⟨n, en⟩ : ∃ n, ndN M = n := ⟨_, rfl⟩
  rw [en] at hok0 hdp0 hv0 hle0 n1 n2 n3 n4
  obtain ⟨m0, em0⟩ : ∃ m0, (dsOf n M).M = m0 := ⟨_, rfl⟩
  obtain ⟨z0, ez0⟩ : ∃ z0, (dsOf n M).nd = z0 := ⟨_, rfl⟩
  have hv0' : M = m0 * 10 ^ (n - z0) := by rw [← em0, ← ez0]; exact hv0
  have hle0' : z0 ≤ n := by rw [← ez0]; exact hle0
  obtain ⟨P, eP⟩ : ∃ P, m0 * 2 ^ k = P := ⟨_, rfl⟩
  have hXP : X = P * 10 ^ (n - z0) := by rw [hXM, hv0', ← eP, Nat.mul_right_comm]
  have hm0 : 0 < m0 := by
    rcases Nat.eq_zero_or_pos m0 with h0 | h0
    · rw [h0, Nat.zero_mul] at hv0'; omega
    · exact h0
  have hP0 : 0 < P := by rw [← eP]; exact Nat.mul_pos hm0 (Nat.pow_pos (by decide))
  obtain ⟨t1, t2, t3⟩ := nD_bd P hP0
  obtain ⟨T1, eT⟩ : ∃ T1, nD P = T1 := ⟨_, rfl⟩
  rw [eT] at t1 t2 t3
  have hT1 : T1 ≤ 20 := by
    have hPX : P ≤ X := by rw [hXP]; exact Nat.le_mul_of_pos_right _ (p10_pos _)
    have h20 : (18446744073709551616 : Nat) < 10 ^ 20 := by decide
    have : T1 - 1 < 20 := (Nat.pow_lt_pow_iff_right (a := 10) (by decide)).1 (Nat.lt_of_le_of_lt t2 (by omega))
    omega
  have hS1 : slow1 M E = ⟨(trimN T1 P).2, (trimN T1 P).1, dpT (trimN T1 P).1 ((n : Int) + T1 - z0), false || decide (P % 10 ^ (T1 - 800) ≠ 0)⟩ := by
    unfold slow1 shiR
    rw [if_pos (by omega), show ((E : Int) - 52).toNat = k by omega, shlR, if_neg (by omega)]
    unfold shlS
    rw [en, em0, eP, eT, ez0, hdp0]
    unfold shRes
    rw [Nat.min_eq_left (by omega), show T1 - 800 = 0 by omega, Nat.pow_zero, Nat.div_one]
    rfl
  obtain ⟨q1, q2, q3, q4, _⟩ := trimN_ok T1 P t1 t2 t3
  have hv1 := trimN_val T1 P t3
  obtain ⟨a, ea⟩ : ∃ a, (trimN T1 P).1 = a := ⟨_, rfl⟩
  obtain ⟨m, em⟩ : ∃ m, (trimN T1 P).2 = m := ⟨_, rfl⟩
  rw [ea, em] at hS1 hv1
  rw [ea] at q1 q2
  obtain ⟨N, eN⟩ : ∃ N, n + T1 - z0 = N := ⟨_, rfl⟩
  have hdpN : dpT a ((n : Int) + T1 - z0) = (N : Int) := by unfold dpT; rw [if_neg (by omega)]; omega
  rw [hdpN] at hS1
  have hXN : X = m * 10 ^ (N - a) := by
    rw [hXP, hv1, Nat.mul_assoc, ← Nat.pow_add]; congr 2; omega
  have hS2 : slow2 M E 0 102 = slow1 M E := by
    unfold slow2
    rw [if_pos rfl, hS1]
    unfold roundI
    rw [if_neg (by show ¬ ((N : Int) + 0 < 0); omega)]
    unfold roundR
    rw [if_pos (by show a ≤ ((N : Int) + 0).toNat; omega)]
  have hXlo : 10 ^ (N - 1) ≤ X := by
    rw [hXP, show N - 1 = (T1 - 1) + (n - z0) by omega, Nat.pow_add]
    exact Nat.mul_le_mul_right _ t2
  have hXhi : X < 10 ^ N := by
    rw [hXP, show N = T1 + (n - z0) by omega, Nat.pow_add]
    exact Nat.mul_lt_mul_of_pos_right t3 (p10_pos _)
  have hNX : ndN X = N := ndN_eq h.pos hX hXlo hXhi (by omega)
  unfold ftoaT
  rw [hp, if_neg hD]
  unfold slowT
  rw [hS2, hS1, fmtL_whole]
  unfold decL
  rw [hNX]
  congr 1
  exact whole_of _ X N a (by omega) (by omega) (fun i hi => (dgf_head hXN (by omega) i hi).symm) (fun i hi hN => dgf_tail hXN i hi hN)

theorem ftoaT_whole (ng : Bool) {X M E : Nat} (h : WholeX X M E) (hE : E ≤ 63) : ftoaT ng M E 0 102 = sgnL ng ++ decL X := by
  have hX : X < 18446744073709551616 := by
    have h1 := h.lt.1
    have h2 := Nat.pow_le_pow_right (n := 2) (by decide) (show E + 1 ≤ 64 by omega)
    have h3 : (2 : Nat) ^ 64 = 18446744073709551616 := by decide
    omega
  by_cases h58 : E ≤ 58
  · exact fast_text ng h h58 hX
  · exact slow_text ng h (by omega) hE hX

end Go.Proofs.YtdencljnbilchaaGreatDoor

namespace Go.Proofs.YtdencljnbilchaaGreatDoor
open Go.RowKit

theorem wordX_lt (neg : Bool) {X M E : Nat} (h : WholeX X M E) (hE : E ≤ 63) : rungX M E < 9218868437227405312 ∧ wordX neg M E < 18446744073709551616 := by
  have h1 := h.m2
  have hr : rungX M E < 9218868437227405312 := by unfold rungX; omega
  refine ⟨hr, ?_⟩
  unfold wordX; split <;> omega

theorem or_word (neg : Bool) {X M E : Nat} (h : WholeX X M E) (hE : E ≤ 63) :
    ((if neg = true then 2048 else 0) * 4503599627370496 + (M - 4503599627370496)) ||| ((E + 1023) * 4503599627370496) = wordX neg M E := by
  rw [or_top neg (M - 4503599627370496) (E + 1023) (by have := h.m2; omega) (by omega)]
  have h1 := h.m1
  unfold wordX rungX
  cases neg
  · simp only [Bool.false_eq_true, if_false]; omega
  · simp only [if_true]; omega

theorem sg_split (neg : Bool) {X M E : Nat} (h : WholeX X M E) : sgN neg + M = (if neg = true then 2049 else 1) * 4503599627370496 + (M - 4503599627370496) := by
  have h1 := h.m1
  unfold sgN; cases neg
  · simp only [Bool.false_eq_true, if_false]; omega
  · simp only [if_true]; omega

theorem sg_lt (neg : Bool) {X M E : Nat} (h : WholeX X M E) : sgN neg + M < 18446744073709551616 := by
  have := h.m2
  unfold sgN; split <;> omega

theorem and_bit (neg : Bool) {X M E : Nat} (h : WholeX X M E) : (bits .and .u64 ((sgN neg + M : Nat) : Int) 4503599627370496 == 0) = false := by
  have hm1 := h.m1
  have hm2 := h.m2
  have hs := sg_split neg h
  have e : bits .and .u64 ((sgN neg + M : Nat) : Int) 4503599627370496 = (((sgN neg + M) &&& 4503599627370496 : Nat) : Int) := bits_and_u64_nat (sgN neg + M) 4503599627370496 (sg_lt neg h) (by omega)
  rw [e, beq_eq_false_iff_ne]
  intro hc
  have hc' : (sgN neg + M) &&& 4503599627370496 = 0 := by omega
  have hd : ((sgN neg + M) &&& 4503599627370496) / 2 ^ 52 = 1 := by
    rw [Nat.and_div_two_pow, hs, e52n, Nat.div_self (by decide)]
    have : ((if neg = true then 2049 else 1) * 4503599627370496 + (M - 4503599627370496)) / 4503599627370496 = if neg = true then 2049 else 1 := by
      rw [Nat.mul_comm, Nat.mul_add_div (by decide), Nat.div_eq_of_lt (by omega), Nat.add_zero]
    rw [this]; cases neg <;> rfl
  rw [hc', Nat.zero_div] at hd
  cases hd

theorem pack_bits (neg : Bool) {X M E : Nat} (h : WholeX X M E) (hE : E ≤ 63) :
    (bits .or .u64 (bits .andNot .u64 ((sgN neg + M : Nat) : Int) 4503599627370496) ((1075 + ((E : Int) - 52)) * 4503599627370496)).toNat = wordX neg M E := by
  have hm2 := h.m2
  have hs := sg_split neg h
  have e1 : bits .andNot .u64 ((sgN neg + M : Nat) : Int) 4503599627370496 = (((sgN neg + M) &&& (18446744073709551615 - 4503599627370496) : Nat) : Int) := u64_andNot_nat (sgN neg + M) 4503599627370496 (sg_lt neg h) (by omega)
  have e3 : 1075 + ((E : Int) - 52) = ((E + 1023 : Nat) : Int) := by omega
  have e2 : (1075 + ((E : Int) - 52)) * 4503599627370496 = (((E + 1023) * 4503599627370496 : Nat) : Int) := by rw [e3, Int.natCast_mul]; rfl
  have hle := Nat.and_le_left (n := sgN neg + M) (m := 18446744073709551615 - 4503599627370496)
  have hlt := sg_lt neg h
  have hw : (sgN neg + M) &&& (18446744073709551615 - 4503599627370496) ||| ((E + 1023) * 4503599627370496) = wordX neg M E := by
    rw [and_top _ neg (M - 4503599627370496) (by omega) hs]
    exact or_word neg h hE
  rw [e1, e2]
  generalize (sgN neg + M) &&& (18446744073709551615 - 4503599627370496) = A at hle hw
  obtain ⟨Z, eZ⟩ : ∃ Z, (E + 1023) * 4503599627370496 = Z := ⟨_, rfl⟩
  have hZ : Z < 18446744073709551616 := by rw [← eZ]; exact Nat.lt_of_le_of_lt (Nat.mul_le_mul_right _ (show E + 1023 ≤ 2047 by omega)) (by decide)
  rw [eZ] at hw ⊢
  rw [or_N _ _ (by omega) (by omega) (by omega) (by omega), Int.toNat_natCast]
  unfold orN
  rw [Int.toNat_natCast, Int.toNat_natCast]
  exact hw

end Go.Proofs.YtdencljnbilchaaGreatDoor

namespace Go.Proofs.YtdencljnbilchaaGreatDoor
open Go.RowKit

theorem begin_parts {B S D1 P X t : List UInt8} (hB : ∀ c ∈ B, isBlank c = true) (h : numParts S D1 P X) :
    beginS (B ++ (S ++ (D1 ++ P ++ (X ++ t)))) = B.length ∧ beginA (B ++ (S ++ (D1 ++ P ++ (X ++ t)))) = B.length + S.length ∧ (B ++ (S ++ (D1 ++ P ++ (X ++ t)))).drop (B.length + S.length) = D1 ++ P ++ (X ++ t) := by
  have e1 : D1 ++ P ++ (X ++ t) = D1 ++ (P ++ (X ++ t)) := by simp
  have h1 : beginS (B ++ (S ++ (D1 ++ P ++ (X ++ t)))) = B.length := by
    unfold beginS
    rw [nWhile_app isBlank B _ hB, nWhile_zero isBlank _ (fun c hc => ?_), Nat.add_zero]
    rcases h.s with rfl | rfl
    · obtain ⟨c', hc', hd⟩ := head_digits h.d1 (P ++ (X ++ t))
      rw [List.nil_append, e1, hc'] at hc
      cases hc
      exact (dig_ne hd).2.2
    · cases hc; decide
  refine ⟨h1, ?_, ?_⟩
  · unfold beginA
    rw [h1, List.drop_left]
    rcases h.s with rfl | rfl
    · rw [List.nil_append, e1, sgn_digits h.d1]; rfl
    · unfold sgnN; rw [if_pos (.inr rfl)]; rfl
  · rw [← List.drop_drop, List.drop_left, List.drop_left]

theorem prefix_parts {B S D1 P X t : List UInt8} (hB : ∀ c ∈ B, isBlank c = true) (h : numParts S D1 P X) (ht : tailOk t) :
    numeralN ((B ++ (S ++ (D1 ++ P ++ (X ++ t)))).drop (beginA (B ++ (S ++ (D1 ++ P ++ (X ++ t)))))) ≠ 0 ∧
    prefixE (B ++ (S ++ (D1 ++ P ++ (X ++ t)))) = B.length + S.length + (D1.length + P.length + X.length) ∧
    (B ++ (S ++ (D1 ++ P ++ (X ++ t)))).drop (B.length + S.length + (D1.length + P.length + X.length)) = t := by
  obtain ⟨_, h2, h3⟩ := begin_parts (t := t) hB h
  have hl : 0 < D1.length := List.length_pos_iff.2 h.d1.1
  have hn := numeral_parts h ht
  refine ⟨by rw [h2, h3, hn]; omega, by unfold prefixE; rw [h2, h3, hn], ?_⟩
  have h4 : (D1 ++ P ++ (X ++ t)).drop (D1.length + P.length + X.length) = t := by
    have e : D1.length + P.length + X.length = (D1 ++ P ++ X).length := by simp; omega
    rw [e, ← List.append_assoc, List.drop_left]
  rw [← List.drop_drop, h3, h4]

end Go.Proofs.YtdencljnbilchaaGreatDoor

namespace Go.Proofs.YtdencljnbilchaaGreatDoor
open Go.RowKit

theorem rung_eq {X M E : Nat} (h : WholeX X M E) : rungX M E = 4503599627370496 * (E + 1023) + (M - 4503599627370496) := by
  have h1 := h.m1
  unfold rungX
  rw [Nat.mul_comm 4503599627370496, show E + 1023 = (E + 1022) + 1 by omega, Nat.add_mul (E + 1022) 1, Nat.one_mul, Nat.add_assoc, Nat.add_sub_cancel' h1]

theorem rung_div {X M E : Nat} (h : WholeX X M E) : rungX M E / 4503599627370496 = E + 1023 ∧ rungX M E % 4503599627370496 = M - 4503599627370496 := by
  have h2 := h.m2
  rw [rung_eq h]
  refine ⟨?_, ?_⟩
  · rw [Nat.mul_add_div (by decide), Nat.div_eq_of_lt (by omega), Nat.add_zero]
  · rw [Nat.mul_add_mod, Nat.mod_eq_of_lt (by omega)]

theorem word_low (neg : Bool) {X M E : Nat} (h : WholeX X M E) (hE : E ≤ 63) : wordX neg M E % 9223372036854775808 = rungX M E ∧ (wordX neg M E / 9223372036854775808 % 2 == 1) = neg ∧ fNg (wordX neg M E) = neg := by
  obtain ⟨hr, _⟩ := wordX_lt neg h hE
  unfold wordX fNg
  generalize rungX M E = R at hr
  cases neg
  · refine ⟨?_, ?_, ?_⟩
    · show R % 9223372036854775808 = R; omega
    · show (R / 9223372036854775808 % 2 == 1) = false
      rw [beq_eq_false_iff_ne]; omega
    · show decide (9223372036854775808 ≤ R) = false
      exact decide_eq_false (by omega)
  · refine ⟨?_, ?_, ?_⟩
    · show (9223372036854775808 + R) % 9223372036854775808 = R; omega
    · show ((9223372036854775808 + R) / 9223372036854775808 % 2 == 1) = true
      rw [beq_iff_eq]; omega
    · show decide (9223372036854775808 ≤ 9223372036854775808 + R) = true
      exact decide_eq_true (by omega)

theorem word_fin (neg : Bool) {X M E : Nat} (h : WholeX X M E) (hE : E ≤ 63) : finN (wordX neg M E) := by
  unfold finN
  rw [(word_low neg h hE).1]
  exact (wordX_lt neg h hE).1

theorem word_parts (neg : Bool) {X M E : Nat} (h : WholeX X M E) (hE : E ≤ 63) : mgN (wordX neg M E) = M ∧ plN (wordX neg M E) = (E : Int) - 52 := by
  obtain ⟨h1, h2⟩ := rung_div h
  have hm1 := h.m1
  unfold mgN plN
  rw [(word_low neg h hE).1, h2, h1]
  have hge : ¬ rungX M E < 4503599627370496 := by
    intro hlt
    rw [Nat.div_eq_of_lt hlt] at h1; omega
  rw [if_neg hge, if_neg hge]
  exact ⟨by omega, by omega⟩

theorem mod_div (x : Nat) : x / 4503599627370496 % 2048 = x % 9223372036854775808 / 4503599627370496 := by
  have h : (9223372036854775808 : Nat) = 4503599627370496 * 2048 := by decide
  rw [h, Nat.mod_mul_right_div_self]
theorem mod_mod52 (x : Nat) : x % 4503599627370496 = x % 9223372036854775808 % 4503599627370496 := by
  have h : (9223372036854775808 : Nat) = 4503599627370496 * 2048 := by decide
  rw [h, Nat.mod_mul_right_mod]

theorem word_f (neg : Bool) {X M E : Nat} (h : WholeX X M E) (hE : E ≤ 63) : fEx (wordX neg M E) = E + 1023 ∧ fMm (wordX neg M E) = M ∧ fE1 (wordX neg M E) = E + 1023 := by
  obtain ⟨h1, h2⟩ := rung_div h
  have hm1 := h.m1
  have hx : fEx (wordX neg M E) = E + 1023 := by unfold fEx; rw [mod_div, (word_low neg h hE).1, h1]
  have hm : fMt (wordX neg M E) = M - 4503599627370496 := by unfold fMt; rw [mod_mod52, (word_low neg h hE).1, h2]
  refine ⟨hx, ?_, ?_⟩
  · unfold fMm; rw [hx, hm, if_neg (by omega)]; omega
  · unfold fE1; rw [hx, if_neg (by omega)]

theorem trunc_whole (neg : Bool) {X M E : Nat} (h : WholeX X M E) (hE : E ≤ 63) : truncN (wordX neg M E) = wordX neg M E := by
  have hrd := read_num (word_fin neg h hE)
  obtain ⟨p1, p2⟩ := word_parts neg h hE
  rw [p1, p2, (word_low neg h hE).2.1] at hrd
  have hc : Ieee.Toward.zero.cut neg (M <<< ((E : Int) - 52).toNat) (-((E : Int) - 52)).toNat = X := by
    rcases Nat.lt_or_ge E 52 with hlt | hge
    · rw [show ((E : Int) - 52).toNat = 0 by omega, show (-((E : Int) - 52)).toNat = 52 - E by omega, Nat.shiftLeft_zero]
      unfold Ieee.Toward.cut
      have hl : M.log2 = 52 := by
        have hm1 := h.m1; have hm2 := h.m2
        rw [Nat.log2_eq_iff (by omega)]
        exact ⟨by rw [e52n]; exact hm1, by rw [show (2 : Nat) ^ (52 + 1) = 9007199254740992 by decide]; exact hm2⟩
      rw [hl, Nat.min_eq_left (by omega), Nat.one_shiftLeft]
      simp only [Bool.toNat_false, Nat.add_zero]
      rw [← h.small (by omega), Nat.mul_div_cancel _ (Nat.pow_pos (by decide))]
    · rw [show ((E : Int) - 52).toNat = E - 52 by omega, show (-((E : Int) - 52)).toNat = 0 by omega, Nat.shiftLeft_eq, ← h.big hge]
      unfold Ieee.Toward.cut
      simp
  have e : truncN (wordX neg M E) = FloatKind.f64.format.nearest neg (Ieee.Toward.zero.cut neg (M <<< ((E : Int) - 52).toNat) (-((E : Int) - 52)).toNat) 0 := by
    unfold truncN FloatKind.encode FloatKind.decode
    rw [hrd]; rfl
  rw [e, hc]
  exact nearest_int neg h (by omega)

theorem plain_whole (neg : Bool) {X M E : Nat} (h : WholeX X M E) (hE : E ≤ 63) : plainN (wordX neg M E) = wordX neg M E := by
  have hz : (FloatKind.f64.format.order (wordX neg M E) 0 == some .eq) = false := by
    have hr0 : FloatKind.f64.format.read 0 = .number false 0 (-1074) := by kernel_rfl
    obtain ⟨p1, p2⟩ := word_parts neg h hE
    have hrd := read_num (word_fin neg h hE)
    rw [p1, p2, (word_low neg h hE).2.1] at hrd
    rw [order_num hrd hr0]
    have z1 : ∀ s k, Ieee.signed s 0 k = 0 := fun s k => by cases s <;> simp [signed_t, signed_f]
    rw [z1]
    have hpos : 0 < M * 2 ^ (((E : Int) - 52) - min ((E : Int) - 52) (-1074)).toNat := Nat.mul_pos (by have := h.m1; omega) (Nat.pow_pos (by decide))
    cases neg
    · rw [signed_f, cmp_gt (by omega)]; rfl
    · rw [signed_t, cmp_lt (by omega)]; rfl
  unfold plainN
  rw [hz]; rfl

theorem decL_digL {X M E : Nat} (h : WholeX X M E) (hX : X < 18446744073709551616) : digL (decL X) := by
  obtain ⟨n1, n2, _, _, _⟩ := ndN_ok X h.pos hX
  refine ⟨fun e => ?_, fun c hc => ?_, ?_⟩
  · have := congrArg List.length e
    unfold decL at this; rw [digsL_len] at this; simp at this; omega
  · unfold decL digsL at hc
    obtain ⟨k, _, rfl⟩ := List.mem_map.1 hc
    exact dgf_isDig _ _ _
  · unfold decL; rw [digsL_len]; omega

theorem whole_lt {X M E : Nat} (h : WholeX X M E) (hE : E ≤ 63) : X < 18446744073709551616 := by
  have h1 := h.lt.1
  have h2 := Nat.pow_le_pow_right (n := 2) (by decide) (show E + 1 ≤ 64 by omega)
  have h3 : (2 : Nat) ^ 64 = 18446744073709551616 := by decide
  omega

theorem digits_whole (neg : Bool) {X M E : Nat} (h : WholeX X M E) (hE : E ≤ 63) (w : World) (hL : LaidG w) :
    Calls Tryz.prog 16 #[.float .f64 (wordX neg M E)] w fun e w' => e = .returned (.string ⟨(sgnL neg ++ decL X).toArray⟩) ∧ Below w.heap.size w w' := by
  have hf := word_fin neg h hE
  refine digits_of_format (wordX neg M E) _ w (nanB_fin hf) (infP_fin hf) (infM_fin hf) ?_
  rw [trunc_whole neg h hE, plain_whole neg h hE]
  obtain ⟨f1, f2, f3⟩ := word_f neg h hE
  have hd := decL_digL h (whole_lt h hE)
  have hsg := sgnL_len neg
  have hI : Calls Tryz.prog 49 #[.float .f64 (wordX neg M E), .int .u8 102, .int .i64 0, .int .i64 64] w fun e w' => e = .returned (.string ⟨(sgnL neg ++ decL X).toArray⟩) ∧ Below w.heap.size w w' :=
    format_of (wordX neg M E) 102 0 (sgnL neg ++ decL X) w (by decide) (by decide) (by have := hd.2.2; rw [List.length_append]; omega) (fun W v bd hb _ hr => by
      have h1 := ftoa_any (wordX neg M E) 102 0 W v bd (wordX_lt neg h hE).2 (by rw [f1]; omega) (by rw [f2]; have := h.m1; omega) (.inr (.inr (.inl rfl))) (by decide) (by decide) (hL.below hb) hr
      rw [f2, f3, (word_low neg h hE).2.2, show ((E + 1023 : Nat) : Int) - 1023 = (E : Int) by omega, ftoaT_whole neg h hE] at h1
      exact h1)
  obtain ⟨x, ex⟩ : ∃ x, wordX neg M E = x := ⟨_, rfl⟩
  rw [ex] at hI ⊢
  have HF := Lib.hid hI
  clear hI hL h f1 f2 f3 hd hf ex
  go_enter Tryz.func32, Tryz.ntmps32
  go_wp2_with (go_at_call 49; refine HF.out.mono ?_; rintro e w' ⟨rfl, hb⟩)
  go_ret
  exact ⟨rfl, hb⟩

end Go.Proofs.YtdencljnbilchaaGreatDoor

namespace Go.Proofs.YtdencljnbilchaaGreatDoor
open Go.RowKit

def fmtOk (fmt : Nat) : Prop := fmt = 101 ∨ fmt = 69 ∨ fmt = 102 ∨ fmt = 103 ∨ fmt = 71

theorem expL_len (e : Nat) : (expL e).length ≤ 3 := by unfold expL; split <;> (try split) <;> simp

theorem mantE_len (f : Nat → Nat) (nd : Nat) (prec : Int) (h : prec ≤ 2000) : (mantE f nd prec).length ≤ 2100 := by
  unfold mantE
  have e2 : (if 0 < prec then [46] ++ digsL f 1 (min nd (prec.toNat + 1) - 1) ++ zerosL (prec.toNat + 1 - max 1 (min nd (prec.toNat + 1))) else []).length ≤ 2010 := by
    split
    · simp only [List.length_append, List.length_cons, List.length_nil, digsL_len, zerosL_len]
      omega
    · simp
  rw [List.length_append, List.length_singleton]
  omega

theorem fmtE_len (ng : Bool) (f : Nat → Nat) (nd : Nat) (dp prec : Int) (ec : Nat) (h : prec ≤ 2000) : (fmtE ng f nd dp prec ec).length ≤ 2200 := by
  unfold fmtE expoL
  have h1 := sgnL_len ng
  have h2 := mantE_len f nd prec h
  have h3 := expL_len (if nd = 0 then 0 else dp - 1).natAbs
  simp only [List.length_append, List.length_cons, List.length_nil]
  omega

theorem fmtF_len (ng : Bool) (f : Nat → Nat) (nd : Nat) (dp prec : Int) (h : prec ≤ 2000) (hd : dp ≤ 900) : (fmtF ng f nd dp prec).length ≤ 4000 := by
  unfold fmtF wholeL fracL
  have h1 := sgnL_len ng
  have e1 : (if 0 < dp then digsL f 0 (min nd dp.toNat) ++ zerosL (dp.toNat - min nd dp.toNat) else [48]).length ≤ 900 := by
    split
    · simp only [List.length_append, digsL_len, zerosL_len]; omega
    · simp
  have e2 : (if 0 < prec then [46] ++ zerosL (lzN dp prec) ++ digsL f (dp + lzN dp prec).toNat (midN nd dp prec) ++ zerosL (prec.toNat - lzN dp prec - midN nd dp prec) else []).length ≤ 2001 := by
    split
    · have b1 : lzN dp prec ≤ prec.toNat := Nat.min_le_left _ _
      have b2 : midN nd dp prec ≤ prec.toNat - lzN dp prec := Nat.min_le_left _ _
      simp only [List.length_append, List.length_cons, List.length_nil, digsL_len, zerosL_len]
      omega
    · simp
  simp only [List.length_append]
  omega

theorem fmtL_len (ng : Bool) (f : Nat → Nat) (nd : Nat) (dp prec : Int) (fmt : Nat) (hp : prec ≤ 1000) (hn : nd ≤ 800) (hd1 : -900 ≤ dp) (hd : dp ≤ 900) : (fmtL ng f nd dp prec fmt false).length ≤ 5000 := by
  unfold fmtL
  split
  · split
    · have := fmtE_len ng f nd dp (min prec nd - 1) (fmt - 2) (by omega); omega
    · have := fmtF_len ng f nd dp (max ((if prec > dp then (nd : Int) else prec) - dp) 0) (by split <;> omega) hd; omega
  · split
    · have := fmtF_len ng f nd dp prec (by omega) hd; omega
    · have := fmtE_len ng f nd dp prec fmt (by omega); omega

theorem fPr_bd (fmt : Nat) (prec : Int) (h1 : 0 ≤ prec) (h2 : prec ≤ 1000) : 0 ≤ fPr fmt prec ∧ fPr fmt prec ≤ 1000 := by unfold fPr; split <;> omega

theorem ftoaT_len (ng : Bool) (M : Nat) (E prec : Int) (fmt : Nat) (hM0 : M ≠ 0) (hM : M < 9007199254740992) (hE1 : -1022 ≤ E) (hE2 : E ≤ 1023) (hp1 : 0 ≤ prec) (hp2 : prec ≤ 1000) : (ftoaT ng M E prec fmt).length ≤ 5000 := by
  obtain ⟨q1, q2⟩ := fPr_bd fmt prec hp1 hp2
  unfold ftoaT
  split
  · rename_i h18
    unfold fastT
    split
    · rename_i h
      obtain ⟨hL1, hL2, hL3⟩ := bitLen_full M hM0 hM
      have hb := fwEnd_bd (M * 2 ^ (64 - Lib.bitLen M)) (E - (64 - (Lib.bitLen M : Int)) - 52) (fDg fmt E prec).toNat (fPr fmt prec) fmt hL3 (by omega) (by omega) (by omega) (by omega) q1
      have hU : fastN M E (fDg fmt E prec) (fPr fmt prec) fmt < 18446744073709551616 := by unfold fastN roundN; omega
      have hn := ndN_ok (fastN M E (fDg fmt E prec) (fPr fmt prec) fmt) (by omega) hU
      have hP : -400 ≤ fastP M E (fDg fmt E prec) (fPr fmt prec) fmt ∧ fastP M E (fDg fmt E prec) (fPr fmt prec) fmt ≤ 400 := hb.2
      have ht := trimN_le (ndN (fastN M E (fDg fmt E prec) (fPr fmt prec) fmt)) (fastN M E (fDg fmt E prec) (fPr fmt prec) fmt)
      exact fmtL_len ng _ _ _ _ _ q2 (by omega) (by omega) (by omega)
    · exact fmtL_len ng _ _ _ _ _ q2 (by omega) (by omega) (by omega)
  · obtain ⟨n1, n2, n3, n4, _⟩ := ndN_ok M (by omega) (by omega)
    obtain ⟨hok0, hdp0⟩ := dsOf_ok n1 n2 n3 n4
    have hs1 := shiR_ok hok0 (E - 52) (by omega) (by omega)
    rw [hdp0] at hs1
    have hs1' : (slow1 M E).ok ∧ -400 ≤ (slow1 M E).dp ∧ (slow1 M E).dp ≤ 360 := ⟨hs1.1, by have := hs1.2.1; unfold slow1; omega, by have := hs1.2.2; unfold slow1; omega⟩
    have hb := roundI_bd (slow1 M E) (if fmt = 102 then (slow1 M E).dp + fPr fmt prec else if fmt = 101 ∨ fmt = 69 then fPr fmt prec + 1 else fPr fmt prec) hs1'.1.1 hs1'.1.2.1 (-400) 360 hs1'.2.1 hs1'.2.2 (by decide) (by decide)
    unfold slowT
    exact fmtL_len ng _ _ _ _ _ q2 hb.1 (by show -900 ≤ (slow2 M E (fPr fmt prec) fmt).dp; have := hb.2.1; unfold slow2; omega) (by show (slow2 M E (fPr fmt prec) fmt).dp ≤ 900; have := hb.2.2; unfold slow2; omega)

set_option maxRecDepth 100000 in
set_option maxHeartbeats 3200000 in
theorem ftoa_zero_any (fmt : Nat) (prec : Int) (w : World) (v : Value) (bd : Nat) (hfmt : fmtOk fmt) (hp1 : 0 ≤ prec) (hp2 : prec ≤ 1000) (hv : RowAt w 5 v bd []) :
    Calls Tryz.prog 68 #[v, .float .f64 0, .int .u8 fmt, .int .i64 prec] w fun e w' => ∃ v', e = .returned v' ∧ App w 5 bd v' w' (fmtL false (fun _ => 48) 0 0 prec fmt false) := by
  have a1 : bits .and .i64 0 2047 = 0 := by decide +kernel
  have a2 : bits .and .u64 0 4503599627370495 = 0 := by decide +kernel
  have HF := ext_fb 0
  have HFM : Hid (∀ m : Nat, Calls Tryz.prog 87 #[v, .bool false, .slice none 0 0, .int .i64 0, .int .i64 0, .int .i64 prec, .int .u8 fmt, .bool false] (w.drewN m) fun e w' => ∃ v', e = .returned v' ∧ App (w.drewN m) 5 bd v' w' (fmtL false (fun _ => 48) 0 0 prec fmt false)) := fun m =>
    fmtEFG_any (w.drewN m) bd v _ [] false false (fun _ => 48) 0 0 prec fmt (hv.kept rfl) (by decide) (.inl ⟨rfl, by decide⟩) (fun _ => by decide) hfmt (by decide) (by decide) (by decide) hp1 hp2
  have b98 : ((fmt : Int) == 98) = false := beq_eq_false_iff_ne.2 (by unfold fmtOk at hfmt; omega)
  have b120 : ((fmt : Int) == 120) = false := beq_eq_false_iff_ne.2 (by unfold fmtOk at hfmt; omega)
  have b88 : ((fmt : Int) == 88) = false := beq_eq_false_iff_ne.2 (by unfold fmtOk at hfmt; omega)
  have hpn : decide (prec < 0) = false := decide_eq_false (by omega)
  clear hv hfmt
  go_enter Tryz.func68, Tryz.ntmps68
  go_upto_region 14 with fail
  go_quiet (fail)
  go_wp2_with (go_at_call 87; refine (HFM.out _).mono ?_; rintro e w5 ⟨v', rfl, hA⟩)
  go_ret
  exact ⟨v', rfl, appDrew hA⟩

/-- The text of a finite number that is not below nought. -/
def floatT (y : Nat) (fmt : Nat) (prec : Int) : List UInt8 := if y = 0 then fmtL false (fun _ => 48) 0 0 prec fmt false else ftoaT (fNg y) (fMm y) ((fE1 y : Nat) - 1023) prec fmt

theorem format_all (y fmt : Nat) (prec : Int) (hy : y < 18446744073709551616) (hf : finN y) (hz : y = 0 ∨ fMm y ≠ 0) (hfmt : fmtOk fmt) (hp1 : 0 ≤ prec) (hp2 : prec ≤ 1000) : (floatT y fmt prec).length ≤ 5000 ∧ ∀ w, LaidG w →
    Calls Tryz.prog 32 #[.float .f64 y, .int .u8 fmt, .int .i64 prec, .int .i64 64] w fun e w' => e = .returned (.string ⟨(floatT y fmt prec).toArray⟩) ∧ Below w.heap.size w w' := by
  have key : (floatT y fmt prec).length ≤ 5000 ∧ ∀ w, LaidG w → ∀ (W : World) (v : Value) (bd : Nat), Below w.heap.size w W → RowAt W 5 v bd [] → Calls Tryz.prog 68 #[v, .float .f64 y, .int .u8 fmt, .int .i64 prec] W fun e w' => ∃ v', e = .returned v' ∧ App W 5 bd v' w' (floatT y fmt prec) := by
    by_cases h0 : y = 0
    · subst h0
      have e : floatT 0 fmt prec = fmtL false (fun _ => 48) 0 0 prec fmt false := if_pos rfl
      rw [e]
      exact ⟨fmtL_len _ _ _ _ _ _ hp2 (by omega) (by omega) (by omega), fun w _ W v bd _ hr => ftoa_zero_any fmt prec W v bd hfmt hp1 hp2 hr⟩
    · have hm := hz.resolve_left h0
      have hE : fEx y ≠ 2047 := by unfold finN at hf; unfold fEx; omega
      have hE1 : 1 ≤ fE1 y ∧ fE1 y ≤ 2046 := by
        have : fEx y < 2048 := by unfold fEx; omega
        unfold fE1; split <;> omega
      have e : floatT y fmt prec = ftoaT (fNg y) (fMm y) ((fE1 y : Nat) - 1023) prec fmt := if_neg h0
      rw [e]
      exact ⟨ftoaT_len _ _ _ _ _ hm (fMm_lt y) (by omega) (by omega) hp1 hp2, fun w hL W v bd hb hr => ftoa_any y fmt prec W v bd hy hE hm hfmt hp1 hp2 (hL.below hb) hr⟩
  refine ⟨key.1, fun w hL => ?_⟩
  obtain ⟨T, eT⟩ : ∃ T, floatT y fmt prec = T := ⟨_, rfl⟩
  rw [eT] at key ⊢
  have hI : Calls Tryz.prog 49 #[.float .f64 y, .int .u8 fmt, .int .i64 prec, .int .i64 64] w fun e w' => e = .returned (.string ⟨T.toArray⟩) ∧ Below w.heap.size w w' :=
    format_of y fmt prec T w (by omega) hp2 (by have := key.1; omega) (fun W v bd hb _ hr => key.2 w hL W v bd hb hr)
  have HF := Lib.hid hI
  clear hI hL key hz hf hfmt eT
  go_enter Tryz.func32, Tryz.ntmps32
  go_wp2_with (go_at_call 49; refine HF.out.mono ?_; rintro e w' ⟨rfl, hb⟩)
  go_ret
  exact ⟨rfl, hb⟩

end Go.Proofs.YtdencljnbilchaaGreatDoor
