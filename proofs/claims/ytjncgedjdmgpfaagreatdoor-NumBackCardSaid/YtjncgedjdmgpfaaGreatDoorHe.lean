/- FormatFloat at 'f', 0 of any finite number: a sign and digits. -/
import Derived.Test.YtjncgedjdmgpfaaGreatDoorHd
import Derived.Test.YtjncgedjdmgpfaaGreatDoorVf

namespace Go.Proofs.YtjncgedjdmgpfaaGreatDoor
open Go.RowKit

def digL (ds : List UInt8) : Prop := ds ≠ [] ∧ (∀ c ∈ ds, isDig c = true) ∧ ds.length ≤ 1000

theorem isDig_of (n : Nat) (h1 : 48 ≤ n) (h2 : n ≤ 57) : isDig (UInt8.ofNat n) = true := by
  unfold isDig digB
  rw [UInt8.toNat_ofNat', Nat.mod_eq_of_lt (by omega)]
  simp; omega

theorem fmtL_digits (ng : Bool) (f : Nat → Nat) (nd : Nat) (dp : Int) (hf : ∀ i, 48 ≤ f i ∧ f i ≤ 57) (hd : dp ≤ 900) :
    ∃ ds, fmtL ng f nd dp 0 102 false = sgnL ng ++ ds ∧ digL ds := by
  refine ⟨wholeL f nd dp, ?_, ?_⟩
  · unfold fmtL
    rw [if_neg (by decide), if_pos rfl]
    unfold fmtF fracL
    rw [if_neg (by decide), List.append_nil]
  · unfold wholeL
    split
    · rename_i h
      refine ⟨fun e => ?_, fun c hc => ?_, ?_⟩
      · have := congrArg List.length e
        simp only [List.length_append, digsL_len, zerosL_len, List.length_nil] at this
        omega
      · rcases List.mem_append.1 hc with hc | hc
        · unfold digsL at hc
          obtain ⟨k, _, rfl⟩ := List.mem_map.1 hc
          exact isDig_of _ (hf _).1 (hf _).2
        · unfold zerosL at hc
          rw [(List.mem_replicate.1 hc).2]; decide
      · simp only [List.length_append, digsL_len, zerosL_len]
        omega
    · exact ⟨by simp, fun c hc => by rw [List.mem_singleton.1 hc]; decide, by simp⟩

theorem ftoaT_digits (ng : Bool) (M : Nat) (E : Int) (hM0 : M ≠ 0) (hM : M < 9007199254740992) (hE1 : -1022 ≤ E) (hE2 : E ≤ 1023) :
    ∃ ds, ftoaT ng M E 0 102 = sgnL ng ++ ds ∧ digL ds := by
  have hp : fPr 102 0 = 0 := by decide
  unfold ftoaT
  rw [hp]
  split
  · rename_i h18
    unfold fastT
    split
    · rename_i h
      obtain ⟨hL1, hL2, hL3⟩ := bitLen_full M hM0 hM
      have hb := fwEnd_bd (M * 2 ^ (64 - Lib.bitLen M)) (E - (64 - (Lib.bitLen M : Int)) - 52) (fDg 102 E 0).toNat 0 102 hL3 (by omega) (by omega) (by omega) (by omega) (by decide)
      have hU : fastN M E (fDg 102 E 0) 0 102 < 18446744073709551616 := by unfold fastN roundN; omega
      have hn := ndN_ok (fastN M E (fDg 102 E 0) 0 102) (by omega) hU
      have hP : -400 ≤ fastP M E (fDg 102 E 0) 0 102 ∧ fastP M E (fDg 102 E 0) 0 102 ≤ 400 := hb.2
      exact fmtL_digits ng _ _ _ (fun i => dgf_digit _ _ _) (by omega)
    · exact fmtL_digits ng _ _ _ (fun i => ⟨by decide, by decide⟩) (by decide)
  · obtain ⟨n1, n2, n3, n4, _⟩ := ndN_ok M (by omega) (by omega)
    obtain ⟨hok0, hdp0⟩ := dsOf_ok n1 n2 n3 n4
    have hs1 := shiR_ok hok0 (E - 52) (by omega) (by omega)
    rw [hdp0] at hs1
    have hs1' : (slow1 M E).ok ∧ -400 ≤ (slow1 M E).dp ∧ (slow1 M E).dp ≤ 360 := ⟨hs1.1, by have := hs1.2.1; unfold slow1; omega, by have := hs1.2.2; unfold slow1; omega⟩
    have hb := roundI_bd (slow1 M E) (if (102 : Nat) = 102 then (slow1 M E).dp + 0 else if (102 : Nat) = 101 ∨ (102 : Nat) = 69 then 0 + 1 else 0) hs1'.1.1 hs1'.1.2.1 (-400) 360 hs1'.2.1 hs1'.2.2 (by decide) (by decide)
    unfold slowT
    exact fmtL_digits ng _ _ _ (fun i => dgf_digit _ _ _) (by
      show (roundI (slow1 M E) (if (102 : Nat) = 102 then (slow1 M E).dp + 0 else if (102 : Nat) = 101 ∨ (102 : Nat) = 69 then 0 + 1 else 0)).dp ≤ 900
      omega)

theorem sgnL_false : sgnL false = [] := rfl

theorem format_fin (y : Nat) (hy : y < 18446744073709551616) (hf : finN y) (hz : y = 0 ∨ fMm y ≠ 0) : ∃ ds, digL ds ∧ ∀ w, LaidG w →
    Calls Tryz.prog 33 #[.float .f64 y, .int .u8 102, .int .i64 0, .int .i64 64] w fun e w' => e = .returned (.string ⟨(sgnL (fNg y) ++ ds).toArray⟩) ∧ Below w.heap.size w w' := by
  by_cases h0 : y = 0
  · subst h0
    exact ⟨[48], ⟨by simp, fun c hc => by rw [List.mem_singleton.1 hc]; decide, by simp⟩, fun w _ => format_zero w⟩
  · have hm := hz.resolve_left h0
    have hE : fEx y ≠ 2047 := by unfold finN at hf; unfold fEx; omega
    have hE1 : 1 ≤ fE1 y ∧ fE1 y ≤ 2046 := by
      have : fEx y < 2048 := by unfold fEx; omega
      unfold fE1; split <;> omega
    obtain ⟨ds, h1, h2⟩ := ftoaT_digits (fNg y) (fMm y) ((fE1 y : Nat) - 1023) hm (fMm_lt y) (by omega) (by omega)
    refine ⟨ds, h2, fun w hL => ?_⟩
    have hsg := sgnL_len (fNg y)
    have hI : Calls Tryz.prog 43 #[.float .f64 y, .int .u8 102, .int .i64 0, .int .i64 64] w fun e w' => e = .returned (.string ⟨(sgnL (fNg y) ++ ds).toArray⟩) ∧ Below w.heap.size w w' :=
      format_of y 102 0 (sgnL (fNg y) ++ ds) w (by decide) (by decide) (by have := h2.2.2; rw [List.length_append]; omega) (fun W v bd hb _ hr => by
        have h := ftoa_any y 102 0 W v bd hy hE hm (.inr (.inr (.inl rfl))) (by decide) (by decide) (hL.below hb) hr
        rw [h1] at h
        exact h)
    have HF := Lib.hid hI
    clear hI hL h1 h2
    go_enter Tryz.func33, Tryz.ntmps33
    go_wp2_with (go_at_call 43; refine HF.out.mono ?_; rintro e w' ⟨rfl, hb⟩)
    go_ret
    exact ⟨rfl, hb⟩

theorem order_zero {t : Nat} (ht : finN t) (h : fMm t = 0) : (FloatKind.f64.format.order t 0 == some .eq) = true := by
  have h0 : t % 9223372036854775808 = 0 := by
    unfold fMm fEx fMt at h; unfold finN at ht
    split at h
    · omega
    · omega
  have hm : mgN t = 0 := by unfold mgN; rw [h0]; rfl
  have hr0 : FloatKind.f64.format.read 0 = .number false 0 (-1074) := by kernel_rfl
  rw [order_num (read_num ht) hr0, hm]
  have z1 : ∀ s k, Ieee.signed s 0 k = 0 := fun s k => by cases s <;> simp [signed_t, signed_f]
  rw [z1, z1, cmp_eq]; rfl

theorem plain_trunc (x : Nat) (hx : x < 18446744073709551616) (hf : finN x) :
    plainN (truncN x) < 18446744073709551616 ∧ finN (plainN (truncN x)) ∧ (plainN (truncN x) = 0 ∨ fMm (plainN (truncN x)) ≠ 0) ∧ (x < 9223372036854775808 → fNg (plainN (truncN x)) = false) := by
  obtain ⟨r, hr, e⟩ := truncN_fin hx hf
  have ht : truncN x < 18446744073709551616 := by rw [e]; split <;> omega
  have htf : finN (truncN x) := by unfold finN; rw [e]; split <;> omega
  by_cases h0 : (FloatKind.f64.format.order (truncN x) 0 == some .eq) = true
  · have hp : plainN (truncN x) = 0 := by unfold plainN; rw [if_pos h0]
    rw [hp]
    exact ⟨by omega, by unfold finN; omega, .inl rfl, fun _ => by decide⟩
  · have hp : plainN (truncN x) = truncN x := by unfold plainN; rw [if_neg h0]
    rw [hp]
    refine ⟨ht, htf, .inr (fun hm => h0 (order_zero htf hm)), fun h9 => ?_⟩
    rw [if_neg (by omega)] at e
    unfold fNg
    rw [e]; exact decide_eq_false (by omega)

theorem digits_fin (x : Nat) (hx : x < 18446744073709551616) (hf : finN x) : ∃ ng ds, (x < 9223372036854775808 → ng = false) ∧ digL ds ∧
    (∀ w, LaidG w → Calls Tryz.prog 16 #[.float .f64 x] w fun e w' => e = .returned (.string ⟨(sgnL ng ++ ds).toArray⟩) ∧ Below w.heap.size w w') ∧
    (∀ w, LaidG w → Calls Tryz.prog 33 #[.float .f64 (plainN (truncN x)), .int .u8 102, .int .i64 0, .int .i64 64] w fun e w' => e = .returned (.string ⟨(sgnL ng ++ ds).toArray⟩) ∧ Below w.heap.size w w') := by
  obtain ⟨h1, h2, h3, h4⟩ := plain_trunc x hx hf
  obtain ⟨ds, h5, h6⟩ := format_fin _ h1 h2 h3
  exact ⟨_, ds, h4, h5, fun w hL => digits_of_format x _ w (nanB_fin hf) (infP_fin hf) (infM_fin hf) (h6 w hL), h6⟩

end Go.Proofs.YtjncgedjdmgpfaaGreatDoor
