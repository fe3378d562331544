/- The walk of rightShift. -/
import Derived.Test.YtjncgedjdmgpfaaGreatDoorXl
import Derived.Test.YtjncgedjdmgpfaaGreatDoorPo
import Derived.Deep.DeepCutAuto
import Derived.Deep.CutBlock

namespace Go.Proofs.YtjncgedjdmgpfaaGreatDoor
open Go.RowKit

def RSInv (w wr : World) (b : Nat) (f : Nat → Nat) (nd P T r0 : Nat) (dp : Int) (ng tr : Bool) (q : Nat) : Prop :=
  ∃ f', DecF wr b f' nd dp ng (tr || dropQ P T q) ∧ (∀ i, r0 + q ≤ i → i < nd → f' i = f i) ∧ (∀ j, j < q → j < 800 → f' j = 48 + P / 10 ^ (T - 1 - j) % 10) ∧ OnlyB b w wr

section
variable {w wr : World} {b : Nat} {f : Nat → Nat} {nd P T r0 : Nat} {dp : Int} {ng tr : Bool} {q : Nat}
theorem rsInv_in (h : RSInv w wr b f nd P T r0 dp ng tr q) (hr : 1 ≤ r0) (hw : q < 800) :
    RSInv w (wr.setCell ⟨b, q, none⟩ (.int .u8 (48 + P / 10 ^ (T - 1 - q) % 10 : Nat))) b f nd P T r0 dp ng tr (q + 1) := by
  obtain ⟨f', h1, h2, h3, h4⟩ := h
  refine ⟨upd f' q (48 + P / 10 ^ (T - 1 - q) % 10), ?_, fun i hi hi2 => ?_, fun j hj h5 => ?_, h4.set _ _⟩
  · rw [dropQ_in (by omega)]; rw [dropQ_in (by omega)] at h1; exact h1.setD hw _
  · rw [upd_other _ _ (by omega)]; exact h2 i (by omega) hi2
  · by_cases e : j = q
    · subst e; rw [upd_same]
    · rw [upd_other _ _ e]; exact h3 j (by omega) h5
theorem rsInv_out0 (h : RSInv w wr b f nd P T r0 dp ng tr q) (hw : ¬ q < 800) (hT : q < T) (h0 : P / 10 ^ (T - 1 - q) % 10 = 0) : RSInv w wr b f nd P T r0 dp ng tr (q + 1) := by
  obtain ⟨f', h1, h2, h3, h4⟩ := h
  refine ⟨f', ?_, fun i hi => h2 i (by omega), fun j hj h5 => h3 j (by omega) h5, h4⟩
  rw [dropQ_out (by omega) hT, h0]; simpa using h1
theorem rsInv_out1 (h : RSInv w wr b f nd P T r0 dp ng tr q) (hw : ¬ q < 800) (hT : q < T) (h0 : P / 10 ^ (T - 1 - q) % 10 ≠ 0) : RSInv w (wr.setCell ⟨b, 803, none⟩ (.bool true)) b f nd P T r0 dp ng tr (q + 1) := by
  obtain ⟨f', h1, h2, h3, h4⟩ := h
  refine ⟨f', ?_, fun i hi => h2 i (by omega), fun j hj h5 => h3 j (by omega) h5, h4.set _ _⟩
  rw [dropQ_out (by omega) hT, decide_eq_true h0, Bool.or_true, Bool.or_true]; exact h1.setTr true
end

theorem two_pow_le' (k : Nat) (hk : k ≤ 60) : 2 ^ k ≤ 1152921504606846976 := by
  have := Nat.pow_le_pow_right (n := 2) (by decide) hk
  simpa using this

theorem and_mask (n k : Nat) (hk : k ≤ 60) (hn : n < 18446744073709551616) : bits .and .u64 (n : Int) (((2 ^ k : Nat) : Int) - 1) = (n % 2 ^ k : Nat) := by
  have h2 := two_pow_le' k hk
  have hp : 1 ≤ 2 ^ k := Nat.pow_pos (by decide)
  have h := bits_and_u64_nat n (2 ^ k - 1) hn (by omega)
  rw [Nat.and_two_pow_sub_one_eq_mod] at h
  rw [← h]; congr 1; omega

/-- What a round reckons: the digit, the rest. -/
theorem rs_round (X k K2 : Nat) (hk : k ≤ 60) (hK : 2 ^ k = K2) (hX : X < 10 * K2) : ∃ D R : Nat, X / K2 = D ∧ X % K2 = R ∧ D ≤ 9 ∧ R < K2 ∧ K2 ≤ 1152921504606846976 ∧ (X : Int) / (K2 : Int) = D ∧ bits .and .u64 (X : Int) ((K2 : Int) - 1) = (R : Int) := by
  have hp : 0 < K2 := by rw [← hK]; exact Nat.pow_pos (by decide)
  have h2 : K2 ≤ 1152921504606846976 := by rw [← hK]; exact two_pow_le' k hk
  refine ⟨_, _, rfl, rfl, ?_, Nat.mod_lt _ hp, h2, by simp, ?_⟩
  · have : X / K2 < 10 := by rw [Nat.div_lt_iff_lt_mul hp]; exact hX
    omega
  · have h := and_mask X k hk (by omega)
    rw [hK] at h
    exact h

set_option maxRecDepth 100000 in
set_option maxHeartbeats 8000000 in
theorem rightShift_any (w : World) (b : Nat) (f : Nat → Nat) (nd M k : Nat) (dp : Int) (ng tr : Bool) (hn : nd ≤ 800) (hn1 : 1 ≤ nd) (hk1 : 1 ≤ k) (hk : k ≤ 60) (hD : DecF w b f nd dp ng tr) (hM : dgs f nd M) (hM0 : 0 < M)
    (hp1 : -1000000000 ≤ dp) (hp2 : dp ≤ 1000000000) :
    Calls Tryz.prog 115 #[.pointer (some ⟨b, 0, none⟩), .int .u64 k] w (ShiftEnd w b (M * 5 ^ k) (nD (M * 5 ^ k)) (dp + nD (M * 5 ^ k) - nd - k) ng tr) := by
  obtain ⟨r0, hS⟩ := start_ex k hM.1 hM0
  obtain ⟨hr, hT, hPT⟩ := hS.len hM0
  obtain ⟨T, eT⟩ : ∃ T, nD (M * 5 ^ k) = T := ⟨_, rfl⟩
  rw [eT] at hT ⊢
  rw [← hT] at hPT
  obtain ⟨K2, eK⟩ : ∃ K2 : Nat, 2 ^ k = K2 := ⟨_, rfl⟩
  have hKle : K2 ≤ 1152921504606846976 := eK ▸ two_pow_le' k hk
  have hKp : 1 ≤ K2 := by rw [← eK]; exact Nat.pow_pos (by decide)
  have iK : (2 : Int) ^ k = K2 := by rw [← eK]; simp
  have HS := Lib.hid hS
  have HD := Lib.hid hD
  have HM := Lib.hid hM
  have HT := Lib.hid hT
  have HPT := Lib.hid hPT
  have HK := Lib.hid eK
  have HA0 := Lib.hid (preA_zero hM.1)
  have HAin := Lib.hid (fun r (h : r < nd) => preA_succ_in (M := M) h)
  have HAout := Lib.hid (fun r (h : nd ≤ r) => preA_succ_out (M := M) h)
  have HAnd := Lib.hid (preA_nd M nd)
  have HLT := Lib.hid hS.lt
  have hr01 := hS.pos
  have c800 := hD.nd
  clear hS hD hM hT hPT eT eK
  go_enter Tryz.func115, Tryz.ntmps115
  go_upto_block 0 with (fail)
  go_cut [4, 6] (fun r n wx => r = .int .i64 r0 ∧ n = .int .u64 (preA M nd r0) ∧ wx = w)
  case first =>
    go_wp2
    go_loopg [4, 6] nd (fun g r n wx => ∃ q : Nat, g + q = nd ∧ q ≤ r0 ∧ r = .int .i64 q ∧ n = .int .u64 (preA M nd q) ∧ wx = w)
    case atStart => exact ⟨0, by omega, by omega, rfl, by rw [HA0.out]; rfl, rfl⟩
    case round =>
      obtain ⟨q, hgq, hq, rfl, rfl, rfl⟩ := hrel
      by_cases he : q = r0
      · have hge := HS.out.at_
        rw [HK.out] at hge
        subst he
        obtain ⟨A, eA⟩ : ∃ A, preA M nd q = A := ⟨_, rfl⟩
        rw [eA] at hge ⊢
        have bt : ((A : Int) / (K2 : Int) == 0) = false := by
          refine beq_eq_false_iff_ne.2 ?_
          have : 1 ≤ A / K2 := Nat.div_pos hge hKp
          have e : ((A / K2 : Nat) : Int) = (A : Int) / K2 := by simp
          omega
        clear hge
        go_wp2
        go_meet
        exact ⟨rfl, by rw [eA], rfl⟩
      · have hlt := HS.out.before q (by omega)
        rw [HK.out] at hlt
        obtain ⟨A, eA⟩ : ∃ A, preA M nd q = A := ⟨_, rfl⟩
        rw [eA] at hlt ⊢
        have bt : ((A : Int) / (K2 : Int) == 0) = true := by
          refine beq_iff_eq.2 ?_
          have : A / K2 = 0 := Nat.div_eq_of_lt hlt
          have e : ((A / K2 : Nat) : Int) = (A : Int) / K2 := by simp
          omega
        by_cases hin : q < nd
        · obtain ⟨d, ed⟩ : ∃ d, M / 10 ^ (nd - 1 - q) % 10 = d := ⟨_, rfl⟩
          have hd9 : d ≤ 9 := by omega
          have hstep := HAin.out q hin
          rw [eA, ed] at hstep
          have hcell : wr.cell? ⟨b, q, none⟩ = some (.int .u8 ((d : Int) + 48)) := by
            have h1 := HD.out.d q (by omega)
            rw [HM.out.2 q hin, ed] at h1
            rw [h1]; congr 2; omega
          have hN : (A : Int) * 10 + ((d : Int) + 48) - 48 = (A : Int) * 10 + d := by omega
          have HE := Lib.hid hstep
          clear eA ed hstep
          go_wp2
          go_roundg (nd - (q + 1))
          case measure => omega
          case rel => exact ⟨q + 1, by omega, by omega, by go_num, by rw [HE.out]; go_num, rfl⟩
        · have hqn : q = nd := by omega
          subst hqn
          have hA : A = M := by rw [← eA]; exact HAnd.out
          subst hA
          have bz : ((A : Int) == 0) = false := beq_eq_false_iff_ne.2 (by omega)
          have HEA := Lib.hid eA
          clear eA hgq
          go_wp2
          go_loopg [4, 6] (r0 - q) (fun g r n wx => ∃ p : Nat, q ≤ p ∧ g + p = r0 ∧ r = .int .i64 p ∧ n = .int .u64 (preA A q p) ∧ wx = wr)
          case atStart => exact ⟨q, by omega, by omega, rfl, by rw [HEA.out], rfl⟩
          case round =>
            obtain ⟨p, hqp, hgp, rfl, rfl, rfl⟩ := hrel
            clear bt bz hlt
            by_cases he2 : p = r0
            · have hge := HS.out.at_
              rw [HK.out] at hge
              subst he2
              obtain ⟨B, eB⟩ : ∃ B, preA A q p = B := ⟨_, rfl⟩
              rw [eB] at hge ⊢
              have bt : ((B : Int) / (K2 : Int) == 0) = false := by
                refine beq_eq_false_iff_ne.2 ?_
                have : 1 ≤ B / K2 := Nat.div_pos hge hKp
                have e : ((B / K2 : Nat) : Int) = (B : Int) / K2 := by simp
                omega
              clear hge
              go_wp2
              go_meet
              exact ⟨rfl, by rw [eB], rfl⟩
            · have hlt := HS.out.before p (by omega)
              rw [HK.out] at hlt
              obtain ⟨B, eB⟩ : ∃ B, preA A q p = B := ⟨_, rfl⟩
              have hstep := HAout.out p hqp
              rw [eB] at hlt hstep ⊢
              have bt : ((B : Int) / (K2 : Int) == 0) = true := by
                refine beq_iff_eq.2 ?_
                have : B / K2 = 0 := Nat.div_eq_of_lt hlt
                have e : ((B / K2 : Nat) : Int) = (B : Int) / K2 := by simp
                omega
              have HE := Lib.hid hstep
              clear eB hstep
              go_wp2
              go_roundg (r0 - (p + 1))
              case measure => omega
              case rel => exact ⟨p + 1, by omega, by omega, by go_num, by rw [HE.out]; go_num, rfl⟩
  case rest =>
    obtain ⟨rfl, rfl, rfl⟩ := hcut
    obtain ⟨N, eN⟩ : ∃ N, preA M nd r0 = N := ⟨_, rfl⟩
    have hNlt := HLT.out
    rw [HK.out, eN] at hNlt
    have hTr : T = nd + k - r0 + 1 := HT.out
    have c801 := HD.out.dp
    have z801 := HD.out.fz 801
    have hmask := and_mask
    have hPT2 : M * 5 ^ k < 10 ^ T := HPT.out
    obtain ⟨P, eP⟩ : ∃ P, M * 5 ^ k = P := ⟨_, rfl⟩
    rw [eP] at hPT2
    have EP := Lib.hid eP
    have hdq := fun q (h : q < T) => quo_digit (M := M) (q := q) hTr hr h
    have hre := fun q (h : T ≤ q) => rest_end (M := M) (q := q) hTr hr h
    have hrz := fun q (h1 : q ≤ T) h2 h3 => rest_zero (M := M) (q := q) hTr hr h1 h2 h3
    rw [eP] at hdq hrz
    have HDQ := Lib.hid hdq
    have HRE := Lib.hid hre
    have HRZ := Lib.hid hrz
    have HRI := Lib.hid (fun r (h : r < nd) => rest_in (M := M) (k := k) h)
    have HRO := Lib.hid (fun r (h : nd ≤ r) => rest_out (M := M) (k := k) h)
    have HP2 := Lib.hid hPT2
    have HN := Lib.hid eN
    have HB := Lib.hid (OnlyB.refl b wc)
    have HTR := Lib.hid hTr
    obtain ⟨dp2, edp⟩ : ∃ dp2, dp - ((r0 : Int) - 1) = dp2 := ⟨_, rfl⟩
    have hdp2 : dp + (T : Int) - nd - k = dp2 := by omega
    have I0 : Hid (RSInv wc (wc.setCell ⟨b, 801, none⟩ (.int .i64 dp2)) b f nd P T r0 dp2 ng tr 0) := ⟨f, by rw [dropQ_in (by omega), Bool.or_false]; exact HD.out.setDp dp2, fun i _ _ => rfl, fun j hj => absurd hj (by omega), HB.out.set _ _⟩
    have HDP := Lib.hid hdp2
    rw [eN]
    clear hdq hre hrz hPT2 eP eN hTr hmask hdp2
    go_wp2
    clear edp
    go_loopg [4, 5, 6] (nd - r0) (fun g r x n wr => ∃ q X : Nat, g = nd - (r0 + q) ∧ (q = 0 ∨ r0 + q ≤ nd) ∧ r = .int .i64 ((r0 + q : Nat) : Int) ∧ x = .int .i64 q ∧ n = .int .u64 X ∧ X < 10 * K2 ∧ Hid (preA M nd (r0 + q) % (10 * 2 ^ k) = X) ∧ Hid (RSInv wc wr b f nd P T r0 dp2 ng tr q))
    case atStart => exact ⟨0, N, by omega, .inl rfl, rfl, rfl, rfl, hNlt, by unfold Hid; rw [Nat.add_zero, HN.out, HK.out, Nat.mod_eq_of_lt hNlt], I0⟩
    case round =>
      obtain ⟨q, X, hg, hq, rfl, rfl, rfl, hX, HX, HI⟩ := hrel
      clear I0 hNlt
      have c800 : wr.cell? ⟨b, 800, none⟩ = some (.int .i64 nd) := by obtain ⟨f', h1, _, _, _⟩ := HI.out; exact h1.nd
      by_cases hin : r0 + q < nd
      · have hq8 : q < 800 := by omega
        have hqT : q < T := by have := HTR.out; omega
        obtain ⟨D, R, e1, e2, hD9, hR, hK2, iD, iR⟩ := rs_round X k K2 hk HK.out hX
        obtain ⟨d, ed⟩ : ∃ d, M / 10 ^ (nd - 1 - (r0 + q)) % 10 = d := ⟨_, rfl⟩
        have hd9 : d ≤ 9 := by omega
        have hcell : wr.cell? ⟨b, r0 + q, none⟩ = some (.int .u8 ((d : Int) + 48)) := by
          obtain ⟨f', h1, h2, _, _⟩ := HI.out
          have h1 := h1.d (r0 + q) (by omega)
          rw [h2 (r0 + q) (Nat.le_refl _) hin, HM.out.2 (r0 + q) hin, ed] at h1
          rw [h1]; congr 2; omega
        obtain ⟨v0, hst⟩ : ∃ v0, wr.cell? ⟨b, q, none⟩ = some v0 := by obtain ⟨f', h1, _, _, _⟩ := HI.out; exact ⟨_, h1.d _ hq8⟩
        have hfz : wr.frozen? ⟨b, q, none⟩ = false := by obtain ⟨f', h1, _, _, _⟩ := HI.out; exact h1.fz _
        have hN : (R : Int) * 10 + ((d : Int) + 48) - 48 = (R : Int) * 10 + d := by omega
        have HX2 : Hid (preA M nd (r0 + (q + 1)) % (10 * 2 ^ k) = R * 10 + d) := by
          have h := HRI.out (r0 + q) hin
          rw [HX.out, ed, HK.out, e2] at h
          unfold Hid; rw [← Nat.add_assoc, HK.out]; exact h
        have HI2 : Hid (RSInv wc (wr.setCell ⟨b, q, none⟩ (.int .u8 ((D : Int) + 48))) b f nd P T r0 dp2 ng tr (q + 1)) := by
          have h := rsInv_in HI.out hr01 hq8
          have h2 := HDQ.out q hqT
          rw [HX.out, HK.out, e1] at h2
          rw [← h2, show ((48 + D : Nat) : Int) = (D : Int) + 48 by omega] at h
          exact h
        rw [show ((r0 + q : Nat) : Int) = (r0 : Int) + q by omega]
        clear e1 e2 ed HX HI
        go_wp2
        go_roundg (nd - (r0 + (q + 1)))
        case measure => omega
        case rel => exact ⟨q + 1, R * 10 + d, rfl, .inr (by omega), by go_num, by go_num, by go_num, by omega, HX2, HI2⟩
      · have hqT0 : q ≤ T := by have := HTR.out; omega
        rw [show ((r0 + q : Nat) : Int) = (r0 : Int) + q by omega]
        have hq800 : q ≤ 800 := by omega
        have hqn : nd ≤ r0 + q := by omega
        go_wp2
        go_loopg [5, 6] (T - q) (fun g x n wr => ∃ q X : Nat, g + q = T ∧ nd ≤ r0 + q ∧ x = .int .i64 ((min q 800 : Nat) : Int) ∧ n = .int .u64 X ∧ X < 10 * K2 ∧ Hid (preA M nd (r0 + q) % (10 * 2 ^ k) = X) ∧ Hid (RSInv wc wr b f nd P T r0 dp2 ng tr q))
        case atStart => exact ⟨q, X, by omega, hqn, by rw [Nat.min_eq_left hq800], rfl, hX, HX, HI⟩
        case round =>
          clear hq hin hqT0 hq800 hqn HI HX hX c800
          obtain ⟨q2, X2, hg2, hqn2, rfl, rfl, hX2, HX2, HI2⟩ := hrel
          have c800 : wr.cell? ⟨b, 800, none⟩ = some (.int .i64 nd) := by obtain ⟨f', h1, _, _, _⟩ := HI2.out; exact h1.nd
          have z800 : wr.frozen? ⟨b, 800, none⟩ = false := by obtain ⟨f', h1, _, _, _⟩ := HI2.out; exact h1.fz _
          by_cases hx0 : X2 = 0
          · subst hx0
            have h0 := HRZ.out q2 (by omega) hqn2 HX2.out
            obtain ⟨f', h1, h2, h3, h4⟩ := HI2.out
            rw [dropQ_all (by omega) h0] at h1
            have hdg := quo_dgs h3 HP2.out (by omega)
            have hsh := shRes_of (by omega) h0
            obtain ⟨m, em⟩ : ∃ m, min q2 800 = m := ⟨_, rfl⟩
            have hm8 : m ≤ 800 := by omega
            rw [em] at hdg hsh ⊢
            have HD2 := Lib.hid h1
            have HDG := Lib.hid hdg
            have HSH := Lib.hid hsh
            have H4 := Lib.hid h4
            clear h0 h1 h2 h3 h4 hdg hsh em HX2 HI2
            go_wp2_with (go_at_call 113; refine (trim_any _ b f' m (P / 10 ^ (T - m)) dp2 ng _ hm8 (HD2.out.setNd _) HDG.out).mono ?_; rintro e w' ⟨rfl, t1, t2, t3⟩)
            go_end0
            rw [HSH.out] at t1 t2
            refine ⟨rfl, f', ?_, ?_, (H4.out.set _ _).trans t3⟩
            · rw [EP.out, HDP.out]; exact t1
            · rw [EP.out]; exact t2
          · have hqT : q2 < T := by
              rcases Nat.lt_or_ge q2 T with h | h
              · exact h
              · have := HRE.out q2 h
                rw [HX2.out] at this
                exact absurd this hx0
            obtain ⟨D, R, e1, e2, hD9, hR, hK2, iD, iR⟩ := rs_round X2 k K2 hk HK.out hX2
            have hXp : 0 < (X2 : Int) := by omega
            have hdig := HDQ.out q2 hqT
            rw [HX2.out, HK.out, e1] at hdig
            have HX3 : Hid (preA M nd (r0 + (q2 + 1)) % (10 * 2 ^ k) = R * 10) := by
              have h := HRO.out (r0 + q2) hqn2
              rw [HX2.out, HK.out, e2] at h
              unfold Hid; rw [← Nat.add_assoc, HK.out]; exact h
            have HDI := Lib.hid hdig
            clear e1 e2 HX2 hdig
            by_cases hq8 : q2 < 800
            · obtain ⟨v0, hst⟩ : ∃ v0, wr.cell? ⟨b, q2, none⟩ = some v0 := by obtain ⟨f', h1, _, _, _⟩ := HI2.out; exact ⟨_, h1.d _ hq8⟩
              have hfz : wr.frozen? ⟨b, q2, none⟩ = false := by obtain ⟨f', h1, _, _, _⟩ := HI2.out; exact h1.fz _
              have HI3 : Hid (RSInv wc (wr.setCell ⟨b, q2, none⟩ (.int .u8 ((D : Int) + 48))) b f nd P T r0 dp2 ng tr (q2 + 1)) := by
                have h := rsInv_in HI2.out hr01 hq8
                rw [← HDI.out, show ((48 + D : Nat) : Int) = (D : Int) + 48 by omega] at h
                exact h
              rw [show ((min q2 800 : Nat) : Int) = q2 by omega]
              have hq8I : (q2 : Int) < 800 := by omega
              clear HI2 HDI
              go_wp2
              go_roundg (T - (q2 + 1))
              case measure => omega
              case rel => exact ⟨q2 + 1, R * 10, by omega, by omega, by rw [show min (q2 + 1) 800 = q2 + 1 by omega]; go_num, by go_num, by omega, HX3, HI3⟩
            · rw [show ((min q2 800 : Nat) : Int) = 800 by omega]
              by_cases hD0 : D = 0
              · have HI3 : Hid (RSInv wc wr b f nd P T r0 dp2 ng tr (q2 + 1)) := rsInv_out0 HI2.out hq8 hqT (by rw [← HDI.out]; exact hD0)
                subst hD0
                clear HI2 HDI
                go_wp2
                go_roundg (T - (q2 + 1))
                case measure => omega
                case rel => exact ⟨q2 + 1, R * 10, by omega, by omega, by rw [show min (q2 + 1) 800 = 800 by omega]; rfl, by go_num, by omega, HX3, HI3⟩
              · have HI3 : Hid (RSInv wc (wr.setCell ⟨b, 803, none⟩ (.bool true)) b f nd P T r0 dp2 ng tr (q2 + 1)) := rsInv_out1 HI2.out hq8 hqT (by rw [← HDI.out]; exact hD0)
                obtain ⟨v0, hst⟩ : ∃ v0, wr.cell? ⟨b, 803, none⟩ = some v0 := by obtain ⟨f', h1, _, _, _⟩ := HI2.out; exact ⟨_, h1.tr⟩
                have hfz : wr.frozen? ⟨b, 803, none⟩ = false := by obtain ⟨f', h1, _, _, _⟩ := HI2.out; exact h1.fz _
                have hDp : 0 < (D : Int) := by omega
                clear HI2 HDI
                go_wp2
                go_roundg (T - (q2 + 1))
                case measure => omega
                case rel => exact ⟨q2 + 1, R * 10, by omega, by omega, by rw [show min (q2 + 1) 800 = 800 by omega]; rfl, by go_num, by omega, HX3, HI3⟩

end Go.Proofs.YtjncgedjdmgpfaaGreatDoor
