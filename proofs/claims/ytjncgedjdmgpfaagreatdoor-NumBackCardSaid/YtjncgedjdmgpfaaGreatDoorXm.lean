/- The walk of leftShift: its two loops. -/
import Derived.Test.YtjncgedjdmgpfaaGreatDoorXl

namespace Go.Proofs.YtjncgedjdmgpfaaGreatDoor
open Go.RowKit

theorem quiet_ex {P : Program} {f : FuncId} {args : Array Value} {w : World} {n : Nat} {v : Value}
    (h : Calls P f args (w.drewN n) fun e w' => e = .returned v ∧ ∃ m, w' = (w.drewN n).drewN m) : Calls P f args (w.drewN n) fun e w'' => e = .returned v ∧ ∃ m, w'' = w.drewN m :=
  h.mono fun _ _ ⟨he, m, hm⟩ => ⟨he, n + m, by rw [hm, World.drewN_drewN]⟩

theorem slice_dec (W : World) (b nd : Nat) (hn : nd ≤ 800) : Sem.run Tryz.prog (Instr.sliceAt 90 (.pointer (some ⟨b, 0, none⟩)) (some (.int .i64 0)) (some (.int .i64 nd)) none) W = .ok (.slice (some ⟨b, 0, none⟩) nd 800) W := by
  have h2 : Tryz.prog.arrayLen 90 = 800 := by kernel_rfl
  have h3 : Tryz.prog.elem 90 = 5 := by kernel_rfl
  have h := run_sliceAt_array_lh (P := Tryz.prog) W 90 ⟨b, 0, none⟩ (by rw [h2, h3]; exact Tryz.underlying90) .i64 .i64 0 nd (by omega) (by omega) (by rw [h2]; omega)
  rw [h, h2, h3]
  obtain ⟨i0, hi0, hz0, hz1, hz2⟩ := info_parts Tryz.info_u8
  simp [go_sem, slicedAt, sizeOf, typeInfo, hi0, Addr.add]

theorem two_pow_le (k : Nat) (hk : k ≤ 60) : 2 ^ k ≤ 1152921504606846976 := by
  have := Nat.pow_le_pow_right (n := 2) (by decide) hk
  simpa using this

/-- What a round of the first loop reckons. -/
theorem ls_round (M k q : Nat) (hk : k ≤ 60) : ∃ dq A C N rm : Nat, M / 10 ^ q % 10 = dq ∧ dq ≤ 9 ∧ dq * 2 ^ k = A ∧ A ≤ 10376293541461622784 ∧ carry M k q = C ∧ C < 1152921504606846976 ∧ C + A = N ∧ M * 2 ^ k / 10 ^ q % 10 = rm ∧ rm ≤ 9 ∧
    (N : Int) - 10 * ((N : Int) / 10) = rm ∧ carry M k (q + 1) = N / 10 := by
  have h2 := two_pow_le k hk
  have h3 := carry_lt M k q
  have hd : M / 10 ^ q % 10 ≤ 9 := by omega
  have hA : M / 10 ^ q % 10 * 2 ^ k ≤ 9 * 1152921504606846976 := Nat.mul_le_mul hd h2
  have hr := carry_rem M k q
  have hq := carry_quo M k q
  refine ⟨_, _, _, _, _, rfl, hd, rfl, by omega, rfl, by omega, rfl, rfl, by omega, ?_, hq.symm⟩
  omega

set_option maxRecDepth 100000 in
set_option maxHeartbeats 8000000 in
theorem leftShift_any (w : World) (b : Nat) (f : Nat → Nat) (nd M k : Nat) (dp : Int) (ng tr : Bool) (hG : LaidG w) (hn : nd ≤ 800) (hn1 : 1 ≤ nd) (hk1 : 1 ≤ k) (hk : k ≤ 60) (hD : DecF w b f nd dp ng tr) (hM : dgs f nd M) (hM0 : 10 ^ (nd - 1) ≤ M)
    (hp1 : -1000000000 ≤ dp) (hp2 : dp ≤ 1000000000) :
    Calls Tryz.prog 114 #[.pointer (some ⟨b, 0, none⟩), .int .u64 k] w (ShiftEnd w b (M * 2 ^ k) (nD (M * 2 ^ k)) (dp + nD (M * 2 ^ k) - nd) ng tr) := by
  have hrow := cheat_row k hk1 hk
  obtain ⟨B, o, cap, g1, g2⟩ := hG.ch
  have g3 := g2 k (by omega)
  generalize Go.Pinned.cheatRows.getD k (0, []) = row at hrow g3
  obtain ⟨delta, cut⟩ := row
  simp only [cheatOk, Bool.and_eq_true, decide_eq_true_eq, List.all_eq_true, List.mem_range] at hrow
  obtain ⟨⟨⟨⟨⟨⟨r1, r2⟩, r3⟩, r4⟩, r5⟩, r6⟩, r7⟩ := hrow
  have hC : Cheat k delta cut.length := ⟨r1, r2, r3, r4⟩
  have hless := cheat_less (M := M) (nd := nd) hC
  obtain ⟨t1, t2, t3, t4⟩ := lenP_bd hC hM.1 hM0 hn1
  have hT := nD_of _ _ t2 t1 (by omega)
  have hcut : (⟨cut.toArray⟩ : ByteArray).size = cut.length := by simp [ByteArray.size]
  have hpre := fun W (hDW : DecF W b f nd dp ng tr) => prefixLess_any W b 800 f nd M (5 ^ k) dp ng tr ⟨cut.toArray⟩ hn (by omega) hDW hM
    (fun i h => by
      have := r7 i (by omega)
      rw [hcut]
      rw [← this, List.getD_eq_getElem?_getD, List.getElem?_eq_getElem (by omega)]; rfl)
    (by rw [hcut]; exact r5) (fun _ => pow5_mod k hk1)
  rw [hcut, hless] at hpre
  have hdelta : delta ≤ 61 := by omega
  obtain ⟨L1, L2⟩ := g3
  rw [Nat.mul_comm 2 k] at L1 L2
  dsimp only at L1 L2
  have HP := Lib.hid hpre
  have HD := Lib.hid hD
  have HM := Lib.hid hM
  have c0 := hD.nd
  have HB := Lib.hid (OnlyB.refl b w)
  have I0 : Hid (LSInv w w b f nd (M * 2 ^ k) (nD (M * 2 ^ k)) dp ng tr 0) := ⟨f, by rw [dropB_zero, Bool.or_false]; exact hD, fun i _ => rfl, putD_zero _ _ _, OnlyB.refl b w⟩
  clear hpre hG g2 r1 r3 r4 r5 r6 r7 hC hcut hless hD hM hM0
  have key : ∃ (D : Nat) (lb : Bool), nD (M * 2 ^ k) = nd + D ∧ decide (M * 2 ^ k < 10 ^ (nd + delta - 1)) = lb ∧ D ≤ 61 ∧ ((lb = true ∧ delta = D + 1) ∨ (lb = false ∧ delta = D)) := by
    rw [hT]
    unfold lenP
    by_cases hl : M * 2 ^ k < 10 ^ (nd + delta - 1)
    · rw [if_pos hl]; exact ⟨delta - 1, true, by omega, decide_eq_true hl, by omega, .inl ⟨rfl, by omega⟩⟩
    · rw [if_neg hl]; exact ⟨delta, false, rfl, decide_eq_false hl, by omega, .inr ⟨rfl, rfl⟩⟩
  obtain ⟨D, lb, hTD, hlb, hD61, hcase⟩ := key
  rw [hT] at hTD
  rw [hTD] at t1 t2 t3 t4 hT
  rw [hT] at I0 ⊢
  rw [hlb] at HP
  have HT1 := Lib.hid t1
  have HT2 := Lib.hid t2
  clear hT hTD hlb t1 t2 t3 t4
  obtain ⟨P, eP⟩ : ∃ P, M * 2 ^ k = P := ⟨_, rfl⟩
  rw [eP] at I0 HT1 HT2 ⊢
  have EP := Lib.hid eP
  clear eP
  rcases hcase with ⟨rfl, rfl⟩ | ⟨rfl, hde⟩
  rotate_left
  obtain rfl : D = delta := hde.symm
  rotate_left
  all_goals
    go_enter Tryz.func114, Tryz.ntmps114
    go_wp2
    have SD := fun W => slice_dec W b nd hn
    go_quiet ((go_at_call 132; exact quiet_ex (HP.out _ (HD.out.drewN _))))
    go_wp2
    go_loopg [5, 6, 7] nd (fun g r x n wr => g ≤ nd ∧ r = .int .i64 ((g : Int) - 1) ∧ x = .int .i64 ((g : Int) + D) ∧ n = .int .u64 (carry M k (nd - g)) ∧ Hid (LSInv w wr b f nd P (nd + D) dp ng tr (nd - g)))
    case atStart => exact ⟨Nat.le_refl _, rfl, rfl, by rw [Nat.sub_self, carry_zero]; rfl, by rw [Nat.sub_self]; obtain ⟨f', h1, h2, h3, h4⟩ := I0.out; exact ⟨f', h1.drewN _, h2, h3, h4.drewN _⟩⟩
    case round =>
      obtain ⟨hg, rfl, rfl, rfl, HI⟩ := hrel
      clear I0
      cases gk with
      | zero =>
        rw [show ((0 : Nat) : Int) - 1 = -1 from rfl, show ((0 : Nat) : Int) + (D : Int) = D by omega, Nat.sub_zero]
        rw [Nat.sub_zero] at HI
        have hc0 : carry M k nd = P / 10 ^ nd := by rw [carry_all HM.out.1, EP.out]
        have hc1 := carry_lt M k nd
        have hc2 := two_pow_le k hk
        rw [hc0] at hc1 ⊢
        clear hc0
        go_wp2
        go_loopg [6, 7] D (fun g x n wr => g ≤ D ∧ x = .int .i64 (g : Int) ∧ n = .int .u64 (P / 10 ^ (nd + D - g) : Nat) ∧ P / 10 ^ (nd + D - g) < 1152921504606846976 ∧ Hid (LSInv w wr b f nd P (nd + D) dp ng tr (nd + D - g)))
        case atStart => exact ⟨Nat.le_refl _, rfl, by rw [Nat.add_sub_cancel], by rw [Nat.add_sub_cancel]; omega, by rw [Nat.add_sub_cancel]; exact HI⟩
        case round =>
          obtain ⟨hg2, rfl, rfl, hN, HI2⟩ := hrel
          clear HI hc1 hc2
          obtain ⟨N, eN⟩ : ∃ N, P / 10 ^ (nd + D - gk) = N := ⟨_, rfl⟩
          rw [eN] at hN ⊢
          by_cases hN0 : N = 0
          · have hlt : P < 10 ^ (nd + D - gk) := by
              rcases Nat.lt_or_ge P (10 ^ (nd + D - gk)) with h | h
              · exact h
              · have := Nat.div_pos h (p10_pos _); omega
            have hg0 : gk = 0 := by
              rcases Nat.eq_zero_or_pos gk with h | h
              · exact h
              · have h3 := Nat.pow_le_pow_right (n := 10) (by decide) (show nd + D - gk ≤ nd + D - 1 by omega)
                have := HT2.out
                omega
            subst hg0 hN0
            rw [Nat.sub_zero] at HI2
            have HI3 := HI2
            obtain ⟨f', h1, h2, h3, h4⟩ := HI3.out
            rw [dropB_all (by omega)] at h1
            have hdg := putD_dgs h3 HT1.out
            obtain ⟨tr', et⟩ : ∃ tr', (tr || decide (P % 10 ^ (nd + D - 800) ≠ 0)) = tr' := ⟨_, rfl⟩
            have c800 := h1.nd
            have c801 := h1.dp
            have z800 := h1.fz 800
            have z801 := h1.fz 801
            have HD2 := Lib.hid h1
            have HDG := Lib.hid hdg
            have H4 := Lib.hid h4
            clear HI2 HI3 h1 h2 h3 h4 hdg hlt eN hN et
            by_cases h8 : nd + D < 800
            · have h8I : (nd : Int) + D < 800 := by omega
              have hmin := Nat.min_eq_left (show nd + D ≤ 800 by omega)
              have HDG2 := Lib.hid (hmin ▸ HDG.out)
              have HMN := Lib.hid hmin
              clear hmin
              go_wp2_with (go_at_call 113; refine (trim_any _ b f' (nd + D) (P / 10 ^ (nd + D - 800)) (dp + D) ng _ (by omega) (by rw [show ((nd + D : Nat) : Int) = (nd : Int) + D by omega]; exact (HD2.out.setNd _).setDp _) HDG2.out).mono ?_; rintro e w' ⟨rfl, t1, t2, t3⟩)
              go_end0
              refine ⟨rfl, f', ?_, ?_, (((H4.out.set _ _).set _ _)).trans t3⟩
              · rw [shRes, HMN.out, show dp + ((nd + D : Nat) : Int) - nd = dp + D by omega]; exact t1
              · rw [shRes, HMN.out]; exact t2
            · have h8I : ¬ (nd : Int) + D < 800 := by omega
              have hmin := Nat.min_eq_right (show 800 ≤ nd + D by omega)
              have HDG2 := Lib.hid (hmin ▸ HDG.out)
              have HMN := Lib.hid hmin
              clear hmin
              go_wp2_with (go_at_call 113; refine (trim_any _ b f' 800 (P / 10 ^ (nd + D - 800)) (dp + D) ng _ (by omega) (by first | exact ((HD2.out.setNd _).setNd _).setDp _ | exact (HD2.out.setNd _).setDp _) HDG2.out).mono ?_; rintro e w' ⟨rfl, t1, t2, t3⟩)
              go_end0
              refine ⟨rfl, f', ?_, ?_, (((H4.out.set _ _).set _ _).set _ _).trans t3⟩
              · rw [shRes, HMN.out, show dp + ((nd + D : Nat) : Int) - nd = dp + D by omega]; exact t1
              · rw [shRes, HMN.out]; exact t2
          · cases gk with
            | zero =>
              exact absurd eN (by rw [Nat.sub_zero, Nat.div_eq_of_lt HT1.out]; omega)
            | succ g =>
              obtain ⟨rm, hrm⟩ : ∃ rm, N % 10 = rm := ⟨_, rfl⟩
              have hr9 : rm ≤ 9 := by omega
              have hrI : (N : Int) - 10 * ((N : Int) / 10) = rm := by omega
              have hNp : 0 < (N : Int) := by omega
              have hqd : P / 10 ^ (nd + D - g) = N / 10 := by
                rw [show nd + D - g = nd + D - (g + 1) + 1 by omega, Nat.pow_succ, ← Nat.div_div_eq_div_mul, eN]
              have hrq : P / 10 ^ (nd + D - (g + 1)) % 10 = rm := by rw [eN, hrm]
              have HE := Lib.hid (And.intro hrq hqd)
              rw [show ((g + 1 : Nat) : Int) = (g : Int) + 1 by omega]
              clear eN hrm hqd hrq
              have hw : g < 800 := by omega
              have hwI : (g : Int) < 800 := by omega
              obtain ⟨v0, hst⟩ : ∃ v0, wr.cell? ⟨b, g, none⟩ = some v0 := by obtain ⟨f', h1, _, _, _⟩ := HI2.out; exact ⟨_, h1.d _ (by omega)⟩
              have hfz : wr.frozen? ⟨b, g, none⟩ = false := by obtain ⟨f', h1, _, _, _⟩ := HI2.out; exact h1.fz _
              go_wp2
              go_roundg g
              case measure => omega
              case rel =>
                obtain ⟨a1, a2⟩ := HE.out
                refine ⟨by omega, by go_num, by rw [a2]; go_num, by rw [a2]; omega, ?_⟩
                have h := lsInv_in HI2.out (by omega) (by omega) (by omega)
                rw [a1, show nd + D - (nd + D - (g + 1) + 1) = g by omega, show nd + D - (g + 1) + 1 = nd + D - g by omega] at h
                have e : ((48 + rm : Nat) : Int) = (rm : Int) + 48 := by omega
                rw [e] at h
                exact h
      | succ g =>
        obtain ⟨dq, A, C, N, rm, e1, e2, e3, e4, e5, e6, e7, e8, e9, e10, e11⟩ := ls_round M k (nd - (g + 1)) hk
        rw [show ((g + 1 : Nat) : Int) - 1 = g by omega, show ((g + 1 : Nat) : Int) + (D : Int) = (g : Int) + D + 1 by omega, e5]
        have hcell : wr.cell? ⟨b, g, none⟩ = some (.int .u8 ((dq : Int) + 48)) := by
          obtain ⟨f', h1, h2, h3, h4⟩ := HI.out
          have := h1.d g (by omega)
          rw [h2 g (by omega), HM.out.2 g (by omega), show nd - 1 - g = nd - (g + 1) by omega, e1] at this
          rw [this]; congr 2; omega
        have i3 : (dq : Int) * 2 ^ k = A := by rw [← e3]; simp
        have i7 : (C : Int) + A = N := by omega
        have HE := Lib.hid (And.intro e8 e11)
        clear e1 e3 e5 e7 e8 e11
        by_cases hw : g + D < 800
        · have hwI : (g : Int) + D < 800 := by omega
          obtain ⟨v0, hst⟩ : ∃ v0, wr.cell? ⟨b, g + D, none⟩ = some v0 := by obtain ⟨f', h1, _, _, _⟩ := HI.out; exact ⟨_, h1.d _ (by omega)⟩
          have hfz : wr.frozen? ⟨b, g + D, none⟩ = false := by obtain ⟨f', h1, _, _, _⟩ := HI.out; exact h1.fz _
          go_wp2
          go_roundg g
          case measure => omega
          case rel =>
            obtain ⟨a1, a2⟩ := HE.out
            rw [EP.out] at a1
            refine ⟨by omega, by go_num, by go_num, ?_, ?_⟩
            · rw [show nd - g = nd - (g + 1) + 1 by omega, a2]; go_num
            · have h := lsInv_in HI.out (by omega) (by omega) (by omega)
              rw [a1, show nd + D - (nd - (g + 1) + 1) = g + D by omega, show nd - (g + 1) + 1 = nd - g by omega] at h
              have e : ((48 + rm : Nat) : Int) = (rm : Int) + 48 := by omega
              rw [e] at h
              exact h
        · have hwI : ¬ (g : Int) + D < 800 := by omega
          by_cases h0 : rm = 0
          · subst h0
            go_wp2
            go_roundg g
            case measure => omega
            case rel =>
              obtain ⟨a1, a2⟩ := HE.out
              rw [EP.out] at a1
              refine ⟨by omega, by go_num, by go_num, ?_, ?_⟩
              · rw [show nd - g = nd - (g + 1) + 1 by omega, a2]; go_num
              · have h := lsInv_out0 HI.out (by omega) a1
                rw [show nd - (g + 1) + 1 = nd - g by omega] at h
                exact h
          · have b0 : ((rm : Int) != 0) = true := by simp; omega
            obtain ⟨v0, hst⟩ : ∃ v0, wr.cell? ⟨b, 803, none⟩ = some v0 := by obtain ⟨f', h1, _, _, _⟩ := HI.out; exact ⟨_, h1.tr⟩
            have hfz : wr.frozen? ⟨b, 803, none⟩ = false := by obtain ⟨f', h1, _, _, _⟩ := HI.out; exact h1.fz _
            go_wp2
            go_roundg g
            case measure => omega
            case rel =>
              obtain ⟨a1, a2⟩ := HE.out
              rw [EP.out] at a1
              refine ⟨by omega, by go_num, by go_num, ?_, ?_⟩
              · rw [show nd - g = nd - (g + 1) + 1 by omega, a2]; go_num
              · have h := lsInv_out1 HI.out (by omega) (by rw [a1]; exact h0)
                rw [show nd - (g + 1) + 1 = nd - g by omega] at h
                exact h

end Go.Proofs.YtjncgedjdmgpfaaGreatDoor
