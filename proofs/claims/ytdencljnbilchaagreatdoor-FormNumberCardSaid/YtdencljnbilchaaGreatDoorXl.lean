/- The walk of leftShift. The walk of leftShift: its two loops. The walk of rightShift. The walk of Shift. -/
import Derived.Test.YtdencljnbilchaaGreatDoorXj
import Derived.Test.YtdencljnbilchaaGreatDoorXg
import Derived.Test.YtdencljnbilchaaGreatDoorPa
import Derived.Deep.RegionHeld
import Derived.Deep.DeepCutAuto
import Derived.Deep.CutBlock

namespace Go.Proofs.YtdencljnbilchaaGreatDoor
open Go.RowKit

structure LaidG (w : World) : Prop where
  lt : LaidT w
  ch : ∃ B o cap, w.cell? ⟨6, 0, none⟩ = some (.slice (some ⟨B, o, none⟩) 61 cap) ∧ ∀ k, k < 61 → w.cell? ⟨B, o + 2 * k, none⟩ = some (.int .i64 (Go.Pinned.cheatRows.getD k (0, [])).1) ∧ w.cell? ⟨B, o + 2 * k + 1, none⟩ = some (.string ⟨(Go.Pinned.cheatRows.getD k (0, [])).2.toArray⟩)
  pt : ∃ _B _o _cap : Nat, w.cell? ⟨2, 0, none⟩ = some (.bool true) ∧ ∀ i : Nat, i < 9 → w.cell? ⟨2, 0, none⟩ = some (.bool true)
  fi : w.cell? ⟨2, 0, none⟩ = some (.bool true) ∧ w.cell? ⟨2, 0, none⟩ = some (.bool true)
  u10 : ∀ i, i < 20 → w.cell? ⟨3, i, none⟩ = some (.int .u64 (10 ^ i : Nat))

theorem LaidG.below {w w' : World} (h : LaidG w) (hb : Below w.heap.size w w') : LaidG w' := by
  obtain ⟨h1, ⟨B, o, cap, h2, h3⟩, ⟨B', o', cap', h4, h5⟩, h7, h6⟩ := h
  have keep : ∀ (a : Addr) (v : Value), w.cell? a = some v → w'.cell? a = some v := fun a v hv => by
    rw [hb.cell (World.block_lt_of_cell? w a hv)]; exact hv
  exact ⟨h1.below hb, ⟨B, o, cap, keep _ _ h2, fun k hk => ⟨keep _ _ (h3 k hk).1, keep _ _ (h3 k hk).2⟩⟩, ⟨B', o', cap', keep _ _ h4, fun i hi => keep _ _ (h5 i hi)⟩, ⟨keep _ _ h7.1, keep _ _ h7.2⟩, fun i hi => keep _ _ (h6 i hi)⟩

def LSInv (w wr : World) (b : Nat) (f : Nat → Nat) (nd P T : Nat) (dp : Int) (ng tr : Bool) (q : Nat) : Prop :=
  ∃ f', DecF wr b f' nd dp ng (tr || dropB P T q) ∧ (∀ i, i + q < nd → f' i = f i) ∧ putD f' P T q ∧ OnlyB b w wr

theorem lsInv_in {w wr : World} {b : Nat} {f : Nat → Nat} {nd P T : Nat} {dp : Int} {ng tr : Bool} {q : Nat} (h : LSInv w wr b f nd P T dp ng tr q) (hq : q < T) (hT : nd ≤ T) (hw : T - (q + 1) < 800) :
    LSInv w (wr.setCell ⟨b, T - (q + 1), none⟩ (.int .u8 (48 + P / 10 ^ q % 10 : Nat))) b f nd P T dp ng tr (q + 1) := by
  obtain ⟨f', h1, h2, h3, h4⟩ := h
  refine ⟨upd f' (T - (q + 1)) (48 + P / 10 ^ q % 10), ?_, fun i hi => ?_, fun j hj h5 h6 => ?_, h4.set _ _⟩
  · rw [dropB_in hw]; exact h1.setD hw _
  · rw [upd_other _ _ (by omega)]; exact h2 i (by omega)
  · by_cases e : j = T - (q + 1)
    · subst e; rw [upd_same, show T - 1 - (T - (q + 1)) = q by omega]
    · rw [upd_other _ _ e]; exact h3 j hj (by omega) h6

theorem lsInv_out0 {w wr : World} {b : Nat} {f : Nat → Nat} {nd P T : Nat} {dp : Int} {ng tr : Bool} {q : Nat} (h : LSInv w wr b f nd P T dp ng tr q) (hw : ¬ T - (q + 1) < 800) (h0 : P / 10 ^ q % 10 = 0) :
    LSInv w wr b f nd P T dp ng tr (q + 1) := by
  obtain ⟨f', h1, h2, h3, h4⟩ := h
  refine ⟨f', ?_, fun i hi => h2 i (by omega), fun j hj h5 h6 => ?_, h4⟩
  · rw [dropB_out hw, h0]; simpa using h1
  · exact absurd hj (by omega)
theorem lsInv_out1 {w wr : World} {b : Nat} {f : Nat → Nat} {nd P T : Nat} {dp : Int} {ng tr : Bool} {q : Nat} (h : LSInv w wr b f nd P T dp ng tr q) (hw : ¬ T - (q + 1) < 800) (h0 : P / 10 ^ q % 10 ≠ 0) :
    LSInv w (wr.setCell ⟨b, 803, none⟩ (.bool true)) b f nd P T dp ng tr (q + 1) := by
  obtain ⟨f', h1, h2, h3, h4⟩ := h
  refine ⟨f', ?_, fun i hi => h2 i (by omega), fun j hj h5 h6 => ?_, h4.set _ _⟩
  · rw [dropB_out hw, decide_eq_true h0, Bool.or_true, Bool.or_true]; exact h1.setTr true
  · exact absurd hj (by omega)

def ShiftEnd (w : World) (b P T : Nat) (dp : Int) (ng tr : Bool) (e : Ending) (w' : World) : Prop :=
  e = .returned (.tuple #[]) ∧ ∃ f', DecF w' b f' (shRes P T).1 (dpT (shRes P T).1 dp) ng (tr || decide (P % 10 ^ (T - 800) ≠ 0)) ∧ dgs f' (shRes P T).1 (shRes P T).2 ∧ OnlyB b w w'

theorem cheat_row (k : Nat) (h1 : 1 ≤ k) (h2 : k ≤ 60) : cheatOk k (Go.Pinned.cheatRows.getD k (0, [])) = true := by
  have := List.all_eq_true.1 cheats_ok (k - 1) (List.mem_range.2 (by omega))
  rwa [show k - 1 + 1 = k by omega] at this

end Go.Proofs.YtdencljnbilchaaGreatDoor

namespace Go.Proofs.YtdencljnbilchaaGreatDoor
open Go.RowKit

theorem quiet_ex {P : Program} {f : FuncId} {args : Array Value} {w : World} {n : Nat} {v : Value}
    (h : Calls P f args (w.drewN n) fun e w' => e = .returned v ∧ ∃ m, w' = (w.drewN n).drewN m) : Calls P f args (w.drewN n) fun e w'' => e = .returned v ∧ ∃ m, w'' = w.drewN m :=
  h.mono fun _ _ ⟨he, m, hm⟩ => ⟨he, n + m, by rw [hm, World.drewN_drewN]⟩

theorem slice_dec (W : World) (b nd : Nat) (hn : nd ≤ 800) : Sem.run Tryz.prog (Instr.sliceAt 133 (.pointer (some ⟨b, 0, none⟩)) (some (.int .i64 0)) (some (.int .i64 nd)) none) W = .ok (.slice (some ⟨b, 0, none⟩) nd 800) W := by
  have h2 : Tryz.prog.arrayLen 133 = 800 := by kernel_rfl
  have h3 : Tryz.prog.elem 133 = 5 := by kernel_rfl
  have h := run_sliceAt_array_lh (P := Tryz.prog) W 133 ⟨b, 0, none⟩ (by rw [h2, h3]; exact Tryz.underlying133) .i64 .i64 0 nd (by omega) (by omega) (by rw [h2]; omega)
  rw [h, h2, h3]
  obtain ⟨i0, hi0, hz0, hz1, hz2⟩ := info_parts Tryz.info_u8
  simp [go_sem, slicedAt, sizeOf, typeInfo, hi0, Addr.add]

theorem two_pow_le (k : Nat) (hk : k ≤ 60) : 2 ^ k ≤ 1152921504606846976 := by
  have := Nat.pow_le_pow_right (n := 2) (by decide) hk
  simpa using this

/-- What a round of the first loop reckons. -/
theorem ls_round (M k q : Nat) (hk : k ≤ 60) : ∃ dq A C N rm : Nat, M / 10 ^ q % 10 = dq ∧ dq ≤ 9 ∧ dq * 2 ^ k = A ∧ A ≤ 10376293541461622784 ∧ carry M k q = C ∧ C < 1152921504606846976 ∧ C + A = N ∧ M * 2 ^ k / 10 ^ q % 10 = rm ∧ rm ≤ 9 ∧
    (N : Int) - 10 * ((N : Int) / 10) = rm ∧ carry M k (q + 1) = N / 10 := by
  have h2 := two_pow_le k hk
  have h3 := carry_lt M k q
  have hd : M / 10 ^ q % 10 ≤ 9 := by omega
  have hA : M / 10 ^ q % 10 * 2 ^ k ≤ 9 * 1152921504606846976 := Nat.mul_le_mul hd h2
  have hr := carry_rem M k q
  have hq := carry_quo M k q
  refine ⟨_, _, _, _, _, rfl, hd, rfl, by omega, rfl, by omega, rfl, rfl, by omega, ?_, hq.symm⟩
  omega

set_option maxRecDepth 100000 in
set_option maxHeartbeats 8000000 in
theorem leftShift_any (w : World) (b : Nat) (f : Nat → Nat) (nd M k : Nat) (dp : Int) (ng tr : Bool) (hG : LaidG w) (hn : nd ≤ 800) (hn1 : 1 ≤ nd) (hk1 : 1 ≤ k) (hk : k ≤ 60) (hD : DecF w b f nd dp ng tr) (hM : dgs f nd M) (hM0 : 10 ^ (nd - 1) ≤ M)
    (hp1 : -1000000000 ≤ dp) (hp2 : dp ≤ 1000000000) :
    Calls Tryz.prog 126 #[.pointer (some ⟨b, 0, none⟩), .int .u64 k] w (ShiftEnd w b (M * 2 ^ k) (nD (M * 2 ^ k)) (dp + nD (M * 2 ^ k) - nd) ng tr) := by
  have hrow := cheat_row k hk1 hk
  obtain ⟨B, o, cap, g1, g2⟩ := hG.ch
  have g3 := g2 k (by omega)
  generalize Go.Pinned.cheatRows.getD k (0, []) = row at hrow g3
  obtain ⟨delta, cut⟩ := row
  simp only [cheatOk, Bool.and_eq_true, decide_eq_true_eq, List.all_eq_true, List.mem_range] at hrow
  obtain ⟨⟨⟨⟨⟨⟨r1, r2⟩, r3⟩, r4⟩, r5⟩, r6⟩, r7⟩ := hrow
  have hC : Cheat k delta cut.length := ⟨r1, r2, r3, r4⟩
  have hless := cheat_less (M := M) (nd := nd) hC
  obtain ⟨t1, t2, t3, t4⟩ := lenP_bd hC hM.1 hM0 hn1
  have hT := nD_of _ _ t2 t1 (by omega)
  have hcut : (⟨cut.toArray⟩ : ByteArray).size = cut.length := by simp [ByteArray.size]
  have hpre := fun W (hDW : DecF W b f nd dp ng tr) => prefixLess_any W b 800 f nd M (5 ^ k) dp ng tr ⟨cut.toArray⟩ hn (by omega) hDW hM
    (fun i h => by
      have := r7 i (by omega)
      rw [hcut]
      rw [← this, List.getD_eq_getElem?_getD, List.getElem?_eq_getElem (by omega)]; rfl)
    (by rw [hcut]; exact r5) (fun _ => pow5_mod k hk1)
  rw [hcut, hless] at hpre
  have hdelta : delta ≤ 61 := by omega
  obtain ⟨L1, L2⟩ := g3
  rw [Nat.mul_comm 2 k] at L1 L2
  dsimp only at L1 L2
  have HP := Lib.hid hpre
  have HD := Lib.hid hD
  have HM := Lib.hid hM
  have c0 := hD.nd
  have HB := Lib.hid (OnlyB.refl b w)
  have I0 : Hid (LSInv w w b f nd (M * 2 ^ k) (nD (M * 2 ^ k)) dp ng tr 0) := ⟨f, by rw [dropB_zero, Bool.or_false]; exact hD, fun i _ => rfl, putD_zero _ _ _, OnlyB.refl b w⟩
  clear hpre hG g2 r1 r3 r4 r5 r6 r7 hC hcut hless hD hM hM0
  have key : ∃ (D : Nat) (lb : Bool), nD (M * 2 ^ k) = nd + D ∧ decide (M * 2 ^ k < 10 ^ (nd + delta - 1)) = lb ∧ D ≤ 61 ∧ ((lb = true ∧ delta = D + 1) ∨ (lb = false ∧ delta = D)) := by
    rw [hT]
    unfold lenP
    by_cases hl : M * 2 ^ k < 10 ^ (nd + delta - 1)
    · rw [if_pos hl]; exact ⟨delta - 1, true, by omega, decide_eq_true hl, by omega, .inl ⟨rfl, by omega⟩⟩
    · rw [if_neg hl]; exact ⟨delta, false, rfl, decide_eq_false hl, by omega, .inr ⟨rfl, rfl⟩⟩
  obtain ⟨D, lb, hTD, hlb, hD61, hcase⟩ := key
  rw [hT] at hTD
  rw [hTD] at t1 t2 t3 t4 hT
  rw [hT] at I0 ⊢
  rw [hlb] at HP
  have HT1 := Lib.hid t1
  have HT2 := Lib.hid t2
  clear hT hTD hlb t1 t2 t3 t4
  obtain ⟨P, eP⟩ : ∃ P, M * 2 ^ k = P := ⟨_, rfl⟩
  rw [eP] at I0 HT1 HT2 ⊢
  have EP := Lib.hid eP
  clear eP
  rcases hcase with ⟨rfl, rfl⟩ | ⟨rfl, hde⟩
  rotate_left
  obtain rfl : D = delta := hde.symm
  rotate_left
  all_goals
    go_enter Tryz.func126, Tryz.ntmps126
    go_wp2
    have SD := fun W => slice_dec W b nd hn
    go_quiet ((go_at_call 138; exact quiet_ex (HP.out _ (HD.out.drewN _))))
    go_wp2
    go_loopg [5, 6, 7] nd (fun g r x n wr => g ≤ nd ∧ r = .int .i64 ((g : Int) - 1) ∧ x = .int .i64 ((g : Int) + D) ∧ n = .int .u64 (carry M k (nd - g)) ∧ Hid (LSInv w wr b f nd P (nd + D) dp ng tr (nd - g)))
    case atStart => exact ⟨Nat.le_refl _, rfl, rfl, by rw [Nat.sub_self, carry_zero]; rfl, by rw [Nat.sub_self]; obtain ⟨f', h1, h2, h3, h4⟩ := I0.out; exact ⟨f', h1.drewN _, h2, h3, h4.drewN _⟩⟩
    case round =>
      obtain ⟨hg, rfl, rfl, rfl, HI⟩ := hrel
      clear I0
      cases gk with
      | zero =>
        rw [show ((0 : Nat) : Int) - 1 = -1 from rfl, show ((0 : Nat) : Int) + (D : Int) = D by omega, Nat.sub_zero]
        rw [Nat.sub_zero] at HI
        have hc0 : carry M k nd = P / 10 ^ nd := by rw [carry_all HM.out.1, EP.out]
        have hc1 := carry_lt M k nd
        have hc2 := two_pow_le k hk
        rw [hc0] at hc1 ⊢
        clear hc0
        go_wp2
        go_loopg [6, 7] D (fun g x n wr => g ≤ D ∧ x = .int .i64 (g : Int) ∧ n = .int .u64 (P / 10 ^ (nd + D - g) : Nat) ∧ P / 10 ^ (nd + D - g) < 1152921504606846976 ∧ Hid (LSInv w wr b f nd P (nd + D) dp ng tr (nd + D - g)))
        case atStart => exact ⟨Nat.le_refl _, rfl, by rw [Nat.add_sub_cancel], by rw [Nat.add_sub_cancel]; omega, by rw [Nat.add_sub_cancel]; exact HI⟩
        case round =>
          obtain ⟨hg2, rfl, rfl, hN, HI2⟩ := hrel
          clear HI hc1 hc2
          obtain ⟨N, eN⟩ : ∃ N, P / 10 ^ (nd + D - gk) = N := ⟨_, rfl⟩
          rw [eN] at hN ⊢
          by_cases hN0 : N = 0
          · have hlt : P < 10 ^ (nd + D - gk) := by
              rcases Nat.lt_or_ge P (10 ^ (nd + D - gk)) with h | h
              · exact h
              · have := Nat.div_pos h (p10_pos _); omega
            have hg0 : gk = 0 := by
              rcases Nat.eq_zero_or_pos gk with h | h
              · exact h
              · have h3 := Nat.pow_le_pow_right (n := 10) (by decide) (show nd + D - gk ≤ nd + D - 1 by omega)
                have := HT2.out
                omega
            subst hg0 hN0
            rw [Nat.sub_zero] at HI2
            have HI3 := HI2
            obtain ⟨f', h1, h2, h3, h4⟩ := HI3.out
            rw [dropB_all (by omega)] at h1
            have hdg := putD_dgs h3 HT1.out
            obtain ⟨tr', et⟩ : ∃ tr', (tr || decide (P % 10 ^ (nd + D - 800) ≠ 0)) = tr' := ⟨_, rfl⟩
            have c800 := h1.nd
            have c801 := h1.dp
            have z800 := h1.fz 800
            have z801 := h1.fz 801
            have HD2 := Lib.hid h1
            have HDG := Lib.hid hdg
            have H4 := Lib.hid h4
            clear HI2 HI3 h1 h2 h3 h4 hdg hlt eN hN et
            by_cases h8 : nd + D < 800
            · have h8I : (nd : Int) + D < 800 := by omega
              have hmin := Nat.min_eq_left (show nd + D ≤ 800 by omega)
              have HDG2 := Lib.hid (hmin ▸ HDG.out)
              have HMN := Lib.hid hmin
              clear hmin
              go_wp2_with (go_at_call 125; refine (trim_any _ b f' (nd + D) (P / 10 ^ (nd + D - 800)) (dp + D) ng _ (by omega) (by rw [show ((nd + D : Nat) : Int) = (nd : Int) + D by omega]; exact (HD2.out.setNd _).setDp _) HDG2.out).mono ?_; rintro e w' ⟨rfl, t1, t2, t3⟩)
              go_end0
              refine ⟨rfl, f', ?_, ?_, (((H4.out.set _ _).set _ _)).trans t3⟩
              · rw [shRes, HMN.out, show dp + ((nd + D : Nat) : Int) - nd = dp + D by omega]; exact t1
              · rw [shRes, HMN.out]; exact t2
            · have h8I : ¬ (nd : Int) + D < 800 := by omega
              have hmin := Nat.min_eq_right (show 800 ≤ nd + D by omega)
              have HDG2 := Lib.hid (hmin ▸ HDG.out)
              have HMN := Lib.hid hmin
              clear hmin
              go_wp2_with (go_at_call 125; refine (trim_any _ b f' 800 (P / 10 ^ (nd + D - 800)) (dp + D) ng _ (by omega) (by first | exact ((HD2.out.setNd _).setNd _).setDp _ | exact (HD2.out.setNd _).setDp _) HDG2.out).mono ?_; rintro e w' ⟨rfl, t1, t2, t3⟩)
              go_end0
              refine ⟨rfl, f', ?_, ?_, (((H4.out.set _ _).set _ _).set _ _).trans t3⟩
              · rw [shRes, HMN.out, show dp + ((nd + D : Nat) : Int) - nd = dp + D by omega]; exact t1
              · rw [shRes, HMN.out]; exact t2
          · cases gk with
            | zero =>
              exact absurd eN (by rw [Nat.sub_zero, Nat.div_eq_of_lt HT1.out]; omega)
            | succ g =>
              obtain ⟨rm, hrm⟩ : ∃ rm, N % 10 = rm := ⟨_, rfl⟩
              have hr9 : rm ≤ 9 := by omega
              have hrI : (N : Int) - 10 * ((N : Int) / 10) = rm := by omega
              have hNp : 0 < (N : Int) := by omega
              have hqd : P / 10 ^ (nd + D - g) = N / 10 := by
                rw [show nd + D - g = nd + D - (g + 1) + 1 by omega, Nat.pow_succ, ← Nat.div_div_eq_div_mul, eN]
              have hrq : P / 10 ^ (nd + D - (g + 1)) % 10 = rm := by rw [eN, hrm]
              have HE := Lib.hid (And.intro hrq hqd)
              rw [show ((g + 1 : Nat) : Int) = (g : Int) + 1 by omega]
              clear eN hrm hqd hrq
              have hw : g < 800 := by omega
              have hwI : (g : Int) < 800 := by omega
              obtain ⟨v0, hst⟩ : ∃ v0, wr.cell? ⟨b, g, none⟩ = some v0 := by obtain ⟨f', h1, _, _, _⟩ := HI2.out; exact ⟨_, h1.d _ (by omega)⟩
              have hfz : wr.frozen? ⟨b, g, none⟩ = false := by obtain ⟨f', h1, _, _, _⟩ := HI2.out; exact h1.fz _
              go_wp2
              go_roundg g
              case measure => omega
              case rel =>
                obtain ⟨a1, a2⟩ := HE.out
                refine ⟨by omega, by go_num, by rw [a2]; go_num, by rw [a2]; omega, ?_⟩
                have h := lsInv_in HI2.out (by omega) (by omega) (by omega)
                rw [a1, show nd + D - (nd + D - (g + 1) + 1) = g by omega, show nd + D - (g + 1) + 1 = nd + D - g by omega] at h
                have e : ((48 + rm : Nat) : Int) = (rm : Int) + 48 := by omega
                rw [e] at h
                exact h
      | succ g =>
        obtain ⟨dq, A, C, N, rm, e1, e2, e3, e4, e5, e6, e7, e8, e9, e10, e11⟩ := ls_round M k (nd - (g + 1)) hk
        rw [show ((g + 1 : Nat) : Int) - 1 = g by omega, show ((g + 1 : Nat) : Int) + (D : Int) = (g : Int) + D + 1 by omega, e5]
        have hcell : wr.cell? ⟨b, g, none⟩ = some (.int .u8 ((dq : Int) + 48)) := by
          obtain ⟨f', h1, h2, h3, h4⟩ := HI.out
          have := h1.d g (by omega)
          rw [h2 g (by omega), HM.out.2 g (by omega), show nd - 1 - g = nd - (g + 1) by omega, e1] at this
          rw [this]; congr 2; omega
        have i3 : (dq : Int) * 2 ^ k = A := by rw [← e3]; simp
        have i7 : (C : Int) + A = N := by omega
        have HE := Lib.hid (And.intro e8 e11)
        clear e1 e3 e5 e7 e8 e11
        by_cases hw : g + D < 800
        · have hwI : (g : Int) + D < 800 := by omega
          obtain ⟨v0, hst⟩ : ∃ v0, wr.cell? ⟨b, g + D, none⟩ = some v0 := by obtain ⟨f', h1, _, _, _⟩ := HI.out; exact ⟨_, h1.d _ (by omega)⟩
          have hfz : wr.frozen? ⟨b, g + D, none⟩ = false := by obtain ⟨f', h1, _, _, _⟩ := HI.out; exact h1.fz _
          go_wp2
          go_roundg g
          case measure => omega
          case rel =>
            obtain ⟨a1, a2⟩ := HE.out
            rw [EP.out] at a1
            refine ⟨by omega, by go_num, by go_num, ?_, ?_⟩
            · rw [show nd - g = nd - (g + 1) + 1 by omega, a2]; go_num
            · have h := lsInv_in HI.out (by omega) (by omega) (by omega)
              rw [a1, show nd + D - (nd - (g + 1) + 1) = g + D by omega, show nd - (g + 1) + 1 = nd - g by omega] at h
              have e : ((48 + rm : Nat) : Int) = (rm : Int) + 48 := by omega
              rw [e] at h
              exact h
        · have hwI : ¬ (g : Int) + D < 800 := by omega
          by_cases h0 : rm = 0
          · subst h0
            go_wp2
            go_roundg g
            case measure => omega
            case rel =>
              obtain ⟨a1, a2⟩ := HE.out
              rw [EP.out] at a1
              refine ⟨by omega, by go_num, by go_num, ?_, ?_⟩
              · rw [show nd - g = nd - (g + 1) + 1 by omega, a2]; go_num
              · have h := lsInv_out0 HI.out (by omega) a1
                rw [show nd - (g + 1) + 1 = nd - g by omega] at h
                exact h
          · have b0 : ((rm : Int) != 0) = true := by simp; omega
            obtain ⟨v0, hst⟩ : ∃ v0, wr.cell? ⟨b, 803, none⟩ = some v0 := by obtain ⟨f', h1, _, _, _⟩ := HI.out; exact ⟨_, h1.tr⟩
            have hfz : wr.frozen? ⟨b, 803, none⟩ = false := by obtain ⟨f', h1, _, _, _⟩ := HI.out; exact h1.fz _
            go_wp2
            go_roundg g
            case measure => omega
            case rel =>
              obtain ⟨a1, a2⟩ := HE.out
              rw [EP.out] at a1
              refine ⟨by omega, by go_num, by go_num, ?_, ?_⟩
              · rw [show nd - g = nd - (g + 1) + 1 by omega, a2]; go_num
              · have h := lsInv_out1 HI.out (by omega) (by rw [a1]; exact h0)
                rw [show nd - (g + 1) + 1 = nd - g by omega] at h
                exact h

end Go.Proofs.YtdencljnbilchaaGreatDoor

namespace Go.Proofs.YtdencljnbilchaaGreatDoor
open Go.RowKit

def RSInv (w wr : World) (b : Nat) (f : Nat → Nat) (nd P T r0 : Nat) (dp : Int) (ng tr : Bool) (q : Nat) : Prop :=
  ∃ f', DecF wr b f' nd dp ng (tr || dropQ P T q) ∧ (∀ i, r0 + q ≤ i → i < nd → f' i = f i) ∧ (∀ j, j < q → j < 800 → f' j = 48 + P / 10 ^ (T - 1 - j) % 10) ∧ OnlyB b w wr

section
variable {w wr : World} {b : Nat} {f : Nat → Nat} {nd P T r0 : Nat} {dp : Int} {ng tr : Bool} {q : Nat}
theorem rsInv_in (h : RSInv w wr b f nd P T r0 dp ng tr q) (hr : 1 ≤ r0) (hw : q < 800) :
    RSInv w (wr.setCell ⟨b, q, none⟩ (.int .u8 (48 + P / 10 ^ (T - 1 - q) % 10 : Nat))) b f nd P T r0 dp ng tr (q + 1) := by
  obtain ⟨f', h1, h2, h3, h4⟩ := h
  refine ⟨upd f' q (48 + P / 10 ^ (T - 1 - q) % 10), ?_, fun i hi hi2 => ?_, fun j hj h5 => ?_, h4.set _ _⟩
  · rw [dropQ_in (by omega)]; rw [dropQ_in (by omega)] at h1; exact h1.setD hw _
  · rw [upd_other _ _ (by omega)]; exact h2 i (by omega) hi2
  · by_cases e : j = q
    · subst e; rw [upd_same]
    · rw [upd_other _ _ e]; exact h3 j (by omega) h5
theorem rsInv_out0 (h : RSInv w wr b f nd P T r0 dp ng tr q) (hw : ¬ q < 800) (hT : q < T) (h0 : P / 10 ^ (T - 1 - q) % 10 = 0) : RSInv w wr b f nd P T r0 dp ng tr (q + 1) := by
  obtain ⟨f', h1, h2, h3, h4⟩ := h
  refine ⟨f', ?_, fun i hi => h2 i (by omega), fun j hj h5 => h3 j (by omega) h5, h4⟩
  rw [dropQ_out (by omega) hT, h0]; simpa using h1
theorem rsInv_out1 (h : RSInv w wr b f nd P T r0 dp ng tr q) (hw : ¬ q < 800) (hT : q < T) (h0 : P / 10 ^ (T - 1 - q) % 10 ≠ 0) : RSInv w (wr.setCell ⟨b, 803, none⟩ (.bool true)) b f nd P T r0 dp ng tr (q + 1) := by
  obtain ⟨f', h1, h2, h3, h4⟩ := h
  refine ⟨f', ?_, fun i hi => h2 i (by omega), fun j hj h5 => h3 j (by omega) h5, h4.set _ _⟩
  rw [dropQ_out (by omega) hT, decide_eq_true h0, Bool.or_true, Bool.or_true]; exact h1.setTr true
end

theorem two_pow_le' (k : Nat) (hk : k ≤ 60) : 2 ^ k ≤ 1152921504606846976 := by
  have := Nat.pow_le_pow_right (n := 2) (by decide) hk
  simpa using this

theorem and_mask (n k : Nat) (hk : k ≤ 60) (hn : n < 18446744073709551616) : bits .and .u64 (n : Int) (((2 ^ k : Nat) : Int) - 1) = (n % 2 ^ k : Nat) := by
  have h2 := two_pow_le' k hk
  have hp : 1 ≤ 2 ^ k := Nat.pow_pos (by decide)
  have h := bits_and_u64_nat n (2 ^ k - 1) hn (by omega)
  rw [Nat.and_two_pow_sub_one_eq_mod] at h
  rw [← h]; congr 1; omega

/-- What a round reckons: the digit, the rest. -/
theorem rs_round (X k K2 : Nat) (hk : k ≤ 60) (hK : 2 ^ k = K2) (hX : X < 10 * K2) : ∃ D R : Nat, X / K2 = D ∧ X % K2 = R ∧ D ≤ 9 ∧ R < K2 ∧ K2 ≤ 1152921504606846976 ∧ (X : Int) / (K2 : Int) = D ∧ bits .and .u64 (X : Int) ((K2 : Int) - 1) = (R : Int) := by
  have hp : 0 < K2 := by rw [← hK]; exact Nat.pow_pos (by decide)
  have h2 : K2 ≤ 1152921504606846976 := by rw [← hK]; exact two_pow_le' k hk
  refine ⟨_, _, rfl, rfl, ?_, Nat.mod_lt _ hp, h2, by simp, ?_⟩
  · have : X / K2 < 10 := by rw [Nat.div_lt_iff_lt_mul hp]; exact hX
    omega
  · have h := and_mask X k hk (by omega)
    rw [hK] at h
    exact h

set_option maxRecDepth 100000 in
set_option maxHeartbeats 8000000 in
theorem rightShift_any (w : World) (b : Nat) (f : Nat → Nat) (nd M k : Nat) (dp : Int) (ng tr : Bool) (hn : nd ≤ 800) (hn1 : 1 ≤ nd) (hk1 : 1 ≤ k) (hk : k ≤ 60) (hD : DecF w b f nd dp ng tr) (hM : dgs f nd M) (hM0 : 0 < M)
    (hp1 : -1000000000 ≤ dp) (hp2 : dp ≤ 1000000000) :
    Calls Tryz.prog 127 #[.pointer (some ⟨b, 0, none⟩), .int .u64 k] w (ShiftEnd w b (M * 5 ^ k) (nD (M * 5 ^ k)) (dp + nD (M * 5 ^ k) - nd - k) ng tr) := by
  obtain ⟨r0, hS⟩ := start_ex k hM.1 hM0
  obtain ⟨hr, hT, hPT⟩ := hS.len hM0
  obtain ⟨T, eT⟩ : ∃ T, nD (M * 5 ^ k) = T := ⟨_, rfl⟩
  rw [eT] at hT ⊢
  rw [← hT] at hPT
  obtain ⟨K2, eK⟩ : ∃ K2 : Nat, 2 ^ k = K2 := ⟨_, rfl⟩
  have hKle : K2 ≤ 1152921504606846976 := eK ▸ two_pow_le' k hk
  have hKp : 1 ≤ K2 := by rw [← eK]; exact Nat.pow_pos (by decide)
  have iK : (2 : Int) ^ k = K2 := by rw [← eK]; simp
  have HS := Lib.hid hS
  have HD := Lib.hid hD
  have HM := Lib.hid hM
  have HT := Lib.hid hT
  have HPT := Lib.hid hPT
  have HK := Lib.hid eK
  have HA0 := Lib.hid (preA_zero hM.1)
  have HAin := Lib.hid (fun r (h : r < nd) => preA_succ_in (M := M) h)
  have HAout := Lib.hid (fun r (h : nd ≤ r) => preA_succ_out (M := M) h)
  have HAnd := Lib.hid (preA_nd M nd)
  have HLT := Lib.hid hS.lt
  have hr01 := hS.pos
  have c800 := hD.nd
  clear hS hD hM hT hPT eT eK
  go_enter Tryz.func127, Tryz.ntmps127
  go_upto_block 0 with (fail)
  go_cut [4, 6] (fun r n wx => r = .int .i64 r0 ∧ n = .int .u64 (preA M nd r0) ∧ wx = w)
  case first =>
    go_wp2
    go_loopg [4, 6] nd (fun g r n wx => ∃ q : Nat, g + q = nd ∧ q ≤ r0 ∧ r = .int .i64 q ∧ n = .int .u64 (preA M nd q) ∧ wx = w)
    case atStart => exact ⟨0, by omega, by omega, rfl, by rw [HA0.out]; rfl, rfl⟩
    case round =>
      obtain ⟨q, hgq, hq, rfl, rfl, rfl⟩ := hrel
      by_cases he : q = r0
      · have hge := HS.out.at_
        rw [HK.out] at hge
        subst he
        obtain ⟨A, eA⟩ : ∃ A, preA M nd q = A := ⟨_, rfl⟩
        rw [eA] at hge ⊢
        have bt : ((A : Int) / (K2 : Int) == 0) = false := by
          refine beq_eq_false_iff_ne.2 ?_
          have : 1 ≤ A / K2 := Nat.div_pos hge hKp
          have e : ((A / K2 : Nat) : Int) = (A : Int) / K2 := by simp
          omega
        clear hge
        go_wp2
        go_meet
        exact ⟨rfl, by rw [eA], rfl⟩
      · have hlt := HS.out.before q (by omega)
        rw [HK.out] at hlt
        obtain ⟨A, eA⟩ : ∃ A, preA M nd q = A := ⟨_, rfl⟩
        rw [eA] at hlt ⊢
        have bt : ((A : Int) / (K2 : Int) == 0) = true := by
          refine beq_iff_eq.2 ?_
          have : A / K2 = 0 := Nat.div_eq_of_lt hlt
          have e : ((A / K2 : Nat) : Int) = (A : Int) / K2 := by simp
          omega
        by_cases hin : q < nd
        · obtain ⟨d, ed⟩ : ∃ d, M / 10 ^ (nd - 1 - q) % 10 = d := ⟨_, rfl⟩
          have hd9 : d ≤ 9 := by omega
          have hstep := HAin.out q hin
          rw [eA, ed] at hstep
          have hcell : wr.cell? ⟨b, q, none⟩ = some (.int .u8 ((d : Int) + 48)) := by
            have h1 := HD.out.d q (by omega)
            rw [HM.out.2 q hin, ed] at h1
            rw [h1]; congr 2; omega
          have hN : (A : Int) * 10 + ((d : Int) + 48) - 48 = (A : Int) * 10 + d := by omega
          have HE := Lib.hid hstep
          clear eA ed hstep
          go_wp2
          go_roundg (nd - (q + 1))
          case measure => omega
          case rel => exact ⟨q + 1, by omega, by omega, by go_num, by rw [HE.out]; go_num, rfl⟩
        · have hqn : q = nd := by omega
          subst hqn
          have hA : A = M := by rw [← eA]; exact HAnd.out
          subst hA
          have bz : ((A : Int) == 0) = false := beq_eq_false_iff_ne.2 (by omega)
          have HEA := Lib.hid eA
          clear eA hgq
          go_wp2
          go_loopg [4, 6] (r0 - q) (fun g r n wx => ∃ p : Nat, q ≤ p ∧ g + p = r0 ∧ r = .int .i64 p ∧ n = .int .u64 (preA A q p) ∧ wx = wr)
          case atStart => exact ⟨q, by omega, by omega, rfl, by rw [HEA.out], rfl⟩
          case round =>
            obtain ⟨p, hqp, hgp, rfl, rfl, rfl⟩ := hrel
            clear bt bz hlt
            by_cases he2 : p = r0
            · have hge := HS.out.at_
              rw [HK.out] at hge
              subst he2
              obtain ⟨B, eB⟩ : ∃ B, preA A q p = B := ⟨_, rfl⟩
              rw [eB] at hge ⊢
              have bt : ((B : Int) / (K2 : Int) == 0) = false := by
                refine beq_eq_false_iff_ne.2 ?_
                have : 1 ≤ B / K2 := Nat.div_pos hge hKp
                have e : ((B / K2 : Nat) : Int) = (B : Int) / K2 := by simp
                omega
              clear hge
              go_wp2
              go_meet
              exact ⟨rfl, by rw [eB], rfl⟩
            · have hlt := HS.out.before p (by omega)
              rw [HK.out] at hlt
              obtain ⟨B, eB⟩ : ∃ B, preA A q p = B := ⟨_, rfl⟩
              have hstep := HAout.out p hqp
              rw [eB] at hlt hstep ⊢
              have bt : ((B : Int) / (K2 : Int) == 0) = true := by
                refine beq_iff_eq.2 ?_
                have : B / K2 = 0 := Nat.div_eq_of_lt hlt
                have e : ((B / K2 : Nat) : Int) = (B : Int) / K2 := by simp
                omega
              have HE := Lib.hid hstep
              clear eB hstep
              go_wp2
              go_roundg (r0 - (p + 1))
              case measure => omega
              case rel => exact ⟨p + 1, by omega, by omega, by go_num, by rw [HE.out]; go_num, rfl⟩
  case rest =>
    obtain ⟨rfl, rfl, rfl⟩ := hcut
    obtain ⟨N, eN⟩ : ∃ N, preA M nd r0 = N := ⟨_, rfl⟩
    have hNlt := HLT.out
    rw [HK.out, eN] at hNlt
    have hTr : T = nd + k - r0 + 1 := HT.out
    have c801 := HD.out.dp
    have z801 := HD.out.fz 801
    have hmask := and_mask
    have hPT2 : M * 5 ^ k < 10 ^ T := HPT.out
    obtain ⟨P, eP⟩ : ∃ P, M * 5 ^ k = P := ⟨_, rfl⟩
    rw [eP] at hPT2
    have EP := Lib.hid eP
    have hdq := fun q (h : q < T) => quo_digit (M := M) (q := q) hTr hr h
    have hre := fun q (h : T ≤ q) => rest_end (M := M) (q := q) hTr hr h
    have hrz := fun q (h1 : q ≤ T) h2 h3 => rest_zero (M := M) (q := q) hTr hr h1 h2 h3
    rw [eP] at hdq hrz
    have HDQ := Lib.hid hdq
    have HRE := Lib.hid hre
    have HRZ := Lib.hid hrz
    have HRI := Lib.hid (fun r (h : r < nd) => rest_in (M := M) (k := k) h)
    have HRO := Lib.hid (fun r (h : nd ≤ r) => rest_out (M := M) (k := k) h)
    have HP2 := Lib.hid hPT2
    have HN := Lib.hid eN
    have HB := Lib.hid (OnlyB.refl b wc)
    have HTR := Lib.hid hTr
    obtain ⟨dp2, edp⟩ : ∃ dp2, dp - ((r0 : Int) - 1) = dp2 := ⟨_, rfl⟩
    have hdp2 : dp + (T : Int) - nd - k = dp2 := by omega
    have I0 : Hid (RSInv wc (wc.setCell ⟨b, 801, none⟩ (.int .i64 dp2)) b f nd P T r0 dp2 ng tr 0) := ⟨f, by rw [dropQ_in (by omega), Bool.or_false]; exact HD.out.setDp dp2, fun i _ _ => rfl, fun j hj => absurd hj (by omega), HB.out.set _ _⟩
    have HDP := Lib.hid hdp2
    rw [eN]
    clear hdq hre hrz hPT2 eP eN hTr hmask hdp2
    go_wp2
    clear edp
    go_loopg [4, 5, 6] (nd - r0) (fun g r x n wr => ∃ q X : Nat, g = nd - (r0 + q) ∧ (q = 0 ∨ r0 + q ≤ nd) ∧ r = .int .i64 ((r0 + q : Nat) : Int) ∧ x = .int .i64 q ∧ n = .int .u64 X ∧ X < 10 * K2 ∧ Hid (preA M nd (r0 + q) % (10 * 2 ^ k) = X) ∧ Hid (RSInv wc wr b f nd P T r0 dp2 ng tr q))
    case atStart => exact ⟨0, N, by omega, .inl rfl, rfl, rfl, rfl, hNlt, by unfold Hid; rw [Nat.add_zero, HN.out, HK.out, Nat.mod_eq_of_lt hNlt], I0⟩
    case round =>
      obtain ⟨q, X, hg, hq, rfl, rfl, rfl, hX, HX, HI⟩ := hrel
      clear I0 hNlt
      have c800 : wr.cell? ⟨b, 800, none⟩ = some (.int .i64 nd) := by obtain ⟨f', h1, _, _, _⟩ := HI.out; exact h1.nd
      by_cases hin : r0 + q < nd
      · have hq8 : q < 800 := by omega
        have hqT : q < T := by have := HTR.out; omega
        obtain ⟨D, R, e1, e2, hD9, hR, hK2, iD, iR⟩ := rs_round X k K2 hk HK.out hX
        obtain ⟨d, ed⟩ : ∃ d, M / 10 ^ (nd - 1 - (r0 + q)) % 10 = d := ⟨_, rfl⟩
        have hd9 : d ≤ 9 := by omega
        have hcell : wr.cell? ⟨b, r0 + q, none⟩ = some (.int .u8 ((d : Int) + 48)) := by
          obtain ⟨f', h1, h2, _, _⟩ := HI.out
          have h1 := h1.d (r0 + q) (by omega)
          rw [h2 (r0 + q) (Nat.le_refl _) hin, HM.out.2 (r0 + q) hin, ed] at h1
          rw [h1]; congr 2; omega
        obtain ⟨v0, hst⟩ : ∃ v0, wr.cell? ⟨b, q, none⟩ = some v0 := by obtain ⟨f', h1, _, _, _⟩ := HI.out; exact ⟨_, h1.d _ hq8⟩
        have hfz : wr.frozen? ⟨b, q, none⟩ = false := by obtain ⟨f', h1, _, _, _⟩ := HI.out; exact h1.fz _
        have hN : (R : Int) * 10 + ((d : Int) + 48) - 48 = (R : Int) * 10 + d := by omega
        have HX2 : Hid (preA M nd (r0 + (q + 1)) % (10 * 2 ^ k) = R * 10 + d) := by
          have h := HRI.out (r0 + q) hin
          rw [HX.out, ed, HK.out, e2] at h
          unfold Hid; rw [← Nat.add_assoc, HK.out]; exact h
        have HI2 : Hid (RSInv wc (wr.setCell ⟨b, q, none⟩ (.int .u8 ((D : Int) + 48))) b f nd P T r0 dp2 ng tr (q + 1)) := by
          have h := rsInv_in HI.out hr01 hq8
          have h2 := HDQ.out q hqT
          rw [HX.out, HK.out, e1] at h2
          rw [← h2, show ((48 + D : Nat) : Int) = (D : Int) + 48 by omega] at h
          exact h
        rw [show ((r0 + q : Nat) : Int) = (r0 : Int) + q by omega]
        clear e1 e2 ed HX HI
        go_wp2
        go_roundg (nd - (r0 + (q + 1)))
        case measure => omega
        case rel => exact ⟨q + 1, R * 10 + d, rfl, .inr (by omega), by go_num, by go_num, by go_num, by omega, HX2, HI2⟩
      · have hqT0 : q ≤ T := by have := HTR.out; omega
        rw [show ((r0 + q : Nat) : Int) = (r0 : Int) + q by omega]
        have hq800 : q ≤ 800 := by omega
        have hqn : nd ≤ r0 + q := by omega
        go_wp2
        go_loopg [5, 6] (T - q) (fun g x n wr => ∃ q X : Nat, g + q = T ∧ nd ≤ r0 + q ∧ x = .int .i64 ((min q 800 : Nat) : Int) ∧ n = .int .u64 X ∧ X < 10 * K2 ∧ Hid (preA M nd (r0 + q) % (10 * 2 ^ k) = X) ∧ Hid (RSInv wc wr b f nd P T r0 dp2 ng tr q))
        case atStart => exact ⟨q, X, by omega, hqn, by rw [Nat.min_eq_left hq800], rfl, hX, HX, HI⟩
        case round =>
          clear hq hin hqT0 hq800 hqn HI HX hX c800
          obtain ⟨q2, X2, hg2, hqn2, rfl, rfl, hX2, HX2, HI2⟩ := hrel
          have c800 : wr.cell? ⟨b, 800, none⟩ = some (.int .i64 nd) := by obtain ⟨f', h1, _, _, _⟩ := HI2.out; exact h1.nd
          have z800 : wr.frozen? ⟨b, 800, none⟩ = false := by obtain ⟨f', h1, _, _, _⟩ := HI2.out; exact h1.fz _
          by_cases hx0 : X2 = 0
          · subst hx0
            have h0 := HRZ.out q2 (by omega) hqn2 HX2.out
            obtain ⟨f', h1, h2, h3, h4⟩ := HI2.out
            rw [dropQ_all (by omega) h0] at h1
            have hdg := quo_dgs h3 HP2.out (by omega)
            have hsh := shRes_of (by omega) h0
            obtain ⟨m, em⟩ : ∃ m, min q2 800 = m := ⟨_, rfl⟩
            have hm8 : m ≤ 800 := by omega
            rw [em] at hdg hsh ⊢
            have HD2 := Lib.hid h1
            have HDG := Lib.hid hdg
            have HSH := Lib.hid hsh
            have H4 := Lib.hid h4
            clear h0 h1 h2 h3 h4 hdg hsh em HX2 HI2
            go_wp2_with (go_at_call 125; refine (trim_any _ b f' m (P / 10 ^ (T - m)) dp2 ng _ hm8 (HD2.out.setNd _) HDG.out).mono ?_; rintro e w' ⟨rfl, t1, t2, t3⟩)
            go_end0
            rw [HSH.out] at t1 t2
            refine ⟨rfl, f', ?_, ?_, (H4.out.set _ _).trans t3⟩
            · rw [EP.out, HDP.out]; exact t1
            · rw [EP.out]; exact t2
          · have hqT : q2 < T := by
              rcases Nat.lt_or_ge q2 T with h | h
              · exact h
              · have := HRE.out q2 h
                rw [HX2.out] at this
                exact absurd this hx0
            obtain ⟨D, R, e1, e2, hD9, hR, hK2, iD, iR⟩ := rs_round X2 k K2 hk HK.out hX2
            have hXp : 0 < (X2 : Int) := by omega
            have hdig := HDQ.out q2 hqT
            rw [HX2.out, HK.out, e1] at hdig
            have HX3 : Hid (preA M nd (r0 + (q2 + 1)) % (10 * 2 ^ k) = R * 10) := by
              have h := HRO.out (r0 + q2) hqn2
              rw [HX2.out, HK.out, e2] at h
              unfold Hid; rw [← Nat.add_assoc, HK.out]; exact h
            have HDI := Lib.hid hdig
            clear e1 e2 HX2 hdig
            by_cases hq8 : q2 < 800
            · obtain ⟨v0, hst⟩ : ∃ v0, wr.cell? ⟨b, q2, none⟩ = some v0 := by obtain ⟨f', h1, _, _, _⟩ := HI2.out; exact ⟨_, h1.d _ hq8⟩
              have hfz : wr.frozen? ⟨b, q2, none⟩ = false := by obtain ⟨f', h1, _, _, _⟩ := HI2.out; exact h1.fz _
              have HI3 : Hid (RSInv wc (wr.setCell ⟨b, q2, none⟩ (.int .u8 ((D : Int) + 48))) b f nd P T r0 dp2 ng tr (q2 + 1)) := by
                have h := rsInv_in HI2.out hr01 hq8
                rw [← HDI.out, show ((48 + D : Nat) : Int) = (D : Int) + 48 by omega] at h
                exact h
              rw [show ((min q2 800 : Nat) : Int) = q2 by omega]
              have hq8I : (q2 : Int) < 800 := by omega
              clear HI2 HDI
              go_wp2
              go_roundg (T - (q2 + 1))
              case measure => omega
              case rel => exact ⟨q2 + 1, R * 10, by omega, by omega, by rw [show min (q2 + 1) 800 = q2 + 1 by omega]; go_num, by go_num, by omega, HX3, HI3⟩
            · rw [show ((min q2 800 : Nat) : Int) = 800 by omega]
              by_cases hD0 : D = 0
              · have HI3 : Hid (RSInv wc wr b f nd P T r0 dp2 ng tr (q2 + 1)) := rsInv_out0 HI2.out hq8 hqT (by rw [← HDI.out]; exact hD0)
                subst hD0
                clear HI2 HDI
                go_wp2
                go_roundg (T - (q2 + 1))
                case measure => omega
                case rel => exact ⟨q2 + 1, R * 10, by omega, by omega, by rw [show min (q2 + 1) 800 = 800 by omega]; rfl, by go_num, by omega, HX3, HI3⟩
              · have HI3 : Hid (RSInv wc (wr.setCell ⟨b, 803, none⟩ (.bool true)) b f nd P T r0 dp2 ng tr (q2 + 1)) := rsInv_out1 HI2.out hq8 hqT (by rw [← HDI.out]; exact hD0)
                obtain ⟨v0, hst⟩ : ∃ v0, wr.cell? ⟨b, 803, none⟩ = some v0 := by obtain ⟨f', h1, _, _, _⟩ := HI2.out; exact ⟨_, h1.tr⟩
                have hfz : wr.frozen? ⟨b, 803, none⟩ = false := by obtain ⟨f', h1, _, _, _⟩ := HI2.out; exact h1.fz _
                have hDp : 0 < (D : Int) := by omega
                clear HI2 HDI
                go_wp2
                go_roundg (T - (q2 + 1))
                case measure => omega
                case rel => exact ⟨q2 + 1, R * 10, by omega, by omega, by rw [show min (q2 + 1) 800 = 800 by omega]; rfl, by go_num, by omega, HX3, HI3⟩

end Go.Proofs.YtdencljnbilchaaGreatDoor

namespace Go.Proofs.YtdencljnbilchaaGreatDoor
open Go.RowKit

def DecS (w : World) (b : Nat) (ng : Bool) (s : DS) : Prop := ∃ f, DecF w b f s.nd s.dp ng s.tr ∧ dgs f s.nd s.M

/-- A call on the decimal in block b that leaves s'. -/
def DecEnd (w : World) (b : Nat) (ng : Bool) (s' : DS) (e : Ending) (w' : World) : Prop := e = .returned (.tuple #[]) ∧ DecS w' b ng s' ∧ OnlyB b w w'

theorem leftShift_s (w : World) (b k : Nat) (ng : Bool) (s : DS) (hG : LaidG w) (hs : s.ok) (hk1 : 1 ≤ k) (hk : k ≤ 60) (hD : DecS w b ng s) (hp1 : -1000000000 ≤ s.dp) (hp2 : s.dp ≤ 1000000000) :
    Calls Tryz.prog 126 #[.pointer (some ⟨b, 0, none⟩), .int .u64 k] w (DecEnd w b ng (shlS s k)) := by
  obtain ⟨f, h1, h2⟩ := hD
  exact (leftShift_any w b f s.nd s.M k s.dp ng s.tr hG hs.2.1 hs.1 hk1 hk h1 h2 hs.2.2.1 hp1 hp2).mono fun e w' ⟨he, f', a, b, c⟩ => ⟨he, ⟨f', a, b⟩, c⟩
theorem rightShift_s (w : World) (b k : Nat) (ng : Bool) (s : DS) (hs : s.ok) (hk1 : 1 ≤ k) (hk : k ≤ 60) (hD : DecS w b ng s) (hp1 : -1000000000 ≤ s.dp) (hp2 : s.dp ≤ 1000000000) :
    Calls Tryz.prog 127 #[.pointer (some ⟨b, 0, none⟩), .int .u64 k] w (DecEnd w b ng (shrS s k)) := by
  obtain ⟨f, h1, h2⟩ := hD
  exact (rightShift_any w b f s.nd s.M k s.dp ng s.tr hs.2.1 hs.1 hk1 hk h1 h2 hs.pos hp1 hp2).mono fun e w' ⟨he, f', a, b, c⟩ => ⟨he, ⟨f', a, b⟩, c⟩

/-- The library's tables lie below the decimal. -/
def Under (w : World) (b : Nat) : Prop := ∃ w0, LaidG w0 ∧ Below w0.heap.size w0 w ∧ w0.heap.size ≤ b
theorem Under.laid {w : World} {b : Nat} (h : Under w b) : LaidG w := by
  obtain ⟨w0, h1, h2, _⟩ := h; exact h1.below h2
theorem Under.on {w w' : World} {b : Nat} (h : Under w b) (hB : OnlyB b w w') : Under w' b := by
  obtain ⟨w0, h1, h2, h3⟩ := h; exact ⟨w0, h1, hB.below_of h2 h3 h2.size, h3⟩

set_option maxHeartbeats 4000000 in
theorem shiftL_any (w : World) (b k : Nat) (ng : Bool) (s : DS) (hU : Under w b) (hs : s.ok) (hk1 : 1 ≤ k) (hk : k ≤ 400000) (hD : DecS w b ng s) (hp1 : -500000000 ≤ s.dp) (hp2 : s.dp ≤ 500000000) :
    Calls Tryz.prog 95 #[.pointer (some ⟨b, 0, none⟩), .int .i64 k] w (DecEnd w b ng (shlR s k)) := by
  have hn1 := hs.1
  have HD := Lib.hid hD
  obtain ⟨f0, hF0, _⟩ := hD
  have c800 := hF0.nd
  have bn : ((s.nd : Int) == 0) = false := beq_eq_false_iff_ne.2 (by omega)
  have bk1 : decide (0 < k) = true := decide_eq_true (by omega)
  have bk2 : decide ((k : Int) < 0) = false := decide_eq_false (by omega)
  have HU := Lib.hid hU
  have HS := Lib.hid hs
  have HB := Lib.hid (OnlyB.refl b w)
  clear hF0 hU hs hn1
  go_enter Tryz.func95, Tryz.ntmps95
  go_wp2
  go_loopg [1] k (fun g kk wr => ∃ s' : DS, 1 ≤ g ∧ g ≤ k ∧ kk = .int .i64 g ∧ Hid (shlR s k = shlR s' g) ∧ Hid s'.ok ∧ s.dp - 500000000 ≤ s'.dp ∧ s'.dp ≤ 500000000 + ((k : Int) - g) ∧ Hid (DecS wr b ng s') ∧ Hid (OnlyB b w wr))
  case atStart => exact ⟨s, hk1, Nat.le_refl _, rfl, rfl, HS, by omega, by omega, HD, HB⟩
  case round =>
    obtain ⟨s', hg1, hgk, rfl, HR, HS', hd1, hd2, HD', HB'⟩ := hrel
    have HU' := Lib.hid (HU.out.on HB'.out)
    by_cases h60 : 60 < gk
    · have hst := shlS_bd HS'.out 60
      have HR2 : Hid (shlR s k = shlR (shlS s' 60) (gk - 60)) := by unfold Hid; rw [HR.out, shlR, if_pos h60]
      have HOK := Lib.hid (shlS_ok HS'.out 60).1
      have hC := leftShift_s wr b 60 ng s' HU'.out.laid HS'.out (by omega) (by omega) HD'.out (by omega) (by omega)
      have HC := Lib.hid hC
      clear hC
      go_wp2_with (go_at_call 126; refine HC.out.mono ?_; rintro e w' ⟨rfl, hD2, hB2⟩)
      go_roundg (gk - 60)
      case measure => omega
      case rel => exact ⟨shlS s' 60, by omega, by omega, by go_num, HR2, HOK, by omega, by omega, hD2, HB'.out.trans hB2⟩
    · have HR2 : Hid (shlR s k = shlS s' gk) := by unfold Hid; rw [HR.out, shlR, if_neg h60]
      have hC := leftShift_s wr b gk ng s' HU'.out.laid HS'.out (by omega) (by omega) HD'.out (by omega) (by omega)
      have HC := Lib.hid hC
      clear hC
      go_wp2_with (go_at_call 126; refine HC.out.mono ?_; rintro e w' ⟨rfl, hD2, hB2⟩)
      go_end0
      rw [HR2.out]
      exact ⟨rfl, hD2, HB'.out.trans hB2⟩

set_option maxHeartbeats 4000000 in
theorem shiftR_any (w : World) (b k : Nat) (ng : Bool) (s : DS) (hs : s.ok) (hk1 : 1 ≤ k) (hk : k ≤ 400000) (hD : DecS w b ng s) (hp1 : -500000000 ≤ s.dp) (hp2 : s.dp ≤ 500000000) :
    Calls Tryz.prog 95 #[.pointer (some ⟨b, 0, none⟩), .int .i64 (-(k : Int))] w (DecEnd w b ng (shrR s k)) := by
  have hn1 := hs.1
  have HD := Lib.hid hD
  obtain ⟨f0, hF0, _⟩ := hD
  have c800 := hF0.nd
  have bn : ((s.nd : Int) == 0) = false := beq_eq_false_iff_ne.2 (by omega)
  have bk1 : decide (0 < k) = true := decide_eq_true (by omega)
  have bk2 : decide ((k : Int) < 0) = false := decide_eq_false (by omega)
  have HS := Lib.hid hs
  have HB := Lib.hid (OnlyB.refl b w)
  clear hF0 hs hn1
  go_enter Tryz.func95, Tryz.ntmps95
  go_wp2
  go_loopg [1] k (fun g kk wr => ∃ s' : DS, 1 ≤ g ∧ g ≤ k ∧ kk = .int .i64 (-(g : Int)) ∧ Hid (shrR s k = shrR s' g) ∧ Hid s'.ok ∧ -500000000 - ((k : Int) - g) ≤ s'.dp ∧ s'.dp ≤ 500000000 ∧ Hid (DecS wr b ng s') ∧ Hid (OnlyB b w wr))
  case atStart => exact ⟨s, hk1, Nat.le_refl _, rfl, rfl, HS, by omega, by omega, HD, HB⟩
  case round =>
    obtain ⟨s', hg1, hgk, rfl, HR, HS', hd1, hd2, HD', HB'⟩ := hrel
    by_cases h60 : 60 < gk
    · have hst := shrS_dp HS'.out 60
      have HR2 : Hid (shrR s k = shrR (shrS s' 60) (gk - 60)) := by unfold Hid; rw [HR.out, shrR, if_pos h60]
      have HOK := Lib.hid (shrS_ok HS'.out 60).1
      have hC := rightShift_s wr b 60 ng s' HS'.out (by omega) (by omega) HD'.out (by omega) (by omega)
      have HC := Lib.hid hC
      clear hC
      go_wp2_with (go_at_call 127; refine HC.out.mono ?_; rintro e w' ⟨rfl, hD2, hB2⟩)
      go_roundg (gk - 60)
      case measure => omega
      case rel => exact ⟨shrS s' 60, by omega, by omega, by go_num, HR2, HOK, by omega, by omega, hD2, HB'.out.trans hB2⟩
    · have HR2 : Hid (shrR s k = shrS s' gk) := by unfold Hid; rw [HR.out, shrR, if_neg h60]
      have hC := rightShift_s wr b gk ng s' HS'.out (by omega) (by omega) HD'.out (by omega) (by omega)
      have HC := Lib.hid hC
      clear hC
      go_wp2_with (go_at_call 127; refine HC.out.mono ?_; rintro e w' ⟨rfl, hD2, hB2⟩)
      go_end0
      rw [HR2.out]
      exact ⟨rfl, hD2, HB'.out.trans hB2⟩

end Go.Proofs.YtdencljnbilchaaGreatDoor
