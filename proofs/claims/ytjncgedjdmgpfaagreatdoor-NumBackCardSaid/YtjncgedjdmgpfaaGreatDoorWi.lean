/- The walk of readFloat, at numerals' bytes. -/
import Derived.Test.YtjncgedjdmgpfaaGreatDoorWa
import Derived.Test.YtjncgedjdmgpfaaGreatDoorFb
import Derived.Test.YtjncgedjdmgpfaaGreatDoorWh
import Derived.Deep.DeepCutAuto
import Derived.Deep.CutBlock

namespace Go.Proofs.YtjncgedjdmgpfaaGreatDoor
open Go.RowKit

def lowB (c : UInt8) : UInt8 := c ||| 32

theorem lower_any (c : UInt8) (w : World) : Calls Tryz.prog 100 #[.int .u8 c.toNat] w fun e w' => e = .returned (.int .u8 (lowB c).toNat) ∧ w = w' := by
  have h := u8_or_nat c.toNat 32 (UInt8.toNat_lt c) (by omega)
  have HE : Hid (bits .or .u8 (c.toNat : Int) 32 = ((lowB c).toNat : Int)) := by
    unfold Hid lowB; rw [UInt8.toNat_or]; exact h
  clear h
  go_enter Tryz.func100, Tryz.ntmps100
  go_wp2
  go_ret
  exact ⟨ret_int HE.out, rfl⟩

def rfV (r : RFRes) : Value := .tuple #[.int .u64 r.mant, .int .i64 r.exp, .bool r.neg, .bool r.tr, .bool false, .int .i64 r.i, .bool r.ok]

theorem numCh_facts {c : UInt8} (h : c ∈ numChL) : c ≠ 95 ∧ lowB c ≠ 120 ∧ (lowB c = 101 ↔ (c = 101 ∨ c = 69)) ∧ (isDig c = false → c = 46 ∨ c = 43 ∨ c = 45 ∨ c = 69 ∨ c = 101) := by
  simp only [numChL, List.mem_cons, List.not_mem_nil, or_false] at h
  rcases h with h | h | h | h | h | h | h | h | h | h | h | h | h | h | h <;> subst h <;> decide

set_option maxRecDepth 100000 in
set_option maxHeartbeats 3200000 in
theorem readFloat_any (s : ByteArray) (w : World) (hs : s.size ≤ 140737488351232) (hN : ∀ c ∈ s.data.toList, c ∈ numChL) : Calls Tryz.prog 85 #[.string s] w fun e w' => e = .returned (rfV (rf s.data.toList)) ∧ w = w' := by
  have HN : ∀ k (h : k < s.size), s[k] ∈ numChL := fun k h => hN _ (List.getElem_mem (l := s.data.toList) (by simpa using h))
  have HNC := Lib.hid HN; clear hN HN
  have HL := Lib.hid (fun c W => lower_any c W)
  by_cases h0 : s.size = 0
  · have hl : s.data.toList = [] := List.eq_nil_of_length_eq_zero (by simpa using h0)
    have HR : Hid (rfV (rf s.data.toList) = .tuple #[.int .u64 0, .int .i64 0, .bool false, .bool false, .bool false, .int .i64 0, .bool false]) := by rw [hl]; exact rfl
    clear hl
    go_enter Tryz.func85, Tryz.ntmps85
    go_wp2
    go_step3
    as_aux_lemma =>
      go_wp2
      try rw [Exit.noGoto_ret]
      refine bodyPost_ret (v := .tuple #[.int .u64 0, .int .i64 0, .bool false, .bool false, .bool false, .int .i64 0, .bool false]) (by simp [results, Tryz.results85, go_sem]) rfl ⟨by rw [HR.out], rfl⟩
  · have h0' : 0 < s.size := by omega
    have hne : ¬ s = ByteArray.empty := fun e => by subst e; simp at h0'
    clear h0
    go_enter Tryz.func85, Tryz.ntmps85
    go_wp2
    go_step3
    go_upto_block 0 with (fail)
    go_cut [4, 7] (fun ng i wx => ∃ (b : Bool) (i0 : Nat), ng = .bool b ∧ i = .int .i64 i0 ∧ wx = w ∧ i0 ≤ 1 ∧ Hid (b = decide (s.data.toList.head? = some 45)) ∧ Hid (i0 = sgnN s.data.toList))
    case first =>
      have hh : s.data.toList.head? = some s[0] := by
        exact drop_head s.data.toList 0 (by simpa using h0')
      by_cases h45 : s[0] = 45
      · have b43 : ((s[0].toNat : Int) == 43) = false := beq_f (d := 43) (by rw [h45]; decide)
        have b45 : ((s[0].toNat : Int) == 45) = true := beq_t (d := 45) h45
        have H1 : Hid (true = decide (s.data.toList.head? = some 45)) := by unfold Hid; rw [hh, h45]; simp
        have H2 : Hid (1 = sgnN s.data.toList) := by unfold Hid; rw [sgnN, hh, h45]; simp
        clear hh h45
        as_aux_lemma =>
          go_wp2
          go_meet
          exact ⟨true, 1, rfl, rfl, rfl, by omega, H1, H2⟩
      · have b45 : ((s[0].toNat : Int) == 45) = false := beq_f (d := 45) h45
        have H1 : Hid (false = decide (s.data.toList.head? = some 45)) := by unfold Hid; rw [hh]; simp [h45]
        by_cases h43 : s[0] = 43
        · have b43 : ((s[0].toNat : Int) == 43) = true := beq_t (d := 43) h43
          have H2 : Hid (1 = sgnN s.data.toList) := by unfold Hid; rw [sgnN, hh, h43]; simp
          clear hh h45 h43
          as_aux_lemma =>
            go_wp2
            go_meet
            exact ⟨false, 1, rfl, rfl, rfl, by omega, H1, H2⟩
        · have b43 : ((s[0].toNat : Int) == 43) = false := beq_f (d := 43) h43
          have H2 : Hid (0 = sgnN s.data.toList) := by unfold Hid; rw [sgnN, hh]; simp [h43, h45]
          clear hh h45 h43
          as_aux_lemma =>
            go_wp2
            go_meet
            exact ⟨false, 0, rfl, rfl, rfl, by omega, H1, H2⟩
    case rest =>
      obtain ⟨b, i0, rfl, rfl, rfl, hi0, Hb, Hi⟩ := hcut
      have hx : ¬ i0 + 2 < s.size ∨ (∃ h : i0 + 2 < s.size, (((s[i0].toNat : Int) == 48) = false ∨ (((s[i0].toNat : Int) == 48) = true ∧ (((lowB s[i0 + 1]).toNat : Int) == 120) = false))) := by
        by_cases h : i0 + 2 < s.size
        · refine .inr ⟨h, ?_⟩
          by_cases h48 : s[i0] = 48
          · exact .inr ⟨beq_t (d := 48) h48, beq_f (d := 120) (numCh_facts (HNC.out (i0 + 1) (by omega))).2.1⟩
          · exact .inl (beq_f (d := 48) h48)
        · exact .inl h
      have HX := Lib.hid hx; clear hx
      go_upto_region 12 with (fail)
      go_cut [54] (fun t wx => t = .bool false ∧ wx = wc)
      case first =>
        rcases HX.out with hx | ⟨hx, hx1 | ⟨hx1, hx2⟩⟩ <;>
        · as_aux_lemma =>
            go_wp2_with (go_at_call 100; refine (HL.out _ _).mono ?_; rintro e w' ⟨rfl, rfl⟩)
            go_meet
            exact ⟨rfl, rfl⟩
      case rest =>
        obtain ⟨rfl, rfl⟩ := hcut
        clear HX
        go_upto_block 1 with (go_step3)
        go_cut [2, 5, 7, 9, 13, 14, 15, 16, 17] (fun m tr i us sd sg nd ndm dp wx => ∃ (st : RF) (k : Nat), m = .int .u64 st.mant ∧ tr = .bool st.tr ∧ i = .int .i64 k ∧ us = .bool false ∧ sd = .bool st.sd ∧ sg = .bool st.sg ∧ nd = .int .i64 st.nd ∧ ndm = .int .i64 st.ndm ∧ dp = .int .i64 st.dp ∧ wx = wc ∧ k ≤ s.size ∧ st.ok k ∧ Hid (rfLoop .init (s.data.toList.drop i0) = (st, k - i0) ∧ i0 ≤ k))
        case first =>
          go_wp2
          go_loop [2, 5, 7, 9, 13, 14, 15, 16, 17] (fun m tr i us sd sg nd ndm dp => ∃ (st : RF) (k : Nat), m = .int .u64 st.mant ∧ tr = .bool st.tr ∧ i = .int .i64 k ∧ us = .bool false ∧ sd = .bool st.sd ∧ sg = .bool st.sg ∧ nd = .int .i64 st.nd ∧ ndm = .int .i64 st.ndm ∧ dp = .int .i64 st.dp ∧ k ≤ s.size ∧ st.ok k ∧ Hid (rfLoop .init (s.data.toList.drop i0) = ((rfLoop st (s.data.toList.drop k)).1, (rfLoop st (s.data.toList.drop k)).2 + (k - i0)) ∧ i0 ≤ k)) (fun _ _ i _ _ _ _ _ _ => s.size - (intOf i).toNat)
          case atStart => exact ⟨.init, i0, rfl, rfl, rfl, rfl, rfl, rfl, rfl, rfl, rfl, by omega, by simp [RF.ok, RF.init], by simp [Hid]⟩
          case round =>
            obtain ⟨⟨mant, nd, ndm, dp, sd, sg, tr⟩, k, rfl, rfl, rfl, rfl, rfl, rfl, rfl, rfl, rfl, hk, hok, HL2⟩ := hrel
            obtain ⟨o1, o2, o3, o4, o5, o6⟩ := id hok
            have HOK := Lib.hid hok
            dsimp only at o1 o2 o3 o4 o5 o6
            by_cases hlt : k < s.size
            · have hkl : k < s.data.toList.length := by simpa using hlt
              have hch := numCh_facts (HNC.out k hlt)
              have b95 : ((s[k].toNat : Int) == 95) = false := beq_f (d := 95) hch.1
              have HNO : Hid (rfStep ⟨mant, nd, ndm, dp, sd, sg, tr⟩ s[k] = none → rfLoop .init (s.data.toList.drop i0) = (⟨mant, nd, ndm, dp, sd, sg, tr⟩, k - i0) ∧ i0 ≤ k) := fun h => by
                refine ⟨?_, HL2.out.2⟩
                rw [HL2.out.1, rfLoop_no _ _ _ hkl h]; simp
              have HYES : Hid (∀ st', rfStep ⟨mant, nd, ndm, dp, sd, sg, tr⟩ s[k] = some st' → st'.ok (k + 1) ∧ (rfLoop .init (s.data.toList.drop i0) = ((rfLoop st' (s.data.toList.drop (k + 1))).1, (rfLoop st' (s.data.toList.drop (k + 1))).2 + (k + 1 - i0)) ∧ i0 ≤ k + 1)) := fun st' h => by
                refine ⟨rfStep_ok _ _ _ _ hok h, ?_, by have := HL2.out.2; omega⟩
                have := HL2.out.2
                rw [HL2.out.1, rfLoop_yes _ _ _ _ hkl h]; simp; omega
              have HNC2 := Lib.hid hch; clear hch hok
              have h46i : Hid (∀ c : UInt8, c = 46 → isDig c = false) := fun c h => by subst h; decide
              by_cases h46 : s[k] = 46
              · have b46 : ((s[k].toNat : Int) == 46) = true := beq_t (d := 46) h46
                cases sd with
                | true =>
                  have HB := Lib.hid (HNO.out (by rw [rfStep, if_pos h46]; rfl))
                  clear h46
                  as_aux_lemma =>
                    go_wp2
                    go_meet
                    exact ⟨⟨mant, nd, ndm, dp, true, sg, tr⟩, k, rfl, rfl, rfl, rfl, rfl, rfl, rfl, rfl, rfl, rfl, hk, HOK.out, HB.out⟩
                | false =>
                  have HB := Lib.hid (HYES.out _ (by rw [rfStep, if_pos h46]; rfl))
                  clear h46
                  as_aux_lemma =>
                    go_wp2
                    go_round
                    case rel => exact ⟨⟨mant, nd, ndm, nd, true, sg, tr⟩, k + 1, rfl, rfl, by go_num, rfl, rfl, rfl, rfl, rfl, rfl, by omega, HB.out.1, HB.out.2⟩
                    case measure => simp [intOf]; omega
              · have b46 : ((s[k].toNat : Int) == 46) = false := beq_f (d := 46) h46
                by_cases hd : isDig s[k] = true
                · have hd1 := (dig_bd hd).1
                  have hd2 := (dig_bd hd).2
                  by_cases h48 : s[k] = 48 ∧ nd = 0
                  · have b48 : ((s[k].toNat : Int) == 48) = true := beq_t (d := 48) h48.1
                    have bnd : ((nd : Int) == 0) = true := by rw [h48.2]; rfl
                    have HB := Lib.hid (HYES.out _ (by rw [rfStep, if_neg h46, if_pos hd, if_pos h48]))
                    clear h46 hd h48
                    as_aux_lemma =>
                      go_wp2
                      go_round
                      case rel => exact ⟨⟨mant, nd, ndm, dp - 1, sd, true, tr⟩, k + 1, rfl, rfl, by go_num, rfl, rfl, rfl, rfl, rfl, rfl, by omega, HB.out.1, HB.out.2⟩
                      case measure => simp [intOf]; omega
                  · have b48 : ((s[k].toNat : Int) == 48) = false ∨ (((s[k].toNat : Int) == 48) = true ∧ ((nd : Int) == 0) = false) := by
                      by_cases h : s[k] = 48
                      · exact .inr ⟨beq_t (d := 48) h, beq_eq_false_iff_ne.2 (fun e => h48 ⟨h, by omega⟩)⟩
                      · exact .inl (beq_f (d := 48) h)
                    have HB48 := Lib.hid b48; clear b48
                    by_cases hnm : ndm < 19
                    · have HB := Lib.hid (HYES.out _ (by rw [rfStep, if_neg h46, if_pos hd, if_neg h48, if_pos hnm]))
                      have hmm : mant < 1000000000000000000 := by
                        have : 10 ^ ndm ≤ 10 ^ 18 := Nat.pow_le_pow_right (by omega) (by omega)
                        omega
                      clear h46 hd h48 o1
                      rcases HB48.out with b48 | ⟨b48, bnd⟩ <;>
                      · as_aux_lemma =>
                          go_wp2
                          go_round
                          case rel => exact ⟨⟨mant * 10 + (s[k].toNat - 48), nd + 1, ndm + 1, dp, sd, true, tr⟩, k + 1, by congr 1; simp only []; omega, rfl, by go_num, rfl, rfl, rfl, by go_num, by go_num, rfl, by omega, HB.out.1, HB.out.2⟩
                          case measure => simp [intOf]; omega
                    · have HB := Lib.hid (HYES.out _ (by rw [rfStep, if_neg h46, if_pos hd, if_neg h48, if_neg hnm]))
                      by_cases hz : s[k] = 48
                      · have b48 : ((s[k].toNat : Int) == 48) = true := beq_t (d := 48) hz
                        have c48 : ((s[k].toNat : Int) != 48) = false := bne_f (d := 48) hz
                        have bnd : ((nd : Int) == 0) = false := beq_eq_false_iff_ne.2 (fun e => h48 ⟨hz, by omega⟩)
                        rw [if_pos hz] at HB
                        clear h46 hd h48 o1 hz
                        as_aux_lemma =>
                          go_wp2
                          go_round
                          case rel => exact ⟨⟨mant, nd + 1, ndm, dp, sd, true, tr⟩, k + 1, rfl, rfl, by go_num, rfl, rfl, rfl, by go_num, rfl, rfl, by omega, HB.out.1, HB.out.2⟩
                          case measure => simp [intOf]; omega
                      · have b48 : ((s[k].toNat : Int) == 48) = false := beq_f (d := 48) hz
                        have c48 : ((s[k].toNat : Int) != 48) = true := bne_t (d := 48) hz
                        rw [if_neg hz] at HB
                        clear h46 hd h48 o1 hz
                        as_aux_lemma =>
                          go_wp2
                          go_round
                          case rel => exact ⟨⟨mant, nd + 1, ndm, dp, sd, true, true⟩, k + 1, rfl, rfl, by go_num, rfl, rfl, rfl, by go_num, rfl, rfl, by omega, HB.out.1, HB.out.2⟩
                          case measure => simp [intOf]; omega
                · have HB := Lib.hid (HNO.out (by rw [rfStep, if_neg h46, if_neg hd]))
                  have hnd : s[k].toNat < 48 ∨ 57 < s[k].toNat := by
                    simp [isDig, digB] at hd; omega
                  clear h46 hd
                  rcases hnd with hnd | hnd <;>
                  · as_aux_lemma =>
                      go_wp2
                      go_meet
                      exact ⟨⟨mant, nd, ndm, dp, sd, sg, tr⟩, k, rfl, rfl, rfl, rfl, rfl, rfl, rfl, rfl, rfl, rfl, hk, HOK.out, HB.out⟩
            · have HB : Hid (rfLoop .init (s.data.toList.drop i0) = (⟨mant, nd, ndm, dp, sd, sg, tr⟩, k - i0) ∧ i0 ≤ k) := by
                refine ⟨?_, HL2.out.2⟩
                rw [HL2.out.1, rfLoop_end _ _ _ (by simpa using hlt)]; simp
              as_aux_lemma =>
                go_wp2
                go_meet
                exact ⟨⟨mant, nd, ndm, dp, sd, sg, tr⟩, k, rfl, rfl, rfl, rfl, rfl, rfl, rfl, rfl, rfl, rfl, hk, HOK.out, HB.out⟩
        case rest =>
          obtain ⟨⟨mant, nd, ndm, dp, sd, sg, tr⟩, k, rfl, rfl, rfl, rfl, rfl, rfl, rfl, rfl, rfl, rfl, hk, hok, HL2⟩ := hcut
          obtain ⟨o1, o2, o3, o4, o5, o6⟩ := id hok
          dsimp only at o1 o2 o3 o4 o5 o6
          have HR : Hid (∀ r, rfTail s.data.toList b ⟨mant, nd, ndm, dp, sd, sg, tr⟩ k = r → rfV (rf s.data.toList) = rfV r) := fun r h => by
            rw [← h]; congr 1
            have hne2 : s.data.toList ≠ [] := fun e => by
              have h1 : s.data.toList.length = 0 := by rw [e]; rfl
              have h2 : s.data.toList.length = s.size := rfl
              omega
            have hik : i0 ≤ k := HL2.out.2
            rw [rf, if_neg hne2, ← Hi.out, HL2.out.1, ← Hb.out]
            show rfTail _ _ _ (i0 + (k - i0)) = _
            rw [show i0 + (k - i0) = k by omega]
          have hmant : mant < 10000000000000000000 := by
            have : 10 ^ ndm ≤ 10 ^ 19 := Nat.pow_le_pow_right (by omega) o2
            omega
          clear o1 hok
          cases sg with
          | false =>
            have HF : Hid (rfV (rf s.data.toList) = .tuple #[.int .u64 mant, .int .i64 0, .bool b, .bool tr, .bool false, .int .i64 k, .bool false]) := by
              unfold Hid; rw [HR.out ⟨mant, 0, b, tr, k, false⟩ (by rw [rfTail, if_pos rfl])]; rfl
            as_aux_lemma =>
              go_wp2
              try rw [Exit.noGoto_ret]
              refine bodyPost_ret (v := .tuple #[.int .u64 mant, .int .i64 0, .bool b, .bool tr, .bool false, .int .i64 k, .bool false]) (by simp [results, Tryz.results85, go_sem]) rfl ⟨by rw [HF.out], rfl⟩
          | true =>
            go_upto_if 142 with (fail)
            go_cut [17] (fun q wx => ∃ d : Int, q = .int .i64 d ∧ wx = wc ∧ -(k : Int) ≤ d ∧ d ≤ k ∧ Hid (d = if sd = true then dp else nd))
            case first =>
              cases sd with
              | true =>
                as_aux_lemma =>
                  go_wp2
                  go_meet
                  exact ⟨dp, rfl, rfl, o5, o6, rfl⟩
              | false =>
                as_aux_lemma =>
                  go_wp2
                  go_meet
                  exact ⟨nd, rfl, rfl, by omega, by omega, rfl⟩
            case rest =>
              obtain ⟨d, rfl, rfl, d1, d2, Hd⟩ := hcut
              have HT : Hid (rfTail s.data.toList b ⟨mant, nd, ndm, dp, sd, true, tr⟩ k = if (s.data.toList.drop k).head? = some 101 ∨ (s.data.toList.drop k).head? = some 69 then rfExp s.data.toList b ⟨mant, nd, ndm, dp, sd, true, tr⟩ d (k + 1) else rfDone b ⟨mant, nd, ndm, dp, sd, true, tr⟩ d k) := by
                unfold Hid; rw [rfTail, if_neg (by simp), ← Hd.out]
              by_cases he : ∃ h : k < s.size, s[k] = 101 ∨ s[k] = 69
              · obtain ⟨hks, he⟩ := he
                have hl101 : lowB s[k] = 101 := (numCh_facts (HNC.out k hks)).2.2.1.2 he
                have bl : (((lowB s[k]).toNat : Int) == 101) = true := beq_t (d := 101) hl101
                have HT2 : Hid (rfTail s.data.toList b ⟨mant, nd, ndm, dp, sd, true, tr⟩ k = rfExp s.data.toList b ⟨mant, nd, ndm, dp, sd, true, tr⟩ d (k + 1)) := by
                  unfold Hid; rw [HT.out, drop_head _ _ (by simpa using hks), if_pos (by rcases he with he | he; exact .inl (by rw [← byte_get s k hks, he]); exact .inr (by rw [← byte_get s k hks, he]))]
                clear HT he hl101
                by_cases hk1 : k + 1 < s.size
                · go_upto_block 4 with (go_at_call 100; refine (HL.out _ _).mono ?_; rintro e w' ⟨rfl, rfl⟩)
                  have hkl : k + 1 < s.data.toList.length := by simpa using hk1
                  go_cut [7, 19] (fun i q wx => ∃ (kk : Nat) (es : Int), i = .int .i64 kk ∧ q = .int .i64 es ∧ wx = wc ∧ kk ≤ s.size ∧ k + 1 ≤ kk ∧ -1 ≤ es ∧ es ≤ 1 ∧ Hid (kk = k + 1 + sgnN (s.data.toList.drop (k + 1))) ∧ Hid (es = if (s.data.toList.drop (k + 1)).head? = some 45 then -1 else 1))
                  case first =>
                    have hh : (s.data.toList.drop (k + 1)).head? = some s[k + 1] := drop_head _ _ hkl
                    by_cases h45 : s[k + 1] = 45
                    · have b43 : ((s[k + 1].toNat : Int) == 43) = false := beq_f (d := 43) (by rw [h45]; decide)
                      have b45 : ((s[k + 1].toNat : Int) == 45) = true := beq_t (d := 45) h45
                      have H1 : Hid ((-1 : Int) = if (s.data.toList.drop (k + 1)).head? = some 45 then -1 else 1) := by unfold Hid; rw [hh, h45]; rfl
                      have H2 : Hid (k + 1 + 1 = k + 1 + sgnN (s.data.toList.drop (k + 1))) := by unfold Hid; rw [sgnN, hh, h45]; rfl
                      clear hh h45
                      as_aux_lemma =>
                        go_wp2
                        go_meet
                        exact ⟨k + 1 + 1, -1, by go_num, rfl, rfl, by omega, by omega, by omega, by omega, H2, H1⟩
                    · have b45 : ((s[k + 1].toNat : Int) == 45) = false := beq_f (d := 45) h45
                      have H1 : Hid ((1 : Int) = if (s.data.toList.drop (k + 1)).head? = some 45 then -1 else 1) := by unfold Hid; rw [hh, if_neg (fun e => h45 (Option.some.inj e))]
                      by_cases h43 : s[k + 1] = 43
                      · have b43 : ((s[k + 1].toNat : Int) == 43) = true := beq_t (d := 43) h43
                        have H2 : Hid (k + 1 + 1 = k + 1 + sgnN (s.data.toList.drop (k + 1))) := by unfold Hid; rw [sgnN, hh, h43]; rfl
                        clear hh h45 h43
                        as_aux_lemma =>
                          go_wp2
                          go_meet
                          exact ⟨k + 1 + 1, 1, by go_num, rfl, rfl, by omega, by omega, by omega, by omega, H2, H1⟩
                      · have b43 : ((s[k + 1].toNat : Int) == 43) = false := beq_f (d := 43) h43
                        have H2 : Hid (k + 1 = k + 1 + sgnN (s.data.toList.drop (k + 1))) := by unfold Hid; rw [sgnN, hh, if_neg (fun e => e.elim (fun e => h43 (Option.some.inj e)) (fun e => h45 (Option.some.inj e)))]
                        clear hh h45 h43
                        as_aux_lemma =>
                          go_wp2
                          go_meet
                          exact ⟨k + 1, 1, by go_num, rfl, rfl, by omega, by omega, by omega, by omega, H2, H1⟩
                  case rest =>
                    obtain ⟨kk, es, rfl, rfl, rfl, hkk, hkk1, es1, es2, HK, HES⟩ := hcut
                    have HX : Hid (rfExp s.data.toList b ⟨mant, nd, ndm, dp, sd, true, tr⟩ d (k + 1) = if nWhile isDig (s.data.toList.drop kk) = 0 then ⟨mant, 0, b, tr, kk, false⟩ else rfDone b ⟨mant, nd, ndm, dp, sd, true, tr⟩ (d + (eLoop 0 (s.data.toList.drop kk)).1 * es) (kk + (eLoop 0 (s.data.toList.drop kk)).2)) := by
                      unfold Hid; rw [rfExp, if_neg (by omega), ← HK.out, ← HES.out]
                    clear HK HES
                    by_cases hd : ∃ h : kk < s.size, isDig s[kk] = true
                    · obtain ⟨hks2, hd⟩ := hd
                      have hd1 := (dig_bd hd).1
                      have hd2 := (dig_bd hd).2
                      have HX2 : Hid (rfExp s.data.toList b ⟨mant, nd, ndm, dp, sd, true, tr⟩ d (k + 1) = rfDone b ⟨mant, nd, ndm, dp, sd, true, tr⟩ (d + (eLoop 0 (s.data.toList.drop kk)).1 * es) (kk + (eLoop 0 (s.data.toList.drop kk)).2)) := by
                        unfold Hid; rw [HX.out, nWhile_yes isDig _ _ (by simpa using hks2) hd, if_neg (by omega)]
                      have q1 : decide (s.size ≤ kk) = false := by simp; omega
                      have q2 : decide ((s[kk].toNat : Int) < 48) = false := by simp; omega
                      have q3 : decide (57 < (s[kk].toNat : Int)) = false := by simp; omega
                      clear hd HX
                      go_upto_block 5 with (fail)
                      clear q1 q2 q3
                      go_cut [7, 9, 20] (fun i us e wx => ∃ (j ev : Nat), i = .int .i64 j ∧ us = .bool false ∧ e = .int .i64 ev ∧ wx = wc ∧ j ≤ s.size ∧ kk ≤ j ∧ ev ≤ 1000000 ∧ Hid (eLoop 0 (s.data.toList.drop kk) = (ev, j - kk)))
                      case first =>
                        as_aux_lemma =>
                        go_wp2
                        go_loop [7, 9, 20] (fun i us e => ∃ (j ev : Nat), i = .int .i64 j ∧ us = .bool false ∧ e = .int .i64 ev ∧ j ≤ s.size ∧ kk ≤ j ∧ ev ≤ 1000000 ∧ Hid (eLoop 0 (s.data.toList.drop kk) = ((eLoop ev (s.data.toList.drop j)).1, (eLoop ev (s.data.toList.drop j)).2 + (j - kk)))) (fun i _ _ => s.size - (intOf i).toNat)
                        case atStart => exact ⟨kk, 0, rfl, rfl, rfl, hkk, Nat.le_refl _, by omega, by simp [Hid]⟩
                        case round =>
                          obtain ⟨j, ev, rfl, rfl, rfl, hj, hkj, hev, HE⟩ := hrel
                          by_cases hlt : j < s.size
                          · have hjl : j < s.data.toList.length := by simpa using hlt
                            have b95 : ((s[j].toNat : Int) == 95) = false := beq_f (d := 95) (numCh_facts (HNC.out j hlt)).1
                            by_cases hdj : isDig s[j] = true
                            · have e1 := (dig_bd hdj).1
                              have e2 := (dig_bd hdj).2
                              have HY := Lib.hid (eLoop_yes ev _ j hjl hdj)
                              clear hdj
                              by_cases h4 : ev < 10000
                              · have HB : Hid (eLoop 0 (s.data.toList.drop kk) = ((eLoop (ev * 10 + (s[j].toNat - 48)) (s.data.toList.drop (j + 1))).1, (eLoop (ev * 10 + (s[j].toNat - 48)) (s.data.toList.drop (j + 1))).2 + (j + 1 - kk))) := by
                                  unfold Hid; rw [HE.out, HY.out, if_pos h4, ← byte_get s j hlt]; simp; omega
                                as_aux_lemma =>
                                  go_wp2
                                  go_round
                                  case rel => exact ⟨j + 1, ev * 10 + (s[j].toNat - 48), by go_num, rfl, by congr 1; omega, by omega, by omega, by omega, HB⟩
                                  case measure => simp [intOf]; omega
                              · have HB : Hid (eLoop 0 (s.data.toList.drop kk) = ((eLoop ev (s.data.toList.drop (j + 1))).1, (eLoop ev (s.data.toList.drop (j + 1))).2 + (j + 1 - kk))) := by
                                  unfold Hid; rw [HE.out, HY.out, if_neg h4]; simp; omega
                                as_aux_lemma =>
                                  go_wp2
                                  go_round
                                  case rel => exact ⟨j + 1, ev, by go_num, rfl, rfl, by omega, by omega, by omega, HB⟩
                                  case measure => simp [intOf]; omega
                            · have HB : Hid (eLoop 0 (s.data.toList.drop kk) = (ev, j - kk)) := by
                                unfold Hid; rw [HE.out, eLoop_no _ _ _ hjl (by cases hx : isDig s[j] with | true => exact absurd hx hdj | false => exact hx)]; simp
                              have hnd : s[j].toNat < 48 ∨ (48 ≤ s[j].toNat ∧ 57 < s[j].toNat) := by
                                simp [isDig, digB] at hdj; omega
                              clear hdj
                              rcases hnd with hnd | ⟨hnd1, hnd2⟩ <;>
                              · as_aux_lemma =>
                                  go_wp2
                                  go_meet
                                  exact ⟨j, ev, rfl, rfl, rfl, rfl, hj, hkj, hev, HB⟩
                          · have HB : Hid (eLoop 0 (s.data.toList.drop kk) = (ev, j - kk)) := by
                              unfold Hid; rw [HE.out, eLoop_end _ _ _ (by simpa using hlt)]; simp
                            as_aux_lemma =>
                              go_wp2
                              go_meet
                              exact ⟨j, ev, rfl, rfl, rfl, rfl, hj, hkj, hev, HB⟩
                      case rest =>
                        obtain ⟨j, ev, rfl, rfl, rfl, rfl, hj, hkj, hev, HE⟩ := hcut
                        have hev2 : -1000000 ≤ (ev : Int) * es ∧ (ev : Int) * es ≤ 1000000 := by
                          rcases (show es = -1 ∨ es = 0 ∨ es = 1 by omega) with h | h | h <;> rw [h] <;> omega
                        obtain ⟨p, hp⟩ : ∃ p : Int, p = (ev : Int) * es := ⟨_, rfl⟩
                        rw [← hp] at hev2
                        obtain ⟨p1, p2⟩ := hev2
                        have hmul : IntKind.i64.wrap ((ev : Int) * es) = p := by rw [← hp]; exact IntWalk.i64_in _ (by omega)
                        by_cases hm0 : mant = 0
                        · subst hm0
                          have HF : Hid (rfV (rf s.data.toList) = .tuple #[.int .u64 0, .int .i64 0, .bool b, .bool tr, .bool false, .int .i64 j, .bool true]) := by
                            unfold Hid; rw [HR.out _ HT2.out, HX2.out, HE.out]
                            show rfV (rfDone _ _ _ (kk + (j - kk))) = _
                            rw [show kk + (j - kk) = j by omega]; rfl
                          clear hp
                          as_aux_lemma =>
                            go_wp2
                            try rw [Exit.noGoto_ret]
                            refine bodyPost_ret (v := .tuple #[.int .u64 0, .int .i64 0, .bool b, .bool tr, .bool false, .int .i64 j, .bool true]) (by simp [results, Tryz.results85, go_sem]) rfl ⟨by rw [HF.out], rfl⟩
                        · have bm : ((mant : Int) != 0) = true := by rw [bne_iff_ne]; omega
                          have HF : Hid (rfV (rf s.data.toList) = .tuple #[.int .u64 mant, .int .i64 (d + p - ndm), .bool b, .bool tr, .bool false, .int .i64 j, .bool true]) := by
                            unfold Hid; rw [HR.out _ HT2.out, HX2.out, HE.out]
                            show rfV (rfDone _ _ _ (kk + (j - kk))) = _
                            rw [show kk + (j - kk) = j by omega, hp, rfDone, rfV]; simp only [if_neg hm0]
                          clear hp
                          as_aux_lemma =>
                            go_wp2
                            try rw [Exit.noGoto_ret]
                            refine bodyPost_ret (v := .tuple #[.int .u64 mant, .int .i64 (d + p - ndm), .bool b, .bool tr, .bool false, .int .i64 j, .bool true]) (by simp [results, Tryz.results85, go_sem]) rfl ⟨by rw [HF.out], rfl⟩
                    · have HF : Hid (rfV (rf s.data.toList) = .tuple #[.int .u64 mant, .int .i64 0, .bool b, .bool tr, .bool false, .int .i64 kk, .bool false]) := by
                        have h0 : nWhile isDig (s.data.toList.drop kk) = 0 := by
                          by_cases h : kk < s.size
                          · exact nWhile_no _ _ _ (by simpa using h) (by cases hx : isDig s[kk] with | true => exact absurd ⟨h, hx⟩ hd | false => exact hx)
                          · exact nWhile_end _ _ _ (by simpa using h)
                        unfold Hid; rw [HR.out _ HT2.out, HX.out, if_pos h0]; rfl
                      have hb : ¬ kk < s.size ∨ (∃ h : kk < s.size, s[kk].toNat < 48 ∨ (48 ≤ s[kk].toNat ∧ 57 < s[kk].toNat)) := by
                        by_cases h : kk < s.size
                        · refine .inr ⟨h, ?_⟩
                          have : ¬ isDig s[kk] = true := fun e => hd ⟨h, e⟩
                          simp [isDig, digB] at this; omega
                        · exact .inl h
                      clear hd
                      rcases hb with hb | ⟨hks2, hb | ⟨hb1, hb2⟩⟩ <;>
                      · as_aux_lemma =>
                          go_wp2
                          try rw [Exit.noGoto_ret]
                          refine bodyPost_ret (v := .tuple #[.int .u64 mant, .int .i64 0, .bool b, .bool tr, .bool false, .int .i64 kk, .bool false]) (by simp [results, Tryz.results85, go_sem]) rfl ⟨by rw [HF.out], rfl⟩
                · have HF : Hid (rfV (rf s.data.toList) = .tuple #[.int .u64 mant, .int .i64 0, .bool b, .bool tr, .bool false, .int .i64 (k + 1 : Nat), .bool false]) := by
                    unfold Hid; rw [HR.out ⟨mant, 0, b, tr, k + 1, false⟩ (by rw [HT2.out, rfExp, if_pos (by simp; omega)])]; rfl
                  as_aux_lemma =>
                    go_wp2_with (go_at_call 100; refine (HL.out _ _).mono ?_; rintro e w' ⟨rfl, rfl⟩)
                    try rw [Exit.noGoto_ret]
                    refine bodyPost_ret (v := .tuple #[.int .u64 mant, .int .i64 0, .bool b, .bool tr, .bool false, .int .i64 ((k : Int) + 1), .bool false]) (by simp [results, Tryz.results85, go_sem]) rfl ⟨by rw [HF.out]; rfl, rfl⟩
              · have hb : ¬ k < s.size ∨ (∃ h : k < s.size, (((lowB s[k]).toNat : Int) == 101) = false) := by
                  by_cases h : k < s.size
                  · exact .inr ⟨h, beq_f (d := 101) (fun e => he ⟨h, (numCh_facts (HNC.out k h)).2.2.1.1 e⟩)⟩
                  · exact .inl h
                have HT2 : Hid (rfTail s.data.toList b ⟨mant, nd, ndm, dp, sd, true, tr⟩ k = rfDone b ⟨mant, nd, ndm, dp, sd, true, tr⟩ d k) := by
                  unfold Hid; rw [HT.out, if_neg]
                  intro hh
                  apply he
                  by_cases h : k < s.size
                  · rw [drop_head _ _ (by simpa using h)] at hh; exact ⟨h, hh.elim (fun e => .inl (Option.some.inj e)) (fun e => .inr (Option.some.inj e))⟩
                  · rw [drop_head_end _ _ (by simpa using h)] at hh; simp at hh
                have HB := Lib.hid hb
                clear HT he hb
                by_cases hm0 : mant = 0
                · subst hm0
                  have HF : Hid (rfV (rf s.data.toList) = .tuple #[.int .u64 0, .int .i64 0, .bool b, .bool tr, .bool false, .int .i64 k, .bool true]) := by
                    unfold Hid; rw [HR.out _ HT2.out]; rfl
                  rcases HB.out with hb | ⟨hks, hb⟩ <;>
                  · as_aux_lemma =>
                      go_wp2_with (go_at_call 100; refine (HL.out _ _).mono ?_; rintro e w' ⟨rfl, rfl⟩)
                      try rw [Exit.noGoto_ret]
                      refine bodyPost_ret (v := .tuple #[.int .u64 0, .int .i64 0, .bool b, .bool tr, .bool false, .int .i64 k, .bool true]) (by simp [results, Tryz.results85, go_sem]) rfl ⟨by rw [HF.out], rfl⟩
                · have bm : ((mant : Int) != 0) = true := by rw [bne_iff_ne]; omega
                  have HF : Hid (rfV (rf s.data.toList) = .tuple #[.int .u64 mant, .int .i64 (d - ndm), .bool b, .bool tr, .bool false, .int .i64 k, .bool true]) := by
                    unfold Hid; rw [HR.out _ HT2.out, rfDone, rfV]; simp only [if_neg hm0]
                  rcases HB.out with hb | ⟨hks, hb⟩ <;>
                  · as_aux_lemma =>
                      go_wp2_with (go_at_call 100; refine (HL.out _ _).mono ?_; rintro e w' ⟨rfl, rfl⟩)
                      try rw [Exit.noGoto_ret]
                      refine bodyPost_ret (v := .tuple #[.int .u64 mant, .int .i64 (d - ndm), .bool b, .bool tr, .bool false, .int .i64 k, .bool true]) (by simp [results, Tryz.results85, go_sem]) rfl ⟨by rw [HF.out], rfl⟩

end Go.Proofs.YtjncgedjdmgpfaaGreatDoor
