/- The walk of set. -/
import Derived.Test.YtjncgedjdmgpfaaGreatDoorXo
import Derived.Test.YtjncgedjdmgpfaaGreatDoorWi
import Derived.Test.YtjncgedjdmgpfaaGreatDoorFh
import Derived.Deep.DeepCutAuto
import Derived.Deep.CutBlock
import Derived.StillTailTactics
import Derived.BigRegion

namespace Go.Proofs.YtjncgedjdmgpfaaGreatDoor
open Go.RowKit

def SetEnd (w : World) (b : Nat) (ng : Bool) (R : Option DS) (e : Ending) (w' : World) : Prop := e = .returned (.bool R.isSome) ∧ OnlyB b w w' ∧ ∀ d, R = some d → DecS w' b ng d

def SD.ds (st : SD) : DS := ⟨st.M, st.nd, st.dp, st.tr⟩

set_option maxRecDepth 100000 in
set_option maxHeartbeats 3200000 in
theorem set_any (s : ByteArray) (w : World) (b : Nat) (f : Nat → Nat) (hs : s.size ≤ 140737488351232) (hN : ∀ c ∈ s.data.toList, c ∈ numChL) (hD : DecF w b f 0 0 false false) :
    Calls Tryz.prog 91 #[.pointer (some ⟨b, 0, none⟩), .string s] w (SetEnd w b (decide (s.data.toList.head? = some 45)) (sdR s.data.toList)) := by
  have HN : ∀ k (h : k < s.size), s[k] ∈ numChL := fun k h => hN _ (List.getElem_mem (l := s.data.toList) (by simpa using h))
  have HNC := Lib.hid HN; clear hN HN
  have HL := Lib.hid (fun c W => lower_any c W)
  have c802 := hD.ng
  have c803 := hD.tr
  have f802 := hD.fz 802
  have f803 := hD.fz 803
  have HD0 := Lib.hid ((hD.setNg false).setTr false)
  have HB0 := Lib.hid (((OnlyB.refl b w).set 802 (.bool false)).set 803 (.bool false))
  clear hD
  by_cases h0 : s.size = 0
  · have hl : s.data.toList = [] := List.eq_nil_of_length_eq_zero (by simpa using h0)
    have HR : Hid (sdR s.data.toList = none) := by rw [hl]; exact rfl
    clear hl
    go_enter Tryz.func91, Tryz.ntmps91
    go_wp2
    refine bodyPost_ret (v := .bool false) (by simp [results, Tryz.results91, go_sem]) rfl ⟨by rw [HR.out]; rfl, HB0.out, fun d h => by rw [HR.out] at h; cases h⟩
  · have h0' : 0 < s.size := by omega
    have hne : ¬ s = ByteArray.empty := fun e => by subst e; simp at h0'
    clear h0
    go_enter Tryz.func91, Tryz.ntmps91
    go_upto_block 0 with (fail)
    go_cut [5] (fun i wx => ∃ (i0 : Nat), i = .int .i64 i0 ∧ i0 ≤ 1 ∧ Hid (i0 = sgnN s.data.toList) ∧ Hid (DecS wx b (decide (s.data.toList.head? = some 45)) SD.init.ds) ∧ Hid (OnlyB b w wx))
    case first =>
      have hh : s.data.toList.head? = some s[0] := drop_head s.data.toList 0 (by simpa using h0')
      by_cases h45 : s[0] = 45
      · have b43 : ((s[0].toNat : Int) == 43) = false := beq_f (d := 43) (by rw [h45]; decide)
        have b45 : ((s[0].toNat : Int) == 45) = true := beq_t (d := 45) h45
        have H1 : Hid (true = decide (s.data.toList.head? = some 45)) := by unfold Hid; rw [hh, h45]; simp
        have H2 : Hid (1 = sgnN s.data.toList) := by unfold Hid; rw [sgnN, hh, h45]; simp
        clear hh h45
        go_wp2
        go_meet
        exact ⟨1, rfl, by omega, H2, by unfold Hid; rw [← H1.out]; exact ⟨f, HD0.out.setNg true, dgs_nil f⟩, Lib.hid (HB0.out.set 802 (.bool true))⟩
      · have b45 : ((s[0].toNat : Int) == 45) = false := beq_f (d := 45) h45
        have H1 : Hid (false = decide (s.data.toList.head? = some 45)) := by unfold Hid; rw [hh]; simp [h45]
        have H3 : Hid (DecS ((w.setCell ⟨b, 802, none⟩ (.bool false)).setCell ⟨b, 803, none⟩ (.bool false)) b (decide (s.data.toList.head? = some 45)) SD.init.ds) := by
          unfold Hid; rw [← H1.out]; exact ⟨f, HD0.out, dgs_nil f⟩
        by_cases h43 : s[0] = 43
        · have b43 : ((s[0].toNat : Int) == 43) = true := beq_t (d := 43) h43
          have H2 : Hid (1 = sgnN s.data.toList) := by unfold Hid; rw [sgnN, hh, h43]; simp
          clear hh h45 h43
          go_wp2
          go_meet
          exact ⟨1, rfl, by omega, H2, H3, HB0⟩
        · have b43 : ((s[0].toNat : Int) == 43) = false := beq_f (d := 43) h43
          have H2 : Hid (0 = sgnN s.data.toList) := by unfold Hid; rw [sgnN, hh]; simp [h43, h45]
          clear hh h45 h43
          go_wp2
          go_meet
          exact ⟨0, rfl, by omega, H2, H3, HB0⟩
    case rest =>
      obtain ⟨i0, rfl, hi0, Hi, HD1, HB1⟩ := hcut
      clear c802 c803 f802 f803 HD0 HB0
      have HR : Hid (∀ st k, sdLoop .init (s.data.toList.drop i0) = (st, k - i0) → i0 ≤ k → sdR s.data.toList = sdTail s.data.toList st k) := fun st k h hik => by
        have hne2 : s.data.toList ≠ [] := fun e => by
          have h1 : s.data.toList.length = 0 := by rw [e]; rfl
          have h2 : s.data.toList.length = s.size := rfl
          omega
        rw [sdR, if_neg hne2, ← Hi.out, h]
        show sdTail _ _ (i0 + (k - i0)) = _
        rw [show i0 + (k - i0) = k by omega]
      obtain ⟨ng, eng⟩ : ∃ ng, decide (s.data.toList.head? = some 45) = ng := ⟨_, rfl⟩
      rw [eng] at HD1
      have HNG := Lib.hid eng
      clear eng
      clear Hi
      go_upto_block 1 with (go_step3)
      go_cut [5, 6, 7] (fun i sd sg wx => ∃ (st : SD) (k : Nat), i = .int .i64 k ∧ sd = .bool st.sd ∧ sg = .bool st.sg ∧ k ≤ s.size ∧ st.ok k ∧ Hid (sdR s.data.toList = sdTail s.data.toList st k ∧ (s.data.toList.drop k).head? ≠ some 46) ∧ Hid (DecS wx b ng st.ds) ∧ Hid (OnlyB b w wx))
      case first =>
        go_wp2
        go_loopg [5, 6, 7] (s.size - i0) (fun g i sd sg wx => ∃ (st : SD) (k : Nat), g + k = s.size ∧ i = .int .i64 k ∧ sd = .bool st.sd ∧ sg = .bool st.sg ∧ st.ok k ∧ Hid (sdLoop .init (s.data.toList.drop i0) = ((sdLoop st (s.data.toList.drop k)).1, (sdLoop st (s.data.toList.drop k)).2 + (k - i0)) ∧ i0 ≤ k) ∧ Hid (DecS wx b ng st.ds) ∧ Hid (OnlyB b w wx))
        case atStart => exact ⟨.init, i0, by omega, rfl, rfl, rfl, SD.ok_mono SD.init_ok (by omega), by simp [Hid], HD1, HB1⟩
        case round =>
          obtain ⟨⟨M, nd, dp, sd, sg, tr⟩, k, hgk, rfl, rfl, rfl, hok, HL2, HD', HB'⟩ := hrel
          obtain ⟨o1, o2, o3, o4, o5, o6⟩ := id hok
          have HOK := Lib.hid hok
          dsimp only at o1 o2 o3 o4 o5 o6
          obtain ⟨f', hF, hg⟩ := HD'.out
          have c800 : wr.cell? ⟨b, 800, none⟩ = some (.int .i64 nd) := hF.nd
          have c801 : wr.cell? ⟨b, 801, none⟩ = some (.int .i64 dp) := hF.dp
          have c803 : wr.cell? ⟨b, 803, none⟩ = some (.bool tr) := hF.tr
          have f800 := hF.fz 800
          have f801 := hF.fz 801
          have f803 := hF.fz 803
          have HF' : Hid (DecF wr b f' nd dp ng tr) := hF
          have HG := Lib.hid hg
          clear o1 o2 hF hg hok
          by_cases hlt : k < s.size
          · have hkl : k < s.data.toList.length := by simpa using hlt
            have hch := numCh_facts (HNC.out k hlt)
            have b95 : ((s[k].toNat : Int) == 95) = false := beq_f (d := 95) hch.1
            have HNO : Hid (sdStep ⟨M, nd, dp, sd, sg, tr⟩ s[k] = none → sdR s.data.toList = sdTail s.data.toList ⟨M, nd, dp, sd, sg, tr⟩ k) := fun h => by
              refine HR.out _ _ ?_ HL2.out.2
              rw [HL2.out.1, sdLoop_no _ _ _ hkl h]; simp
            have HYES : Hid (∀ st', sdStep ⟨M, nd, dp, sd, sg, tr⟩ s[k] = some st' → st'.ok (k + 1) ∧ (sdLoop .init (s.data.toList.drop i0) = ((sdLoop st' (s.data.toList.drop (k + 1))).1, (sdLoop st' (s.data.toList.drop (k + 1))).2 + (k + 1 - i0)) ∧ i0 ≤ k + 1)) := fun st' h => by
              refine ⟨sdStep_ok _ _ _ _ HOK.out h, ?_, by have := HL2.out.2; omega⟩
              have := HL2.out.2
              rw [HL2.out.1, sdLoop_yes _ _ _ _ hkl h]; simp; omega
            clear hch
            by_cases h46 : s[k] = 46
            · have b46 : ((s[k].toNat : Int) == 46) = true := beq_t (d := 46) h46
              cases sd with
              | true =>
                have HB : Hid (sdR s.data.toList = none) := by
                  unfold Hid; rw [HNO.out (by rw [sdStep, if_pos h46]; rfl), sdTail, drop_head _ _ hkl, if_pos (by rw [← byte_get s k hlt, h46])]
                clear h46
                as_aux_lemma =>
                  go_wp2
                  refine bodyPost_ret (v := .bool false) (by simp [results, Tryz.results91, go_sem]) rfl ⟨by rw [HB.out]; rfl, HB'.out, fun d h => by rw [HB.out] at h; cases h⟩
              | false =>
                have HB := Lib.hid (HYES.out _ (by rw [sdStep, if_pos h46]; rfl))
                clear h46
                as_aux_lemma =>
                  go_wp2
                  go_roundg (s.size - (k + 1))
                  case measure => omega
                  case rel => exact ⟨⟨M, nd, nd, true, sg, tr⟩, k + 1, by omega, by go_num, rfl, rfl, HB.out.1, HB.out.2, ⟨f', HF'.out.setDp nd, HG.out⟩, Lib.hid (HB'.out.set 801 _)⟩
            · have b46 : ((s[k].toNat : Int) == 46) = false := beq_f (d := 46) h46
              by_cases hd : isDig s[k] = true
              · have hd1 := (dig_bd hd).1
                have hd2 := (dig_bd hd).2
                by_cases h48 : s[k] = 48 ∧ nd = 0
                · have b48 : ((s[k].toNat : Int) == 48) = true := beq_t (d := 48) h48.1
                  have bnd : ((nd : Int) == 0) = true := by rw [h48.2]; rfl
                  have HB := Lib.hid (HYES.out _ (by rw [sdStep, if_neg h46, if_pos hd, if_pos h48]))
                  clear h46 hd h48
                  as_aux_lemma =>
                    go_wp2
                    go_roundg (s.size - (k + 1))
                    case measure => omega
                    case rel => exact ⟨⟨M, nd, dp - 1, sd, true, tr⟩, k + 1, by omega, by go_num, rfl, rfl, HB.out.1, HB.out.2, ⟨f', HF'.out.setDp (dp - 1), HG.out⟩, Lib.hid (HB'.out.set 801 _)⟩
                · have b48 : ((s[k].toNat : Int) == 48) = false ∨ (((s[k].toNat : Int) == 48) = true ∧ ((nd : Int) == 0) = false) := by
                    by_cases h : s[k] = 48
                    · exact .inr ⟨beq_t (d := 48) h, beq_eq_false_iff_ne.2 (fun e => h48 ⟨h, by omega⟩)⟩
                    · exact .inl (beq_f (d := 48) h)
                  have HB48 := Lib.hid b48; clear b48
                  by_cases hnm : nd < 800
                  · have HB := Lib.hid (HYES.out _ (by rw [sdStep, if_neg h46, if_pos hd, if_neg h48, if_pos hnm]))
                    have c1 := HF'.out.d nd hnm
                    have f1 := HF'.out.fz nd
                    have e1 : ¬ nd = 800 := by omega
                    have e2 : ¬ 800 = nd := by omega
                    have b800 : decide (nd < 800) = true := decide_eq_true hnm
                    have HG2 := Lib.hid (dgs_add HG.out hd1 hd2)
                    clear h46 hd h48
                    rcases HB48.out with b48 | ⟨b48, bnd⟩
                    · as_aux_lemma =>
                        go_wp2
                        go_still_tail 11, (by kernel_rfl)
                        change wpList _ _ _ _ _ wr.drew
                        go_wp2
                        go_roundg (s.size - (k + 1))
                        case measure => omega
                        case rel => exact ⟨⟨M * 10 + (s[k].toNat - 48), nd + 1, dp, sd, true, tr⟩, k + 1, by omega, by go_num, rfl, rfl, HB.out.1, HB.out.2, ⟨_, (((HF'.out.drewN _).setD hnm s[k].toNat).setNd ((nd + 1 : Nat) : Int)), HG2.out⟩, Lib.hid (((HB'.out.drewN _).set nd _).set 800 _)⟩
                    · as_aux_lemma =>
                        go_wp2
                        go_region
                        go_wp2
                        go_roundg (s.size - (k + 1))
                        case measure => omega
                        case rel => exact ⟨⟨M * 10 + (s[k].toNat - 48), nd + 1, dp, sd, true, tr⟩, k + 1, by omega, by go_num, rfl, rfl, HB.out.1, HB.out.2, ⟨_, (((HF'.out.drewN _).setD hnm s[k].toNat).setNd ((nd + 1 : Nat) : Int)), HG2.out⟩, Lib.hid (((HB'.out.drewN _).set nd _).set 800 _)⟩
                  · have HB := Lib.hid (HYES.out _ (by rw [sdStep, if_neg h46, if_pos hd, if_neg h48, if_neg hnm]))
                    have b800 : decide (nd < 800) = false := decide_eq_false hnm
                    by_cases hz : s[k] = 48
                    · have b48 : ((s[k].toNat : Int) == 48) = true := beq_t (d := 48) hz
                      have c48 : ((s[k].toNat : Int) != 48) = false := bne_f (d := 48) hz
                      have bnd : ((nd : Int) == 0) = false := beq_eq_false_iff_ne.2 (fun e => h48 ⟨hz, by omega⟩)
                      rw [if_pos hz] at HB
                      clear h46 hd h48 hz
                      as_aux_lemma =>
                        go_wp2
                        go_roundg (s.size - (k + 1))
                        case measure => omega
                        case rel => exact ⟨⟨M, nd, dp, sd, true, tr⟩, k + 1, by omega, by go_num, rfl, rfl, HB.out.1, HB.out.2, ⟨f', HF'.out, HG.out⟩, HB'⟩
                    · have b48 : ((s[k].toNat : Int) == 48) = false := beq_f (d := 48) hz
                      have c48 : ((s[k].toNat : Int) != 48) = true := bne_t (d := 48) hz
                      rw [if_neg hz] at HB
                      clear h46 hd h48 hz
                      as_aux_lemma =>
                        go_wp2
                        go_roundg (s.size - (k + 1))
                        case measure => omega
                        case rel => exact ⟨⟨M, nd, dp, sd, true, true⟩, k + 1, by omega, by go_num, rfl, rfl, HB.out.1, HB.out.2, ⟨f', HF'.out.setTr true, HG.out⟩, Lib.hid (HB'.out.set 803 _)⟩
              · have HB : Hid (sdR s.data.toList = sdTail s.data.toList ⟨M, nd, dp, sd, sg, tr⟩ k ∧ (s.data.toList.drop k).head? ≠ some 46) := by
                  refine ⟨HNO.out (by rw [sdStep, if_neg h46, if_neg hd]), ?_⟩
                  rw [drop_head _ _ hkl, ← byte_get s k hlt]; exact fun e => h46 (Option.some.inj e)
                have hnd : s[k].toNat < 48 ∨ 57 < s[k].toNat := by
                  simp [isDig, digB] at hd; omega
                clear h46 hd
                rcases hnd with hnd | hnd <;>
                · as_aux_lemma =>
                    go_wp2
                    go_meet
                    exact ⟨⟨M, nd, dp, sd, sg, tr⟩, k, rfl, rfl, rfl, by omega, HOK.out, HB, HD', HB'⟩
          · have HB : Hid (sdR s.data.toList = sdTail s.data.toList ⟨M, nd, dp, sd, sg, tr⟩ k ∧ (s.data.toList.drop k).head? ≠ some 46) := by
              refine ⟨HR.out _ _ ?_ HL2.out.2, ?_⟩
              · rw [HL2.out.1, sdLoop_end _ _ _ (by simpa using hlt)]; simp
              · rw [drop_head_end _ _ (by simpa using hlt)]; exact fun e => by cases e
            as_aux_lemma =>
              go_wp2
              go_meet
              exact ⟨⟨M, nd, dp, sd, sg, tr⟩, k, rfl, rfl, rfl, by omega, HOK.out, HB, HD', HB'⟩
      case rest =>
        obtain ⟨⟨M, nd, dp, sd, sg, tr⟩, k, rfl, rfl, rfl, hk, hok, HT, HD', HB'⟩ := hcut
        obtain ⟨o1, o2, o3, o4, o5, o6⟩ := hok
        dsimp only at o1 o2 o3 o4 o5 o6
        clear HR HD1 HB1 o1 o2
        cases sg with
        | false =>
          have HF : Hid (sdR s.data.toList = none) := by
            unfold Hid; rw [HT.out.1, sdTail, if_neg HT.out.2, if_pos rfl]
          as_aux_lemma =>
            go_wp2
            refine bodyPost_ret (v := .bool false) (by simp [results, Tryz.results91, go_sem]) rfl ⟨by rw [HF.out]; rfl, HB'.out, fun d h => by rw [HF.out] at h; cases h⟩
        | true =>
          obtain ⟨f', hF, hg⟩ := HD'.out
          have c800 : wc.cell? ⟨b, 800, none⟩ = some (.int .i64 nd) := hF.nd
          have c801 : wc.cell? ⟨b, 801, none⟩ = some (.int .i64 dp) := hF.dp
          have f801 := hF.fz 801
          have HF' : Hid (DecF wc b f' nd dp ng tr) := hF
          have HG := Lib.hid hg
          clear hF hg
          go_upto_if 120 with (fail)
          go_cut [] (fun wx => ∃ d : Int, -(k : Int) ≤ d ∧ d ≤ k ∧ Hid (d = if sd = true then dp else nd) ∧ Hid (DecF wx b f' nd d ng tr) ∧ Hid (OnlyB b w wx))
          case first =>
            cases sd with
            | true =>
              as_aux_lemma =>
                go_wp2
                go_meet
                exact ⟨dp, o5, o6, rfl, HF', HB'⟩
            | false =>
              as_aux_lemma =>
                go_wp2
                go_meet
                exact ⟨nd, by omega, by omega, rfl, HF'.out.setDp nd, HB'.out.set 801 _⟩
          case rest =>
            clear c800 c801 f801 HD' HF' HB'
            obtain ⟨d, d1, d2, Hd, HF', HB'⟩ := hcut
            have hT0 : sdR s.data.toList = if (s.data.toList.drop k).head? = some 101 ∨ (s.data.toList.drop k).head? = some 69 then sdExp s.data.toList ⟨M, nd, dp, sd, true, tr⟩ d (k + 1) else sdDone s.data.toList ⟨M, nd, dp, sd, true, tr⟩ d k := by
              rw [HT.out.1, sdTail, if_neg HT.out.2, if_neg (by simp), ← Hd.out]
            have HT0 := Lib.hid hT0
            clear hT0 HT Hd
            by_cases he : ∃ h : k < s.size, s[k] = 101 ∨ s[k] = 69
            · obtain ⟨hks, he⟩ := he
              have hl101 : lowB s[k] = 101 := (numCh_facts (HNC.out k hks)).2.2.1.2 he
              have bl : (((lowB s[k]).toNat : Int) == 101) = true := beq_t (d := 101) hl101
              have HT2 : Hid (sdR s.data.toList = sdExp s.data.toList ⟨M, nd, dp, sd, true, tr⟩ d (k + 1)) := by
                unfold Hid; rw [HT0.out, drop_head _ _ (by simpa using hks), if_pos (by rcases he with he | he; exact .inl (by rw [← byte_get s k hks, he]); exact .inr (by rw [← byte_get s k hks, he]))]
              clear HT0 he hl101
              by_cases hk1 : k + 1 < s.size
              · have hkl : k + 1 < s.data.toList.length := by simpa using hk1
                go_upto_block 4 with (go_at_call 100; refine (HL.out _ _).mono ?_; rintro e w' ⟨rfl, rfl⟩)
                go_cut [5, 8] (fun i q wx => ∃ (kk : Nat) (es : Int), i = .int .i64 kk ∧ q = .int .i64 es ∧ wx = wc ∧ kk ≤ s.size ∧ k + 1 ≤ kk ∧ -1 ≤ es ∧ es ≤ 1 ∧ Hid (kk = k + 1 + sgnN (s.data.toList.drop (k + 1))) ∧ Hid (es = if (s.data.toList.drop (k + 1)).head? = some 45 then -1 else 1))
                case first =>
                  have hh : (s.data.toList.drop (k + 1)).head? = some s[k + 1] := drop_head _ _ hkl
                  by_cases h45 : s[k + 1] = 45
                  · have b43 : ((s[k + 1].toNat : Int) == 43) = false := beq_f (d := 43) (by rw [h45]; decide)
                    have b45 : ((s[k + 1].toNat : Int) == 45) = true := beq_t (d := 45) h45
                    have H1 : Hid ((-1 : Int) = if (s.data.toList.drop (k + 1)).head? = some 45 then -1 else 1) := by unfold Hid; rw [hh, h45]; rfl
                    have H2 : Hid (k + 1 + 1 = k + 1 + sgnN (s.data.toList.drop (k + 1))) := by unfold Hid; rw [sgnN, hh, h45]; rfl
                    clear hh h45
                    as_aux_lemma =>
                      go_wp2
                      go_meet
                      exact ⟨k + 1 + 1, -1, by go_num, rfl, rfl, by omega, by omega, by omega, by omega, H2, H1⟩
                  · have b45 : ((s[k + 1].toNat : Int) == 45) = false := beq_f (d := 45) h45
                    have H1 : Hid ((1 : Int) = if (s.data.toList.drop (k + 1)).head? = some 45 then -1 else 1) := by unfold Hid; rw [hh, if_neg (fun e => h45 (Option.some.inj e))]
                    by_cases h43 : s[k + 1] = 43
                    · have b43 : ((s[k + 1].toNat : Int) == 43) = true := beq_t (d := 43) h43
                      have H2 : Hid (k + 1 + 1 = k + 1 + sgnN (s.data.toList.drop (k + 1))) := by unfold Hid; rw [sgnN, hh, h43]; rfl
                      clear hh h45 h43
                      as_aux_lemma =>
                        go_wp2
                        go_meet
                        exact ⟨k + 1 + 1, 1, by go_num, rfl, rfl, by omega, by omega, by omega, by omega, H2, H1⟩
                    · have b43 : ((s[k + 1].toNat : Int) == 43) = false := beq_f (d := 43) h43
                      have H2 : Hid (k + 1 = k + 1 + sgnN (s.data.toList.drop (k + 1))) := by unfold Hid; rw [sgnN, hh, if_neg (fun e => e.elim (fun e => h43 (Option.some.inj e)) (fun e => h45 (Option.some.inj e)))]
                      clear hh h45 h43
                      as_aux_lemma =>
                        go_wp2
                        go_meet
                        exact ⟨k + 1, 1, by go_num, rfl, rfl, by omega, by omega, by omega, by omega, H2, H1⟩
                case rest =>
                  obtain ⟨kk, es, rfl, rfl, rfl, hkk, hkk1, es1, es2, HK, HES⟩ := hcut
                  have HX : Hid (sdExp s.data.toList ⟨M, nd, dp, sd, true, tr⟩ d (k + 1) = if nWhile isDig (s.data.toList.drop kk) = 0 then none else sdDone s.data.toList ⟨M, nd, dp, sd, true, tr⟩ (d + (eLoop 0 (s.data.toList.drop kk)).1 * es) (kk + (eLoop 0 (s.data.toList.drop kk)).2)) := by
                    unfold Hid; rw [sdExp, if_neg (by omega), ← HK.out, ← HES.out]
                  clear HK HES
                  by_cases hd : ∃ h : kk < s.size, isDig s[kk] = true
                  · obtain ⟨hks2, hd⟩ := hd
                    have hd1 := (dig_bd hd).1
                    have hd2 := (dig_bd hd).2
                    have HX2 : Hid (sdR s.data.toList = sdDone s.data.toList ⟨M, nd, dp, sd, true, tr⟩ (d + (eLoop 0 (s.data.toList.drop kk)).1 * es) (kk + (eLoop 0 (s.data.toList.drop kk)).2)) := by
                      unfold Hid; rw [HT2.out, HX.out, nWhile_yes isDig _ _ (by simpa using hks2) hd, if_neg (by omega)]
                    have q1 : decide (s.size ≤ kk) = false := by simp; omega
                    have q2 : decide ((s[kk].toNat : Int) < 48) = false := by simp; omega
                    have q3 : decide (57 < (s[kk].toNat : Int)) = false := by simp; omega
                    clear hd HX
                    go_upto_block 5 with (fail)
                    clear q1 q2 q3
                    go_cut [5, 9] (fun i e wx => ∃ (j ev : Nat), i = .int .i64 j ∧ e = .int .i64 ev ∧ wx = wc ∧ j ≤ s.size ∧ kk ≤ j ∧ ev ≤ 1000000 ∧ Hid (eLoop 0 (s.data.toList.drop kk) = (ev, j - kk)))
                    case first =>
                      as_aux_lemma =>
                      go_wp2
                      go_loop [5, 9] (fun i e => ∃ (j ev : Nat), i = .int .i64 j ∧ e = .int .i64 ev ∧ j ≤ s.size ∧ kk ≤ j ∧ ev ≤ 1000000 ∧ Hid (eLoop 0 (s.data.toList.drop kk) = ((eLoop ev (s.data.toList.drop j)).1, (eLoop ev (s.data.toList.drop j)).2 + (j - kk)))) (fun i _ => s.size - (intOf i).toNat)
                      case atStart => exact ⟨kk, 0, rfl, rfl, hkk, Nat.le_refl _, by omega, by simp [Hid]⟩
                      case round =>
                        obtain ⟨j, ev, rfl, rfl, hj, hkj, hev, HE⟩ := hrel
                        by_cases hlt : j < s.size
                        · have hjl : j < s.data.toList.length := by simpa using hlt
                          have b95 : ((s[j].toNat : Int) == 95) = false := beq_f (d := 95) (numCh_facts (HNC.out j hlt)).1
                          by_cases hdj : isDig s[j] = true
                          · have e1 := (dig_bd hdj).1
                            have e2 := (dig_bd hdj).2
                            have HY := Lib.hid (eLoop_yes ev _ j hjl hdj)
                            clear hdj
                            by_cases h4 : ev < 10000
                            · have HB : Hid (eLoop 0 (s.data.toList.drop kk) = ((eLoop (ev * 10 + (s[j].toNat - 48)) (s.data.toList.drop (j + 1))).1, (eLoop (ev * 10 + (s[j].toNat - 48)) (s.data.toList.drop (j + 1))).2 + (j + 1 - kk))) := by
                                unfold Hid; rw [HE.out, HY.out, if_pos h4, ← byte_get s j hlt]; simp; omega
                              as_aux_lemma =>
                                go_wp2
                                go_round
                                case rel => exact ⟨j + 1, ev * 10 + (s[j].toNat - 48), by go_num, by congr 1; omega, by omega, by omega, by omega, HB⟩
                                case measure => simp [intOf]; omega
                            · have HB : Hid (eLoop 0 (s.data.toList.drop kk) = ((eLoop ev (s.data.toList.drop (j + 1))).1, (eLoop ev (s.data.toList.drop (j + 1))).2 + (j + 1 - kk))) := by
                                unfold Hid; rw [HE.out, HY.out, if_neg h4]; simp; omega
                              as_aux_lemma =>
                                go_wp2
                                go_round
                                case rel => exact ⟨j + 1, ev, by go_num, rfl, by omega, by omega, by omega, HB⟩
                                case measure => simp [intOf]; omega
                          · have HB : Hid (eLoop 0 (s.data.toList.drop kk) = (ev, j - kk)) := by
                              unfold Hid; rw [HE.out, eLoop_no _ _ _ hjl (by cases hx : isDig s[j] with | true => exact absurd hx hdj | false => exact hx)]; simp
                            have hnd : s[j].toNat < 48 ∨ (48 ≤ s[j].toNat ∧ 57 < s[j].toNat) := by
                              simp [isDig, digB] at hdj; omega
                            clear hdj
                            rcases hnd with hnd | ⟨hnd1, hnd2⟩ <;>
                            · as_aux_lemma =>
                                go_wp2
                                go_meet
                                exact ⟨j, ev, rfl, rfl, rfl, hj, hkj, hev, HB⟩
                        · have HB : Hid (eLoop 0 (s.data.toList.drop kk) = (ev, j - kk)) := by
                            unfold Hid; rw [HE.out, eLoop_end _ _ _ (by simpa using hlt)]; simp
                          as_aux_lemma =>
                            go_wp2
                            go_meet
                            exact ⟨j, ev, rfl, rfl, rfl, hj, hkj, hev, HB⟩
                    case rest =>
                      obtain ⟨j, ev, rfl, rfl, rfl, hj, hkj, hev, HE⟩ := hcut
                      have hev2 : -1000000 ≤ (ev : Int) * es ∧ (ev : Int) * es ≤ 1000000 := by
                        rcases (show es = -1 ∨ es = 0 ∨ es = 1 by omega) with h | h | h <;> rw [h] <;> omega
                      obtain ⟨p, hp⟩ : ∃ p : Int, p = (ev : Int) * es := ⟨_, rfl⟩
                      rw [← hp] at hev2
                      obtain ⟨p1, p2⟩ := hev2
                      have hmul : IntKind.i64.wrap ((ev : Int) * es) = p := by rw [← hp]; exact IntWalk.i64_in _ (by omega)
                      have HF0 : Hid (sdR s.data.toList = if j = s.data.toList.length then some ⟨M, nd, d + p, tr⟩ else none) := by
                        unfold Hid; rw [HX2.out, HE.out]
                        show sdDone _ _ _ (kk + (j - kk)) = _
                        rw [show kk + (j - kk) = j by omega, ← hp, sdDone]
                      have c801 : wc.cell? ⟨b, 801, none⟩ = some (.int .i64 d) := HF'.out.dp
                      have f801 := HF'.out.fz 801
                      clear hp
                      by_cases hjs : j = s.size
                      · have HF : Hid (sdR s.data.toList = some ⟨M, nd, d + p, tr⟩) := by
                          unfold Hid; rw [HF0.out, if_pos (by simpa using hjs)]
                        subst hjs
                        as_aux_lemma =>
                          go_wp2
                          refine bodyPost_ret (v := .bool true) (by simp [results, Tryz.results91, go_sem]) rfl ⟨by rw [HF.out]; rfl, HB'.out.set 801 _, fun x h => by rw [HF.out] at h; cases h; rw [HNG.out]; exact ⟨f', HF'.out.setDp (d + p), HG.out⟩⟩
                      · have HF : Hid (sdR s.data.toList = none) := by
                          unfold Hid; rw [HF0.out, if_neg (by simpa using hjs)]
                        have bj : ((j : Int) != (s.size : Int)) = true := by rw [bne_iff_ne]; omega
                        as_aux_lemma =>
                          go_wp2
                          refine bodyPost_ret (v := .bool false) (by simp [results, Tryz.results91, go_sem]) rfl ⟨by rw [HF.out]; rfl, HB'.out.set 801 _, fun x h => by rw [HF.out] at h; cases h⟩
                  · have HF : Hid (sdR s.data.toList = none) := by
                      have h0 : nWhile isDig (s.data.toList.drop kk) = 0 := by
                        by_cases h : kk < s.size
                        · exact nWhile_no _ _ _ (by simpa using h) (by cases hx : isDig s[kk] with | true => exact absurd ⟨h, hx⟩ hd | false => exact hx)
                        · exact nWhile_end _ _ _ (by simpa using h)
                      unfold Hid; rw [HT2.out, HX.out, if_pos h0]
                    have hb : ¬ kk < s.size ∨ (∃ h : kk < s.size, s[kk].toNat < 48 ∨ (48 ≤ s[kk].toNat ∧ 57 < s[kk].toNat)) := by
                      by_cases h : kk < s.size
                      · refine .inr ⟨h, ?_⟩
                        have : ¬ isDig s[kk] = true := fun e => hd ⟨h, e⟩
                        simp [isDig, digB] at this; omega
                      · exact .inl h
                    clear hd
                    rcases hb with hb | ⟨hks2, hb | ⟨hb1, hb2⟩⟩ <;>
                    · as_aux_lemma =>
                        go_wp2
                        refine bodyPost_ret (v := .bool false) (by simp [results, Tryz.results91, go_sem]) rfl ⟨by rw [HF.out]; rfl, HB'.out, fun x h => by rw [HF.out] at h; cases h⟩
              · have HF : Hid (sdR s.data.toList = none) := by
                  unfold Hid; rw [HT2.out, sdExp, if_pos (by simp; omega)]
                as_aux_lemma =>
                  go_wp2_with (go_at_call 100; refine (HL.out _ _).mono ?_; rintro e w' ⟨rfl, rfl⟩)
                  refine bodyPost_ret (v := .bool false) (by simp [results, Tryz.results91, go_sem]) rfl ⟨by rw [HF.out]; rfl, HB'.out, fun x h => by rw [HF.out] at h; cases h⟩
            · have hb : ¬ k < s.size ∨ (∃ h : k < s.size, (((lowB s[k]).toNat : Int) == 101) = false) := by
                by_cases h : k < s.size
                · exact .inr ⟨h, beq_f (d := 101) (fun e => he ⟨h, (numCh_facts (HNC.out k h)).2.2.1.1 e⟩)⟩
                · exact .inl h
              have HT2 : Hid (sdR s.data.toList = if k = s.data.toList.length then some ⟨M, nd, d, tr⟩ else none) := by
                unfold Hid; rw [HT0.out, if_neg, sdDone]
                intro hh
                apply he
                by_cases h : k < s.size
                · rw [drop_head _ _ (by simpa using h)] at hh; exact ⟨h, hh.elim (fun e => .inl (Option.some.inj e)) (fun e => .inr (Option.some.inj e))⟩
                · rw [drop_head_end _ _ (by simpa using h)] at hh; simp at hh
              have HB := Lib.hid hb
              clear HT0 he hb
              by_cases hks0 : k < s.size
              · have HF : Hid (sdR s.data.toList = none) := by
                  unfold Hid; rw [HT2.out, if_neg (by simp; omega)]
                have bj : ((k : Int) != (s.size : Int)) = true := by rw [bne_iff_ne]; omega
                have hb : (((lowB s[k]).toNat : Int) == 101) = false := by
                  rcases HB.out with h | ⟨_, h⟩
                  · exact absurd hks0 h
                  · exact h
                as_aux_lemma =>
                  go_wp2_with (go_at_call 100; refine (HL.out _ _).mono ?_; rintro e w' ⟨rfl, rfl⟩)
                  refine bodyPost_ret (v := .bool false) (by simp [results, Tryz.results91, go_sem]) rfl ⟨by rw [HF.out]; rfl, HB'.out, fun x h => by rw [HF.out] at h; cases h⟩
              · have HF : Hid (sdR s.data.toList = some ⟨M, nd, d, tr⟩) := by
                  unfold Hid; rw [HT2.out, if_pos (by simp; omega)]
                have hke : s.size = k := by omega
                have bj : ((k : Int) != (s.size : Int)) = false := by rw [hke]; simp
                clear hke
                as_aux_lemma =>
                  go_wp2
                  refine bodyPost_ret (v := .bool true) (by simp [results, Tryz.results91, go_sem]) rfl ⟨by rw [HF.out]; rfl, HB'.out, fun x h => by rw [HF.out] at h; cases h; rw [HNG.out]; exact ⟨f', HF'.out, HG.out⟩⟩

end Go.Proofs.YtjncgedjdmgpfaaGreatDoor
