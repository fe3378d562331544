/- The walk of fmtEFG where it writes no exponent. -/
import Derived.Test.YtdencljnbilchaaGreatDoorFb

namespace Go.Proofs.YtdencljnbilchaaGreatDoor
open Go.RowKit

set_option maxRecDepth 100000 in
set_option maxHeartbeats 6400000 in
theorem fmtEFG_F (w : World) (bd : Nat) (v sv : Value) (acc : List UInt8) (ng sh : Bool) (f : Nat → Nat) (nd : Nat) (dp prec : Int) (fmt : Nat)
    (hv : RowAt w 5 v bd (u8s acc)) (hacc : acc.length ≤ 1000) (hsv : digSrc w bd sv f nd dp) (hf : ∀ i, f i < 256) (hfmt : fmt = 101 ∨ fmt = 69 ∨ fmt = 102 ∨ fmt = 103 ∨ fmt = 71)
    (hnd : nd ≤ 1000) (hd1 : -900 ≤ dp) (hd2 : dp ≤ 900) (hp1 : 0 ≤ prec) (h102 : g6 nd dp prec fmt sh = 102) (hp2 : prec ≤ 1000) :
    Calls Tryz.prog 87 #[v, .bool ng, sv, .int .i64 dp, .int .i64 nd, .int .i64 prec, .int .u8 fmt, .bool sh] w fun e w' => ∃ v', e = .returned v' ∧ App w 5 bd v' w' (acc ++ fmtL ng f nd dp prec fmt sh) := by
  obtain ⟨i0, hi0, hz0, hz1, hz2⟩ := info_parts Tryz.info_u8'
  have HA0 : App w 5 bd v w acc := App.start hv
  have HSV := Lib.hid hsv
  have HFL := Lib.hid (fmtL_g ng f nd dp prec fmt sh hfmt)
  clear hv hsv
  go_enter Tryz.func87, Tryz.ntmps87
  go_upto_region 1 with fail
  go_cut [36] (fun c wx => w = wx ∧ c = .bool (decide (fmt = 103 ∨ fmt = 71)))
  case first =>
    as_aux_lemma =>
      rcases hfmt with rfl | rfl | rfl | rfl | rfl
      all_goals
        go_wp2
        go_meet
        exact ⟨rfl, rfl⟩
  case rest =>
  obtain ⟨rfl, rfl⟩ := hcut
  go_upto_if 36 with fail
  go_cut [5, 6] (fun p q wx => w = wx ∧ p = .int .i64 (g5 nd dp prec fmt sh) ∧ q = .int .u8 (g6 nd dp prec fmt sh) ∧ -1 ≤ g5 nd dp prec fmt sh ∧ g5 nd dp prec fmt sh ≤ 2000 ∧ (g6 nd dp prec fmt sh = 101 ∨ g6 nd dp prec fmt sh = 69 ∨ g6 nd dp prec fmt sh = 102))
  case first =>
    by_cases hg : fmt = 103 ∨ fmt = 71
    · have bg : decide (fmt = 103 ∨ fmt = 71) = true := decide_eq_true hg
      have hgE : gE nd dp prec sh = false := by
        cases h : gE nd dp prec sh with
        | false => rfl
        | true => unfold g6 at h102; rw [if_pos hg, if_pos h] at h102; omega
      have e5 : g5 nd dp prec fmt sh = max ((if prec > dp then (nd : Int) else prec) - dp) 0 := by unfold g5; rw [if_pos hg, if_neg (by rw [hgE]; decide)]
      as_aux_lemma =>
        go_upto_region 3 with fail
        go_cut [45] (fun c wx => w = wx ∧ c = .bool (decide (prec > nd ∧ (nd : Int) ≥ dp)))
        case first =>
          as_aux_lemma =>
            by_cases h1 : (nd : Int) < prec
            · by_cases h2 : dp ≤ (nd : Int)
              · have e : decide (prec > nd ∧ (nd : Int) ≥ dp) = true := decide_eq_true ⟨h1, h2⟩
                go_wp2
                go_meet
                exact ⟨rfl, by rw [e]⟩
              · have e : decide (prec > nd ∧ (nd : Int) ≥ dp) = false := decide_eq_false (fun h => h2 h.2)
                go_wp2
                go_meet
                exact ⟨rfl, by rw [e]⟩
            · have e : decide (prec > nd ∧ (nd : Int) ≥ dp) = false := decide_eq_false (fun h => h1 h.1)
              go_wp2
              go_meet
              exact ⟨rfl, by rw [e]⟩
        case rest =>
        obtain ⟨rfl, rfl⟩ := hcut
        obtain ⟨cA, ecA⟩ : ∃ cA, decide (prec > nd ∧ (nd : Int) ≥ dp) = cA := ⟨_, rfl⟩
        have hE1 : (if prec > nd ∧ (nd : Int) ≥ dp then (nd : Int) else prec) = if cA = true then (nd : Int) else prec := by
          rw [← ecA]; by_cases h : prec > nd ∧ (nd : Int) ≥ dp
          · rw [if_pos h, if_pos (decide_eq_true h)]
          · rw [if_neg h, if_neg (by rw [decide_eq_false h]; decide)]
        have HG0 : Hid (gE nd dp prec sh = (decide (dp - 1 < -4) || decide ((if sh = true then 6 else if cA = true then (nd : Int) else prec) ≤ dp - 1))) := by
          unfold Hid gE; rw [hE1]
        rw [ecA]
        clear hE1 ecA
        go_upto_if 45 with fail
        go_cut [17] (fun c wx => w = wx ∧ c = .int .i64 (if cA = true then (nd : Int) else prec))
        case first =>
          as_aux_lemma =>
            cases cA with
            | true =>
              go_wp2
              go_meet
              exact ⟨rfl, rfl⟩
            | false =>
              go_wp2
              go_meet
              exact ⟨rfl, rfl⟩
        case rest =>
        obtain ⟨rfl, rfl⟩ := hcut
        generalize (if cA = true then (nd : Int) else prec) = E1 at *
        go_upto_if 47 with fail
        go_cut [17] (fun c wx => w = wx ∧ c = .int .i64 (if sh = true then 6 else E1))
        case first =>
          as_aux_lemma =>
            cases sh with
            | true =>
              go_wp2
              go_meet
              exact ⟨rfl, rfl⟩
            | false =>
              go_wp2
              go_meet
              exact ⟨rfl, rfl⟩
        case rest =>
        obtain ⟨rfl, rfl⟩ := hcut
        generalize (if sh = true then 6 else E1) = E at *
        as_aux_lemma =>
          go_upto_region 8 with fail
          go_cut [56] (fun c wx => w = wx ∧ c = .bool (gE nd dp prec sh))
          case first =>
            as_aux_lemma =>
              by_cases h1 : dp - 1 < -4
              · have e : gE nd dp prec sh = true := by rw [HG0.out, decide_eq_true h1]; rfl
                go_wp2
                go_meet
                exact ⟨rfl, by rw [e]⟩
              · by_cases h2 : E ≤ dp - 1
                · have e : gE nd dp prec sh = true := by rw [HG0.out, decide_eq_true h2, Bool.or_true]
                  go_wp2
                  go_meet
                  exact ⟨rfl, by rw [e]⟩
                · have e : gE nd dp prec sh = false := by rw [HG0.out, decide_eq_false h1, decide_eq_false h2]; rfl
                  go_wp2
                  go_meet
                  exact ⟨rfl, by rw [e]⟩
          case rest =>
          obtain ⟨rfl, rfl⟩ := hcut
          rw [hgE]
          clear HG0
          go_upto_if 68 with fail
          go_cut [5] (fun c wx => w = wx ∧ c = .int .i64 (if prec > dp then (nd : Int) else prec))
          case first =>
            as_aux_lemma =>
              by_cases h1 : dp < prec
              · go_wp2
                go_meet
                exact ⟨rfl, by rw [if_pos h1]⟩
              · go_wp2
                go_meet
                exact ⟨rfl, by rw [if_neg (by omega)]⟩
          case rest =>
          obtain ⟨rfl, rfl⟩ := hcut
          have hp0 : 0 ≤ (if prec > dp then (nd : Int) else prec) := by split <;> omega
          have hp3 : (if prec > dp then (nd : Int) else prec) ≤ 1000 := by split <;> omega
          generalize (if prec > dp then (nd : Int) else prec) = p1 at *
          as_aux_lemma =>
            by_cases h1 : p1 - dp < 0
            · have e : max (p1 - dp) 0 = 0 := by omega
              go_wp2
              go_meet
              exact ⟨rfl, by rw [e5, e], by rw [h102]; rfl, by rw [e5, e]; omega, by rw [e5, e]; omega, .inr (.inr h102)⟩
            · have e : max (p1 - dp) 0 = p1 - dp := by omega
              go_wp2
              go_meet
              exact ⟨rfl, by rw [e5, e], by rw [h102]; rfl, by rw [e5, e]; omega, by rw [e5, e]; omega, .inr (.inr h102)⟩
    · have bg : decide (fmt = 103 ∨ fmt = 71) = false := decide_eq_false hg
      have e5 : g5 nd dp prec fmt sh = prec := by unfold g5; rw [if_neg hg]
      have e6 : g6 nd dp prec fmt sh = fmt := by unfold g6; rw [if_neg hg]
      as_aux_lemma =>
        go_wp2
        go_meet
        exact ⟨rfl, by rw [e5], by rw [e6], by omega, by omega, by omega⟩
  case rest =>
    obtain ⟨rfl, rfl, rfl, hp1, hp2, hq⟩ := hcut
    generalize g5 nd dp prec fmt sh = pr at *
    generalize g6 nd dp prec fmt sh = fm at *
    rw [if_pos h102] at HFL
    have b102 : ((fm : Int) == 102) = true := by rw [h102]; rfl
    have b101 : ((fm : Int) == 101) = false := beq_eq_false_iff_ne.2 (by omega)
    have b69 : ((fm : Int) == 69) = false := beq_eq_false_iff_ne.2 (by omega)
    clear hq h102
    as_aux_lemma =>
      go_upto_if 178 with fail
      go_cut [0] (fun u wx => ∃ a1, Hid (a1 = acc ++ sgnL ng) ∧ a1.length ≤ 1001 ∧ App w 5 bd u wx a1)
      case first =>
        as_aux_lemma =>
          cases ng with
          | true =>
            go_wp2_with (at_builtin; refine wpList_app _ rfl _ _ 33 rfl 5 i0 (.int .u8 0) Tryz.underlying33 hi0 hz0 hz1 hz2 rfl _ _ _ _ [45] rfl (HA0.alloc _) _ _ _ rfl rfl (app_cell1 _ _ _ _ rfl) (by simp only [lenS]; omega) ?_; intro v' w' h1)
            go_wp2
            go_meet
            exact ⟨_, rfl, by simp [sgnL]; omega, h1⟩
          | false =>
            go_wp2
            go_meet
            exact ⟨acc, by simp [Hid, sgnL], by omega, HA0⟩
      case rest =>
        obtain ⟨a1, H1, hl1, HA1⟩ := hcut
        as_aux_lemma =>
          obtain ⟨bp, hbp⟩ : ∃ bp : Bool, decide (0 < dp) = bp := ⟨_, rfl⟩
          go_upto_if 183 with fail
          go_cut [0] (fun u wx => ∃ a2, Hid (a2 = a1 ++ wholeL f nd dp) ∧ a2.length ≤ 2002 ∧ App w 5 bd u wx a2)
          case first =>
            cases bp with
            | true =>
              have hd : 0 < dp := of_decide_eq_true hbp
              obtain ⟨D, rfl⟩ : ∃ D : Nat, dp = D := ⟨dp.toNat, by omega⟩
              rcases HSV.out with ⟨_, h⟩ | ⟨b, len, cap, rfl, h1, h2, hcap, hcp, hb, h5⟩
              · omega
              · obtain ⟨m, em⟩ : ∃ m, min nd D = m := ⟨_, rfl⟩
                have hm : (if D < nd then (D : Int) else (nd : Int)) = (m : Int) := by split <;> omega
                obtain ⟨Z, eZ⟩ : ∃ Z : Nat, D - m = Z := ⟨_, rfl⟩
                have hZ : (D : Int) - m = Z := by omega
                have HW : Hid (wholeL f nd (D : Int) = digsL f 0 m ++ zerosL Z) := by
                  unfold Hid wholeL; rw [if_pos hd, Int.toNat_natCast, em, eZ]
                have hmn : m ≤ nd := by omega
                have hmD : m ≤ D := by omega
                have hml : m ≤ len := by omega
                have hc0 : ¬ cap = 0 := by omega
                have H5 := Lib.hid h5
                clear h5 em eZ
                as_aux_lemma =>
                  go_wp2
                  go_loopg [0, 25, 191] m (fun g u c k wx => ∃ kk : Nat, g + kk = m ∧ k = .int .i64 kk ∧ App w 5 bd u wx (a1 ++ digsL f 0 kk))
                  case atStart => exact ⟨0, by omega, rfl, by simpa [digsL] using HA1⟩
                  case round =>
                    obtain ⟨kk, hk, rfl, HA5⟩ := hrel
                    by_cases hkk : kk < m
                    · have ck := World.grownBy.cell HA5.only (H5.out kk (by omega)) (fun e => hb (Option.some.inj e))
                      have hfk := hf kk
                      go_wp2_with (at_builtin; refine wpList_app _ rfl _ _ 33 rfl 5 i0 (.int .u8 0) Tryz.underlying33 hi0 hz0 hz1 hz2 rfl _ _ _ _ [UInt8.ofNat (f kk)] rfl (HA5.alloc _) _ _ _ rfl rfl (app_cell1 _ _ _ _ (ofNat_toNat8 hfk).symm) (by simp only [lenS]; omega) ?_; intro v' w' h6)
                      go_roundg (m - (kk + 1))
                      case measure => omega
                      case rel => exact ⟨kk + 1, by omega, by go_num, by rw [digsL_succ, Nat.zero_add, ← List.append_assoc]; exact h6⟩
                    · obtain rfl : kk = m := by omega
                      go_wp2
                      go_loopg [0, 203] Z (fun g u k wx => ∃ kz : Nat, g + kz = Z ∧ k = .int .i64 kz ∧ App w 5 bd u wx (a1 ++ digsL f 0 kk ++ zerosL kz))
                      case atStart => exact ⟨0, by omega, rfl, by simpa [zerosL] using HA5⟩
                      case round =>
                        obtain ⟨kz, hkz, rfl, HA6⟩ := hrel
                        by_cases hkk : kz < Z
                        · go_wp2_with (at_builtin; refine wpList_app _ rfl _ _ 33 rfl 5 i0 (.int .u8 0) Tryz.underlying33 hi0 hz0 hz1 hz2 rfl _ _ _ _ [48] rfl (HA6.alloc _) _ _ _ rfl rfl (app_cell1 _ _ _ _ rfl) (by simp only [lenS]; omega) ?_; intro v' w' h6)
                          go_roundg (Z - (kz + 1))
                          case measure => omega
                          case rel => exact ⟨kz + 1, by omega, by go_num, by rw [zerosL_succ, ← List.append_assoc]; exact h6⟩
                        · obtain rfl : kz = Z := by omega
                          go_wp2
                          go_meet
                          exact ⟨_, by unfold Hid; rw [HW.out]; simp only [List.append_assoc], by simp only [List.length_append, digsL_len, zerosL_len]; omega, HA6⟩
            | false =>
              have hd : ¬ 0 < dp := of_decide_eq_false hbp
              as_aux_lemma =>
                go_wp2_with (at_builtin; refine wpList_app _ rfl _ _ 33 rfl 5 i0 (.int .u8 0) Tryz.underlying33 hi0 hz0 hz1 hz2 rfl _ _ _ _ [48] rfl (HA1.alloc _) _ _ _ rfl rfl (app_cell1 _ _ _ _ rfl) (by simp only [lenS]; omega) ?_; intro v' w' h6)
                go_wp2
                go_meet
                exact ⟨_, by unfold Hid wholeL; rw [if_neg (by omega)], by simp only [List.length_append, List.length_cons, List.length_nil]; omega, h6⟩
          case rest =>
            obtain ⟨a2, H2, hl2, HA2⟩ := hcut
            as_aux_lemma =>
              have HE : Hid (acc ++ fmtL ng f nd dp prec fmt sh = a2 ++ fracL f nd dp pr) := by
                unfold Hid; rw [HFL.out, fmtF, H2.out, H1.out]; simp only [List.append_assoc]
              clear HFL
              by_cases hpr : 0 < pr
              · obtain ⟨N, rfl⟩ : ∃ N : Nat, pr = N := ⟨pr.toNat, by omega⟩
                have HFR : Hid (fracL f nd dp N = [46] ++ zerosL (lzN dp N) ++ digsL f (dp + lzN dp N).toNat (midN nd dp N) ++ zerosL (N - lzN dp N - midN nd dp N)) := by
                  unfold Hid fracL; rw [if_pos hpr, Int.toNat_natCast]
                have hlz : lzN dp N = min N (-dp).toNat := by unfold lzN; rw [Int.toNat_natCast]
                have hmd : midN nd dp N = min (N - lzN dp N) (nd - (dp + lzN dp N).toNat) := by unfold midN; rw [Int.toNat_natCast]
                generalize lzN dp N = lz at *
                generalize midN nd dp N = md at *
                have HLZ := Lib.hid hlz
                have HMD := Lib.hid hmd
                clear hlz hmd
                go_upto_region 69 with (at_builtin; refine wpList_app _ rfl _ _ 33 rfl 5 i0 (.int .u8 0) Tryz.underlying33 hi0 hz0 hz1 hz2 rfl _ _ _ _ [46] rfl (HA2.alloc _) _ _ _ rfl rfl (app_cell1 _ _ _ _ rfl) (by simp only [lenS]; omega) ?_; intro v' w' h3)
                go_cut [0, 26] (fun u c wx => App w 5 bd u wx (a2 ++ [46]) ∧ c = .int .i64 lz)
                case first =>
                  as_aux_lemma =>
                    by_cases h0 : 0 < dp
                    · obtain rfl : lz = 0 := by have := HLZ.out; omega
                      obtain ⟨D, rfl⟩ : ∃ D : Nat, dp = D := ⟨dp.toNat, by omega⟩
                      have hw : RowKit.wrap64 (-(D : Int)) = -(D : Int) := by unfold RowKit.wrap64; omega
                      have hz2 : ¬ (0 : Int) < -(D : Int) := by omega
                      clear hd1 hd2
                      go_wp2
                      go_meet
                      exact ⟨h3, rfl⟩
                    · obtain ⟨q, hq⟩ : ∃ q : Nat, -dp = q := ⟨(-dp).toNat, by omega⟩
                      have hlq : lz = min N q := by have := HLZ.out; omega
                      by_cases h1 : q = 0
                      · obtain rfl : lz = 0 := by omega
                        obtain rfl : dp = 0 := by omega
                        clear hq hlq h0
                        go_wp2
                        go_meet
                        exact ⟨h3, rfl⟩
                      · by_cases h2 : q < N
                        · obtain rfl : lz = q := by omega
                          clear hlq
                          go_wp2
                          go_meet
                          exact ⟨h3, rfl⟩
                        · obtain rfl : lz = N := by omega
                          clear hlq
                          go_wp2
                          go_meet
                          exact ⟨h3, rfl⟩
                case rest =>
                  obtain ⟨HA3, rfl⟩ := hcut
                  as_aux_lemma =>
                    have hlzN : lz ≤ N := by have := HLZ.out; omega
                    obtain ⟨o, ho⟩ : ∃ o : Int, dp + (lz : Int) = o := ⟨_, rfl⟩
                    obtain ⟨P, hP⟩ : ∃ P : Nat, (N : Int) - lz = P := ⟨N - lz, by omega⟩
                    obtain ⟨Z, hZ⟩ : ∃ Z : Nat, (P : Int) - md = Z := ⟨P - md, by have := HMD.out; omega⟩
                    have hmdP : md ≤ P := by have := HMD.out; omega
                    have hPN : P ≤ N := by omega
                    have HOP : Hid ((0 ≤ o ∧ md = min P (nd - o.toNat)) ∨ (o < 0 ∧ P = 0)) := by
                      unfold Hid
                      have h1 := HLZ.out
                      have h2 := HMD.out
                      by_cases h0 : 0 ≤ o
                      · left; refine ⟨h0, ?_⟩; rw [← ho]; omega
                      · right; omega
                    have HFR2 : Hid (fracL f nd dp N = [46] ++ zerosL lz ++ digsL f o.toNat md ++ zerosL Z) := by
                      unfold Hid; rw [HFR.out, ho]; congr 2; omega
                    clear HFR
                    have hob : -2000 ≤ o ∧ o ≤ 4000 := by omega
                    obtain ⟨hob1, hob2⟩ := hob
                    go_upto_region 71 with fail
                    go_cut [0, 28] (fun u c wx => App w 5 bd u wx (a2 ++ [46]) ∧ c = .int .i64 md)
                    case first =>
                      as_aux_lemma =>
                        by_cases h0 : (nd : Int) - o ≤ 0
                        · obtain rfl : md = 0 := by have := HOP.out; omega
                          by_cases hP0 : P = 0
                          · subst hP0
                            go_wp2
                            go_meet
                            exact ⟨HA3, rfl⟩
                          · go_wp2
                            go_meet
                            exact ⟨HA3, rfl⟩
                        · obtain ⟨r, hr⟩ : ∃ r : Nat, (nd : Int) - o = r := ⟨((nd : Int) - o).toNat, by omega⟩
                          have hr0 : 0 < r := by omega
                          by_cases hrP : r < P
                          · obtain rfl : md = r := by have := HOP.out; omega
                            go_wp2
                            go_meet
                            exact ⟨HA3, rfl⟩
                          · obtain rfl : md = P := by have := HOP.out; omega
                            go_wp2
                            go_meet
                            exact ⟨HA3, rfl⟩
                    case rest =>
                      obtain ⟨HA4, rfl⟩ := hcut
                      as_aux_lemma =>
                        go_upto_region 72 with fail
                        go_cut [0, 29] (fun u c wx => App w 5 bd u wx (a2 ++ [46]) ∧ c = .int .i64 Z)
                        case first =>
                          as_aux_lemma =>
                            by_cases hZ0 : Z = 0
                            · subst hZ0
                              go_wp2
                              go_meet
                              exact ⟨HA4, rfl⟩
                            · go_wp2
                              go_meet
                              exact ⟨HA4, rfl⟩
                        case rest =>
                          obtain ⟨HA5, rfl⟩ := hcut
                          as_aux_lemma =>
                            go_wp2
                            go_loopg [0, 240] lz (fun g u k wx => ∃ kk : Nat, g + kk = lz ∧ k = .int .i64 kk ∧ App w 5 bd u wx (a2 ++ [46] ++ zerosL kk))
                            case atStart => exact ⟨0, by omega, rfl, by simpa [zerosL] using HA5⟩
                            case round =>
                              obtain ⟨kk, hk, rfl, HA6⟩ := hrel
                              by_cases hkk : kk < lz
                              · go_wp2_with (at_builtin; refine wpList_app _ rfl _ _ 33 rfl 5 i0 (.int .u8 0) Tryz.underlying33 hi0 hz0 hz1 hz2 rfl _ _ _ _ [48] rfl (HA6.alloc _) _ _ _ rfl rfl (app_cell1 _ _ _ _ rfl) (by simp only [lenS]; omega) ?_; intro v' w' h6)
                                go_roundg (lz - (kk + 1))
                                case measure => omega
                                case rel => exact ⟨kk + 1, by omega, by go_num, by rw [zerosL_succ, ← List.append_assoc]; exact h6⟩
                              · obtain rfl : kk = lz := by omega
                                as_aux_lemma =>
                                  go_wp2
                                  go_loopg [0, 30, 247] md (fun g u c k wx => ∃ k2 : Nat, g + k2 = md ∧ k = .int .i64 k2 ∧ App w 5 bd u wx (a2 ++ [46] ++ zerosL kk ++ digsL f o.toNat k2))
                                  case atStart => exact ⟨0, by omega, rfl, by simpa [digsL] using HA6⟩
                                  case round =>
                                    obtain ⟨k2, hk2, rfl, HA7⟩ := hrel
                                    by_cases hkm : k2 < md
                                    · have ho0 : 0 ≤ o ∧ o + k2 < nd := by have := HOP.out; omega
                                      obtain ⟨O, rfl⟩ : ∃ O : Nat, o = O := ⟨o.toNat, by omega⟩
                                      rcases HSV.out with ⟨h, _⟩ | ⟨b, len, cap, rfl, h1, h2, hcap, hcp, hb, h5⟩
                                      · omega
                                      · have ck := World.grownBy.cell HA7.only (h5 (O + k2) (by omega)) (fun e => hb (Option.some.inj e))
                                        have hfk := hf (O + k2)
                                        have hOl : O + k2 < len := by omega
                                        clear h5
                                        as_aux_lemma =>
                                          go_wp2_with (at_builtin; refine wpList_app _ rfl _ _ 33 rfl 5 i0 (.int .u8 0) Tryz.underlying33 hi0 hz0 hz1 hz2 rfl _ _ _ _ [UInt8.ofNat (f (O + k2))] rfl (HA7.alloc _) _ _ _ rfl rfl (app_cell1 _ _ _ _ (ofNat_toNat8 hfk).symm) (by simp only [lenS]; omega) ?_; intro v' w' h6)
                                          go_roundg (md - (k2 + 1))
                                          case measure => omega
                                          case rel => exact ⟨k2 + 1, by omega, by go_num, by rw [digsL_succ, Int.toNat_natCast, ← List.append_assoc]; exact h6⟩
                                    · obtain rfl : k2 = md := by omega
                                      as_aux_lemma =>
                                        go_wp2
                                        go_loopg [0, 261] Z (fun g u k wx => ∃ k3 : Nat, g + k3 = Z ∧ k = .int .i64 k3 ∧ App w 5 bd u wx (a2 ++ [46] ++ zerosL kk ++ digsL f o.toNat k2 ++ zerosL k3))
                                        case atStart => exact ⟨0, by omega, rfl, by simpa [zerosL] using HA7⟩
                                        case round =>
                                          obtain ⟨k3, hk3, rfl, HA8⟩ := hrel
                                          by_cases hkz : k3 < Z
                                          · go_wp2_with (at_builtin; refine wpList_app _ rfl _ _ 33 rfl 5 i0 (.int .u8 0) Tryz.underlying33 hi0 hz0 hz1 hz2 rfl _ _ _ _ [48] rfl (HA8.alloc _) _ _ _ rfl rfl (app_cell1 _ _ _ _ rfl) (by simp only [lenS]; omega) ?_; intro v' w' h6)
                                            go_roundg (Z - (k3 + 1))
                                            case measure => omega
                                            case rel => exact ⟨k3 + 1, by omega, by go_num, by rw [zerosL_succ, ← List.append_assoc]; exact h6⟩
                                          · obtain rfl : k3 = Z := by omega
                                            go_wp2
                                            go_ret
                                            exact ⟨_, rfl, by rw [HE.out, HFR2.out, ← List.append_assoc, ← List.append_assoc, ← List.append_assoc]; exact HA8⟩
              · have hfr : fracL f nd dp pr = [] := by unfold fracL; rw [if_neg hpr]
                rw [hfr, List.append_nil] at HE
                as_aux_lemma =>
                  go_wp2
                  go_ret
                  exact ⟨_, rfl, by rw [HE.out]; exact HA2⟩

end Go.Proofs.YtdencljnbilchaaGreatDoor
