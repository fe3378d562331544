/- The walk of fmtEFG where it writes an exponent. -/
import Derived.Test.YtdencljnbilchaaGreatDoorFb

namespace Go.Proofs.YtdencljnbilchaaGreatDoor
open Go.RowKit

set_option maxRecDepth 100000 in
set_option maxHeartbeats 6400000 in
theorem fmtEFG_E (w : World) (bd : Nat) (v sv : Value) (acc : List UInt8) (ng sh : Bool) (f : Nat → Nat) (nd : Nat) (dp prec : Int) (fmt : Nat)
    (hv : RowAt w 5 v bd (u8s acc)) (hacc : acc.length ≤ 1000) (hsv : digSrc w bd sv f nd dp) (hf : ∀ i, f i < 256) (hfmt : fmt = 101 ∨ fmt = 69 ∨ fmt = 102 ∨ fmt = 103 ∨ fmt = 71)
    (hnd : nd ≤ 1000) (hd1 : -900 ≤ dp) (hd2 : dp ≤ 900) (hp1 : 0 ≤ prec) (h102 : g6 nd dp prec fmt sh ≠ 102) (hp2 : prec ≤ 1000) :
    Calls Tryz.prog 87 #[v, .bool ng, sv, .int .i64 dp, .int .i64 nd, .int .i64 prec, .int .u8 fmt, .bool sh] w fun e w' => ∃ v', e = .returned v' ∧ App w 5 bd v' w' (acc ++ fmtL ng f nd dp prec fmt sh) := by
  obtain ⟨i0, hi0, hz0, hz1, hz2⟩ := info_parts Tryz.info_u8'
  have HA0 : App w 5 bd v w acc := App.start hv
  have HSV := Lib.hid hsv
  have HFL := Lib.hid (fmtL_g ng f nd dp prec fmt sh hfmt)
  clear hv hsv
  go_enter Tryz.func87, Tryz.ntmps87
  go_upto_region 1 with fail
  go_cut [36] (fun c wx => w = wx ∧ c = .bool (decide (fmt = 103 ∨ fmt = 71)))
  case first =>
    as_aux_lemma =>
      rcases hfmt with rfl | rfl | rfl | rfl | rfl
      all_goals
        go_wp2
        go_meet
        exact ⟨rfl, rfl⟩
  case rest =>
  obtain ⟨rfl, rfl⟩ := hcut
  go_upto_if 36 with fail
  go_cut [5, 6] (fun p q wx => w = wx ∧ p = .int .i64 (g5 nd dp prec fmt sh) ∧ q = .int .u8 (g6 nd dp prec fmt sh) ∧ -1 ≤ g5 nd dp prec fmt sh ∧ g5 nd dp prec fmt sh ≤ 2000 ∧ (g6 nd dp prec fmt sh = 101 ∨ g6 nd dp prec fmt sh = 69 ∨ g6 nd dp prec fmt sh = 102))
  case first =>
    by_cases hg : fmt = 103 ∨ fmt = 71
    · have bg : decide (fmt = 103 ∨ fmt = 71) = true := decide_eq_true hg
      have hgE : gE nd dp prec sh = true := by
        cases h : gE nd dp prec sh with
        | true => rfl
        | false => unfold g6 at h102; rw [if_pos hg, if_neg (by rw [h]; decide)] at h102; omega
      have e5 : g5 nd dp prec fmt sh = min prec nd - 1 := by unfold g5; rw [if_pos hg, if_pos hgE]
      have e6 : g6 nd dp prec fmt sh = fmt - 2 := by unfold g6; rw [if_pos hg, if_pos hgE]
      as_aux_lemma =>
        go_upto_region 3 with fail
        go_cut [45] (fun c wx => w = wx ∧ c = .bool (decide (prec > nd ∧ (nd : Int) ≥ dp)))
        case first =>
          as_aux_lemma =>
            by_cases h1 : (nd : Int) < prec
            · by_cases h2 : dp ≤ (nd : Int)
              · have e : decide (prec > nd ∧ (nd : Int) ≥ dp) = true := decide_eq_true ⟨h1, h2⟩
                go_wp2
                go_meet
                exact ⟨rfl, by rw [e]⟩
              · have e : decide (prec > nd ∧ (nd : Int) ≥ dp) = false := decide_eq_false (fun h => h2 h.2)
                go_wp2
                go_meet
                exact ⟨rfl, by rw [e]⟩
            · have e : decide (prec > nd ∧ (nd : Int) ≥ dp) = false := decide_eq_false (fun h => h1 h.1)
              go_wp2
              go_meet
              exact ⟨rfl, by rw [e]⟩
        case rest =>
        obtain ⟨rfl, rfl⟩ := hcut
        obtain ⟨cA, ecA⟩ : ∃ cA, decide (prec > nd ∧ (nd : Int) ≥ dp) = cA := ⟨_, rfl⟩
        have hE1 : (if prec > nd ∧ (nd : Int) ≥ dp then (nd : Int) else prec) = if cA = true then (nd : Int) else prec := by
          rw [← ecA]; by_cases h : prec > nd ∧ (nd : Int) ≥ dp
          · rw [if_pos h, if_pos (decide_eq_true h)]
          · rw [if_neg h, if_neg (by rw [decide_eq_false h]; decide)]
        have HG0 : Hid (gE nd dp prec sh = (decide (dp - 1 < -4) || decide ((if sh = true then 6 else if cA = true then (nd : Int) else prec) ≤ dp - 1))) := by
          unfold Hid gE; rw [hE1]
        rw [ecA]
        clear hE1 ecA
        go_upto_if 45 with fail
        go_cut [17] (fun c wx => w = wx ∧ c = .int .i64 (if cA = true then (nd : Int) else prec))
        case first =>
          as_aux_lemma =>
            cases cA with
            | true =>
              go_wp2
              go_meet
              exact ⟨rfl, rfl⟩
            | false =>
              go_wp2
              go_meet
              exact ⟨rfl, rfl⟩
        case rest =>
        obtain ⟨rfl, rfl⟩ := hcut
        generalize (if cA = true then (nd : Int) else prec) = E1 at *
        go_upto_if 47 with fail
        go_cut [17] (fun c wx => w = wx ∧ c = .int .i64 (if sh = true then 6 else E1))
        case first =>
          as_aux_lemma =>
            cases sh with
            | true =>
              go_wp2
              go_meet
              exact ⟨rfl, rfl⟩
            | false =>
              go_wp2
              go_meet
              exact ⟨rfl, rfl⟩
        case rest =>
        obtain ⟨rfl, rfl⟩ := hcut
        generalize (if sh = true then 6 else E1) = E at *
        as_aux_lemma =>
          go_upto_region 8 with fail
          go_cut [56] (fun c wx => w = wx ∧ c = .bool (gE nd dp prec sh))
          case first =>
            as_aux_lemma =>
              by_cases h1 : dp - 1 < -4
              · have e : gE nd dp prec sh = true := by rw [HG0.out, decide_eq_true h1]; rfl
                go_wp2
                go_meet
                exact ⟨rfl, by rw [e]⟩
              · by_cases h2 : E ≤ dp - 1
                · have e : gE nd dp prec sh = true := by rw [HG0.out, decide_eq_true h2, Bool.or_true]
                  go_wp2
                  go_meet
                  exact ⟨rfl, by rw [e]⟩
                · have e : gE nd dp prec sh = false := by rw [HG0.out, decide_eq_false h1, decide_eq_false h2]; rfl
                  go_wp2
                  go_meet
                  exact ⟨rfl, by rw [e]⟩
          case rest =>
          obtain ⟨rfl, rfl⟩ := hcut
          rw [hgE]
          clear HG0
          go_upto_if 59 with fail
          go_cut [5] (fun c wx => w = wx ∧ c = .int .i64 (min prec nd))
          case first =>
            as_aux_lemma =>
              by_cases h1 : (nd : Int) < prec
              · go_wp2
                go_meet
                exact ⟨rfl, by rw [Int.min_eq_right (by omega)]⟩
              · go_wp2
                go_meet
                exact ⟨rfl, by rw [Int.min_eq_left (by omega)]⟩
          case rest =>
          obtain ⟨rfl, rfl⟩ := hcut
          obtain ⟨pm, epm⟩ : ∃ pm : Int, min prec nd = pm := ⟨_, rfl⟩
          have hpm : 0 ≤ pm ∧ pm ≤ 1000 := by omega
          obtain ⟨hpm1, hpm2⟩ := hpm
          rw [epm] at e5 ⊢
          clear epm
          as_aux_lemma =>
            rcases hg with rfl | rfl
            · go_wp2
              go_meet
              exact ⟨rfl, by rw [e5], by rw [e6]; rfl, by rw [e5]; omega, by rw [e5]; omega, .inl e6⟩
            · go_wp2
              go_meet
              exact ⟨rfl, by rw [e5], by rw [e6]; rfl, by rw [e5]; omega, by rw [e5]; omega, .inr (.inl e6)⟩
    · have bg : decide (fmt = 103 ∨ fmt = 71) = false := decide_eq_false hg
      have e5 : g5 nd dp prec fmt sh = prec := by unfold g5; rw [if_neg hg]
      have e6 : g6 nd dp prec fmt sh = fmt := by unfold g6; rw [if_neg hg]
      as_aux_lemma =>
        go_wp2
        go_meet
        exact ⟨rfl, by rw [e5], by rw [e6], by omega, by omega, by omega⟩
  case rest =>
    obtain ⟨rfl, rfl, rfl, hp1, hp2, hq⟩ := hcut
    generalize g5 nd dp prec fmt sh = pr at *
    generalize g6 nd dp prec fmt sh = fm at *
    have hq : fm = 101 ∨ fm = 69 := by omega
    have hne : ¬ fm = 102 := by omega
    rw [if_neg hne] at HFL
    as_aux_lemma =>
      go_upto_region 17 with fail
      have hfm : fm < 256 := by omega
      have b102 : ((fm : Int) == 102) = false := beq_eq_false_iff_ne.2 (by omega)
      have hb : ((fm : Int) == 101) = true ∨ (((fm : Int) == 101) = false ∧ ((fm : Int) == 69) = true) := by
        rcases hq with rfl | rfl
        · exact .inl rfl
        · exact .inr ⟨rfl, rfl⟩
      clear hq hne
      rcases hb with hb | ⟨hb, hb'⟩
      all_goals
        as_aux_lemma =>
          go_upto_if 78 with fail
          go_cut [0] (fun u wx => ∃ a1, Hid (a1 = acc ++ sgnL ng) ∧ a1.length ≤ 1001 ∧ App w 5 bd u wx a1)
          case first =>
            as_aux_lemma =>
              cases ng with
              | true =>
                go_wp2_with (at_builtin; refine wpList_app _ rfl _ _ 33 rfl 5 i0 (.int .u8 0) Tryz.underlying33 hi0 hz0 hz1 hz2 rfl _ _ _ _ [45] rfl (HA0.alloc _) _ _ _ rfl rfl (app_cell1 _ _ _ _ rfl) (by simp only [lenS]; omega) ?_; intro v' w' h1)
                go_wp2
                go_meet
                exact ⟨_, rfl, by simp [sgnL]; omega, h1⟩
              | false =>
                go_wp2
                go_meet
                exact ⟨acc, by simp [Hid, sgnL], by omega, HA0⟩
          case rest =>
            obtain ⟨a1, H1, hl1, HA1⟩ := hcut
            as_aux_lemma =>
              go_upto_if 83 with fail
              go_cut [0, 19] (fun u c wx => App w 5 bd u wx a1 ∧ c = .int .u8 (if nd = 0 then 48 else f 0 : Nat))
              case first =>
                as_aux_lemma =>
                  by_cases h0 : nd = 0
                  · have b0 : ((nd : Int) != 0) = false := by rw [h0]; rfl
                    go_wp2
                    go_meet
                    exact ⟨HA1, by rw [if_pos h0]; rfl⟩
                  · have b0 : ((nd : Int) != 0) = true := by rw [bne_iff_ne]; omega
                    rcases HSV.out with ⟨h, _⟩ | ⟨b, len, cap, rfl, h1, h2, h3, hcp, h4, h5⟩
                    · exact absurd h h0
                    · have c0 := World.grownBy.cell HA1.only (h5 0 (by omega)) (fun e => h4 (Option.some.inj e))
                      clear h5
                      go_wp2
                      go_meet
                      exact ⟨HA1, by rw [if_neg h0]⟩
              case rest =>
                as_aux_lemma =>
                  obtain ⟨HA2, rfl⟩ := hcut
                  have hc0 : (if nd = 0 then 48 else f 0) < 256 := by have := hf 0; split <;> omega
                  have hcc0 : (if nd = 0 then 48 else UInt8.ofNat (f 0)) = UInt8.ofNat (if nd = 0 then 48 else f 0) := by split <;> rfl
                  generalize (if nd = 0 then 48 else f 0) = c0 at hc0 hcc0 ⊢
                  have EC0 := Lib.hid hcc0
                  clear hcc0
                  go_upto_if 92 with (at_builtin; refine wpList_app _ rfl _ _ 33 rfl 5 i0 (.int .u8 0) Tryz.underlying33 hi0 hz0 hz1 hz2 rfl _ _ _ _ [UInt8.ofNat c0] rfl (HA2.alloc _) _ _ _ rfl rfl (app_cell1 _ _ _ _ (ofNat_toNat8 hc0).symm) (by simp only [lenS]; omega) ?_; intro v' w' h3)
                  go_cut [0] (fun u wx => ∃ a3, Hid (a3 = a1 ++ [UInt8.ofNat c0] ++ (if 0 < pr then [46] ++ digsL f 1 (min nd (pr.toNat + 1) - 1) ++ zerosL (pr.toNat + 1 - max 1 (min nd (pr.toNat + 1))) else [])) ∧ a3.length ≤ 6000 ∧ App w 5 bd u wx a3)
                  case first =>
                    by_cases hp : 0 < pr
                    · obtain ⟨N, rfl⟩ : ∃ N : Nat, pr = N := ⟨pr.toNat, by omega⟩
                      obtain ⟨m, em⟩ : ∃ m, min nd (N + 1) = m := ⟨_, rfl⟩
                      have hm : (if (N : Int) + 1 < (nd : Int) then (N : Int) + 1 else (nd : Int)) = (m : Int) := by split <;> omega
                      have EM : Hid (min nd (Int.toNat (N : Int) + 1) = m) := by unfold Hid; rw [Int.toNat_natCast]; exact em
                      go_upto_if 102 with (at_builtin; refine wpList_app _ rfl _ _ 33 rfl 5 i0 (.int .u8 0) Tryz.underlying33 hi0 hz0 hz1 hz2 rfl _ _ _ _ [46] rfl (h3.alloc _) _ _ _ rfl rfl (app_cell1 _ _ _ _ rfl) (by simp only [lenS]; omega) ?_; intro v' w' h4)
                      go_cut [0, 20] (fun u c wx => ∃ a4, Hid (a4 = a1 ++ [UInt8.ofNat c0] ++ ([46] ++ digsL f 1 (m - 1))) ∧ a4.length ≤ 3000 ∧ App w 5 bd u wx a4 ∧ c = .int .i64 (max 1 m : Nat))
                      case first =>
                        by_cases h1m : 1 < m
                        · rcases HSV.out with ⟨h, _⟩ | ⟨b, len, cap, rfl, h1, h2, hcap, hcp, hb, h5⟩
                          · omega
                          · have hcc : ∀ W v a, App w 5 bd v W a → ∀ j (hj : j < (digsL f 1 (m - 1)).length), W.cell? ((⟨b, 1, none⟩ : Addr).add j) = some (.int .u8 ((digsL f 1 (m - 1))[j]).toNat) := by
                              intro W v a hA j hj
                              rw [digsL_len] at hj
                              rw [Addr.add_lit, World.grownBy.cell hA.only (h5 (1 + j) (by omega)) (fun e => hb (Option.some.inj e))]
                              simp only [digsL, List.getElem_map, List.getElem_range]
                              rw [ofNat_toNat8 (hf _)]
                            have HCC := Lib.hid hcc
                            have hc1 : ¬ cap = 1 := by omega
                            have hml : m ≤ len := by omega
                            have hmN : ((digsL f 1 (m - 1)).length : Nat) = m - 1 := digsL_len _ _ _
                            have HE := Lib.hid EM.out
                            clear hcc h5 em
                            have hmx : ((max 1 m : Nat) : Int) = m := by omega
                            as_aux_lemma =>
                              go_wp2_with (at_builtin; refine wpList_app _ rfl _ _ 33 rfl 5 i0 (.int .u8 0) Tryz.underlying33 hi0 hz0 hz1 hz2 rfl _ _ _ _ (digsL f 1 (m - 1)) rfl (h4) _ _ _ rfl ((digsL_len _ _ _).symm) (HCC.out _ _ _ h4) (by simp only [lenS]; omega) ?_; intro v' w' h5)
                              go_wp2
                              go_meet
                              exact ⟨_, by unfold Hid; simp only [List.append_assoc], by simp only [List.length_append, List.length_cons, List.length_nil, digsL_len]; omega, h5, by rw [hmx]⟩
                        · have hmx : ((max 1 m : Nat) : Int) = 1 := by omega
                          have hm0 : m - 1 = 0 := by omega
                          as_aux_lemma =>
                            go_wp2
                            go_meet
                            exact ⟨_, by unfold Hid; rw [hm0, digsL_zero]; simp only [List.append_assoc, List.append_nil], by simp only [List.length_append, List.length_cons, List.length_nil]; omega, h4, by rw [hmx]⟩
                      case rest =>
                        obtain ⟨a4, H4, hl4, HA4, rfl⟩ := hcut
                        obtain ⟨Z, eZ⟩ : ∃ Z : Nat, N + 1 - max 1 m = Z := ⟨_, rfl⟩
                        have hZ : (N : Int) + 1 - (max 1 m : Nat) = Z := by omega
                        have EZ : Hid ((N : Int).toNat + 1 - max 1 (min nd ((N : Int).toNat + 1)) = Z) := by unfold Hid; rw [EM.out]; simpa using eZ
                        generalize max 1 m = mx at *
                        as_aux_lemma =>
                          go_wp2
                          go_loopg [0, 114] Z (fun g u k wx => ∃ kk : Nat, g + kk = Z ∧ k = .int .i64 kk ∧ App w 5 bd u wx (a4 ++ zerosL kk))
                          case atStart => exact ⟨0, by omega, rfl, by simpa [zerosL] using HA4⟩
                          case round =>
                            obtain ⟨kk, hk, rfl, HA5⟩ := hrel
                            by_cases hkk : kk < Z
                            · go_wp2_with (at_builtin; refine wpList_app _ rfl _ _ 33 rfl 5 i0 (.int .u8 0) Tryz.underlying33 hi0 hz0 hz1 hz2 rfl _ _ _ _ [48] rfl (HA5.alloc _) _ _ _ rfl rfl (app_cell1 _ _ _ _ rfl) (by simp only [lenS]; omega) ?_; intro v' w' h6)
                              go_roundg (Z - (kk + 1))
                              case measure => omega
                              case rel => exact ⟨kk + 1, by omega, by go_num, by rw [zerosL_succ, ← List.append_assoc]; exact h6⟩
                            · obtain rfl : kk = Z := by omega
                              go_wp2
                              go_meet
                              exact ⟨_, by unfold Hid; rw [if_pos (by omega), EZ.out, EM.out, H4.out]; simp only [List.append_assoc], by simp only [List.length_append, zerosL_len]; omega, HA5⟩
                    · as_aux_lemma =>
                        go_wp2
                        go_meet
                        exact ⟨_, by unfold Hid; rw [if_neg (by omega)]; simp only [List.append_nil], by simp only [List.length_append, List.length_cons, List.length_nil]; omega, h3⟩
                  case rest =>
                    as_aux_lemma =>
                      obtain ⟨a3, H3, hl3, HA3⟩ := hcut
                      obtain ⟨xe, exe⟩ : ∃ xe : Int, (if nd = 0 then 0 else dp - 1) = xe := ⟨_, rfl⟩
                      have hxe1 : -901 ≤ xe := by split at exe <;> omega
                      have hxe2 : xe ≤ 901 := by split at exe <;> omega
                      have HE : Hid (acc ++ fmtL ng f nd dp prec fmt sh = a3 ++ expoL fm xe) := by
                        unfold Hid; rw [HFL.out, fmtE, mantE, exe, H3.out, H1.out, EC0.out]; simp only [List.append_assoc]
                      clear hc0
                      go_upto_if 127 with (at_builtin; refine wpList_app _ rfl _ _ 33 rfl 5 i0 (.int .u8 0) Tryz.underlying33 hi0 hz0 hz1 hz2 rfl _ _ _ _ [UInt8.ofNat fm] rfl (HA3.alloc _) _ _ _ rfl rfl (app_cell1 _ _ _ _ (ofNat_toNat8 hfm).symm) (by simp only [lenS]; omega) ?_; intro v' w' h4)
                      go_cut [0, 22] (fun u c wx => App w 5 bd u wx (a3 ++ [UInt8.ofNat fm]) ∧ c = .int .i64 xe)
                      case first =>
                        as_aux_lemma =>
                          by_cases h0 : nd = 0
                          · have b0 : ((nd : Int) == 0) = true := by rw [h0]; rfl
                            obtain rfl : 0 = xe := by rw [if_pos h0] at exe; exact exe
                            go_wp2
                            go_meet
                            exact ⟨h4, rfl⟩
                          · have b0 : ((nd : Int) == 0) = false := beq_eq_false_iff_ne.2 (by omega)
                            obtain rfl : dp - 1 = xe := by rw [if_neg h0] at exe; exact exe
                            go_wp2
                            go_meet
                            exact ⟨h4, rfl⟩
                      case rest =>
                        obtain ⟨HA4, rfl⟩ := hcut
                        as_aux_lemma =>
                          obtain ⟨xn, exn⟩ : ∃ xn : Nat, xe.natAbs = xn := ⟨_, rfl⟩
                          have hxn : xn ≤ 901 := by omega
                          go_upto_if 129 with fail
                          go_cut [0, 19, 22] (fun u ch c wx => App w 5 bd u wx (a3 ++ [UInt8.ofNat fm]) ∧ c = .int .i64 xn ∧ ch = .int .u8 ((if xe < 0 then 45 else 43 : UInt8)).toNat)
                          case first =>
                            as_aux_lemma =>
                              by_cases hx : xe < 0
                              · obtain rfl : xe = -(xn : Int) := by omega
                                go_wp2
                                go_meet
                                exact ⟨HA4, by go_num, by rw [if_pos hx]; rfl⟩
                              · obtain rfl : xe = (xn : Int) := by omega
                                go_wp2
                                go_meet
                                exact ⟨HA4, rfl, by rw [if_neg (by omega)]; rfl⟩
                          case rest =>
                            as_aux_lemma =>
                              obtain ⟨HA5, rfl, rfl⟩ := hcut
                              have HE2 : Hid (acc ++ fmtL ng f nd dp prec fmt sh = (a3 ++ [UInt8.ofNat fm]) ++ [if xe < 0 then 45 else 43] ++ expL xn) := by
                                unfold Hid; rw [HE.out, expoL, exn]; simp only [List.append_assoc]; rfl
                              clear HE HFL
                              generalize (if xe < 0 then 45 else 43 : UInt8) = cs at *
                              clear exn hxe1 hxe2 exe
                              by_cases h10 : xn < 10
                              · have e1 : expL xn = [48, UInt8.ofNat (xn + 48)] := by unfold expL; rw [if_pos h10]
                                have hc1 : (xn : Int) % 256 = xn := by omega
                                as_aux_lemma =>
                                  go_wp2_with (first | (at_builtin; refine wpList_app _ rfl _ _ 33 rfl 5 i0 (.int .u8 0) Tryz.underlying33 hi0 hz0 hz1 hz2 rfl _ _ _ _ [cs] rfl (HA5.alloc _) _ _ _ rfl rfl (app_cell1 _ _ _ _ rfl) (by simp only [lenS]; omega) ?_; intro v' w' h6) | (at_builtin; refine wpList_app _ rfl _ _ 33 rfl 5 i0 (.int .u8 0) Tryz.underlying33 hi0 hz0 hz1 hz2 rfl _ _ _ _ [48, UInt8.ofNat (xn + 48)] rfl (h6.alloc _) _ _ _ rfl rfl (app_cell2 _ _ _ _ _ _ rfl (by rw [ofNat_toNat8 (by omega)]; omega)) (by simp only [lenS]; omega) ?_; intro v' w' h7))
                                  go_ret
                                  exact ⟨_, rfl, by rw [HE2.out, e1]; exact h7⟩
                              · by_cases h100 : xn < 100
                                · have e1 : expL xn = [UInt8.ofNat (xn / 10 + 48), UInt8.ofNat (xn % 10 + 48)] := by unfold expL; rw [if_neg h10, if_pos h100]
                                  as_aux_lemma =>
                                    go_wp2_with (first | (at_builtin; refine wpList_app _ rfl _ _ 33 rfl 5 i0 (.int .u8 0) Tryz.underlying33 hi0 hz0 hz1 hz2 rfl _ _ _ _ [cs] rfl (HA5.alloc _) _ _ _ rfl rfl (app_cell1 _ _ _ _ rfl) (by simp only [lenS]; omega) ?_; intro v' w' h6) | (at_builtin; refine wpList_app _ rfl _ _ 33 rfl 5 i0 (.int .u8 0) Tryz.underlying33 hi0 hz0 hz1 hz2 rfl _ _ _ _ [UInt8.ofNat (xn / 10 + 48), UInt8.ofNat (xn % 10 + 48)] rfl (h6.alloc _) _ _ _ rfl rfl (app_cell2 _ _ _ _ _ _ (by rw [ofNat_toNat8 (by omega)]; omega) (by rw [ofNat_toNat8 (by omega)]; omega)) (by simp only [lenS]; omega) ?_; intro v' w' h7))
                                    go_ret
                                    exact ⟨_, rfl, by rw [HE2.out, e1]; exact h7⟩
                                · have e1 : expL xn = [UInt8.ofNat (xn / 100 + 48), UInt8.ofNat (xn / 10 % 10 + 48), UInt8.ofNat (xn % 10 + 48)] := by unfold expL; rw [if_neg h10, if_neg h100]
                                  as_aux_lemma =>
                                    go_wp2_with (first | (at_builtin; refine wpList_app _ rfl _ _ 33 rfl 5 i0 (.int .u8 0) Tryz.underlying33 hi0 hz0 hz1 hz2 rfl _ _ _ _ [cs] rfl (HA5.alloc _) _ _ _ rfl rfl (app_cell1 _ _ _ _ rfl) (by simp only [lenS]; omega) ?_; intro v' w' h6) | (at_builtin; refine wpList_app _ rfl _ _ 33 rfl 5 i0 (.int .u8 0) Tryz.underlying33 hi0 hz0 hz1 hz2 rfl _ _ _ _ [UInt8.ofNat (xn / 100 + 48), UInt8.ofNat (xn / 10 % 10 + 48), UInt8.ofNat (xn % 10 + 48)] rfl (h6.alloc _) _ _ _ rfl rfl (app_cell3 _ _ _ _ _ _ _ _ (by rw [ofNat_toNat8 (by omega)]; omega) (by rw [ofNat_toNat8 (by omega)]; omega) (by rw [ofNat_toNat8 (by omega)]; omega)) (by simp only [lenS]; omega) ?_; intro v' w' h7))
                                    go_ret
                                    exact ⟨_, rfl, by rw [HE2.out, e1]; exact h7⟩
end Go.Proofs.YtdencljnbilchaaGreatDoor
