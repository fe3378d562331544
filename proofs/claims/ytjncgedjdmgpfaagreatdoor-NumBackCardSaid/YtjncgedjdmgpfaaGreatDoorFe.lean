/- The walk of decimal.Assign. The walk of RoundedInteger. -/
import Derived.Test.YtjncgedjdmgpfaaGreatDoorXo
import Derived.Deep.DeepCutAuto
import Derived.Deep.CutBlock
import Derived.StillTailTactics
import Derived.BigRegion

namespace Go.Proofs.YtjncgedjdmgpfaaGreatDoor
open Go.RowKit

/-- A block of n bytes. -/
structure BufF (w : World) (b : Nat) (f : Nat → Nat) (n : Nat) : Prop where
  d : ∀ i, i < n → w.cell? ⟨b, i, none⟩ = some (.int .u8 (f i))
  fz : ∀ i, w.frozen? ⟨b, i, none⟩ = false

theorem BufF.set {w : World} {b : Nat} {f : Nat → Nat} {n i : Nat} (h : BufF w b f n) (hi : i < n) (v : Nat) : BufF (w.setCell ⟨b, i, none⟩ (.int .u8 v)) b (upd f i v) n where
  d := fun j hj => by
    by_cases e : j = i
    · subst e; rw [upd_same]; exact cs_same (h.d j hj)
    · rw [upd_other f v e, cs_other (addr_ne (Ne.symm e))]; exact h.d j hj
  fz := fun j => by rw [World.frozen?_setCell]; exact h.fz j

theorem BufF.only {w w' : World} {b c : Nat} {f : Nat → Nat} {n : Nat} (h : BufF w b f n) (hB : OnlyB c w w') (hne : b ≠ c) (hlt : b < w.heap.size) : BufF w' b f n where
  d := fun j hj => by rw [hB.cell hne hlt]; exact h.d j hj
  fz := fun j => by rw [World.frozen?_of_block (hB.block b hlt (fun e => hne (Option.some.inj e)))]; exact h.fz j

theorem bufF_zero (w : World) (T : TypeId) (n : Nat) (Z : Array Value) (hZ : Z = (List.replicate n (Value.int .u8 0)).toArray) : BufF (w.alloc (.cells Z T)) w.heap.size (fun _ => 0) n where
  d := fun i hi => by
    rw [World.cell?_alloc_at _ _ _ _ rfl, hZ]
    simp [hi]
  fz := fun i => World.frozen?_alloc_at _ _ _ _ rfl

def revD (v k : Nat) : Nat := 48 + v / 10 ^ k % 10

theorem div_pos10 {v n k : Nat} (h : 10 ^ (n - 1) ≤ v) (hk : k < n) : 1 ≤ v / 10 ^ k := by
  rw [Nat.le_div_iff_mul_le (p10_pos k), Nat.one_mul]
  exact Nat.le_trans (Nat.pow_le_pow_right (by omega) (by omega)) h
theorem div_step10 (v k : Nat) : v / 10 ^ (k + 1) = v / 10 ^ k / 10 := by rw [Nat.pow_succ, Nat.div_div_eq_div_mul]

set_option maxRecDepth 100000 in
set_option maxHeartbeats 4000000 in
theorem assign_any (w : World) (b v n : Nat) (f : Nat → Nat) (nd dp : Int) (ng tr : Bool) (hv : v < 18446744073709551616) (hn : n ≤ 20) (hn1 : v < 10 ^ n) (hn2 : n = 0 ∨ 10 ^ (n - 1) ≤ v) (hD : DecF w b f nd dp ng tr) :
    Calls Tryz.prog 76 #[.pointer (some ⟨b, 0, none⟩), .int .u64 v] w fun e w' => e = .returned (.tuple #[]) ∧ DecS w' b ng ⟨(trimN n v).2, (trimN n v).1, dpT (trimN n v).1 n, tr⟩ ∧ OnlyB b w w' := by
  have hblt := hD.lt
  have HD := Lib.hid hD
  have HV := Lib.hid (And.intro hn1 hn2)
  clear hD hn1 hn2
  go_enter Tryz.func76, Tryz.ntmps76
  go_upto_block 0 with (fail)
  go_cut [1, 5, 6] (fun a c q wx => c = .int .i64 n ∧ Below w.heap.size w wx ∧ w.heap.size < wx.heap.size ∧ ∃ g, BufF wx w.heap.size g 24 ∧ ∀ i, i < n → g i = revD v i)
  case first =>
    as_aux_lemma =>
      go_wp2
      go_loopg [1, 5, 6] n (fun gk a c q wr => ∃ (k V : Nat), gk + k = n ∧ a = .int .u64 V ∧ V < 18446744073709551616 ∧ Hid (V = v / 10 ^ k) ∧ c = .int .i64 k ∧ Hid (Below w.heap.size w wr ∧ w.heap.size < wr.heap.size) ∧ Hid (∃ g, BufF wr w.heap.size g 24 ∧ ∀ i, i < k → g i = revD v i))
      case atStart => exact ⟨0, v, by omega, rfl, hv, by simp [Hid], rfl, Lib.hid ⟨(Below.refl _ _).alloc (Nat.le_refl _) _, by simp⟩, ⟨fun _ => 0, bufF_zero w _ 24 _ rfl, fun i h => absurd h (by omega)⟩⟩
      case round =>
        obtain ⟨k, V, hk, rfl, hVl, HVk, rfl, HB, HG⟩ := hrel
        by_cases hkn : k < n
        · have hV1 : 1 ≤ V := by
            have h := HV.out.2
            rw [HVk.out]
            exact div_pos10 (h.resolve_left (by omega)) hkn
          obtain ⟨g, hB, hg⟩ := HG.out
          have HBF := Lib.hid hB
          have Hg := Lib.hid hg
          have ck := hB.d k (by omega)
          have fk := hB.fz k
          obtain ⟨dg, edg⟩ : ∃ dg : Nat, (V : Int) - 10 * ((V : Int) / 10) = dg := ⟨V % 10, by omega⟩
          have hdg : dg < 10 := by omega
          have hk24 : k < 24 := by omega
          clear hB hg
          as_aux_lemma =>
            go_wp2
            go_roundg (n - (k + 1))
            case measure => omega
            case rel =>
              refine ⟨k + 1, V / 10, by omega, by go_num, by omega, ?_, by go_num, ?_, ?_⟩
              · unfold Hid; rw [div_step10, ← HVk.out]
              · exact Lib.hid ⟨HB.out.1.setCell (p := ⟨w.heap.size, k, none⟩) (Nat.le_refl _) _, by have := HB.out.2; simpa using this⟩
              · refine ⟨upd g k (dg + 48), HBF.out.set hk24 (dg + 48), fun i hi => ?_⟩
                by_cases e : i = k
                · subst e; rw [upd_same, revD, ← HVk.out]; omega
                · rw [upd_other _ _ e]; exact Hg.out i (by omega)
        · obtain rfl : k = n := by omega
          have hV0 : V = 0 := by rw [HVk.out]; exact Nat.div_eq_of_lt HV.out.1
          subst hV0
          as_aux_lemma =>
            go_wp2
            go_meet
            obtain ⟨g, hB, hg⟩ := HG.out
            exact ⟨rfl, HB.out.1, HB.out.2, g, hB, hg⟩
  case rest =>
    obtain ⟨rfl, hbel, hsz, g, hBG, hg⟩ := hcut
    have hDc : DecF wc b f nd dp ng tr := HD.out.below hbel
    have HB1 := Lib.hid hBG
    have Hg := Lib.hid hg
    have HBel := Lib.hid hbel
    have c800 := hDc.nd
    have f800 := hDc.fz 800
    have HD1 := Lib.hid (hDc.setNd 0)
    have hbne : w.heap.size ≠ b := by omega
    clear hbel hBG hg hDc HD
    have HO : Hid (OnlyB b wc (wc.setCell ⟨b, 800, none⟩ (.int .i64 0))) := (OnlyB.refl b wc).set 800 _
    go_wp2
    go_loopg [5] n (fun gk q wr => ∃ j : Nat, gk + j = n ∧ q = .int .i64 ((gk : Int) - 1) ∧ Hid (∃ f', DecF wr b f' j dp ng tr ∧ ∀ i, i < j → f' i = revD v (n - 1 - i)) ∧ Hid (OnlyB b wc wr))
    case atStart => exact ⟨0, by omega, by go_num, Lib.hid ⟨f, HD1.out, fun i h => absurd h (by omega)⟩, HO⟩
    case round =>
      obtain ⟨j, hj, rfl, HF, HB⟩ := hrel
      obtain ⟨f', hF, hf'⟩ := HF.out
      have HF1 := Lib.hid hF
      have Hf := Lib.hid hf'
      have cn := hF.nd
      have fn := hF.fz 800
      cases gk with
      | zero =>
        obtain rfl : j = n := by omega
        have cp := hF.dp
        have fp := hF.fz 801
        clear hF hf' HF
        have HT : Hid (∀ (W : World) (g' : Nat → Nat), DecF W b g' (j : Nat) (j : Nat) ng tr → dgs g' j v → Calls Tryz.prog 113 #[.pointer (some ⟨b, 0, none⟩)] W (TrimEnd W b g' (trimN j v) (j : Nat) ng tr)) :=
          fun W g' h1 h2 => trim_any W b g' j v j ng tr (by omega) h1 h2
        have HDG : Hid (dgs f' j v) := ⟨HV.out.1, fun i hi => Hf.out i hi⟩
        as_aux_lemma =>
          go_wp2_with (go_at_call 113; refine (HT.out _ _ (HF1.out.setDp _) HDG.out).mono ?_; rintro e w' ⟨rfl, t1, t2, t3⟩)
          go_end0
          exact ⟨rfl, ⟨_, t1, t2⟩, ((OnlyB.of_below b HBel.out).trans ((HB.out.set 801 _).trans t3))⟩
      | succ gk =>
        have cj := hF.d j (by omega)
        have fj := hF.fz j
        have hbuf := HB1.out.only HB.out hbne hsz
        have cb := hbuf.d gk (by omega)
        have hj8 : j < 800 := by omega
        have hgk : gk < 24 := by omega
        have b24 : decide (gk < 24) = true := decide_eq_true hgk
        have b800 : decide (j < 800) = true := decide_eq_true hj8
        have e1 : ((gk + 1 : Nat) : Int) - 1 = (gk : Int) := by omega
        rw [e1]
        clear hF hf' HF hbuf
        as_aux_lemma =>
          go_wp2
          go_region
          go_wp2
          go_roundg gk
          case measure => omega
          case rel =>
            refine ⟨j + 1, by omega, by go_num, ⟨upd f' j (g gk), (((HF1.out.drewN _).setD hj8 (g gk)).setNd ((j + 1 : Nat) : Int)), fun i hi => ?_⟩, Lib.hid (((HB.out.drewN _).set j _).set 800 _)⟩
            by_cases e : i = j
            · subst e; rw [upd_same, Hg.out gk (by omega)]; congr 1; omega
            · rw [upd_other _ _ e]; exact Hf.out i (by omega)

end Go.Proofs.YtjncgedjdmgpfaaGreatDoor

namespace Go.Proofs.YtjncgedjdmgpfaaGreatDoor
open Go.RowKit

def riV (s : DS) : Nat := if 20 < s.dp then 18446744073709551615 else (preA s.M s.nd s.dp.toNat + (if sruB s s.dp = true then 1 else 0)) % 18446744073709551616

set_option maxHeartbeats 4000000 in
theorem ri_any (w : World) (b : Nat) (ng : Bool) (s : DS) (hn : s.nd ≤ 800) (hD : DecS w b ng s) (hi1 : -1000000000 ≤ s.dp) (hi2 : s.dp ≤ 1000000000) :
    Calls Tryz.prog 125 #[.pointer (some ⟨b, 0, none⟩)] w fun e w' => e = .returned (.int .u64 (riV s)) ∧ w = w' := by
  have hsru := fun W (h : DecS W b ng s) => sru_any W b ng s s.dp hn h hi1 hi2
  have HD := Lib.hid hD
  obtain ⟨f, hF, hdg⟩ := hD
  have c800 := hF.nd
  have c801 := hF.dp
  by_cases h20 : 20 < s.dp
  · have hV : riV s = 18446744073709551615 := by unfold riV; rw [if_pos h20]
    rw [hV]
    clear hF hdg hsru hV
    go_enter Tryz.func125, Tryz.ntmps125
    go_wp2
    go_ret
    exact ⟨rfl, rfl⟩
  · have hV : riV s = (preA s.M s.nd s.dp.toNat + (if sruB s s.dp = true then 1 else 0)) % 18446744073709551616 := by unfold riV; rw [if_neg h20]
    obtain ⟨R, hR⟩ : ∃ R, sruB s s.dp = R := ⟨_, rfl⟩
    rw [hR] at hsru hV
    have HS := Lib.hid hsru
    have HV := Lib.hid hV
    have H0 := Lib.hid (preA_zero hdg.1)
    have HI := Lib.hid (fun r (h : r < s.nd) => preA_succ_in (M := s.M) h)
    have HO := Lib.hid (fun r (h : s.nd ≤ r) => preA_succ_out (M := s.M) h)
    have hd0 := fun j hj => dcell HD.out hn (i := j) hj
    have HC := Lib.hid hd0
    have hw := IntKind.wrap_u64
    clear hF hdg hsru hV hR hd0
    go_enter Tryz.func125, Tryz.ntmps125
    go_wp2
    go_loopg [3, 4] s.nd (fun g i n wr => ∃ k : Nat, g + k = s.nd ∧ ((k : Int) ≤ s.dp ∨ k = 0) ∧ i = .int .i64 k ∧ n = .int .u64 (preA s.M s.nd k % 18446744073709551616 : Nat) ∧ wr = w)
    case atStart => exact ⟨0, by omega, .inr rfl, rfl, by rw [H0.out]; rfl, rfl⟩
    case round =>
      obtain ⟨k, hk, hk2, rfl, rfl, rfl⟩ := hrel
      obtain ⟨A, eA⟩ : ∃ A, preA s.M s.nd k = A := ⟨_, rfl⟩
      rw [eA]
      by_cases hin : (k : Int) < s.dp ∧ k < s.nd
      · obtain ⟨hin1, hin2⟩ := hin
        have hin3 : (k : Int) < s.nd := by omega
        have hc := HC.out k hin2
        have hst := HI.out k hin2
        obtain ⟨d, ed⟩ : ∃ d, s.M / 10 ^ (s.nd - 1 - k) % 10 = d := ⟨_, rfl⟩
        have hd9 : d ≤ 9 := by omega
        rw [ed] at hc hst
        rw [eA] at hst
        have HST := Lib.hid hst
        clear ed eA hst
        go_wp2
        go_roundg (s.nd - (k + 1))
        case measure => omega
        case rel => exact ⟨k + 1, by omega, .inl (by omega), by go_num, by rw [HST.out]; exact congrArg (Value.int IntKind.u64) (by omega), rfl⟩
      · have HEA := Lib.hid eA
        clear eA
        have hout : ¬ (k : Int) < s.dp ∨ ((k : Int) < s.dp ∧ ¬ (k : Int) < s.nd) := by omega
        have hkn : (k : Int) < s.dp → s.nd ≤ k := by omega
        clear hin
        rcases hout with hout | ⟨hout1, hout2⟩
        all_goals
          go_wp2
          go_loopg [3, 4] (s.dp.toNat - k) (fun g i n wx => ∃ k : Nat, g = s.dp.toNat - k ∧ ((k : Int) ≤ s.dp ∨ k = 0) ∧ ((k : Int) < s.dp → s.nd ≤ k) ∧ i = .int .i64 k ∧ n = .int .u64 (preA s.M s.nd k % 18446744073709551616 : Nat) ∧ wx = wr)
          case atStart => exact ⟨k, rfl, hk2, hkn, rfl, by rw [HEA.out]; exact congrArg (Value.int IntKind.u64) (by omega), rfl⟩
          case round =>
            clear hk hk2 hkn HEA
            obtain ⟨j, hj, hj2, hjn, rfl, rfl, rfl⟩ := hrel
            obtain ⟨B, eB⟩ : ∃ B, preA s.M s.nd j = B := ⟨_, rfl⟩
            rw [eB]
            by_cases hjd : (j : Int) < s.dp
            · have hst := HO.out j (hjn hjd)
              rw [eB] at hst
              have HST := Lib.hid hst
              have hjn2 := hjn hjd
              clear eB hst hjn
              go_wp2
              go_roundg (s.dp.toNat - (j + 1))
              case measure => omega
              case rel => exact ⟨j + 1, rfl, .inl (by omega), fun _ => by omega, by go_num, by rw [HST.out]; exact congrArg (Value.int IntKind.u64) (by omega), rfl⟩
            · have hjj : s.dp.toNat = j := by omega
              have hV := HV.out
              rw [hjj, eB] at hV
              have HV2 := Lib.hid hV
              clear hjn hjj hV eB
              cases R with
              | true =>
                go_wp2_with (go_at_call 116; refine (HS.out _ HD.out).mono ?_; rintro e w' ⟨rfl, rfl⟩)
                go_ret
                exact ⟨congrArg Ending.returned (by rw [HV2.out]; exact congrArg (Value.int IntKind.u64) (by simp)), rfl⟩
              | false =>
                go_wp2_with (go_at_call 116; refine (HS.out _ HD.out).mono ?_; rintro e w' ⟨rfl, rfl⟩)
                go_ret
                exact ⟨congrArg Ending.returned (by rw [HV2.out]; rfl), rfl⟩

end Go.Proofs.YtjncgedjdmgpfaaGreatDoor
