/- The walk of decimal.Assign. Walks: shouldRoundUp, RoundedInteger. The walks of decimal.RoundDown, Round. The walk of decimal.RoundUp. -/
import Derived.Test.YtdencljnbilchaaGreatDoorXl
import Derived.Deep.DeepCutAuto
import Derived.Deep.CutBlock
import Derived.StillTailTactics
import Derived.BigRegion

namespace Go.Proofs.YtdencljnbilchaaGreatDoor
open Go.RowKit

/-- A block of n bytes. -/
structure BufF (w : World) (b : Nat) (f : Nat → Nat) (n : Nat) : Prop where
  d : ∀ i, i < n → w.cell? ⟨b, i, none⟩ = some (.int .u8 (f i))
  fz : ∀ i, w.frozen? ⟨b, i, none⟩ = false

theorem BufF.set {w : World} {b : Nat} {f : Nat → Nat} {n i : Nat} (h : BufF w b f n) (hi : i < n) (v : Nat) : BufF (w.setCell ⟨b, i, none⟩ (.int .u8 v)) b (upd f i v) n where
  d := fun j hj => by
    by_cases e : j = i
    · subst e; rw [upd_same]; exact cs_same (h.d j hj)
    · rw [upd_other f v e, cs_other (addr_ne (Ne.symm e))]; exact h.d j hj
  fz := fun j => by rw [World.frozen?_setCell]; exact h.fz j

theorem BufF.only {w w' : World} {b c : Nat} {f : Nat → Nat} {n : Nat} (h : BufF w b f n) (hB : OnlyB c w w') (hne : b ≠ c) (hlt : b < w.heap.size) : BufF w' b f n where
  d := fun j hj => by rw [hB.cell hne hlt]; exact h.d j hj
  fz := fun j => by rw [World.frozen?_of_block (hB.block b hlt (fun e => hne (Option.some.inj e)))]; exact h.fz j

theorem bufF_zero (w : World) (T : TypeId) (n : Nat) (Z : Array Value) (hZ : Z = (List.replicate n (Value.int .u8 0)).toArray) : BufF (w.alloc (.cells Z T)) w.heap.size (fun _ => 0) n where
  d := fun i hi => by
    rw [World.cell?_alloc_at _ _ _ _ rfl, hZ]
    simp [hi]
  fz := fun i => World.frozen?_alloc_at _ _ _ _ rfl

def revD (v k : Nat) : Nat := 48 + v / 10 ^ k % 10

theorem div_pos10 {v n k : Nat} (h : 10 ^ (n - 1) ≤ v) (hk : k < n) : 1 ≤ v / 10 ^ k := by
  rw [Nat.le_div_iff_mul_le (p10_pos k), Nat.one_mul]
  exact Nat.le_trans (Nat.pow_le_pow_right (by omega) (by omega)) h
theorem div_step10 (v k : Nat) : v / 10 ^ (k + 1) = v / 10 ^ k / 10 := by rw [Nat.pow_succ, Nat.div_div_eq_div_mul]

set_option maxRecDepth 100000 in
set_option maxHeartbeats 4000000 in
theorem assign_any (w : World) (b v n : Nat) (f : Nat → Nat) (nd dp : Int) (ng tr : Bool) (hv : v < 18446744073709551616) (hn : n ≤ 20) (hn1 : v < 10 ^ n) (hn2 : n = 0 ∨ 10 ^ (n - 1) ≤ v) (hD : DecF w b f nd dp ng tr) :
    Calls Tryz.prog 94 #[.pointer (some ⟨b, 0, none⟩), .int .u64 v] w fun e w' => e = .returned (.tuple #[]) ∧ DecS w' b ng ⟨(trimN n v).2, (trimN n v).1, dpT (trimN n v).1 n, tr⟩ ∧ OnlyB b w w' := by
  have hblt := hD.lt
  have HD := Lib.hid hD
  have HV := Lib.hid (And.intro hn1 hn2)
  clear hD hn1 hn2
  go_enter Tryz.func94, Tryz.ntmps94
  go_upto_block 0 with (fail)
  go_cut [1, 5, 6] (fun a c q wx => c = .int .i64 n ∧ Below w.heap.size w wx ∧ w.heap.size < wx.heap.size ∧ ∃ g, BufF wx w.heap.size g 24 ∧ ∀ i, i < n → g i = revD v i)
  case first =>
    as_aux_lemma =>
      go_wp2
      go_loopg [1, 5, 6] n (fun gk a c q wr => ∃ (k V : Nat), gk + k = n ∧ a = .int .u64 V ∧ V < 18446744073709551616 ∧ Hid (V = v / 10 ^ k) ∧ c = .int .i64 k ∧ Hid (Below w.heap.size w wr ∧ w.heap.size < wr.heap.size) ∧ Hid (∃ g, BufF wr w.heap.size g 24 ∧ ∀ i, i < k → g i = revD v i))
      case atStart => exact ⟨0, v, by omega, rfl, hv, by simp [Hid], rfl, Lib.hid ⟨(Below.refl _ _).alloc (Nat.le_refl _) _, by simp⟩, ⟨fun _ => 0, bufF_zero w _ 24 _ rfl, fun i h => absurd h (by omega)⟩⟩
      case round =>
        obtain ⟨k, V, hk, rfl, hVl, HVk, rfl, HB, HG⟩ := hrel
        by_cases hkn : k < n
        · have hV1 : 1 ≤ V := by
            have h := HV.out.2
            rw [HVk.out]
            exact div_pos10 (h.resolve_left (by omega)) hkn
          obtain ⟨g, hB, hg⟩ := HG.out
          have HBF := Lib.hid hB
          have Hg := Lib.hid hg
          have ck := hB.d k (by omega)
          have fk := hB.fz k
          obtain ⟨dg, edg⟩ : ∃ dg : Nat, (V : Int) - 10 * ((V : Int) / 10) = dg := ⟨V % 10, by omega⟩
          have hdg : dg < 10 := by omega
          have hk24 : k < 24 := by omega
          clear hB hg
          as_aux_lemma =>
            go_wp2
            go_roundg (n - (k + 1))
            case measure => omega
            case rel =>
              refine ⟨k + 1, V / 10, by omega, by go_num, by omega, ?_, by go_num, ?_, ?_⟩
              · unfold Hid; rw [div_step10, ← HVk.out]
              · exact Lib.hid ⟨HB.out.1.setCell (p := ⟨w.heap.size, k, none⟩) (Nat.le_refl _) _, by have := HB.out.2; simpa using this⟩
              · refine ⟨upd g k (dg + 48), HBF.out.set hk24 (dg + 48), fun i hi => ?_⟩
                by_cases e : i = k
                · subst e; rw [upd_same, revD, ← HVk.out]; omega
                · rw [upd_other _ _ e]; exact Hg.out i (by omega)
        · obtain rfl : k = n := by omega
          have hV0 : V = 0 := by rw [HVk.out]; exact Nat.div_eq_of_lt HV.out.1
          subst hV0
          as_aux_lemma =>
            go_wp2
            go_meet
            obtain ⟨g, hB, hg⟩ := HG.out
            exact ⟨rfl, HB.out.1, HB.out.2, g, hB, hg⟩
  case rest =>
    obtain ⟨rfl, hbel, hsz, g, hBG, hg⟩ := hcut
    have hDc : DecF wc b f nd dp ng tr := HD.out.below hbel
    have HB1 := Lib.hid hBG
    have Hg := Lib.hid hg
    have HBel := Lib.hid hbel
    have c800 := hDc.nd
    have f800 := hDc.fz 800
    have HD1 := Lib.hid (hDc.setNd 0)
    have hbne : w.heap.size ≠ b := by omega
    clear hbel hBG hg hDc HD
    have HO : Hid (OnlyB b wc (wc.setCell ⟨b, 800, none⟩ (.int .i64 0))) := (OnlyB.refl b wc).set 800 _
    go_wp2
    go_loopg [5] n (fun gk q wr => ∃ j : Nat, gk + j = n ∧ q = .int .i64 ((gk : Int) - 1) ∧ Hid (∃ f', DecF wr b f' j dp ng tr ∧ ∀ i, i < j → f' i = revD v (n - 1 - i)) ∧ Hid (OnlyB b wc wr))
    case atStart => exact ⟨0, by omega, by go_num, Lib.hid ⟨f, HD1.out, fun i h => absurd h (by omega)⟩, HO⟩
    case round =>
      obtain ⟨j, hj, rfl, HF, HB⟩ := hrel
      obtain ⟨f', hF, hf'⟩ := HF.out
      have HF1 := Lib.hid hF
      have Hf := Lib.hid hf'
      have cn := hF.nd
      have fn := hF.fz 800
      cases gk with
      | zero =>
        obtain rfl : j = n := by omega
        have cp := hF.dp
        have fp := hF.fz 801
        clear hF hf' HF
        have HT : Hid (∀ (W : World) (g' : Nat → Nat), DecF W b g' (j : Nat) (j : Nat) ng tr → dgs g' j v → Calls Tryz.prog 125 #[.pointer (some ⟨b, 0, none⟩)] W (TrimEnd W b g' (trimN j v) (j : Nat) ng tr)) :=
          fun W g' h1 h2 => trim_any W b g' j v j ng tr (by omega) h1 h2
        have HDG : Hid (dgs f' j v) := ⟨HV.out.1, fun i hi => Hf.out i hi⟩
        as_aux_lemma =>
          go_wp2_with (go_at_call 125; refine (HT.out _ _ (HF1.out.setDp _) HDG.out).mono ?_; rintro e w' ⟨rfl, t1, t2, t3⟩)
          go_end0
          exact ⟨rfl, ⟨_, t1, t2⟩, ((OnlyB.of_below b HBel.out).trans ((HB.out.set 801 _).trans t3))⟩
      | succ gk =>
        have cj := hF.d j (by omega)
        have fj := hF.fz j
        have hbuf := HB1.out.only HB.out hbne hsz
        have cb := hbuf.d gk (by omega)
        have hj8 : j < 800 := by omega
        have hgk : gk < 24 := by omega
        have b24 : decide (gk < 24) = true := decide_eq_true hgk
        have b800 : decide (j < 800) = true := decide_eq_true hj8
        have e1 : ((gk + 1 : Nat) : Int) - 1 = (gk : Int) := by omega
        rw [e1]
        clear hF hf' HF hbuf
        as_aux_lemma =>
          go_wp2
          go_region
          go_wp2
          go_roundg gk
          case measure => omega
          case rel =>
            refine ⟨j + 1, by omega, by go_num, ⟨upd f' j (g gk), (((HF1.out.drewN _).setD hj8 (g gk)).setNd ((j + 1 : Nat) : Int)), fun i hi => ?_⟩, Lib.hid (((HB.out.drewN _).set j _).set 800 _)⟩
            by_cases e : i = j
            · subst e; rw [upd_same, Hg.out gk (by omega)]; congr 1; omega
            · rw [upd_other _ _ e]; exact Hf.out i (by omega)

end Go.Proofs.YtdencljnbilchaaGreatDoor

namespace Go.Proofs.YtdencljnbilchaaGreatDoor
open Go.RowKit

theorem dcell {w : World} {b : Nat} {ng : Bool} {s : DS} (hD : DecS w b ng s) (hn : s.nd ≤ 800) {i : Nat} (hi : i < s.nd) : w.cell? ⟨b, i, none⟩ = some (.int .u8 (((s.M / 10 ^ (s.nd - 1 - i) % 10 : Nat) : Int) + 48)) := by
  obtain ⟨f, h1, h2⟩ := hD
  have h := h1.d i (by omega)
  rw [h2.2 i hi] at h
  rw [h]; congr 2; omega

set_option maxHeartbeats 4000000 in
theorem sru_any (w : World) (b : Nat) (ng : Bool) (s : DS) (i : Int) (hn : s.nd ≤ 800) (hD : DecS w b ng s) (hi1 : -1000000000 ≤ i) (hi2 : i ≤ 1000000000) :
    Calls Tryz.prog 128 #[.pointer (some ⟨b, 0, none⟩), .int .i64 i] w fun e w' => e = .returned (.bool (sruB s i)) ∧ w = w' := by
  obtain ⟨f, hF, hdg⟩ := id hD
  have c800 := hF.nd
  have c803 := hF.tr
  have hd0 := fun j hj => dcell hD hn (i := j) hj
  obtain ⟨R, hR⟩ : ∃ R, sruB s i = R := ⟨_, rfl⟩
  unfold sruB at hR
  clear hF hdg hD
  by_cases h1 : i < 0
  · rw [if_pos (.inl h1)] at hR
    have HR := Lib.hid hR
    unfold sruB
    rw [if_pos (.inl h1)]
    clear hR hd0
    go_enter Tryz.func128, Tryz.ntmps128
    go_wp2
    go_ret
    exact ⟨rfl, rfl⟩
  · obtain ⟨k, rfl⟩ : ∃ k : Nat, i = k := ⟨i.toNat, by omega⟩
    by_cases h2 : s.nd ≤ k
    · have h2I : (s.nd : Int) ≤ k := by omega
      have e : sruB s k = false := by unfold sruB; rw [if_pos (.inr h2I)]
      rw [e]
      clear hR hd0
      go_enter Tryz.func128, Tryz.ntmps128
      go_wp2
      go_ret
      exact ⟨rfl, rfl⟩
    · have h2I : ¬ (s.nd : Int) ≤ k := by omega
      clear hi1 hi2
      have e : sruB s k = (if s.M / 10 ^ (s.nd - 1 - k) % 10 = 5 ∧ k + 1 = s.nd then (if s.tr = true then true else decide (0 < k ∧ s.M / 10 ^ (s.nd - 1 - (k - 1)) % 10 % 2 ≠ 0)) else decide (5 ≤ s.M / 10 ^ (s.nd - 1 - k) % 10)) := by
        unfold sruB; rw [if_neg (by omega), Int.toNat_natCast]
      rw [e]
      clear hR e R
      have hc := hd0 k (by omega)
      obtain ⟨d, ed⟩ : ∃ d, s.M / 10 ^ (s.nd - 1 - k) % 10 = d := ⟨_, rfl⟩
      have hd9 : d ≤ 9 := by omega
      rw [ed] at hc ⊢
      by_cases h5 : d = 5
      · subst h5
        by_cases hl : k + 1 = s.nd
        · rw [if_pos ⟨rfl, hl⟩]
          have bl : ((k : Int) + 1 == (s.nd : Int)) = true := beq_iff_eq.2 (by omega)
          cases htr : s.tr with
          | true =>
            rw [htr] at c803
            rw [if_pos rfl]
            clear ed hd0 hl htr
            go_enter Tryz.func128, Tryz.ntmps128
            go_wp2
            go_ret
            exact ⟨rfl, rfl⟩
          | false =>
            rw [htr] at c803
            rw [if_neg (by decide)]
            by_cases hk0 : k = 0
            · subst hk0
              clear ed hd0 hl htr
              go_enter Tryz.func128, Tryz.ntmps128
              go_wp2
              go_ret
              exact ⟨rfl, rfl⟩
            · obtain ⟨j, rfl⟩ : ∃ j, k = j + 1 := ⟨k - 1, by omega⟩
              clear hk0 h1
              have hc2 := hd0 j (by omega)
              rw [Nat.add_sub_cancel]
              obtain ⟨d2, ed2⟩ : ∃ d2, s.M / 10 ^ (s.nd - 1 - j) % 10 = d2 := ⟨_, rfl⟩
              have hd92 : d2 ≤ 9 := by omega
              rw [ed2] at hc2 ⊢
              have hkI : (0 : Int) < ((j + 1 : Nat) : Int) := by omega
              cases hodd : decide (0 < j + 1 ∧ d2 % 2 ≠ 0) with
              | true =>
                have bo : ((d2 : Int) % 2 != 0) = true := by simp at hodd; simp; omega
                clear ed ed2 hd0 hl htr hodd
                go_enter Tryz.func128, Tryz.ntmps128
                go_wp2
                go_ret
                exact ⟨rfl, rfl⟩
              | false =>
                have bo : ((d2 : Int) % 2 != 0) = false := by simp at hodd; simp; omega
                clear ed ed2 hd0 hl htr hodd
                go_enter Tryz.func128, Tryz.ntmps128
                go_wp2
                go_ret
                exact ⟨rfl, rfl⟩
        · rw [if_neg (fun h => hl h.2)]
          have bl : ((k : Int) + 1 == (s.nd : Int)) = false := beq_eq_false_iff_ne.2 (by omega)
          clear ed hd0 hl
          go_enter Tryz.func128, Tryz.ntmps128
          go_wp2
          go_ret
          exact ⟨rfl, rfl⟩
      · rw [if_neg (fun h => h5 h.1)]
        have b5 : ((d : Int) + 48 == 53) = false := beq_eq_false_iff_ne.2 (by omega)
        by_cases hge : 5 ≤ d
        · rw [decide_eq_true hge]
          have hgI : (53 : Int) ≤ (d : Int) + 48 := by omega
          clear ed hd0 h5 hge
          go_enter Tryz.func128, Tryz.ntmps128
          go_wp2
          go_ret
          exact ⟨rfl, rfl⟩
        · rw [decide_eq_false hge]
          have hgI : ¬ (53 : Int) ≤ (d : Int) + 48 := by omega
          clear ed hd0 h5 hge
          go_enter Tryz.func128, Tryz.ntmps128
          go_wp2
          go_ret
          exact ⟨rfl, rfl⟩

end Go.Proofs.YtdencljnbilchaaGreatDoor

namespace Go.Proofs.YtdencljnbilchaaGreatDoor
open Go.RowKit

theorem dgs_take {f : Nat → Nat} : ∀ (d n M : Nat), dgs f (n + d) M → dgs f n (M / 10 ^ d)
  | 0, n, M, h => by simpa using h
  | d + 1, n, M, h => by
    have h1 := dgs_take d (n + 1) M (by rwa [show n + 1 + d = n + (d + 1) by omega])
    have h2 := dgs_drop h1
    rwa [Nat.div_div_eq_div_mul, ← Nat.pow_succ] at h2

/-- Round where nothing is to be done. -/
theorem round_none (w : World) (b : Nat) (ng : Bool) (s : DS) (nd : Int) (h : s.nd ≤ nd) (hD : DecS w b ng s) :
    Calls Tryz.prog 96 #[.pointer (some ⟨b, 0, none⟩), .int .i64 nd] w fun e w' => e = .returned (.tuple #[]) ∧ w = w' := by
  obtain ⟨f, hF, _⟩ := hD
  have cn := hF.nd
  have fn := hF.fz 800
  clear hF
  obtain ⟨m, rfl⟩ : ∃ m : Nat, nd = m := ⟨nd.toNat, by omega⟩
  have hm : s.nd ≤ m := by omega
  have hm1 : ¬ m < s.nd := by omega
  go_enter Tryz.func96, Tryz.ntmps96
  go_wp2
  exact bodyPost_ret (v := .tuple #[]) (by simp [results, Tryz.results96, go_sem]) rfl ⟨rfl, rfl⟩

set_option maxHeartbeats 1600000 in
theorem roundDown_any (w : World) (b : Nat) (ng : Bool) (s : DS) (n : Nat) (hn : n < s.nd) (hs : s.nd ≤ 800) (hD : DecS w b ng s) :
    Calls Tryz.prog 130 #[.pointer (some ⟨b, 0, none⟩), .int .i64 n] w
      (DecEnd w b ng ⟨(trimN n (s.M / 10 ^ (s.nd - n))).2, (trimN n (s.M / 10 ^ (s.nd - n))).1, dpT (trimN n (s.M / 10 ^ (s.nd - n))).1 s.dp, s.tr⟩) := by
  obtain ⟨f, hF, hg⟩ := hD
  have cn := hF.nd
  have fn := hF.fz 800
  have hg' : dgs f n (s.M / 10 ^ (s.nd - n)) := dgs_take (s.nd - n) n s.M (by rwa [show n + (s.nd - n) = s.nd by omega])
  have HT : Hid (∀ (W : World), DecF W b f n s.dp ng s.tr → Calls Tryz.prog 125 #[.pointer (some ⟨b, 0, none⟩)] W (TrimEnd W b f (trimN n (s.M / 10 ^ (s.nd - n))) s.dp ng s.tr)) :=
    fun W h => trim_any W b f n _ s.dp ng s.tr (by omega) h hg'
  have HF := Lib.hid (hF.setNd n)
  clear hF hg hg'
  go_enter Tryz.func130, Tryz.ntmps130
  go_wp2_with (go_at_call 125; refine (HT.out _ HF.out).mono ?_; rintro e w' ⟨rfl, t1, t2, t3⟩)
  go_end0
  exact ⟨rfl, ⟨_, t1, t2⟩, ((OnlyB.refl b w).set 800 _).trans t3⟩

end Go.Proofs.YtdencljnbilchaaGreatDoor

namespace Go.Proofs.YtdencljnbilchaaGreatDoor
open Go.RowKit

/-- One more in the last place: how many digits are left, and their number; none: all were nines. -/
def upN : Nat → Nat → Option (Nat × Nat)
  | 0, _ => none
  | n + 1, A => if A % 10 = 9 then upN n (A / 10) else some (n + 1, A + 1)

def upR (s : DS) (n : Nat) : DS := match upN n (s.M / 10 ^ (s.nd - n)) with
  | none => ⟨1, 1, s.dp + 1, s.tr⟩
  | some (k, B) => ⟨B, k, s.dp, s.tr⟩

theorem dgs_inc {f : Nat → Nat} {n A : Nat} (h : dgs f (n + 1) A) (h9 : A % 10 ≠ 9) : dgs (upd f n (48 + A % 10 + 1)) (n + 1) (A + 1) := by
  refine ⟨?_, fun i hi => ?_⟩
  · have := h.1; rw [Nat.pow_succ] at this ⊢; omega
  · by_cases e : i = n
    · subst e
      rw [upd_same, show i + 1 - 1 - i = 0 by omega, Nat.pow_zero, Nat.div_one]; omega
    · rw [upd_other _ _ e, h.2 i hi, show n + 1 - 1 - i = (n - 1 - i) + 1 by omega, Nat.pow_succ, Nat.mul_comm (10 ^ (n - 1 - i)) 10, ← Nat.div_div_eq_div_mul, ← Nat.div_div_eq_div_mul, show (A + 1) / 10 = A / 10 by omega]

theorem dgs_one (f : Nat → Nat) : dgs (upd f 0 49) 1 1 := by
  refine ⟨by decide, fun i hi => ?_⟩
  obtain rfl : i = 0 := by omega
  rw [upd_same]

set_option maxRecDepth 100000 in
set_option maxHeartbeats 3200000 in
theorem roundUp_any (w : World) (b : Nat) (ng : Bool) (s : DS) (n : Nat) (hn : n < s.nd) (hs : s.nd ≤ 800) (hd1 : -1000000000 ≤ s.dp) (hd2 : s.dp ≤ 1000000000) (hD : DecS w b ng s) :
    Calls Tryz.prog 129 #[.pointer (some ⟨b, 0, none⟩), .int .i64 n] w (DecEnd w b ng (upR s n)) := by
  obtain ⟨f, hF, hg⟩ := hD
  have cn := hF.nd
  have fn := hF.fz 800
  have hg' : dgs f n (s.M / 10 ^ (s.nd - n)) := dgs_take (s.nd - n) n s.M (by rwa [show n + (s.nd - n) = s.nd by omega])
  have HF := Lib.hid hF
  have HG := Lib.hid hg'
  have hn1 : ¬ s.nd ≤ n := by omega
  clear hF hg hg'
  go_enter Tryz.func129, Tryz.ntmps129
  go_wp2
  go_loopg [4, 5] n (fun gk q c wr => ∃ A : Nat, gk ≤ n ∧ q = .int .i64 ((gk : Int) - 1) ∧ Hid (upN n (s.M / 10 ^ (s.nd - n)) = upN gk A) ∧ Hid (dgs f gk A) ∧ wr = w)
  case atStart => exact ⟨_, by omega, by go_num, rfl, HG, rfl⟩
  case round =>
    obtain ⟨A, hgk, rfl, HU, HA, rfl⟩ := hrel
    cases gk with
    | zero =>
      have HR : Hid (upR s n = ⟨1, 1, s.dp + 1, s.tr⟩) := by unfold Hid upR; rw [HU.out]; rfl
      have c0 := HF.out.d 0 (by omega)
      have f0 := HF.out.fz 0
      have cp := HF.out.dp
      have fp := HF.out.fz 801
      as_aux_lemma =>
        go_wp2
        go_end0
        refine ⟨rfl, ?_, (((OnlyB.refl b wr).set 0 _).set 800 _).set 801 _⟩
        rw [HR.out]
        exact ⟨upd f 0 49, (((HF.out.setD (i := 0) (by omega) 49).setNd ((1 : Nat) : Int)).setDp (s.dp + 1)), dgs_one f⟩
    | succ gk =>
      have ck := HF.out.d gk (by omega)
      have fk := HF.out.fz gk
      have hfk : f gk = 48 + A % 10 := dgs_last HA.out
      have e1 : ((gk + 1 : Nat) : Int) - 1 = (gk : Int) := by omega
      rw [e1]
      rw [hfk] at ck
      have hgk8 : gk < 800 := by omega
      by_cases h9 : A % 10 = 9
      · rw [h9] at ck
        as_aux_lemma =>
          go_wp2
          go_roundg gk
          case measure => omega
          case rel => exact ⟨A / 10, by omega, by go_num, by unfold Hid; rw [HU.out, upN, if_pos h9], dgs_drop HA.out, rfl⟩
      · have hlt9 : 48 + A % 10 < 57 := by omega
        have HR : Hid (upR s n = ⟨A + 1, gk + 1, s.dp, s.tr⟩) := by unfold Hid upR; rw [HU.out, upN, if_neg h9]
        have HI := Lib.hid (dgs_inc HA.out h9)
        obtain ⟨D, eD⟩ : ∃ D, 48 + A % 10 = D := ⟨_, rfl⟩
        rw [eD] at ck hlt9 HI
        clear eD hfk
        as_aux_lemma =>
          go_wp2
          go_region
          go_wp2
          refine bodyPost_ret (v := .tuple #[]) (by simp [results, Tryz.results129, go_sem]) rfl ⟨rfl, ?_, (((OnlyB.refl b wr).drewN _).set gk _).set 800 _⟩
          rw [HR.out]
          exact ⟨_, ((HF.out.drewN _).setD hgk8 (D + 1)).setNd ((gk + 1 : Nat) : Int), HI.out⟩

/-- What Round leaves. -/
def roundR (s : DS) (n : Nat) : DS :=
  if s.nd ≤ n then s
  else if sruB s n = true then upR s n
  else ⟨(trimN n (s.M / 10 ^ (s.nd - n))).2, (trimN n (s.M / 10 ^ (s.nd - n))).1, dpT (trimN n (s.M / 10 ^ (s.nd - n))).1 s.dp, s.tr⟩

set_option maxHeartbeats 1600000 in
theorem round_any10 (w : World) (b : Nat) (ng : Bool) (s : DS) (n : Nat) (hn : n ≤ 1000000) (hs : s.nd ≤ 800) (hd1 : -1000000000 ≤ s.dp) (hd2 : s.dp ≤ 1000000000) (hD : DecS w b ng s) :
    Calls Tryz.prog 96 #[.pointer (some ⟨b, 0, none⟩), .int .i64 n] w (DecEnd w b ng (roundR s n)) := by
  by_cases h : s.nd ≤ n
  · have hr : roundR s n = s := by unfold roundR; rw [if_pos h]
    exact (round_none w b ng s n (by omega) hD).mono fun e w' ⟨h1, h2⟩ => ⟨h1, by rw [hr, ← h2]; exact hD, h2 ▸ OnlyB.refl b w⟩
  · have HS := Lib.hid (sru_any w b ng s n hs hD (by omega) (by omega))
    have HU := Lib.hid (roundUp_any w b ng s n (by omega) hs hd1 hd2 hD)
    have HN := Lib.hid (roundDown_any w b ng s n (by omega) hs hD)
    obtain ⟨f, hF, _⟩ := hD
    have cn := hF.nd
    have fn := hF.fz 800
    clear hF
    cases hb : sruB s n with
    | true =>
      rw [hb] at HS
      have hr : roundR s n = upR s n := by unfold roundR; rw [if_neg h, if_pos hb]
      go_enter Tryz.func96, Tryz.ntmps96
      go_wp2_with (first | (go_at_call 128; refine HS.out.mono ?_; rintro e w' ⟨rfl, rfl⟩) | (go_at_call 129; refine HU.out.mono ?_; rintro e w' ⟨rfl, t1, t2⟩))
      go_end0
      exact ⟨rfl, by rw [hr]; exact t1, t2⟩
    | false =>
      rw [hb] at HS
      have hr : roundR s n = ⟨(trimN n (s.M / 10 ^ (s.nd - n))).2, (trimN n (s.M / 10 ^ (s.nd - n))).1, dpT (trimN n (s.M / 10 ^ (s.nd - n))).1 s.dp, s.tr⟩ := by unfold roundR; rw [if_neg h, if_neg (by rw [hb]; decide)]
      go_enter Tryz.func96, Tryz.ntmps96
      go_wp2_with (first | (go_at_call 128; refine HS.out.mono ?_; rintro e w' ⟨rfl, rfl⟩) | (go_at_call 130; refine HN.out.mono ?_; rintro e w' ⟨rfl, t1, t2⟩))
      go_end0
      exact ⟨rfl, by rw [hr]; exact t1, t2⟩

end Go.Proofs.YtdencljnbilchaaGreatDoor
