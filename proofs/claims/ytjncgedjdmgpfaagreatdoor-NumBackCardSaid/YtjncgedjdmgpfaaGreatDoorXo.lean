/- The walk of Shift. Walks: shouldRoundUp, RoundedInteger. The walks of decimal.RoundDown, Round. -/
import Derived.Test.YtjncgedjdmgpfaaGreatDoorXm
import Derived.Test.YtjncgedjdmgpfaaGreatDoorXn
import Derived.Test.YtjncgedjdmgpfaaGreatDoorXl

namespace Go.Proofs.YtjncgedjdmgpfaaGreatDoor
open Go.RowKit

def DecS (w : World) (b : Nat) (ng : Bool) (s : DS) : Prop := ∃ f, DecF w b f s.nd s.dp ng s.tr ∧ dgs f s.nd s.M

/-- A call on the decimal in block b that leaves s'. -/
def DecEnd (w : World) (b : Nat) (ng : Bool) (s' : DS) (e : Ending) (w' : World) : Prop := e = .returned (.tuple #[]) ∧ DecS w' b ng s' ∧ OnlyB b w w'

theorem leftShift_s (w : World) (b k : Nat) (ng : Bool) (s : DS) (hG : LaidG w) (hs : s.ok) (hk1 : 1 ≤ k) (hk : k ≤ 60) (hD : DecS w b ng s) (hp1 : -1000000000 ≤ s.dp) (hp2 : s.dp ≤ 1000000000) :
    Calls Tryz.prog 114 #[.pointer (some ⟨b, 0, none⟩), .int .u64 k] w (DecEnd w b ng (shlS s k)) := by
  obtain ⟨f, h1, h2⟩ := hD
  exact (leftShift_any w b f s.nd s.M k s.dp ng s.tr hG hs.2.1 hs.1 hk1 hk h1 h2 hs.2.2.1 hp1 hp2).mono fun e w' ⟨he, f', a, b, c⟩ => ⟨he, ⟨f', a, b⟩, c⟩
theorem rightShift_s (w : World) (b k : Nat) (ng : Bool) (s : DS) (hs : s.ok) (hk1 : 1 ≤ k) (hk : k ≤ 60) (hD : DecS w b ng s) (hp1 : -1000000000 ≤ s.dp) (hp2 : s.dp ≤ 1000000000) :
    Calls Tryz.prog 115 #[.pointer (some ⟨b, 0, none⟩), .int .u64 k] w (DecEnd w b ng (shrS s k)) := by
  obtain ⟨f, h1, h2⟩ := hD
  exact (rightShift_any w b f s.nd s.M k s.dp ng s.tr hs.2.1 hs.1 hk1 hk h1 h2 hs.pos hp1 hp2).mono fun e w' ⟨he, f', a, b, c⟩ => ⟨he, ⟨f', a, b⟩, c⟩

/-- The library's tables lie below the decimal. -/
def Under (w : World) (b : Nat) : Prop := ∃ w0, LaidG w0 ∧ Below w0.heap.size w0 w ∧ w0.heap.size ≤ b
theorem Under.laid {w : World} {b : Nat} (h : Under w b) : LaidG w := by
  obtain ⟨w0, h1, h2, _⟩ := h; exact h1.below h2
theorem Under.on {w w' : World} {b : Nat} (h : Under w b) (hB : OnlyB b w w') : Under w' b := by
  obtain ⟨w0, h1, h2, h3⟩ := h; exact ⟨w0, h1, hB.below_of h2 h3 h2.size, h3⟩

set_option maxHeartbeats 4000000 in
theorem shiftL_any (w : World) (b k : Nat) (ng : Bool) (s : DS) (hU : Under w b) (hs : s.ok) (hk1 : 1 ≤ k) (hk : k ≤ 400000) (hD : DecS w b ng s) (hp1 : -500000000 ≤ s.dp) (hp2 : s.dp ≤ 500000000) :
    Calls Tryz.prog 77 #[.pointer (some ⟨b, 0, none⟩), .int .i64 k] w (DecEnd w b ng (shlR s k)) := by
  have hn1 := hs.1
  have HD := Lib.hid hD
  obtain ⟨f0, hF0, _⟩ := hD
  have c800 := hF0.nd
  have bn : ((s.nd : Int) == 0) = false := beq_eq_false_iff_ne.2 (by omega)
  have bk1 : decide (0 < k) = true := decide_eq_true (by omega)
  have bk2 : decide ((k : Int) < 0) = false := decide_eq_false (by omega)
  have HU := Lib.hid hU
  have HS := Lib.hid hs
  have HB := Lib.hid (OnlyB.refl b w)
  clear hF0 hU hs hn1
  go_enter Tryz.func77, Tryz.ntmps77
  go_wp2
  go_loopg [1] k (fun g kk wr => ∃ s' : DS, 1 ≤ g ∧ g ≤ k ∧ kk = .int .i64 g ∧ Hid (shlR s k = shlR s' g) ∧ Hid s'.ok ∧ s.dp - 500000000 ≤ s'.dp ∧ s'.dp ≤ 500000000 + ((k : Int) - g) ∧ Hid (DecS wr b ng s') ∧ Hid (OnlyB b w wr))
  case atStart => exact ⟨s, hk1, Nat.le_refl _, rfl, rfl, HS, by omega, by omega, HD, HB⟩
  case round =>
    obtain ⟨s', hg1, hgk, rfl, HR, HS', hd1, hd2, HD', HB'⟩ := hrel
    have HU' := Lib.hid (HU.out.on HB'.out)
    by_cases h60 : 60 < gk
    · have hst := shlS_bd HS'.out 60
      have HR2 : Hid (shlR s k = shlR (shlS s' 60) (gk - 60)) := by unfold Hid; rw [HR.out, shlR, if_pos h60]
      have HOK := Lib.hid (shlS_ok HS'.out 60).1
      have hC := leftShift_s wr b 60 ng s' HU'.out.laid HS'.out (by omega) (by omega) HD'.out (by omega) (by omega)
      have HC := Lib.hid hC
      clear hC
      go_wp2_with (go_at_call 114; refine HC.out.mono ?_; rintro e w' ⟨rfl, hD2, hB2⟩)
      go_roundg (gk - 60)
      case measure => omega
      case rel => exact ⟨shlS s' 60, by omega, by omega, by go_num, HR2, HOK, by omega, by omega, hD2, HB'.out.trans hB2⟩
    · have HR2 : Hid (shlR s k = shlS s' gk) := by unfold Hid; rw [HR.out, shlR, if_neg h60]
      have hC := leftShift_s wr b gk ng s' HU'.out.laid HS'.out (by omega) (by omega) HD'.out (by omega) (by omega)
      have HC := Lib.hid hC
      clear hC
      go_wp2_with (go_at_call 114; refine HC.out.mono ?_; rintro e w' ⟨rfl, hD2, hB2⟩)
      go_end0
      rw [HR2.out]
      exact ⟨rfl, hD2, HB'.out.trans hB2⟩

set_option maxHeartbeats 4000000 in
theorem shiftR_any (w : World) (b k : Nat) (ng : Bool) (s : DS) (hs : s.ok) (hk1 : 1 ≤ k) (hk : k ≤ 400000) (hD : DecS w b ng s) (hp1 : -500000000 ≤ s.dp) (hp2 : s.dp ≤ 500000000) :
    Calls Tryz.prog 77 #[.pointer (some ⟨b, 0, none⟩), .int .i64 (-(k : Int))] w (DecEnd w b ng (shrR s k)) := by
  have hn1 := hs.1
  have HD := Lib.hid hD
  obtain ⟨f0, hF0, _⟩ := hD
  have c800 := hF0.nd
  have bn : ((s.nd : Int) == 0) = false := beq_eq_false_iff_ne.2 (by omega)
  have bk1 : decide (0 < k) = true := decide_eq_true (by omega)
  have bk2 : decide ((k : Int) < 0) = false := decide_eq_false (by omega)
  have HS := Lib.hid hs
  have HB := Lib.hid (OnlyB.refl b w)
  clear hF0 hs hn1
  go_enter Tryz.func77, Tryz.ntmps77
  go_wp2
  go_loopg [1] k (fun g kk wr => ∃ s' : DS, 1 ≤ g ∧ g ≤ k ∧ kk = .int .i64 (-(g : Int)) ∧ Hid (shrR s k = shrR s' g) ∧ Hid s'.ok ∧ -500000000 - ((k : Int) - g) ≤ s'.dp ∧ s'.dp ≤ 500000000 ∧ Hid (DecS wr b ng s') ∧ Hid (OnlyB b w wr))
  case atStart => exact ⟨s, hk1, Nat.le_refl _, rfl, rfl, HS, by omega, by omega, HD, HB⟩
  case round =>
    obtain ⟨s', hg1, hgk, rfl, HR, HS', hd1, hd2, HD', HB'⟩ := hrel
    by_cases h60 : 60 < gk
    · have hst := shrS_dp HS'.out 60
      have HR2 : Hid (shrR s k = shrR (shrS s' 60) (gk - 60)) := by unfold Hid; rw [HR.out, shrR, if_pos h60]
      have HOK := Lib.hid (shrS_ok HS'.out 60).1
      have hC := rightShift_s wr b 60 ng s' HS'.out (by omega) (by omega) HD'.out (by omega) (by omega)
      have HC := Lib.hid hC
      clear hC
      go_wp2_with (go_at_call 115; refine HC.out.mono ?_; rintro e w' ⟨rfl, hD2, hB2⟩)
      go_roundg (gk - 60)
      case measure => omega
      case rel => exact ⟨shrS s' 60, by omega, by omega, by go_num, HR2, HOK, by omega, by omega, hD2, HB'.out.trans hB2⟩
    · have HR2 : Hid (shrR s k = shrS s' gk) := by unfold Hid; rw [HR.out, shrR, if_neg h60]
      have hC := rightShift_s wr b gk ng s' HS'.out (by omega) (by omega) HD'.out (by omega) (by omega)
      have HC := Lib.hid hC
      clear hC
      go_wp2_with (go_at_call 115; refine HC.out.mono ?_; rintro e w' ⟨rfl, hD2, hB2⟩)
      go_end0
      rw [HR2.out]
      exact ⟨rfl, hD2, HB'.out.trans hB2⟩

end Go.Proofs.YtjncgedjdmgpfaaGreatDoor

namespace Go.Proofs.YtjncgedjdmgpfaaGreatDoor
open Go.RowKit

theorem dcell {w : World} {b : Nat} {ng : Bool} {s : DS} (hD : DecS w b ng s) (hn : s.nd ≤ 800) {i : Nat} (hi : i < s.nd) : w.cell? ⟨b, i, none⟩ = some (.int .u8 (((s.M / 10 ^ (s.nd - 1 - i) % 10 : Nat) : Int) + 48)) := by
  obtain ⟨f, h1, h2⟩ := hD
  have h := h1.d i (by omega)
  rw [h2.2 i hi] at h
  rw [h]; congr 2; omega

set_option maxHeartbeats 4000000 in
theorem sru_any (w : World) (b : Nat) (ng : Bool) (s : DS) (i : Int) (hn : s.nd ≤ 800) (hD : DecS w b ng s) (hi1 : -1000000000 ≤ i) (hi2 : i ≤ 1000000000) :
    Calls Tryz.prog 116 #[.pointer (some ⟨b, 0, none⟩), .int .i64 i] w fun e w' => e = .returned (.bool (sruB s i)) ∧ w = w' := by
  obtain ⟨f, hF, hdg⟩ := id hD
  have c800 := hF.nd
  have c803 := hF.tr
  have hd0 := fun j hj => dcell hD hn (i := j) hj
  obtain ⟨R, hR⟩ : ∃ R, sruB s i = R := ⟨_, rfl⟩
  unfold sruB at hR
  clear hF hdg hD
  by_cases h1 : i < 0
  · rw [if_pos (.inl h1)] at hR
    have HR := Lib.hid hR
    unfold sruB
    rw [if_pos (.inl h1)]
    clear hR hd0
    go_enter Tryz.func116, Tryz.ntmps116
    go_wp2
    go_ret
    exact ⟨rfl, rfl⟩
  · obtain ⟨k, rfl⟩ : ∃ k : Nat, i = k := ⟨i.toNat, by omega⟩
    by_cases h2 : s.nd ≤ k
    · have h2I : (s.nd : Int) ≤ k := by omega
      have e : sruB s k = false := by unfold sruB; rw [if_pos (.inr h2I)]
      rw [e]
      clear hR hd0
      go_enter Tryz.func116, Tryz.ntmps116
      go_wp2
      go_ret
      exact ⟨rfl, rfl⟩
    · have h2I : ¬ (s.nd : Int) ≤ k := by omega
      clear hi1 hi2
      have e : sruB s k = (if s.M / 10 ^ (s.nd - 1 - k) % 10 = 5 ∧ k + 1 = s.nd then (if s.tr = true then true else decide (0 < k ∧ s.M / 10 ^ (s.nd - 1 - (k - 1)) % 10 % 2 ≠ 0)) else decide (5 ≤ s.M / 10 ^ (s.nd - 1 - k) % 10)) := by
        unfold sruB; rw [if_neg (by omega), Int.toNat_natCast]
      rw [e]
      clear hR e R
      have hc := hd0 k (by omega)
      obtain ⟨d, ed⟩ : ∃ d, s.M / 10 ^ (s.nd - 1 - k) % 10 = d := ⟨_, rfl⟩
      have hd9 : d ≤ 9 := by omega
      rw [ed] at hc ⊢
      by_cases h5 : d = 5
      · subst h5
        by_cases hl : k + 1 = s.nd
        · rw [if_pos ⟨rfl, hl⟩]
          have bl : ((k : Int) + 1 == (s.nd : Int)) = true := beq_iff_eq.2 (by omega)
          cases htr : s.tr with
          | true =>
            rw [htr] at c803
            rw [if_pos rfl]
            clear ed hd0 hl htr
            go_enter Tryz.func116, Tryz.ntmps116
            go_wp2
            go_ret
            exact ⟨rfl, rfl⟩
          | false =>
            rw [htr] at c803
            rw [if_neg (by decide)]
            by_cases hk0 : k = 0
            · subst hk0
              clear ed hd0 hl htr
              go_enter Tryz.func116, Tryz.ntmps116
              go_wp2
              go_ret
              exact ⟨rfl, rfl⟩
            · obtain ⟨j, rfl⟩ : ∃ j, k = j + 1 := ⟨k - 1, by omega⟩
              clear hk0 h1
              have hc2 := hd0 j (by omega)
              rw [Nat.add_sub_cancel]
              obtain ⟨d2, ed2⟩ : ∃ d2, s.M / 10 ^ (s.nd - 1 - j) % 10 = d2 := ⟨_, rfl⟩
              have hd92 : d2 ≤ 9 := by omega
              rw [ed2] at hc2 ⊢
              have hkI : (0 : Int) < ((j + 1 : Nat) : Int) := by omega
              cases hodd : decide (0 < j + 1 ∧ d2 % 2 ≠ 0) with
              | true =>
                have bo : ((d2 : Int) % 2 != 0) = true := by simp at hodd; simp; omega
                clear ed ed2 hd0 hl htr hodd
                go_enter Tryz.func116, Tryz.ntmps116
                go_wp2
                go_ret
                exact ⟨rfl, rfl⟩
              | false =>
                have bo : ((d2 : Int) % 2 != 0) = false := by simp at hodd; simp; omega
                clear ed ed2 hd0 hl htr hodd
                go_enter Tryz.func116, Tryz.ntmps116
                go_wp2
                go_ret
                exact ⟨rfl, rfl⟩
        · rw [if_neg (fun h => hl h.2)]
          have bl : ((k : Int) + 1 == (s.nd : Int)) = false := beq_eq_false_iff_ne.2 (by omega)
          clear ed hd0 hl
          go_enter Tryz.func116, Tryz.ntmps116
          go_wp2
          go_ret
          exact ⟨rfl, rfl⟩
      · rw [if_neg (fun h => h5 h.1)]
        have b5 : ((d : Int) + 48 == 53) = false := beq_eq_false_iff_ne.2 (by omega)
        by_cases hge : 5 ≤ d
        · rw [decide_eq_true hge]
          have hgI : (53 : Int) ≤ (d : Int) + 48 := by omega
          clear ed hd0 h5 hge
          go_enter Tryz.func116, Tryz.ntmps116
          go_wp2
          go_ret
          exact ⟨rfl, rfl⟩
        · rw [decide_eq_false hge]
          have hgI : ¬ (53 : Int) ≤ (d : Int) + 48 := by omega
          clear ed hd0 h5 hge
          go_enter Tryz.func116, Tryz.ntmps116
          go_wp2
          go_ret
          exact ⟨rfl, rfl⟩

end Go.Proofs.YtjncgedjdmgpfaaGreatDoor

namespace Go.Proofs.YtjncgedjdmgpfaaGreatDoor
open Go.RowKit

theorem dgs_take {f : Nat → Nat} : ∀ (d n M : Nat), dgs f (n + d) M → dgs f n (M / 10 ^ d)
  | 0, n, M, h => by simpa using h
  | d + 1, n, M, h => by
    have h1 := dgs_take d (n + 1) M (by rwa [show n + 1 + d = n + (d + 1) by omega])
    have h2 := dgs_drop h1
    rwa [Nat.div_div_eq_div_mul, ← Nat.pow_succ] at h2

/-- Round where nothing is to be done. -/
theorem round_none (w : World) (b : Nat) (ng : Bool) (s : DS) (nd : Int) (h : s.nd ≤ nd) (hD : DecS w b ng s) :
    Calls Tryz.prog 78 #[.pointer (some ⟨b, 0, none⟩), .int .i64 nd] w fun e w' => e = .returned (.tuple #[]) ∧ w = w' := by
  obtain ⟨f, hF, _⟩ := hD
  have cn := hF.nd
  have fn := hF.fz 800
  clear hF
  obtain ⟨m, rfl⟩ : ∃ m : Nat, nd = m := ⟨nd.toNat, by omega⟩
  have hm : s.nd ≤ m := by omega
  have hm1 : ¬ m < s.nd := by omega
  go_enter Tryz.func78, Tryz.ntmps78
  go_wp2
  exact bodyPost_ret (v := .tuple #[]) (by simp [results, Tryz.results78, go_sem]) rfl ⟨rfl, rfl⟩

set_option maxHeartbeats 1600000 in
theorem roundDown_any (w : World) (b : Nat) (ng : Bool) (s : DS) (n : Nat) (hn : n < s.nd) (hs : s.nd ≤ 800) (hD : DecS w b ng s) :
    Calls Tryz.prog 118 #[.pointer (some ⟨b, 0, none⟩), .int .i64 n] w
      (DecEnd w b ng ⟨(trimN n (s.M / 10 ^ (s.nd - n))).2, (trimN n (s.M / 10 ^ (s.nd - n))).1, dpT (trimN n (s.M / 10 ^ (s.nd - n))).1 s.dp, s.tr⟩) := by
  obtain ⟨f, hF, hg⟩ := hD
  have cn := hF.nd
  have fn := hF.fz 800
  have hg' : dgs f n (s.M / 10 ^ (s.nd - n)) := dgs_take (s.nd - n) n s.M (by rwa [show n + (s.nd - n) = s.nd by omega])
  have HT : Hid (∀ (W : World), DecF W b f n s.dp ng s.tr → Calls Tryz.prog 113 #[.pointer (some ⟨b, 0, none⟩)] W (TrimEnd W b f (trimN n (s.M / 10 ^ (s.nd - n))) s.dp ng s.tr)) :=
    fun W h => trim_any W b f n _ s.dp ng s.tr (by omega) h hg'
  have HF := Lib.hid (hF.setNd n)
  clear hF hg hg'
  go_enter Tryz.func118, Tryz.ntmps118
  go_wp2_with (go_at_call 113; refine (HT.out _ HF.out).mono ?_; rintro e w' ⟨rfl, t1, t2, t3⟩)
  go_end0
  exact ⟨rfl, ⟨_, t1, t2⟩, ((OnlyB.refl b w).set 800 _).trans t3⟩

end Go.Proofs.YtjncgedjdmgpfaaGreatDoor
