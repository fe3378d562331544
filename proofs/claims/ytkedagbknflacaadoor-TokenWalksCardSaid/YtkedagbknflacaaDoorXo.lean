/- The walk of Shift. Plain: what decimal.set reads of a numeral. No program here. Walks: shouldRoundUp, RoundedInteger. The walk of RoundedInteger. -/
import Derived.Test.YtkedagbknflacaaDoorXm
import Derived.Test.YtkedagbknflacaaDoorXn
import Derived.Test.YtkedagbknflacaaDoorXl
import Derived.Test.YtkedagbknflacaaDoorPa
import Derived.Test.YtkedagbknflacaaDoorPo

namespace Go.Proofs.YtkedagbknflacaaDoor
open Go.RowKit

def DecS (w : World) (b : Nat) (ng : Bool) (s : DS) : Prop := ∃ f, DecF w b f s.nd s.dp ng s.tr ∧ dgs f s.nd s.M

/-- A call on the decimal in block b that leaves s'. -/
def DecEnd (w : World) (b : Nat) (ng : Bool) (s' : DS) (e : Ending) (w' : World) : Prop := e = .returned (.tuple #[]) ∧ DecS w' b ng s' ∧ OnlyB b w w'

theorem leftShift_s (w : World) (b k : Nat) (ng : Bool) (s : DS) (hG : LaidG w) (hs : s.ok) (hk1 : 1 ≤ k) (hk : k ≤ 60) (hD : DecS w b ng s) (hp1 : -1000000000 ≤ s.dp) (hp2 : s.dp ≤ 1000000000) :
    Calls Tryd.prog 86 #[.pointer (some ⟨b, 0, none⟩), .int .u64 k] w (DecEnd w b ng (shlS s k)) := by
  obtain ⟨f, h1, h2⟩ := hD
  exact (leftShift_any w b f s.nd s.M k s.dp ng s.tr hG hs.2.1 hs.1 hk1 hk h1 h2 hs.2.2.1 hp1 hp2).mono fun e w' ⟨he, f', a, b, c⟩ => ⟨he, ⟨f', a, b⟩, c⟩
theorem rightShift_s (w : World) (b k : Nat) (ng : Bool) (s : DS) (hs : s.ok) (hk1 : 1 ≤ k) (hk : k ≤ 60) (hD : DecS w b ng s) (hp1 : -1000000000 ≤ s.dp) (hp2 : s.dp ≤ 1000000000) :
    Calls Tryd.prog 87 #[.pointer (some ⟨b, 0, none⟩), .int .u64 k] w (DecEnd w b ng (shrS s k)) := by
  obtain ⟨f, h1, h2⟩ := hD
  exact (rightShift_any w b f s.nd s.M k s.dp ng s.tr hs.2.1 hs.1 hk1 hk h1 h2 hs.pos hp1 hp2).mono fun e w' ⟨he, f', a, b, c⟩ => ⟨he, ⟨f', a, b⟩, c⟩

/-- The library's tables lie below the decimal. -/
def Under (w : World) (b : Nat) : Prop := ∃ w0, LaidG w0 ∧ Below w0.heap.size w0 w ∧ w0.heap.size ≤ b
theorem Under.laid {w : World} {b : Nat} (h : Under w b) : LaidG w := by
  obtain ⟨w0, h1, h2, _⟩ := h; exact h1.below h2
theorem Under.on {w w' : World} {b : Nat} (h : Under w b) (hB : OnlyB b w w') : Under w' b := by
  obtain ⟨w0, h1, h2, h3⟩ := h; exact ⟨w0, h1, hB.below_of h2 h3 h2.size, h3⟩

set_option maxHeartbeats 4000000 in
theorem shiftL_any (w : World) (b k : Nat) (ng : Bool) (s : DS) (hU : Under w b) (hs : s.ok) (hk1 : 1 ≤ k) (hk : k ≤ 400000) (hD : DecS w b ng s) (hp1 : -500000000 ≤ s.dp) (hp2 : s.dp ≤ 500000000) :
    Calls Tryd.prog 81 #[.pointer (some ⟨b, 0, none⟩), .int .i64 k] w (DecEnd w b ng (shlR s k)) := by
  have hn1 := hs.1
  have HD := Lib.hid hD
  obtain ⟨f0, hF0, _⟩ := hD
  have c800 := hF0.nd
  have bn : ((s.nd : Int) == 0) = false := beq_eq_false_iff_ne.2 (by omega)
  have bk1 : decide (0 < k) = true := decide_eq_true (by omega)
  have bk2 : decide ((k : Int) < 0) = false := decide_eq_false (by omega)
  have HU := Lib.hid hU
  have HS := Lib.hid hs
  have HB := Lib.hid (OnlyB.refl b w)
  clear hF0 hU hs hn1
  go_enter Tryd.func81, Tryd.ntmps81
  go_wp2
  go_loopg [1] k (fun g kk wr => ∃ s' : DS, 1 ≤ g ∧ g ≤ k ∧ kk = .int .i64 g ∧ Hid (shlR s k = shlR s' g) ∧ Hid s'.ok ∧ s.dp - 500000000 ≤ s'.dp ∧ s'.dp ≤ 500000000 + ((k : Int) - g) ∧ Hid (DecS wr b ng s') ∧ Hid (OnlyB b w wr))
  case atStart => exact ⟨s, hk1, Nat.le_refl _, rfl, rfl, HS, by omega, by omega, HD, HB⟩
  case round =>
    obtain ⟨s', hg1, hgk, rfl, HR, HS', hd1, hd2, HD', HB'⟩ := hrel
    have HU' := Lib.hid (HU.out.on HB'.out)
    by_cases h60 : 60 < gk
    · have hst := shlS_bd HS'.out 60
      have HR2 : Hid (shlR s k = shlR (shlS s' 60) (gk - 60)) := by unfold Hid; rw [HR.out, shlR, if_pos h60]
      have HOK := Lib.hid (shlS_ok HS'.out 60).1
      have hC := leftShift_s wr b 60 ng s' HU'.out.laid HS'.out (by omega) (by omega) HD'.out (by omega) (by omega)
      have HC := Lib.hid hC
      clear hC
      go_wp2_with (go_at_call 86; refine HC.out.mono ?_; rintro e w' ⟨rfl, hD2, hB2⟩)
      go_roundg (gk - 60)
      case measure => omega
      case rel => exact ⟨shlS s' 60, by omega, by omega, by go_num, HR2, HOK, by omega, by omega, hD2, HB'.out.trans hB2⟩
    · have HR2 : Hid (shlR s k = shlS s' gk) := by unfold Hid; rw [HR.out, shlR, if_neg h60]
      have hC := leftShift_s wr b gk ng s' HU'.out.laid HS'.out (by omega) (by omega) HD'.out (by omega) (by omega)
      have HC := Lib.hid hC
      clear hC
      go_wp2_with (go_at_call 86; refine HC.out.mono ?_; rintro e w' ⟨rfl, hD2, hB2⟩)
      go_end0
      rw [HR2.out]
      exact ⟨rfl, hD2, HB'.out.trans hB2⟩

set_option maxHeartbeats 4000000 in
theorem shiftR_any (w : World) (b k : Nat) (ng : Bool) (s : DS) (hs : s.ok) (hk1 : 1 ≤ k) (hk : k ≤ 400000) (hD : DecS w b ng s) (hp1 : -500000000 ≤ s.dp) (hp2 : s.dp ≤ 500000000) :
    Calls Tryd.prog 81 #[.pointer (some ⟨b, 0, none⟩), .int .i64 (-(k : Int))] w (DecEnd w b ng (shrR s k)) := by
  have hn1 := hs.1
  have HD := Lib.hid hD
  obtain ⟨f0, hF0, _⟩ := hD
  have c800 := hF0.nd
  have bn : ((s.nd : Int) == 0) = false := beq_eq_false_iff_ne.2 (by omega)
  have bk1 : decide (0 < k) = true := decide_eq_true (by omega)
  have bk2 : decide ((k : Int) < 0) = false := decide_eq_false (by omega)
  have HS := Lib.hid hs
  have HB := Lib.hid (OnlyB.refl b w)
  clear hF0 hs hn1
  go_enter Tryd.func81, Tryd.ntmps81
  go_wp2
  go_loopg [1] k (fun g kk wr => ∃ s' : DS, 1 ≤ g ∧ g ≤ k ∧ kk = .int .i64 (-(g : Int)) ∧ Hid (shrR s k = shrR s' g) ∧ Hid s'.ok ∧ -500000000 - ((k : Int) - g) ≤ s'.dp ∧ s'.dp ≤ 500000000 ∧ Hid (DecS wr b ng s') ∧ Hid (OnlyB b w wr))
  case atStart => exact ⟨s, hk1, Nat.le_refl _, rfl, rfl, HS, by omega, by omega, HD, HB⟩
  case round =>
    obtain ⟨s', hg1, hgk, rfl, HR, HS', hd1, hd2, HD', HB'⟩ := hrel
    by_cases h60 : 60 < gk
    · have hst := shrS_dp HS'.out 60
      have HR2 : Hid (shrR s k = shrR (shrS s' 60) (gk - 60)) := by unfold Hid; rw [HR.out, shrR, if_pos h60]
      have HOK := Lib.hid (shrS_ok HS'.out 60).1
      have hC := rightShift_s wr b 60 ng s' HS'.out (by omega) (by omega) HD'.out (by omega) (by omega)
      have HC := Lib.hid hC
      clear hC
      go_wp2_with (go_at_call 87; refine HC.out.mono ?_; rintro e w' ⟨rfl, hD2, hB2⟩)
      go_roundg (gk - 60)
      case measure => omega
      case rel => exact ⟨shrS s' 60, by omega, by omega, by go_num, HR2, HOK, by omega, by omega, hD2, HB'.out.trans hB2⟩
    · have HR2 : Hid (shrR s k = shrS s' gk) := by unfold Hid; rw [HR.out, shrR, if_neg h60]
      have hC := rightShift_s wr b gk ng s' HS'.out (by omega) (by omega) HD'.out (by omega) (by omega)
      have HC := Lib.hid hC
      clear hC
      go_wp2_with (go_at_call 87; refine HC.out.mono ?_; rintro e w' ⟨rfl, hD2, hB2⟩)
      go_end0
      rw [HR2.out]
      exact ⟨rfl, hD2, HB'.out.trans hB2⟩

end Go.Proofs.YtkedagbknflacaaDoor

namespace Go.Proofs.YtkedagbknflacaaDoor

structure SD where
  M : Nat
  nd : Nat
  dp : Int
  sd : Bool
  sg : Bool
  tr : Bool

def SD.init : SD := ⟨0, 0, 0, false, false, false⟩

def sdStep (st : SD) (c : UInt8) : Option SD :=
  if c = 46 then (if st.sd = true then none else some { st with sd := true, dp := st.nd })
  else if isDig c = true then
    (if c = 48 ∧ st.nd = 0 then some { st with sg := true, dp := st.dp - 1 }
     else if st.nd < 800 then some { st with sg := true, nd := st.nd + 1, M := st.M * 10 + (c.toNat - 48) }
     else some { st with sg := true, tr := if c = 48 then st.tr else true })
  else none

def sdLoop : SD → List UInt8 → SD × Nat
  | st, [] => (st, 0)
  | st, c :: r => match sdStep st c with
    | none => (st, 0)
    | some st' => ((sdLoop st' r).1, (sdLoop st' r).2 + 1)

theorem sdLoop_end (st : SD) (l : List UInt8) (k : Nat) (h : l.length ≤ k) : sdLoop st (l.drop k) = (st, 0) := by
  rw [List.drop_eq_nil_of_le h]; rfl
theorem sdLoop_no (st : SD) (l : List UInt8) (k : Nat) (h : k < l.length) (hs : sdStep st l[k] = none) : sdLoop st (l.drop k) = (st, 0) := by
  rw [drop_at l k h, sdLoop, hs]
theorem sdLoop_yes (st st' : SD) (l : List UInt8) (k : Nat) (h : k < l.length) (hs : sdStep st l[k] = some st') : sdLoop st (l.drop k) = ((sdLoop st' (l.drop (k + 1))).1, (sdLoop st' (l.drop (k + 1))).2 + 1) := by
  rw [drop_at l k h, sdLoop, hs]

/-- What is read behind the mantissa, and that it all ends there. -/
def sdDone (l : List UInt8) (st : SD) (dp : Int) (i : Nat) : Option DS := if i = l.length then some ⟨st.M, st.nd, dp, st.tr⟩ else none

def sdExp (l : List UInt8) (st : SD) (dp : Int) (k : Nat) : Option DS :=
  if l.length ≤ k then none
  else if nWhile isDig (l.drop (k + sgnN (l.drop k))) = 0 then none
  else sdDone l st (dp + (eLoop 0 (l.drop (k + sgnN (l.drop k)))).1 * (if (l.drop k).head? = some 45 then -1 else 1)) (k + sgnN (l.drop k) + (eLoop 0 (l.drop (k + sgnN (l.drop k)))).2)

def sdTail (l : List UInt8) (st : SD) (i : Nat) : Option DS :=
  if (l.drop i).head? = some 46 then none
  else if st.sg = false then none
  else if (l.drop i).head? = some 101 ∨ (l.drop i).head? = some 69 then sdExp l st (if st.sd = true then st.dp else st.nd) (i + 1)
  else sdDone l st (if st.sd = true then st.dp else st.nd) i

def sdR (l : List UInt8) : Option DS :=
  if l = [] then none
  else sdTail l (sdLoop .init (l.drop (sgnN l))).1 (sgnN l + (sdLoop .init (l.drop (sgnN l))).2)

/-- What always holds of the loop's state behind k bytes. -/
def SD.ok (st : SD) (k : Nat) : Prop := st.M < 10 ^ st.nd ∧ (st.nd = 0 ∨ 10 ^ (st.nd - 1) ≤ st.M) ∧ st.nd ≤ 800 ∧ st.nd ≤ k ∧ -(k : Int) ≤ st.dp ∧ st.dp ≤ k

theorem SD.init_ok : SD.init.ok 0 := ⟨by show 0 < 1; omega, .inl rfl, by show 0 ≤ 800; omega, Nat.le_refl _, by show -((0 : Nat) : Int) ≤ 0; omega, by show (0 : Int) ≤ ((0 : Nat) : Int); omega⟩
theorem SD.ok_mono {st : SD} {k k' : Nat} (h : st.ok k) (hk : k ≤ k') : st.ok k' := by
  obtain ⟨h1, h2, h3, h4, h5, h6⟩ := h
  exact ⟨h1, h2, h3, by omega, by omega, by omega⟩

theorem sdStep_ok (st st' : SD) (k : Nat) (c : UInt8) (h : st.ok k) (hs : sdStep st c = some st') : st'.ok (k + 1) := by
  obtain ⟨M, nd, dp, sd, sg, tr⟩ := st
  obtain ⟨h1, h2, h3, h4, h5, h6⟩ := h
  dsimp only at h1 h2 h3 h4 h5 h6
  unfold sdStep at hs
  dsimp only at hs
  split at hs
  · split at hs
    · cases hs
    · cases hs; exact ⟨h1, h2, h3, by show nd ≤ k + 1; omega, by show -((k + 1 : Nat) : Int) ≤ (nd : Int); omega, by show (nd : Int) ≤ ((k + 1 : Nat) : Int); omega⟩
  · split at hs
    · rename_i hd
      have := dig_bd hd
      split at hs
      · cases hs; exact ⟨h1, h2, h3, by show nd ≤ k + 1; omega, by show -((k + 1 : Nat) : Int) ≤ dp - 1; omega, by show dp - 1 ≤ ((k + 1 : Nat) : Int); omega⟩
      · rename_i h48
        split at hs
        · cases hs
          refine ⟨?_, .inr ?_, by show nd + 1 ≤ 800; omega, by show nd + 1 ≤ k + 1; omega, by show -((k + 1 : Nat) : Int) ≤ dp; omega, by show dp ≤ ((k + 1 : Nat) : Int); omega⟩
          · show M * 10 + (c.toNat - 48) < 10 ^ (nd + 1)
            rw [Nat.pow_succ]; omega
          · show 10 ^ (nd + 1 - 1) ≤ M * 10 + (c.toNat - 48)
            rw [Nat.add_sub_cancel]
            rcases h2 with h2 | h2
            · subst h2
              have hc : c.toNat ≠ 48 := fun e => h48 ⟨UInt8.toNat_inj.1 e, rfl⟩
              show 1 ≤ _; omega
            · rcases Nat.eq_zero_or_pos nd with h0 | h0
              · subst h0
                have hc : c.toNat ≠ 48 := fun e => h48 ⟨UInt8.toNat_inj.1 e, rfl⟩
                show 1 ≤ _; omega
              · rw [show nd = nd - 1 + 1 by omega, Nat.pow_succ]; omega
        · cases hs
          exact ⟨h1, h2, h3, by show nd ≤ k + 1; omega, by show -((k + 1 : Nat) : Int) ≤ dp; omega, by show dp ≤ ((k + 1 : Nat) : Int); omega⟩
    · cases hs

theorem sdLoop_ok : ∀ (l : List UInt8) (st : SD) (k : Nat), st.ok k → (sdLoop st l).1.ok (k + (sdLoop st l).2)
  | [], st, k, h => h
  | c :: r, st, k, h => by
    unfold sdLoop
    split
    · exact h
    · rename_i st' hs
      have := sdLoop_ok r st' (k + 1) (sdStep_ok st st' k c h hs)
      rwa [show k + 1 + (sdLoop st' r).2 = k + ((sdLoop st' r).2 + 1) by omega] at this

/-- One digit more. -/
theorem dgs_add {f : Nat → Nat} {nd M c : Nat} (h : dgs f nd M) (h1 : 48 ≤ c) (h2 : c ≤ 57) : dgs (fun j => if j = nd then c else f j) (nd + 1) (M * 10 + (c - 48)) := by
  refine ⟨?_, fun i hi => ?_⟩
  · have := h.1; rw [Nat.pow_succ]; omega
  · show (if i = nd then c else f i) = _
    by_cases e : i = nd
    · subst e
      rw [if_pos rfl, show i + 1 - 1 - i = 0 by omega, Nat.pow_zero, Nat.div_one]; omega
    · have h3 := h.2 i (by omega)
      rw [if_neg e, h3, show nd + 1 - 1 - i = (nd - 1 - i) + 1 by omega, Nat.pow_succ, Nat.mul_comm (10 ^ (nd - 1 - i)) 10, ← Nat.div_div_eq_div_mul, show (M * 10 + (c - 48)) / 10 = M by omega]
theorem dgs_nil (f : Nat → Nat) : dgs f 0 0 := ⟨by decide, fun i hi => absurd hi (by omega)⟩

end Go.Proofs.YtkedagbknflacaaDoor

namespace Go.Proofs.YtkedagbknflacaaDoor
open Go.RowKit

theorem dcell {w : World} {b : Nat} {ng : Bool} {s : DS} (hD : DecS w b ng s) (hn : s.nd ≤ 800) {i : Nat} (hi : i < s.nd) : w.cell? ⟨b, i, none⟩ = some (.int .u8 (((s.M / 10 ^ (s.nd - 1 - i) % 10 : Nat) : Int) + 48)) := by
  obtain ⟨f, h1, h2⟩ := hD
  have h := h1.d i (by omega)
  rw [h2.2 i hi] at h
  rw [h]; congr 2; omega

set_option maxHeartbeats 4000000 in
theorem sru_any (w : World) (b : Nat) (ng : Bool) (s : DS) (i : Int) (hn : s.nd ≤ 800) (hD : DecS w b ng s) (hi1 : -1000000000 ≤ i) (hi2 : i ≤ 1000000000) :
    Calls Tryd.prog 88 #[.pointer (some ⟨b, 0, none⟩), .int .i64 i] w fun e w' => e = .returned (.bool (sruB s i)) ∧ w = w' := by
  obtain ⟨f, hF, hdg⟩ := id hD
  have c800 := hF.nd
  have c803 := hF.tr
  have hd0 := fun j hj => dcell hD hn (i := j) hj
  obtain ⟨R, hR⟩ : ∃ R, sruB s i = R := ⟨_, rfl⟩
  unfold sruB at hR
  clear hF hdg hD
  by_cases h1 : i < 0
  · rw [if_pos (.inl h1)] at hR
    have HR := Lib.hid hR
    unfold sruB
    rw [if_pos (.inl h1)]
    clear hR hd0
    go_enter Tryd.func88, Tryd.ntmps88
    go_wp2
    go_ret
    exact ⟨rfl, rfl⟩
  · obtain ⟨k, rfl⟩ : ∃ k : Nat, i = k := ⟨i.toNat, by omega⟩
    by_cases h2 : s.nd ≤ k
    · have h2I : (s.nd : Int) ≤ k := by omega
      have e : sruB s k = false := by unfold sruB; rw [if_pos (.inr h2I)]
      rw [e]
      clear hR hd0
      go_enter Tryd.func88, Tryd.ntmps88
      go_wp2
      go_ret
      exact ⟨rfl, rfl⟩
    · have h2I : ¬ (s.nd : Int) ≤ k := by omega
      clear hi1 hi2
      have e : sruB s k = (if s.M / 10 ^ (s.nd - 1 - k) % 10 = 5 ∧ k + 1 = s.nd then (if s.tr = true then true else decide (0 < k ∧ s.M / 10 ^ (s.nd - 1 - (k - 1)) % 10 % 2 ≠ 0)) else decide (5 ≤ s.M / 10 ^ (s.nd - 1 - k) % 10)) := by
        unfold sruB; rw [if_neg (by omega), Int.toNat_natCast]
      rw [e]
      clear hR e R
      have hc := hd0 k (by omega)
      obtain ⟨d, ed⟩ : ∃ d, s.M / 10 ^ (s.nd - 1 - k) % 10 = d := ⟨_, rfl⟩
      have hd9 : d ≤ 9 := by omega
      rw [ed] at hc ⊢
      by_cases h5 : d = 5
      · subst h5
        by_cases hl : k + 1 = s.nd
        · rw [if_pos ⟨rfl, hl⟩]
          have bl : ((k : Int) + 1 == (s.nd : Int)) = true := beq_iff_eq.2 (by omega)
          cases htr : s.tr with
          | true =>
            rw [htr] at c803
            rw [if_pos rfl]
            clear ed hd0 hl htr
            go_enter Tryd.func88, Tryd.ntmps88
            go_wp2
            go_ret
            exact ⟨rfl, rfl⟩
          | false =>
            rw [htr] at c803
            rw [if_neg (by decide)]
            by_cases hk0 : k = 0
            · subst hk0
              clear ed hd0 hl htr
              go_enter Tryd.func88, Tryd.ntmps88
              go_wp2
              go_ret
              exact ⟨rfl, rfl⟩
            · obtain ⟨j, rfl⟩ : ∃ j, k = j + 1 := ⟨k - 1, by omega⟩
              clear hk0 h1
              have hc2 := hd0 j (by omega)
              rw [Nat.add_sub_cancel]
              obtain ⟨d2, ed2⟩ : ∃ d2, s.M / 10 ^ (s.nd - 1 - j) % 10 = d2 := ⟨_, rfl⟩
              have hd92 : d2 ≤ 9 := by omega
              rw [ed2] at hc2 ⊢
              have hkI : (0 : Int) < ((j + 1 : Nat) : Int) := by omega
              cases hodd : decide (0 < j + 1 ∧ d2 % 2 ≠ 0) with
              | true =>
                have bo : ((d2 : Int) % 2 != 0) = true := by simp at hodd; simp; omega
                clear ed ed2 hd0 hl htr hodd
                go_enter Tryd.func88, Tryd.ntmps88
                go_wp2
                go_ret
                exact ⟨rfl, rfl⟩
              | false =>
                have bo : ((d2 : Int) % 2 != 0) = false := by simp at hodd; simp; omega
                clear ed ed2 hd0 hl htr hodd
                go_enter Tryd.func88, Tryd.ntmps88
                go_wp2
                go_ret
                exact ⟨rfl, rfl⟩
        · rw [if_neg (fun h => hl h.2)]
          have bl : ((k : Int) + 1 == (s.nd : Int)) = false := beq_eq_false_iff_ne.2 (by omega)
          clear ed hd0 hl
          go_enter Tryd.func88, Tryd.ntmps88
          go_wp2
          go_ret
          exact ⟨rfl, rfl⟩
      · rw [if_neg (fun h => h5 h.1)]
        have b5 : ((d : Int) + 48 == 53) = false := beq_eq_false_iff_ne.2 (by omega)
        by_cases hge : 5 ≤ d
        · rw [decide_eq_true hge]
          have hgI : (53 : Int) ≤ (d : Int) + 48 := by omega
          clear ed hd0 h5 hge
          go_enter Tryd.func88, Tryd.ntmps88
          go_wp2
          go_ret
          exact ⟨rfl, rfl⟩
        · rw [decide_eq_false hge]
          have hgI : ¬ (53 : Int) ≤ (d : Int) + 48 := by omega
          clear ed hd0 h5 hge
          go_enter Tryd.func88, Tryd.ntmps88
          go_wp2
          go_ret
          exact ⟨rfl, rfl⟩

end Go.Proofs.YtkedagbknflacaaDoor

namespace Go.Proofs.YtkedagbknflacaaDoor
open Go.RowKit

def riV (s : DS) : Nat := if 20 < s.dp then 18446744073709551615 else (preA s.M s.nd s.dp.toNat + (if sruB s s.dp = true then 1 else 0)) % 18446744073709551616

set_option maxHeartbeats 4000000 in
theorem ri_any (w : World) (b : Nat) (ng : Bool) (s : DS) (hn : s.nd ≤ 800) (hD : DecS w b ng s) (hi1 : -1000000000 ≤ s.dp) (hi2 : s.dp ≤ 1000000000) :
    Calls Tryd.prog 82 #[.pointer (some ⟨b, 0, none⟩)] w fun e w' => e = .returned (.int .u64 (riV s)) ∧ w = w' := by
  have hsru := fun W (h : DecS W b ng s) => sru_any W b ng s s.dp hn h hi1 hi2
  have HD := Lib.hid hD
  obtain ⟨f, hF, hdg⟩ := hD
  have c800 := hF.nd
  have c801 := hF.dp
  by_cases h20 : 20 < s.dp
  · have hV : riV s = 18446744073709551615 := by unfold riV; rw [if_pos h20]
    rw [hV]
    clear hF hdg hsru hV
    go_enter Tryd.func82, Tryd.ntmps82
    go_wp2
    go_ret
    exact ⟨rfl, rfl⟩
  · have hV : riV s = (preA s.M s.nd s.dp.toNat + (if sruB s s.dp = true then 1 else 0)) % 18446744073709551616 := by unfold riV; rw [if_neg h20]
    obtain ⟨R, hR⟩ : ∃ R, sruB s s.dp = R := ⟨_, rfl⟩
    rw [hR] at hsru hV
    have HS := Lib.hid hsru
    have HV := Lib.hid hV
    have H0 := Lib.hid (preA_zero hdg.1)
    have HI := Lib.hid (fun r (h : r < s.nd) => preA_succ_in (M := s.M) h)
    have HO := Lib.hid (fun r (h : s.nd ≤ r) => preA_succ_out (M := s.M) h)
    have hd0 := fun j hj => dcell HD.out hn (i := j) hj
    have HC := Lib.hid hd0
    have hw := IntKind.wrap_u64
    clear hF hdg hsru hV hR hd0
    go_enter Tryd.func82, Tryd.ntmps82
    go_wp2
    go_loopg [3, 4] s.nd (fun g i n wr => ∃ k : Nat, g + k = s.nd ∧ ((k : Int) ≤ s.dp ∨ k = 0) ∧ i = .int .i64 k ∧ n = .int .u64 (preA s.M s.nd k % 18446744073709551616 : Nat) ∧ wr = w)
    case atStart => exact ⟨0, by omega, .inr rfl, rfl, by rw [H0.out]; rfl, rfl⟩
    case round =>
      obtain ⟨k, hk, hk2, rfl, rfl, rfl⟩ := hrel
      obtain ⟨A, eA⟩ : ∃ A, preA s.M s.nd k = A := ⟨_, rfl⟩
      rw [eA]
      by_cases hin : (k : Int) < s.dp ∧ k < s.nd
      · obtain ⟨hin1, hin2⟩ := hin
        have hin3 : (k : Int) < s.nd := by omega
        have hc := HC.out k hin2
        have hst := HI.out k hin2
        obtain ⟨d, ed⟩ : ∃ d, s.M / 10 ^ (s.nd - 1 - k) % 10 = d := ⟨_, rfl⟩
        have hd9 : d ≤ 9 := by omega
        rw [ed] at hc hst
        rw [eA] at hst
        have HST := Lib.hid hst
        clear ed eA hst
        go_wp2
        go_roundg (s.nd - (k + 1))
        case measure => omega
        case rel => exact ⟨k + 1, by omega, .inl (by omega), by go_num, by rw [HST.out]; exact congrArg (Value.int IntKind.u64) (by omega), rfl⟩
      · have HEA := Lib.hid eA
        clear eA
        have hout : ¬ (k : Int) < s.dp ∨ ((k : Int) < s.dp ∧ ¬ (k : Int) < s.nd) := by omega
        have hkn : (k : Int) < s.dp → s.nd ≤ k := by omega
        clear hin
        rcases hout with hout | ⟨hout1, hout2⟩
        all_goals
          go_wp2
          go_loopg [3, 4] (s.dp.toNat - k) (fun g i n wx => ∃ k : Nat, g = s.dp.toNat - k ∧ ((k : Int) ≤ s.dp ∨ k = 0) ∧ ((k : Int) < s.dp → s.nd ≤ k) ∧ i = .int .i64 k ∧ n = .int .u64 (preA s.M s.nd k % 18446744073709551616 : Nat) ∧ wx = wr)
          case atStart => exact ⟨k, rfl, hk2, hkn, rfl, by rw [HEA.out]; exact congrArg (Value.int IntKind.u64) (by omega), rfl⟩
          case round =>
            clear hk hk2 hkn HEA
            obtain ⟨j, hj, hj2, hjn, rfl, rfl, rfl⟩ := hrel
            obtain ⟨B, eB⟩ : ∃ B, preA s.M s.nd j = B := ⟨_, rfl⟩
            rw [eB]
            by_cases hjd : (j : Int) < s.dp
            · have hst := HO.out j (hjn hjd)
              rw [eB] at hst
              have HST := Lib.hid hst
              have hjn2 := hjn hjd
              clear eB hst hjn
              go_wp2
              go_roundg (s.dp.toNat - (j + 1))
              case measure => omega
              case rel => exact ⟨j + 1, rfl, .inl (by omega), fun _ => by omega, by go_num, by rw [HST.out]; exact congrArg (Value.int IntKind.u64) (by omega), rfl⟩
            · have hjj : s.dp.toNat = j := by omega
              have hV := HV.out
              rw [hjj, eB] at hV
              have HV2 := Lib.hid hV
              clear hjn hjj hV eB
              cases R with
              | true =>
                go_wp2_with (go_at_call 88; refine (HS.out _ HD.out).mono ?_; rintro e w' ⟨rfl, rfl⟩)
                go_ret
                exact ⟨congrArg Ending.returned (by rw [HV2.out]; exact congrArg (Value.int IntKind.u64) (by simp)), rfl⟩
              | false =>
                go_wp2_with (go_at_call 88; refine (HS.out _ HD.out).mono ?_; rintro e w' ⟨rfl, rfl⟩)
                go_ret
                exact ⟨congrArg Ending.returned (by rw [HV2.out]; rfl), rfl⟩

end Go.Proofs.YtkedagbknflacaaDoor
