/- The walk of decimal.RoundUp. Plain: what decimal.set reads of a numeral. No program here. -/
import Derived.Test.YtjncgedjdmgpfaaGreatDoorXo
import Derived.BigRegion
import Derived.Test.YtjncgedjdmgpfaaGreatDoorFb
import Derived.Test.YtjncgedjdmgpfaaGreatDoorPo

namespace Go.Proofs.YtjncgedjdmgpfaaGreatDoor
open Go.RowKit

/-- One more in the last place: how many digits are left, and their number; none: all were nines. -/
def upN : Nat → Nat → Option (Nat × Nat)
  | 0, _ => none
  | n + 1, A => if A % 10 = 9 then upN n (A / 10) else some (n + 1, A + 1)

def upR (s : DS) (n : Nat) : DS := match upN n (s.M / 10 ^ (s.nd - n)) with
  | none => ⟨1, 1, s.dp + 1, s.tr⟩
  | some (k, B) => ⟨B, k, s.dp, s.tr⟩

theorem dgs_inc {f : Nat → Nat} {n A : Nat} (h : dgs f (n + 1) A) (h9 : A % 10 ≠ 9) : dgs (upd f n (48 + A % 10 + 1)) (n + 1) (A + 1) := by
  refine ⟨?_, fun i hi => ?_⟩
  · have := h.1; rw [Nat.pow_succ] at this ⊢; omega
  · by_cases e : i = n
    · subst e
      rw [upd_same, show i + 1 - 1 - i = 0 by omega, Nat.pow_zero, Nat.div_one]; omega
    · rw [upd_other _ _ e, h.2 i hi, show n + 1 - 1 - i = (n - 1 - i) + 1 by omega, Nat.pow_succ, Nat.mul_comm (10 ^ (n - 1 - i)) 10, ← Nat.div_div_eq_div_mul, ← Nat.div_div_eq_div_mul, show (A + 1) / 10 = A / 10 by omega]

theorem dgs_one (f : Nat → Nat) : dgs (upd f 0 49) 1 1 := by
  refine ⟨by decide, fun i hi => ?_⟩
  obtain rfl : i = 0 := by omega
  rw [upd_same]

set_option maxRecDepth 100000 in
set_option maxHeartbeats 3200000 in
theorem roundUp_any (w : World) (b : Nat) (ng : Bool) (s : DS) (n : Nat) (hn : n < s.nd) (hs : s.nd ≤ 800) (hd1 : -1000000000 ≤ s.dp) (hd2 : s.dp ≤ 1000000000) (hD : DecS w b ng s) :
    Calls Tryz.prog 117 #[.pointer (some ⟨b, 0, none⟩), .int .i64 n] w (DecEnd w b ng (upR s n)) := by
  obtain ⟨f, hF, hg⟩ := hD
  have cn := hF.nd
  have fn := hF.fz 800
  have hg' : dgs f n (s.M / 10 ^ (s.nd - n)) := dgs_take (s.nd - n) n s.M (by rwa [show n + (s.nd - n) = s.nd by omega])
  have HF := Lib.hid hF
  have HG := Lib.hid hg'
  have hn1 : ¬ s.nd ≤ n := by omega
  clear hF hg hg'
  go_enter Tryz.func117, Tryz.ntmps117
  go_wp2
  go_loopg [4, 5] n (fun gk q c wr => ∃ A : Nat, gk ≤ n ∧ q = .int .i64 ((gk : Int) - 1) ∧ Hid (upN n (s.M / 10 ^ (s.nd - n)) = upN gk A) ∧ Hid (dgs f gk A) ∧ wr = w)
  case atStart => exact ⟨_, by omega, by go_num, rfl, HG, rfl⟩
  case round =>
    obtain ⟨A, hgk, rfl, HU, HA, rfl⟩ := hrel
    cases gk with
    | zero =>
      have HR : Hid (upR s n = ⟨1, 1, s.dp + 1, s.tr⟩) := by unfold Hid upR; rw [HU.out]; rfl
      have c0 := HF.out.d 0 (by omega)
      have f0 := HF.out.fz 0
      have cp := HF.out.dp
      have fp := HF.out.fz 801
      as_aux_lemma =>
        go_wp2
        go_end0
        refine ⟨rfl, ?_, (((OnlyB.refl b wr).set 0 _).set 800 _).set 801 _⟩
        rw [HR.out]
        exact ⟨upd f 0 49, (((HF.out.setD (i := 0) (by omega) 49).setNd ((1 : Nat) : Int)).setDp (s.dp + 1)), dgs_one f⟩
    | succ gk =>
      have ck := HF.out.d gk (by omega)
      have fk := HF.out.fz gk
      have hfk : f gk = 48 + A % 10 := dgs_last HA.out
      have e1 : ((gk + 1 : Nat) : Int) - 1 = (gk : Int) := by omega
      rw [e1]
      rw [hfk] at ck
      have hgk8 : gk < 800 := by omega
      by_cases h9 : A % 10 = 9
      · rw [h9] at ck
        as_aux_lemma =>
          go_wp2
          go_roundg gk
          case measure => omega
          case rel => exact ⟨A / 10, by omega, by go_num, by unfold Hid; rw [HU.out, upN, if_pos h9], dgs_drop HA.out, rfl⟩
      · have hlt9 : 48 + A % 10 < 57 := by omega
        have HR : Hid (upR s n = ⟨A + 1, gk + 1, s.dp, s.tr⟩) := by unfold Hid upR; rw [HU.out, upN, if_neg h9]
        have HI := Lib.hid (dgs_inc HA.out h9)
        obtain ⟨D, eD⟩ : ∃ D, 48 + A % 10 = D := ⟨_, rfl⟩
        rw [eD] at ck hlt9 HI
        clear eD hfk
        as_aux_lemma =>
          go_wp2
          go_region
          go_wp2
          refine bodyPost_ret (v := .tuple #[]) (by simp [results, Tryz.results117, go_sem]) rfl ⟨rfl, ?_, (((OnlyB.refl b wr).drewN _).set gk _).set 800 _⟩
          rw [HR.out]
          exact ⟨_, ((HF.out.drewN _).setD hgk8 (D + 1)).setNd ((gk + 1 : Nat) : Int), HI.out⟩

/-- What Round leaves. -/
def roundR (s : DS) (n : Nat) : DS :=
  if s.nd ≤ n then s
  else if sruB s n = true then upR s n
  else ⟨(trimN n (s.M / 10 ^ (s.nd - n))).2, (trimN n (s.M / 10 ^ (s.nd - n))).1, dpT (trimN n (s.M / 10 ^ (s.nd - n))).1 s.dp, s.tr⟩

set_option maxHeartbeats 1600000 in
theorem round_any10 (w : World) (b : Nat) (ng : Bool) (s : DS) (n : Nat) (hn : n ≤ 1000000) (hs : s.nd ≤ 800) (hd1 : -1000000000 ≤ s.dp) (hd2 : s.dp ≤ 1000000000) (hD : DecS w b ng s) :
    Calls Tryz.prog 78 #[.pointer (some ⟨b, 0, none⟩), .int .i64 n] w (DecEnd w b ng (roundR s n)) := by
  by_cases h : s.nd ≤ n
  · have hr : roundR s n = s := by unfold roundR; rw [if_pos h]
    exact (round_none w b ng s n (by omega) hD).mono fun e w' ⟨h1, h2⟩ => ⟨h1, by rw [hr, ← h2]; exact hD, h2 ▸ OnlyB.refl b w⟩
  · have HS := Lib.hid (sru_any w b ng s n hs hD (by omega) (by omega))
    have HU := Lib.hid (roundUp_any w b ng s n (by omega) hs hd1 hd2 hD)
    have HN := Lib.hid (roundDown_any w b ng s n (by omega) hs hD)
    obtain ⟨f, hF, _⟩ := hD
    have cn := hF.nd
    have fn := hF.fz 800
    clear hF
    cases hb : sruB s n with
    | true =>
      rw [hb] at HS
      have hr : roundR s n = upR s n := by unfold roundR; rw [if_neg h, if_pos hb]
      go_enter Tryz.func78, Tryz.ntmps78
      go_wp2_with (first | (go_at_call 116; refine HS.out.mono ?_; rintro e w' ⟨rfl, rfl⟩) | (go_at_call 117; refine HU.out.mono ?_; rintro e w' ⟨rfl, t1, t2⟩))
      go_end0
      exact ⟨rfl, by rw [hr]; exact t1, t2⟩
    | false =>
      rw [hb] at HS
      have hr : roundR s n = ⟨(trimN n (s.M / 10 ^ (s.nd - n))).2, (trimN n (s.M / 10 ^ (s.nd - n))).1, dpT (trimN n (s.M / 10 ^ (s.nd - n))).1 s.dp, s.tr⟩ := by unfold roundR; rw [if_neg h, if_neg (by rw [hb]; decide)]
      go_enter Tryz.func78, Tryz.ntmps78
      go_wp2_with (first | (go_at_call 116; refine HS.out.mono ?_; rintro e w' ⟨rfl, rfl⟩) | (go_at_call 118; refine HN.out.mono ?_; rintro e w' ⟨rfl, t1, t2⟩))
      go_end0
      exact ⟨rfl, by rw [hr]; exact t1, t2⟩

end Go.Proofs.YtjncgedjdmgpfaaGreatDoor

namespace Go.Proofs.YtjncgedjdmgpfaaGreatDoor

structure SD where
  M : Nat
  nd : Nat
  dp : Int
  sd : Bool
  sg : Bool
  tr : Bool

def SD.init : SD := ⟨0, 0, 0, false, false, false⟩

def sdStep (st : SD) (c : UInt8) : Option SD :=
  if c = 46 then (if st.sd = true then none else some { st with sd := true, dp := st.nd })
  else if isDig c = true then
    (if c = 48 ∧ st.nd = 0 then some { st with sg := true, dp := st.dp - 1 }
     else if st.nd < 800 then some { st with sg := true, nd := st.nd + 1, M := st.M * 10 + (c.toNat - 48) }
     else some { st with sg := true, tr := if c = 48 then st.tr else true })
  else none

def sdLoop : SD → List UInt8 → SD × Nat
  | st, [] => (st, 0)
  | st, c :: r => match sdStep st c with
    | none => (st, 0)
    | some st' => ((sdLoop st' r).1, (sdLoop st' r).2 + 1)

theorem sdLoop_end (st : SD) (l : List UInt8) (k : Nat) (h : l.length ≤ k) : sdLoop st (l.drop k) = (st, 0) := by
  rw [List.drop_eq_nil_of_le h]; rfl
theorem sdLoop_no (st : SD) (l : List UInt8) (k : Nat) (h : k < l.length) (hs : sdStep st l[k] = none) : sdLoop st (l.drop k) = (st, 0) := by
  rw [drop_at l k h, sdLoop, hs]
theorem sdLoop_yes (st st' : SD) (l : List UInt8) (k : Nat) (h : k < l.length) (hs : sdStep st l[k] = some st') : sdLoop st (l.drop k) = ((sdLoop st' (l.drop (k + 1))).1, (sdLoop st' (l.drop (k + 1))).2 + 1) := by
  rw [drop_at l k h, sdLoop, hs]

/-- What is read behind the mantissa, and that it all ends there. -/
def sdDone (l : List UInt8) (st : SD) (dp : Int) (i : Nat) : Option DS := if i = l.length then some ⟨st.M, st.nd, dp, st.tr⟩ else none

def sdExp (l : List UInt8) (st : SD) (dp : Int) (k : Nat) : Option DS :=
  if l.length ≤ k then none
  else if nWhile isDig (l.drop (k + sgnN (l.drop k))) = 0 then none
  else sdDone l st (dp + (eLoop 0 (l.drop (k + sgnN (l.drop k)))).1 * (if (l.drop k).head? = some 45 then -1 else 1)) (k + sgnN (l.drop k) + (eLoop 0 (l.drop (k + sgnN (l.drop k)))).2)

def sdTail (l : List UInt8) (st : SD) (i : Nat) : Option DS :=
  if (l.drop i).head? = some 46 then none
  else if st.sg = false then none
  else if (l.drop i).head? = some 101 ∨ (l.drop i).head? = some 69 then sdExp l st (if st.sd = true then st.dp else st.nd) (i + 1)
  else sdDone l st (if st.sd = true then st.dp else st.nd) i

def sdR (l : List UInt8) : Option DS :=
  if l = [] then none
  else sdTail l (sdLoop .init (l.drop (sgnN l))).1 (sgnN l + (sdLoop .init (l.drop (sgnN l))).2)

/-- What always holds of the loop's state behind k bytes. -/
def SD.ok (st : SD) (k : Nat) : Prop := st.M < 10 ^ st.nd ∧ (st.nd = 0 ∨ 10 ^ (st.nd - 1) ≤ st.M) ∧ st.nd ≤ 800 ∧ st.nd ≤ k ∧ -(k : Int) ≤ st.dp ∧ st.dp ≤ k

theorem SD.init_ok : SD.init.ok 0 := ⟨by show 0 < 1; omega, .inl rfl, by show 0 ≤ 800; omega, Nat.le_refl _, by show -((0 : Nat) : Int) ≤ 0; omega, by show (0 : Int) ≤ ((0 : Nat) : Int); omega⟩
theorem SD.ok_mono {st : SD} {k k' : Nat} (h : st.ok k) (hk : k ≤ k') : st.ok k' := by
  obtain ⟨h1, h2, h3, h4, h5, h6⟩ := h
  exact ⟨h1, h2, h3, by omega, by omega, by omega⟩

theorem sdStep_ok (st st' : SD) (k : Nat) (c : UInt8) (h : st.ok k) (hs : sdStep st c = some st') : st'.ok (k + 1) := by
  obtain ⟨M, nd, dp, sd, sg, tr⟩ := st
  obtain ⟨h1, h2, h3, h4, h5, h6⟩ := h
  dsimp only at h1 h2 h3 h4 h5 h6
  unfold sdStep at hs
  dsimp only at hs
  split at hs
  · split at hs
    · cases hs
    · cases hs; exact ⟨h1, h2, h3, by show nd ≤ k + 1; omega, by show -((k + 1 : Nat) : Int) ≤ (nd : Int); omega, by show (nd : Int) ≤ ((k + 1 : Nat) : Int); omega⟩
  · split at hs
    · rename_i hd
      have := dig_bd hd
      split at hs
      · cases hs; exact ⟨h1, h2, h3, by show nd ≤ k + 1; omega, by show -((k + 1 : Nat) : Int) ≤ dp - 1; omega, by show dp - 1 ≤ ((k + 1 : Nat) : Int); omega⟩
      · rename_i h48
        split at hs
        · cases hs
          refine ⟨?_, .inr ?_, by show nd + 1 ≤ 800; omega, by show nd + 1 ≤ k + 1; omega, by show -((k + 1 : Nat) : Int) ≤ dp; omega, by show dp ≤ ((k + 1 : Nat) : Int); omega⟩
          · show M * 10 + (c.toNat - 48) < 10 ^ (nd + 1)
            rw [Nat.pow_succ]; omega
          · show 10 ^ (nd + 1 - 1) ≤ M * 10 + (c.toNat - 48)
            rw [Nat.add_sub_cancel]
            rcases h2 with h2 | h2
            · subst h2
              have hc : c.toNat ≠ 48 := fun e => h48 ⟨UInt8.toNat_inj.1 e, rfl⟩
              show 1 ≤ _; omega
            · rcases Nat.eq_zero_or_pos nd with h0 | h0
              · subst h0
                have hc : c.toNat ≠ 48 := fun e => h48 ⟨UInt8.toNat_inj.1 e, rfl⟩
                show 1 ≤ _; omega
              · rw [show nd = nd - 1 + 1 by omega, Nat.pow_succ]; omega
        · cases hs
          exact ⟨h1, h2, h3, by show nd ≤ k + 1; omega, by show -((k + 1 : Nat) : Int) ≤ dp; omega, by show dp ≤ ((k + 1 : Nat) : Int); omega⟩
    · cases hs

theorem sdLoop_ok : ∀ (l : List UInt8) (st : SD) (k : Nat), st.ok k → (sdLoop st l).1.ok (k + (sdLoop st l).2)
  | [], st, k, h => h
  | c :: r, st, k, h => by
    unfold sdLoop
    split
    · exact h
    · rename_i st' hs
      have := sdLoop_ok r st' (k + 1) (sdStep_ok st st' k c h hs)
      rwa [show k + 1 + (sdLoop st' r).2 = k + ((sdLoop st' r).2 + 1) by omega] at this

/-- One digit more. -/
theorem dgs_add {f : Nat → Nat} {nd M c : Nat} (h : dgs f nd M) (h1 : 48 ≤ c) (h2 : c ≤ 57) : dgs (fun j => if j = nd then c else f j) (nd + 1) (M * 10 + (c - 48)) := by
  refine ⟨?_, fun i hi => ?_⟩
  · have := h.1; rw [Nat.pow_succ]; omega
  · show (if i = nd then c else f i) = _
    by_cases e : i = nd
    · subst e
      rw [if_pos rfl, show i + 1 - 1 - i = 0 by omega, Nat.pow_zero, Nat.div_one]; omega
    · have h3 := h.2 i (by omega)
      rw [if_neg e, h3, show nd + 1 - 1 - i = (nd - 1 - i) + 1 by omega, Nat.pow_succ, Nat.mul_comm (10 ^ (nd - 1 - i)) 10, ← Nat.div_div_eq_div_mul, show (M * 10 + (c - 48)) / 10 = M by omega]
theorem dgs_nil (f : Nat → Nat) : dgs f 0 0 := ⟨by decide, fun i hi => absurd hi (by omega)⟩

end Go.Proofs.YtjncgedjdmgpfaaGreatDoor
