/- The walk of trim. The walk of prefixIsLessThan. The walk of atof64exact, whatever the number. atof64exact: the whole. -/
import Derived.Test.YtdencljnbilchaaGreatDoorXf
import Derived.Test.YtdencljnbilchaaGreatDoorGd
import Derived.Test.YtdencljnbilchaaGreatDoorPa
import Derived.Deep.LoopGhost
import Derived.Test.YtdencljnbilchaaGreatDoorXg

namespace Go.Proofs.YtdencljnbilchaaGreatDoor
open Go.RowKit

def TrimEnd (w : World) (b : Nat) (f : Nat → Nat) (p : Nat × Nat) (dp : Int) (ng tr : Bool) (e : Ending) (w' : World) : Prop :=
  e = .returned (.tuple #[]) ∧ DecF w' b f p.1 (dpT p.1 dp) ng tr ∧ dgs f p.1 p.2 ∧ OnlyB b w w'

set_option maxHeartbeats 2000000 in
theorem trim_any (w : World) (b : Nat) (f : Nat → Nat) (nd M : Nat) (dp : Int) (ng tr : Bool) (hn : nd ≤ 800) (hD : DecF w b f nd dp ng tr) (hM : dgs f nd M) :
    Calls Tryz.prog 125 #[.pointer (some ⟨b, 0, none⟩)] w (TrimEnd w b f (trimN nd M) dp ng tr) := by
  have HD := Lib.hid hD
  have HM := Lib.hid hM
  have HB := Lib.hid (OnlyB.refl b w)
  clear hD hM
  go_enter Tryz.func125, Tryz.ntmps125
  go_wp2
  go_loopg [] nd (fun n wr => ∃ M', n ≤ nd ∧ Hid (DecF wr b f n dp ng tr) ∧ Hid (dgs f n M') ∧ Hid (trimN nd M = trimN n M') ∧ Hid (OnlyB b w wr))
  case atStart => exact ⟨M, Nat.le_refl _, HD, HM, Lib.hid rfl, HB⟩
  case round =>
    obtain ⟨M', hk, HD', HM', HT, HB'⟩ := hrel
    clear HD HM HB
    have c0 := HD'.out.nd
    have f0 := HD'.out.fz 800
    cases gk with
    | zero =>
      have c1 := HD'.out.dp
      have f1 := HD'.out.fz 801
      have hd : decide ((0 : Int) < 0) = false := by decide
      go_wp2
      go_quiet (fail)
      go_wp2
      go_end0
      have hM0 : trimN nd M = (0, M') := HT.out
      refine ⟨rfl, ?_, ?_, (HB'.out.drewN _).set 801 _⟩
      · rw [hM0]; exact (HD'.out.drewN _).setDp 0
      · rw [hM0]; exact HM'.out
    | succ n =>
      have hl := dgs_last HM'.out
      have c1 := HD'.out.d n (by omega)
      rw [hl] at c1
      have f1 := HD'.out.fz n
      have hd : decide ((0 : Int) < ((n + 1 : Nat) : Int)) = true := decide_eq_true (by omega)
      by_cases h0 : M' % 10 = 0
      · have HT2 : Hid (trimN nd M = trimN n (M' / 10)) := by unfold Hid; rw [HT.out, trimN_yes h0]
        have HM2 := Lib.hid (dgs_drop HM'.out)
        rw [h0] at c1
        clear hl h0
        go_wp2
        go_quiet (fail)
        go_wp2
        go_roundg n
        case measure => omega
        case rel => exact ⟨M' / 10, by omega, Lib.hid (by have := (HD'.out.drewN nq).setNd n; simpa using this), HM2, HT2, Lib.hid ((HB'.out.drewN _).set 800 _)⟩
      · have hT2 : trimN nd M = (n + 1, M') := by rw [HT.out, trimN_no h0]
        have HT2 := Lib.hid hT2
        have hb : ((48 + M' % 10 : Nat) : Int) = 48 + (M' % 10 : Nat) := by omega
        rw [hb] at c1
        have h48 : (48 + ((M' % 10 : Nat) : Int) == 48) = false := beq_eq_false_iff_ne.2 (by omega)
        clear hl h0 hT2 hb
        go_wp2
        go_quiet (fail)
        go_wp2
        go_end0
        refine ⟨rfl, ?_, ?_, HB'.out.drewN _⟩
        · rw [HT2.out, dpT, if_neg (Nat.succ_ne_zero n)]; exact HD'.out.drewN _
        · rw [HT2.out]; exact HM'.out

end Go.Proofs.YtdencljnbilchaaGreatDoor

namespace Go.Proofs.YtdencljnbilchaaGreatDoor
open Go.RowKit

theorem digit_bound (M k : Nat) : 48 ≤ 48 + M / 10 ^ k % 10 ∧ 48 + M / 10 ^ k % 10 ≤ 57 := by omega

set_option maxHeartbeats 2000000 in
theorem prefixLess_any (w : World) (b cap : Nat) (f : Nat → Nat) (nd M S : Nat) (dp : Int) (ng tr : Bool) (s : ByteArray) (hn : nd ≤ 800) (hs : s.size ≤ 100) (hD : DecF w b f nd dp ng tr) (hM : dgs f nd M)
    (hS : ∀ i (h : i < s.size), s[i].toNat = 48 + S / 10 ^ (s.size - 1 - i) % 10) (hSl : S < 10 ^ s.size) (hS0 : s.size ≠ 0 → S % 10 ≠ 0) :
    Calls Tryz.prog 138 #[.slice (some ⟨b, 0, none⟩) nd cap, .string s] w fun e w' => e = .returned (.bool (decide (M * 10 ^ s.size < S * 10 ^ nd))) ∧ ∃ n, w' = w.drewN n := by
  have HD := Lib.hid hD
  have HM := Lib.hid hM
  have HS := Lib.hid hS
  obtain ⟨R, hR⟩ : ∃ R, decide (M * 10 ^ s.size < S * 10 ^ nd) = R := ⟨_, rfl⟩
  have HP := Lib.hid hR
  have HE := Lib.hid (fun hle he => decide_eq_false (pl_end (M := M) (S := S) (nd := nd) (L := s.size) hle he))
  have HH := Lib.hid (fun (h : nd < s.size) he => decide_eq_true (pl_short (M := M) (S := S) (nd := nd) (L := s.size) h he (hS0 (by omega))))
  have HL := Lib.hid (fun i (h1 : i < nd) (h2 : i < s.size) h => decide_eq_true (pl_lt (M := M) (S := S) h1 h2 h))
  have HG := Lib.hid (fun i (h1 : i < nd) (h2 : i < s.size) h => decide_eq_false (pl_gt (M := M) (S := S) h1 h2 h))
  have H0 : Hid (M / 10 ^ (nd - 0) = S / 10 ^ (s.size - 0)) := by
    unfold Hid; rw [Nat.div_eq_of_lt (by simpa using hM.1), Nat.div_eq_of_lt (by simpa using hSl)]
  rw [hR]
  clear hD hM hS hSl hS0 hR
  go_enter Tryz.func138, Tryz.ntmps138
  go_wp2
  go_loopw [5] (fun i wr => ∃ k : Nat, k ≤ s.size ∧ k ≤ nd ∧ i = .int .i64 k ∧ Hid (M / 10 ^ (nd - k) = S / 10 ^ (s.size - k)) ∧ Hid (∃ n, wr = w.drewN n)) (fun i _ => s.size - (intOf i).toNat)
  case atStart => exact ⟨0, by omega, by omega, rfl, H0, Lib.hid ⟨0, rfl⟩⟩
  case round =>
    obtain ⟨k, hk, hkn, rfl, HK, HW⟩ := hrel
    clear H0
    by_cases h1 : k < s.size
    · by_cases h2 : k < nd
      · have cM := HM.out.2 k h2
        have cS := HS.out k h1
        have hcell : wr.cell? ⟨b, k, none⟩ = some (.int .u8 (f k)) := by
          obtain ⟨n, hw⟩ := HW.out
          rw [hw]; exact HD.out.d k (by omega)
        have hp1 := pre_succ M nd k h2
        have hp2 := pre_succ S s.size k h1
        have bM := digit_bound M (nd - 1 - k)
        by_cases heq : f k = s[k].toNat
        · have HK2 : Hid (M / 10 ^ (nd - (k + 1)) = S / 10 ^ (s.size - (k + 1))) := by
            have := HK.out
            unfold Hid; rw [hp1, hp2]; omega
          have b1 : ((f k : Int) != (s[k].toNat : Int)) = false := by simp [heq]
          clear heq cM cS hp1 hp2 bM
          go_wp2
          go_quiet (fail)
          go_wp2
          go_roundw
          case rel => exact ⟨k + 1, by omega, by omega, by go_num, HK2, by obtain ⟨n, hw⟩ := HW.out; exact ⟨n + _, by rw [hw, World.drewN_drewN]⟩⟩
          case measure => simp [intOf]; omega
        · have b1 : ((f k : Int) != (s[k].toNat : Int)) = true := by simp; omega
          have HR : Hid (decide (f k < s[k].toNat) = R) := by
            have hK := HK.out
            have hlt : f k < s[k].toNat → R = true := fun h => by
              rw [← HP.out]
              refine HL.out k h2 h1 ?_
              have e1 : nd - (k + 1) = nd - 1 - k := by omega
              have e2 : s.size - (k + 1) = s.size - 1 - k := by omega
              rw [e1] at hp1
              rw [e2] at hp2
              rw [hp1, hp2]; omega
            have hgt : s[k].toNat < f k → R = false := fun h => by
              rw [← HP.out]
              refine HG.out k h2 h1 ?_
              have e1 : nd - (k + 1) = nd - 1 - k := by omega
              have e2 : s.size - (k + 1) = s.size - 1 - k := by omega
              rw [e1] at hp1
              rw [e2] at hp2
              rw [hp1, hp2]; omega
            unfold Hid
            rcases Nat.lt_or_gt_of_ne heq with h | h
            · rw [hlt h]; exact decide_eq_true (by omega)
            · rw [hgt h]; exact decide_eq_false (by omega)
          clear heq cM cS hp1 hp2 bM
          go_wp2
          go_quiet (fail)
          go_wp2
          go_quiet (fail)
          go_wp2
          go_ret
          obtain ⟨n, hw⟩ := HW.out
          exact ⟨ret_bool HR.out, ⟨_, by rw [hw, World.drewN_drewN, World.drewN_drewN]⟩⟩
      · have HR : Hid (R = true) := by
          have : k = nd := by omega
          subst this
          unfold Hid; rw [← HP.out]
          exact HH.out h1 (by have := HK.out; rw [Nat.sub_self, Nat.pow_zero, Nat.div_one] at this; exact this)
        go_wp2
        go_ret
        exact ⟨by rw [HR.out]; rfl, HW.out⟩
    · have HR : Hid (R = false) := by
        have : k = s.size := by omega
        unfold Hid; rw [← HP.out]
        exact HE.out (by omega) (by have := HK.out; subst_vars; rw [Nat.sub_self, Nat.pow_zero, Nat.div_one] at this; exact this)
      go_wp2
      go_ret
      exact ⟨by rw [HR.out]; rfl, HW.out⟩

end Go.Proofs.YtdencljnbilchaaGreatDoor

namespace Go.Proofs.YtdencljnbilchaaGreatDoor
open Go.RowKit

theorem pow10_nz : ∀ i : Fin 23, NZ (pow10L.getD i 0) := by
  have h : ∀ i : Fin 23, (match FloatKind.f64.format.read (pow10L.getD i 0) with | .number _ m _ => decide (m ≠ 0) | _ => false) = true := by decide +kernel
  intro i
  have := h i
  cases hd : FloatKind.f64.format.read (pow10L.getD i 0) with
  | number s m e => rw [hd] at this; exact ⟨s, m, e, hd, by simpa using this⟩
  | infinity s => rw [hd] at this; simp at this
  | nan s m => rw [hd] at this; simp at this

theorem run_negF (f : Nat) (w : World) : Sem.run Tryz.prog (Op.unary .neg (.float .f64 f)) w = .ok (.float .f64 (f ^^^ 9223372036854775808)) w := rfl

end Go.Proofs.YtdencljnbilchaaGreatDoor

namespace Go.Proofs.YtdencljnbilchaaGreatDoor
open Go.RowKit

end Go.Proofs.YtdencljnbilchaaGreatDoor
