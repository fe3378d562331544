/- fmtEFG whole; FormatFloat over ftoa64. Plain: decimal digits in a row of bytes. No program here. -/
import Derived.Test.YtjncgedjdmgpfaaGreatDoorFc
import Derived.Test.YtjncgedjdmgpfaaGreatDoorFd
import Derived.WideLaws
import Derived.OwnWalk

namespace Go.Proofs.YtjncgedjdmgpfaaGreatDoor
open Go.RowKit

theorem fmtEFG_any (w : World) (bd : Nat) (v sv : Value) (acc : List UInt8) (ng sh : Bool) (f : Nat → Nat) (nd : Nat) (dp prec : Int) (fmt : Nat)
    (hv : RowAt w 5 v bd (u8s acc)) (hacc : acc.length ≤ 1000) (hsv : digSrc w bd sv f nd dp) (hf : ∀ i, f i < 256) (hfmt : fmt = 101 ∨ fmt = 69 ∨ fmt = 102 ∨ fmt = 103 ∨ fmt = 71)
    (hnd : nd ≤ 1000) (hd1 : -900 ≤ dp) (hd2 : dp ≤ 900) (hp1 : 0 ≤ prec) (hp2 : prec ≤ 1000) :
    Calls Tryz.prog 69 #[v, .bool ng, sv, .int .i64 dp, .int .i64 nd, .int .i64 prec, .int .u8 fmt, .bool sh] w fun e w' => ∃ v', e = .returned v' ∧ App w 5 bd v' w' (acc ++ fmtL ng f nd dp prec fmt sh) := by
  by_cases h : g6 nd dp prec fmt sh = 102
  · exact fmtEFG_F w bd v sv acc ng sh f nd dp prec fmt hv hacc hsv hf hfmt hnd hd1 hd2 hp1 h hp2
  · exact fmtEFG_E w bd v sv acc ng sh f nd dp prec fmt hv hacc hsv hf hfmt hnd hd1 hd2 hp1 h hp2

theorem RowAt.of_own {w : World} {B g cap : Nat} {e : TypeId} {xs : List Value} (h : w.ownsRow B e 1 (.slice (some ⟨g, 0, none⟩) xs.length cap) xs.length xs) : RowAt w e (.slice (some ⟨g, 0, none⟩) xs.length cap) g xs := by
  rcases h.2 with ⟨h0, _⟩ | ⟨g', cap', cur, hv, _, hg, hn, hc, hs, ht⟩
  · cases h0
  · cases hv
    exact ⟨cap, cur, rfl, hg, hn, hc, by simpa using hs, by simpa using ht⟩

set_option maxRecDepth 100000 in
set_option maxHeartbeats 1600000 in
/-- FormatFloat, where ftoa64 writes T whatever the world. -/
theorem format_of (x fmt : Nat) (prec : Int) (T : List UInt8) (w : World) (hp1 : -1 ≤ prec) (hp2 : prec ≤ 1000) (_hT : T.length ≤ 9223372036854775807)
    (hF : ∀ (W : World) (v : Value) (bd : Nat), Below w.heap.size w W → w.heap.size ≤ bd → RowAt W 5 v bd [] → Calls Tryz.prog 55 #[v, .float .f64 x, .int .u8 fmt, .int .i64 prec] W fun e w' => ∃ v', e = .returned v' ∧ App W 5 bd v' w' T) :
    Calls Tryz.prog 43 #[.float .f64 x, .int .u8 fmt, .int .i64 prec, .int .i64 64] w fun e w' => e = .returned (.string ⟨T.toArray⟩) ∧ Below w.heap.size w w' := by
  obtain ⟨i0, hi0, hz0, hz1, hz2⟩ := info_parts Tryz.info_u8'
  have HF := Lib.hid hF
  clear hF
  have key : ∀ (C : Nat), C ≤ 2000 → ((24 ≤ prec + 4 ∧ prec + 4 = (C : Int)) ∨ (¬ 24 ≤ prec + 4 ∧ C = 24)) → Calls Tryz.prog 43 #[.float .f64 x, .int .u8 fmt, .int .i64 prec, .int .i64 64] w fun e w' => e = .returned (.string ⟨T.toArray⟩) ∧ Below w.heap.size w w' := by
    intro C hC hc
    rcases hc with ⟨h1, h2⟩ | ⟨h1, rfl⟩
    · go_enter Tryz.func43, Tryz.ntmps43
      go_wp2_with (first
        | (at_make; refine wpList_make_own _ rfl _ _ 22 rfl w.heap.size 5 i0 (.int .u8 0) 1 Tryz.underlying22 hi0 hz0 hz1 _ _ _ C rfl rfl (by omega) (by rw [hz2]; omega) (by unfold maxLen; omega) (Nat.le_refl _) ?_; intro w1 hown hgrow; have hb1 : Below w.heap.size w w1 := ⟨hgrow.os, hgrow.tape, hgrow.output, hgrow.size, fun k hk => hgrow.block k hk (by simp)⟩; have hrow : RowAt w1 5 (.slice (some ⟨w.heap.size, 0, none⟩) 0 C) w.heap.size [] := RowAt.of_own (xs := []) hown)
        | (go_at_call 55; refine (HF.out w1 _ w.heap.size hb1 (Nat.le_refl _) hrow).mono ?_; rintro e w2 ⟨v', rfl, hA⟩; obtain ⟨g, hr, hg, hgr⟩ := hA; have hconv := run_own_string (P := Tryz.prog) Tryz.underlying22 Tryz.underlying5 Tryz.underlying9 (l := T) (base := 0) (by have h9 := hr.own 0 (Nat.zero_le _); rwa [u8s_length] at h9)))
      go_ret
      exact ⟨rfl, ⟨hgr.os.trans hb1.os, hgr.tape.trans hb1.tape, hgr.output.trans hb1.output, Nat.le_trans hb1.size hgr.size, fun k hk => (hgr.block k (Nat.lt_of_lt_of_le hk hb1.size) (fun e => by have := Option.some.inj e; omega)).trans (hb1.block k hk)⟩⟩
    · go_enter Tryz.func43, Tryz.ntmps43
      go_wp2_with (first
        | (at_make; refine wpList_make_own _ rfl _ _ 22 rfl w.heap.size 5 i0 (.int .u8 0) 1 Tryz.underlying22 hi0 hz0 hz1 _ _ _ 24 rfl rfl (by omega) (by rw [hz2]; omega) (by unfold maxLen; omega) (Nat.le_refl _) ?_; intro w1 hown hgrow; have hb1 : Below w.heap.size w w1 := ⟨hgrow.os, hgrow.tape, hgrow.output, hgrow.size, fun k hk => hgrow.block k hk (by simp)⟩; have hrow : RowAt w1 5 (.slice (some ⟨w.heap.size, 0, none⟩) 0 24) w.heap.size [] := RowAt.of_own (xs := []) hown)
        | (go_at_call 55; refine (HF.out w1 _ w.heap.size hb1 (Nat.le_refl _) hrow).mono ?_; rintro e w2 ⟨v', rfl, hA⟩; obtain ⟨g, hr, hg, hgr⟩ := hA; have hconv := run_own_string (P := Tryz.prog) Tryz.underlying22 Tryz.underlying5 Tryz.underlying9 (l := T) (base := 0) (by have h9 := hr.own 0 (Nat.zero_le _); rwa [u8s_length] at h9)))
      go_ret
      exact ⟨rfl, ⟨hgr.os.trans hb1.os, hgr.tape.trans hb1.tape, hgr.output.trans hb1.output, Nat.le_trans hb1.size hgr.size, fun k hk => (hgr.block k (Nat.lt_of_lt_of_le hk hb1.size) (fun e => by have := Option.some.inj e; omega)).trans (hb1.block k hk)⟩⟩
  by_cases h : 24 ≤ prec + 4
  · exact key (prec + 4).toNat (by omega) (.inl ⟨h, by omega⟩)
  · exact key 24 (by omega) (.inr ⟨h, rfl⟩)

end Go.Proofs.YtjncgedjdmgpfaaGreatDoor

namespace Go.Proofs.YtjncgedjdmgpfaaGreatDoor

/-- The first nd bytes are the digits of M. -/
def dgs (f : Nat → Nat) (nd M : Nat) : Prop := M < 10 ^ nd ∧ ∀ i, i < nd → f i = 48 + M / 10 ^ (nd - 1 - i) % 10

/-- Trailing noughts struck. -/
def trimN : Nat → Nat → Nat × Nat
  | 0, M => (0, M)
  | n + 1, M => if M % 10 = 0 then trimN n (M / 10) else (n + 1, M)

def dpT (n : Nat) (dp : Int) : Int := if n = 0 then 0 else dp

theorem dgs_last {f : Nat → Nat} {n M : Nat} (h : dgs f (n + 1) M) : f n = 48 + M % 10 := by
  have := h.2 n (by omega)
  rwa [show n + 1 - 1 - n = 0 by omega, Nat.pow_zero, Nat.div_one] at this

theorem dgs_drop {f : Nat → Nat} {n M : Nat} (h : dgs f (n + 1) M) : dgs f n (M / 10) := by
  refine ⟨?_, fun i hi => ?_⟩
  · have := h.1; rw [Nat.pow_succ] at this; omega
  · rw [h.2 i (by omega), Nat.div_div_eq_div_mul, show n + 1 - 1 - i = (n - 1 - i) + 1 by omega, Nat.pow_succ, Nat.mul_comm]

theorem trimN_zero (M : Nat) : trimN 0 M = (0, M) := rfl
theorem trimN_yes {n M : Nat} (h : M % 10 = 0) : trimN (n + 1) M = trimN n (M / 10) := by rw [trimN, if_pos h]
theorem trimN_no {n M : Nat} (h : M % 10 ≠ 0) : trimN (n + 1) M = (n + 1, M) := by rw [trimN, if_neg h]

theorem trimN_le : ∀ n M, (trimN n M).1 ≤ n
  | 0, _ => Nat.le_refl _
  | n + 1, M => by
    unfold trimN; split
    · have := trimN_le n (M / 10); omega
    · exact Nat.le_refl _

theorem p10_pos (n : Nat) : 0 < 10 ^ n := Nat.pow_pos (by decide)

theorem div_lt_cross {M S a c : Nat} (h : M / 10 ^ a < S / 10 ^ c) : M * 10 ^ c < S * 10 ^ a := by
  have h1 : M < (M / 10 ^ a + 1) * 10 ^ a := Nat.lt_mul_of_div_lt (Nat.lt_succ_self _) (p10_pos a)
  have h2 : (M / 10 ^ a + 1) * 10 ^ a ≤ S / 10 ^ c * 10 ^ a := Nat.mul_le_mul_right _ h
  have h3 : S / 10 ^ c * 10 ^ c ≤ S := Nat.div_mul_le_self _ _
  have h4 : M * 10 ^ c < S / 10 ^ c * 10 ^ a * 10 ^ c := Nat.mul_lt_mul_of_pos_right (Nat.lt_of_lt_of_le h1 h2) (p10_pos c)
  have h5 : S / 10 ^ c * 10 ^ a * 10 ^ c = S / 10 ^ c * 10 ^ c * 10 ^ a := by rw [Nat.mul_assoc, Nat.mul_comm (10 ^ a), ← Nat.mul_assoc]
  rw [h5] at h4
  exact Nat.lt_of_lt_of_le h4 (Nat.mul_le_mul_right _ h3)

/-- A digit more of a beginning. -/
theorem pre_succ (M n i : Nat) (h : i < n) : M / 10 ^ (n - (i + 1)) = M / 10 ^ (n - i) * 10 + M / 10 ^ (n - 1 - i) % 10 := by
  have e : M / 10 ^ (n - i) = M / 10 ^ (n - 1 - i) / 10 := by
    rw [Nat.div_div_eq_div_mul, show n - i = (n - 1 - i) + 1 by omega, Nat.pow_succ]
  rw [e, show n - (i + 1) = n - 1 - i by omega]
  omega

theorem pl_pow {M S nd L i : Nat} (hi : i < nd) (hL : i < L) (h : M * 10 ^ (L - 1 - i) < S * 10 ^ (nd - 1 - i)) : M * 10 ^ L < S * 10 ^ nd := by
  have e1 : 10 ^ L = 10 ^ (L - 1 - i) * 10 ^ (i + 1) := by rw [← Nat.pow_add]; congr 1; omega
  have e2 : 10 ^ nd = 10 ^ (nd - 1 - i) * 10 ^ (i + 1) := by rw [← Nat.pow_add]; congr 1; omega
  rw [e1, e2, ← Nat.mul_assoc, ← Nat.mul_assoc]
  exact Nat.mul_lt_mul_of_pos_right h (p10_pos _)
theorem pl_lt {M S nd L i : Nat} (hi : i < nd) (hL : i < L) (h : M / 10 ^ (nd - 1 - i) < S / 10 ^ (L - 1 - i)) : M * 10 ^ L < S * 10 ^ nd := pl_pow hi hL (div_lt_cross h)
theorem pl_gt {M S nd L i : Nat} (hi : i < nd) (hL : i < L) (h : S / 10 ^ (L - 1 - i) < M / 10 ^ (nd - 1 - i)) : ¬ M * 10 ^ L < S * 10 ^ nd := Nat.lt_asymm (pl_pow hL hi (div_lt_cross h))
theorem pl_end {M S nd L : Nat} (h : L ≤ nd) (he : M / 10 ^ (nd - L) = S) : ¬ M * 10 ^ L < S * 10 ^ nd := by
  have h1 : S * 10 ^ (nd - L) ≤ M := by rw [← he]; exact Nat.div_mul_le_self _ _
  have e2 : 10 ^ nd = 10 ^ (nd - L) * 10 ^ L := by rw [← Nat.pow_add]; congr 1; omega
  rw [e2, ← Nat.mul_assoc]
  exact Nat.not_lt.2 (Nat.mul_le_mul_right _ h1)
theorem pl_short {M S nd L : Nat} (h : nd < L) (he : M = S / 10 ^ (L - nd)) (hS : S % 10 ≠ 0) : M * 10 ^ L < S * 10 ^ nd := by
  have e1 : 10 ^ L = 10 ^ (L - nd) * 10 ^ nd := by rw [← Nat.pow_add]; congr 1; omega
  rw [e1, ← Nat.mul_assoc]
  refine Nat.mul_lt_mul_of_pos_right ?_ (p10_pos _)
  have h1 : M * 10 ^ (L - nd) ≤ S := by rw [he]; exact Nat.div_mul_le_self _ _
  refine Nat.lt_of_le_of_ne h1 fun e => hS ?_
  rw [← e, show L - nd = (L - nd - 1) + 1 by omega, Nat.pow_succ, ← Nat.mul_assoc]
  exact Nat.mul_mod_left _ _

end Go.Proofs.YtjncgedjdmgpfaaGreatDoor
