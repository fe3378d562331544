/- Walks: special at numerals' bytes, begin, plain, IsInf. Plain: how far readFloat reads, how great its number is. No program here. -/
import Derived.Test.YtjncgedjdmgpfaaGreatDoorWa
import Derived.Test.YtjncgedjdmgpfaaGreatDoorFb
import Derived.Test.YtjncgedjdmgpfaaGreatDoorGm

namespace Go.Proofs.YtjncgedjdmgpfaaGreatDoor
open Go.RowKit

theorem numCh_prefix {c : UInt8} (h : c ∈ numChL) : (65 ≤ c.toNat ∧ c.toNat ≤ 90 → c = 69) ∧ c ≠ 105 ∧ c ≠ 73 ∧ c ≠ 110 ∧ c ≠ 78 := by
  simp only [numChL, List.mem_cons, List.not_mem_nil, or_false] at h
  rcases h with h | h | h | h | h | h | h | h | h | h | h | h | h | h | h <;> subst h <;> decide

set_option maxHeartbeats 800000 in
theorem prefix_num (s : ByteArray) (w : World) (hs : s.size ≤ maxLen) (hN : ∀ h : 0 < s.size, s[0] ∈ numChL) : Calls Tryz.prog 120 #[.string s, .string { data := #[105, 110, 102, 105, 110, 105, 116, 121] }] w fun e w' => e = .returned (.int .i64 0) ∧ w = w' := by
  have HNC := Lib.hid hN; clear hN
  unfold maxLen at hs
  by_cases h0 : s.size = 0
  · have he : s = ByteArray.empty := by
      cases s with | mk d => have : d = #[] := Array.eq_empty_of_size_eq_zero h0; subst this; rfl
    subst he
    go_enter Tryz.func120, Tryz.ntmps120
    go_wp2
    refine wp_loop_rounds 1 ?_
    rw [rounds_succ]
    go_wp2
    go_ret
    exact ⟨rfl, rfl⟩
  · have h0' : 0 < s.size := by omega
    have hf := numCh_prefix (HNC.out h0')
    have hb : (s[0].toNat = 69) ∨ (¬ (65 ≤ s[0].toNat ∧ s[0].toNat ≤ 90) ∧ ((s[0].toNat : Int) != 105) = true) := by
      by_cases h : 65 ≤ s[0].toNat ∧ s[0].toNat ≤ 90
      · exact .inl (by rw [hf.1 h]; rfl)
      · exact .inr ⟨h, bne_t (d := 105) hf.2.1⟩
    have hi0 : (({ data := #[105, 110, 102, 105, 110, 105, 116, 121] } : ByteArray)[0]'(by decide)).toNat = 105 := rfl
    clear h0 hf
    by_cases h8 : 8 ≤ s.size <;> rcases hb with hb | ⟨hb, hb2⟩
    · go_enter Tryz.func120, Tryz.ntmps120
      go_wp2
      refine wp_loop_rounds 1 ?_
      rw [rounds_succ]
      go_wp2
      go_ret
      exact ⟨rfl, rfl⟩
    all_goals
      go_enter Tryz.func120, Tryz.ntmps120
      go_wp2
      refine wp_loop_rounds 1 ?_
      rw [rounds_succ]
      go_wp2
      all_goals (go_ret; exact ⟨rfl, rfl⟩)

theorem ext_bits (x : Nat) (w : World) : (callFunc 30 #[.float .f64 x]).run Tryz.prog w = .ok (.value (.int .u64 x)) w := by kernel_rfl
theorem ext_frombits (x : Nat) (w : World) : (callFunc 38 #[.int .u64 x]).run Tryz.prog w = .ok (.value (.float .f64 x)) w := by kernel_rfl
theorem ext_ifrombits (x : Nat) (w : World) : (callFunc 94 #[.int .u64 x]).run Tryz.prog w = .ok (.value (.float .f64 x)) w := by kernel_rfl

/-- -0 is 0. -/
def plainN (x : Nat) : Nat := if FloatKind.f64.format.order x 0 == some .eq then 0 else x
/-- Without its sign. -/
def absN (x : Nat) : Nat := x % 2 ^ 63
def infB (x : Nat) : Bool := FloatKind.f64.format.order (absN x) 9218868437227405311 == some .gt

set_option maxHeartbeats 800000 in
theorem plain_any (x : Nat) (w : World) : Calls Tryz.prog 26 #[.float .f64 x] w fun e w' => e = .returned (.float .f64 (plainN x)) ∧ w = w' := by
  cases h : (FloatKind.f64.format.order x 0 == some .eq) with
  | true =>
    have HP : Hid (plainN x = 0) := by unfold Hid; rw [plainN, h]; rfl
    go_enter Tryz.func26, Tryz.ntmps26
    go_wp2
    go_ret
    exact ⟨by rw [HP.out]; rfl, rfl⟩
  | false =>
    have HP : Hid (plainN x = x) := by unfold Hid; rw [plainN, h]; rfl
    go_enter Tryz.func26, Tryz.ntmps26
    go_wp2
    go_ret
    exact ⟨by rw [HP.out]; rfl, rfl⟩

theorem bits_abs (x : Nat) (hx : x < 18446744073709551616) : bits .andNot .u64 (x : Int) 9223372036854775808 = (absN x : Int) := by
  have h := u64_andNot_nat x 9223372036854775808 hx (by omega)
  rw [absN, ← Nat.and_two_pow_sub_one_eq_mod]; exact h
theorem run_abs (x : Nat) (hx : x < 18446744073709551616) (w : World) : (callFunc 38 #[.int .u64 (bits .andNot .u64 (x : Int) 9223372036854775808)]).run Tryz.prog w = .ok (.value (.float .f64 (absN x))) w := by
  rw [bits_abs x hx]
  exact ext_frombits (absN x) w

set_option maxRecDepth 20000 in
theorem abs_any (x : Nat) (hx : x < 18446744073709551616) (w : World) : Calls Tryz.prog 36 #[.float .f64 x] w fun e w' => e = .returned (.float .f64 (absN x)) ∧ w = w' := by
  have e1 := fun W => ext_bits x W
  have e3 := fun W => run_abs x hx W
  clear hx
  go_enter Tryz.func36, Tryz.ntmps36
  go_wp2_with (fail)
  go_ret
  exact ⟨rfl, rfl⟩

set_option maxHeartbeats 800000 in
theorem isInf_any (x : Nat) (hx : x < 18446744073709551616) (w : World) : Calls Tryz.prog 32 #[.float .f64 x, .int .i64 0] w fun e w' => e = .returned (.bool (infB x)) ∧ w = w' := by
  have HA := Lib.hid (fun W => abs_any x hx W)
  have HB : Hid (infB x = (FloatKind.f64.format.order (absN x) 9218868437227405311 == some .gt)) := rfl
  clear hx
  go_enter Tryz.func32, Tryz.ntmps32
  go_wp2_with (go_at_call 36; refine (HA.out _).mono ?_; rintro e w' ⟨rfl, rfl⟩)
  go_ret
  exact ⟨ret_bool HB.out.symm, rfl⟩

set_option maxHeartbeats 800000 in
theorem special_num (s : ByteArray) (w : World) (hs : s.size ≤ maxLen) (hN : ∀ k (h : k < s.size), s[k] ∈ numChL) : Calls Tryz.prog 84 #[.string s] w fun e w' => e = .returned (.tuple #[.float .f64 0, .int .i64 0, .bool false]) ∧ w = w' := by
  by_cases h0 : s.size = 0
  · have he : s = ByteArray.empty := by
      cases s with | mk d => have : d = #[] := Array.eq_empty_of_size_eq_zero h0; subst this; rfl
    subst he
    go_enter Tryz.func84, Tryz.ntmps84
    go_wp2
    go_ret3
    exact ⟨rfl, rfl⟩
  · have h0' : 0 < s.size := by omega
    have hf := (numCh_prefix (hN 0 h0')).2
    have hne : ¬ s = ByteArray.empty := fun e => by subst e; simp at h0'
    have b1 : ((s[0].toNat : Int) == 105) = false := beq_f (d := 105) hf.1
    have b2 : ((s[0].toNat : Int) == 73) = false := beq_f (d := 73) hf.2.1
    have b3 : ((s[0].toNat : Int) == 110) = false := beq_f (d := 110) hf.2.2.1
    have b4 : ((s[0].toNat : Int) == 78) = false := beq_f (d := 78) hf.2.2.2
    have bs : ((s.size : Int) == 0) = false := beq_eq_false_iff_ne.2 (by omega)
    have hx : s.extract 1 s.size = s.extract 1 s.size := rfl
    have hP : ∀ W, Calls Tryz.prog 120 #[.string (s.extract 1 s.size), .string { data := #[105, 110, 102, 105, 110, 105, 116, 121] }] W fun e w' => e = .returned (.int .i64 0) ∧ W = w' := fun W =>
      prefix_num _ W (by have : (s.extract 1 s.size).size = s.size - 1 := by simp
                         omega) (fun h => by
        have h1 : 1 < s.size := by have : (s.extract 1 s.size).size = s.size - 1 := by simp
                                   omega
        have := hN 1 h1
        rwa [show (s.extract 1 s.size)[0] = s[1] from by simp [ByteArray.getElem_extract]])
    have HP := Lib.hid hP
    clear hP hf hN hx
    unfold maxLen at hs
    by_cases h43 : s[0] = 43
    · have c1 : ((s[0].toNat : Int) == 43) = true := beq_t (d := 43) h43
      have c2 : ((s[0].toNat : Int) == 45) = false := beq_f (d := 45) (by rw [h43]; decide)
      clear h43 h0
      go_enter Tryz.func84, Tryz.ntmps84
      go_wp2_with (go_at_call 120; refine (HP.out _).mono ?_; rintro e w' ⟨rfl, rfl⟩)
      go_ret3
      exact ⟨rfl, rfl⟩
    · have c1 : ((s[0].toNat : Int) == 43) = false := beq_f (d := 43) h43
      by_cases h45 : s[0] = 45
      · have c2 : ((s[0].toNat : Int) == 45) = true := beq_t (d := 45) h45
        clear h43 h0 h45
        go_enter Tryz.func84, Tryz.ntmps84
        go_wp2_with (go_at_call 120; refine (HP.out _).mono ?_; rintro e w' ⟨rfl, rfl⟩)
        go_ret3
        exact ⟨rfl, rfl⟩
      · have c2 : ((s[0].toNat : Int) == 45) = false := beq_f (d := 45) h45
        clear h43 h0 h45
        go_enter Tryz.func84, Tryz.ntmps84
        go_wp2
        go_ret3
        exact ⟨rfl, rfl⟩

end Go.Proofs.YtjncgedjdmgpfaaGreatDoor

namespace Go.Proofs.YtjncgedjdmgpfaaGreatDoor

theorem rfLoop_len : ∀ (l : List UInt8) (st : RF), (rfLoop st l).2 ≤ l.length
  | [], _ => Nat.le_refl _
  | c :: r, st => by
    rw [rfLoop]
    cases h : rfStep st c with
    | none => simp
    | some st' => have := rfLoop_len r st'; simp only [List.length_cons]; omega

theorem eLoop_len : ∀ (l : List UInt8) (e : Nat), (eLoop e l).2 ≤ l.length
  | [], _ => Nat.le_refl _
  | c :: r, e => by
    rw [eLoop]
    split
    · have := eLoop_len r (if e < 10000 then e * 10 + (c.toNat - 48) else e); simp only [List.length_cons]; omega
    · simp

theorem rfLoop_okS : ∀ (l : List UInt8) (st : RF) (k : Nat), st.ok k → (rfLoop st l).1.ok (k + (rfLoop st l).2)
  | [], st, k, h => h
  | c :: r, st, k, h => by
    rw [rfLoop]
    cases hs : rfStep st c with
    | none => exact h
    | some st' =>
      have := rfLoop_okS r st' (k + 1) (rfStep_ok st st' k c h hs)
      dsimp only
      rwa [show k + ((rfLoop st' r).2 + 1) = k + 1 + (rfLoop st' r).2 by omega]

theorem RF.init_okS : RF.init.ok 0 := ⟨by show 0 < 1; omega, by show 0 ≤ 19; omega, Nat.le_refl _, Nat.le_refl _, by show -((0 : Nat) : Int) ≤ 0; omega, by show (0 : Int) ≤ ((0 : Nat) : Int); omega⟩

theorem sgnN_le (l : List UInt8) : sgnN l ≤ l.length := by
  unfold sgnN; split
  · cases l with
    | nil => simp at *
    | cons c r => simp
  · omega

theorem rfDone_i (ng : Bool) (st : RF) (dp : Int) (i : Nat) : (rfDone ng st dp i).i = i := rfl
theorem rfDone_mant (ng : Bool) (st : RF) (dp : Int) (i : Nat) : (rfDone ng st dp i).mant = st.mant := rfl

theorem rf_bd (l : List UInt8) : (rf l).i ≤ l.length ∧ (rf l).mant < 10000000000000000000 := by
  unfold rf
  split
  · exact ⟨Nat.zero_le _, by show 0 < 10000000000000000000; omega⟩
  · have h1 := sgnN_le l
    have h2 := rfLoop_len (l.drop (sgnN l)) .init
    have h3 := rfLoop_okS (l.drop (sgnN l)) .init 0 RF.init_okS
    rw [List.length_drop] at h2
    generalize rfLoop .init (l.drop (sgnN l)) = R at h2 h3
    generalize sgnN l = g at h1 h2
    have hm : R.1.mant < 10000000000000000000 := by
      have := h3.1
      have h19 := h3.2.1
      have := Nat.pow_le_pow_right (n := 10) (by omega) h19
      have e : (10 : Nat) ^ 19 = 10000000000000000000 := by decide
      omega
    have hh : ∀ k, (l.drop k).head? = some 101 ∨ (l.drop k).head? = some 69 → k < l.length := by
      intro k hk
      by_cases hl : k < l.length
      · exact hl
      · rw [List.drop_eq_nil_of_le (by omega)] at hk; simp at hk
    unfold rfTail
    split
    · exact ⟨by show g + R.2 ≤ _; omega, hm⟩
    · split
      · rename_i h
        have := hh _ h
        unfold rfExp
        split
        · exact ⟨by show g + R.2 + 1 ≤ _; omega, hm⟩
        · have h5 := sgnN_le (l.drop (g + R.2 + 1))
          rw [List.length_drop] at h5
          split
          · exact ⟨by show g + R.2 + 1 + _ ≤ _; omega, hm⟩
          · rw [rfDone_i, rfDone_mant]
            have h6 := eLoop_len (l.drop (g + R.2 + 1 + sgnN (l.drop (g + R.2 + 1)))) 0
            rw [List.length_drop] at h6
            exact ⟨by omega, hm⟩
      · rw [rfDone_i, rfDone_mant]; exact ⟨by omega, hm⟩

end Go.Proofs.YtjncgedjdmgpfaaGreatDoor
