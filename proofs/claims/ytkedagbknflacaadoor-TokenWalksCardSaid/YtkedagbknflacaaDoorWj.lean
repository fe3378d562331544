/- Walks: special at numerals' bytes, begin, plain, IsInf. Twenty values in one: the open slots of a large activation. No program here. -/
import Derived.Test.YtkedagbknflacaaDoorWa
import Derived.Test.YtkedagbknflacaaDoorPa
import Derived.Test.YtkedagbknflacaaDoorGm
import Derived.WalkKit

namespace Go.Proofs.YtkedagbknflacaaDoor
open Go.RowKit

theorem numCh_prefix {c : UInt8} (h : c ∈ numChL) : (65 ≤ c.toNat ∧ c.toNat ≤ 90 → c = 69) ∧ c ≠ 105 ∧ c ≠ 73 ∧ c ≠ 110 ∧ c ≠ 78 := by
  simp only [numChL, List.mem_cons, List.not_mem_nil, or_false] at h
  rcases h with h | h | h | h | h | h | h | h | h | h | h | h | h | h | h <;> subst h <;> decide

set_option maxHeartbeats 800000 in
theorem prefix_num (s : ByteArray) (w : World) (hs : s.size ≤ maxLen) (hN : ∀ h : 0 < s.size, s[0] ∈ numChL) : Calls Tryd.prog 68 #[.string s, .string { data := #[105, 110, 102, 105, 110, 105, 116, 121] }] w fun e w' => e = .returned (.int .i64 0) ∧ w = w' := by
  have HNC := Lib.hid hN; clear hN
  unfold maxLen at hs
  by_cases h0 : s.size = 0
  · have he : s = ByteArray.empty := by
      cases s with | mk d => have : d = #[] := Array.eq_empty_of_size_eq_zero h0; subst this; rfl
    subst he
    go_enter Tryd.func68, Tryd.ntmps68
    go_wp2
    refine wp_loop_rounds 1 ?_
    rw [rounds_succ]
    go_wp2
    go_ret
    exact ⟨rfl, rfl⟩
  · have h0' : 0 < s.size := by omega
    have hf := numCh_prefix (HNC.out h0')
    have hb : (s[0].toNat = 69) ∨ (¬ (65 ≤ s[0].toNat ∧ s[0].toNat ≤ 90) ∧ ((s[0].toNat : Int) != 105) = true) := by
      by_cases h : 65 ≤ s[0].toNat ∧ s[0].toNat ≤ 90
      · exact .inl (by rw [hf.1 h]; rfl)
      · exact .inr ⟨h, bne_t (d := 105) hf.2.1⟩
    have hi0 : (({ data := #[105, 110, 102, 105, 110, 105, 116, 121] } : ByteArray)[0]'(by decide)).toNat = 105 := rfl
    clear h0 hf
    by_cases h8 : 8 ≤ s.size <;> rcases hb with hb | ⟨hb, hb2⟩
    · go_enter Tryd.func68, Tryd.ntmps68
      go_wp2
      refine wp_loop_rounds 1 ?_
      rw [rounds_succ]
      go_wp2
      go_ret
      exact ⟨rfl, rfl⟩
    all_goals
      go_enter Tryd.func68, Tryd.ntmps68
      go_wp2
      refine wp_loop_rounds 1 ?_
      rw [rounds_succ]
      go_wp2
      all_goals (go_ret; exact ⟨rfl, rfl⟩)

theorem ext_bits (x : Nat) (w : World) : (callFunc 42 #[.float .f64 x]).run Tryd.prog w = .ok (.value (.int .u64 x)) w := by kernel_rfl
theorem ext_frombits (x : Nat) (w : World) : (callFunc 41 #[.int .u64 x]).run Tryd.prog w = .ok (.value (.float .f64 x)) w := by kernel_rfl
theorem ext_ifrombits (x : Nat) (w : World) : (callFunc 64 #[.int .u64 x]).run Tryd.prog w = .ok (.value (.float .f64 x)) w := by kernel_rfl

/-- -0 is 0. -/
def plainN (x : Nat) : Nat := if FloatKind.f64.format.order x 0 == some .eq then 0 else x
/-- Without its sign. -/
def absN (x : Nat) : Nat := x % 2 ^ 63
def infB (x : Nat) : Bool := FloatKind.f64.format.order (absN x) 9218868437227405311 == some .gt

set_option maxHeartbeats 800000 in
theorem plain_any (x : Nat) (w : World) : Calls Tryd.prog 35 #[.float .f64 x] w fun e w' => e = .returned (.float .f64 (plainN x)) ∧ w = w' := by
  cases h : (FloatKind.f64.format.order x 0 == some .eq) with
  | true =>
    have HP : Hid (plainN x = 0) := by unfold Hid; rw [plainN, h]; rfl
    go_enter Tryd.func35, Tryd.ntmps35
    go_wp2
    go_ret
    exact ⟨by rw [HP.out]; rfl, rfl⟩
  | false =>
    have HP : Hid (plainN x = x) := by unfold Hid; rw [plainN, h]; rfl
    go_enter Tryd.func35, Tryd.ntmps35
    go_wp2
    go_ret
    exact ⟨by rw [HP.out]; rfl, rfl⟩

theorem bits_abs (x : Nat) (hx : x < 18446744073709551616) : bits .andNot .u64 (x : Int) 9223372036854775808 = (absN x : Int) := by
  have h := u64_andNot_nat x 9223372036854775808 hx (by omega)
  rw [absN, ← Nat.and_two_pow_sub_one_eq_mod]; exact h
theorem run_abs (x : Nat) (hx : x < 18446744073709551616) (w : World) : (callFunc 41 #[.int .u64 (bits .andNot .u64 (x : Int) 9223372036854775808)]).run Tryd.prog w = .ok (.value (.float .f64 (absN x))) w := by
  rw [bits_abs x hx]
  exact ext_frombits (absN x) w

set_option maxRecDepth 20000 in
theorem abs_any (x : Nat) (hx : x < 18446744073709551616) (w : World) : Calls Tryd.prog 36 #[.float .f64 x] w fun e w' => e = .returned (.float .f64 (absN x)) ∧ w = w' := by
  have e1 := fun W => ext_bits x W
  have e3 := fun W => run_abs x hx W
  clear hx
  go_enter Tryd.func36, Tryd.ntmps36
  go_wp2_with (fail)
  go_ret
  exact ⟨rfl, rfl⟩

set_option maxHeartbeats 800000 in
theorem isInf_any (x : Nat) (hx : x < 18446744073709551616) (w : World) : Calls Tryd.prog 29 #[.float .f64 x, .int .i64 0] w fun e w' => e = .returned (.bool (infB x)) ∧ w = w' := by
  have HA := Lib.hid (fun W => abs_any x hx W)
  have HB : Hid (infB x = (FloatKind.f64.format.order (absN x) 9218868437227405311 == some .gt)) := rfl
  clear hx
  go_enter Tryd.func29, Tryd.ntmps29
  go_wp2_with (go_at_call 36; refine (HA.out _).mono ?_; rintro e w' ⟨rfl, rfl⟩)
  go_ret
  exact ⟨ret_bool HB.out.symm, rfl⟩

set_option maxHeartbeats 800000 in
theorem special_num (s : ByteArray) (w : World) (hs : s.size ≤ maxLen) (hN : ∀ k (h : k < s.size), s[k] ∈ numChL) : Calls Tryd.prog 54 #[.string s] w fun e w' => e = .returned (.tuple #[.float .f64 0, .int .i64 0, .bool false]) ∧ w = w' := by
  by_cases h0 : s.size = 0
  · have he : s = ByteArray.empty := by
      cases s with | mk d => have : d = #[] := Array.eq_empty_of_size_eq_zero h0; subst this; rfl
    subst he
    go_enter Tryd.func54, Tryd.ntmps54
    go_wp2
    go_ret3
    exact ⟨rfl, rfl⟩
  · have h0' : 0 < s.size := by omega
    have hf := (numCh_prefix (hN 0 h0')).2
    have hne : ¬ s = ByteArray.empty := fun e => by subst e; simp at h0'
    have b1 : ((s[0].toNat : Int) == 105) = false := beq_f (d := 105) hf.1
    have b2 : ((s[0].toNat : Int) == 73) = false := beq_f (d := 73) hf.2.1
    have b3 : ((s[0].toNat : Int) == 110) = false := beq_f (d := 110) hf.2.2.1
    have b4 : ((s[0].toNat : Int) == 78) = false := beq_f (d := 78) hf.2.2.2
    have bs : ((s.size : Int) == 0) = false := beq_eq_false_iff_ne.2 (by omega)
    have hx : s.extract 1 s.size = s.extract 1 s.size := rfl
    have hP : ∀ W, Calls Tryd.prog 68 #[.string (s.extract 1 s.size), .string { data := #[105, 110, 102, 105, 110, 105, 116, 121] }] W fun e w' => e = .returned (.int .i64 0) ∧ W = w' := fun W =>
      prefix_num _ W (by have : (s.extract 1 s.size).size = s.size - 1 := by simp
                         omega) (fun h => by
        have h1 : 1 < s.size := by have : (s.extract 1 s.size).size = s.size - 1 := by simp
                                   omega
        have := hN 1 h1
        rwa [show (s.extract 1 s.size)[0] = s[1] from by simp [ByteArray.getElem_extract]])
    have HP := Lib.hid hP
    clear hP hf hN hx
    unfold maxLen at hs
    by_cases h43 : s[0] = 43
    · have c1 : ((s[0].toNat : Int) == 43) = true := beq_t (d := 43) h43
      have c2 : ((s[0].toNat : Int) == 45) = false := beq_f (d := 45) (by rw [h43]; decide)
      clear h43 h0
      go_enter Tryd.func54, Tryd.ntmps54
      go_wp2_with (go_at_call 68; refine (HP.out _).mono ?_; rintro e w' ⟨rfl, rfl⟩)
      go_ret3
      exact ⟨rfl, rfl⟩
    · have c1 : ((s[0].toNat : Int) == 43) = false := beq_f (d := 43) h43
      by_cases h45 : s[0] = 45
      · have c2 : ((s[0].toNat : Int) == 45) = true := beq_t (d := 45) h45
        clear h43 h0 h45
        go_enter Tryd.func54, Tryd.ntmps54
        go_wp2_with (go_at_call 68; refine (HP.out _).mono ?_; rintro e w' ⟨rfl, rfl⟩)
        go_ret3
        exact ⟨rfl, rfl⟩
      · have c2 : ((s[0].toNat : Int) == 45) = false := beq_f (d := 45) h45
        clear h43 h0 h45
        go_enter Tryd.func54, Tryd.ntmps54
        go_wp2
        go_ret3
        exact ⟨rfl, rfl⟩

end Go.Proofs.YtkedagbknflacaaDoor

namespace Go
structure V20 where
  a : Value
  b : Value
  c : Value
  d : Value
  e : Value
  f : Value
  g : Value
  h : Value
  i : Value
  j : Value
  k : Value
  l : Value
  m : Value
  n : Value
  o : Value
  p : Value
  q : Value
  r : Value
  s : Value
  t : Value
end Go
