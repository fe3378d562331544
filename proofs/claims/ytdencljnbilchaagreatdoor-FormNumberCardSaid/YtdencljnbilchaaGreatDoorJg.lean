/- num.Digits, tailraceref11.Digits of any number; the walk of printf's bare. Whole parts against the scale; the walks of printf's letter and float. -/
import Derived.Test.YtdencljnbilchaaGreatDoorVq
import Derived.Test.YtdencljnbilchaaGreatDoorJc
import Derived.BigQuiet
import Derived.Laws.FloatArith

namespace Go.Proofs.YtdencljnbilchaaGreatDoor
open Go.RowKit

theorem absT_dig (x : Nat) (hx : x < 18446744073709551616) (hf : finN x) : digL (absT x) := by
  obtain ⟨h1, h2, h3, _⟩ := plain_trunc x hx hf
  unfold absT
  generalize plainN (truncN x) = y at h1 h2 h3
  by_cases h0 : fMm y = 0
  · rw [if_pos h0]
    exact ⟨by simp, fun c hc => by rw [List.mem_singleton] at hc; subst hc; decide, by simp⟩
  · rw [if_neg h0]
    have hE : fEx y ≠ 2047 := by unfold finN at h2; unfold fEx; omega
    have hE1 : 1 ≤ fE1 y ∧ fE1 y ≤ 2046 := by
      have : fEx y < 2048 := by unfold fEx; omega
      unfold fE1; split <;> omega
    obtain ⟨ds, e, hd⟩ := ftoaT_digits false (fMm y) ((fE1 y : Nat) - 1023) h0 (fMm_lt y) (by omega) (by omega)
    rw [e]; exact hd

/-- Digits without their sign do not begin with one. -/
theorem bareT_head (x : Nat) (hx : x < 18446744073709551616) : (∃ c r, (bareT x).1 = c :: r ∧ c ≠ 45) ∧ (bareT x).1.length ≤ 1000 := by
  unfold bareT
  by_cases hf : finB x = true
  · rw [if_pos hf]
    obtain ⟨h1, h2, h3⟩ := absT_dig x hx ((finB_iff x).1 hf)
    refine ⟨?_, h3⟩
    show ∃ c r, absT x = c :: r ∧ c ≠ 45
    revert h1 h2
    cases absT x with
    | nil => exact fun h => absurd rfl h
    | cons c r =>
      intro _ h
      refine ⟨c, r, rfl, ?_⟩
      rintro rfl
      have := h 45 (List.mem_cons_self ..)
      exact absurd this (by decide)
  · rw [if_neg hf]
    split
    · exact ⟨⟨110, _, rfl, by decide⟩, by simp⟩
    · exact ⟨⟨105, _, rfl, by decide⟩, by simp⟩

theorem bareT_nan {x : Nat} (h : 9218868437227405312 < x % 9223372036854775808) : bareT x = ([110, 97, 110], false) := by
  unfold bareT finB
  rw [if_neg (by simp; omega), if_pos h]
theorem bareT_inf : bareT 9218868437227405312 = ([105, 110, 102], false) := by kernel_rfl
theorem bareT_minf : bareT 18442240474082181120 = ([105, 110, 102], true) := by kernel_rfl
theorem bareT_fin {x : Nat} (h : finN x) : bareT x = (absT x, belowB x) := by
  unfold bareT
  rw [if_pos ((finB_iff x).2 h)]

theorem sgn_bare (b : Bool) (l : List UInt8) : (sgnL b ++ l) = if b = true then 45 :: l else l := by cases b <;> rfl

theorem digits_bare (x : Nat) (hx : x < 18446744073709551616) (w : World) (hL : LaidG w) :
    Calls Tryz.prog 16 #[.float .f64 x] w fun e w' => e = .returned (.string ⟨(sgnL (bareT x).2 ++ (bareT x).1).toArray⟩) ∧ Below w.heap.size w w' := by
  rcases class3 x hx with h | rfl | rfl | h
  · rw [bareT_fin h]; exact digits_said x hx h w hL
  · rw [bareT_inf]
    exact (digits_infP _ w (by kernel_rfl) (by kernel_rfl)).mono fun e w' ⟨h1, h2⟩ => ⟨h1, h2 ▸ Below.refl _ _⟩
  · rw [bareT_minf]
    exact (digits_infM _ w (by kernel_rfl) (by kernel_rfl) (by kernel_rfl)).mono fun e w' ⟨h1, h2⟩ => ⟨h1, h2 ▸ Below.refl _ _⟩
  · rw [bareT_nan h]
    exact (digits_nan x w (by unfold nanB; rw [nan_order hx h]; rfl)).mono fun e w' ⟨h1, h2⟩ => ⟨h1, h2 ▸ Below.refl _ _⟩

theorem rdigits_bare (x : Nat) (hx : x < 18446744073709551616) (w : World) (hL : LaidG w) :
    Calls Tryz.prog 38 #[.float .f64 x] w fun e w' => e = .returned (.string ⟨(sgnL (bareT x).2 ++ (bareT x).1).toArray⟩) ∧ Below w.heap.size w w' := by
  rcases class3 x hx with h | rfl | rfl | h
  · rw [bareT_fin h]
    obtain ⟨h1, h2, h3, _⟩ := plain_trunc x hx h
    refine rdigits_fin x _ w h ?_
    have hF := (format_all (plainN (truncN x)) 102 0 h1 h2 h3 (.inr (.inr (.inl rfl))) (by decide) (by decide)).2 w hL
    have e : floatT (plainN (truncN x)) 102 0 = sgnL (belowB x) ++ absT x := by
      unfold floatT belowB absT
      rcases h3 with h3 | h3
      · rw [if_pos h3, h3, if_pos (by decide)]; rfl
      · by_cases h0 : plainN (truncN x) = 0
        · rw [h0] at h3; exact absurd rfl h3
        · rw [if_neg h0, if_neg h3, ftoaT_sign]
    rw [← e]
    exact hF
  · rw [bareT_inf]
    exact (rdigits_inf w).mono fun e w' ⟨h1, h2⟩ => ⟨h1, h2 ▸ Below.refl _ _⟩
  · rw [bareT_minf]
    exact (rdigits_minf w).mono fun e w' ⟨h1, h2⟩ => ⟨h1, h2 ▸ Below.refl _ _⟩
  · rw [bareT_nan h]
    exact (rdigits_nan x (nan_order hx h x) w).mono fun e w' ⟨h1, h2⟩ => ⟨h1, h2 ▸ Below.refl _ _⟩

set_option maxRecDepth 100000 in
theorem bare_any (x : Nat) (hx : x < 18446744073709551616) (w : World) (hL : LaidG w) :
    Calls Tryz.prog 55 #[.float .f64 x] w fun e w' => e = .returned (.tuple #[.string ⟨(bareT x).1.toArray⟩, .bool (bareT x).2]) ∧ Below w.heap.size w w' := by
  have HD := Lib.hid (digits_bare x hx w hL)
  obtain ⟨⟨c, r, hc, h45⟩, _⟩ := bareT_head x hx
  obtain ⟨B, hB⟩ : ∃ B, bareT x = B := ⟨_, rfl⟩
  rw [hB] at HD hc ⊢
  obtain ⟨l, b⟩ := B
  have hc2 : l = c :: r := hc
  subst hc2
  clear hB hc hL hx
  have ht : Lib.trimPrefix (sgnL b ++ c :: r) [45] = c :: r := by
    cases b
    · show Lib.trimPrefix (c :: r) [45] = c :: r
      unfold Lib.trimPrefix Lib.hasPrefix
      rw [if_neg (by simp [List.isPrefixOf]; exact fun h => h45 h.symm)]
    · show Lib.trimPrefix (45 :: c :: r) [45] = c :: r
      unfold Lib.trimPrefix Lib.hasPrefix
      rw [if_pos (by simp [List.isPrefixOf])]; rfl
  obtain ⟨S, hS⟩ : ∃ S : ByteArray, S = ⟨(sgnL b ++ c :: r).toArray⟩ := ⟨_, rfl⟩
  have HT := Lib.hid (fun W => trimP_any S ⟨#[45]⟩ W)
  have e1 : S.data.toList = sgnL b ++ c :: r := by rw [hS]
  rw [e1, show (⟨#[45]⟩ : ByteArray).data.toList = [45] from rfl, ht] at HT
  have hsz : 0 < S.size := by rw [hS]; cases b <;> simp [sgnL, ByteArray.size]
  have hb : ((S[0].toNat : Int) == 45) = b := by
    have h0 : S.data.toList[0]? = some (S[0]) := by
      rw [List.getElem?_eq_getElem (by simpa using hsz)]; rfl
    rw [e1] at h0
    cases b
    · have h1 : c = S[0] := Option.some.inj h0
      exact beq_f (d := 45) (by rw [← h1]; exact h45)
    · have h1 : (45 : UInt8) = S[0] := Option.some.inj h0
      exact beq_t (d := 45) h1.symm
  have HD2 : Hid (Calls Tryz.prog 16 #[.float .f64 x] w fun e w' => e = .returned (.string S) ∧ Below w.heap.size w w') := by rw [hS]; exact HD.out
  clear HD ht hS e1 h45
  go_enter Tryz.func55, Tryz.ntmps55
  go_wp2_with (go_at_call 16; refine HD2.out.mono ?_; rintro e w' ⟨rfl, hB⟩)
  have hszI : (0 : Int) < S.size := by omega
  go_quiet ((go_at_call 73; exact Calls.quiet_of_same (HT.out _)))
  go_wp2
  go_ret2
  exact ⟨rfl, below_drewN hB _⟩

end Go.Proofs.YtdencljnbilchaaGreatDoor

namespace Go.Proofs.YtdencljnbilchaaGreatDoor
open Go.RowKit

theorem cut_floor (s : Bool) (n d : Nat) : Ieee.Toward.zero.cut s n d = n / 2 ^ d := by
  unfold Ieee.Toward.cut
  simp only [Bool.toNat_false, Nat.add_zero, Nat.one_shiftLeft]
  rcases Nat.le_total d (n.log2 + 2) with h | h
  · rw [Nat.min_eq_left h]
  · rw [Nat.min_eq_right h]
    have hn : n < 2 ^ (n.log2 + 1) := Nat.lt_log2_self
    have h1 : n < 2 ^ (n.log2 + 2) := Nat.lt_of_lt_of_le hn (Nat.pow_le_pow_right (by decide) (by omega))
    have h2 : n < 2 ^ d := Nat.lt_of_lt_of_le h1 (Nat.pow_le_pow_right (by decide) h)
    rw [Nat.div_eq_of_lt h1, Nat.div_eq_of_lt h2]

theorem two_pos_n (e : Nat) : 0 < 2 ^ e := Nat.pow_pos (by decide)
theorem two_pos_z (e : Nat) : (0 : Int) < 2 ^ e := Int.pow_pos (by decide)
theorem cast_pow2 (e : Nat) : ((2 ^ e : Nat) : Int) = (2 : Int) ^ e := by push_cast; rfl

/-- A number that is not below nought lies from its whole part on, and below the next one. -/
theorem scal_floor {x : Nat} (hf : finN x) (h0 : 0 ≤ scal x) : 0 ≤ valT x ∧ valT x * 2 ^ 1074 ≤ scal x ∧ scal x < (valT x + 1) * 2 ^ 1074 := by
  obtain ⟨p1, p2⟩ := plN_bd x hf
  have key : ∀ (m : Nat), scal x = (m * 2 ^ (plN x + 1074).toNat : Nat) → valT x = ((m <<< (plN x).toNat) / 2 ^ (-(plN x)).toNat : Nat) → 0 ≤ valT x ∧ valT x * 2 ^ 1074 ≤ scal x ∧ scal x < (valT x + 1) * 2 ^ 1074 := by
    intro m e1 e2
    rw [e1, e2]
    generalize plN x = p at p1 p2
    rcases Int.le_total 0 p with h | h
    · obtain ⟨k, rfl⟩ : ∃ k : Nat, p = k := ⟨p.toNat, by omega⟩
      rw [show (-(k : Int)).toNat = 0 by omega, Nat.pow_zero, Nat.div_one, Int.toNat_natCast, Nat.shiftLeft_eq, show ((k : Int) + 1074).toNat = k + 1074 by omega, Nat.pow_add, ← Nat.mul_assoc]
      generalize m * 2 ^ k = A
      generalize hB : (2 : Nat) ^ 1074 = B
      have hBI : (2 : Int) ^ 1074 = (B : Int) := by rw [← hB]; exact (cast_pow2 1074).symm
      have hB0 : 0 < B := by rw [← hB]; exact two_pos_n 1074
      rw [hBI]
      refine ⟨by omega, by push_cast; exact Int.le_refl _, ?_⟩
      rw [Int.add_mul]; push_cast; omega
    · obtain ⟨d, hd⟩ : ∃ d : Nat, p = -(d : Int) := ⟨(-p).toNat, by omega⟩
      subst hd
      have hd1074 : d ≤ 1074 := by omega
      rw [show (-(d : Int)).toNat = 0 by omega, Nat.shiftLeft_zero, show (- -(d : Int)).toNat = d by omega, show (-(d : Int) + 1074).toNat = 1074 - d by omega]
      have hsplit : (2 : Nat) ^ 1074 = 2 ^ d * 2 ^ (1074 - d) := by rw [← Nat.pow_add, show d + (1074 - d) = 1074 by omega]
      have hdm := Nat.div_add_mod m (2 ^ d)
      have hml := Nat.mod_lt m (Nat.pow_pos (n := d) (show 0 < 2 by decide))
      generalize hq : m / 2 ^ d = q at hdm
      generalize hr : m % 2 ^ d = r at hdm hml
      generalize hD : (2 : Nat) ^ d = D at hsplit hdm hml
      generalize hC : (2 : Nat) ^ (1074 - d) = C at hsplit
      have hC0 : 0 < C := by rw [← hC]; exact two_pos_n _
      generalize hB : (2 : Nat) ^ 1074 = B at hsplit
      have hBI : (2 : Int) ^ 1074 = (B : Int) := by rw [← hB]; exact (cast_pow2 1074).symm
      rw [hBI]
      refine ⟨by omega, ?_, ?_⟩
      · have : q * B ≤ m * C := by
          rw [hsplit, ← Nat.mul_assoc]
          exact Nat.mul_le_mul_right _ (by rw [Nat.mul_comm]; omega)
        exact_mod_cast this
      · have : m * C < (q + 1) * B := by
          rw [hsplit, ← Nat.mul_assoc]
          exact Nat.mul_lt_mul_of_pos_right (by rw [Nat.add_mul, Nat.one_mul, Nat.mul_comm]; omega) hC0
        exact_mod_cast this
  unfold scal valT at *
  rw [cut_floor] at *
  cases hs : sgB x
  · rw [hs] at key h0
    exact key (mgN x) (by rw [signed_f]) (by rw [signed_f, Nat.pow_zero, Nat.mul_one])
  · rw [hs] at key h0
    rw [signed_t] at h0
    have hz : mgN x * 2 ^ (plN x + 1074).toNat = 0 := by omega
    have hm : mgN x = 0 := by
      rcases Nat.mul_eq_zero.1 hz with h | h
      · exact h
      · have := Nat.pow_pos (n := (plN x + 1074).toNat) (show 0 < 2 by decide); omega
    refine key 0 (by rw [signed_t, hz]; simp) ?_
    rw [signed_t, hm]; simp

/-- A number that is not below nought, against 2^53: as its whole part is. -/
theorem letter_orders {n : Nat} (hn : n < 18446744073709551616) :
    (finB n = true ∧ 0 ≤ scal n ∧ valT n < 9007199254740992 ∧ (FloatKind.f64.format.order n 0 = some .gt ∨ FloatKind.f64.format.order n 0 = some .eq) ∧ FloatKind.f64.format.order n 4845873199050653696 = some .lt ∧ 0 ≤ valT n ∧ finN n) ∨
    (¬ (finB n = true ∧ 0 ≤ scal n ∧ valT n < 9007199254740992) ∧ (FloatKind.f64.format.order n 0 = some .lt ∨ FloatKind.f64.format.order n 0 = none ∨ ((FloatKind.f64.format.order n 0 = some .gt ∨ FloatKind.f64.format.order n 0 = some .eq) ∧ (FloatKind.f64.format.order n 4845873199050653696 = some .gt ∨ FloatKind.f64.format.order n 4845873199050653696 = some .eq)))) := by
  rcases class3 n hn with h | rfl | rfl | h
  · have o1 := order_scal h c0.1
    have o2 := order_scal h c2p53.1
    rw [c0.2, Int.zero_mul] at o1
    rw [c2p53.2] at o2
    generalize hM : (9007199254740992 : Int) * 2 ^ 1074 = M at o2
    rcases Int.lt_trichotomy (scal n) 0 with h1 | h1 | h1
    · right
      rw [cmp_lt h1] at o1
      exact ⟨fun h => by omega, .inl o1⟩
    all_goals
      have h0 : 0 ≤ scal n := by omega
      obtain ⟨f1, f2, f3⟩ := scal_floor h h0
      have hp : (0 : Int) < 2 ^ 1074 := two_pos_z 1074
      by_cases hv : valT n < 9007199254740992
      · have hlt : scal n < M := by
          rw [← hM]
          exact Int.lt_of_lt_of_le f3 (Int.mul_le_mul_of_nonneg_right (by omega) (Int.le_of_lt hp))
        rw [cmp_lt hlt] at o2
        left
        refine ⟨(finB_iff n).2 h, h0, hv, ?_, o2, f1, h⟩
        first
          | (rw [h1, cmp_eq] at o1; exact .inr o1)
          | (rw [cmp_gt h1] at o1; exact .inl o1)
      · have hge : M ≤ scal n := by
          rw [← hM]
          exact Int.le_trans (Int.mul_le_mul_of_nonneg_right (by omega) (Int.le_of_lt hp)) f2
        right
        refine ⟨fun h => hv h.2.2, .inr (.inr ⟨?_, ?_⟩)⟩
        · first
            | (rw [h1, cmp_eq] at o1; exact .inr o1)
            | (rw [cmp_gt h1] at o1; exact .inl o1)
        · rcases Int.lt_or_eq_of_le hge with h2 | h2
          · rw [cmp_gt h2] at o2; exact .inl o2
          · rw [← h2, cmp_eq] at o2; exact .inr o2
  · right
    exact ⟨fun h => by have := h.1; revert this; decide, .inr (.inr ⟨.inl (by kernel_rfl), .inl (by kernel_rfl)⟩)⟩
  · right
    exact ⟨fun h => by have := h.1; revert this; decide, .inl (by kernel_rfl)⟩
  · right
    refine ⟨fun h' => ?_, .inr (.inl (nan_order hn h 0))⟩
    have := (finB_iff n).1 h'.1
    unfold finN at this; omega

theorem conv_u64 {n : Nat} (hf : finN n) (h0 : 0 ≤ valT n) (h1 : valT n < 18446744073709551616) (W : World) : (convert 36 84 (.float .f64 n)).run Tryz.prog W = .ok (.int .u64 (valT n)) W := by
  refine run_convert_float_int W 36 84 .f64 .u64 n (valT n) (by rw [Tryz.underlying36]; rfl) Tryz.underlying84 ?_
  unfold floatToIntVal
  rw [toInt_fin hf]
  show (if _ then _ else _) = _
  rw [if_pos ⟨by show (0 : Int) ≤ _; omega, by show valT n ≤ 18446744073709551615; omega⟩]

theorem conv_int {n : Nat} (hf : finN n) (h0 : -1000000 ≤ valT n) (h1 : valT n < 1000000) (W : World) : (convert 36 3 (.float .f64 n)).run Tryz.prog W = .ok (.int .i64 (valT n)) W := by
  refine run_convert_float_int W 36 3 .f64 .i64 n (valT n) (by rw [Tryz.underlying36]; rfl) Tryz.underlying3 ?_
  unfold floatToIntVal
  rw [toInt_fin hf]
  show (if _ then _ else _) = _
  rw [if_pos ⟨by show (-9223372036854775808 : Int) ≤ _; omega, by show valT n ≤ 9223372036854775807; omega⟩]

theorem conv1 (W : World) (b : Nat) (hb : b = W.heap.size) (x : Int) : (convert 33 9 (.slice (some ⟨b, 0, none⟩) 1 1)).run Tryz.prog (W.alloc (.cells #[.int .u8 x] 5)) = .ok (.string ⟨#[UInt8.ofNat x.toNat]⟩) (W.alloc (.cells #[.int .u8 x] 5)) := by
  subst hb
  exact run_convert_bytes_arg (P := Tryz.prog) _ 33 5 Tryz.underlying33 Tryz.underlying5 W.heap.size 0 1 1 [x] rfl (fun i hi => by
    obtain rfl : i = 0 := by omega
    rw [World.cell?_alloc_at _ _ _ _ rfl]; rfl) 9 Tryz.underlying9

theorem byte_mod (v : Nat) : UInt8.ofNat ((v : Int) % 256).toNat = UInt8.ofNat (v : Int).toNat := by
  apply UInt8.toNat_inj.1
  rw [UInt8.toNat_ofNat', UInt8.toNat_ofNat']; omega

theorem ex_list (s : ByteArray) (i j : Nat) : (s.extract i j).data.toList = (s.data.toList.drop i).take (j - i) := by
  rw [ByteArray.data_extract, Array.toList_extract]
theorem ba_ext {a b : ByteArray} (h : a.data.toList = b.data.toList) : a = b := by
  cases a; cases b; congr; exact Array.toList_inj.1 h
theorem ba_of (s : ByteArray) (l : List UInt8) (h : s.data.toList = l) : s = ⟨l.toArray⟩ := ba_ext h

set_option maxRecDepth 100000 in
theorem letter_any (n : Nat) (s : ByteArray) (num : Bool) (hn : n < 18446744073709551616) (w : World) :
    Calls Tryz.prog 43 #[.agg #[.float .f64 n, .string s, .bool num]] w fun e w' => e = .returned (.string ⟨(letterT ⟨n, s.data.toList, num⟩).toArray⟩) ∧ Below w.heap.size w w' := by
  cases num with
  | false =>
    have HL : Hid (letterT ⟨n, s.data.toList, false⟩ = s.data.toList.take 1) := rfl
    have HM : Hid (min 1 (s.size : Int) = ((min 1 s.size : Nat) : Int)) := by unfold Hid; omega
    go_enter Tryz.func43, Tryz.ntmps43
    go_wp2
    go_ret
    refine ⟨?_, (Below.refl _ _).alloc (Nat.le_refl _) _⟩
    rw [HL.out]
    refine congrArg (fun x => Ending.returned (Value.string x)) (ba_of _ _ ?_)
    rw [HM.out, ex_list, Int.toNat_natCast, List.drop_zero, Nat.sub_zero]
    have e : s.size = s.data.toList.length := rfl
    rw [e, ← List.take_take, List.take_length]
  | true =>
    rcases letter_orders hn with ⟨a1, a2, a3, o1, o2, a4, a5⟩ | ⟨a1, o⟩
    · have HL : Hid (letterT ⟨n, s.data.toList, true⟩ = [UInt8.ofNat (valT n).toNat]) := by unfold Hid letterT; rw [if_pos rfl, if_pos ⟨a1, a2, a3⟩]
      have HC := fun W => conv_u64 a5 a4 (by omega) W
      obtain ⟨v, hv⟩ : ∃ v : Nat, valT n = v := ⟨(valT n).toNat, by omega⟩
      rw [hv] at HC HL
      have HC1 : ∀ A T x, (convert 33 9 (.slice (some ⟨w.heap.size + 1, 0, none⟩) 1 1)).run Tryz.prog ((w.alloc (.cells A T)).alloc (.cells #[.int .u8 x] 5)) = .ok (.string ⟨#[UInt8.ofNat x.toNat]⟩) ((w.alloc (.cells A T)).alloc (.cells #[.int .u8 x] 5)) :=
        fun A T x => conv1 (w.alloc (.cells A T)) _ (by simp) x
      clear a1 a2 a3 a4 a5 hv
      rcases o1 with o1 | o1 <;>
      · go_enter Tryz.func43, Tryz.ntmps43
        go_wp2
        go_ret
        exact ⟨by rw [HL.out, ← byte_mod]; rfl, ((Below.refl _ _).alloc (Nat.le_refl _) _).alloc (by simp) _⟩
    · have HL : Hid (letterT ⟨n, s.data.toList, true⟩ = [0]) := by unfold Hid letterT; rw [if_pos rfl, if_neg a1]
      clear a1 hn
      obtain o1 | o1 | ⟨o1 | o1, o2 | o2⟩ := o <;>
      · go_enter Tryz.func43, Tryz.ntmps43
        go_wp2
        go_ret
        exact ⟨by rw [HL.out]; rfl, (Below.refl _ _).alloc (Nat.le_refl _) _⟩

/-- The bytes of a whole number's double, without its sign. -/
theorem absN_ok {x : Nat} (hf : finN x) : absN x < 18446744073709551616 ∧ finN (absN x) ∧ (absN x = 0 ∨ fMm (absN x) ≠ 0) := by
  have e : absN x = x % 9223372036854775808 := rfl
  unfold finN at hf ⊢
  rw [e]
  refine ⟨by omega, by omega, ?_⟩
  unfold fMm fEx fMt
  split <;> omega

theorem real_orders {x : Nat} (hf : finN x) : (scal x < 0 ∧ FloatKind.f64.format.order x 0 = some .lt) ∨ (¬ scal x < 0 ∧ (FloatKind.f64.format.order x 0 = some .gt ∨ FloatKind.f64.format.order x 0 = some .eq)) := by
  have o := order_scal hf c0.1
  rw [c0.2, Int.zero_mul] at o
  rcases Int.lt_trichotomy (scal x) 0 with h | h | h
  · rw [cmp_lt h] at o; exact .inl ⟨h, o⟩
  · rw [h, cmp_eq] at o; exact .inr ⟨by omega, .inr o⟩
  · rw [cmp_gt h] at o; exact .inr ⟨by omega, .inl o⟩

/-- The letter and the precision of a conversion of any number, as strconv takes them. -/
def realF (c : UInt8) : Nat := if c = 70 then 102 else c.toNat
def realP (c : UInt8) (p : Int) : Int := if c = 103 ∨ c = 71 then max (if p < 0 then 6 else p) 1 else if p < 0 then 6 else p

set_option maxRecDepth 100000 in
set_option maxHeartbeats 2000000 in
theorem float_fin (l p b z : Bool) (wd pr : Int) (c : UInt8) (x : Nat) (hx : x < 18446744073709551616) (hf : finN x) (hp : pr ≤ 200) (hc : c = 102 ∨ c = 70 ∨ c = 101 ∨ c = 69 ∨ c = 103 ∨ c = 71) (w : World) (hL : LaidG w) :
    Calls Tryz.prog 45 #[.agg #[.bool l, .bool p, .bool b, .bool z, .int .i64 wd, .int .i64 pr], .int .u8 c.toNat, .float .f64 x, .bool true] w fun e w' =>
      e = .returned (.tuple #[.string ⟨(signT p b (decide (scal x < 0))).toArray⟩, .string ⟨(floatT (absN x) (realF c) (realP c pr)).toArray⟩]) ∧ Below w.heap.size w w' := by
  obtain ⟨y1, y2, y3⟩ := absN_ok hf
  have hP : 0 ≤ realP c pr ∧ realP c pr ≤ 1000 := by unfold realP; split <;> split <;> omega
  have hF : fmtOk (realF c) := by
    unfold realF fmtOk
    rcases hc with rfl | rfl | rfl | rfl | rfl | rfl <;> decide
  have HF := Lib.hid ((format_all (absN x) (realF c) (realP c pr) y1 y2 y3 hF hP.1 hP.2).2)
  have HA := Lib.hid (fun W => abs_any x hx W)
  have HS : Hid (∀ (B : Bool) (W : World), Calls Tryz.prog 56 #[.agg #[.bool l, .bool p, .bool b, .bool z, .int .i64 wd, .int .i64 pr], .bool B] W fun e w' => e = .returned (.string ⟨(signT p b B).toArray⟩) ∧ Below W.heap.size W w') := fun B W => signed_any l p b z wd pr B W
  have HL := Lib.hid hL
  have HO := real_orders hf
  generalize hq : decide (scal x < 0) = q
  have HO2 : (q = true ∧ FloatKind.f64.format.order x 0 = some .lt) ∨ (q = false ∧ (FloatKind.f64.format.order x 0 = some .gt ∨ FloatKind.f64.format.order x 0 = some .eq)) := by
    rcases HO with ⟨h, o⟩ | ⟨h, o⟩
    · left; exact ⟨by rw [← hq]; exact decide_eq_true h, o⟩
    · right; exact ⟨by rw [← hq]; exact decide_eq_false h, o⟩
  have ob : (FloatKind.f64.format.order x 0 == some .lt) = q := by
    rcases HO2 with ⟨rfl, o⟩ | ⟨rfl, o | o⟩ <;> rw [o] <;> rfl
  clear hF hP y1 y2 y3 HO HO2 hq hL hf hx
  obtain rfl | rfl | rfl | rfl | rfl | rfl := hc
  · have e1 : realF 102 = 102 := by decide
    rw [e1] at HF ⊢
    by_cases hn : pr < 0
    · have e2 : realP 102 pr = 6 := by unfold realP; rw [if_neg (by decide), if_pos hn]
      rw [e2] at HF ⊢
      as_aux_lemma =>
        go_enter Tryz.func45, Tryz.ntmps45
        go_wp2_with (first
          | (go_at_call 56; refine (HS.out q _).mono ?_; rintro e w1 ⟨rfl, hb1⟩; have hb2 := ((Below.refl w.heap.size w).alloc (Nat.le_refl _) (.cells #[.bool l, .bool p, .bool b, .bool z, .int .i64 wd, .int .i64 pr] 57)).trans (hb1.mono (by simp)))
          | (go_at_call 41; refine (HA.out _).mono ?_; rintro e w2 ⟨rfl, rfl⟩)
          | (go_at_call 32; refine (HF.out _ (HL.out.below hb2)).mono ?_; rintro e w3 ⟨rfl, hb3⟩))
        go_ret2
        exact ⟨rfl, hb2.trans (hb3.mono hb2.size)⟩
    · have e2 : realP 102 pr = pr := by unfold realP; rw [if_neg (by decide), if_neg hn]
      rw [e2] at HF ⊢
      as_aux_lemma =>
        go_enter Tryz.func45, Tryz.ntmps45
        go_wp2_with (first
          | (go_at_call 56; refine (HS.out q _).mono ?_; rintro e w1 ⟨rfl, hb1⟩; have hb2 := ((Below.refl w.heap.size w).alloc (Nat.le_refl _) (.cells #[.bool l, .bool p, .bool b, .bool z, .int .i64 wd, .int .i64 pr] 57)).trans (hb1.mono (by simp)))
          | (go_at_call 41; refine (HA.out _).mono ?_; rintro e w2 ⟨rfl, rfl⟩)
          | (go_at_call 32; refine (HF.out _ (HL.out.below hb2)).mono ?_; rintro e w3 ⟨rfl, hb3⟩))
        go_ret2
        exact ⟨rfl, hb2.trans (hb3.mono hb2.size)⟩
  · have e1 : realF 70 = 102 := by decide
    rw [e1] at HF ⊢
    by_cases hn : pr < 0
    · have e2 : realP 70 pr = 6 := by unfold realP; rw [if_neg (by decide), if_pos hn]
      rw [e2] at HF ⊢
      as_aux_lemma =>
        go_enter Tryz.func45, Tryz.ntmps45
        go_wp2_with (first
          | (go_at_call 56; refine (HS.out q _).mono ?_; rintro e w1 ⟨rfl, hb1⟩; have hb2 := ((Below.refl w.heap.size w).alloc (Nat.le_refl _) (.cells #[.bool l, .bool p, .bool b, .bool z, .int .i64 wd, .int .i64 pr] 57)).trans (hb1.mono (by simp)))
          | (go_at_call 41; refine (HA.out _).mono ?_; rintro e w2 ⟨rfl, rfl⟩)
          | (go_at_call 32; refine (HF.out _ (HL.out.below hb2)).mono ?_; rintro e w3 ⟨rfl, hb3⟩))
        go_ret2
        exact ⟨rfl, hb2.trans (hb3.mono hb2.size)⟩
    · have e2 : realP 70 pr = pr := by unfold realP; rw [if_neg (by decide), if_neg hn]
      rw [e2] at HF ⊢
      as_aux_lemma =>
        go_enter Tryz.func45, Tryz.ntmps45
        go_wp2_with (first
          | (go_at_call 56; refine (HS.out q _).mono ?_; rintro e w1 ⟨rfl, hb1⟩; have hb2 := ((Below.refl w.heap.size w).alloc (Nat.le_refl _) (.cells #[.bool l, .bool p, .bool b, .bool z, .int .i64 wd, .int .i64 pr] 57)).trans (hb1.mono (by simp)))
          | (go_at_call 41; refine (HA.out _).mono ?_; rintro e w2 ⟨rfl, rfl⟩)
          | (go_at_call 32; refine (HF.out _ (HL.out.below hb2)).mono ?_; rintro e w3 ⟨rfl, hb3⟩))
        go_ret2
        exact ⟨rfl, hb2.trans (hb3.mono hb2.size)⟩
  · have e1 : realF 101 = 101 := by decide
    rw [e1] at HF ⊢
    by_cases hn : pr < 0
    · have e2 : realP 101 pr = 6 := by unfold realP; rw [if_neg (by decide), if_pos hn]
      rw [e2] at HF ⊢
      as_aux_lemma =>
        go_enter Tryz.func45, Tryz.ntmps45
        go_wp2_with (first
          | (go_at_call 56; refine (HS.out q _).mono ?_; rintro e w1 ⟨rfl, hb1⟩; have hb2 := ((Below.refl w.heap.size w).alloc (Nat.le_refl _) (.cells #[.bool l, .bool p, .bool b, .bool z, .int .i64 wd, .int .i64 pr] 57)).trans (hb1.mono (by simp)))
          | (go_at_call 41; refine (HA.out _).mono ?_; rintro e w2 ⟨rfl, rfl⟩)
          | (go_at_call 32; refine (HF.out _ (HL.out.below hb2)).mono ?_; rintro e w3 ⟨rfl, hb3⟩))
        go_ret2
        exact ⟨rfl, hb2.trans (hb3.mono hb2.size)⟩
    · have e2 : realP 101 pr = pr := by unfold realP; rw [if_neg (by decide), if_neg hn]
      rw [e2] at HF ⊢
      as_aux_lemma =>
        go_enter Tryz.func45, Tryz.ntmps45
        go_wp2_with (first
          | (go_at_call 56; refine (HS.out q _).mono ?_; rintro e w1 ⟨rfl, hb1⟩; have hb2 := ((Below.refl w.heap.size w).alloc (Nat.le_refl _) (.cells #[.bool l, .bool p, .bool b, .bool z, .int .i64 wd, .int .i64 pr] 57)).trans (hb1.mono (by simp)))
          | (go_at_call 41; refine (HA.out _).mono ?_; rintro e w2 ⟨rfl, rfl⟩)
          | (go_at_call 32; refine (HF.out _ (HL.out.below hb2)).mono ?_; rintro e w3 ⟨rfl, hb3⟩))
        go_ret2
        exact ⟨rfl, hb2.trans (hb3.mono hb2.size)⟩
  · have e1 : realF 69 = 69 := by decide
    rw [e1] at HF ⊢
    by_cases hn : pr < 0
    · have e2 : realP 69 pr = 6 := by unfold realP; rw [if_neg (by decide), if_pos hn]
      rw [e2] at HF ⊢
      as_aux_lemma =>
        go_enter Tryz.func45, Tryz.ntmps45
        go_wp2_with (first
          | (go_at_call 56; refine (HS.out q _).mono ?_; rintro e w1 ⟨rfl, hb1⟩; have hb2 := ((Below.refl w.heap.size w).alloc (Nat.le_refl _) (.cells #[.bool l, .bool p, .bool b, .bool z, .int .i64 wd, .int .i64 pr] 57)).trans (hb1.mono (by simp)))
          | (go_at_call 41; refine (HA.out _).mono ?_; rintro e w2 ⟨rfl, rfl⟩)
          | (go_at_call 32; refine (HF.out _ (HL.out.below hb2)).mono ?_; rintro e w3 ⟨rfl, hb3⟩))
        go_ret2
        exact ⟨rfl, hb2.trans (hb3.mono hb2.size)⟩
    · have e2 : realP 69 pr = pr := by unfold realP; rw [if_neg (by decide), if_neg hn]
      rw [e2] at HF ⊢
      as_aux_lemma =>
        go_enter Tryz.func45, Tryz.ntmps45
        go_wp2_with (first
          | (go_at_call 56; refine (HS.out q _).mono ?_; rintro e w1 ⟨rfl, hb1⟩; have hb2 := ((Below.refl w.heap.size w).alloc (Nat.le_refl _) (.cells #[.bool l, .bool p, .bool b, .bool z, .int .i64 wd, .int .i64 pr] 57)).trans (hb1.mono (by simp)))
          | (go_at_call 41; refine (HA.out _).mono ?_; rintro e w2 ⟨rfl, rfl⟩)
          | (go_at_call 32; refine (HF.out _ (HL.out.below hb2)).mono ?_; rintro e w3 ⟨rfl, hb3⟩))
        go_ret2
        exact ⟨rfl, hb2.trans (hb3.mono hb2.size)⟩
  · have e1 : realF 103 = 103 := by decide
    rw [e1] at HF ⊢
    by_cases hn : pr < 0
    · have e2 : realP 103 pr = 6 := by unfold realP; rw [if_pos (by decide), if_pos hn]; decide
      rw [e2] at HF ⊢
      as_aux_lemma =>
        go_enter Tryz.func45, Tryz.ntmps45
        go_wp2_with (first
          | (go_at_call 56; refine (HS.out q _).mono ?_; rintro e w1 ⟨rfl, hb1⟩; have hb2 := ((Below.refl w.heap.size w).alloc (Nat.le_refl _) (.cells #[.bool l, .bool p, .bool b, .bool z, .int .i64 wd, .int .i64 pr] 57)).trans (hb1.mono (by simp)))
          | (go_at_call 41; refine (HA.out _).mono ?_; rintro e w2 ⟨rfl, rfl⟩)
          | (go_at_call 32; refine (HF.out _ (HL.out.below hb2)).mono ?_; rintro e w3 ⟨rfl, hb3⟩))
        go_ret2
        exact ⟨rfl, hb2.trans (hb3.mono hb2.size)⟩
    · have e2 : realP 103 pr = max pr 1 := by unfold realP; rw [if_pos (by decide), if_neg hn]
      rw [e2] at HF ⊢
      as_aux_lemma =>
        go_enter Tryz.func45, Tryz.ntmps45
        go_wp2_with (first
          | (go_at_call 56; refine (HS.out q _).mono ?_; rintro e w1 ⟨rfl, hb1⟩; have hb2 := ((Below.refl w.heap.size w).alloc (Nat.le_refl _) (.cells #[.bool l, .bool p, .bool b, .bool z, .int .i64 wd, .int .i64 pr] 57)).trans (hb1.mono (by simp)))
          | (go_at_call 41; refine (HA.out _).mono ?_; rintro e w2 ⟨rfl, rfl⟩)
          | (go_at_call 32; refine (HF.out _ (HL.out.below hb2)).mono ?_; rintro e w3 ⟨rfl, hb3⟩))
        go_ret2
        exact ⟨rfl, hb2.trans (hb3.mono hb2.size)⟩
  · have e1 : realF 71 = 71 := by decide
    rw [e1] at HF ⊢
    by_cases hn : pr < 0
    · have e2 : realP 71 pr = 6 := by unfold realP; rw [if_pos (by decide), if_pos hn]; decide
      rw [e2] at HF ⊢
      as_aux_lemma =>
        go_enter Tryz.func45, Tryz.ntmps45
        go_wp2_with (first
          | (go_at_call 56; refine (HS.out q _).mono ?_; rintro e w1 ⟨rfl, hb1⟩; have hb2 := ((Below.refl w.heap.size w).alloc (Nat.le_refl _) (.cells #[.bool l, .bool p, .bool b, .bool z, .int .i64 wd, .int .i64 pr] 57)).trans (hb1.mono (by simp)))
          | (go_at_call 41; refine (HA.out _).mono ?_; rintro e w2 ⟨rfl, rfl⟩)
          | (go_at_call 32; refine (HF.out _ (HL.out.below hb2)).mono ?_; rintro e w3 ⟨rfl, hb3⟩))
        go_ret2
        exact ⟨rfl, hb2.trans (hb3.mono hb2.size)⟩
    · have e2 : realP 71 pr = max pr 1 := by unfold realP; rw [if_pos (by decide), if_neg hn]
      rw [e2] at HF ⊢
      as_aux_lemma =>
        go_enter Tryz.func45, Tryz.ntmps45
        go_wp2_with (first
          | (go_at_call 56; refine (HS.out q _).mono ?_; rintro e w1 ⟨rfl, hb1⟩; have hb2 := ((Below.refl w.heap.size w).alloc (Nat.le_refl _) (.cells #[.bool l, .bool p, .bool b, .bool z, .int .i64 wd, .int .i64 pr] 57)).trans (hb1.mono (by simp)))
          | (go_at_call 41; refine (HA.out _).mono ?_; rintro e w2 ⟨rfl, rfl⟩)
          | (go_at_call 32; refine (HF.out _ (HL.out.below hb2)).mono ?_; rintro e w3 ⟨rfl, hb3⟩))
        go_ret2
        exact ⟨rfl, hb2.trans (hb3.mono hb2.size)⟩

end Go.Proofs.YtdencljnbilchaaGreatDoor
