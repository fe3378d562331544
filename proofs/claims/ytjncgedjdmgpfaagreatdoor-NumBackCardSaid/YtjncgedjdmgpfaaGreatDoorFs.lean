/- num.Prefix at the texts that chapter 11's known ones ask for. The walks of tailraceref11: digit, Blank, Numeral, clean. The walks of tailraceref11's Prefix, Looks; what they share with num's. -/
import Derived.Test.YtjncgedjdmgpfaaGreatDoorXu
import Derived.Test.YtjncgedjdmgpfaaGreatDoorWn
import Derived.Deep.DeepCutAuto
import Derived.Deep.CutBlock

namespace Go.Proofs.YtjncgedjdmgpfaaGreatDoor
open Go.RowKit

set_option maxHeartbeats 800000 in
theorem exact_125_1 (w : World) (hL : LaidF w) : Calls Tryz.prog 95 #[.int .u64 125, .int .i64 1, .bool false] w fun e w' => e = .returned (.tuple #[.float .f64 4653212373585231872, .bool true]) ∧ w = w' := by
  obtain ⟨h1, h2, b, o, cap, h3, h4⟩ := hL
  have h5 := h4 1 (by omega)
  simp only [pow10L, List.getD_cons_succ, List.getD_cons_zero] at h5
  clear h4
  have f1 : floatOfInt .f64 125 = 4638496509959077888 := by kernel_rfl
  have f2 : FloatKind.f64.format.order 4638496509959077888 4831355200913801216 = some .lt := by kernel_rfl
  have f3 : FloatKind.f64.format.order 4638496509959077888 14054727237768577024 = some .gt := by kernel_rfl
  have f4 := fun w => run_float_arith (P := Tryz.prog) (w := w) .mul 24 .f64 4638496509959077888 4621819117588971520 4653212373585231872 (by kernel_rfl)
  go_enter Tryz.func95, Tryz.ntmps95
  go_wp2
  go_ret2
  exact ⟨rfl, rfl⟩

set_option maxHeartbeats 800000 in
theorem exact_7n (w : World) (hL : LaidF w) : Calls Tryz.prog 95 #[.int .u64 7, .int .i64 0, .bool true] w fun e w' => e = .returned (.tuple #[.float .f64 13842939354630062080, .bool true]) ∧ w = w' := by
  obtain ⟨h1, h2, b, o, cap, h3, h4⟩ := hL
  clear h4
  have f1 : floatOfInt .f64 7 = 4619567317775286272 := by kernel_rfl
  have N1 := run_negF
  have x1 : (4619567317775286272 : Nat) ^^^ 9223372036854775808 = 13842939354630062080 := by decide +kernel
  go_enter Tryz.func95, Tryz.ntmps95
  go_wp2
  go_ret2
  exact ⟨rfl, rfl⟩

set_option maxRecDepth 100000 in
set_option maxHeartbeats 1600000 in
theorem atof64_exactG (s : ByteArray) (w : World) (hs : s.size ≤ 140737488351232) (hN : ∀ c ∈ s.data.toList, c ∈ numChL) (hL : LaidF w) (m : Nat) (p : Int) (n x : Nat) (ng : Bool)
    (hr : rf s.data.toList = ⟨m, p, ng, false, n, true⟩) (hm0 : m ≠ 0) (hp1 : -345 ≤ p) (hp2 : p ≤ 310)
    (hE : ∀ W, LaidF W → Calls Tryz.prog 95 #[.int .u64 m, .int .i64 p, .bool ng] W fun e w' => e = .returned (.tuple #[.float .f64 x, .bool true]) ∧ W = w') :
    Calls Tryz.prog 61 #[.string s] w fun e w' => e = .returned (.tuple #[.float .f64 x, .int .i64 n, .nilIface]) ∧ w = w' := by
  have HS := Lib.hid (fun W => special_num s W (by unfold maxLen; omega) (fun k h => hN _ (List.getElem_mem (l := s.data.toList) (by simpa using h))))
  have hR : ∀ W, Calls Tryz.prog 85 #[.string s] W fun e w' => e = .returned (.tuple #[.int .u64 m, .int .i64 p, .bool ng, .bool false, .bool false, .int .i64 n, .bool true]) ∧ W = w' := fun W => by
    have := readFloat_any s W hs hN
    rw [hr] at this
    exact this
  have HR := Lib.hid hR
  have HE := Lib.hid (hE w hL)
  have h1 := hL.opt
  have bm : ((m : Int) == 0) = false := beq_eq_false_iff_ne.2 (by omega)
  clear hR hE hL hN hr hm0 hs
  cases ng with
  | true =>
    go_enter Tryz.func61, Tryz.ntmps61
    go_wp2_with (first | (go_at_call 84; refine (HS.out _).mono ?_; rintro e w' ⟨rfl, rfl⟩) | (go_at_call 85; refine (HR.out _).mono ?_; rintro e w' ⟨rfl, rfl⟩) | (go_at_call 93; refine (bool2_any _ _).mono ?_; rintro e w' ⟨rfl, rfl⟩) | (go_at_call 95; refine HE.out.mono ?_; rintro e w' ⟨rfl, rfl⟩))
    go_ret3
    exact ⟨rfl, rfl⟩
  | false =>
    go_enter Tryz.func61, Tryz.ntmps61
    go_wp2_with (first | (go_at_call 84; refine (HS.out _).mono ?_; rintro e w' ⟨rfl, rfl⟩) | (go_at_call 85; refine (HR.out _).mono ?_; rintro e w' ⟨rfl, rfl⟩) | (go_at_call 93; refine (bool2_any _ _).mono ?_; rintro e w' ⟨rfl, rfl⟩) | (go_at_call 95; refine HE.out.mono ?_; rintro e w' ⟨rfl, rfl⟩))
    go_ret3
    exact ⟨rfl, rfl⟩

theorem parse_12e2 (w : World) (s : ByteArray) (hs : s.data.toList = [49, 50, 46, 53, 101, 50]) (hL : LaidF w) :
    Calls Tryz.prog 25 #[.string s, .int .i64 64] w fun e w' => e = .returned (.tuple #[.float .f64 4653212373585231872, .nilIface]) ∧ w = w' := by
  have hsz : s.size = 6 := by
    have : s.data.toList.length = s.size := rfl
    rw [hs] at this; exact this.symm
  refine parse_exact s w _ (fun W hW => ?_) hL
  rw [hsz]
  exact atof64_exactG s W (by omega) (by rw [hs]; decide) hW 125 1 6 _ false (by rw [hs]; rfl) (by omega) (by omega) (by omega) (fun W h => exact_125_1 W h)

theorem parse_7n (w : World) (s : ByteArray) (hs : s.data.toList = [45, 55]) (hL : LaidF w) :
    Calls Tryz.prog 25 #[.string s, .int .i64 64] w fun e w' => e = .returned (.tuple #[.float .f64 13842939354630062080, .nilIface]) ∧ w = w' := by
  have hsz : s.size = 2 := by
    have : s.data.toList.length = s.size := rfl
    rw [hs] at this; exact this.symm
  refine parse_exact s w _ (fun W hW => ?_) hL
  rw [hsz]
  exact atof64_exactG s W (by omega) (by rw [hs]; decide) hW 7 0 2 _ true (by rw [hs]; rfl) (by omega) (by omega) (by omega) (fun W h => exact_7n W h)

theorem prefix_k1 (w : World) (hL : LaidF w) : Calls Tryz.prog 9 #[.string ⟨#[32, 32, 49, 50, 46, 53, 101, 50, 120]⟩] w fun e w' => e = .returned (.tuple #[.float .f64 4653212373585231872, .int .i64 8]) ∧ Below w.heap.size w w' := by
  have h := prefix_some ⟨#[32, 32, 49, 50, 46, 53, 101, 50, 120]⟩ w 4653212373585231872 (by decide) (by decide) ((parse_12e2 w _ (by decide) hL).mono (fun e w' ⟨he, hw⟩ => ⟨_, he, hw ▸ Below.refl _ _⟩))
  have e1 : plainN 4653212373585231872 = 4653212373585231872 := by kernel_rfl
  have e2 : prefixE (ByteArray.data ⟨#[32, 32, 49, 50, 46, 53, 101, 50, 120]⟩).toList = 8 := by decide
  rw [e1, e2] at h
  exact h

theorem prefix_k2 (w : World) (hL : LaidF w) : Calls Tryz.prog 9 #[.string ⟨#[45, 55, 101]⟩] w fun e w' => e = .returned (.tuple #[.float .f64 13842939354630062080, .int .i64 2]) ∧ Below w.heap.size w w' := by
  have h := prefix_some ⟨#[45, 55, 101]⟩ w 13842939354630062080 (by decide) (by decide) ((parse_7n w _ (by decide) hL).mono (fun e w' ⟨he, hw⟩ => ⟨_, he, hw ▸ Below.refl _ _⟩))
  have e1 : plainN 13842939354630062080 = 13842939354630062080 := by kernel_rfl
  have e2 : prefixE (ByteArray.data ⟨#[45, 55, 101]⟩).toList = 2 := by decide
  rw [e1, e2] at h
  exact h

/-- Does it look like a number? -/
def looksB (l : List UInt8) : Bool := if numeralN (l.drop (beginA l)) = 0 then false else decide (prefixE l + nWhile isBlank (l.drop (prefixE l)) = l.length)

set_option maxHeartbeats 1600000 in
theorem looks_any (s : ByteArray) (w : World) (hs : s.size ≤ maxLen) : Calls Tryz.prog 13 #[.string s] w fun e w' => e = .returned (.bool (looksB s.data.toList)) ∧ w = w' := by
  obtain ⟨a, ha⟩ : ∃ a, beginA s.data.toList = a := ⟨_, rfl⟩
  obtain ⟨n, hn⟩ : ∃ n, prefixE s.data.toList = n := ⟨_, rfl⟩
  have hal := (beginA_le s.data.toList).2
  have hle := numeralN_le (s.data.toList.drop (beginA s.data.toList))
  have hne : beginA s.data.toList + numeralN (s.data.toList.drop (beginA s.data.toList)) = n := hn
  rw [ha] at hle hne hal
  simp only [List.length_drop] at hle
  have hsz : s.data.toList.length = s.size := rfl
  have HB := Lib.hid (fun W => begin_any s W hs)
  rw [ha] at HB
  have HN : Hid (∀ W, Calls Tryz.prog 24 #[.string s, .int .i64 a] W fun e w' => e = .returned (.int .i64 n) ∧ W = w') := fun W => by
    have := numeral_any s a W hs (by omega)
    rwa [hne] at this
  unfold maxLen at hs
  by_cases h0 : numeralN (s.data.toList.drop a) = 0
  · have hV : looksB s.data.toList = false := by unfold looksB; rw [ha, if_pos h0]
    obtain rfl : n = a := by omega
    rw [hV]
    clear h0 ha hal hn hne hle hsz hV
    go_enter Tryz.func13, Tryz.ntmps13
    go_wp2_with (first | (go_at_call 23; refine (HB.out _).mono ?_; rintro e w' ⟨rfl, rfl⟩) | (go_at_call 24; refine (HN.out _).mono ?_; rintro e w' ⟨rfl, rfl⟩))
    go_ret
    exact ⟨rfl, rfl⟩
  · have hV : looksB s.data.toList = decide (n + nWhile isBlank (s.data.toList.drop n) = s.size) := by unfold looksB; rw [ha, if_neg h0, hn]; rfl
    have h3 : ((n : Int) == a) = false := beq_eq_false_iff_ne.2 (by omega)
    have hn2 : n ≤ s.size := by omega
    have HV := Lib.hid hV
    clear h0 ha hal hn hne hle hsz hV
    obtain ⟨b, hb⟩ : ∃ b, n + nWhile isBlank (s.data.toList.drop n) = b := ⟨_, rfl⟩
    have hbs : b ≤ s.size := by
      have := nWhile_le isBlank (s.data.toList.drop n)
      have e : s.data.toList.length = s.size := rfl
      simp only [List.length_drop] at this
      omega
    rw [hb] at HV
    have hnb : n ≤ b := by omega
    have HB2 := Lib.hid hb
    clear hb
    go_enter Tryz.func13, Tryz.ntmps13
    go_wp2_with (first | (go_at_call 23; refine (HB.out _).mono ?_; rintro e w' ⟨rfl, rfl⟩) | (go_at_call 24; refine (HN.out _).mono ?_; rintro e w' ⟨rfl, rfl⟩))
    go_loop [5] (fun v => ∃ k : Nat, n ≤ k ∧ k ≤ b ∧ v = .int .i64 k ∧ Hid (k + nWhile isBlank (s.data.toList.drop k) = b)) (fun v => b - (intOf v).toNat)
    case atStart => exact ⟨n, Nat.le_refl _, hnb, rfl, HB2⟩
    case round =>
      obtain ⟨k, hk0, hk1, rfl, hK⟩ := hrel
      cases hq : blkAt s.data.toList k with
      | true =>
        have h1 := bW_on hq
        have h2 := hK.out
        have hkd : k < b := by omega
        have hK2 : Hid (k + 1 + nWhile isBlank (s.data.toList.drop (k + 1)) = b) := by unfold Hid; omega
        rcases blk_cases s k _ hq with ⟨hlt, hc⟩ | ⟨_, hc⟩
        · clear hq h1 h2
          go_wp2_with (go_at_call 31; refine (blank_any _ _).mono ?_; rintro e w' ⟨rfl, rfl⟩)
          go_round
          case rel => exact ⟨k + 1, by omega, by omega, by go_num, hK2⟩
          case measure => simp [intOf]; omega
        · cases hc
      | false =>
        have h1 := bW_off hq
        have h2 := hK.out
        obtain rfl : k = b := by omega
        rcases blk_cases s k _ hq with ⟨hlt, hc⟩ | ⟨hlt, _⟩
        · have HV2 : Hid (looksB s.data.toList = false) := by unfold Hid; rw [HV.out, decide_eq_false]; omega
          have hne2 : ((k : Int) == s.size) = false := beq_eq_false_iff_ne.2 (by omega)
          clear hq h1 h2
          go_wp2_with (go_at_call 31; refine (blank_any _ _).mono ?_; rintro e w' ⟨rfl, rfl⟩)
          go_ret
          exact ⟨ret_bool HV2.out.symm, rfl⟩
        · have HV2 : Hid (looksB s.data.toList = true) := by unfold Hid; rw [HV.out, decide_eq_true]; omega
          have hne2 : ((k : Int) == s.size) = true := beq_iff_eq.2 (by omega)
          clear hq h1 h2
          go_wp2
          go_ret
          exact ⟨ret_bool HV2.out.symm, rfl⟩

end Go.Proofs.YtjncgedjdmgpfaaGreatDoor

namespace Go.Proofs.YtjncgedjdmgpfaaGreatDoor
open Go.RowKit

def digAt (l : List UInt8) (k : Nat) : Bool := match l[k]? with | some c => isDig c | none => false

theorem digAt_lt {l : List UInt8} {k : Nat} (h : digAt l k = true) : k < l.length := by
  rcases Nat.lt_or_ge k l.length with h1 | h1
  · exact h1
  · unfold digAt at h; rw [List.getElem?_eq_none h1] at h; cases h
theorem digAt_in {l : List UInt8} {k : Nat} (h : k < l.length) : digAt l k = isDig l[k] := by unfold digAt; rw [List.getElem?_eq_getElem h]
theorem digAt_out {l : List UInt8} {k : Nat} (h : l.length ≤ k) : digAt l k = false := by unfold digAt; rw [List.getElem?_eq_none h]
theorem nW_on {l : List UInt8} {k : Nat} (h : digAt l k = true) : nWhile isDig (l.drop k) = nWhile isDig (l.drop (k + 1)) + 1 :=
  nWhile_yes isDig l k (digAt_lt h) (by rw [← digAt_in (digAt_lt h)]; exact h)
theorem nW_off {l : List UInt8} {k : Nat} (h : digAt l k = false) : nWhile isDig (l.drop k) = 0 := by
  rcases Nat.lt_or_ge k l.length with h1 | h1
  · exact nWhile_no _ _ _ h1 (by rw [← digAt_in h1]; exact h)
  · exact nWhile_end _ _ _ h1
theorem nW_zero {l : List UInt8} {k : Nat} (h : nWhile isDig (l.drop k) = 0) : digAt l k = false := by
  cases hd : digAt l k with
  | false => rfl
  | true => have := nW_on hd; omega

theorem rdig_any (s : ByteArray) (k : Nat) (a : Int) (ha : a = k) (w : World) (_hs : s.size ≤ maxLen) : Calls Tryz.prog 42 #[.string s, .int .i64 a] w fun e w' => e = .returned (.bool (digAt s.data.toList k)) ∧ w = w' := by
  subst ha
  unfold maxLen at _hs
  by_cases hk : k < s.size
  · have hd : digAt s.data.toList k = digB (s[k].toNat : Int) := digAt_in (l := s.data.toList) hk
    rw [hd]
    clear hd
    go_enter Tryz.func42, Tryz.ntmps42
    go_wp2
    all_goals (go_ret; exact ⟨ret_bool (by simp [digB, *] <;> omega), rfl⟩)
  · have hd : digAt s.data.toList k = false := digAt_out (by simpa using hk)
    rw [hd]
    clear hd
    go_enter Tryz.func42, Tryz.ntmps42
    go_wp2
    go_ret
    exact ⟨rfl, rfl⟩

theorem rblank_any (c : Int) (w : World) : Calls Tryz.prog 27 #[.int .u8 c] w fun e w' => e = .returned (.bool (blankB c)) ∧ w = w' := by
  go_enter Tryz.func27, Tryz.ntmps27
  go_wp2
  all_goals (go_ret; refine ⟨ret_bool ?_, rfl⟩)
  all_goals (rw [Bool.eq_iff_iff]; simp [blankB]; omega)

theorem clean_any (x : Nat) (w : World) : Calls Tryz.prog 29 #[.float .f64 x] w fun e w' => e = .returned (.float .f64 (plainN x)) ∧ w = w' := by
  cases h : (FloatKind.f64.format.order x 0 == some .eq) with
  | true =>
    have HP : Hid (plainN x = 0) := by unfold Hid; rw [plainN, h]; rfl
    go_enter Tryz.func29, Tryz.ntmps29
    go_wp2
    go_ret
    exact ⟨by rw [HP.out]; rfl, rfl⟩
  | false =>
    have HP : Hid (plainN x = x) := by unfold Hid; rw [plainN, h]; rfl
    go_enter Tryz.func29, Tryz.ntmps29
    go_wp2
    go_ret
    exact ⟨by rw [HP.out]; rfl, rfl⟩

/-- Where a numeral's digits and its point end, and what stands there. -/
theorem mant_cases (s : ByteArray) (i d : Nat) (hi : i ≤ s.size) (hd : i + nWhile isDig (s.data.toList.drop i) = d) :
    (i + numeralN (s.data.toList.drop i) = i ∧ d = i ∧ (¬ i < s.size ∨ (∃ h : i < s.size, ((s[i].toNat : Int) == 46) = false) ∨ (∃ h : i < s.size, ((s[i].toNat : Int) == 46) = true ∧ digAt s.data.toList (i + 1) = false))) ∨
    (∃ m, i + numeralN (s.data.toList.drop i) = m + expN (s.data.toList.drop m) ∧ i < m ∧ m ≤ s.size ∧
      (i < d ∨ (d = i ∧ ∃ h : i < s.size, ((s[i].toNat : Int) == 46) = true ∧ digAt s.data.toList (i + 1) = true)) ∧
      ((∃ h : d < s.size, ((s[d].toNat : Int) == 46) = true ∧ d + 1 + nWhile isDig (s.data.toList.drop (d + 1)) = m) ∨ ((¬ d < s.size ∨ ∃ h : d < s.size, ((s[d].toNat : Int) == 46) = false) ∧ d = m))) := by
  have hil : i ≤ s.data.toList.length := by simpa using hi
  have hid : i ≤ d := by omega
  by_cases hdot : ∃ h : d < s.size, s[d] = 46
  · obtain ⟨hds, h46⟩ := hdot
    have b46 : ((s[d].toNat : Int) == 46) = true := beq_t (d := 46) h46
    obtain ⟨h1, h2⟩ := mant_dot s.data.toList i d _ hd (by simpa using hds) h46 rfl
    by_cases hor : i < d ∨ d + 1 < d + 1 + nWhile isDig (s.data.toList.drop (d + 1))
    · right
      have hE := h1 hor
      refine ⟨_, numEnd_exp _ _ _ hE, (hE.2.2.2 rfl).1, by simpa using hE.2.1, ?_, .inl ⟨hds, b46, rfl⟩⟩
      rcases Nat.lt_or_ge i d with h | h
      · exact .inl h
      · obtain rfl : d = i := by omega
        refine .inr ⟨rfl, hds, b46, ?_⟩
        cases hq : digAt s.data.toList (d + 1) with
        | true => rfl
        | false => have := nW_off hq; omega
    · left
      have hE := h2 (by omega) (by omega)
      obtain rfl : d = i := by omega
      exact ⟨numEnd_no _ _ _ hE, rfl, .inr (.inr ⟨hds, b46, nW_zero (by omega)⟩)⟩
  · have hE := mant_end s.data.toList i d hil hd (fun ⟨h, e⟩ => hdot ⟨by simpa using h, e⟩)
    have hb : ¬ d < s.size ∨ ∃ h : d < s.size, ((s[d].toNat : Int) == 46) = false := by
      by_cases h : d < s.size
      · exact .inr ⟨h, beq_f (d := 46) (fun e => hdot ⟨h, e⟩)⟩
      · exact .inl h
    by_cases h : i < d
    · right
      rw [decide_eq_true h] at hE
      exact ⟨d, numEnd_exp _ _ _ hE, h, by simpa using hE.2.1, .inl h, .inr ⟨hb, rfl⟩⟩
    · left
      rw [decide_eq_false h] at hE
      obtain rfl : d = i := by omega
      exact ⟨numEnd_no _ _ _ hE, rfl, hb.imp id .inl⟩

/-- A sign that may stand there. -/
theorem sgn_cases (s : ByteArray) (k : Nat) : (∃ h : k < s.size, (((s[k].toNat : Int) == 43) = true ∨ (((s[k].toNat : Int) == 43) = false ∧ ((s[k].toNat : Int) == 45) = true)) ∧ sgnN (s.data.toList.drop k) = 1) ∨
    ((¬ k < s.size ∨ ∃ h : k < s.size, ((s[k].toNat : Int) == 43) = false ∧ ((s[k].toNat : Int) == 45) = false) ∧ sgnN (s.data.toList.drop k) = 0) := by
  by_cases hg : ∃ h : k < s.size, s[k] = 43 ∨ s[k] = 45
  · obtain ⟨hk, hg⟩ := hg
    left
    refine ⟨hk, ?_, sgn_some s.data.toList k (by simpa using hk) hg⟩
    rcases hg with hg | hg
    · exact .inl (beq_t (d := 43) hg)
    · exact .inr ⟨beq_f (d := 43) (by rw [hg]; decide), beq_t (d := 45) hg⟩
  · right
    refine ⟨?_, sgn_none s.data.toList k (fun ⟨h, e⟩ => hg ⟨by simpa using h, e⟩)⟩
    by_cases h : k < s.size
    · exact .inr ⟨h, beq_f (d := 43) (fun e => hg ⟨h, .inl e⟩), beq_f (d := 45) (fun e => hg ⟨h, .inr e⟩)⟩
    · exact .inl h

theorem exp_cases (s : ByteArray) (m : Nat) : (∃ h : m < s.size, (((s[m].toNat : Int) == 101) = true ∨ (((s[m].toNat : Int) == 101) = false ∧ ((s[m].toNat : Int) == 69) = true)) ∧
      expN (s.data.toList.drop m) = if nWhile isDig (s.data.toList.drop (m + 1 + sgnN (s.data.toList.drop (m + 1)))) = 0 then 0 else 1 + sgnN (s.data.toList.drop (m + 1)) + nWhile isDig (s.data.toList.drop (m + 1 + sgnN (s.data.toList.drop (m + 1))))) ∨
    ((¬ m < s.size ∨ ∃ h : m < s.size, ((s[m].toNat : Int) == 101) = false ∧ ((s[m].toNat : Int) == 69) = false) ∧ expN (s.data.toList.drop m) = 0) := by
  by_cases he : ∃ h : m < s.size, s[m] = 101 ∨ s[m] = 69
  · obtain ⟨hms, he⟩ := he
    left
    refine ⟨hms, ?_, exp_some s.data.toList m (by simpa using hms) he⟩
    rcases he with he | he
    · exact .inl (beq_t (d := 101) he)
    · exact .inr ⟨beq_f (d := 101) (by rw [he]; decide), beq_t (d := 69) he⟩
  · right
    refine ⟨?_, exp_none s.data.toList m (fun ⟨h, e⟩ => he ⟨by simpa using h, e⟩)⟩
    by_cases h : m < s.size
    · exact .inr ⟨h, beq_f (d := 101) (fun e => he ⟨h, .inl e⟩), beq_f (d := 69) (fun e => he ⟨h, .inr e⟩)⟩
    · exact .inl h

set_option maxRecDepth 100000 in
set_option maxHeartbeats 3200000 in
theorem rnumeral_any (s : ByteArray) (i : Nat) (w : World) (hs : s.size ≤ maxLen) (hi : i ≤ s.size) : Calls Tryz.prog 28 #[.string s, .int .i64 i] w fun e w' => e = .returned (.int .i64 (i + numeralN (s.data.toList.drop i) : Nat)) ∧ w = w' := by
  obtain ⟨d, hd⟩ : ∃ d, i + nWhile isDig (s.data.toList.drop i) = d := ⟨_, rfl⟩
  have hdl : d ≤ s.size := by have := nWhile_le isDig (s.data.toList.drop i); simp at this; omega
  have hid : i ≤ d := by omega
  have HR := Lib.hid (fun W (k : Nat) (a : Int) (ha : a = k) => rdig_any s k a ha W hs)
  have hc := mant_cases s i d hi hd
  have HD := Lib.hid hd
  unfold maxLen at hs
  clear hd
  rcases hc with ⟨hN, hdi, hb⟩ | ⟨m, hN, him, hms, hb, hdot⟩
  · have HN := Lib.hid hN
    subst hdi
    clear hN
    go_enter Tryz.func28, Tryz.ntmps28
    go_wp2_with (fail)
    refine wp_loop_rounds 1 ?_
    rw [rounds_succ]
    have h0 : digAt s.data.toList d = false := nW_zero (by have := HD.out; omega)
    have H0 := Lib.hid (fun W => HR.out W d d rfl)
    rw [h0] at H0
    rcases hb with hb | ⟨hlt, hb⟩ | ⟨hlt, hb, hb2⟩
    · go_wp2_with (go_at_call 42; refine (H0.out _).mono ?_; rintro e w' ⟨rfl, rfl⟩)
      go_ret
      exact ⟨ret_int (by rw [HN.out]), rfl⟩
    · go_wp2_with (go_at_call 42; refine (H0.out _).mono ?_; rintro e w' ⟨rfl, rfl⟩)
      go_ret
      exact ⟨ret_int (by rw [HN.out]), rfl⟩
    · have H1 := Lib.hid (fun W => HR.out W (d + 1) ((d : Int) + 1) (by omega))
      rw [hb2] at H1
      go_wp2_with (go_at_call 42; first | (with_reducible refine (H0.out _).mono ?_; rintro e w' ⟨rfl, rfl⟩) | (with_reducible refine (H1.out _).mono ?_; rintro e w' ⟨rfl, rfl⟩))
      go_ret
      exact ⟨ret_int (by rw [HN.out]), rfl⟩
  · have HN := Lib.hid hN
    have HB := Lib.hid hb
    have HDOT := Lib.hid hdot
    clear hN hb hdot
    go_enter Tryz.func28, Tryz.ntmps28
    go_upto_block 0 with (fail)
    go_cut [5] (fun v wx => v = .int .i64 d ∧ w = wx)
    case first =>
      as_aux_lemma =>
        go_wp2
        go_loop [5] (fun n => ∃ k : Nat, i ≤ k ∧ k ≤ d ∧ n = .int .i64 k ∧ Hid (k + nWhile isDig (s.data.toList.drop k) = d)) (fun n => d - (intOf n).toNat)
        case atStart => exact ⟨i, Nat.le_refl _, hid, rfl, HD⟩
        case round =>
          obtain ⟨k, hk1, hk2, rfl, hK⟩ := hrel
          have H0 := Lib.hid (fun W => HR.out W k k rfl)
          cases hq : digAt s.data.toList k with
          | true =>
            rw [hq] at H0
            have h1 := nW_on hq
            have hlt := digAt_lt hq
            have h2 := hK.out
            have hkd : k < d := by omega
            have hK2 : Hid (k + 1 + nWhile isDig (s.data.toList.drop (k + 1)) = d) := by unfold Hid; omega
            clear hq h1 h2 hlt
            go_wp2_with (go_at_call 42; refine (H0.out _).mono ?_; rintro e w' ⟨rfl, rfl⟩)
            go_round
            case rel => exact ⟨k + 1, by omega, by omega, by go_num, hK2⟩
            case measure => simp [intOf]; omega
          | false =>
            rw [hq] at H0
            have h1 := nW_off hq
            have h2 := hK.out
            obtain rfl : k = d := by omega
            clear hq h1 h2
            go_wp2_with (go_at_call 42; refine (H0.out _).mono ?_; rintro e w' ⟨rfl, rfl⟩)
            go_meet
            exact ⟨rfl, rfl⟩
    case rest =>
      obtain ⟨rfl, rfl⟩ := hcut
      go_upto_region 4 with (fail)
      go_cut [34] (fun v wx => v = .bool false ∧ w = wx)
      case first =>
        as_aux_lemma =>
          rcases HB.out with hb | ⟨rfl, hlt, hb, hb2⟩
          · go_wp2
            go_meet
            exact ⟨rfl, rfl⟩
          · have H1 := Lib.hid (fun W => HR.out W (d + 1) ((d : Int) + 1) (by omega))
            rw [hb2] at H1
            go_wp2_with (go_at_call 42; with_reducible refine (H1.out _).mono ?_; rintro e w' ⟨rfl, rfl⟩)
            go_meet
            exact ⟨rfl, rfl⟩
      case rest =>
        obtain ⟨rfl, rfl⟩ := hcut
        go_upto_region 6 with (fail)
        go_cut [45] (fun v wx => ∃ b : Bool, v = .bool b ∧ Hid ((b = true ∧ d + 1 + nWhile isDig (s.data.toList.drop (d + 1)) = m) ∨ (b = false ∧ d = m)) ∧ w = wx)
        case first =>
          as_aux_lemma =>
            rcases HDOT.out with ⟨hlt, hb, hm⟩ | ⟨hb | ⟨hlt, hb⟩, rfl⟩
            · have HM := Lib.hid hm
              clear hm
              go_wp2
              go_meet
              exact ⟨true, rfl, by have := HM.out; simp [Hid, this], rfl⟩
            · go_wp2
              go_meet
              exact ⟨false, rfl, by simp [Hid], rfl⟩
            · go_wp2
              go_meet
              exact ⟨false, rfl, by simp [Hid], rfl⟩
        case rest =>
        obtain ⟨b45, rfl, H45, rfl⟩ := hcut
        go_upto_if 45 with (fail)
        go_cut [5] (fun v wx => v = .int .i64 m ∧ w = wx)
        case first =>
          as_aux_lemma =>
            rcases H45.out with ⟨rfl, hm⟩ | ⟨rfl, rfl⟩
            · have HM := Lib.hid hm
              have hdm : d + 1 ≤ m := by omega
              clear hm
              go_wp2
              go_loop [5] (fun n => ∃ k : Nat, d + 1 ≤ k ∧ k ≤ m ∧ n = .int .i64 k ∧ Hid (k + nWhile isDig (s.data.toList.drop k) = m)) (fun n => m - (intOf n).toNat)
              case atStart => exact ⟨d + 1, Nat.le_refl _, hdm, by go_num, HM⟩
              case round =>
                obtain ⟨k, hk1, hk2, rfl, hK⟩ := hrel
                have H0 := Lib.hid (fun W => HR.out W k k rfl)
                cases hq : digAt s.data.toList k with
                | true =>
                  rw [hq] at H0
                  have h1 := nW_on hq
                  have h2 := hK.out
                  have hkd : k < m := by omega
                  have hK2 : Hid (k + 1 + nWhile isDig (s.data.toList.drop (k + 1)) = m) := by unfold Hid; omega
                  clear hq h1 h2
                  go_wp2_with (go_at_call 42; refine (H0.out _).mono ?_; rintro e w' ⟨rfl, rfl⟩)
                  go_round
                  case rel => exact ⟨k + 1, by omega, by omega, by go_num, hK2⟩
                  case measure => simp [intOf]; omega
                | false =>
                  rw [hq] at H0
                  have h1 := nW_off hq
                  have h2 := hK.out
                  obtain rfl : k = m := by omega
                  clear hq h1 h2
                  go_wp2_with (go_at_call 42; refine (H0.out _).mono ?_; rintro e w' ⟨rfl, rfl⟩)
                  go_meet
                  exact ⟨rfl, rfl⟩
            · go_wp2
              go_meet
              exact ⟨rfl, rfl⟩
        case rest =>
          obtain ⟨rfl, rfl⟩ := hcut
          rcases exp_cases s m with ⟨hlt, hb, hX⟩ | ⟨hb, hX⟩
          · obtain ⟨g, hg⟩ : ∃ g, m + 1 + sgnN (s.data.toList.drop (m + 1)) = g := ⟨_, rfl⟩
            obtain ⟨n, hn⟩ : ∃ n, g + nWhile isDig (s.data.toList.drop g) = n := ⟨_, rfl⟩
            have hgs := sgn_cases s (m + 1)
            have hsg : sgnN (s.data.toList.drop (m + 1)) ≤ 1 := by unfold sgnN; split <;> omega
            have HX : Hid (i + numeralN (s.data.toList.drop i) = if g < n then n else m) := by
              unfold Hid
              rw [HN.out, hX, hg]
              by_cases h0 : nWhile isDig (s.data.toList.drop g) = 0
              · rw [if_pos h0, if_neg (by omega)]; omega
              · rw [if_neg h0, if_pos (by omega)]; omega
            have HGS : Hid ((∃ h : m + 1 < s.size, (((s[m + 1].toNat : Int) == 43) = true ∨ (((s[m + 1].toNat : Int) == 43) = false ∧ ((s[m + 1].toNat : Int) == 45) = true)) ∧ g = m + 1 + 1) ∨ ((¬ m + 1 < s.size ∨ ∃ h : m + 1 < s.size, ((s[m + 1].toNat : Int) == 43) = false ∧ ((s[m + 1].toNat : Int) == 45) = false) ∧ g = m + 1)) := by
              rcases hgs with ⟨h, hb, e⟩ | ⟨h, e⟩
              · exact .inl ⟨h, hb, by omega⟩
              · exact .inr ⟨h, by omega⟩
            have hgm : m + 1 ≤ g ∧ g ≤ m + 2 := by omega
            have hgn : g ≤ n := by omega
            have HNN := Lib.hid hn
            clear hX hg hn hgs hsg
            rcases hb with hb | ⟨hb, hb'⟩ <;>
            · go_upto_region 13 with (fail)
              go_cut [87] (fun v wx => ∃ b : Bool, v = .bool b ∧ Hid ((b = true ∧ m + 1 < s.size ∧ g = m + 1 + 1) ∨ (b = false ∧ g = m + 1)) ∧ w = wx)
              case first =>
                as_aux_lemma =>
                  rcases HGS.out with ⟨h1, h2 | ⟨h2, h3⟩, rfl⟩ | ⟨h1 | ⟨h1, h2, h3⟩, rfl⟩
                  · go_wp2
                    go_meet
                    exact ⟨true, rfl, by simp [Hid, h1], rfl⟩
                  · go_wp2
                    go_meet
                    exact ⟨true, rfl, by simp [Hid, h1], rfl⟩
                  · go_wp2
                    go_meet
                    exact ⟨false, rfl, by simp [Hid], rfl⟩
                  · go_wp2
                    go_meet
                    exact ⟨false, rfl, by simp [Hid], rfl⟩
              case rest =>
              obtain ⟨b87, rfl, H87, rfl⟩ := hcut
              go_upto_if 87 with (fail)
              go_cut [6] (fun v wx => v = .int .i64 g ∧ w = wx)
              case first =>
                as_aux_lemma =>
                  rcases H87.out with ⟨rfl, hms2, rfl⟩ | ⟨rfl, rfl⟩ <;>
                  · go_wp2
                    go_meet
                    exact ⟨by go_num, rfl⟩
              case rest =>
                obtain ⟨rfl, rfl⟩ := hcut
                have H0 := Lib.hid (fun W => HR.out W g g rfl)
                cases hq : digAt s.data.toList g with
                | false =>
                  rw [hq] at H0
                  have h1 := nW_off hq
                  have h2 := HNN.out
                  have HX2 : Hid (i + numeralN (s.data.toList.drop i) = m) := by unfold Hid; rw [HX.out, if_neg (by omega)]
                  clear hq h1 h2
                  go_wp2_with (go_at_call 42; refine (H0.out _).mono ?_; rintro e w' ⟨rfl, rfl⟩)
                  go_ret
                  exact ⟨ret_int (by rw [HX2.out]), rfl⟩
                | true =>
                  rw [hq] at H0
                  have h1 := nW_on hq
                  have h2 := HNN.out
                  have hgl := digAt_lt hq
                  have HX2 : Hid (i + numeralN (s.data.toList.drop i) = n) := by unfold Hid; rw [HX.out, if_pos (by omega)]
                  have hns : n ≤ s.size := by
                    have := nWhile_le isDig (s.data.toList.drop g)
                    have e : s.data.toList.length = s.size := rfl
                    simp only [List.length_drop] at this
                    omega
                  clear hq h1 h2 hgl
                  go_wp2_with (go_at_call 42; refine (H0.out _).mono ?_; rintro e w' ⟨rfl, rfl⟩)
                  go_loop [6] (fun v => ∃ k : Nat, g ≤ k ∧ k ≤ n ∧ v = .int .i64 k ∧ Hid (k + nWhile isDig (s.data.toList.drop k) = n)) (fun v => n - (intOf v).toNat)
                  case atStart => exact ⟨g, Nat.le_refl _, hgn, rfl, HNN⟩
                  case round =>
                    obtain ⟨k, hk1, hk2, rfl, hK⟩ := hrel
                    have H2 := Lib.hid (fun W => HR.out W k k rfl)
                    cases hq : digAt s.data.toList k with
                    | true =>
                      rw [hq] at H2
                      have h1 := nW_on hq
                      have h2 := hK.out
                      have hkd : k < n := by omega
                      have hK2 : Hid (k + 1 + nWhile isDig (s.data.toList.drop (k + 1)) = n) := by unfold Hid; omega
                      clear hq h1 h2
                      go_wp2_with (go_at_call 42; refine (H2.out _).mono ?_; rintro e w' ⟨rfl, rfl⟩)
                      go_round
                      case rel => exact ⟨k + 1, by omega, by omega, by go_num, hK2⟩
                      case measure => simp [intOf]; omega
                    | false =>
                      rw [hq] at H2
                      have h1 := nW_off hq
                      have h2 := hK.out
                      obtain rfl : k = n := by omega
                      clear hq h1 h2
                      go_wp2_with (go_at_call 42; refine (H2.out _).mono ?_; rintro e w' ⟨rfl, rfl⟩)
                      go_ret
                      exact ⟨ret_int (by rw [HX2.out]), rfl⟩
          · have HX : Hid (i + numeralN (s.data.toList.drop i) = m) := by unfold Hid; rw [HN.out, hX]; rfl
            clear hX
            rcases hb with hb | ⟨hlt, hb, hb'⟩ <;>
            · go_wp2
              go_ret
              exact ⟨ret_int (by rw [HX.out]), rfl⟩

end Go.Proofs.YtjncgedjdmgpfaaGreatDoor

namespace Go.Proofs.YtjncgedjdmgpfaaGreatDoor
open Go.RowKit

set_option maxHeartbeats 1600000 in
theorem rprefix_of (s : ByteArray) (w : World) (hs : s.size ≤ maxLen) (x N : Nat)
    (hP : (numeralN (s.data.toList.drop (beginA s.data.toList)) = 0 ∧ x = 0 ∧ N = 0) ∨
      (numeralN (s.data.toList.drop (beginA s.data.toList)) ≠ 0 ∧ N = prefixE s.data.toList ∧ ∃ y, x = plainN y ∧ Calls Tryz.prog 25 #[.string (s.extract (beginS s.data.toList) (prefixE s.data.toList)), .int .i64 64] w fun e w' => ∃ v, e = .returned (.tuple #[.float .f64 y, v]) ∧ Below w.heap.size w w')) :
    Calls Tryz.prog 10 #[.string s] w fun e w' => e = .returned (.tuple #[.float .f64 x, .int .i64 N]) ∧ Below w.heap.size w w' := by
  obtain ⟨b, hb⟩ : ∃ b, beginS s.data.toList = b := ⟨_, rfl⟩
  obtain ⟨a, ha⟩ : ∃ a, beginA s.data.toList = a := ⟨_, rfl⟩
  obtain ⟨n, hn⟩ : ∃ n, prefixE s.data.toList = n := ⟨_, rfl⟩
  have hal := beginA_le s.data.toList
  have hle := numeralN_le (s.data.toList.drop (beginA s.data.toList))
  have hne : beginA s.data.toList + numeralN (s.data.toList.drop (beginA s.data.toList)) = n := hn
  have hA : b + sgnN (s.data.toList.drop b) = a := by rw [← hb, ← ha]; rfl
  have hB : 0 + nWhile isBlank (s.data.toList.drop 0) = b := by rw [← hb]; simp [beginS]
  rw [ha, hb] at hal
  rw [ha] at hle hne hP
  rw [hb, hn] at hP
  simp only [List.length_drop] at hle
  have hsz : s.data.toList.length = s.size := rfl
  have hgs := sgn_cases s b
  have HGS : Hid ((∃ h : b < s.size, (((s[b].toNat : Int) == 43) = true ∨ (((s[b].toNat : Int) == 43) = false ∧ ((s[b].toNat : Int) == 45) = true)) ∧ a = b + 1) ∨ ((¬ b < s.size ∨ ∃ h : b < s.size, ((s[b].toNat : Int) == 43) = false ∧ ((s[b].toNat : Int) == 45) = false) ∧ a = b)) := by
    rcases hgs with ⟨h, hb, e⟩ | ⟨h, e⟩
    · exact .inl ⟨h, hb, by omega⟩
    · exact .inr ⟨h, by omega⟩
  have HN : Hid (∀ W, Calls Tryz.prog 28 #[.string s, .int .i64 a] W fun e w' => e = .returned (.int .i64 n) ∧ W = w') := fun W => by
    have := rnumeral_any s a W hs (by omega)
    rwa [hne] at this
  have HB := Lib.hid hB
  have hbs : b ≤ s.size := by omega
  have has : a ≤ s.size := by omega
  have hns : n ≤ s.size := by omega
  have hba : b ≤ a := hal.1
  have han : a ≤ n := by omega
  have hP2 : (n = a ∧ x = 0 ∧ N = 0) ∨ (a < n ∧ N = n ∧ ∃ y, x = plainN y ∧ Calls Tryz.prog 25 #[.string (s.extract b n), .int .i64 64] w fun e w' => ∃ v, e = .returned (.tuple #[.float .f64 y, v]) ∧ Below w.heap.size w w') := by
    rcases hP with ⟨h, h1, h2⟩ | ⟨h, h1, h2⟩
    · exact .inl ⟨by omega, h1, h2⟩
    · exact .inr ⟨by omega, h1, h2⟩
  have HP := Lib.hid hP2
  unfold maxLen at hs
  clear hal hle hne hA hB hsz hgs hP hP2 hb ha hn
  go_enter Tryz.func10, Tryz.ntmps10
  go_upto_block 0 with (fail)
  go_cut [4] (fun v wx => v = .int .i64 b ∧ w = wx)
  case first =>
    as_aux_lemma =>
      go_wp2
      go_loop [4] (fun v => ∃ k : Nat, k ≤ b ∧ v = .int .i64 k ∧ Hid (k + nWhile isBlank (s.data.toList.drop k) = b)) (fun v => b - (intOf v).toNat)
      case atStart => exact ⟨0, Nat.zero_le _, rfl, HB⟩
      case round =>
        obtain ⟨k, hk1, rfl, hK⟩ := hrel
        cases hq : blkAt s.data.toList k with
        | true =>
          have h1 := bW_on hq
          have h2 := hK.out
          have hkd : k < b := by omega
          have hK2 : Hid (k + 1 + nWhile isBlank (s.data.toList.drop (k + 1)) = b) := by unfold Hid; omega
          rcases blk_cases s k _ hq with ⟨hlt, hc⟩ | ⟨_, hc⟩
          · clear hq h1 h2
            go_wp2_with (go_at_call 27; refine (rblank_any _ _).mono ?_; rintro e w' ⟨rfl, rfl⟩)
            go_round
            case rel => exact ⟨k + 1, by omega, by go_num, hK2⟩
            case measure => simp [intOf]; omega
          · cases hc
        | false =>
          have h1 := bW_off hq
          have h2 := hK.out
          obtain rfl : k = b := by omega
          rcases blk_cases s k _ hq with ⟨hlt, hc⟩ | ⟨hlt, _⟩
          · clear hq h1 h2
            go_wp2_with (go_at_call 27; refine (rblank_any _ _).mono ?_; rintro e w' ⟨rfl, rfl⟩)
            go_meet
            exact ⟨rfl, rfl⟩
          · clear hq h1 h2
            go_wp2
            go_meet
            exact ⟨rfl, rfl⟩
  case rest =>
    obtain ⟨rfl, rfl⟩ := hcut
    go_upto_region 5 with (fail)
    go_cut [37] (fun v wx => ∃ c : Bool, v = .bool c ∧ Hid ((c = true ∧ a = b + 1) ∨ (c = false ∧ a = b)) ∧ w = wx)
    case first =>
      as_aux_lemma =>
        rcases HGS.out with ⟨h1, h2 | ⟨h2, h3⟩, rfl⟩ | ⟨h1 | ⟨h1, h2, h3⟩, rfl⟩
        · go_wp2
          go_meet
          exact ⟨true, rfl, by simp [Hid], rfl⟩
        · go_wp2
          go_meet
          exact ⟨true, rfl, by simp [Hid], rfl⟩
        · go_wp2
          go_meet
          exact ⟨false, rfl, by simp [Hid], rfl⟩
        · go_wp2
          go_meet
          exact ⟨false, rfl, by simp [Hid], rfl⟩
    case rest =>
      obtain ⟨c37, rfl, H37, rfl⟩ := hcut
      go_upto_if 37 with (fail)
      go_cut [4] (fun v wx => v = .int .i64 a ∧ w = wx)
      case first =>
        as_aux_lemma =>
          rcases H37.out with ⟨rfl, rfl⟩ | ⟨rfl, rfl⟩ <;>
          · go_wp2
            go_meet
            exact ⟨by go_num, rfl⟩
      case rest =>
        obtain ⟨rfl, rfl⟩ := hcut
        rcases HP.out with ⟨rfl, rfl, rfl⟩ | ⟨hlt, rfl, y, rfl, hC⟩
        · go_wp2_with (go_at_call 28; refine (HN.out _).mono ?_; rintro e w' ⟨rfl, rfl⟩)
          go_ret2
          exact ⟨rfl, Below.refl _ _⟩
        · have HC := Lib.hid hC
          clear hC
          go_wp2_with (first | (go_at_call 28; refine (HN.out _).mono ?_; rintro e w' ⟨rfl, rfl⟩) | (go_at_call 25; refine HC.out.mono ?_; rintro e w' ⟨v, rfl, hbel⟩) | (go_at_call 29; refine (clean_any _ _).mono ?_; rintro e w' ⟨rfl, rfl⟩))
          go_ret2
          exact ⟨rfl, hbel⟩

/-- Both, of any text: the same number. -/
theorem prefix_both (s : ByteArray) (hs : s.size ≤ 140737488351232) : ∃ x, x < 18446744073709551616 ∧
    (∀ w, LaidH w → Calls Tryz.prog 9 #[.string s] w fun e w' => e = .returned (.tuple #[.float .f64 x, .int .i64 (if numeralN (s.data.toList.drop (beginA s.data.toList)) = 0 then 0 else prefixE s.data.toList : Nat)]) ∧ Below w.heap.size w w') ∧
    (∀ w, LaidH w → Calls Tryz.prog 10 #[.string s] w fun e w' => e = .returned (.tuple #[.float .f64 x, .int .i64 (if numeralN (s.data.toList.drop (beginA s.data.toList)) = 0 then 0 else prefixE s.data.toList : Nat)]) ∧ Below w.heap.size w w') := by
  by_cases h0 : numeralN (s.data.toList.drop (beginA s.data.toList)) = 0
  · refine ⟨0, by omega, fun w _ => ?_, fun w _ => ?_⟩
    · rw [if_pos h0]
      exact (prefix_none s w (by unfold maxLen; omega) h0).mono fun e w' ⟨h1, h2⟩ => ⟨h1, h2 ▸ Below.refl _ _⟩
    · rw [if_pos h0]
      exact rprefix_of s w (by unfold maxLen; omega) 0 0 (.inl ⟨h0, rfl, rfl⟩)
  · have hE : (s.extract (beginS s.data.toList) (prefixE s.data.toList)).data.toList = (s.data.toList.drop (beginS s.data.toList)).take (prefixE s.data.toList - beginS s.data.toList) := Lib.extract_data _ _ _
    obtain ⟨x, hx, hP⟩ := parse_any (s.extract (beginS s.data.toList) (prefixE s.data.toList)) (by rw [ByteArray.size_extract]; omega) (by
      rw [hE]
      have := numeral_bytes s.data.toList (beginS s.data.toList)
      intro c hc
      refine this c ?_
      have e : prefixE s.data.toList - beginS s.data.toList = sgnN (s.data.toList.drop (beginS s.data.toList)) + numeralN (s.data.toList.drop (beginS s.data.toList + sgnN (s.data.toList.drop (beginS s.data.toList)))) := by
        unfold prefixE beginA; omega
      rwa [e] at hc)
    refine ⟨plainN x, ?_, fun w hL => ?_, fun w hL => ?_⟩
    · unfold plainN; split <;> omega
    · rw [if_neg h0]
      exact prefix_some s w x (by unfold maxLen; omega) h0 (hP w hL)
    · rw [if_neg h0]
      exact rprefix_of s w (by unfold maxLen; omega) _ _ (.inr ⟨h0, rfl, x, rfl, hP w hL⟩)

/-- The reference's Looks. -/
theorem rlooks_of (s : ByteArray) (w : World) (hs : s.size ≤ maxLen) (x : Nat)
    (hP : Calls Tryz.prog 10 #[.string s] w fun e w' => e = .returned (.tuple #[.float .f64 x, .int .i64 (if numeralN (s.data.toList.drop (beginA s.data.toList)) = 0 then 0 else prefixE s.data.toList : Nat)]) ∧ Below w.heap.size w w') :
    Calls Tryz.prog 14 #[.string s] w fun e w' => e = .returned (.bool (looksB s.data.toList)) ∧ Below w.heap.size w w' := by
  obtain ⟨n, hn⟩ : ∃ n, prefixE s.data.toList = n := ⟨_, rfl⟩
  have hal := (beginA_le s.data.toList).2
  have hle := numeralN_le (s.data.toList.drop (beginA s.data.toList))
  have hne : beginA s.data.toList + numeralN (s.data.toList.drop (beginA s.data.toList)) = n := hn
  simp only [List.length_drop] at hle
  have hsz : s.data.toList.length = s.size := rfl
  unfold maxLen at hs
  by_cases h0 : numeralN (s.data.toList.drop (beginA s.data.toList)) = 0
  · have hV : looksB s.data.toList = false := by unfold looksB; rw [if_pos h0]
    rw [hV]
    rw [if_pos h0] at hP
    have HP := Lib.hid hP
    clear hP h0 hn hal hle hne hsz hV
    go_enter Tryz.func14, Tryz.ntmps14
    go_wp2_with (go_at_call 10; refine HP.out.mono ?_; rintro e w' ⟨rfl, hb⟩)
    go_ret
    exact ⟨rfl, hb⟩
  · rw [if_neg h0, hn] at hP
    have hns : n ≤ s.size := by omega
    have hn0 : 0 < n := by omega
    have hn0b : ((n : Int) == 0) = false := beq_eq_false_iff_ne.2 (by omega)
    have HV : Hid (looksB s.data.toList = decide (n + nWhile isBlank (s.data.toList.drop n) = s.size)) := by unfold Hid looksB; rw [if_neg h0, hn]; rfl
    have HP := Lib.hid hP
    clear hP h0 hn hal hle hne hsz
    obtain ⟨b, hb⟩ : ∃ b, n + nWhile isBlank (s.data.toList.drop n) = b := ⟨_, rfl⟩
    have hbs : b ≤ s.size := by
      have := nWhile_le isBlank (s.data.toList.drop n)
      have e : s.data.toList.length = s.size := rfl
      simp only [List.length_drop] at this
      omega
    rw [hb] at HV
    have hnb : n ≤ b := by omega
    have HB := Lib.hid hb
    clear hb
    go_enter Tryz.func14, Tryz.ntmps14
    go_wp2_with (go_at_call 10; refine HP.out.mono ?_; rintro e w' ⟨rfl, hbel⟩)
    go_loop [5] (fun v => ∃ k : Nat, n ≤ k ∧ k ≤ b ∧ v = .int .i64 k ∧ Hid (k + nWhile isBlank (s.data.toList.drop k) = b)) (fun v => b - (intOf v).toNat)
    case atStart => exact ⟨n, Nat.le_refl _, hnb, rfl, HB⟩
    case round =>
      obtain ⟨k, hk0, hk1, rfl, hK⟩ := hrel
      cases hq : blkAt s.data.toList k with
      | true =>
        have h1 := bW_on hq
        have h2 := hK.out
        have hkd : k < b := by omega
        have hK2 : Hid (k + 1 + nWhile isBlank (s.data.toList.drop (k + 1)) = b) := by unfold Hid; omega
        rcases blk_cases s k _ hq with ⟨hlt, hc⟩ | ⟨_, hc⟩
        · clear hq h1 h2
          go_wp2_with (go_at_call 27; refine (rblank_any _ _).mono ?_; rintro e w' ⟨rfl, rfl⟩)
          go_round
          case rel => exact ⟨k + 1, by omega, by omega, by go_num, hK2⟩
          case measure => simp [intOf]; omega
        · cases hc
      | false =>
        have h1 := bW_off hq
        have h2 := hK.out
        obtain rfl : k = b := by omega
        rcases blk_cases s k _ hq with ⟨hlt, hc⟩ | ⟨hlt, _⟩
        · have HV2 : Hid (looksB s.data.toList = false) := by unfold Hid; rw [HV.out, decide_eq_false]; omega
          clear hq h1 h2
          go_wp2_with (go_at_call 27; refine (rblank_any _ _).mono ?_; rintro e w' ⟨rfl, rfl⟩)
          go_ret
          exact ⟨ret_bool HV2.out.symm, hbel⟩
        · have HV2 : Hid (looksB s.data.toList = true) := by unfold Hid; rw [HV.out, decide_eq_true]; omega
          clear hq h1 h2
          go_wp2
          go_ret
          exact ⟨ret_bool HV2.out.symm, hbel⟩

end Go.Proofs.YtjncgedjdmgpfaaGreatDoor
