/- Walks: num.begin, num.Prefix, token.number. -/
import Derived.Test.YtkedagbknflacaaDoorWh
import Derived.Test.YtkedagbknflacaaDoorWl
import Derived.Test.YtkedagbknflacaaDoorWe

namespace Go.Proofs.YtkedagbknflacaaDoor
open Go.RowKit

def beginS (l : List UInt8) : Nat := nWhile isBlank l
def beginA (l : List UInt8) : Nat := beginS l + sgnN (l.drop (beginS l))

set_option maxHeartbeats 800000 in
theorem begin_any (s : ByteArray) (w : World) (hs : s.size ≤ maxLen) : Calls Tryd.prog 32 #[.string s] w fun e w' => e = .returned (.tuple #[.int .i64 (beginS s.data.toList), .int .i64 (beginA s.data.toList)]) ∧ w = w' := by
  unfold maxLen at hs
  go_enter Tryd.func32, Tryd.ntmps32
  go_wp2
  go_loop [2] (fun n => ∃ k : Nat, k ≤ s.size ∧ n = .int .i64 k ∧ beginS s.data.toList = k + nWhile isBlank (s.data.toList.drop k)) (fun n => s.size - (intOf n).toNat)
  case atStart => exact ⟨0, by omega, rfl, by simp [beginS]⟩
  case round =>
    obtain ⟨k, hk, rfl, heq⟩ := hrel
    by_cases hc : ∃ h : k < s.size, isBlank s[k] = true
    · obtain ⟨hlt, hc⟩ := hc
      have HY := Lib.hid (nWhile_yes isBlank s.data.toList k (by simpa using hlt) hc)
      have HE := Lib.hid heq
      have hb : blankB s[k].toNat = true := hc
      clear hc heq
      go_wp2_with (go_at_call 37; refine (blank_any _ _).mono ?_; rintro e w' ⟨rfl, rfl⟩)
      go_round
      case rel => exact ⟨k + 1, by omega, by go_num, by rw [HE.out, HY.out]; omega⟩
      case measure => simp [intOf]; omega
    · have h0 : beginS s.data.toList = k := by
        have : nWhile isBlank (s.data.toList.drop k) = 0 := by
          by_cases hlt : k < s.size
          · exact nWhile_no _ _ _ (by simpa using hlt) (by cases hb : isBlank s[k] with | true => exact absurd ⟨hlt, hb⟩ hc | false => exact hb)
          · exact nWhile_end _ _ _ (by simpa using hlt)
        omega
      have HK := Lib.hid h0
      have hend : ¬ k < s.size ∨ (∃ h : k < s.size, blankB s[k].toNat = false) := by
        by_cases hlt : k < s.size
        · exact .inr ⟨hlt, by cases hb : isBlank s[k] with | true => exact absurd ⟨hlt, hb⟩ hc | false => exact hb⟩
        · exact .inl hlt
      clear hc heq h0
      rcases hend with hend | ⟨hlt, hb⟩
      · have HA : Hid (beginA s.data.toList = k) := by
          unfold Hid; rw [beginA, HK.out, sgnN, drop_head_end _ _ (by simpa using hend)]; simp
        go_wp2
        go_ret2
        rw [HK.out, HA.out]
        exact ⟨rfl, rfl⟩
      · have hkl : k < s.data.toList.length := by simpa using hlt
        by_cases h43 : s[k] = 43
        · have b1 : ((s[k].toNat : Int) == 43) = true := beq_t (d := 43) h43
          have HA : Hid (beginA s.data.toList = k + 1) := by
            unfold Hid; rw [beginA, HK.out, sgnN, drop_head _ _ hkl, if_pos (.inl (by rw [← byte_get s k hlt, h43]))]
          clear h43
          go_wp2_with (go_at_call 37; refine (blank_any _ _).mono ?_; rintro e w' ⟨rfl, rfl⟩)
          go_ret2
          rw [HK.out, HA.out]
          exact ⟨rfl, rfl⟩
        · have b1 : ((s[k].toNat : Int) == 43) = false := beq_f (d := 43) h43
          by_cases h45 : s[k] = 45
          · have b2 : ((s[k].toNat : Int) == 45) = true := beq_t (d := 45) h45
            have HA : Hid (beginA s.data.toList = k + 1) := by
              unfold Hid; rw [beginA, HK.out, sgnN, drop_head _ _ hkl, if_pos (.inr (by rw [← byte_get s k hlt, h45]))]
            clear h43 h45
            go_wp2_with (go_at_call 37; refine (blank_any _ _).mono ?_; rintro e w' ⟨rfl, rfl⟩)
            go_ret2
            rw [HK.out, HA.out]
            exact ⟨rfl, rfl⟩
          · have b2 : ((s[k].toNat : Int) == 45) = false := beq_f (d := 45) h45
            have HA : Hid (beginA s.data.toList = k) := by
              unfold Hid; rw [beginA, HK.out, sgnN, drop_head _ _ hkl, if_neg (fun e => e.elim (fun e => h43 (Option.some.inj e)) (fun e => h45 (Option.some.inj e)))]; rfl
            clear h43 h45
            go_wp2_with (go_at_call 37; refine (blank_any _ _).mono ?_; rintro e w' ⟨rfl, rfl⟩)
            go_ret2
            rw [HK.out, HA.out]
            exact ⟨rfl, rfl⟩

theorem beginS_le (l : List UInt8) : beginS l ≤ l.length := nWhile_le _ _
theorem beginA_le (l : List UInt8) : beginS l ≤ beginA l ∧ beginA l ≤ l.length := by
  have h1 := beginS_le l
  unfold beginA sgnN
  split
  · rename_i h
    rcases Nat.lt_or_ge (beginS l) l.length with h2 | h2
    · omega
    · rw [drop_head_end l _ h2] at h; simp at h
  · omega

/-- Where the numeral at the beginning ends. -/
def prefixE (l : List UInt8) : Nat := beginA l + numeralN (l.drop (beginA l))

set_option maxHeartbeats 800000 in
theorem prefix_none (s : ByteArray) (w : World) (hs : s.size ≤ maxLen) (h0 : numeralN (s.data.toList.drop (beginA s.data.toList)) = 0) :
    Calls Tryd.prog 28 #[.string s] w fun e w' => e = .returned (.tuple #[.float .f64 0, .int .i64 0]) ∧ w = w' := by
  obtain ⟨a, ha⟩ : ∃ a, beginA s.data.toList = a := ⟨_, rfl⟩
  have hal := (beginA_le s.data.toList).2
  rw [ha] at h0 hal
  have HB := Lib.hid (fun W => begin_any s W hs)
  rw [ha] at HB
  have HN : Hid (∀ W, Calls Tryd.prog 33 #[.string s, .int .i64 a] W fun e w' => e = .returned (.int .i64 a) ∧ W = w') := fun W => by
    have := numeral_any s a W hs (by simpa using hal)
    rwa [h0] at this
  clear h0 ha hal hs
  go_enter Tryd.func28, Tryd.ntmps28
  go_wp2_with (first | (go_at_call 32; refine (HB.out _).mono ?_; rintro e w' ⟨rfl, rfl⟩) | (go_at_call 33; refine (HN.out _).mono ?_; rintro e w' ⟨rfl, rfl⟩))
  go_ret2
  exact ⟨rfl, rfl⟩

set_option maxHeartbeats 800000 in
theorem prefix_some (s : ByteArray) (w : World) (x : Nat) (hs : s.size ≤ maxLen) (h0 : numeralN (s.data.toList.drop (beginA s.data.toList)) ≠ 0)
    (hP : Calls Tryd.prog 34 #[.string (s.extract (beginS s.data.toList) (prefixE s.data.toList)), .int .i64 64] w fun e w' => ∃ v, e = .returned (.tuple #[.float .f64 x, v]) ∧ Below w.heap.size w w') :
    Calls Tryd.prog 28 #[.string s] w fun e w' => e = .returned (.tuple #[.float .f64 (plainN x), .int .i64 (prefixE s.data.toList)]) ∧ Below w.heap.size w w' := by
  obtain ⟨a, ha⟩ : ∃ a, beginA s.data.toList = a := ⟨_, rfl⟩
  obtain ⟨b, hb⟩ : ∃ b, beginS s.data.toList = b := ⟨_, rfl⟩
  obtain ⟨n, hn⟩ : ∃ n, prefixE s.data.toList = n := ⟨_, rfl⟩
  have hal := beginA_le s.data.toList
  have hle := numeralN_le (s.data.toList.drop (beginA s.data.toList))
  have hne : beginA s.data.toList + numeralN (s.data.toList.drop (beginA s.data.toList)) = n := hn
  rw [ha, hb] at hal
  rw [ha] at h0 hle hne
  rw [hn, hb] at hP
  simp only [List.length_drop] at hle
  have hsz : s.data.toList.length = s.size := rfl
  have HB := Lib.hid (fun W => begin_any s W hs)
  rw [ha, hb] at HB
  have HN : Hid (∀ W, Calls Tryd.prog 33 #[.string s, .int .i64 a] W fun e w' => e = .returned (.int .i64 n) ∧ W = w') := fun W => by
    have := numeral_any s a W hs (by omega)
    rwa [hne] at this
  have HP := Lib.hid hP
  have h1 : b ≤ n := by omega
  have h2 : n ≤ s.size := by omega
  have h3 : ((n : Int) == a) = false := beq_eq_false_iff_ne.2 (by omega)
  rw [hn]
  unfold maxLen at hs
  clear h0 ha hal hb hn hne hle hsz hP
  go_enter Tryd.func28, Tryd.ntmps28
  go_wp2_with (first | (go_at_call 32; refine (HB.out _).mono ?_; rintro e w' ⟨rfl, rfl⟩) | (go_at_call 33; refine (HN.out _).mono ?_; rintro e w' ⟨rfl, rfl⟩) | (go_at_call 34; refine HP.out.mono ?_; rintro e w' ⟨v, rfl, hb⟩) | (go_at_call 35; refine (plain_any _ _).mono ?_; rintro e w' ⟨rfl, rfl⟩))
  go_ret2
  exact ⟨rfl, hb⟩

def numV (x : Nat) (t : List UInt8) (i e : Int) : Value := if infB x = true then .tuple #[tokV 0 [] 0 i 0, .int .i64 23] else .tuple #[tokV 2 t x i e, .int .i64 0]

set_option maxRecDepth 100000 in
set_option maxHeartbeats 1600000 in
theorem number_of (s : ByteArray) (i n x : Nat) (w : World) (hs : s.size ≤ maxLen) (hi : i + n ≤ s.size) (hx : x < 18446744073709551616)
    (hP : ∀ W, Below w.heap.size w W → Calls Tryd.prog 28 #[.string (s.extract i s.size)] W fun e w' => e = .returned (.tuple #[.float .f64 x, .int .i64 n]) ∧ Below W.heap.size W w') :
    Calls Tryd.prog 18 #[.string s, .int .i64 i] w fun e w' => e = .returned (numV x (inR s.data.toList i (i + n)) i (i + n : Nat)) ∧ Below w.heap.size w w' := by
  have HX : Hid ((⟨(inR s.data.toList i (i + n)).toArray⟩ : ByteArray) = s.extract i (i + n)) := by
    have : (s.extract i (i + n)).data.toList = inR s.data.toList i (i + n) := Lib.extract_data _ _ _
    unfold Hid; rw [← this]
  have HP := Lib.hid hP
  have HI := Lib.hid (fun W => isInf_any x hx W)
  unfold maxLen at hs
  clear hP hx
  cases hinf : infB x with
  | true =>
    have HV : Hid (numV x (inR s.data.toList i (i + n)) i (i + n : Nat) = .tuple #[tokV 0 [] 0 i 0, .int .i64 23]) := by unfold Hid; rw [numV, if_pos hinf]
    rw [hinf] at HI
    clear hinf
    go_enter Tryd.func18, Tryd.ntmps18
    go_wp2_with (first | (go_at_call 28; refine (HP.out _ ((Below.refl _ _).alloc (Nat.le_refl _) _)).mono ?_; rintro e w1 ⟨rfl, hb1⟩; have hb2 := hb1.mono (B' := w.heap.size + 1) (by simp)) | (go_at_call 29; refine (HI.out _).mono ?_; rintro e w' ⟨rfl, rfl⟩; obtain ⟨c0, c1, c2, c3, c4, f0, f1, f2, f3, f4⟩ := cells5 hb2))
    refine bodyPost_ret (v := .tuple #[tokV 0 [] 0 i 0, .int .i64 23]) (by simp [results, Tryd.results18, go_sem, tokV, c0, c1, c2, c3, c4]) rfl ⟨by rw [HV.out], below_set5 hb2 _ _ _ _ _⟩
  | false =>
    have HV : Hid (numV x (inR s.data.toList i (i + n)) i (i + n : Nat) = .tuple #[tokV 2 (inR s.data.toList i (i + n)) x i (i + n : Nat), .int .i64 0]) := by unfold Hid; rw [numV, if_neg (by simp [hinf])]
    rw [hinf] at HI
    clear hinf
    go_enter Tryd.func18, Tryd.ntmps18
    go_wp2_with (first | (go_at_call 28; refine (HP.out _ ((Below.refl _ _).alloc (Nat.le_refl _) _)).mono ?_; rintro e w1 ⟨rfl, hb1⟩; have hb2 := hb1.mono (B' := w.heap.size + 1) (by simp)) | (go_at_call 29; refine (HI.out _).mono ?_; rintro e w' ⟨rfl, rfl⟩; obtain ⟨c0, c1, c2, c3, c4, f0, f1, f2, f3, f4⟩ := cells5 hb2))
    refine bodyPost_ret (v := .tuple #[tokV 2 (inR s.data.toList i (i + n)) x i (i + n : Nat), .int .i64 0]) (by simp [results, Tryd.results18, go_sem, tokV, c0, c1, c2, c3, c4, HX.out]) rfl ⟨by rw [HV.out], below_set5 hb2 _ _ _ _ _⟩

end Go.Proofs.YtkedagbknflacaaDoor
