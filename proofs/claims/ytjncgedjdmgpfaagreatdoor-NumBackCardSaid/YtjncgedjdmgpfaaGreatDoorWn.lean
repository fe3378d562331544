/- Walks: num.begin, num.Prefix, token.number. Blanks, place by place. -/
import Derived.Test.YtjncgedjdmgpfaaGreatDoorWh
import Derived.Test.YtjncgedjdmgpfaaGreatDoorWl

namespace Go.Proofs.YtjncgedjdmgpfaaGreatDoor
open Go.RowKit

def beginS (l : List UInt8) : Nat := nWhile isBlank l
def beginA (l : List UInt8) : Nat := beginS l + sgnN (l.drop (beginS l))

set_option maxHeartbeats 800000 in
theorem begin_any (s : ByteArray) (w : World) (hs : s.size ≤ maxLen) : Calls Tryz.prog 23 #[.string s] w fun e w' => e = .returned (.tuple #[.int .i64 (beginS s.data.toList), .int .i64 (beginA s.data.toList)]) ∧ w = w' := by
  unfold maxLen at hs
  go_enter Tryz.func23, Tryz.ntmps23
  go_wp2
  go_loop [2] (fun n => ∃ k : Nat, k ≤ s.size ∧ n = .int .i64 k ∧ beginS s.data.toList = k + nWhile isBlank (s.data.toList.drop k)) (fun n => s.size - (intOf n).toNat)
  case atStart => exact ⟨0, by omega, rfl, by simp [beginS]⟩
  case round =>
    obtain ⟨k, hk, rfl, heq⟩ := hrel
    by_cases hc : ∃ h : k < s.size, isBlank s[k] = true
    · obtain ⟨hlt, hc⟩ := hc
      have HY := Lib.hid (nWhile_yes isBlank s.data.toList k (by simpa using hlt) hc)
      have HE := Lib.hid heq
      have hb : blankB s[k].toNat = true := hc
      clear hc heq
      go_wp2_with (go_at_call 31; refine (blank_any _ _).mono ?_; rintro e w' ⟨rfl, rfl⟩)
      go_round
      case rel => exact ⟨k + 1, by omega, by go_num, by rw [HE.out, HY.out]; omega⟩
      case measure => simp [intOf]; omega
    · have h0 : beginS s.data.toList = k := by
        have : nWhile isBlank (s.data.toList.drop k) = 0 := by
          by_cases hlt : k < s.size
          · exact nWhile_no _ _ _ (by simpa using hlt) (by cases hb : isBlank s[k] with | true => exact absurd ⟨hlt, hb⟩ hc | false => exact hb)
          · exact nWhile_end _ _ _ (by simpa using hlt)
        omega
      have HK := Lib.hid h0
      have hend : ¬ k < s.size ∨ (∃ h : k < s.size, blankB s[k].toNat = false) := by
        by_cases hlt : k < s.size
        · exact .inr ⟨hlt, by cases hb : isBlank s[k] with | true => exact absurd ⟨hlt, hb⟩ hc | false => exact hb⟩
        · exact .inl hlt
      clear hc heq h0
      rcases hend with hend | ⟨hlt, hb⟩
      · have HA : Hid (beginA s.data.toList = k) := by
          unfold Hid; rw [beginA, HK.out, sgnN, drop_head_end _ _ (by simpa using hend)]; simp
        go_wp2
        go_ret2
        rw [HK.out, HA.out]
        exact ⟨rfl, rfl⟩
      · have hkl : k < s.data.toList.length := by simpa using hlt
        by_cases h43 : s[k] = 43
        · have b1 : ((s[k].toNat : Int) == 43) = true := beq_t (d := 43) h43
          have HA : Hid (beginA s.data.toList = k + 1) := by
            unfold Hid; rw [beginA, HK.out, sgnN, drop_head _ _ hkl, if_pos (.inl (by rw [← byte_get s k hlt, h43]))]
          clear h43
          go_wp2_with (go_at_call 31; refine (blank_any _ _).mono ?_; rintro e w' ⟨rfl, rfl⟩)
          go_ret2
          rw [HK.out, HA.out]
          exact ⟨rfl, rfl⟩
        · have b1 : ((s[k].toNat : Int) == 43) = false := beq_f (d := 43) h43
          by_cases h45 : s[k] = 45
          · have b2 : ((s[k].toNat : Int) == 45) = true := beq_t (d := 45) h45
            have HA : Hid (beginA s.data.toList = k + 1) := by
              unfold Hid; rw [beginA, HK.out, sgnN, drop_head _ _ hkl, if_pos (.inr (by rw [← byte_get s k hlt, h45]))]
            clear h43 h45
            go_wp2_with (go_at_call 31; refine (blank_any _ _).mono ?_; rintro e w' ⟨rfl, rfl⟩)
            go_ret2
            rw [HK.out, HA.out]
            exact ⟨rfl, rfl⟩
          · have b2 : ((s[k].toNat : Int) == 45) = false := beq_f (d := 45) h45
            have HA : Hid (beginA s.data.toList = k) := by
              unfold Hid; rw [beginA, HK.out, sgnN, drop_head _ _ hkl, if_neg (fun e => e.elim (fun e => h43 (Option.some.inj e)) (fun e => h45 (Option.some.inj e)))]; rfl
            clear h43 h45
            go_wp2_with (go_at_call 31; refine (blank_any _ _).mono ?_; rintro e w' ⟨rfl, rfl⟩)
            go_ret2
            rw [HK.out, HA.out]
            exact ⟨rfl, rfl⟩

theorem beginS_le (l : List UInt8) : beginS l ≤ l.length := nWhile_le _ _
theorem beginA_le (l : List UInt8) : beginS l ≤ beginA l ∧ beginA l ≤ l.length := by
  have h1 := beginS_le l
  unfold beginA sgnN
  split
  · rename_i h
    rcases Nat.lt_or_ge (beginS l) l.length with h2 | h2
    · omega
    · rw [drop_head_end l _ h2] at h; simp at h
  · omega

/-- Where the numeral at the beginning ends. -/
def prefixE (l : List UInt8) : Nat := beginA l + numeralN (l.drop (beginA l))

set_option maxHeartbeats 800000 in
theorem prefix_none (s : ByteArray) (w : World) (hs : s.size ≤ maxLen) (h0 : numeralN (s.data.toList.drop (beginA s.data.toList)) = 0) :
    Calls Tryz.prog 9 #[.string s] w fun e w' => e = .returned (.tuple #[.float .f64 0, .int .i64 0]) ∧ w = w' := by
  obtain ⟨a, ha⟩ : ∃ a, beginA s.data.toList = a := ⟨_, rfl⟩
  have hal := (beginA_le s.data.toList).2
  rw [ha] at h0 hal
  have HB := Lib.hid (fun W => begin_any s W hs)
  rw [ha] at HB
  have HN : Hid (∀ W, Calls Tryz.prog 24 #[.string s, .int .i64 a] W fun e w' => e = .returned (.int .i64 a) ∧ W = w') := fun W => by
    have := numeral_any s a W hs (by simpa using hal)
    rwa [h0] at this
  clear h0 ha hal hs
  go_enter Tryz.func9, Tryz.ntmps9
  go_wp2_with (first | (go_at_call 23; refine (HB.out _).mono ?_; rintro e w' ⟨rfl, rfl⟩) | (go_at_call 24; refine (HN.out _).mono ?_; rintro e w' ⟨rfl, rfl⟩))
  go_ret2
  exact ⟨rfl, rfl⟩

set_option maxHeartbeats 800000 in
theorem prefix_some (s : ByteArray) (w : World) (x : Nat) (hs : s.size ≤ maxLen) (h0 : numeralN (s.data.toList.drop (beginA s.data.toList)) ≠ 0)
    (hP : Calls Tryz.prog 25 #[.string (s.extract (beginS s.data.toList) (prefixE s.data.toList)), .int .i64 64] w fun e w' => ∃ v, e = .returned (.tuple #[.float .f64 x, v]) ∧ Below w.heap.size w w') :
    Calls Tryz.prog 9 #[.string s] w fun e w' => e = .returned (.tuple #[.float .f64 (plainN x), .int .i64 (prefixE s.data.toList)]) ∧ Below w.heap.size w w' := by
  obtain ⟨a, ha⟩ : ∃ a, beginA s.data.toList = a := ⟨_, rfl⟩
  obtain ⟨b, hb⟩ : ∃ b, beginS s.data.toList = b := ⟨_, rfl⟩
  obtain ⟨n, hn⟩ : ∃ n, prefixE s.data.toList = n := ⟨_, rfl⟩
  have hal := beginA_le s.data.toList
  have hle := numeralN_le (s.data.toList.drop (beginA s.data.toList))
  have hne : beginA s.data.toList + numeralN (s.data.toList.drop (beginA s.data.toList)) = n := hn
  rw [ha, hb] at hal
  rw [ha] at h0 hle hne
  rw [hn, hb] at hP
  simp only [List.length_drop] at hle
  have hsz : s.data.toList.length = s.size := rfl
  have HB := Lib.hid (fun W => begin_any s W hs)
  rw [ha, hb] at HB
  have HN : Hid (∀ W, Calls Tryz.prog 24 #[.string s, .int .i64 a] W fun e w' => e = .returned (.int .i64 n) ∧ W = w') := fun W => by
    have := numeral_any s a W hs (by omega)
    rwa [hne] at this
  have HP := Lib.hid hP
  have h1 : b ≤ n := by omega
  have h2 : n ≤ s.size := by omega
  have h3 : ((n : Int) == a) = false := beq_eq_false_iff_ne.2 (by omega)
  rw [hn]
  unfold maxLen at hs
  clear h0 ha hal hb hn hne hle hsz hP
  go_enter Tryz.func9, Tryz.ntmps9
  go_wp2_with (first | (go_at_call 23; refine (HB.out _).mono ?_; rintro e w' ⟨rfl, rfl⟩) | (go_at_call 24; refine (HN.out _).mono ?_; rintro e w' ⟨rfl, rfl⟩) | (go_at_call 25; refine HP.out.mono ?_; rintro e w' ⟨v, rfl, hb⟩) | (go_at_call 26; refine (plain_any _ _).mono ?_; rintro e w' ⟨rfl, rfl⟩))
  go_ret2
  exact ⟨rfl, hb⟩

end Go.Proofs.YtjncgedjdmgpfaaGreatDoor

namespace Go.Proofs.YtjncgedjdmgpfaaGreatDoor
open Go.RowKit

def blkAt (l : List UInt8) (k : Nat) : Bool := match l[k]? with | some c => isBlank c | none => false
theorem blkAt_lt {l : List UInt8} {k : Nat} (h : blkAt l k = true) : k < l.length := by
  rcases Nat.lt_or_ge k l.length with h1 | h1
  · exact h1
  · unfold blkAt at h; rw [List.getElem?_eq_none h1] at h; cases h
theorem blkAt_in {l : List UInt8} {k : Nat} (h : k < l.length) : blkAt l k = isBlank l[k] := by unfold blkAt; rw [List.getElem?_eq_getElem h]
theorem bW_on {l : List UInt8} {k : Nat} (h : blkAt l k = true) : nWhile isBlank (l.drop k) = nWhile isBlank (l.drop (k + 1)) + 1 :=
  nWhile_yes isBlank l k (blkAt_lt h) (by rw [← blkAt_in (blkAt_lt h)]; exact h)
theorem bW_off {l : List UInt8} {k : Nat} (h : blkAt l k = false) : nWhile isBlank (l.drop k) = 0 := by
  rcases Nat.lt_or_ge k l.length with h1 | h1
  · exact nWhile_no _ _ _ h1 (by rw [← blkAt_in h1]; exact h)
  · exact nWhile_end _ _ _ h1
theorem blk_cases (s : ByteArray) (k : Nat) (c : Bool) (h : blkAt s.data.toList k = c) : (∃ h : k < s.size, blankB (s[k].toNat : Int) = c) ∨ (¬ k < s.size ∧ c = false) := by
  by_cases hk : k < s.size
  · left
    refine ⟨hk, ?_⟩
    rw [blkAt_in (by simpa using hk)] at h
    exact h
  · right
    refine ⟨hk, ?_⟩
    rw [← h]; unfold blkAt; rw [List.getElem?_eq_none (by simpa using hk)]

end Go.Proofs.YtjncgedjdmgpfaaGreatDoor
