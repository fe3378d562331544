/- FormPlain: the law. -/
import Derived.Test.YtdencljnbilchaaGreatDoorJp
import Derived.Test.YtdencljnbilchaaGreatDoorVk
import Derived.Deep.DeepCutAuto
import Derived.Deep.CutBlock

namespace Go.Proofs.YtdencljnbilchaaGreatDoor
open Go.RowKit

/-- A text without a percent sign, two of them behind it. -/
theorem plain_text (t : List UInt8) (h : ∀ c ∈ t, c ≠ 37) : formAll uintT (t ++ [37, 37]) [] = if 256 < t.length + 1 then ([], 2) else (t ++ [37], 0) := by
  have h2 := formT_plain uintT [] t [] ((t ++ [37, 37]).length + 1) h (by simp)
  rw [List.nil_append, List.length_nil] at h2
  rw [formAll_some h2, List.length_append]; rfl

def no37 (s : ByteArray) : Prop := ∀ c ∈ s.data.toList, c ≠ 37
theorem no37.empty : no37 ⟨#[]⟩ := by intro c h; simp at h
theorem no37.app {a b : ByteArray} (h : no37 a) (h2 : no37 b) : no37 (a ++ b) := by
  intro c hc
  rw [app_data, List.mem_append] at hc
  exact hc.elim (h c) (h2 c)
theorem no37.take {a : ByteArray} (h : no37 a) (i j : Nat) : no37 (a.extract i j) := by
  intro c hc
  rw [ex_list] at hc
  exact h c (List.mem_of_mem_drop (List.mem_of_mem_take hc))

set_option maxRecDepth 100000 in
set_option maxHeartbeats 2000000 in
theorem formPlain_true (s : ByteArray) (n : Int) (w : World) (hs : s.size ≤ 140737488351232) (hL : LaidJ w) : Calls Tryz.prog 7 #[.string s, .int .i64 n] w fun e w' => e = .returned (.bool true) ∧ Below w.heap.size w w' := by
  have HL := Lib.hid hL
  have HK := Lib.hid (fun W hW => known12_true W hW)
  obtain ⟨p, hp⟩ : ∃ p, pickN n 25 = p := ⟨_, rfl⟩
  have HPK : Hid (∀ W, Calls Tryz.prog 17 #[.int .i64 n, .int .i64 25] W fun e w' => e = .returned (.int .i64 p) ∧ W = w') := fun W => by
    have h := pick_any n 25 W (by omega) (by decide)
    rw [hp] at h; exact h
  have hp25 : p ≤ 24 := by have := pickN_lt n 25 (by omega); omega
  have hb0 := Below.refl w.heap.size w
  clear hL hp
  go_enter Tryz.func7, Tryz.ntmps7
  go_upto_block 0 with (fail)
  go_cut [5, 6] (fun t _ wx => ∃ T : ByteArray, t = .string T ∧ w = wx ∧ T.size ≤ 61 ∧ Hid (no37 T))
  case first =>
    as_aux_lemma =>
      go_wp2
      go_loop [5, 6] (fun t i => ∃ (T : ByteArray) (j : Nat), t = .string T ∧ i = .int .i64 j ∧ j ≤ s.size ∧ T.size ≤ 60 ∧ Hid (no37 T)) (fun _ i => s.size - (intOf i).toNat)
      case atStart => exact ⟨⟨#[]⟩, 0, rfl, rfl, by omega, by decide, no37.empty⟩
      case round =>
        obtain ⟨T, j, rfl, rfl, hj, hT, HT⟩ := hrel
        by_cases hjs : j < s.size
        · have hjl : j < s.data.toList.length := by simpa using hjs
          by_cases h37 : s[j] = 37
          · have b37 : ((s[j].toNat : Int) != 37) = false := bne_f (d := 37) h37
            clear h37
            go_wp2
            refine ⟨⟨T, j + 1, rfl, by go_num, by omega, hT, HT⟩, ?_⟩
            simp [intOf]; omega
          · have b37 : ((s[j].toNat : Int) != 37) = true := bne_t (d := 37) h37
            have hz : (s.extract j (j + 1)).size = 1 := by simp; omega
            have HT2 : Hid (no37 (T ++ s.extract j (j + 1))) := HT.out.app (by
              intro c hc
              rw [ex_list, drop_at _ _ hjl, Nat.add_sub_cancel_left] at hc
              simp at hc
              rw [hc]; exact h37)
            have hz2 : (T ++ s.extract j (j + 1)).size = T.size + 1 := by rw [ByteArray.size_append, hz]
            have HZ := Lib.hid hz2
            clear h37
            by_cases h60 : 60 < T.size + 1
            · have h60' : (60 : Int) < (T.size : Int) + 1 := by omega
              go_wp2
              go_meet
              exact ⟨_, rfl, rfl, by rw [HZ.out]; omega, HT2⟩
            · have h60' : ¬ (60 : Int) < (T.size : Int) + 1 := by omega
              go_wp2
              refine ⟨⟨_, j + 1, rfl, by go_num, by omega, by rw [HZ.out]; omega, HT2⟩, ?_⟩
              simp [intOf]; omega
        · go_wp2
          go_meet
          exact ⟨T, rfl, rfl, by omega, HT⟩
  case rest =>
    obtain ⟨T, rfl, rfl, hT, HT⟩ := hcut
    go_wp2_with (go_at_call 17; refine (HPK.out _).mono ?_; rintro e w' ⟨rfl, rfl⟩)
    go_loop [5, 7] (fun t i => ∃ (T : ByteArray) (j : Nat), t = .string T ∧ i = .int .i64 j ∧ j ≤ 24 ∧ T.size ≤ 61 + 60 * (24 - j) ∧ Hid (no37 T)) (fun _ i => (intOf i).toNat)
    case atStart => exact ⟨T, p, rfl, rfl, hp25, by omega, HT⟩
    case round =>
      obtain ⟨T, j, rfl, rfl, hj, hT, HT⟩ := hrel
      by_cases hj0 : 0 < j
      · by_cases h60 : T.size ≤ 60
        · have hz : (T ++ T.extract 0 T.size).size = T.size + T.size := by rw [ByteArray.size_append]; simp
          have HZ := Lib.hid hz
          have HT2 := Lib.hid (HT.out.app (HT.out.take 0 T.size))
          have HMN : Hid ((min (T.size : Int) 60).toNat = T.size) := by unfold Hid; omega
          go_wp2
          rw [HMN.out]
          refine ⟨⟨_, j - 1, rfl, congrArg (Value.int .i64) (by omega), by omega, by rw [HZ.out]; omega, HT2⟩, ?_⟩
          simp [intOf]; omega
        · have hz : (T ++ T.extract 0 60).size = T.size + 60 := by rw [ByteArray.size_append]; simp; omega
          have HZ := Lib.hid hz
          have HT2 := Lib.hid (HT.out.app (HT.out.take 0 60))
          have HMN : Hid ((min (T.size : Int) 60).toNat = 60) := by unfold Hid; omega
          go_wp2
          rw [HMN.out]
          refine ⟨⟨_, j - 1, rfl, congrArg (Value.int .i64) (by omega), by omega, by rw [HZ.out]; omega, HT2⟩, ?_⟩
          simp [intOf]; omega
      · have hl : (ByteArray.data (T ++ ⟨#[37, 37]⟩)).toList = T.data.toList ++ [37, 37] := by rw [app_data]
        have hfm := plain_text T.data.toList HT.out
        have hz : T.size = T.data.toList.length := rfl
        have HKB := HK
        by_cases hlen : 256 ≤ T.size
        · have HF : Hid (∀ W, LaidJ W → Calls Tryz.prog 12 #[.string (T ++ ⟨#[37, 37]⟩), .slice none 0 0] W fun e w' => e = .returned (.tuple #[.string ⟨#[]⟩, .int .i64 43]) ∧ Below W.heap.size W w') := fun W hW =>
            pformat_nil _ ([], 2) (by rw [hl, hfm, if_pos (by omega)]) (by rw [ByteArray.size_append]; show T.size + 2 ≤ _; omega) W hW
          clear hl hfm hz
          go_wp2_with (first
            | (go_at_call 12; refine (HF.out _ (HL.out.below hb0)).mono ?_; rintro e w1 ⟨rfl, hb1⟩; have hb0 := hb0.trans (hb1.mono hb0.size))
            | (go_at_call 14; refine (HKB.out _ (HL.out.below hb0)).mono ?_; rintro e w1 ⟨rfl, hb1⟩; have hb0 := hb0.trans (hb1.mono hb0.size)))
          go_ret
          exact ⟨rfl, hb0⟩
        · have HF : Hid (∀ W, LaidJ W → Calls Tryz.prog 12 #[.string (T ++ ⟨#[37, 37]⟩), .slice none 0 0] W fun e w' => e = .returned (.tuple #[.string (T ++ ⟨#[37]⟩), .int .i64 0]) ∧ Below W.heap.size W w') := fun W hW => by
            have h := pformat_nil (T ++ ⟨#[37, 37]⟩) (T.data.toList ++ [37], 0) (by rw [hl, hfm, if_neg (by omega)]) (by rw [ByteArray.size_append]; show T.size + 2 ≤ _; omega) W hW
            have e : (⟨(T.data.toList ++ [37]).toArray⟩ : ByteArray) = T ++ ⟨#[37]⟩ := (ba_of _ _ (by rw [app_data])).symm
            rw [← e]; exact h
          clear hl hfm hz
          go_wp2_with (first
            | (go_at_call 12; refine (HF.out _ (HL.out.below hb0)).mono ?_; rintro e w1 ⟨rfl, hb1⟩; have hb0 := hb0.trans (hb1.mono hb0.size))
            | (go_at_call 14; refine (HKB.out _ (HL.out.below hb0)).mono ?_; rintro e w1 ⟨rfl, hb1⟩; have hb0 := hb0.trans (hb1.mono hb0.size)))
          go_ret
          exact ⟨rfl, hb0⟩

end Go.Proofs.YtdencljnbilchaaGreatDoor
