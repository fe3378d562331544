/- The walk of tailracelaw16.TokenTexts. -/
import Derived.Test.YtkedagbknflacaaDoorWq
import Derived.Test.YtkedagbknflacaaDoorWy
import Derived.BigRegion

namespace Go.Proofs.YtkedagbknflacaaDoor
open Go.RowKit

theorem textV_oct (l : List UInt8) : textV (34 :: (octL l ++ [34, 120])) 0 = .tuple #[tokV 3 l 0 0 (4 * l.length + 2 : Nat), .int .i64 0] := by
  unfold textV
  dsimp only
  rw [close_oct, if_neg (by omega), Int.toNat_natCast, inR_oct, dec_oct]
  dsimp only
  have : ((4 * l.length + 1 : Nat) : Int) + 1 = (4 * l.length + 2 : Nat) := by omega
  rw [this]; rfl

theorem next_oct (s : ByteArray) (l : List UInt8) (w : World) (hs : s.data.toList = 34 :: (octL l ++ [34, 120])) (hl : l.length ≤ 300) :
    Calls Tryd.prog 7 #[.string s, .int .i64 0, .bool false] w fun e w' => e = .returned (.tuple #[tokV 3 l 0 0 (4 * l.length + 2 : Nat), .int .i64 0]) ∧ Below w.heap.size w w' := by
  have hsz : s.size = 4 * l.length + 3 := by
    have : s.data.toList.length = s.size := rfl
    rw [hs] at this; simp [octL_len] at this; omega
  have hK : skipK s.data.toList 0 = 0 := by rw [hs]; exact skip_oct _
  have h := next_any s 0 false w (.tuple #[tokV 0 [] 0 0 0, .int .i64 0]) 0 [] 0 0 0 0 rfl (by omega) (by omega) (fun hn W hb => by
    rw [hK, hs] at hn
    obtain ⟨h1, h2⟩ := hn
    rcases h2 with h2 | ⟨h2, _⟩
    · exact absurd h2 (by simp; decide)
    · exact absurd h2 (by simp))
  rw [hK, hs] at h
  have e : nextV (34 :: (octL l ++ [34, 120])) false (.tuple #[tokV 0 [] 0 0 0, .int .i64 0]) 0 = textV (34 :: (octL l ++ [34, 120])) 0 := by
    rw [nextV_at _ _ _ _ (by simp)]
    rw [if_neg (by simp), if_neg (by
      rintro (h | ⟨h, _⟩)
      · exact absurd h (by simp; decide)
      · exact absurd h (by simp)), if_neg (by simp; decide), if_pos (by simp)]
  rw [e, textV_oct] at h
  exact h

theorem ba_take (s : ByteArray) (k : Nat) (h : k < s.size) : s.data.toList.take (k + 1) = s.data.toList.take k ++ [s[k]] := by
  rw [List.take_succ_eq_append_getElem (by simpa using h)]; rfl

theorem conv4 (W : World) (x y z : Int) : Sem.run Tryd.prog (convert 22 9 (.slice (some ⟨W.heap.size, 0, none⟩) 4 4)) ((W.alloc (.cells #[.int .u8 92, .int .u8 x, .int .u8 y, .int .u8 z] 5)).drew)
    = .ok (.string ⟨#[92, UInt8.ofNat x.toNat, UInt8.ofNat y.toNat, UInt8.ofNat z.toNat]⟩) ((W.alloc (.cells #[.int .u8 92, .int .u8 x, .int .u8 y, .int .u8 z] 5)).drew) := by
  rw [run_convert_bytes_string _ 22 9 5 _ 4 4 Tryd.underlying22 Tryd.underlying5 Tryd.underlying9]
  have hl := run_loadCells_list (P := Tryd.prog) ((W.alloc (.cells #[.int .u8 92, .int .u8 x, .int .u8 y, .int .u8 z] 5)).drew) ⟨W.heap.size, 0, none⟩ ([92, x, y, z].map (Value.int .u8)) (fun j v hj => by
    have hj' : j < 4 := by
      have := (List.getElem?_eq_some_iff.1 hj).1
      simpa using this
    have hc : ((W.alloc (.cells #[.int .u8 92, .int .u8 x, .int .u8 y, .int .u8 z] 5)).drew).cell? (Addr.add ⟨W.heap.size, 0, none⟩ j) = (#[.int .u8 92, .int .u8 x, .int .u8 y, .int .u8 z] : Array Value)[j]? := by
      obtain rfl | rfl | rfl | rfl : j = 0 ∨ j = 1 ∨ j = 2 ∨ j = 3 := by omega
      all_goals go_simp
    rw [hc]
    simpa using hj)
  rw [run_bytesToString _ _ 4 4 [92, x, y, z] hl]
  rfl

theorem oct_step (T : List UInt8) (c : UInt8) : (⟨(T ++ octD c).toArray⟩ : ByteArray) = ⟨T.toArray⟩ ++ ⟨#[92, UInt8.ofNat ((48 + c.toNat / 64) % 256), 48 + UInt8.ofNat (c.toNat / 8 % 8), 48 + UInt8.ofNat (c.toNat % 8)]⟩ := by
  have hlt := c.toNat_lt
  have h1 : UInt8.ofNat ((48 + c.toNat / 64) % 256) = 48 + c / 64 := by
    apply UInt8.toNat_inj.1; rw [oct_d1, UInt8.toNat_ofNat']; omega
  have h2 : 48 + UInt8.ofNat (c.toNat / 8 % 8) = 48 + c / 8 % 8 := by
    apply UInt8.toNat_inj.1; rw [oct_d2, UInt8.toNat_add, UInt8.toNat_ofNat']; simp; omega
  have h3 : 48 + UInt8.ofNat (c.toNat % 8) = 48 + c % 8 := by
    apply UInt8.toNat_inj.1; rw [oct_d3, UInt8.toNat_add, UInt8.toNat_ofNat']; simp; omega
  rw [h1, h2, h3]
  apply ByteArray.ext
  simp [octD]

set_option maxRecDepth 100000 in
set_option maxHeartbeats 3200000 in
theorem texts_loop (s : ByteArray) (w : World) (hs : s.size ≤ 9223372036854775807) (HK : Hid (∀ W, Below w.heap.size w W → Calls Tryd.prog 8 #[] W fun e w' => e = .returned (.bool true) ∧ Below W.heap.size W w')) :
    Calls Tryd.prog 3 #[.string s] w fun e w' => e = .returned (.bool true) ∧ Below w.heap.size w w' := by
  go_enter Tryd.func3, Tryd.ntmps3
  go_wp2
  have hS : (s.extract 0 (min (s.size : Int) 300).toNat).size ≤ 300 := by rw [ByteArray.size_extract]; omega
  generalize s.extract 0 (min (s.size : Int) 300).toNat = S at hS ⊢
  go_loopw [3, 4] (fun t i wr => ∃ k : Nat, k ≤ S.size ∧ i = .int .i64 k ∧ t = .string ⟨(34 :: octL (S.data.toList.take k)).toArray⟩ ∧ Below w.heap.size w wr) (fun _ i _ => S.size - (intOf i).toNat)
  case atStart => exact ⟨0, by omega, rfl, rfl, Below.refl _ _⟩
  case round =>
    obtain ⟨k, hk, rfl, rfl, hb⟩ := hrel
    by_cases hlt : k < S.size
    · have HT := Lib.hid (ba_take S k hlt)
      have HB := Lib.hid hb
      have hTl : (34 :: octL (S.data.toList.take k)).length ≤ 4 * k + 1 := by simp [octL_len]; omega
      have HE := Lib.hid (oct_step (34 :: octL (S.data.toList.take k)) S[k])
      have HT2 : Hid (34 :: octL (S.data.toList.take (k + 1)) = (34 :: octL (S.data.toList.take k)) ++ octD S[k]) := by unfold Hid; rw [HT.out, octL_snoc]; rfl
      generalize (34 :: octL (S.data.toList.take k)) = T at hTl HE HT2 ⊢
      have hT : ¬ 9223372036854775807 < T.length + 4 := by omega
      clear HT
      have HC := conv4
      clear hb
      go_wp2
      go_region
      go_wp2
      go_roundw
      case rel =>
        refine ⟨k + 1, by omega, by go_num, ?_, ?_⟩
        · rw [HT2.out, HE.out]
        · have hb := HB.out
          exact (hb.alloc hb.size _).drew
      case measure => simp [intOf]; omega
    · have hk2 : k = S.size := by omega
      subst hk2
      have hTS : S.data.toList.take S.size = S.data.toList := List.take_of_length_le (Nat.le_refl _)
      have HSS : Hid ((⟨S.data.toList.toArray⟩ : ByteArray) = S) := rfl
      have hl0 : S.data.toList.length ≤ 300 := hS
      have hNX := (fun W => next_oct ⟨(34 :: (octL S.data.toList ++ [34, 120])).toArray⟩ S.data.toList W rfl hl0)
      unfold tokV at hNX
      have HNX := Lib.hid hNX
      clear hNX
      have HL : Hid ((34 :: octL S.data.toList).length = 4 * S.size + 1) := by unfold Hid; simp [octL_len]
      have HA : Hid ((⟨(34 :: octL S.data.toList).toArray⟩ ++ ⟨#[34, 120]⟩ : ByteArray) = ⟨(34 :: (octL S.data.toList ++ [34, 120])).toArray⟩) := by
        unfold Hid; apply ByteArray.ext; simp
      rw [hTS]
      have HB := Lib.hid hb
      clear hb hTS
      have hN : ¬ 9223372036854775807 < (octL S.data.toList).length + 1 + 2 := by rw [octL_len]; omega
      go_wp2_with (first | (go_at_call 7; rw [HA.out]; refine (HNX.out _).mono ?_; rintro e w1 ⟨rfl, hb1⟩) | (go_at_call 8; refine (HK.out _ ?below).mono ?_; rotate_left; rintro e w2 ⟨rfl, hb2⟩; obtain ⟨c0, c1, c2, c3, c4, f0, f1, f2, f3, f4⟩ := cells5 (hb2.mono (B' := w1.heap.size + 1) (by simp))))
      case below => exact (HB.out.trans (hb1.mono HB.out.size)).alloc (Nat.le_trans HB.out.size hb1.size) _
      go_ret
      refine ⟨ret_bool ?_, HB.out.trans ((((Below.refl _ _).trans (hb1.mono (Nat.le_refl _))).alloc hb1.size _).trans (hb2.mono (by have := hb1.size; simp; omega)) |>.mono HB.out.size)⟩
      rw [octL_len]
      refine beq_iff_eq.2 ?_
      simp; omega

theorem texts_true (s : ByteArray) (w : World) (hs : s.size ≤ 9223372036854775807) (hL : LaidF w) : Calls Tryd.prog 3 #[.string s] w fun e w' => e = .returned (.bool true) ∧ Below w.heap.size w w' :=
  texts_loop s w hs (Lib.hid fun W hb => known_true W (hL.below hb))

end Go.Proofs.YtkedagbknflacaaDoor
