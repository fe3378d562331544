/- The walk of tailracelaw16.TokenWalks. -/
import Derived.Test.YtkedagbknflacaaDoorWz

namespace Go.Proofs.YtkedagbknflacaaDoor
open Go.RowKit

set_option maxRecDepth 100000 in
set_option maxHeartbeats 6400000 in
theorem walks_true (s : ByteArray) (ao : Option Addr) (n cap : Nat) (Z : Nat → Int) (near op : Bool) (w : World) (hs : s.size ≤ 9223372036854775807) (hn : n ≤ 9223372036854775807)
    (hl : n = 0 ∨ ∃ b o, ao = some ⟨b, o, none⟩ ∧ ∀ i, i < n → w.cell? ⟨b, o + i, none⟩ = some (.int .i64 (Z i))) (hL : LaidH w) :
    Calls Tryd.prog 4 #[.string s, .slice ao n cap, .bool near, .bool op] w fun e w' => e = .returned (.bool true) ∧ Below w.heap.size w w' := by
  have HW := Lib.hid (words_any w ao n cap Z hn hl)
  have HLL := Lib.hid hL
  have HK := Lib.hid (fun W h => known_true W h)
  clear hl hL
  go_enter Tryd.func4, Tryd.ntmps4
  go_upto_if 13 with fail
  go_cut [0] (fun u wx => ∃ t : ByteArray, u = .string t ∧ t.size ≤ 9223372036854775807 ∧ Below w.heap.size w wx)
  case first =>
    as_aux_lemma =>
      cases near with
      | true =>
        go_wp2_with (go_at_call 9; refine HW.out.mono ?_; rintro e w' ⟨t, rfl, ht, hb⟩)
        go_meet
        exact ⟨t, rfl, by omega, hb⟩
      | false =>
        go_wp2
        go_meet
        exact ⟨s, rfl, hs, Below.refl _ _⟩
  case rest =>
    obtain ⟨t, rfl, ht, hb0⟩ := hcut
    have HB0 := Lib.hid hb0
    clear hb0
    go_wp2
    have hS : (t.extract 0 (min (t.size : Int) 600).toNat).size ≤ 600 := by rw [ByteArray.size_extract]; omega
    generalize t.extract 0 (min (t.size : Int) 600).toNat = S at hS ⊢
    go_loopw [9, 10] (fun a i wr => ∃ k p : Nat, k ≤ p ∧ p ≤ S.size ∧ a = .int .i64 p ∧ i = .int .i64 k ∧ Below w.heap.size w wr) (fun _ i _ => S.size + 1 - (intOf i).toNat)
    case atStart => exact ⟨0, 0, by omega, by omega, rfl, rfl, HB0.out⟩
    case round =>
      obtain ⟨k, p, hk, hp, rfl, rfl, hb⟩ := hrel
      have HB := Lib.hid hb
      have hsz := hb.size
      obtain ⟨V, hV, hN⟩ := next_all S p op (by omega) hp
      have HLr : Hid (LaidH wr) := HLL.out.below hb
      have hNr := hN wr HLr.out
      obtain ⟨kd, tx, nm, f, tt, e0, rfl, hf, hc⟩ := hV
      unfold tokV at hNr
      have HN := Lib.hid hNr
      clear hN hNr hb
      have hlen : S.data.toList.length = S.size := rfl
      rw [hlen] at hc
      clear hlen
      rcases hc with ⟨he, hfl, rfl, rfl, rfl⟩ | ⟨rfl, rfl, rfl, htt⟩ | ⟨rfl, hkd, hft, htt⟩
      · have be : (e0 != 0) = true := by rw [bne_iff_ne]; exact he
        as_aux_lemma =>
          go_wp2_with (first | (go_at_call 7; refine HN.out.mono ?_; rintro e w1 ⟨rfl, hb1⟩) | (go_at_call 8; refine (HK.out _ ?l1).mono ?_; rotate_left; rintro e w2 ⟨rfl, hb2⟩; obtain ⟨c0, c1, c2, c3, c4, f0, f1, f2, f3, f4⟩ := cells5 (hb2.mono (B' := w1.heap.size + 1) (by simp))))
          case l1 => exact (HLr.out.lg.lt.le.lf.below hb1).below ((Below.refl _ _).alloc (Nat.le_refl _) _)
          go_ret
          refine ⟨ret_bool ?_, ?_⟩
          · simp
          · have h1 := hb1.size
            exact (HB.out.trans (hb1.mono hsz)).alloc (by omega) _ |>.trans (hb2.mono (by simp; omega))
      · subst htt
        have bk : ((0 : Int) == 0) = true := rfl
        as_aux_lemma =>
          go_wp2_with (first | (go_at_call 7; refine HN.out.mono ?_; rintro e w1 ⟨rfl, hb1⟩) | (go_at_call 8; refine (HK.out _ ?l1).mono ?_; rotate_left; rintro e w2 ⟨rfl, hb2⟩; obtain ⟨c0, c1, c2, c3, c4, f0, f1, f2, f3, f4⟩ := cells5 (hb2.mono (B' := w1.heap.size + 1) (by simp))))
          case l1 => exact (HLr.out.lg.lt.le.lf.below hb1).below ((Below.refl _ _).alloc (Nat.le_refl _) _)
          go_ret
          refine ⟨ret_bool ?_, ?_⟩
          · simp
          · have h1 := hb1.size
            exact (HB.out.trans (hb1.mono hsz)).alloc (by omega) _ |>.trans (hb2.mono (by simp; omega))
      · have bk : (kd == 0) = false := beq_eq_false_iff_ne.2 hkd
        have bt : ((tt : Int) == f) = false := beq_eq_false_iff_ne.2 (by omega)
        as_aux_lemma =>
          go_wp2_with (go_at_call 7; refine HN.out.mono ?_; rintro e w1 ⟨rfl, hb1⟩)
          go_roundw
          case rel =>
            have h1 := hb1.size
            exact ⟨k + 1, tt, by omega, htt, rfl, by go_num, (HB.out.trans (hb1.mono hsz)).alloc (by omega) _⟩
          case measure => simp [intOf]; omega

end Go.Proofs.YtkedagbknflacaaDoor
