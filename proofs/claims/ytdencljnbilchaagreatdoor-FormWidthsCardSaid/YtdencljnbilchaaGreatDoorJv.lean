/- FormWidths: the law. -/
import Derived.Test.YtdencljnbilchaaGreatDoorJs

namespace Go.Proofs.YtdencljnbilchaaGreatDoor
open Go.RowKit

/-- A width's digits, and what follows. -/
theorem wd_d : ∀ (w : Nat), w < 60 → ∀ A : List FArg, readT (37 :: ((decN w ++ [100]))) 1 A = some (⟨false, false, false, decide (w = 0), w, -1, 100⟩, (decN w).length + 2, A)
  | 0, _, _ => by kernel_rfl
  | 1, _, _ => by kernel_rfl
  | 2, _, _ => by kernel_rfl
  | 3, _, _ => by kernel_rfl
  | 4, _, _ => by kernel_rfl
  | 5, _, _ => by kernel_rfl
  | 6, _, _ => by kernel_rfl
  | 7, _, _ => by kernel_rfl
  | 8, _, _ => by kernel_rfl
  | 9, _, _ => by kernel_rfl
  | 10, _, _ => by kernel_rfl
  | 11, _, _ => by kernel_rfl
  | 12, _, _ => by kernel_rfl
  | 13, _, _ => by kernel_rfl
  | 14, _, _ => by kernel_rfl
  | 15, _, _ => by kernel_rfl
  | 16, _, _ => by kernel_rfl
  | 17, _, _ => by kernel_rfl
  | 18, _, _ => by kernel_rfl
  | 19, _, _ => by kernel_rfl
  | 20, _, _ => by kernel_rfl
  | 21, _, _ => by kernel_rfl
  | 22, _, _ => by kernel_rfl
  | 23, _, _ => by kernel_rfl
  | 24, _, _ => by kernel_rfl
  | 25, _, _ => by kernel_rfl
  | 26, _, _ => by kernel_rfl
  | 27, _, _ => by kernel_rfl
  | 28, _, _ => by kernel_rfl
  | 29, _, _ => by kernel_rfl
  | 30, _, _ => by kernel_rfl
  | 31, _, _ => by kernel_rfl
  | 32, _, _ => by kernel_rfl
  | 33, _, _ => by kernel_rfl
  | 34, _, _ => by kernel_rfl
  | 35, _, _ => by kernel_rfl
  | 36, _, _ => by kernel_rfl
  | 37, _, _ => by kernel_rfl
  | 38, _, _ => by kernel_rfl
  | 39, _, _ => by kernel_rfl
  | 40, _, _ => by kernel_rfl
  | 41, _, _ => by kernel_rfl
  | 42, _, _ => by kernel_rfl
  | 43, _, _ => by kernel_rfl
  | 44, _, _ => by kernel_rfl
  | 45, _, _ => by kernel_rfl
  | 46, _, _ => by kernel_rfl
  | 47, _, _ => by kernel_rfl
  | 48, _, _ => by kernel_rfl
  | 49, _, _ => by kernel_rfl
  | 50, _, _ => by kernel_rfl
  | 51, _, _ => by kernel_rfl
  | 52, _, _ => by kernel_rfl
  | 53, _, _ => by kernel_rfl
  | 54, _, _ => by kernel_rfl
  | 55, _, _ => by kernel_rfl
  | 56, _, _ => by kernel_rfl
  | 57, _, _ => by kernel_rfl
  | 58, _, _ => by kernel_rfl
  | 59, _, _ => by kernel_rfl
  | n + 60, h, _ => absurd h (by omega)
theorem wd_m : ∀ (w : Nat), w < 60 → ∀ A : List FArg, readT (37 :: (45 :: (decN w ++ [100]))) 1 A = some (⟨true, false, false, decide (w = 0), w, -1, 100⟩, (decN w).length + 3, A)
  | 0, _, _ => by kernel_rfl
  | 1, _, _ => by kernel_rfl
  | 2, _, _ => by kernel_rfl
  | 3, _, _ => by kernel_rfl
  | 4, _, _ => by kernel_rfl
  | 5, _, _ => by kernel_rfl
  | 6, _, _ => by kernel_rfl
  | 7, _, _ => by kernel_rfl
  | 8, _, _ => by kernel_rfl
  | 9, _, _ => by kernel_rfl
  | 10, _, _ => by kernel_rfl
  | 11, _, _ => by kernel_rfl
  | 12, _, _ => by kernel_rfl
  | 13, _, _ => by kernel_rfl
  | 14, _, _ => by kernel_rfl
  | 15, _, _ => by kernel_rfl
  | 16, _, _ => by kernel_rfl
  | 17, _, _ => by kernel_rfl
  | 18, _, _ => by kernel_rfl
  | 19, _, _ => by kernel_rfl
  | 20, _, _ => by kernel_rfl
  | 21, _, _ => by kernel_rfl
  | 22, _, _ => by kernel_rfl
  | 23, _, _ => by kernel_rfl
  | 24, _, _ => by kernel_rfl
  | 25, _, _ => by kernel_rfl
  | 26, _, _ => by kernel_rfl
  | 27, _, _ => by kernel_rfl
  | 28, _, _ => by kernel_rfl
  | 29, _, _ => by kernel_rfl
  | 30, _, _ => by kernel_rfl
  | 31, _, _ => by kernel_rfl
  | 32, _, _ => by kernel_rfl
  | 33, _, _ => by kernel_rfl
  | 34, _, _ => by kernel_rfl
  | 35, _, _ => by kernel_rfl
  | 36, _, _ => by kernel_rfl
  | 37, _, _ => by kernel_rfl
  | 38, _, _ => by kernel_rfl
  | 39, _, _ => by kernel_rfl
  | 40, _, _ => by kernel_rfl
  | 41, _, _ => by kernel_rfl
  | 42, _, _ => by kernel_rfl
  | 43, _, _ => by kernel_rfl
  | 44, _, _ => by kernel_rfl
  | 45, _, _ => by kernel_rfl
  | 46, _, _ => by kernel_rfl
  | 47, _, _ => by kernel_rfl
  | 48, _, _ => by kernel_rfl
  | 49, _, _ => by kernel_rfl
  | 50, _, _ => by kernel_rfl
  | 51, _, _ => by kernel_rfl
  | 52, _, _ => by kernel_rfl
  | 53, _, _ => by kernel_rfl
  | 54, _, _ => by kernel_rfl
  | 55, _, _ => by kernel_rfl
  | 56, _, _ => by kernel_rfl
  | 57, _, _ => by kernel_rfl
  | 58, _, _ => by kernel_rfl
  | 59, _, _ => by kernel_rfl
  | n + 60, h, _ => absurd h (by omega)
theorem wd_s : ∀ (w : Nat), w < 60 → ∀ A : List FArg, readT (37 :: ((decN w ++ [115]))) 1 A = some (⟨false, false, false, decide (w = 0), w, -1, 115⟩, (decN w).length + 2, A)
  | 0, _, _ => by kernel_rfl
  | 1, _, _ => by kernel_rfl
  | 2, _, _ => by kernel_rfl
  | 3, _, _ => by kernel_rfl
  | 4, _, _ => by kernel_rfl
  | 5, _, _ => by kernel_rfl
  | 6, _, _ => by kernel_rfl
  | 7, _, _ => by kernel_rfl
  | 8, _, _ => by kernel_rfl
  | 9, _, _ => by kernel_rfl
  | 10, _, _ => by kernel_rfl
  | 11, _, _ => by kernel_rfl
  | 12, _, _ => by kernel_rfl
  | 13, _, _ => by kernel_rfl
  | 14, _, _ => by kernel_rfl
  | 15, _, _ => by kernel_rfl
  | 16, _, _ => by kernel_rfl
  | 17, _, _ => by kernel_rfl
  | 18, _, _ => by kernel_rfl
  | 19, _, _ => by kernel_rfl
  | 20, _, _ => by kernel_rfl
  | 21, _, _ => by kernel_rfl
  | 22, _, _ => by kernel_rfl
  | 23, _, _ => by kernel_rfl
  | 24, _, _ => by kernel_rfl
  | 25, _, _ => by kernel_rfl
  | 26, _, _ => by kernel_rfl
  | 27, _, _ => by kernel_rfl
  | 28, _, _ => by kernel_rfl
  | 29, _, _ => by kernel_rfl
  | 30, _, _ => by kernel_rfl
  | 31, _, _ => by kernel_rfl
  | 32, _, _ => by kernel_rfl
  | 33, _, _ => by kernel_rfl
  | 34, _, _ => by kernel_rfl
  | 35, _, _ => by kernel_rfl
  | 36, _, _ => by kernel_rfl
  | 37, _, _ => by kernel_rfl
  | 38, _, _ => by kernel_rfl
  | 39, _, _ => by kernel_rfl
  | 40, _, _ => by kernel_rfl
  | 41, _, _ => by kernel_rfl
  | 42, _, _ => by kernel_rfl
  | 43, _, _ => by kernel_rfl
  | 44, _, _ => by kernel_rfl
  | 45, _, _ => by kernel_rfl
  | 46, _, _ => by kernel_rfl
  | 47, _, _ => by kernel_rfl
  | 48, _, _ => by kernel_rfl
  | 49, _, _ => by kernel_rfl
  | 50, _, _ => by kernel_rfl
  | 51, _, _ => by kernel_rfl
  | 52, _, _ => by kernel_rfl
  | 53, _, _ => by kernel_rfl
  | 54, _, _ => by kernel_rfl
  | 55, _, _ => by kernel_rfl
  | 56, _, _ => by kernel_rfl
  | 57, _, _ => by kernel_rfl
  | 58, _, _ => by kernel_rfl
  | 59, _, _ => by kernel_rfl
  | n + 60, h, _ => absurd h (by omega)

/-- A format of one conversion. -/
theorem one_conv {l : List UInt8} {cv : FConv} {a : FArg} (h0 : l[0]? = some 37) (h1 : l[1]? ≠ some 37) (hr : readT l 1 [a] = some (cv, l.length, [a])) (hl : (tellT uintT cv a).length ≤ 256) : formAll uintT l [a] = (tellT uintT cv a, 0) := by
  have hlt : 0 < l.length := (List.getElem?_eq_some_iff.1 h0).1
  have h := (FormR.start uintT l [a]).conv h0 h1 hr hlt (Nat.le_refl _)
  have h2 := h.done (Nat.le_refl _)
  rw [formAll_some h2]
  show (if 256 < ([] ++ tellT uintT cv (argH [a])).length then _ else _) = _
  rw [List.nil_append, if_neg (by show ¬ 256 < (tellT uintT cv a).length; omega)]; rfl

theorem tell_d {x w : Nat} {z lf : Bool} {D : List UInt8} {neg : Bool} (hb : bareT x = (D, neg)) (hz : z = true → w = 0) :
    tellT uintT ⟨lf, false, false, z, w, -1, 100⟩ (numA x) = if lf = true then (sgnL neg ++ D) ++ blanksL (w - (sgnL neg ++ D).length) else blanksL (w - (sgnL neg ++ D).length) ++ (sgnL neg ++ D) := by
  have hs : signT false false neg = sgnL neg := by cases neg <;> rfl
  have hW : wholeT uintT ⟨lf, false, false, z, w, -1, 100⟩ x = (sgnL neg, D) := by
    unfold wholeT
    simp [hb, hs]
    intro _ h; omega
  unfold tellT
  rw [if_neg (show ¬ (100 : UInt8) = 115 by decide), if_neg (show ¬ (100 : UInt8) = 99 by decide), if_pos (show isWholeC (100 : UInt8) = true by decide)]
  show fillT lf z (finB x && decide ((-1 : Int) < 0)) w (wholeT uintT ⟨lf, false, false, z, w, -1, 100⟩ x).1 (wholeT uintT ⟨lf, false, false, z, w, -1, 100⟩ x).2 = _
  rw [hW]
  unfold fillT
  rw [List.length_append]
  by_cases hw : w ≤ (sgnL neg).length + D.length
  · rw [if_pos hw, show w - ((sgnL neg).length + D.length) = 0 by omega]
    cases lf <;> simp [blanksL]
  · rw [if_neg hw]
    cases lf with
    | true => rw [if_pos rfl, if_pos rfl, List.append_assoc]
    | false =>
      have hz2 : (z && (finB x && decide ((-1 : Int) < 0))) = false := by
        cases z with
        | true => exact absurd (hz rfl) (by omega)
        | false => rfl
      simp only [hz2, Bool.false_eq_true, if_false]

theorem tell_s {w : Nat} {z : Bool} (t : List UInt8) : tellT uintT ⟨false, false, false, z, w, -1, 115⟩ ⟨0, t, false⟩ = blanksL (w - t.length) ++ t := by
  unfold tellT
  rw [if_pos rfl, if_neg (show ¬ (0 : Int) ≤ -1 by decide)]
  unfold fillT
  simp only [List.length_nil, Nat.zero_add, List.nil_append]
  by_cases hw : w ≤ t.length
  · rw [if_pos hw, show w - t.length = 0 by omega]; simp [blanksL]
  · rw [if_neg hw, if_neg (by simp), if_neg (by simp)]

-- the walk

theorem ltrB (d : Nat) (h : d < 8) : (({ data := #[97, 97, 98, 98, 99, 49, 10, 65] } : ByteArray).extract d (d + 1)).size = 1 := by
  have key : ∀ d : Fin 8, (({ data := #[97, 97, 98, 98, 99, 49, 10, 65] } : ByteArray).extract d.1 (d.1 + 1)).size = 1 := by decide +kernel
  exact key ⟨d, h⟩

set_option maxRecDepth 100000 in
set_option maxHeartbeats 2000000 in
theorem letters_any (ao : Option Addr) (n cap : Nat) (Z : Nat → Nat) (m : Nat) (w : World) (hm : m ≤ 1000) (hn : n ≤ 9223372036854775807) (hl : n = 0 ∨ ∃ b o, ao = some ⟨b, o, none⟩ ∧ ∀ i, i < n → Z i < 256 ∧ w.cell? ⟨b, o + i, none⟩ = some (.int .u8 (Z i))) :
    Calls Tryz.prog 18 #[.slice ao n cap, .int .i64 m] w fun e w' => ∃ T : ByteArray, e = .returned (.string T) ∧ T.size ≤ m ∧ Below w.heap.size w w' := by
  have HB := Lib.hid (Below.refl w.heap.size w)
  by_cases h0 : n = 0
  · subst h0
    clear hl
    go_enter Tryz.func18, Tryz.ntmps18
    go_wp2
    go_loop [5, 6] (fun t i => t = .string ⟨#[]⟩ ∧ i = .int .i64 0) (fun _ _ => 0)
    case atStart => exact ⟨rfl, rfl⟩
    case round =>
      obtain ⟨rfl, rfl⟩ := hrel
      go_wp2
      go_ret
      exact ⟨_, rfl, Nat.zero_le _, HB.out⟩
  · obtain ⟨b, o, rfl, hc⟩ := hl.resolve_left h0
    have HC := Lib.hid hc
    clear hc hl
    go_enter Tryz.func18, Tryz.ntmps18
    go_wp2
    go_loopg [5, 6] m (fun g t i wr => ∃ (T : ByteArray) (j : Nat), t = .string T ∧ i = .int .i64 j ∧ j ≤ n ∧ j + g = m ∧ T.size = j ∧ Hid (Below w.heap.size w wr))
    case atStart => exact ⟨⟨#[]⟩, 0, rfl, rfl, by omega, by omega, rfl, HB⟩
    case round =>
      obtain ⟨T, j, rfl, rfl, hj, hjm, hT, HBW⟩ := hrel
      by_cases hjn : j < n
      · by_cases hjm2 : j < m
        · obtain ⟨hz, hcell⟩ := HC.out j hjn
          have hcj : wr.cell? ⟨b, o + j, none⟩ = some (.int .u8 (Z j)) := by
            rw [HBW.out.cell (World.block_lt_of_cell? w ⟨b, o + j, none⟩ hcell)]; exact hcell
          have hd := Nat.mod_lt (Z j) (show 0 < 8 by decide)
          have hz1 := ltrB (Z j % 8) hd
          have hsz : (T ++ ({ data := #[97, 97, 98, 98, 99, 49, 10, 65] } : ByteArray).extract (Z j % 8) (Z j % 8 + 1)).size = j + 1 := by rw [ByteArray.size_append, hz1, hT]
          have HS := Lib.hid hsz
          clear hcell hd hz1 hsz
          go_wp2
          go_quiet (fail)
          go_wp2
          go_roundg (gk - 1)
          case measure => omega
          case rel => exact ⟨_, j + 1, rfl, congrArg (Value.int .i64) (by omega), by omega, by omega, HS.out, by first | exact HBW.out | exact HBW.out.drew | exact below_drewN HBW.out _⟩
        · go_wp2
          go_ret
          exact ⟨T, rfl, by omega, HBW.out⟩
      · go_wp2
        go_ret
        exact ⟨T, rfl, by omega, HBW.out⟩

theorem decN_len (n : Nat) (h : n < 10000000) : (decN n).length ≤ 20 := by
  unfold decN
  by_cases h0 : n = 0
  · rw [if_pos h0]; decide
  · rw [if_neg h0]
    unfold decL
    rw [digsL_len]
    exact (ndN_ok n (by omega) (by omega)).2.1
theorem decN_head (w : Nat) (h : w < 60) (r : List UInt8) : (decN w ++ r)[0]? ≠ some 37 := by
  have key : ∀ w : Fin 60, (decN w.1)[0]? ≠ some 37 ∧ 0 < (decN w.1).length := by decide +kernel
  obtain ⟨h1, h2⟩ := key ⟨w, h⟩
  rw [List.getElem?_append_left h2]
  exact h1

theorem szA3 {p : Nat} {A T : ByteArray} (h : A = ⟨(blanksL (p - T.size) ++ T.data.toList).toArray⟩) : A.size = max p T.size := by
  have zT : T.size = T.data.toList.length := rfl
  rw [h, ba_size, List.length_append]
  unfold blanksL
  rw [List.length_replicate, ← zT]; omega

theorem exA3 {p : Nat} {A T : ByteArray} (h : A = ⟨(blanksL (p - T.size) ++ T.data.toList).toArray⟩) : A.extract (max p T.size - T.size) (max p T.size) = T := by
  have zT : T.size = T.data.toList.length := rfl
  have e : (A.extract (max p T.size - T.size) (max p T.size)).data.toList = T.data.toList := by
    rw [ex_list, h]
    show (List.drop _ (blanksL (p - T.size) ++ T.data.toList)).take _ = _
    have hb : (blanksL (p - T.size)).length = max p T.size - T.size := by unfold blanksL; rw [List.length_replicate]; omega
    rw [List.drop_append_of_le_length (by omega), List.drop_eq_nil_of_le (by omega), List.nil_append, List.take_of_length_le (by omega)]
  exact ba_ext e
theorem exA2 {p : Nat} {A T : ByteArray} (h : A = ⟨(T.data.toList ++ blanksL (p - T.size)).toArray⟩) : A.extract 0 T.size = T := by
  have zT : T.size = T.data.toList.length := rfl
  have e : (A.extract 0 T.size).data.toList = T.data.toList := by
    rw [ex_list, h]
    show (List.drop 0 (T.data.toList ++ blanksL (p - T.size))).take _ = _
    rw [List.drop_zero, Nat.sub_zero, zT, List.take_left]
  exact ba_ext e

set_option maxRecDepth 100000 in
set_option maxHeartbeats 8000000 in
theorem formWidths_true (width x : Int) (ao : Option Addr) (n cap : Nat) (Z : Nat → Nat) (w : World) (_hx : -9223372036854775808 ≤ x ∧ x ≤ 9223372036854775807) (hn : n ≤ 9223372036854775807) (hl : n = 0 ∨ ∃ b o, ao = some ⟨b, o, none⟩ ∧ ∀ i, i < n → Z i < 256 ∧ w.cell? ⟨b, o + i, none⟩ = some (.int .u8 (Z i))) (hL : LaidJ w) :
    Calls Tryz.prog 6 #[.int .i64 width, .int .i64 x, .slice ao n cap] w fun e w' => e = .returned (.bool true) ∧ Below w.heap.size w w' := by
  have HL := Lib.hid hL
  have HK := Lib.hid (fun W hW => known12_true W hW)
  have HN := Lib.hid (fun x W => n12_any x W)
  have HLT := Lib.hid (letters_any ao n cap Z 40 w (by omega) hn hl)
  obtain ⟨p, hp⟩ : ∃ p, pickN width 60 = p := ⟨_, rfl⟩
  have hp60 : p < 60 := by rw [← hp]; exact pickN_lt width 60 (by omega)
  have HPK : Hid (∀ W, Calls Tryz.prog 17 #[.int .i64 width, .int .i64 60] W fun e w' => e = .returned (.int .i64 p) ∧ W = w') := fun W => by
    have h := pick_any width 60 W (by omega) (by decide)
    rw [hp] at h; exact h
  obtain ⟨y, hy⟩ : ∃ y, x.tmod 1000000 = y := ⟨_, rfl⟩
  have hy1 : -1000000 < y ∧ y < 1000000 := by
    have t1 := Int.tmod_lt_of_pos x (b := 1000000) (by omega)
    have t2 := Int.lt_tmod_of_pos x (b := 1000000) (by omega)
    omega
  obtain ⟨v1, v2, v3, v4⟩ := ofInt_val y (by omega) (by omega)
  obtain ⟨u1, u2, u3, u4⟩ := ofInt_val (p : Int) (by omega) (by omega)
  obtain ⟨X, hX⟩ : ∃ X, floatOfInt .f64 y = X := ⟨_, rfl⟩
  obtain ⟨P, hP⟩ : ∃ P, floatOfInt .f64 (p : Int) = P := ⟨_, rfl⟩
  rw [hX] at v1 v2 v3 v4
  rw [hP] at u1 u2 u3 u4
  rw [show decide ((p : Int) < 0) = false from decide_eq_false (by omega), Int.natAbs_natCast] at u4
  obtain ⟨neg, hneg⟩ : ∃ neg, decide (y < 0) = neg := ⟨_, rfl⟩
  rw [hneg] at v4
  obtain ⟨D, hD⟩ : ∃ D : ByteArray, D = ⟨(sgnL neg ++ decN y.natAbs).toArray⟩ := ⟨_, rfl⟩
  obtain ⟨K, hK⟩ : ∃ K : ByteArray, K = ⟨(decN p).toArray⟩ := ⟨_, rfl⟩
  have hDl : D.data.toList = sgnL neg ++ decN y.natAbs := by rw [hD]
  have hKl : K.data.toList = decN p := by rw [hK]
  have hd8 := decN_len y.natAbs (by omega)
  have hk8 := decN_len p (by omega)
  have zD : D.size = D.data.toList.length := rfl
  have zK : K.size = K.data.toList.length := rfl
  have hDz : D.size ≤ 21 := by rw [zD, hDl, List.length_append]; unfold sgnL; split <;> simp <;> omega
  have hKz : K.size ≤ 20 := by rw [zK, hKl]; omega
  have HD1 : Hid (∀ W, LaidJ W → Calls Tryz.prog 16 #[.float .f64 P] W fun e w' => e = .returned (.string K) ∧ Below W.heap.size W w') := fun W h => by
    have h2 := digits_bare P u1 W h.lg
    rw [u4] at h2
    rw [hK]; exact h2
  have HD2 : Hid (∀ W, LaidJ W → Calls Tryz.prog 16 #[.float .f64 X] W fun e w' => e = .returned (.string D) ∧ Below W.heap.size W w') := fun W h => by
    have h2 := digits_bare X v1 W h.lg
    rw [v4] at h2
    rw [hD]; exact h2
  obtain ⟨A1, hA1⟩ : ∃ A1 : ByteArray, A1 = ⟨(blanksL (p - D.size) ++ D.data.toList).toArray⟩ := ⟨_, rfl⟩
  obtain ⟨A2, hA2⟩ : ∃ A2 : ByteArray, A2 = ⟨(D.data.toList ++ blanksL (p - D.size)).toArray⟩ := ⟨_, rfl⟩
  have hF1 : ∀ W, LaidJ W → Calls Tryz.prog 12 #[.string ((⟨#[37]⟩ ++ K) ++ ⟨#[100]⟩), .slice (some ⟨W.heap.size, 0, none⟩) 1 1] (W.alloc (.cells #[.float .f64 X, .string ⟨#[]⟩, .bool true] 44)) fun e w' => e = .returned (.tuple #[.string A1, .int .i64 0]) ∧ Below W.heap.size W w' := fun W hW => by
    have hl : (ByteArray.data ((⟨#[37]⟩ ++ K) ++ ⟨#[100]⟩)).toList = 37 :: (decN p ++ [100]) := by simp only [app_data, hKl]; simp
    have ht := tell_d (w := p) (z := decide (p = 0)) (lf := false) (x := X) v4 (fun h => of_decide_eq_true h)
    rw [if_neg (by simp), ← hDl, ← zD] at ht
    have hf : formAll uintT (37 :: (decN p ++ [100])) [numA X] = (blanksL (p - D.size) ++ D.data.toList, 0) := by
      have h1 : (37 :: (decN p ++ [100]))[1]? ≠ some (37 : UInt8) := decN_head p hp60 _
      rw [one_conv (cv := ⟨false, false, false, decide (p = 0), p, -1, 100⟩) rfl h1 (by rw [wd_d p hp60]; simp) (by rw [ht, List.length_append]; unfold blanksL; simp; omega), ht]
    rw [hA1]
    exact pformat_new _ [numA X] (fun a ha => by
      simp only [List.mem_cons, List.not_mem_nil, or_false] at ha
      subst ha; exact numA_ok v1) (blanksL (p - D.size) ++ D.data.toList, 0) (by rw [hl]; exact hf) (by rw [ByteArray.size_append, ByteArray.size_append]; show 1 + K.size + 1 ≤ _; omega) _ W hW 1 rfl
  have hF2 : ∀ W, LaidJ W → Calls Tryz.prog 12 #[.string ((⟨#[37, 45]⟩ ++ K) ++ ⟨#[100]⟩), .slice (some ⟨W.heap.size, 0, none⟩) 1 1] (W.alloc (.cells #[.float .f64 X, .string ⟨#[]⟩, .bool true] 44)) fun e w' => e = .returned (.tuple #[.string A2, .int .i64 0]) ∧ Below W.heap.size W w' := fun W hW => by
    have hl : (ByteArray.data ((⟨#[37, 45]⟩ ++ K) ++ ⟨#[100]⟩)).toList = 37 :: (45 :: (decN p ++ [100])) := by simp only [app_data, hKl]; simp
    have ht := tell_d (w := p) (z := decide (p = 0)) (lf := true) (x := X) v4 (fun h => of_decide_eq_true h)
    rw [if_pos rfl, ← hDl, ← zD] at ht
    have hf : formAll uintT (37 :: (45 :: (decN p ++ [100]))) [numA X] = (D.data.toList ++ blanksL (p - D.size), 0) := by
      rw [one_conv (cv := ⟨true, false, false, decide (p = 0), p, -1, 100⟩) rfl (by simp) (by rw [wd_m p hp60]; simp) (by rw [ht, List.length_append]; unfold blanksL; simp; omega), ht]
    rw [hA2]
    exact pformat_new _ [numA X] (fun a ha => by
      simp only [List.mem_cons, List.not_mem_nil, or_false] at ha
      subst ha; exact numA_ok v1) (D.data.toList ++ blanksL (p - D.size), 0) (by rw [hl]; exact hf) (by rw [ByteArray.size_append, ByteArray.size_append]; show 2 + K.size + 1 ≤ _; omega) _ W hW 1 rfl
  have hF3 : ∀ T : ByteArray, T.size ≤ 40 → ∀ W, LaidJ W → Calls Tryz.prog 12 #[.string ((⟨#[37]⟩ ++ K) ++ ⟨#[115]⟩), .slice (some ⟨W.heap.size, 0, none⟩) 1 1] (W.alloc (.cells #[.float .f64 0, .string T, .bool false] 44)) fun e w' => ∃ A3 : ByteArray, e = .returned (.tuple #[.string A3, .int .i64 0]) ∧ A3 = ⟨(blanksL (p - T.size) ++ T.data.toList).toArray⟩ ∧ Below W.heap.size W w' := fun T hT W hW => by
    have hl : (ByteArray.data ((⟨#[37]⟩ ++ K) ++ ⟨#[115]⟩)).toList = 37 :: (decN p ++ [115]) := by simp only [app_data, hKl]; simp
    have ht := tell_s (w := p) (z := decide (p = 0)) T.data.toList
    have zT : T.size = T.data.toList.length := rfl
    rw [← zT] at ht
    have hf : formAll uintT (37 :: (decN p ++ [115])) [⟨0, T.data.toList, false⟩] = (blanksL (p - T.size) ++ T.data.toList, 0) := by
      have h1 : (37 :: (decN p ++ [115]))[1]? ≠ some (37 : UInt8) := decN_head p hp60 _
      rw [one_conv (cv := ⟨false, false, false, decide (p = 0), p, -1, 115⟩) rfl h1 (by rw [wd_s p hp60]; simp) (by rw [ht, List.length_append]; unfold blanksL; simp; omega), ht]
    have h := pformat_new _ [⟨0, T.data.toList, false⟩] (fun a ha => by
      simp only [List.mem_cons, List.not_mem_nil, or_false] at ha
      subst ha; exact ⟨by show (0 : Nat) < _; omega, by show T.data.toList.length ≤ 5000; omega⟩) (blanksL (p - T.size) ++ T.data.toList, 0) (by rw [hl]; exact hf) (by rw [ByteArray.size_append, ByteArray.size_append]; show 1 + K.size + 1 ≤ _; omega) 44 W hW 1 rfl
    have e : argCells [⟨0, T.data.toList, false⟩] = [.float .f64 0, .string T, .bool false] := by
      show [Value.float .f64 0, .string ⟨T.data.toList.toArray⟩, .bool false] = _
      rw [show (⟨T.data.toList.toArray⟩ : ByteArray) = T from (ba_of T _ rfl).symm]
    rw [e] at h
    exact h.mono fun e w' ⟨h1, h2⟩ => ⟨_, h1, rfl, h2⟩
  have zA1 : A1.size = (p - D.size) + D.size := by rw [hA1, ba_size, List.length_append]; unfold blanksL; simp
  have zA2 : A2.size = D.size + (p - D.size) := by rw [hA2, ba_size, List.length_append]; unfold blanksL; simp
  have HF1 := Lib.hid hF1
  have HF2 := Lib.hid hF2
  have HF3 := Lib.hid hF3
  have HY := Lib.hid hy
  have HX := Lib.hid hX
  have HPP := Lib.hid hP
  clear hF1 hF2 hF3 hd8 hk8 zD zK hDl hKl hK hL hl hn hp v1 v2 v3 v4 u1 u2 u3 u4 hneg
  have hb0 := Below.refl w.heap.size w
  have hA1z : A1.size = max p D.size := by omega
  have hA2z : A2.size = max p D.size := by omega
  have E1 := exA3 hA1
  have E2 := exA2 hA2
  have E1b : A1.extract ((max (p : Int) (D.size : Int)).toNat - D.size) (max p D.size) = D := by rw [show (max (p : Int) (D.size : Int)).toNat = max p D.size by omega]; exact E1
  clear zA1 zA2 hA1 hA2 hD HY HX HPP
  go_enter Tryz.func6, Tryz.ntmps6
  go_wp2_with (first
    | (go_at_call 17; refine (HPK.out _).mono ?_; rintro e w' ⟨rfl, rfl⟩)
    | (go_at_call 18; refine HLT.out.mono ?_; rintro e w1 ⟨T, rfl, hT, hb1⟩; have hb0 := hb0.trans (hb1.mono hb0.size))
    | (go_at_call 19; refine (HN.out _ _).mono ?_; rintro e w1 ⟨rfl, hb1⟩; have hb0 := hb0.trans (hb1.mono hb0.size))
    | (go_at_call 16; first
      | (with_reducible refine (HD1.out _ (HL.out.below hb0)).mono ?_; rintro e w1 ⟨rfl, hb1⟩; have hb0 := hb0.trans (hb1.mono hb0.size))
      | (with_reducible refine (HD2.out _ (HL.out.below hb0)).mono ?_; rintro e w1 ⟨rfl, hb1⟩; have hb0 := hb0.trans (hb1.mono hb0.size)))
    | (go_at_call 12; first
      | (with_reducible refine (HF1.out _ (HL.out.below hb0)).mono ?_; rintro e w1 ⟨rfl, hb1⟩; have hb0 := hb0.trans (hb1.mono hb0.size))
      | (with_reducible refine (HF2.out _ (HL.out.below hb0)).mono ?_; rintro e w1 ⟨rfl, hb1⟩; have hb0 := hb0.trans (hb1.mono hb0.size))
      | (with_reducible refine (HF3.out _ hT _ (HL.out.below hb0)).mono ?_; rintro e w1 ⟨A3, rfl, hA3, hb1⟩; have HA3 := Lib.hid hA3; have zA3 : A3.size = max p T.size := (szA3 hA3); have E3 := exA3 hA3; have hb0 := hb0.trans (hb1.mono hb0.size); clear hA3))
    | (go_at_call 14; refine (HK.out _ (HL.out.below hb0)).mono ?_; rintro e w1 ⟨rfl, hb1⟩; have hb0 := hb0.trans (hb1.mono hb0.size)))
  go_ret
  exact ⟨rfl, hb0⟩

end Go.Proofs.YtdencljnbilchaaGreatDoor
