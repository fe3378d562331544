/- The walk of printf's tell. -/
import Derived.Test.YtdencljnbilchaaGreatDoorJk
import Derived.Deep.DeepCutAuto
import Derived.Deep.CutBlock

namespace Go.Proofs.YtdencljnbilchaaGreatDoor
open Go.RowKit

/-- Sign, body, whether noughts may fill it. -/
def partsT (cv : FConv) (a : FArg) : List UInt8 × List UInt8 × Bool :=
  if cv.c = 115 then ([], if 0 ≤ cv.prec then a.s.take cv.prec.toNat else a.s, false)
  else if cv.c = 99 then ([], letterT a, false)
  else if isWholeC cv.c = true then ((wholeT uintT cv a.n).1, (wholeT uintT cv a.n).2, finB a.n && decide (cv.prec < 0))
  else ((realT cv a.n).1, (realT cv a.n).2, finB a.n)

theorem tellT_of (cv : FConv) (a : FArg) : tellT uintT cv a = fillT cv.left cv.zero (partsT cv a).2.2 cv.width (partsT cv a).1 (partsT cv a).2.1 := by
  unfold tellT partsT
  split
  · rfl
  · split
    · rfl
    · split <;> rfl

theorem isInf0_any (x : Nat) (hx : x < 18446744073709551616) (w : World) : Calls Tryz.prog 26 #[.float .f64 x, .int .i64 0] w fun e w' => e = .returned (.bool (infP (absN x))) ∧ w = w' := by
  have HA := Lib.hid (fun W => abs_any x hx W)
  have HV : Hid (infP (absN x) = (FloatKind.f64.format.order (absN x) 9218868437227405311 == some .gt)) := rfl
  clear hx
  go_enter Tryz.func26, Tryz.ntmps26
  go_wp2_with (go_at_call 41; refine (HA.out _).mono ?_; rintro e w' ⟨rfl, rfl⟩)
  go_ret
  exact ⟨by rw [HV.out]; rfl, rfl⟩

theorem isNaN_any (x : Nat) (w : World) : Calls Tryz.prog 35 #[.float .f64 x] w fun e w' => e = .returned (.bool (nanB x)) ∧ w = w' := by
  have HV : Hid (nanB x = !(FloatKind.f64.format.order x x == some .eq)) := rfl
  go_enter Tryz.func35, Tryz.ntmps35
  go_wp2
  go_ret
  exact ⟨by rw [HV.out]; rfl, rfl⟩

/-- Is it no number, or an infinity? -/
theorem fin_tests (x : Nat) (hx : x < 18446744073709551616) : (nanB x = true ∧ finB x = false) ∨ (nanB x = false ∧ infP (absN x) = true ∧ finB x = false) ∨ (nanB x = false ∧ infP (absN x) = false ∧ finB x = true) := by
  rcases class3 x hx with h | rfl | rfl | h
  · exact .inr (.inr ⟨nanB_fin h, infP_fin (absN_ok h).2.1, (finB_iff x).2 h⟩)
  · exact .inr (.inl ⟨by kernel_rfl, by kernel_rfl, by kernel_rfl⟩)
  · exact .inr (.inl ⟨by kernel_rfl, by kernel_rfl, by kernel_rfl⟩)
  · refine .inl ⟨by unfold nanB; rw [nan_order hx h]; rfl, ?_⟩
    rw [Bool.eq_false_iff]
    intro h'
    have := (finB_iff x).1 h'
    unfold finN at this; omega

set_option maxRecDepth 100000 in
theorem float_non (cv : FConv) (x : Nat) (hx : x < 18446744073709551616) (w : World) (hL : LaidG w) :
    Calls Tryz.prog 45 #[.agg #[.bool cv.left, .bool cv.plus, .bool cv.blank, .bool cv.zero, .int .i64 cv.width, .int .i64 cv.prec], .int .u8 cv.c.toNat, .float .f64 x, .bool false] w fun e w' =>
      e = .returned (.tuple #[.string ⟨(signT cv.plus cv.blank (bareT x).2).toArray⟩, .string ⟨(bareT x).1.toArray⟩]) ∧ Below w.heap.size w w' := by
  obtain ⟨S1, hS1⟩ : ∃ S1 : ByteArray, S1 = ⟨(signT cv.plus cv.blank (bareT x).2).toArray⟩ := ⟨_, rfl⟩
  obtain ⟨S2, hS2⟩ : ∃ S2 : ByteArray, S2 = ⟨(bareT x).1.toArray⟩ := ⟨_, rfl⟩
  have HB : Hid (∀ W, LaidG W → Calls Tryz.prog 55 #[.float .f64 x] W fun e w' => e = .returned (.tuple #[.string S2, .bool (bareT x).2]) ∧ Below W.heap.size W w') := fun W hW => by rw [hS2]; exact bare_any x hx W hW
  have HS : Hid (∀ (W : World), Calls Tryz.prog 56 #[.agg #[.bool cv.left, .bool cv.plus, .bool cv.blank, .bool cv.zero, .int .i64 cv.width, .int .i64 cv.prec], .bool (bareT x).2] W fun e w' => e = .returned (.string S1) ∧ Below W.heap.size W w') := fun W => by rw [hS1]; exact signed_any _ _ _ _ _ _ _ W
  have hal : Below w.heap.size w (w.alloc (.cells #[.bool cv.left, .bool cv.plus, .bool cv.blank, .bool cv.zero, .int .i64 cv.width, .int .i64 cv.prec] 57)) := (Below.refl _ _).alloc (Nat.le_refl _) _
  have HAL := Lib.hid hal
  have HL := Lib.hid hL
  rw [← hS1, ← hS2]
  obtain ⟨bl, hbl⟩ : ∃ bl, (bareT x).2 = bl := ⟨_, rfl⟩
  rw [hbl] at HB HS
  clear hS1 hS2 hal hL hx hbl
  go_enter Tryz.func45, Tryz.ntmps45
  go_wp2_with (first
    | (go_at_call 55; refine (HB.out _ (HL.out.below HAL.out)).mono ?_; rintro e w1 ⟨rfl, hb1⟩; have hb2 := HAL.out.trans (hb1.mono HAL.out.size); have HS1 := Lib.hid ((SpF.new w cv 57).below hb1); obtain ⟨a0, a1, a2, a3, a4, a5⟩ := HS1.out)
    | (go_at_call 56; refine (HS.out _).mono ?_; rintro e w2 ⟨rfl, hb3⟩; have hb4 := hb2.trans (hb3.mono hb2.size)))
  go_ret2
  exact ⟨rfl, hb4⟩

def isRealC (c : UInt8) : Bool := c = 102 || c = 70 || c = 101 || c = 69 || c = 103 || c = 71

theorem float_any (cv : FConv) (hc : isRealC cv.c = true) (x : Nat) (hx : x < 18446744073709551616) (hp : cv.prec ≤ 200) (w : World) (hL : LaidG w) :
    Calls Tryz.prog 45 #[.agg #[.bool cv.left, .bool cv.plus, .bool cv.blank, .bool cv.zero, .int .i64 cv.width, .int .i64 cv.prec], .int .u8 cv.c.toNat, .float .f64 x, .bool (finB x)] w fun e w' =>
      e = .returned (.tuple #[.string ⟨(realT cv x).1.toArray⟩, .string ⟨(realT cv x).2.toArray⟩]) ∧ Below w.heap.size w w' := by
  have h : cv.c = 102 ∨ cv.c = 70 ∨ cv.c = 101 ∨ cv.c = 69 ∨ cv.c = 103 ∨ cv.c = 71 := by
    unfold isRealC at hc
    simpa [or_assoc] using hc
  cases hf : finB x with
  | true =>
    have e : realT cv x = (signT cv.plus cv.blank (decide (scal x < 0)), floatT (absN x) (realF cv.c) (realP cv.c cv.prec)) := by unfold realT; rw [if_pos hf]; rfl
    rw [e]
    exact float_fin _ _ _ _ _ _ _ x hx ((finB_iff x).1 hf) hp h w hL
  | false =>
    have e : realT cv x = (signT cv.plus cv.blank (bareT x).2, (bareT x).1) := by unfold realT; rw [if_neg (by rw [hf]; simp)]
    rw [e]
    exact float_non cv x hx w hL

theorem realT_len (cv : FConv) (hc : isRealC cv.c = true) (x : Nat) (hx : x < 18446744073709551616) (hp : cv.prec ≤ 200) : (realT cv x).1.length ≤ 1 ∧ (realT cv x).2.length ≤ 5000 := by
  have hs : ∀ a b c, (signT a b c).length ≤ 1 := by intro a b c; cases a <;> cases b <;> cases c <;> decide
  have h : cv.c = 102 ∨ cv.c = 70 ∨ cv.c = 101 ∨ cv.c = 69 ∨ cv.c = 103 ∨ cv.c = 71 := by
    unfold isRealC at hc
    simpa [or_assoc] using hc
  cases hf : finB x with
  | true =>
    have e : realT cv x = (signT cv.plus cv.blank (decide (scal x < 0)), floatT (absN x) (realF cv.c) (realP cv.c cv.prec)) := by unfold realT; rw [if_pos hf]; rfl
    rw [e]
    obtain ⟨y1, y2, y3⟩ := absN_ok ((finB_iff x).1 hf)
    have hP : 0 ≤ realP cv.c cv.prec ∧ realP cv.c cv.prec ≤ 1000 := by unfold realP; split <;> split <;> omega
    have hF : fmtOk (realF cv.c) := by
      unfold realF fmtOk
      rcases h with h | h | h | h | h | h <;> rw [h] <;> decide
    exact ⟨hs _ _ _, (format_all (absN x) (realF cv.c) (realP cv.c cv.prec) y1 y2 y3 hF hP.1 hP.2).1⟩
  | false =>
    have e : realT cv x = (signT cv.plus cv.blank (bareT x).2, (bareT x).1) := by unfold realT; rw [if_neg (by rw [hf]; simp)]
    rw [e]
    have := (bareT_head x hx).2
    exact ⟨hs _ _ _, by show (bareT x).1.length ≤ _; omega⟩

/-- What tell leaves. -/
def TellEnd (cv : FConv) (a : FArg) (w : World) (e : Ending) (w' : World) : Prop := e = .returned (.string ⟨(tellT uintT cv a).toArray⟩) ∧ Below w.heap.size w w'

theorem letter_cases {c : UInt8} (h : isLetter c = true) : c = 115 ∨ c = 99 ∨ c = 100 ∨ c = 105 ∨ c = 117 ∨ c = 111 ∨ c = 120 ∨ c = 88 ∨ ((c ≠ 115 ∧ c ≠ 99 ∧ c ≠ 100 ∧ c ≠ 105 ∧ c ≠ 117 ∧ c ≠ 111 ∧ c ≠ 120 ∧ c ≠ 88) ∧ isRealC c = true) := by
  have key : ∀ k : Fin 256, isLetter ⟨⟨k⟩⟩ = true → ((⟨⟨k⟩⟩ : UInt8) = 115 ∨ (⟨⟨k⟩⟩ : UInt8) = 99 ∨ (⟨⟨k⟩⟩ : UInt8) = 100 ∨ (⟨⟨k⟩⟩ : UInt8) = 105 ∨ (⟨⟨k⟩⟩ : UInt8) = 117 ∨ (⟨⟨k⟩⟩ : UInt8) = 111 ∨ (⟨⟨k⟩⟩ : UInt8) = 120 ∨ (⟨⟨k⟩⟩ : UInt8) = 88 ∨ (((⟨⟨k⟩⟩ : UInt8) ≠ 115 ∧ (⟨⟨k⟩⟩ : UInt8) ≠ 99 ∧ (⟨⟨k⟩⟩ : UInt8) ≠ 100 ∧ (⟨⟨k⟩⟩ : UInt8) ≠ 105 ∧ (⟨⟨k⟩⟩ : UInt8) ≠ 117 ∧ (⟨⟨k⟩⟩ : UInt8) ≠ 111 ∧ (⟨⟨k⟩⟩ : UInt8) ≠ 120 ∧ (⟨⟨k⟩⟩ : UInt8) ≠ 88) ∧ isRealC ⟨⟨k⟩⟩ = true)) := by decide +kernel
  exact key c.toBitVec.toFin h

/-- The text that comes, against the spec's. -/
theorem tell_fill {cv : FConv} {a : FArg} {w w' : World} {S1 S2 T : ByteArray} {nou : Bool} (h1 : S1 = ⟨(partsT cv a).1.toArray⟩) (h2 : S2 = ⟨(partsT cv a).2.1.toArray⟩) (hn : (partsT cv a).2.2 = nou) (hb : Below w.heap.size w w')
    (h : T.data.toList = fillT cv.left cv.zero nou cv.width S1.data.toList S2.data.toList) : TellEnd cv a w (.returned (.string T)) w' := by
  refine ⟨?_, hb⟩
  rw [tellT_of, hn]
  refine congrArg (fun x => Ending.returned (Value.string x)) (ba_of _ _ ?_)
  rw [h, h1, h2]

theorem app_data (a b : ByteArray) : (a ++ b).data.toList = a.data.toList ++ b.data.toList := by simp

theorem fillB_none {l z nou : Bool} {wd : Nat} {S1 S2 : ByteArray} (h : (wd : Int) - S1.size - S2.size ≤ 0) : (S1 ++ S2).data.toList = fillT l z nou wd S1.data.toList S2.data.toList := by
  have z1 : S1.size = S1.data.toList.length := rfl
  have z2 : S2.size = S2.data.toList.length := rfl
  unfold fillT
  rw [if_pos (by omega), app_data]
theorem fillB_left {l z nou : Bool} {wd : Nat} {S1 S2 R : ByteArray} (h : ¬ (wd : Int) - S1.size - S2.size ≤ 0) (hl : l = true) (hR : R = ⟨(List.replicate ((wd : Int) - S1.size - S2.size).toNat 32).toArray⟩) : (S1 ++ (S2 ++ R)).data.toList = fillT l z nou wd S1.data.toList S2.data.toList := by
  have z1 : S1.size = S1.data.toList.length := rfl
  have z2 : S2.size = S2.data.toList.length := rfl
  unfold fillT
  rw [if_neg (by omega), if_pos hl, app_data, app_data, hR]
  unfold blanksL
  rw [show ((wd : Int) - S1.size - S2.size).toNat = wd - (S1.data.toList.length + S2.data.toList.length) by omega]
theorem fillB_zero {l z nou : Bool} {wd : Nat} {S1 S2 R : ByteArray} (h : ¬ (wd : Int) - S1.size - S2.size ≤ 0) (hl : l = false) (hz : (z && nou) = true) (hR : R = ⟨(List.replicate ((wd : Int) - S1.size - S2.size).toNat 48).toArray⟩) : (S1 ++ (R ++ S2)).data.toList = fillT l z nou wd S1.data.toList S2.data.toList := by
  have z1 : S1.size = S1.data.toList.length := rfl
  have z2 : S2.size = S2.data.toList.length := rfl
  unfold fillT
  rw [if_neg (by omega), if_neg (by rw [hl]; simp), if_pos hz, app_data, app_data, hR]
  unfold zerosL
  rw [show ((wd : Int) - S1.size - S2.size).toNat = wd - (S1.data.toList.length + S2.data.toList.length) by omega]
theorem fillB_blank {l z nou : Bool} {wd : Nat} {S1 S2 R : ByteArray} (h : ¬ (wd : Int) - S1.size - S2.size ≤ 0) (hl : l = false) (hz : (z && nou) = false) (hR : R = ⟨(List.replicate ((wd : Int) - S1.size - S2.size).toNat 32).toArray⟩) : ((R ++ S1) ++ S2).data.toList = fillT l z nou wd S1.data.toList S2.data.toList := by
  have z1 : S1.size = S1.data.toList.length := rfl
  have z2 : S2.size = S2.data.toList.length := rfl
  unfold fillT
  rw [if_neg (by omega), if_neg (by rw [hl]; simp), if_neg (by rw [hz]; simp), app_data, app_data, hR, List.append_assoc]
  unfold blanksL
  rw [show ((wd : Int) - S1.size - S2.size).toNat = wd - (S1.data.toList.length + S2.data.toList.length) by omega]

theorem partsT_len (cv : FConv) (a : FArg) (ha : a.n < 18446744073709551616) (hs : a.s.length ≤ 1000000) (hc : isLetter cv.c = true) (hp : cv.prec ≤ 200) : (partsT cv a).1.length ≤ 201 ∧ (partsT cv a).2.1.length ≤ 1000000 := by
  have hup : ∀ l : List UInt8, (letterT ⟨a.n, l, a.num⟩).length ≤ 1 := fun l => by
    unfold letterT
    split
    · split <;> simp
    · rw [List.length_take]; omega
  rcases letter_cases hc with h | h | h | h | h | h | h | h | ⟨h, hr⟩
  · have hP : partsT cv a = ([], (if 0 ≤ cv.prec then a.s.take cv.prec.toNat else a.s), false) := by unfold partsT; rw [if_pos h]
    rw [hP]
    refine ⟨by simp, ?_⟩
    show (if 0 ≤ cv.prec then a.s.take cv.prec.toNat else a.s).length ≤ 1000000
    split
    · rw [List.length_take]; omega
    · exact hs
  · have hP : partsT cv a = ([], letterT a, false) := by unfold partsT; rw [if_neg (by rw [h]; decide), if_pos h]
    rw [hP]
    exact ⟨by simp, Nat.le_trans (hup a.s) (by omega)⟩
  iterate 6
    · have hw : isWholeC cv.c = true := by rw [h]; decide
      have hP : partsT cv a = ((wholeT uintT cv a.n).1, (wholeT uintT cv a.n).2, finB a.n && decide (cv.prec < 0)) := by unfold partsT; rw [if_neg (by rw [h]; decide), if_neg (by rw [h]; decide), if_pos hw]
      rw [hP]
      have hl := wholeP_len cv a.n ha
      rw [wholeT_of]
      refine ⟨Nat.le_trans hl.1 (by omega), ?_⟩
      show (if _ then _ else _ : List UInt8).length ≤ 1000000
      split
      · rw [List.length_append, zerosL_len]; omega
      · omega
  · have hP : partsT cv a = ((realT cv a.n).1, (realT cv a.n).2, finB a.n) := by
      unfold partsT isWholeC
      rw [if_neg h.1, if_neg h.2.1, if_neg (by obtain ⟨_, _, n1, n2, n3, n4, n5, n6⟩ := h; simp [n1, n2, n3, n4, n5, n6])]
    rw [hP]
    have hl := realT_len cv hr a.n ha hp
    exact ⟨Nat.le_trans hl.1 (by omega), Nat.le_trans hl.2 (by omega)⟩

set_option maxRecDepth 100000 in
set_option maxHeartbeats 4000000 in
theorem tell_any (cv : FConv) (a : FArg) (ha : a.n < 18446744073709551616) (hs : a.s.length ≤ 1000000) (hc : isLetter cv.c = true) (hp : cv.prec ≤ 200) (hp0 : -1 ≤ cv.prec) (hwd : cv.width ≤ 200) (w : World) (hL : LaidJ w) :
    Calls Tryz.prog 28 #[.agg #[.bool cv.left, .bool cv.plus, .bool cv.blank, .bool cv.zero, .int .i64 cv.width, .int .i64 cv.prec], .int .u8 cv.c.toNat, .agg #[.float .f64 a.n, .string ⟨a.s.toArray⟩, .bool a.num]] w (TellEnd cv a w) := by
  have HF := fin_tests a.n ha
  have HI := Lib.hid (fun W => isInf0_any a.n ha W)
  have HN := Lib.hid (fun W => isNaN_any a.n W)
  have HL := Lib.hid hL
  have hal : Below w.heap.size w ((w.alloc (.cells #[.bool cv.left, .bool cv.plus, .bool cv.blank, .bool cv.zero, .int .i64 cv.width, .int .i64 cv.prec] 57)).alloc (.cells #[.float .f64 a.n, .string ⟨a.s.toArray⟩, .bool a.num] 44)) := ((Below.refl _ _).alloc (Nat.le_refl _) _).alloc (by simp) _
  have HAL := Lib.hid hal
  obtain ⟨fb, hfb⟩ : ∃ fb, finB a.n = fb := ⟨_, rfl⟩
  have HFB := Lib.hid hfb
  rw [hfb] at HF
  have HF' := Lib.hid HF
  obtain ⟨S, hS⟩ : ∃ S : ByteArray, S = ⟨a.s.toArray⟩ := ⟨_, rfl⟩
  rw [← hS] at HAL ⊢
  have HSS := Lib.hid hS
  clear hfb HF hal hL hS
  go_enter Tryz.func28, Tryz.ntmps28
  go_upto_region 1 with (fail)
  go_cut [7] (fun v wx => v = .bool fb ∧ wx = (w.alloc (.cells #[.bool cv.left, .bool cv.plus, .bool cv.blank, .bool cv.zero, .int .i64 cv.width, .int .i64 cv.prec] 57)).alloc (.cells #[.float .f64 a.n, .string S, .bool a.num] 44))
  case first =>
    as_aux_lemma =>
      rcases HF'.out with ⟨h1, rfl⟩ | ⟨h1, h2, rfl⟩ | ⟨h1, h2, rfl⟩
      · rw [h1] at HN
        go_wp2_with (go_at_call 35; refine (HN.out _).mono ?_; rintro e w' ⟨rfl, rfl⟩)
        go_meet
        exact ⟨rfl, rfl⟩
      · rw [h1] at HN
        rw [h2] at HI
        go_wp2_with (first | (go_at_call 35; refine (HN.out _).mono ?_; rintro e w' ⟨rfl, rfl⟩) | (go_at_call 26; refine (HI.out _).mono ?_; rintro e w' ⟨rfl, rfl⟩))
        go_meet
        exact ⟨rfl, rfl⟩
      · rw [h1] at HN
        rw [h2] at HI
        go_wp2_with (first | (go_at_call 35; refine (HN.out _).mono ?_; rintro e w' ⟨rfl, rfl⟩) | (go_at_call 26; refine (HI.out _).mono ?_; rintro e w' ⟨rfl, rfl⟩))
        go_meet
        exact ⟨rfl, rfl⟩
  case rest =>
    obtain ⟨rfl, rfl⟩ := hcut
    clear HI HN HF'
    have hsp : SpF ((w.alloc (.cells #[.bool cv.left, .bool cv.plus, .bool cv.blank, .bool cv.zero, .int .i64 cv.width, .int .i64 cv.prec] 57)).alloc (.cells #[.float .f64 a.n, .string S, .bool a.num] 44)) w.heap.size cv := (SpF.new w cv _).below ((Below.refl _ _).alloc (Nat.le_refl _) _)
    have HSP := Lib.hid hsp
    clear hsp
    go_upto_block 0 with (fail)
    go_cut [8, 9, 10] (fun s b n wx => ∃ S1 S2 : ByteArray, s = .string S1 ∧ b = .string S2 ∧ n = .bool (partsT cv a).2.2 ∧ Hid (S1 = ⟨(partsT cv a).1.toArray⟩ ∧ S2 = ⟨(partsT cv a).2.1.toArray⟩) ∧ Hid (Below w.heap.size w wx ∧ SpF wx w.heap.size cv))
    case first =>
      have hcs := letter_cases hc
      rcases hcs with h | h | h | h | h | h | h | h | ⟨h, hr⟩
      · have b115 : ((cv.c.toNat : Int) == 115) = true := beq_t (d := 115) h
        have hP : partsT cv a = ([], (if 0 ≤ cv.prec then a.s.take cv.prec.toNat else a.s), false) := by unfold partsT; rw [if_pos h]
        have HPP := Lib.hid hP
        have hSl : S.data.toList = a.s := by rw [HSS.out]
        have hSz : S.size = a.s.length := by rw [HSS.out]; simp [ByteArray.size]
        by_cases hn : cv.prec < 0
        · have hb : S = ⟨(if 0 ≤ cv.prec then a.s.take cv.prec.toNat else a.s).toArray⟩ := by rw [if_neg (by omega)]; exact HSS.out
          have HB := Lib.hid hb
          clear hb hP hSl h
          as_aux_lemma =>
            go_wp2
            go_meet
            rw [HPP.out]
            exact ⟨⟨#[]⟩, S, rfl, rfl, rfl, ⟨rfl, HB.out⟩, HAL.out, HSP.out⟩
        · by_cases hlt : cv.prec < S.size
          · have hb : S.extract 0 cv.prec.toNat = ⟨(if 0 ≤ cv.prec then a.s.take cv.prec.toNat else a.s).toArray⟩ := by
              rw [if_pos (by omega)]
              refine ba_of _ _ ?_
              rw [ex_list, hSl, List.drop_zero, Nat.sub_zero]
            have HB := Lib.hid hb
            clear hb hP hSl h
            as_aux_lemma =>
              go_wp2
              go_meet
              rw [HPP.out]
              exact ⟨⟨#[]⟩, _, rfl, rfl, rfl, ⟨rfl, HB.out⟩, HAL.out, HSP.out⟩
          · have hb : S = ⟨(if 0 ≤ cv.prec then a.s.take cv.prec.toNat else a.s).toArray⟩ := by
              rw [if_pos (by omega), List.take_of_length_le (by omega)]; exact HSS.out
            have HB := Lib.hid hb
            clear hb hP hSl h
            as_aux_lemma =>
              go_wp2
              go_meet
              rw [HPP.out]
              exact ⟨⟨#[]⟩, S, rfl, rfl, rfl, ⟨rfl, HB.out⟩, HAL.out, HSP.out⟩
      · have b115 : ((cv.c.toNat : Int) == 115) = false := beq_f (d := 115) (by rw [h]; decide)
        have b99 : ((cv.c.toNat : Int) == 99) = true := beq_t (d := 99) h
        have hP : partsT cv a = ([], letterT a, false) := by unfold partsT; rw [if_neg (by rw [h]; decide), if_pos h]
        have HPP := Lib.hid hP
        have hSl : S.data.toList = a.s := by rw [HSS.out]
        obtain ⟨S2, hS2⟩ : ∃ S2 : ByteArray, S2 = ⟨(letterT a).toArray⟩ := ⟨_, rfl⟩
        have HC : Hid (∀ W, Calls Tryz.prog 43 #[.agg #[.float .f64 a.n, .string S, .bool a.num]] W fun e w' => e = .returned (.string S2) ∧ Below W.heap.size W w') := fun W => by
          have h := letter_any a.n S a.num ha W
          rw [hSl] at h
          rw [hS2]; exact h
        have HS2 := Lib.hid hS2
        clear hP hSl h hS2
        as_aux_lemma =>
          go_wp2_with (go_at_call 43; refine (HC.out _).mono ?_; rintro e w1 ⟨rfl, hb1⟩)
          go_meet
          rw [HPP.out]
          exact ⟨⟨#[]⟩, S2, rfl, rfl, rfl, ⟨rfl, HS2.out⟩, HAL.out.trans (hb1.mono HAL.out.size), HSP.out.below hb1⟩
      · have b115 : ((cv.c.toNat : Int) == 115) = false := beq_f (d := 115) (by rw [h]; decide)
        have b99 : ((cv.c.toNat : Int) == 99) = false := beq_f (d := 99) (by rw [h]; decide)
        have b100 : ((cv.c.toNat : Int) == 100) = true := beq_t (d := 100) h
        have hw : isWholeC cv.c = true := by rw [h]; decide
        have hP : partsT cv a = ((wholeT uintT cv a.n).1, (wholeT uintT cv a.n).2, finB a.n && decide (cv.prec < 0)) := by unfold partsT; rw [if_neg (by rw [h]; decide), if_neg (by rw [h]; decide), if_pos hw]
        have HPP := Lib.hid hP
        obtain ⟨S1, hS1⟩ : ∃ S1 : ByteArray, S1 = ⟨(wholeT uintT cv a.n).1.toArray⟩ := ⟨_, rfl⟩
        obtain ⟨S2, hS2⟩ : ∃ S2 : ByteArray, S2 = ⟨(wholeT uintT cv a.n).2.toArray⟩ := ⟨_, rfl⟩
        have HC : Hid (∀ W, LaidJ W → Calls Tryz.prog 44 #[.agg #[.bool cv.left, .bool cv.plus, .bool cv.blank, .bool cv.zero, .int .i64 cv.width, .int .i64 cv.prec], .int .u8 cv.c.toNat, .float .f64 a.n, .bool fb] W fun e w' => e = .returned (.tuple #[.string S1, .string S2]) ∧ Below W.heap.size W w') := fun W hW => by
          have h := whole_any cv hw a.n ha hp W hW
          rw [HFB.out] at h
          rw [hS1, hS2]; exact h
        have HS2 := Lib.hid (And.intro hS1 hS2)
        clear hP h hS1 hS2 hw
        cases fb with
        | false =>
          as_aux_lemma =>
            go_wp2_with (go_at_call 44; refine (HC.out _ (HL.out.below HAL.out)).mono ?_; rintro e w1 ⟨rfl, hb1⟩; have HS3 := Lib.hid (HSP.out.below hb1); obtain ⟨a0, a1, a2, a3, a4, a5⟩ := HS3.out)
            go_meet
            rw [HPP.out, HFB.out]
            exact ⟨S1, S2, rfl, rfl, rfl, HS2.out, HAL.out.trans (hb1.mono HAL.out.size), HS3.out⟩
        | true =>
          as_aux_lemma =>
            go_wp2_with (go_at_call 44; refine (HC.out _ (HL.out.below HAL.out)).mono ?_; rintro e w1 ⟨rfl, hb1⟩; have HS3 := Lib.hid (HSP.out.below hb1); obtain ⟨a0, a1, a2, a3, a4, a5⟩ := HS3.out)
            go_meet
            rw [HPP.out, HFB.out]
            exact ⟨S1, S2, rfl, rfl, by simp, HS2.out, HAL.out.trans (hb1.mono HAL.out.size), HS3.out⟩
      · have b115 : ((cv.c.toNat : Int) == 115) = false := beq_f (d := 115) (by rw [h]; decide)
        have b99 : ((cv.c.toNat : Int) == 99) = false := beq_f (d := 99) (by rw [h]; decide)
        have b100 : ((cv.c.toNat : Int) == 100) = false := beq_f (d := 100) (by rw [h]; decide)
        have b105 : ((cv.c.toNat : Int) == 105) = true := beq_t (d := 105) h
        have hw : isWholeC cv.c = true := by rw [h]; decide
        have hP : partsT cv a = ((wholeT uintT cv a.n).1, (wholeT uintT cv a.n).2, finB a.n && decide (cv.prec < 0)) := by unfold partsT; rw [if_neg (by rw [h]; decide), if_neg (by rw [h]; decide), if_pos hw]
        have HPP := Lib.hid hP
        obtain ⟨S1, hS1⟩ : ∃ S1 : ByteArray, S1 = ⟨(wholeT uintT cv a.n).1.toArray⟩ := ⟨_, rfl⟩
        obtain ⟨S2, hS2⟩ : ∃ S2 : ByteArray, S2 = ⟨(wholeT uintT cv a.n).2.toArray⟩ := ⟨_, rfl⟩
        have HC : Hid (∀ W, LaidJ W → Calls Tryz.prog 44 #[.agg #[.bool cv.left, .bool cv.plus, .bool cv.blank, .bool cv.zero, .int .i64 cv.width, .int .i64 cv.prec], .int .u8 cv.c.toNat, .float .f64 a.n, .bool fb] W fun e w' => e = .returned (.tuple #[.string S1, .string S2]) ∧ Below W.heap.size W w') := fun W hW => by
          have h := whole_any cv hw a.n ha hp W hW
          rw [HFB.out] at h
          rw [hS1, hS2]; exact h
        have HS2 := Lib.hid (And.intro hS1 hS2)
        clear hP h hS1 hS2 hw
        cases fb with
        | false =>
          as_aux_lemma =>
            go_wp2_with (go_at_call 44; refine (HC.out _ (HL.out.below HAL.out)).mono ?_; rintro e w1 ⟨rfl, hb1⟩; have HS3 := Lib.hid (HSP.out.below hb1); obtain ⟨a0, a1, a2, a3, a4, a5⟩ := HS3.out)
            go_meet
            rw [HPP.out, HFB.out]
            exact ⟨S1, S2, rfl, rfl, rfl, HS2.out, HAL.out.trans (hb1.mono HAL.out.size), HS3.out⟩
        | true =>
          as_aux_lemma =>
            go_wp2_with (go_at_call 44; refine (HC.out _ (HL.out.below HAL.out)).mono ?_; rintro e w1 ⟨rfl, hb1⟩; have HS3 := Lib.hid (HSP.out.below hb1); obtain ⟨a0, a1, a2, a3, a4, a5⟩ := HS3.out)
            go_meet
            rw [HPP.out, HFB.out]
            exact ⟨S1, S2, rfl, rfl, by simp, HS2.out, HAL.out.trans (hb1.mono HAL.out.size), HS3.out⟩
      · have b115 : ((cv.c.toNat : Int) == 115) = false := beq_f (d := 115) (by rw [h]; decide)
        have b99 : ((cv.c.toNat : Int) == 99) = false := beq_f (d := 99) (by rw [h]; decide)
        have b100 : ((cv.c.toNat : Int) == 100) = false := beq_f (d := 100) (by rw [h]; decide)
        have b105 : ((cv.c.toNat : Int) == 105) = false := beq_f (d := 105) (by rw [h]; decide)
        have b117 : ((cv.c.toNat : Int) == 117) = true := beq_t (d := 117) h
        have hw : isWholeC cv.c = true := by rw [h]; decide
        have hP : partsT cv a = ((wholeT uintT cv a.n).1, (wholeT uintT cv a.n).2, finB a.n && decide (cv.prec < 0)) := by unfold partsT; rw [if_neg (by rw [h]; decide), if_neg (by rw [h]; decide), if_pos hw]
        have HPP := Lib.hid hP
        obtain ⟨S1, hS1⟩ : ∃ S1 : ByteArray, S1 = ⟨(wholeT uintT cv a.n).1.toArray⟩ := ⟨_, rfl⟩
        obtain ⟨S2, hS2⟩ : ∃ S2 : ByteArray, S2 = ⟨(wholeT uintT cv a.n).2.toArray⟩ := ⟨_, rfl⟩
        have HC : Hid (∀ W, LaidJ W → Calls Tryz.prog 44 #[.agg #[.bool cv.left, .bool cv.plus, .bool cv.blank, .bool cv.zero, .int .i64 cv.width, .int .i64 cv.prec], .int .u8 cv.c.toNat, .float .f64 a.n, .bool fb] W fun e w' => e = .returned (.tuple #[.string S1, .string S2]) ∧ Below W.heap.size W w') := fun W hW => by
          have h := whole_any cv hw a.n ha hp W hW
          rw [HFB.out] at h
          rw [hS1, hS2]; exact h
        have HS2 := Lib.hid (And.intro hS1 hS2)
        clear hP h hS1 hS2 hw
        cases fb with
        | false =>
          as_aux_lemma =>
            go_wp2_with (go_at_call 44; refine (HC.out _ (HL.out.below HAL.out)).mono ?_; rintro e w1 ⟨rfl, hb1⟩; have HS3 := Lib.hid (HSP.out.below hb1); obtain ⟨a0, a1, a2, a3, a4, a5⟩ := HS3.out)
            go_meet
            rw [HPP.out, HFB.out]
            exact ⟨S1, S2, rfl, rfl, rfl, HS2.out, HAL.out.trans (hb1.mono HAL.out.size), HS3.out⟩
        | true =>
          as_aux_lemma =>
            go_wp2_with (go_at_call 44; refine (HC.out _ (HL.out.below HAL.out)).mono ?_; rintro e w1 ⟨rfl, hb1⟩; have HS3 := Lib.hid (HSP.out.below hb1); obtain ⟨a0, a1, a2, a3, a4, a5⟩ := HS3.out)
            go_meet
            rw [HPP.out, HFB.out]
            exact ⟨S1, S2, rfl, rfl, by simp, HS2.out, HAL.out.trans (hb1.mono HAL.out.size), HS3.out⟩
      · have b115 : ((cv.c.toNat : Int) == 115) = false := beq_f (d := 115) (by rw [h]; decide)
        have b99 : ((cv.c.toNat : Int) == 99) = false := beq_f (d := 99) (by rw [h]; decide)
        have b100 : ((cv.c.toNat : Int) == 100) = false := beq_f (d := 100) (by rw [h]; decide)
        have b105 : ((cv.c.toNat : Int) == 105) = false := beq_f (d := 105) (by rw [h]; decide)
        have b117 : ((cv.c.toNat : Int) == 117) = false := beq_f (d := 117) (by rw [h]; decide)
        have b111 : ((cv.c.toNat : Int) == 111) = true := beq_t (d := 111) h
        have hw : isWholeC cv.c = true := by rw [h]; decide
        have hP : partsT cv a = ((wholeT uintT cv a.n).1, (wholeT uintT cv a.n).2, finB a.n && decide (cv.prec < 0)) := by unfold partsT; rw [if_neg (by rw [h]; decide), if_neg (by rw [h]; decide), if_pos hw]
        have HPP := Lib.hid hP
        obtain ⟨S1, hS1⟩ : ∃ S1 : ByteArray, S1 = ⟨(wholeT uintT cv a.n).1.toArray⟩ := ⟨_, rfl⟩
        obtain ⟨S2, hS2⟩ : ∃ S2 : ByteArray, S2 = ⟨(wholeT uintT cv a.n).2.toArray⟩ := ⟨_, rfl⟩
        have HC : Hid (∀ W, LaidJ W → Calls Tryz.prog 44 #[.agg #[.bool cv.left, .bool cv.plus, .bool cv.blank, .bool cv.zero, .int .i64 cv.width, .int .i64 cv.prec], .int .u8 cv.c.toNat, .float .f64 a.n, .bool fb] W fun e w' => e = .returned (.tuple #[.string S1, .string S2]) ∧ Below W.heap.size W w') := fun W hW => by
          have h := whole_any cv hw a.n ha hp W hW
          rw [HFB.out] at h
          rw [hS1, hS2]; exact h
        have HS2 := Lib.hid (And.intro hS1 hS2)
        clear hP h hS1 hS2 hw
        cases fb with
        | false =>
          as_aux_lemma =>
            go_wp2_with (go_at_call 44; refine (HC.out _ (HL.out.below HAL.out)).mono ?_; rintro e w1 ⟨rfl, hb1⟩; have HS3 := Lib.hid (HSP.out.below hb1); obtain ⟨a0, a1, a2, a3, a4, a5⟩ := HS3.out)
            go_meet
            rw [HPP.out, HFB.out]
            exact ⟨S1, S2, rfl, rfl, rfl, HS2.out, HAL.out.trans (hb1.mono HAL.out.size), HS3.out⟩
        | true =>
          as_aux_lemma =>
            go_wp2_with (go_at_call 44; refine (HC.out _ (HL.out.below HAL.out)).mono ?_; rintro e w1 ⟨rfl, hb1⟩; have HS3 := Lib.hid (HSP.out.below hb1); obtain ⟨a0, a1, a2, a3, a4, a5⟩ := HS3.out)
            go_meet
            rw [HPP.out, HFB.out]
            exact ⟨S1, S2, rfl, rfl, by simp, HS2.out, HAL.out.trans (hb1.mono HAL.out.size), HS3.out⟩
      · have b115 : ((cv.c.toNat : Int) == 115) = false := beq_f (d := 115) (by rw [h]; decide)
        have b99 : ((cv.c.toNat : Int) == 99) = false := beq_f (d := 99) (by rw [h]; decide)
        have b100 : ((cv.c.toNat : Int) == 100) = false := beq_f (d := 100) (by rw [h]; decide)
        have b105 : ((cv.c.toNat : Int) == 105) = false := beq_f (d := 105) (by rw [h]; decide)
        have b117 : ((cv.c.toNat : Int) == 117) = false := beq_f (d := 117) (by rw [h]; decide)
        have b111 : ((cv.c.toNat : Int) == 111) = false := beq_f (d := 111) (by rw [h]; decide)
        have b120 : ((cv.c.toNat : Int) == 120) = true := beq_t (d := 120) h
        have hw : isWholeC cv.c = true := by rw [h]; decide
        have hP : partsT cv a = ((wholeT uintT cv a.n).1, (wholeT uintT cv a.n).2, finB a.n && decide (cv.prec < 0)) := by unfold partsT; rw [if_neg (by rw [h]; decide), if_neg (by rw [h]; decide), if_pos hw]
        have HPP := Lib.hid hP
        obtain ⟨S1, hS1⟩ : ∃ S1 : ByteArray, S1 = ⟨(wholeT uintT cv a.n).1.toArray⟩ := ⟨_, rfl⟩
        obtain ⟨S2, hS2⟩ : ∃ S2 : ByteArray, S2 = ⟨(wholeT uintT cv a.n).2.toArray⟩ := ⟨_, rfl⟩
        have HC : Hid (∀ W, LaidJ W → Calls Tryz.prog 44 #[.agg #[.bool cv.left, .bool cv.plus, .bool cv.blank, .bool cv.zero, .int .i64 cv.width, .int .i64 cv.prec], .int .u8 cv.c.toNat, .float .f64 a.n, .bool fb] W fun e w' => e = .returned (.tuple #[.string S1, .string S2]) ∧ Below W.heap.size W w') := fun W hW => by
          have h := whole_any cv hw a.n ha hp W hW
          rw [HFB.out] at h
          rw [hS1, hS2]; exact h
        have HS2 := Lib.hid (And.intro hS1 hS2)
        clear hP h hS1 hS2 hw
        cases fb with
        | false =>
          as_aux_lemma =>
            go_wp2_with (go_at_call 44; refine (HC.out _ (HL.out.below HAL.out)).mono ?_; rintro e w1 ⟨rfl, hb1⟩; have HS3 := Lib.hid (HSP.out.below hb1); obtain ⟨a0, a1, a2, a3, a4, a5⟩ := HS3.out)
            go_meet
            rw [HPP.out, HFB.out]
            exact ⟨S1, S2, rfl, rfl, rfl, HS2.out, HAL.out.trans (hb1.mono HAL.out.size), HS3.out⟩
        | true =>
          as_aux_lemma =>
            go_wp2_with (go_at_call 44; refine (HC.out _ (HL.out.below HAL.out)).mono ?_; rintro e w1 ⟨rfl, hb1⟩; have HS3 := Lib.hid (HSP.out.below hb1); obtain ⟨a0, a1, a2, a3, a4, a5⟩ := HS3.out)
            go_meet
            rw [HPP.out, HFB.out]
            exact ⟨S1, S2, rfl, rfl, by simp, HS2.out, HAL.out.trans (hb1.mono HAL.out.size), HS3.out⟩
      · have b115 : ((cv.c.toNat : Int) == 115) = false := beq_f (d := 115) (by rw [h]; decide)
        have b99 : ((cv.c.toNat : Int) == 99) = false := beq_f (d := 99) (by rw [h]; decide)
        have b100 : ((cv.c.toNat : Int) == 100) = false := beq_f (d := 100) (by rw [h]; decide)
        have b105 : ((cv.c.toNat : Int) == 105) = false := beq_f (d := 105) (by rw [h]; decide)
        have b117 : ((cv.c.toNat : Int) == 117) = false := beq_f (d := 117) (by rw [h]; decide)
        have b111 : ((cv.c.toNat : Int) == 111) = false := beq_f (d := 111) (by rw [h]; decide)
        have b120 : ((cv.c.toNat : Int) == 120) = false := beq_f (d := 120) (by rw [h]; decide)
        have b88 : ((cv.c.toNat : Int) == 88) = true := beq_t (d := 88) h
        have hw : isWholeC cv.c = true := by rw [h]; decide
        have hP : partsT cv a = ((wholeT uintT cv a.n).1, (wholeT uintT cv a.n).2, finB a.n && decide (cv.prec < 0)) := by unfold partsT; rw [if_neg (by rw [h]; decide), if_neg (by rw [h]; decide), if_pos hw]
        have HPP := Lib.hid hP
        obtain ⟨S1, hS1⟩ : ∃ S1 : ByteArray, S1 = ⟨(wholeT uintT cv a.n).1.toArray⟩ := ⟨_, rfl⟩
        obtain ⟨S2, hS2⟩ : ∃ S2 : ByteArray, S2 = ⟨(wholeT uintT cv a.n).2.toArray⟩ := ⟨_, rfl⟩
        have HC : Hid (∀ W, LaidJ W → Calls Tryz.prog 44 #[.agg #[.bool cv.left, .bool cv.plus, .bool cv.blank, .bool cv.zero, .int .i64 cv.width, .int .i64 cv.prec], .int .u8 cv.c.toNat, .float .f64 a.n, .bool fb] W fun e w' => e = .returned (.tuple #[.string S1, .string S2]) ∧ Below W.heap.size W w') := fun W hW => by
          have h := whole_any cv hw a.n ha hp W hW
          rw [HFB.out] at h
          rw [hS1, hS2]; exact h
        have HS2 := Lib.hid (And.intro hS1 hS2)
        clear hP h hS1 hS2 hw
        cases fb with
        | false =>
          as_aux_lemma =>
            go_wp2_with (go_at_call 44; refine (HC.out _ (HL.out.below HAL.out)).mono ?_; rintro e w1 ⟨rfl, hb1⟩; have HS3 := Lib.hid (HSP.out.below hb1); obtain ⟨a0, a1, a2, a3, a4, a5⟩ := HS3.out)
            go_meet
            rw [HPP.out, HFB.out]
            exact ⟨S1, S2, rfl, rfl, rfl, HS2.out, HAL.out.trans (hb1.mono HAL.out.size), HS3.out⟩
        | true =>
          as_aux_lemma =>
            go_wp2_with (go_at_call 44; refine (HC.out _ (HL.out.below HAL.out)).mono ?_; rintro e w1 ⟨rfl, hb1⟩; have HS3 := Lib.hid (HSP.out.below hb1); obtain ⟨a0, a1, a2, a3, a4, a5⟩ := HS3.out)
            go_meet
            rw [HPP.out, HFB.out]
            exact ⟨S1, S2, rfl, rfl, by simp, HS2.out, HAL.out.trans (hb1.mono HAL.out.size), HS3.out⟩
      · have hne := h
        have b115 : ((cv.c.toNat : Int) == 115) = false := beq_f (d := 115) hne.1
        have b99 : ((cv.c.toNat : Int) == 99) = false := beq_f (d := 99) hne.2.1
        have b100 : ((cv.c.toNat : Int) == 100) = false := beq_f (d := 100) hne.2.2.1
        have b105 : ((cv.c.toNat : Int) == 105) = false := beq_f (d := 105) hne.2.2.2.1
        have b117 : ((cv.c.toNat : Int) == 117) = false := beq_f (d := 117) hne.2.2.2.2.1
        have b111 : ((cv.c.toNat : Int) == 111) = false := beq_f (d := 111) hne.2.2.2.2.2.1
        have b120 : ((cv.c.toNat : Int) == 120) = false := beq_f (d := 120) hne.2.2.2.2.2.2.1
        have b88 : ((cv.c.toNat : Int) == 88) = false := beq_f (d := 88) hne.2.2.2.2.2.2.2
        have hP : partsT cv a = ((realT cv a.n).1, (realT cv a.n).2, finB a.n) := by
          unfold partsT isWholeC
          rw [if_neg hne.1, if_neg hne.2.1, if_neg (by obtain ⟨_, _, n1, n2, n3, n4, n5, n6⟩ := hne; simp [n1, n2, n3, n4, n5, n6])]
        have HPP := Lib.hid hP
        obtain ⟨S1, hS1⟩ : ∃ S1 : ByteArray, S1 = ⟨(realT cv a.n).1.toArray⟩ := ⟨_, rfl⟩
        obtain ⟨S2, hS2⟩ : ∃ S2 : ByteArray, S2 = ⟨(realT cv a.n).2.toArray⟩ := ⟨_, rfl⟩
        have HC : Hid (∀ W, LaidG W → Calls Tryz.prog 45 #[.agg #[.bool cv.left, .bool cv.plus, .bool cv.blank, .bool cv.zero, .int .i64 cv.width, .int .i64 cv.prec], .int .u8 cv.c.toNat, .float .f64 a.n, .bool fb] W fun e w' => e = .returned (.tuple #[.string S1, .string S2]) ∧ Below W.heap.size W w') := fun W hW => by
          have h := float_any cv hr a.n ha hp W hW
          rw [HFB.out] at h
          rw [hS1, hS2]; exact h
        have HS2 := Lib.hid (And.intro hS1 hS2)
        clear hP h hS1 hS2 hr hne
        as_aux_lemma =>
          go_wp2_with (go_at_call 45; refine (HC.out _ (HL.out.lg.below HAL.out)).mono ?_; rintro e w1 ⟨rfl, hb1⟩)
          go_meet
          rw [HPP.out, HFB.out]
          exact ⟨S1, S2, rfl, rfl, rfl, HS2.out, HAL.out.trans (hb1.mono HAL.out.size), HSP.out.below hb1⟩
    case rest =>
      obtain ⟨S1, S2, rfl, rfl, rfl, HSS2, HBS⟩ := hcut
      have hl := partsT_len cv a ha hs hc hp
      have z1 : S1.size = (partsT cv a).1.length := by rw [HSS2.out.1]; simp [ByteArray.size]
      have z2 : S2.size = (partsT cv a).2.1.length := by rw [HSS2.out.2]; simp [ByteArray.size]
      have HZ := Lib.hid (And.intro z1 z2)
      have hz1 : S1.size ≤ 201 := by omega
      have hz2 : S2.size ≤ 1000000 := by omega
      obtain ⟨a0, a1, a2, a3, a4, a5⟩ := HBS.out.2
      have HR : Hid (∀ (c : UInt8) (s : Int) (W : World), 0 ≤ s → s ≤ 1000 → Calls Tryz.prog 46 #[.string ⟨#[c]⟩, .int .i64 s] W fun e w' => ∃ R : ByteArray, e = .returned (.string R) ∧ Hid (R = ⟨(List.replicate s.toNat c).toArray⟩) ∧ R.size ≤ 1000 ∧ Below W.heap.size W w') := fun c s W h0 h1 => (repeat_any c s.toNat s (by omega) W (by omega)).mono fun e w' ⟨h2, h3⟩ => ⟨_, h2, rfl, by simp [ByteArray.size]; omega, h3⟩
      obtain ⟨nou, hnou⟩ : ∃ nou, (partsT cv a).2.2 = nou := ⟨_, rfl⟩
      have HNOU := Lib.hid hnou
      rw [hnou]
      clear hl z1 z2 hnou hc hs ha HSP
      by_cases hw : (cv.width : Int) - S1.size - S2.size ≤ 0
      · as_aux_lemma =>
          go_wp2
          go_ret
          exact tell_fill HSS2.out.1 HSS2.out.2 HNOU.out HBS.out.1 (fillB_none (by have := HZ.out; omega))
      · have hf0 : 0 ≤ (cv.width : Int) - S1.size - S2.size := by omega
        have hf1 : (cv.width : Int) - S1.size - S2.size ≤ 1000 := by omega
        cases hl : cv.left with
        | true =>
          rw [hl] at a0
          have HLf := Lib.hid hl
          clear hl
          as_aux_lemma =>
            go_wp2_with (go_at_call 46; refine (HR.out _ _ _ hf0 hf1).mono ?_; rintro e w9 ⟨R, rfl, HR2, hRz, hb8⟩; have hb9 := HBS.out.1.trans (hb8.mono HBS.out.1.size))
            go_ret
            exact tell_fill HSS2.out.1 HSS2.out.2 HNOU.out hb9 (fillB_left (by have := HZ.out; omega) HLf.out HR2.out)
        | false =>
          rw [hl] at a0
          have HLf := Lib.hid hl
          clear hl
          cases hzr : cv.zero with
          | true =>
            rw [hzr] at a3
            have HZr := Lib.hid hzr
            clear hzr
            cases nou with
            | true =>
              as_aux_lemma =>
                go_wp2_with (go_at_call 46; refine (HR.out _ _ _ hf0 hf1).mono ?_; rintro e w9 ⟨R, rfl, HR2, hRz, hb8⟩; have hb9 := HBS.out.1.trans (hb8.mono HBS.out.1.size))
                go_ret
                exact tell_fill HSS2.out.1 HSS2.out.2 HNOU.out hb9 (fillB_zero (by have := HZ.out; omega) HLf.out (by rw [HZr.out]; rfl) HR2.out)
            | false =>
              as_aux_lemma =>
                go_wp2_with (go_at_call 46; refine (HR.out _ _ _ hf0 hf1).mono ?_; rintro e w9 ⟨R, rfl, HR2, hRz, hb8⟩; have hb9 := HBS.out.1.trans (hb8.mono HBS.out.1.size))
                go_ret
                exact tell_fill HSS2.out.1 HSS2.out.2 HNOU.out hb9 (fillB_blank (by have := HZ.out; omega) HLf.out (by rw [HZr.out]; rfl) HR2.out)
          | false =>
            rw [hzr] at a3
            have HZr := Lib.hid hzr
            clear hzr
            as_aux_lemma =>
              go_wp2_with (go_at_call 46; refine (HR.out _ _ _ hf0 hf1).mono ?_; rintro e w9 ⟨R, rfl, HR2, hRz, hb8⟩; have hb9 := HBS.out.1.trans (hb8.mono HBS.out.1.size))
              go_ret
              exact tell_fill HSS2.out.1 HSS2.out.2 HNOU.out hb9 (fillB_blank (by have := HZ.out; omega) HLf.out (by rw [HZr.out]; rfl) HR2.out)

end Go.Proofs.YtdencljnbilchaaGreatDoor
