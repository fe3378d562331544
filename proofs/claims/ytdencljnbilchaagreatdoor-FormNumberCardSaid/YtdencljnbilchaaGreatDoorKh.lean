/- The walk of the reference's body, at numbers' letters. The walk of the reference's body at s and c; body at any letter. The reference's body at c. -/
import Derived.Test.YtdencljnbilchaaGreatDoorKe

namespace Go.Proofs.YtdencljnbilchaaGreatDoor
open Go.RowKit

/-- What body leaves. -/
def RBodyEnd (cv : FConv) (a : FArg) (w : World) (e : Ending) (w' : World) : Prop :=
  e = .returned (.tuple #[.string ⟨(partsT cv a).1.toArray⟩, .string ⟨(partsT cv a).2.1.toArray⟩, .bool (partsT cv a).2.2]) ∧ Below w.heap.size w w'

theorem rbody_end {cv : FConv} {a : FArg} {w w' : World} {S D : ByteArray} {nb : Bool} {p : List UInt8 × List UInt8 × Bool} (h : partsT cv a = p) (h1 : S = ⟨p.1.toArray⟩) (h2 : D = ⟨p.2.1.toArray⟩) (h3 : p.2.2 = nb) (hb : Below w.heap.size w w') :
    RBodyEnd cv a w (.returned (.tuple #[.string S, .string D, .bool nb])) w' := by
  refine ⟨?_, hb⟩
  rw [h, ← h3, h1, h2]

set_option maxRecDepth 100000 in
set_option maxHeartbeats 8000000 in
theorem rbody_num (cv : FConv) (hc : isWholeC cv.c = true ∨ isRealC cv.c = true) (hp : cv.prec ≤ 200) (a : FArg) (ha : a.n < 18446744073709551616) (w : World) (hL : LaidJ w) :
    Calls Tryz.prog 31 #[.agg #[.bool cv.left, .bool cv.plus, .bool cv.blank, .bool cv.zero, .int .i64 cv.width, .int .i64 cv.prec, .int .u8 cv.c.toNat], .agg #[.float .f64 a.n, .string ⟨a.s.toArray⟩, .bool a.num]] w (RBodyEnd cv a w) := by
  have hn99 : cv.c ≠ 99 := by
    rcases hc with h | h
    · rcases wholeC_cases h with q | q | q | q | q | q <;> rw [q] <;> decide
    · intro q; unfold isRealC at h; rw [q] at h; exact absurd h (by decide)
  have hn115 : cv.c ≠ 115 := by
    rcases hc with h | h
    · rcases wholeC_cases h with q | q | q | q | q | q <;> rw [q] <;> decide
    · intro q; unfold isRealC at h; rw [q] at h; exact absurd h (by decide)
  have b99 : ((cv.c.toNat : Int) == 99) = false := beq_f (d := 99) hn99
  have b115 : ((cv.c.toNat : Int) == 115) = false := beq_f (d := 115) hn115
  have HAB : Hid (∀ W, Calls Tryz.prog 41 #[.float .f64 a.n] W fun e w' => e = .returned (.float .f64 (absN a.n)) ∧ W = w') := fun W => abs_any _ ha W
  obtain ⟨lz, hlz⟩ : ∃ lz, (FloatKind.f64.format.order a.n 0 == some .lt) = lz := ⟨_, rfl⟩
  have HLZ : Hid (ltz a.n = lz) := hlz
  have HL := Lib.hid hL
  have HC := Lib.hid hc
  obtain ⟨S, hS⟩ : ∃ S : ByteArray, S = ⟨a.s.toArray⟩ := ⟨_, rfl⟩
  rw [← hS]
  obtain ⟨SG, hSG⟩ : ∃ SG : ByteArray, SG = ⟨(rsign cv a.n).toArray⟩ := ⟨_, rfl⟩
  have HSG := Lib.hid hSG
  have HQ : Hid ((∃ k : UInt8, (k = 117 ∨ k = 111 ∨ k = 120 ∨ k = 88) ∧ cv.c = k) ∨ ¬ (cv.c = 117 ∨ cv.c = 111 ∨ cv.c = 120 ∨ cv.c = 88)) := by
    by_cases h : cv.c = 117 ∨ cv.c = 111 ∨ cv.c = 120 ∨ cv.c = 88
    · exact .inl ⟨cv.c, h, rfl⟩
    · exact .inr h
  clear hn99 hn115 hL hc hS hSG
  go_enter Tryz.func31, Tryz.ntmps31
  go_upto_if 65 with (go_at_call 41; refine (HAB.out _).mono ?_; rintro e w' ⟨rfl, rfl⟩)
  have hb0 : Below w.heap.size w ((w.alloc (.cells #[.bool cv.left, .bool cv.plus, .bool cv.blank, .bool cv.zero, .int .i64 cv.width, .int .i64 cv.prec, .int .u8 cv.c.toNat] 67)).alloc (.cells #[.float .f64 a.n, .string S, .bool a.num] 52)) := ((Below.refl _ _).alloc (Nat.le_refl _) _).alloc (by simp) _
  have hsp : RdW w ((w.alloc (.cells #[.bool cv.left, .bool cv.plus, .bool cv.blank, .bool cv.zero, .int .i64 cv.width, .int .i64 cv.prec, .int .u8 cv.c.toNat] 67)).alloc (.cells #[.float .f64 a.n, .string S, .bool a.num] 52)) cv.left cv.plus cv.blank cv.zero cv.width cv.prec cv.c.toNat := RdW.below ⟨SpR.new w _, (Below.refl _ _).alloc (Nat.le_refl _) _⟩ ((Below.refl _ _).alloc (Nat.le_refl _) _)
  have har : ((w.alloc (.cells #[.bool cv.left, .bool cv.plus, .bool cv.blank, .bool cv.zero, .int .i64 cv.width, .int .i64 cv.prec, .int .u8 cv.c.toNat] 67)).alloc (.cells #[.float .f64 a.n, .string S, .bool a.num] 52)).cell? ⟨w.heap.size + 1, 0, none⟩ = some (.float .f64 a.n) := by
    have e : (w.alloc (.cells #[.bool cv.left, .bool cv.plus, .bool cv.blank, .bool cv.zero, .int .i64 cv.width, .int .i64 cv.prec, .int .u8 cv.c.toNat] 67)).heap.size = w.heap.size + 1 := by simp
    rw [← e, World.cell?_alloc_at _ _ _ _ rfl]; rfl
  have HSP := Lib.hid hsp
  have HAR := Lib.hid har
  clear hb0 hsp har
  go_cut [4] (fun s wx => s = .string (if lz = true then ⟨#[45]⟩ else ⟨#[]⟩) ∧ Hid (RdW w wx cv.left cv.plus cv.blank cv.zero cv.width cv.prec cv.c.toNat) ∧ Hid (wx.cell? ⟨w.heap.size + 1, 0, none⟩ = some (.float .f64 a.n)))
  case first =>
    cases lz <;>
    · as_aux_lemma =>
        go_wp2
        go_meet
        exact ⟨rfl, HSP, HAR⟩
  case rest =>
    obtain ⟨rfl, HSP1, HAR1⟩ := hcut
    clear HSP HAR
    rename World => W0
    obtain ⟨⟨⟨s0, s1, s2, s3, s4, s5, sfz, sty⟩, s6⟩, _⟩ := HSP1.out
    clear sfz sty
    have r0 := HAR1.out
    go_upto_region 16 with (fail)
    go_cut [87] (fun v wx => ∃ c : Bool, v = .bool c ∧ W0 = wx ∧ Hid ((c = true ∧ lz = false ∧ ¬ (cv.c = 117 ∨ cv.c = 111 ∨ cv.c = 120 ∨ cv.c = 88)) ∨ (c = false ∧ (lz = true ∨ (cv.c = 117 ∨ cv.c = 111 ∨ cv.c = 120 ∨ cv.c = 88)))))
    case first =>
      cases lz with
      | true =>
        as_aux_lemma =>
          go_wp2
          go_meet
          exact ⟨false, rfl, rfl, .inr ⟨rfl, .inl (by first | rfl | trivial)⟩⟩
      | false =>
        rcases HQ.out with ⟨k, hk, hck⟩ | hq
        · have HK := Lib.hid (And.intro hk hck)
          rcases hk with rfl | rfl | rfl | rfl
          · have n117 : ((cv.c.toNat : Int) != 117) = false := bne_f (d := 117) hck
            clear hck
            as_aux_lemma =>
              go_wp2
              go_meet
              exact ⟨false, rfl, rfl, .inr ⟨rfl, .inr (by have := HK.out.2; simp [this])⟩⟩
          · have n117 : ((cv.c.toNat : Int) != 117) = true := bne_t (d := 117) (by rw [hck]; decide)
            have n111 : ((cv.c.toNat : Int) != 111) = false := bne_f (d := 111) hck
            clear hck
            as_aux_lemma =>
              go_wp2
              go_meet
              exact ⟨false, rfl, rfl, .inr ⟨rfl, .inr (by have := HK.out.2; simp [this])⟩⟩
          · have n117 : ((cv.c.toNat : Int) != 117) = true := bne_t (d := 117) (by rw [hck]; decide)
            have n111 : ((cv.c.toNat : Int) != 111) = true := bne_t (d := 111) (by rw [hck]; decide)
            have n120 : ((cv.c.toNat : Int) != 120) = false := bne_f (d := 120) hck
            clear hck
            as_aux_lemma =>
              go_wp2
              go_meet
              exact ⟨false, rfl, rfl, .inr ⟨rfl, .inr (by have := HK.out.2; simp [this])⟩⟩
          · have n117 : ((cv.c.toNat : Int) != 117) = true := bne_t (d := 117) (by rw [hck]; decide)
            have n111 : ((cv.c.toNat : Int) != 111) = true := bne_t (d := 111) (by rw [hck]; decide)
            have n120 : ((cv.c.toNat : Int) != 120) = true := bne_t (d := 120) (by rw [hck]; decide)
            have n88 : ((cv.c.toNat : Int) != 88) = false := bne_f (d := 88) hck
            clear hck
            as_aux_lemma =>
              go_wp2
              go_meet
              exact ⟨false, rfl, rfl, .inr ⟨rfl, .inr (by have := HK.out.2; simp [this])⟩⟩
        · have n117 : ((cv.c.toNat : Int) != 117) = true := bne_t (d := 117) (fun h => hq (.inl h))
          have n111 : ((cv.c.toNat : Int) != 111) = true := bne_t (d := 111) (fun h => hq (.inr (.inl h)))
          have n120 : ((cv.c.toNat : Int) != 120) = true := bne_t (d := 120) (fun h => hq (.inr (.inr (.inl h))))
          have n88 : ((cv.c.toNat : Int) != 88) = true := bne_t (d := 88) (fun h => hq (.inr (.inr (.inr h))))
          have HQ2 := Lib.hid hq
          clear hq
          as_aux_lemma =>
            go_wp2
            go_meet
            exact ⟨true, rfl, rfl, .inl ⟨rfl, by first | rfl | trivial, HQ2.out⟩⟩
    case rest =>
      obtain ⟨c, rfl, rfl, HCC⟩ := hcut
      go_upto_if 87 with (fail)
      go_cut [0, 4] (fun _ s wx => s = .string SG ∧ W0 = wx)
      case first =>
        rcases HCC.out with ⟨rfl, rfl, hq⟩ | ⟨rfl, hq⟩
        · have HS2 : Hid (SG = ⟨(signT cv.plus cv.blank false).toArray⟩) := by
            unfold Hid; rw [HSG.out]; unfold rsign
            rw [if_neg (by rw [HLZ.out]; simp), if_neg hq]
          clear hq
          cases hp1 : cv.plus <;> cases hp2 : cv.blank <;> rw [hp1] at s1 <;> rw [hp2] at s2 <;> rw [hp1, hp2] at HS2 <;>
          · as_aux_lemma =>
              go_wp2
              go_meet
              exact ⟨by rw [HS2.out]; rfl, rfl⟩
        · have HS2 : Hid (SG = if lz = true then ⟨#[45]⟩ else ⟨#[]⟩) := by
            unfold Hid; rw [HSG.out]; unfold rsign
            rw [HLZ.out]
            cases lz with
            | true => rfl
            | false => rw [if_neg (by simp), if_pos (hq.resolve_left (by simp))]; rfl
          clear hq
          cases lz <;>
          · as_aux_lemma =>
              go_wp2
              go_meet
              exact ⟨by rw [HS2.out]; rfl, rfl⟩
      case rest =>
        obtain ⟨rfl, rfl⟩ := hcut
        clear HCC HQ
        cases hfb : finB a.n with
        | false =>
          obtain ⟨e1, e2, e3, e4, e5, e6⟩ := non_fin ha hfb
          have HPT := Lib.hid (parts_non HC.out hfb e1)
          have HFI := Lib.hid e6
          obtain ⟨D, hD⟩ : ∃ D : ByteArray, D = ⟨(bareT a.n).1.toArray⟩ := ⟨_, rfl⟩
          have HDG : Hid (∀ W, LaidJ W → Calls Tryz.prog 38 #[.float .f64 (absN a.n)] W fun e w' => e = .returned (.string D) ∧ Below W.heap.size W w') := fun W hW => by
            have h := rdigits_bare (absN a.n) e5 W hW.lg
            rw [e2, e3] at h
            rw [hD]; exact h
          have HD := Lib.hid hD
          clear e1 e2 e3 e4 e5 e6 hD hfb
          go_wp2_with (first
            | (go_at_call 37; refine (HFI.out _).mono ?_; rintro e w' ⟨rfl, rfl⟩)
            | (go_at_call 38; refine (HDG.out _ (HL.out.below HSP1.out.2)).mono ?_; rintro e w2 ⟨rfl, hb2⟩))
          refine bodyPost_ret (v := .tuple #[.string SG, .string D, .bool false]) (by simp [results, Tryz.results31, go_sem]) rfl ?_
          exact rbody_end HPT.out HSG.out HD.out rfl (HSP1.out.2.trans (hb2.mono HSP1.out.2.size))
        | true =>
          have hf := (finB_iff _).1 hfb
          have HFI : Hid (FinA (absN a.n) true) := fun W => rfinite_fin _ (absN_ok hf).2.1 W
          rcases HC.out with hw | hr
          · have HWH0 := fun W hW => rwhole_any cv hw a.n ha hf hp W hW
            obtain ⟨S1, hS1⟩ : ∃ S1 : ByteArray, S1 = ⟨(wholeT uintT cv a.n).1.toArray⟩ := ⟨_, rfl⟩
            obtain ⟨D1, hD1⟩ : ∃ D1 : ByteArray, D1 = ⟨(wholeT uintT cv a.n).2.toArray⟩ := ⟨_, rfl⟩
            have HWH : Hid (∀ W, LaidJ W → Calls Tryz.prog 48 #[.agg #[.bool cv.left, .bool cv.plus, .bool cv.blank, .bool cv.zero, .int .i64 cv.width, .int .i64 cv.prec, .int .u8 cv.c.toNat], .float .f64 a.n, .string SG] W fun e w' => e = .returned (.tuple #[.string S1, .string D1, .bool (decide (cv.prec < 0))]) ∧ Below W.heap.size W w') := fun W hW => by
              have h := HWH0 W hW
              rw [HSG.out, rsign_fin hf, hS1, hD1]; exact h
            have HSD := Lib.hid (And.intro hS1 hD1)
            have hl : cv.c ≠ 115 ∧ cv.c ≠ 99 := by rcases wholeC_cases hw with q | q | q | q | q | q <;> rw [q] <;> decide
            have HPT : Hid (partsT cv a = ((wholeT uintT cv a.n).1, (wholeT uintT cv a.n).2, decide (cv.prec < 0))) := by
              unfold Hid partsT
              rw [if_neg hl.1, if_neg hl.2, if_pos hw, hfb, Bool.true_and]
            have hcs := wholeC_cases hw
            clear HWH0 hS1 hD1 hl hf hfb hw
            rcases hcs with hck | hck | hck | hck | hck | hck
            · have c100 : ((cv.c.toNat : Int) == 100) = true := beq_t (d := 100) hck
              clear hck
              go_wp2_with (first
                | (go_at_call 37; refine (HFI.out _).mono ?_; rintro e w' ⟨rfl, rfl⟩)
                | (go_at_call 48; refine (HWH.out _ (HL.out.below HSP1.out.2)).mono ?_; rintro e w2 ⟨rfl, hb2⟩))
              refine bodyPost_ret (v := .tuple #[.string S1, .string D1, .bool (decide (cv.prec < 0))]) (by simp [results, Tryz.results31, go_sem]) rfl ?_
              exact rbody_end HPT.out HSD.out.1 HSD.out.2 rfl (HSP1.out.2.trans (hb2.mono HSP1.out.2.size))
            · have c100 : ((cv.c.toNat : Int) == 100) = false := beq_f (d := 100) (by rw [hck]; decide)
              have c105 : ((cv.c.toNat : Int) == 105) = true := beq_t (d := 105) hck
              clear hck
              go_wp2_with (first
                | (go_at_call 37; refine (HFI.out _).mono ?_; rintro e w' ⟨rfl, rfl⟩)
                | (go_at_call 48; refine (HWH.out _ (HL.out.below HSP1.out.2)).mono ?_; rintro e w2 ⟨rfl, hb2⟩))
              refine bodyPost_ret (v := .tuple #[.string S1, .string D1, .bool (decide (cv.prec < 0))]) (by simp [results, Tryz.results31, go_sem]) rfl ?_
              exact rbody_end HPT.out HSD.out.1 HSD.out.2 rfl (HSP1.out.2.trans (hb2.mono HSP1.out.2.size))
            · have c100 : ((cv.c.toNat : Int) == 100) = false := beq_f (d := 100) (by rw [hck]; decide)
              have c105 : ((cv.c.toNat : Int) == 105) = false := beq_f (d := 105) (by rw [hck]; decide)
              have c117 : ((cv.c.toNat : Int) == 117) = true := beq_t (d := 117) hck
              clear hck
              go_wp2_with (first
                | (go_at_call 37; refine (HFI.out _).mono ?_; rintro e w' ⟨rfl, rfl⟩)
                | (go_at_call 48; refine (HWH.out _ (HL.out.below HSP1.out.2)).mono ?_; rintro e w2 ⟨rfl, hb2⟩))
              refine bodyPost_ret (v := .tuple #[.string S1, .string D1, .bool (decide (cv.prec < 0))]) (by simp [results, Tryz.results31, go_sem]) rfl ?_
              exact rbody_end HPT.out HSD.out.1 HSD.out.2 rfl (HSP1.out.2.trans (hb2.mono HSP1.out.2.size))
            · have c100 : ((cv.c.toNat : Int) == 100) = false := beq_f (d := 100) (by rw [hck]; decide)
              have c105 : ((cv.c.toNat : Int) == 105) = false := beq_f (d := 105) (by rw [hck]; decide)
              have c117 : ((cv.c.toNat : Int) == 117) = false := beq_f (d := 117) (by rw [hck]; decide)
              have c111 : ((cv.c.toNat : Int) == 111) = true := beq_t (d := 111) hck
              clear hck
              go_wp2_with (first
                | (go_at_call 37; refine (HFI.out _).mono ?_; rintro e w' ⟨rfl, rfl⟩)
                | (go_at_call 48; refine (HWH.out _ (HL.out.below HSP1.out.2)).mono ?_; rintro e w2 ⟨rfl, hb2⟩))
              refine bodyPost_ret (v := .tuple #[.string S1, .string D1, .bool (decide (cv.prec < 0))]) (by simp [results, Tryz.results31, go_sem]) rfl ?_
              exact rbody_end HPT.out HSD.out.1 HSD.out.2 rfl (HSP1.out.2.trans (hb2.mono HSP1.out.2.size))
            · have c100 : ((cv.c.toNat : Int) == 100) = false := beq_f (d := 100) (by rw [hck]; decide)
              have c105 : ((cv.c.toNat : Int) == 105) = false := beq_f (d := 105) (by rw [hck]; decide)
              have c117 : ((cv.c.toNat : Int) == 117) = false := beq_f (d := 117) (by rw [hck]; decide)
              have c111 : ((cv.c.toNat : Int) == 111) = false := beq_f (d := 111) (by rw [hck]; decide)
              have c120 : ((cv.c.toNat : Int) == 120) = true := beq_t (d := 120) hck
              clear hck
              go_wp2_with (first
                | (go_at_call 37; refine (HFI.out _).mono ?_; rintro e w' ⟨rfl, rfl⟩)
                | (go_at_call 48; refine (HWH.out _ (HL.out.below HSP1.out.2)).mono ?_; rintro e w2 ⟨rfl, hb2⟩))
              refine bodyPost_ret (v := .tuple #[.string S1, .string D1, .bool (decide (cv.prec < 0))]) (by simp [results, Tryz.results31, go_sem]) rfl ?_
              exact rbody_end HPT.out HSD.out.1 HSD.out.2 rfl (HSP1.out.2.trans (hb2.mono HSP1.out.2.size))
            · have c100 : ((cv.c.toNat : Int) == 100) = false := beq_f (d := 100) (by rw [hck]; decide)
              have c105 : ((cv.c.toNat : Int) == 105) = false := beq_f (d := 105) (by rw [hck]; decide)
              have c117 : ((cv.c.toNat : Int) == 117) = false := beq_f (d := 117) (by rw [hck]; decide)
              have c111 : ((cv.c.toNat : Int) == 111) = false := beq_f (d := 111) (by rw [hck]; decide)
              have c120 : ((cv.c.toNat : Int) == 120) = false := beq_f (d := 120) (by rw [hck]; decide)
              have c88 : ((cv.c.toNat : Int) == 88) = true := beq_t (d := 88) hck
              clear hck
              go_wp2_with (first
                | (go_at_call 37; refine (HFI.out _).mono ?_; rintro e w' ⟨rfl, rfl⟩)
                | (go_at_call 48; refine (HWH.out _ (HL.out.below HSP1.out.2)).mono ?_; rintro e w2 ⟨rfl, hb2⟩))
              refine bodyPost_ret (v := .tuple #[.string S1, .string D1, .bool (decide (cv.prec < 0))]) (by simp [results, Tryz.results31, go_sem]) rfl ?_
              exact rbody_end HPT.out HSD.out.1 HSD.out.2 rfl (HSP1.out.2.trans (hb2.mono HSP1.out.2.size))
          · have hr6 : cv.c = 102 ∨ cv.c = 70 ∨ cv.c = 101 ∨ cv.c = 69 ∨ cv.c = 103 ∨ cv.c = 71 := by
              have h := hr
              unfold isRealC at h
              simpa [or_assoc] using h
            have hno : cv.c ≠ 100 ∧ cv.c ≠ 105 ∧ cv.c ≠ 117 ∧ cv.c ≠ 111 ∧ cv.c ≠ 120 ∧ cv.c ≠ 88 ∧ cv.c ≠ 115 ∧ cv.c ≠ 99 ∧ isWholeC cv.c = false := by
              rcases hr6 with q | q | q | q | q | q <;> rw [q] <;> decide
            obtain ⟨m1, m2, m3, m4, m5, m6, m7, m8, m9⟩ := hno
            have c100 : ((cv.c.toNat : Int) == 100) = false := beq_f (d := 100) m1
            have c105 : ((cv.c.toNat : Int) == 105) = false := beq_f (d := 105) m2
            have c117 : ((cv.c.toNat : Int) == 117) = false := beq_f (d := 117) m3
            have c111 : ((cv.c.toNat : Int) == 111) = false := beq_f (d := 111) m4
            have c120 : ((cv.c.toNat : Int) == 120) = false := beq_f (d := 120) m5
            have c88 : ((cv.c.toNat : Int) == 88) = false := beq_f (d := 88) m6
            obtain ⟨y1, y2, y3⟩ := absN_ok hf
            have hP : 0 ≤ realP cv.c cv.prec ∧ realP cv.c cv.prec ≤ 1000 := by unfold realP; split <;> split <;> omega
            have hF : fmtOk (realF cv.c) := by
              unfold realF fmtOk
              rcases hr6 with q | q | q | q | q | q <;> rw [q] <;> decide
            obtain ⟨D, hD⟩ : ∃ D : ByteArray, D = ⟨(floatT (absN a.n) (realF cv.c) (realP cv.c cv.prec)).toArray⟩ := ⟨_, rfl⟩
            have HFF : Hid (∀ W, LaidJ W → Calls Tryz.prog 32 #[.float .f64 (absN a.n), .int .u8 (realF cv.c), .int .i64 (realP cv.c cv.prec), .int .i64 64] W fun e w' => e = .returned (.string D) ∧ Below W.heap.size W w') := fun W hW => by
              rw [hD]; exact (format_all (absN a.n) (realF cv.c) (realP cv.c cv.prec) y1 y2 y3 hF hP.1 hP.2).2 W hW.lg
            have HPT : Hid (partsT cv a = (rsign cv a.n, floatT (absN a.n) (realF cv.c) (realP cv.c cv.prec), true)) := by
              unfold Hid partsT
              rw [if_neg m7, if_neg m8, if_neg (by rw [m9]; simp), hfb]
              unfold realT
              rw [if_pos hfb]
              have h' : ¬ (cv.c = 117 ∨ cv.c = 111 ∨ cv.c = 120 ∨ cv.c = 88) := fun h => by
                rcases h with q | q | q | q
                · exact m3 q
                · exact m4 q
                · exact m5 q
                · exact m6 q
              have hs : rsign cv a.n = signT cv.plus cv.blank (decide (scal a.n < 0)) := by
                unfold rsign
                rw [ltz_fin hf]
                by_cases h : scal a.n < 0
                · rw [decide_eq_true h]; rfl
                · rw [decide_eq_false h, if_neg (by simp), if_neg h']
              rw [hs]; rfl
            have HD := Lib.hid hD
            obtain ⟨p1, hp1⟩ : ∃ p1 : Int, (if cv.prec < 0 then 6 else cv.prec) = p1 := ⟨_, rfl⟩
            obtain ⟨lf, hlf⟩ : ∃ lf : Nat, realF cv.c = lf := ⟨_, rfl⟩
            obtain ⟨P, hPP⟩ : ∃ P : Int, realP cv.c cv.prec = P := ⟨_, rfl⟩
            have hP3 : P = if cv.c = 103 ∨ cv.c = 71 then max p1 1 else p1 := by rw [← hPP, ← hp1]; rfl
            have hp10 : 0 ≤ p1 := by rw [← hp1]; split <;> omega
            rw [hlf, hPP] at HFF
            have HP1 := Lib.hid hp1
            have HLF := Lib.hid hlf
            have HP3 := Lib.hid hP3
            have HR6 := Lib.hid hr6
            clear m1 m2 m3 m4 m5 m6 m7 m8 m9 y1 y2 y3 hP hF hD hp1 hlf hPP hP3 hr6 hr hf hfb
            go_upto_if 118 with (go_at_call 37; refine (HFI.out _).mono ?_; rintro e w' ⟨rfl, rfl⟩)
            go_cut [9] (fun p wx => p = .int .i64 p1 ∧ W0 = wx)
            case first =>
              by_cases hn : cv.prec < 0
              · have HE : Hid (p1 = 6) := by unfold Hid; rw [← HP1.out, if_pos hn]
                as_aux_lemma =>
                  go_wp2
                  go_meet
                  exact ⟨by rw [HE.out], rfl⟩
              · have HE : Hid (p1 = cv.prec) := by unfold Hid; rw [← HP1.out, if_neg hn]
                as_aux_lemma =>
                  go_wp2
                  go_meet
                  exact ⟨by rw [HE.out], rfl⟩
            case rest =>
              obtain ⟨rfl, rfl⟩ := hcut
              go_upto_if 122 with (fail)
              go_cut [10] (fun l wx => l = .int .u8 lf ∧ W0 = wx)
              case first =>
                by_cases h70 : cv.c = 70
                · have c70 : ((cv.c.toNat : Int) == 70) = true := beq_t (d := 70) h70
                  have HE : Hid (lf = 102) := by unfold Hid; rw [← HLF.out, h70]; decide
                  clear h70
                  as_aux_lemma =>
                    go_wp2
                    go_meet
                    exact ⟨by rw [HE.out]; rfl, rfl⟩
                · have c70 : ((cv.c.toNat : Int) == 70) = false := beq_f (d := 70) h70
                  have HE : Hid (lf = cv.c.toNat) := by unfold Hid; rw [← HLF.out]; unfold realF; rw [if_neg h70]
                  clear h70
                  as_aux_lemma =>
                    go_wp2
                    go_meet
                    exact ⟨by rw [HE.out], rfl⟩
              case rest =>
                obtain ⟨rfl, rfl⟩ := hcut
                have HG : Hid (((cv.c = 103 ∨ cv.c = 71) ∧ (((lf : Int) == 103) = true ∨ (((lf : Int) == 103) = false ∧ ((lf : Int) == 71) = true))) ∨ (¬ (cv.c = 103 ∨ cv.c = 71) ∧ ((lf : Int) == 103) = false ∧ ((lf : Int) == 71) = false)) := by
                  have h := HLF.out
                  unfold Hid
                  rcases HR6.out with q | q | q | q | q | q <;> rw [q] at h ⊢ <;> subst h <;> decide
                go_upto_region 37 with (fail)
                go_cut [132] (fun v wx => ∃ c' : Bool, v = .bool c' ∧ W0 = wx ∧ Hid ((c' = true ∧ (cv.c = 103 ∨ cv.c = 71) ∧ p1 = 0) ∨ (c' = false ∧ ¬ ((cv.c = 103 ∨ cv.c = 71) ∧ p1 = 0))))
                case first =>
                  by_cases hp0 : p1 = 0
                  · have cp : (p1 == 0) = true := beq_iff_eq.2 hp0
                    have HP0 := Lib.hid hp0
                    clear hp0
                    rcases HG.out with ⟨g, g1 | ⟨g1, g2⟩⟩ | ⟨g, g1, g2⟩
                    · have HGG := Lib.hid g
                      clear g
                      as_aux_lemma =>
                        go_wp2
                        go_meet
                        exact ⟨true, rfl, rfl, .inl ⟨rfl, HGG.out, HP0.out⟩⟩
                    · have HGG := Lib.hid g
                      clear g
                      as_aux_lemma =>
                        go_wp2
                        go_meet
                        exact ⟨true, rfl, rfl, .inl ⟨rfl, HGG.out, HP0.out⟩⟩
                    · have HGG := Lib.hid g
                      clear g
                      as_aux_lemma =>
                        go_wp2
                        go_meet
                        exact ⟨false, rfl, rfl, .inr ⟨rfl, fun h => HGG.out h.1⟩⟩
                  · have cp : (p1 == 0) = false := beq_eq_false_iff_ne.2 hp0
                    have HP0 := Lib.hid hp0
                    clear hp0
                    rcases HG.out with ⟨_, g1 | ⟨g1, g2⟩⟩ | ⟨_, g1, g2⟩ <;>
                    · as_aux_lemma =>
                        go_wp2
                        go_meet
                        exact ⟨false, rfl, rfl, .inr ⟨rfl, fun h => HP0.out h.2⟩⟩
                case rest =>
                  obtain ⟨c', rfl, rfl, HC2⟩ := hcut
                  go_upto_if 132 with (fail)
                  go_cut [9] (fun p wx => p = .int .i64 P ∧ W0 = wx)
                  case first =>
                    rcases HC2.out with ⟨rfl, g, h0⟩ | ⟨rfl, g⟩
                    · have HE : Hid (P = 1) := by unfold Hid; rw [HP3.out, if_pos g, h0]; decide
                      clear g h0
                      as_aux_lemma =>
                        go_wp2
                        go_meet
                        exact ⟨by rw [HE.out], rfl⟩
                    · have HE : Hid (P = p1) := by
                        unfold Hid; rw [HP3.out]
                        by_cases h : cv.c = 103 ∨ cv.c = 71
                        · have : p1 ≠ 0 := fun h0 => g ⟨h, h0⟩
                          rw [if_pos h]; omega
                        · rw [if_neg h]
                      clear g
                      as_aux_lemma =>
                        go_wp2
                        go_meet
                        exact ⟨by rw [HE.out], rfl⟩
                  case rest =>
                    obtain ⟨rfl, rfl⟩ := hcut
                    go_wp2_with (go_at_call 32; refine (HFF.out _ (HL.out.below HSP1.out.2)).mono ?_; rintro e w2 ⟨rfl, hb2⟩)
                    refine bodyPost_ret (v := .tuple #[.string SG, .string D, .bool true]) (by simp [results, Tryz.results31, go_sem]) rfl ?_
                    exact rbody_end HPT.out HSG.out HD.out rfl (HSP1.out.2.trans (hb2.mono HSP1.out.2.size))

end Go.Proofs.YtdencljnbilchaaGreatDoor

namespace Go.Proofs.YtdencljnbilchaaGreatDoor
open Go.RowKit

theorem min_cast (p : Int) (hp : 0 ≤ p) (n : Nat) : (min p (n : Int)).toNat = min p.toNat n := by omega

set_option maxRecDepth 100000 in
set_option maxHeartbeats 2000000 in
theorem rbody_s (cv : FConv) (hc : cv.c = 115) (a : FArg) (w : World) :
    Calls Tryz.prog 31 #[.agg #[.bool cv.left, .bool cv.plus, .bool cv.blank, .bool cv.zero, .int .i64 cv.width, .int .i64 cv.prec, .int .u8 cv.c.toNat], .agg #[.float .f64 a.n, .string ⟨a.s.toArray⟩, .bool a.num]] w (RBodyEnd cv a w) := by
  have b99 : ((cv.c.toNat : Int) == 99) = false := beq_f (d := 99) (by rw [hc]; decide)
  have b115 : ((cv.c.toNat : Int) == 115) = true := beq_t (d := 115) hc
  have HPT : Hid (partsT cv a = ([], (if 0 ≤ cv.prec then a.s.take cv.prec.toNat else a.s), false)) := by unfold Hid partsT; rw [if_pos hc]
  obtain ⟨S, hS⟩ : ∃ S : ByteArray, S = ⟨a.s.toArray⟩ := ⟨_, rfl⟩
  have hSl : S.data.toList = a.s := by rw [hS]
  have HS := Lib.hid (And.intro hS hSl)
  rw [← hS]
  have HB : Hid (∀ A T A' T', Below w.heap.size w ((w.alloc (.cells A T)).alloc (.cells A' T'))) := fun A T A' T' => ((Below.refl _ _).alloc (Nat.le_refl _) _).alloc (by simp) _
  clear hc hS hSl
  by_cases hp : 0 ≤ cv.prec
  · have HE : Hid (S.extract 0 (min cv.prec (S.size : Int)).toNat = ⟨(if 0 ≤ cv.prec then a.s.take cv.prec.toNat else a.s).toArray⟩) := by
      unfold Hid
      rw [if_pos hp, min_cast _ hp]
      refine ba_of _ _ ?_
      have z : S.size = a.s.length := by rw [← HS.out.2]; rfl
      rw [ex_list, List.drop_zero, Nat.sub_zero, HS.out.2, z, ← List.take_take, List.take_length]
    go_enter Tryz.func31, Tryz.ntmps31
    go_wp2
    go_region
    go_wp2
    refine bodyPost_ret (v := .tuple #[.string ⟨#[]⟩, .string (S.extract 0 (min cv.prec (S.size : Int)).toNat), .bool false]) (by simp [results, Tryz.results31, go_sem]) rfl ?_
    exact rbody_end HPT.out rfl HE.out rfl (Below.drew (HB.out _ _ _ _))
  · have HE : Hid (S = ⟨(if 0 ≤ cv.prec then a.s.take cv.prec.toNat else a.s).toArray⟩) := by unfold Hid; rw [if_neg hp]; exact HS.out.1
    have hp' : cv.prec < 0 := by omega
    go_enter Tryz.func31, Tryz.ntmps31
    go_wp2
    go_region
    go_wp2
    refine bodyPost_ret (v := .tuple #[.string ⟨#[]⟩, .string S, .bool false]) (by simp [results, Tryz.results31, go_sem]) rfl ?_
    exact rbody_end HPT.out rfl HE.out rfl (Below.drew (HB.out _ _ _ _))

end Go.Proofs.YtdencljnbilchaaGreatDoor

namespace Go.Proofs.YtdencljnbilchaaGreatDoor
open Go.RowKit

theorem valT_neg {x : Nat} (h : scal x < 0) : valT x ≤ 0 := by
  unfold scal at h
  unfold valT
  cases hs : sgB x
  · rw [hs, signed_f] at h; omega
  · rw [signed_t]; omega

theorem letter_ref (a : FArg) (hn : a.num = true) (hx : a.n < 18446744073709551616) :
    (∃ v : Nat, letterT a = [UInt8.ofNat v] ∧ ∀ W, Calls Tryz.prog 24 #[.float .f64 a.n] W fun e w' => ∃ t n, e = .returned (.float .f64 t) ∧ w' = W.drewN n ∧ FinA t true ∧ (FloatKind.f64.format.order t 0 == some .lt) = false ∧ FloatKind.f64.format.order t 4845873199050653696 = some .lt ∧ ∀ W, (convert 36 84 (.float .f64 t)).run Tryz.prog W = .ok (.int .u64 v) W) ∨
    (letterT a = [0] ∧ ∀ W, Calls Tryz.prog 24 #[.float .f64 a.n] W fun e w' => ∃ t n, e = .returned (.float .f64 t) ∧ w' = W.drewN n ∧ FinA t false) ∨
    (letterT a = [0] ∧ ∀ W, Calls Tryz.prog 24 #[.float .f64 a.n] W fun e w' => ∃ t n, e = .returned (.float .f64 t) ∧ w' = W.drewN n ∧ FinA t true ∧ (FloatKind.f64.format.order t 0 == some .lt) = true) ∨
    (letterT a = [0] ∧ ∀ W, Calls Tryz.prog 24 #[.float .f64 a.n] W fun e w' => ∃ t n, e = .returned (.float .f64 t) ∧ w' = W.drewN n ∧ FinA t true ∧ (FloatKind.f64.format.order t 0 == some .lt) = false ∧ FloatKind.f64.format.order t 4845873199050653696 = some .gt) ∨
    (letterT a = [0] ∧ ∀ W, Calls Tryz.prog 24 #[.float .f64 a.n] W fun e w' => ∃ t n, e = .returned (.float .f64 t) ∧ w' = W.drewN n ∧ FinA t true ∧ (FloatKind.f64.format.order t 0 == some .lt) = false ∧ FloatKind.f64.format.order t 4845873199050653696 = some .eq) := by
  obtain ⟨x, s, num⟩ := a
  obtain rfl : num = true := hn
  have L0 : (¬ (finB x = true ∧ 0 ≤ scal x ∧ valT x < 9007199254740992)) → letterT ⟨x, s, true⟩ = [0] := fun h => by unfold letterT; rw [if_pos rfl, if_neg h]
  rcases class3 x hx with h | rfl | rfl | h
  · have o1 : FloatKind.f64.format.order x x = some .eq := by rw [order_num (read_num h) (read_num h), cmp_eq]
    obtain ⟨s1, s2, s3⟩ := scal_trunc h
    have hfb := (finB_iff x).2 h
    have key := fun W => trunc_any x (by rw [o1]; simp) W
    have hrf : FinA (truncN x) true := fun W => rfinite_fin _ s2 W
    have p0 := order_scal s2 c0.1
    have p1 := order_scal s2 c2p53.1
    rw [s1, c0.2, cmp_mul] at p0
    rw [s1, c2p53.2, cmp_mul] at p1
    have hsg : 0 ≤ scal x → 0 ≤ valT x := fun g => (scal_floor h g).1
    rcases Int.lt_or_le (valT x) 0 with hv | hv
    · rw [cmp_lt hv] at p0
      exact .inr (.inr (.inl ⟨L0 (fun g => by have := hsg g.2.1; omega), fun W => (key W).mono fun e w' ⟨h2, h3⟩ => ⟨_, 0, h2, h3.symm, hrf, by rw [p0]; rfl⟩⟩))
    · have p0' : (FloatKind.f64.format.order (truncN x) 0 == some .lt) = false := by
        rcases Int.lt_or_eq_of_le hv with g | g
        · rw [p0, cmp_gt g]; rfl
        · rw [p0, ← g, cmp_eq]; rfl
      rcases Int.lt_trichotomy (valT x) 9007199254740992 with hb | hb | hb
      · rw [cmp_lt hb] at p1
        obtain ⟨v, hvv⟩ : ∃ v : Nat, valT x = v := ⟨(valT x).toNat, by omega⟩
        have hconv : ∀ W, (convert 36 84 (.float .f64 (truncN x))).run Tryz.prog W = .ok (.int .u64 v) W := fun W => by
          have := conv_u64 s2 (by rw [valT_trunc h]; omega) (by rw [valT_trunc h]; omega) W
          rw [valT_trunc h, hvv] at this
          exact this
        refine .inl ⟨v, ?_, fun W => (key W).mono fun e w' ⟨h2, h3⟩ => ⟨_, 0, h2, h3.symm, hrf, p0', p1, hconv⟩⟩
        by_cases g : 0 ≤ scal x
        · unfold letterT; rw [if_pos rfl, if_pos ⟨hfb, g, hb⟩, hvv, Int.toNat_natCast]
        · have := valT_neg (show scal x < 0 by omega)
          rw [L0 (fun q => g q.2.1)]
          obtain rfl : v = 0 := by omega
          rfl
      · rw [hb, cmp_eq] at p1
        exact .inr (.inr (.inr (.inr ⟨L0 (fun g => by omega), fun W => (key W).mono fun e w' ⟨h2, h3⟩ => ⟨_, 0, h2, h3.symm, hrf, p0', p1⟩⟩)))
      · rw [cmp_gt hb] at p1
        exact .inr (.inr (.inr (.inl ⟨L0 (fun g => by omega), fun W => (key W).mono fun e w' ⟨h2, h3⟩ => ⟨_, 0, h2, h3.symm, hrf, p0', p1⟩⟩)))
  · have ht : truncN 9218868437227405312 = 9218868437227405312 := by kernel_rfl
    exact .inr (.inl ⟨L0 (fun g => by have := g.1; revert this; decide), fun W => (trunc_any 9218868437227405312 (by rw [show FloatKind.f64.format.order 9218868437227405312 9218868437227405312 = some .eq by kernel_rfl]; simp) W).mono fun e w' ⟨h1, h2⟩ => ⟨_, 0, h1, h2.symm, by rw [ht]; exact fun W => rfinite_inf W⟩⟩)
  · have ht : truncN 18442240474082181120 = 18442240474082181120 := by kernel_rfl
    exact .inr (.inl ⟨L0 (fun g => by have := g.1; revert this; decide), fun W => (trunc_any 18442240474082181120 (by rw [show FloatKind.f64.format.order 18442240474082181120 18442240474082181120 = some .eq by kernel_rfl]; simp) W).mono fun e w' ⟨h1, h2⟩ => ⟨_, 0, h1, h2.symm, by rw [ht]; exact fun W => rfinite_minf W⟩⟩)
  · refine .inr (.inl ⟨L0 (fun g => ?_), fun W => ?_⟩)
    · have := (finB_iff x).1 g.1
      unfold finN at this; omega
    · refine (truncNone2 x hx h W).mono ?_
      rintro e w' ⟨y, n, rfl, hy, rfl⟩
      exact ⟨y, n, rfl, rfl, fun W => rfinite_nan y hy W⟩

theorem byte_modN (v : Nat) : UInt8.ofNat (v % 256) = UInt8.ofNat v := by
  apply UInt8.toNat_inj.1
  rw [UInt8.toNat_ofNat', UInt8.toNat_ofNat']; omega

theorem convD (W : World) (x : Int) : (convert 33 9 (.slice (some ⟨W.heap.size, 0, none⟩) 1 1)).run Tryz.prog (W.alloc (.cells #[.int .u8 x] 5)).drew = .ok (.string ⟨#[UInt8.ofNat x.toNat]⟩) (W.alloc (.cells #[.int .u8 x] 5)).drew :=
  run_convert_bytes_arg (P := Tryz.prog) _ 33 5 Tryz.underlying33 Tryz.underlying5 W.heap.size 0 1 1 [x] rfl (fun i hi => by
    obtain rfl : i = 0 := by omega
    show (W.alloc _).cell? _ = _
    rw [World.cell?_alloc_at _ _ _ _ rfl]; rfl) 9 Tryz.underlying9

set_option maxRecDepth 100000 in
set_option maxHeartbeats 2000000 in
theorem rbody_c (cv : FConv) (hc : cv.c = 99) (a : FArg) (ha : a.n < 18446744073709551616) (w : World) :
    Calls Tryz.prog 31 #[.agg #[.bool cv.left, .bool cv.plus, .bool cv.blank, .bool cv.zero, .int .i64 cv.width, .int .i64 cv.prec, .int .u8 cv.c.toNat], .agg #[.float .f64 a.n, .string ⟨a.s.toArray⟩, .bool a.num]] w (RBodyEnd cv a w) := by
  have b99 : ((cv.c.toNat : Int) == 99) = true := beq_t (d := 99) hc
  have HPT : Hid (partsT cv a = ([], letterT a, false)) := by unfold Hid partsT; rw [if_neg (by rw [hc]; decide), if_pos hc]
  obtain ⟨S, hS⟩ : ∃ S : ByteArray, S = ⟨a.s.toArray⟩ := ⟨_, rfl⟩
  have hSl : S.data.toList = a.s := by rw [hS]
  have HS := Lib.hid (And.intro hS hSl)
  rw [← hS]
  have HB : Hid (∀ A T A' T', Below w.heap.size w ((w.alloc (.cells A T)).alloc (.cells A' T'))) := fun A T A' T' => ((Below.refl _ _).alloc (Nat.le_refl _) _).alloc (by simp) _
  clear hc hS hSl
  cases hn : a.num with
  | false =>
    have HE : Hid (S.extract 0 (min 1 (S.size : Int)).toNat = ⟨(letterT a).toArray⟩) := by
      unfold Hid
      rw [show (min 1 (S.size : Int)).toNat = min 1 S.size by omega]
      refine ba_of _ _ ?_
      have z : S.size = a.s.length := by rw [← HS.out.2]; rfl
      unfold letterT
      rw [if_neg (by rw [hn]; decide), ex_list, List.drop_zero, Nat.sub_zero, HS.out.2, z, ← List.take_take, List.take_length]
    clear ha
    go_enter Tryz.func31, Tryz.ntmps31
    go_wp2
    go_region
    go_wp2
    refine bodyPost_ret (v := .tuple #[.string ⟨#[]⟩, .string (S.extract 0 (min 1 (S.size : Int)).toNat), .bool false]) (by simp [results, Tryz.results31, go_sem]) rfl ?_
    exact rbody_end HPT.out rfl HE.out rfl (Below.drew (HB.out _ _ _ _))
  | true =>
    rcases letter_ref a hn ha with ⟨v, h1, h2⟩ | ⟨h1, h2⟩ | ⟨h1, h2⟩ | ⟨h1, h2⟩ | ⟨h1, h2⟩
    · have HL := Lib.hid h1
      have HT := Lib.hid h2
      clear h1 h2 ha hn
      go_enter Tryz.func31, Tryz.ntmps31
      go_upto_region 7 with (first
        | (go_at_call 24; refine (HT.out _).mono ?_; rintro e w2 ⟨t, n, rfl, hw2, hfin, ho, ho2, hcv⟩; have HB2 : Hid (Below w.heap.size w w2) := by unfold Hid; rw [hw2]; exact below_drewN (HB.out _ _ _ _) n
           unfold FinA at hfin; have HFI := Lib.hid hfin; clear hw2 hfin)
        | (go_at_call 37; refine (HFI.out _).mono ?_; rintro e w' ⟨rfl, rfl⟩))
      have HCD := fun x => convD w2 x
      go_region
      go_wp2
      refine bodyPost_ret (v := .tuple #[.string ⟨#[]⟩, .string ⟨#[UInt8.ofNat (v % 256)]⟩, .bool false]) (by simp [results, Tryz.results31, go_sem]) rfl ?_
      exact rbody_end HPT.out rfl (by rw [HL.out, byte_modN]) rfl (Below.drew (HB2.out.alloc (HB2.out.size) _))
    · have HL := Lib.hid h1
      have HT := Lib.hid h2
      have hc0 : ∀ W, (convert 36 84 (.float .f64 0)).run Tryz.prog W = .ok (.int .u64 0) W := fun W => by
        have := conv_u64 c0.1 (by rw [show valT 0 = 0 by kernel_rfl]; decide) (by rw [show valT 0 = 0 by kernel_rfl]; decide) W
        rw [show valT 0 = 0 by kernel_rfl] at this
        exact this
      clear h1 h2 ha hn
      go_enter Tryz.func31, Tryz.ntmps31
      go_upto_region 7 with (first
        | (go_at_call 24; refine (HT.out _).mono ?_; rintro e w2 ⟨t, n, rfl, hw2, hfin⟩; have HB2 : Hid (Below w.heap.size w w2) := by unfold Hid; rw [hw2]; exact below_drewN (HB.out _ _ _ _) n
           unfold FinA at hfin; have HFI := Lib.hid hfin; clear hw2 hfin)
        | (go_at_call 37; refine (HFI.out _).mono ?_; rintro e w' ⟨rfl, rfl⟩))
      have HCD := fun x => convD w2 x
      go_region
      go_wp2
      refine bodyPost_ret (v := .tuple #[.string ⟨#[]⟩, .string ⟨#[UInt8.ofNat (0 : Int).toNat]⟩, .bool false]) (by simp [results, Tryz.results31, go_sem]) rfl ?_
      exact rbody_end HPT.out rfl (by rw [HL.out]; rfl) rfl (Below.drew (HB2.out.alloc (HB2.out.size) _))
    · have HL := Lib.hid h1
      have HT := Lib.hid h2
      have hc0 : ∀ W, (convert 36 84 (.float .f64 0)).run Tryz.prog W = .ok (.int .u64 0) W := fun W => by
        have := conv_u64 c0.1 (by rw [show valT 0 = 0 by kernel_rfl]; decide) (by rw [show valT 0 = 0 by kernel_rfl]; decide) W
        rw [show valT 0 = 0 by kernel_rfl] at this
        exact this
      clear h1 h2 ha hn
      go_enter Tryz.func31, Tryz.ntmps31
      go_upto_region 7 with (first
        | (go_at_call 24; refine (HT.out _).mono ?_; rintro e w2 ⟨t, n, rfl, hw2, hfin, ho⟩; have HB2 : Hid (Below w.heap.size w w2) := by unfold Hid; rw [hw2]; exact below_drewN (HB.out _ _ _ _) n
           unfold FinA at hfin; have HFI := Lib.hid hfin; clear hw2 hfin)
        | (go_at_call 37; refine (HFI.out _).mono ?_; rintro e w' ⟨rfl, rfl⟩))
      have HCD := fun x => convD w2 x
      go_region
      go_wp2
      refine bodyPost_ret (v := .tuple #[.string ⟨#[]⟩, .string ⟨#[UInt8.ofNat (0 : Int).toNat]⟩, .bool false]) (by simp [results, Tryz.results31, go_sem]) rfl ?_
      exact rbody_end HPT.out rfl (by rw [HL.out]; rfl) rfl (Below.drew (HB2.out.alloc (HB2.out.size) _))
    · have HL := Lib.hid h1
      have HT := Lib.hid h2
      have hc0 : ∀ W, (convert 36 84 (.float .f64 0)).run Tryz.prog W = .ok (.int .u64 0) W := fun W => by
        have := conv_u64 c0.1 (by rw [show valT 0 = 0 by kernel_rfl]; decide) (by rw [show valT 0 = 0 by kernel_rfl]; decide) W
        rw [show valT 0 = 0 by kernel_rfl] at this
        exact this
      clear h1 h2 ha hn
      go_enter Tryz.func31, Tryz.ntmps31
      go_upto_region 7 with (first
        | (go_at_call 24; refine (HT.out _).mono ?_; rintro e w2 ⟨t, n, rfl, hw2, hfin, ho, ho2⟩; have HB2 : Hid (Below w.heap.size w w2) := by unfold Hid; rw [hw2]; exact below_drewN (HB.out _ _ _ _) n
           unfold FinA at hfin; have HFI := Lib.hid hfin; clear hw2 hfin)
        | (go_at_call 37; refine (HFI.out _).mono ?_; rintro e w' ⟨rfl, rfl⟩))
      have HCD := fun x => convD w2 x
      go_region
      go_wp2
      refine bodyPost_ret (v := .tuple #[.string ⟨#[]⟩, .string ⟨#[UInt8.ofNat (0 : Int).toNat]⟩, .bool false]) (by simp [results, Tryz.results31, go_sem]) rfl ?_
      exact rbody_end HPT.out rfl (by rw [HL.out]; rfl) rfl (Below.drew (HB2.out.alloc (HB2.out.size) _))
    · have HL := Lib.hid h1
      have HT := Lib.hid h2
      have hc0 : ∀ W, (convert 36 84 (.float .f64 0)).run Tryz.prog W = .ok (.int .u64 0) W := fun W => by
        have := conv_u64 c0.1 (by rw [show valT 0 = 0 by kernel_rfl]; decide) (by rw [show valT 0 = 0 by kernel_rfl]; decide) W
        rw [show valT 0 = 0 by kernel_rfl] at this
        exact this
      clear h1 h2 ha hn
      go_enter Tryz.func31, Tryz.ntmps31
      go_upto_region 7 with (first
        | (go_at_call 24; refine (HT.out _).mono ?_; rintro e w2 ⟨t, n, rfl, hw2, hfin, ho, ho2⟩; have HB2 : Hid (Below w.heap.size w w2) := by unfold Hid; rw [hw2]; exact below_drewN (HB.out _ _ _ _) n
           unfold FinA at hfin; have HFI := Lib.hid hfin; clear hw2 hfin)
        | (go_at_call 37; refine (HFI.out _).mono ?_; rintro e w' ⟨rfl, rfl⟩))
      have HCD := fun x => convD w2 x
      go_region
      go_wp2
      refine bodyPost_ret (v := .tuple #[.string ⟨#[]⟩, .string ⟨#[UInt8.ofNat (0 : Int).toNat]⟩, .bool false]) (by simp [results, Tryz.results31, go_sem]) rfl ?_
      exact rbody_end HPT.out rfl (by rw [HL.out]; rfl) rfl (Below.drew (HB2.out.alloc (HB2.out.size) _))

/-- The reference's body at any conversion's letter. -/
theorem rbody_any (cv : FConv) (hc : isLetter cv.c = true) (hp : cv.prec ≤ 200) (a : FArg) (ha : a.n < 18446744073709551616) (w : World) (hL : LaidJ w) :
    Calls Tryz.prog 31 #[.agg #[.bool cv.left, .bool cv.plus, .bool cv.blank, .bool cv.zero, .int .i64 cv.width, .int .i64 cv.prec, .int .u8 cv.c.toNat], .agg #[.float .f64 a.n, .string ⟨a.s.toArray⟩, .bool a.num]] w (RBodyEnd cv a w) := by
  by_cases h1 : cv.c = 115
  · exact rbody_s cv h1 a w
  by_cases h2 : cv.c = 99
  · exact rbody_c cv h2 a ha w
  refine rbody_num cv ?_ hp a ha w hL
  rcases letter_cases hc with h | h | h | h | h | h | h | h | ⟨_, hr⟩
  · exact absurd h h1
  · exact absurd h h2
  · exact .inl (by rw [h]; decide)
  · exact .inl (by rw [h]; decide)
  · exact .inl (by rw [h]; decide)
  · exact .inl (by rw [h]; decide)
  · exact .inl (by rw [h]; decide)
  · exact .inl (by rw [h]; decide)
  · exact .inr hr

end Go.Proofs.YtdencljnbilchaaGreatDoor
