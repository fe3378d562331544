/- The walk of the reference's upper. The walk of the reference's whole. The walk of the reference's body. -/
import Derived.Test.YtdencljnbilchaaGreatDoorKd
import Derived.Lib.ConvBytes
import Derived.Test.YtdencljnbilchaaGreatDoorJl

namespace Go.Proofs.YtdencljnbilchaaGreatDoor
open Go.RowKit

def upC (c : UInt8) : UInt8 := if 97 ≤ c ∧ c ≤ 122 then c - 32 else c
/-- The first j are turned. -/
def upG (l : List UInt8) (j i : Nat) : UInt8 := if i < j then upC (l.getD i 0) else l.getD i 0

/-- The bytes in block b. -/
structure RowU (w : World) (b n : Nat) (f : Nat → UInt8) : Prop where
  d : ∀ i, i < n → w.cell? ⟨b, i, none⟩ = some (.int .u8 (f i).toNat)
  fz : ∀ i, i < n → w.frozen? ⟨b, i, none⟩ = false

theorem RowU.set {w : World} {b n j : Nat} {f : Nat → UInt8} (h : RowU w b n f) (hj : j < n) (c : UInt8) : RowU (w.setCell ⟨b, j, none⟩ (.int .u8 c.toNat)) b n (fun i => if i = j then c else f i) where
  d := fun i hi => by
    by_cases e : i = j
    · subst e; simp only [if_pos]; exact cs_same (h.d i hi)
    · simp only [if_neg e]; rw [cs_other (addr_ne (Ne.symm e))]; exact h.d i hi
  fz := fun i hi => by rw [World.frozen?_setCell]; exact h.fz i hi
theorem RowU.of {w : World} {b n : Nat} {f g : Nat → UInt8} (h : RowU w b n f) (e : ∀ i, i < n → f i = g i) : RowU w b n g := ⟨fun i hi => by rw [← e i hi]; exact h.d i hi, h.fz⟩
theorem RowU.drewN {w : World} {b n : Nat} {f : Nat → UInt8} (h : RowU w b n f) (k : Nat) : RowU (w.drewN k) b n f := ⟨h.d, h.fz⟩

theorem conv_rowU {w : World} {b n cap : Nat} {f : Nat → UInt8} {l : List UInt8} (h : RowU w b n f) (hl : l.length = n) (e : ∀ i (hi : i < l.length), f i = l[i]) :
    Sem.run Tryz.prog (convert 33 9 (.slice (some ⟨b, 0, none⟩) n cap)) w = .ok (.string ⟨l.toArray⟩) w := by
  rw [← strOfNums_u8]
  refine run_convert_bytes_arg w 33 5 Tryz.underlying33 Tryz.underlying5 b 0 n cap _ (by simp [hl]) (fun i hi => ?_) 9 Tryz.underlying9
  rw [Nat.zero_add, h.d i hi, e i (by omega)]
  simp [show i < l.length by omega]

theorem upL_map (l : List UInt8) : upL l = l.map upC := rfl

theorem up_bytes (s : ByteArray) (W : World) : RowU (Lib.bytesWorld W 5 s) W.heap.size s.size (upG s.data.toList 0) ∧ Below W.heap.size W (Lib.bytesWorld W 5 s) := by
  refine ⟨⟨fun i hi => ?_, fun i hi => ?_⟩, ?_⟩
  · rw [Lib.bytesWorld_cell _ _ _ _ hi]; unfold upG; rw [if_neg (by omega)]
  · unfold World.frozen?
    rw [Lib.bytesWorld_at_new]
    have : (Lib.bytesCells W 5 s).size ≥ s.size := by unfold Lib.bytesCells; simp
    simp
    omega
  · refine ⟨rfl, rfl, rfl, by rw [Lib.bytesWorld_size]; omega, fun k hk => Lib.bytesWorld_at_old _ _ _ _ hk⟩

set_option maxRecDepth 100000 in
theorem rupper_any (s : ByteArray) (w : World) (hs : s.size ≤ 1000) : Calls Tryz.prog 66 #[.string s] w fun e w' => e = .returned (.string ⟨(upL s.data.toList).toArray⟩) ∧ Below w.heap.size w w' := by
  have hcv := Lib.run_convert_string_bytes (P := Tryz.prog) w 9 33 5 s Tryz.underlying9 Tryz.underlying33 Tryz.underlying5
  have hb := up_bytes s w
  generalize Lib.bytesWorld w 5 s = W1 at hcv hb
  generalize grownCap w s.size 0 5 = cap at hcv
  have HB := Lib.hid hb
  clear hb
  have HZ : Hid (s.data.toList.length = s.size) := rfl
  go_enter Tryz.func66, Tryz.ntmps66
  go_wp2
  go_loopg [4] s.size (fun g i wr => ∃ j : Nat, i = .int .i64 j ∧ j + g = s.size ∧ Hid (RowU wr w.heap.size s.size (upG s.data.toList j)) ∧ Hid (Below w.heap.size w wr))
  case atStart => exact ⟨0, rfl, by omega, HB.out.1, HB.out.2⟩
  case round =>
    obtain ⟨j, rfl, hj, HR, HBW⟩ := hrel
    by_cases hjs : j < s.size
    · have hz := HZ.out
      have hcj := HR.out.d j hjs
      have hfj := HR.out.fz j hjs
      have hg : upG s.data.toList j j = s.data.toList[j]'(by omega) := by
        unfold upG; rw [if_neg (by omega), List.getD_eq_getElem?_getD, List.getElem?_eq_getElem (by omega)]; rfl
      rw [hg] at hcj
      obtain ⟨c, hc⟩ : ∃ c, s.data.toList[j]'(by omega) = c := ⟨_, rfl⟩
      rw [hc] at hcj
      have HGC : Hid (s.data.toList.getD j 0 = c) := by unfold Hid; rw [List.getD_eq_getElem?_getD, List.getElem?_eq_getElem (by omega)]; exact hc
      have hlt := UInt8.toNat_lt c
      clear hg hc hz
      by_cases h97 : 97 ≤ c.toNat
      · by_cases h122 : c.toNat ≤ 122
        · have hu : (c - 32).toNat = c.toNat - 32 := by
            rw [UInt8.toNat_sub_of_le _ _ (by rw [UInt8.le_iff_toNat_le]; show 32 ≤ c.toNat; omega)]; rfl
          have HU : Hid (((c.toNat : Int) - 32) = ((c - 32).toNat : Int)) := by unfold Hid; omega
          have HR2 : Hid (RowU (wr.setCell ⟨w.heap.size, j, none⟩ (.int .u8 (c - 32).toNat)) w.heap.size s.size (upG s.data.toList (j + 1))) := (HR.out.set hjs (c - 32)).of fun i hi => by
            have := HGC.out
            by_cases e : i = j
            · subst e
              rw [if_pos rfl]; unfold upG; rw [if_pos (by omega), this]; unfold upC
              rw [if_pos ⟨by rw [UInt8.le_iff_toNat_le]; exact h97, by rw [UInt8.le_iff_toNat_le]; exact h122⟩]
            · rw [if_neg e]; unfold upG
              by_cases h : i < j
              · rw [if_pos h, if_pos (by omega)]
              · rw [if_neg h, if_neg (by omega)]
          clear hu
          go_wp2
          go_roundg (gk - 1)
          case measure => omega
          case rel =>
            rw [HU.out]
            exact ⟨j + 1, congrArg (Value.int .i64) (by omega), by omega, HR2, HBW.out.setCell (p := ⟨w.heap.size, j, none⟩) (Nat.le_refl _) _⟩
        · have HR2 : Hid (RowU wr w.heap.size s.size (upG s.data.toList (j + 1))) := HR.out.of fun i hi => by
            have := HGC.out
            unfold upG
            by_cases e : i = j
            · subst e
              rw [if_neg (by omega), if_pos (by omega), this]; unfold upC
              rw [if_neg (fun h => by have := UInt8.le_iff_toNat_le.1 h.2; exact h122 this)]
            · by_cases h : i < j
              · rw [if_pos h, if_pos (by omega)]
              · rw [if_neg h, if_neg (by omega)]
          go_wp2
          go_roundg (gk - 1)
          case measure => omega
          case rel => exact ⟨j + 1, congrArg (Value.int .i64) (by omega), by omega, HR2, HBW⟩
      · have HR2 : Hid (RowU wr w.heap.size s.size (upG s.data.toList (j + 1))) := HR.out.of fun i hi => by
          have := HGC.out
          unfold upG
          by_cases e : i = j
          · subst e
            rw [if_neg (by omega), if_pos (by omega), this]; unfold upC
            rw [if_neg (fun h => by have := UInt8.le_iff_toNat_le.1 h.1; exact h97 this)]
          · by_cases h : i < j
            · rw [if_pos h, if_pos (by omega)]
            · rw [if_neg h, if_neg (by omega)]
        go_wp2
        go_roundg (gk - 1)
        case measure => omega
        case rel => exact ⟨j + 1, congrArg (Value.int .i64) (by omega), by omega, HR2, HBW⟩
    · obtain rfl : j = s.size := by omega
      have hcv2 := conv_rowU (cap := cap) HR.out (l := upL s.data.toList) (by rw [upL_map, List.length_map]; rfl) (fun i hi => by
        unfold upG
        rw [upL_map, List.length_map] at hi
        rw [if_pos (show i < s.size from hi), List.getD_eq_getElem?_getD, List.getElem?_eq_getElem hi]
        simp [upL_map])
      go_wp2
      go_ret
      exact ⟨rfl, HBW.out⟩

end Go.Proofs.YtdencljnbilchaaGreatDoor

namespace Go.Proofs.YtdencljnbilchaaGreatDoor
open Go.RowKit

/-- The sign that the reference gives first. -/
def rsign0 (cv : FConv) (x : Nat) : List UInt8 :=
  if scal x < 0 then [45] else if cv.c = 117 ∨ cv.c = 111 ∨ cv.c = 120 ∨ cv.c = 88 then [] else signT cv.plus cv.blank false
/-- Nought has none below it. -/
def rsign1 (cv : FConv) (x : Nat) : List UInt8 :=
  if valT x = 0 ∧ rsign0 cv x = [45] then (if cv.c = 100 ∨ cv.c = 105 then signT cv.plus cv.blank false else []) else rsign0 cv x

theorem wholeC_cases {c : UInt8} (h : isWholeC c = true) : c = 100 ∨ c = 105 ∨ c = 117 ∨ c = 111 ∨ c = 120 ∨ c = 88 := by
  unfold isWholeC at h
  simpa [or_assoc] using h

theorem rsign1_eq {cv : FConv} {x : Nat} (hf : finN x) (hc : isWholeC cv.c = true) : rsign1 cv x = (wholeP cv x).1 := by
  have hfb := (finB_iff x).2 hf
  have hb : (bareT x).2 = decide (valT x < 0) := by rw [bareT_fin hf]; exact belowB_val hf
  obtain ⟨k1, k2⟩ := scal_sign (x := x)
  unfold rsign1 wholeP
  simp only [hb]
  have hs : ∀ p b, signT p b true = [45] := fun _ _ => rfl
  have hn : signT cv.plus cv.blank false ≠ [45] := by cases cv.plus <;> cases cv.blank <;> decide
  rcases Int.lt_trichotomy (valT x) 0 with h | h | h
  · have hsc : scal x < 0 := by
      refine Int.not_le.1 fun h2 => ?_
      have := k2 h2; omega
    have hr : rsign0 cv x = [45] := by unfold rsign0; rw [if_pos hsc]
    rw [if_neg (by omega), hr, if_neg (by omega), decide_eq_true h]
    split <;> rfl
  · rw [decide_eq_false (by omega)]
    have hcs := wholeC_cases hc
    by_cases hsc : scal x < 0
    · have hr : rsign0 cv x = [45] := by unfold rsign0; rw [if_pos hsc]
      rw [if_pos ⟨h, hr⟩]
      rcases hcs with q | q | q | q | q | q <;> simp [q, h, hfb] <;> rfl
    · have hr : rsign0 cv x = if cv.c = 117 ∨ cv.c = 111 ∨ cv.c = 120 ∨ cv.c = 88 then [] else signT cv.plus cv.blank false := by unfold rsign0; rw [if_neg hsc]
      rcases hcs with q | q | q | q | q | q <;> simp [hr, q, hn, h, hfb] <;> rfl
  · have hsc : ¬ scal x < 0 := fun h2 => by have := k1 h2; omega
    rw [if_neg (by omega), decide_eq_false (by omega)]
    unfold rsign0
    rw [if_neg hsc]
    rcases wholeC_cases hc with q | q | q | q | q | q <;> simp [q] <;> (try split) <;> rfl

/-- The digits that the reference gives. -/
theorem rdig_eq {cv : FConv} {x : Nat} (hf : finN x) (hc : isWholeC cv.c = true) : (wholeP cv x).2 = if inB x = true ∧ cv.c = 111 then uintT (valT x).toNat 8 else if inB x = true ∧ cv.c = 120 then uintT (valT x).toNat 16 else if inB x = true ∧ cv.c = 88 then upL (uintT (valT x).toNat 16) else absT x := by
  have hfb := (finB_iff x).2 hf
  have hb : (bareT x).1 = absT x := by rw [bareT_fin hf]
  unfold wholeP
  cases hi : inB x with
  | true =>
    obtain ⟨_, i1, i2⟩ := (inB_iff x).1 hi
    rcases wholeC_cases hc with q | q | q | q | q | q <;> simp [q, hfb, i1, i2, hb]
  | false =>
    have hn : ¬ (0 ≤ valT x ∧ valT x < 18446744073709551616) := fun ⟨a, b⟩ => by
      rw [(inB_iff x).2 ⟨hfb, a, b⟩] at hi; cases hi
    rcases wholeC_cases hc with q | q | q | q | q | q <;> simp [q, hfb, hb] <;> rw [if_neg hn]

/-- What whole leaves. -/
def RWholeEnd (cv : FConv) (x : Nat) (w : World) (e : Ending) (w' : World) : Prop :=
  e = .returned (.tuple #[.string ⟨(wholeT uintT cv x).1.toArray⟩, .string ⟨(wholeT uintT cv x).2.toArray⟩, .bool (decide (cv.prec < 0))]) ∧ Below w.heap.size w w'

set_option maxRecDepth 100000 in
set_option maxHeartbeats 4000000 in
theorem rwhole_any (cv : FConv) (hc : isWholeC cv.c = true) (x : Nat) (hx : x < 18446744073709551616) (hf : finN x) (hp : cv.prec ≤ 200) (w : World) (hL : LaidJ w) :
    Calls Tryz.prog 48 #[.agg #[.bool cv.left, .bool cv.plus, .bool cv.blank, .bool cv.zero, .int .i64 cv.width, .int .i64 cv.prec, .int .u8 cv.c.toNat], .float .f64 x, .string ⟨(rsign0 cv x).toArray⟩] w (RWholeEnd cv x w) := by
  have o1 : FloatKind.f64.format.order x x = some .eq := by rw [order_num (read_num hf) (read_num hf), cmp_eq]
  obtain ⟨t1, t2, t3⟩ := scal_trunc hf
  have HT : Hid (∀ W, Calls Tryz.prog 24 #[.float .f64 x] W fun e w' => e = .returned (.float .f64 (truncN x)) ∧ W = w') := fun W => trunc_any x (by rw [o1]; simp) W
  have oz := order_whole hf c0.1 c0.2
  have HAB : Hid (∀ W, Calls Tryz.prog 41 #[.float .f64 (truncN x)] W fun e w' => e = .returned (.float .f64 (absN (truncN x))) ∧ W = w') := fun W => abs_any _ t3 W
  obtain ⟨a1, a2, a3, a4⟩ := said_abs hf
  obtain ⟨D0, hD0⟩ : ∃ D0 : ByteArray, D0 = ⟨(absT x).toArray⟩ := ⟨_, rfl⟩
  have HDG : Hid (∀ W, LaidJ W → Calls Tryz.prog 38 #[.float .f64 (absN (truncN x))] W fun e w' => e = .returned (.string D0) ∧ Below W.heap.size W w') := fun W hW => by
    have h := rdigits_bare (absN (truncN x)) a4 W hW.lg
    rw [bareT_fin a3, a1, a2] at h
    rw [hD0]; exact h
  have HD0 := Lib.hid hD0
  have htt := truncT_fin hf
  have HL := Lib.hid hL
  obtain ⟨Tn, hTn⟩ : ∃ Tn, truncN x = Tn := ⟨_, rfl⟩
  rw [hTn] at HT oz HAB HDG htt
  have hS4 : rsign0 cv x = [45] ∨ rsign0 cv x = [] ∨ rsign0 cv x = [32] ∨ rsign0 cv x = [43] := by
    unfold rsign0
    split
    · exact .inl rfl
    · split
      · exact .inr (.inl rfl)
      · unfold signT
        simp only [Bool.false_eq_true, if_false]
        split
        · exact .inr (.inr (.inr rfl))
        · split
          · exact .inr (.inr (.inl rfl))
          · exact .inr (.inl rfl)
  have HOZ : Hid ((valT x = 0 ∧ (FloatKind.f64.format.order Tn 0 == some .eq) = true) ∨ (valT x ≠ 0 ∧ (FloatKind.f64.format.order Tn 0 == some .eq) = false)) := by
    rcases Int.lt_trichotomy (valT x) 0 with h | h | h
    · exact .inr ⟨by omega, by rw [oz, cmp_lt h]; rfl⟩
    · exact .inl ⟨h, by rw [oz, h, cmp_eq]; rfl⟩
    · exact .inr ⟨by omega, by rw [oz, cmp_gt h]; rfl⟩
  have HS4 := Lib.hid hS4
  have HTT := Lib.hid htt
  obtain ⟨S1, hS1⟩ : ∃ S1 : ByteArray, S1 = ⟨(rsign1 cv x).toArray⟩ := ⟨_, rfl⟩
  have HS1 := Lib.hid hS1
  have hsp : RdW w (w.alloc (.cells #[.bool cv.left, .bool cv.plus, .bool cv.blank, .bool cv.zero, .int .i64 cv.width, .int .i64 cv.prec, .int .u8 cv.c.toNat] 67)) cv.left cv.plus cv.blank cv.zero cv.width cv.prec cv.c.toNat := ⟨SpR.new w _, (Below.refl _ _).alloc (Nat.le_refl _) _⟩
  have HSP := Lib.hid hsp
  clear t1 t2 t3 a1 a2 a3 a4 o1 oz hD0 htt hL hTn hS4 hS1 hsp
  have hxx := hx
  clear hx
  obtain ⟨S0, hS0⟩ : ∃ S0, rsign0 cv x = S0 := ⟨_, rfl⟩
  have HS0 := Lib.hid hS0
  rw [hS0] at HS4 ⊢
  clear hS0
  go_enter Tryz.func48, Tryz.ntmps48
  go_upto_region 2 with (go_at_call 24; refine (HT.out _).mono ?_; rintro e w' ⟨rfl, rfl⟩)
  go_cut [18] (fun v wx => ∃ c : Bool, v = .bool c ∧ wx = w.alloc (.cells #[.bool cv.left, .bool cv.plus, .bool cv.blank, .bool cv.zero, .int .i64 cv.width, .int .i64 cv.prec, .int .u8 cv.c.toNat] 67) ∧ Hid ((c = true ∧ valT x = 0 ∧ S0 = [45]) ∨ (c = false ∧ ¬ (valT x = 0 ∧ S0 = [45]))))
  case first =>
    rcases HOZ.out with ⟨hz, hb⟩ | ⟨hz, hb⟩
    · have HZ := Lib.hid hz
      clear hz
      rcases HS4.out with rfl | rfl | rfl | rfl
      · as_aux_lemma =>
          go_wp2
          go_meet
          exact ⟨true, rfl, rfl, .inl ⟨rfl, HZ.out, by first | rfl | trivial⟩⟩
      all_goals
        as_aux_lemma =>
          go_wp2
          go_meet
          exact ⟨false, rfl, rfl, .inr ⟨rfl, fun h => absurd h.2 (by decide)⟩⟩
    · have HZ := Lib.hid hz
      clear hz
      as_aux_lemma =>
        go_wp2
        go_meet
        exact ⟨false, rfl, rfl, .inr ⟨rfl, fun h => HZ.out h.1⟩⟩
  case rest =>
    obtain ⟨c, rfl, rfl, HC⟩ := hcut
    clear HOZ HS4
    go_upto_if 18 with (fail)
    go_cut [0, 2] (fun _ s wx => s = .string S1 ∧ wx = w.alloc (.cells #[.bool cv.left, .bool cv.plus, .bool cv.blank, .bool cv.zero, .int .i64 cv.width, .int .i64 cv.prec, .int .u8 cv.c.toNat] 67))
    case first =>
      rcases HC.out with ⟨rfl, hv, hS⟩ | ⟨rfl, hv⟩
      · have hr : rsign1 cv x = (if cv.c = 100 ∨ cv.c = 105 then signT cv.plus cv.blank false else []) := by unfold rsign1; rw [if_pos ⟨hv, by rw [HS0.out]; exact hS⟩]
        have HR : Hid (S1 = ⟨(if cv.c = 100 ∨ cv.c = 105 then signT cv.plus cv.blank false else []).toArray⟩) := by unfold Hid; rw [HS1.out, hr]
        have fin : ∀ h : cv.c = 100 ∨ cv.c = 105, Hid (S1 = ⟨(signT cv.plus cv.blank false).toArray⟩) := fun h => by unfold Hid; rw [HR.out, if_pos h]
        clear hr
        have hq : (cv.c = 100 ∧ ((cv.c.toNat : Int) == 100) = true) ∨ (cv.c = 105 ∧ ((cv.c.toNat : Int) == 100) = false ∧ ((cv.c.toNat : Int) == 105) = true) ∨ (¬ (cv.c = 100 ∨ cv.c = 105) ∧ ((cv.c.toNat : Int) == 100) = false ∧ ((cv.c.toNat : Int) == 105) = false) := by
          by_cases h1 : cv.c = 100
          · exact .inl ⟨h1, beq_t (d := 100) h1⟩
          · by_cases h2 : cv.c = 105
            · exact .inr (.inl ⟨h2, beq_f (d := 100) h1, beq_t (d := 105) h2⟩)
            · exact .inr (.inr ⟨fun h => h.elim h1 h2, beq_f (d := 100) h1, beq_f (d := 105) h2⟩)
        rcases hq with ⟨h, q1⟩ | ⟨h, q1, q2⟩ | ⟨h, q1, q2⟩
        · have HF := fin (.inl h)
          clear fin HR h hv hS
          cases hp1 : cv.plus <;> cases hp2 : cv.blank <;> rw [hp1, hp2] at HF <;>
          · as_aux_lemma =>
              go_wp2
              go_meet
              exact ⟨by rw [HF.out]; rfl, by rw [hp1, hp2]⟩
        · have HF := fin (.inr h)
          clear fin HR h hv hS
          cases hp1 : cv.plus <;> cases hp2 : cv.blank <;> rw [hp1, hp2] at HF <;>
          · as_aux_lemma =>
              go_wp2
              go_meet
              exact ⟨by rw [HF.out]; rfl, by rw [hp1, hp2]⟩
        · have HF : Hid (S1 = ⟨#[]⟩) := by unfold Hid; rw [HR.out, if_neg h]
          clear fin HR h hv hS
          as_aux_lemma =>
            go_wp2
            go_meet
            exact ⟨by rw [HF.out], rfl⟩
      · have HF : Hid (S1 = ⟨S0.toArray⟩) := by unfold Hid; rw [HS1.out, ← HS0.out]; unfold rsign1; rw [if_neg (by rw [HS0.out]; exact hv)]
        clear hv
        as_aux_lemma =>
          go_wp2
          go_meet
          exact ⟨by rw [HF.out], rfl⟩
    case rest =>
      obtain ⟨rfl, rfl⟩ := hcut
      clear HC
      obtain ⟨⟨⟨s0, s1, s2, s3, s4, s5, sfz, sty⟩, s6⟩, _⟩ := HSP.out
      clear sfz sty
      go_upto_region 10 with (first
        | (go_at_call 41; refine (HAB.out _).mono ?_; rintro e w' ⟨rfl, rfl⟩)
        | (go_at_call 38; refine (HDG.out _ (HL.out.below HSP.out.2)).mono ?_; rintro e w2 ⟨rfl, hb2⟩; have HR2 := Lib.hid (HSP.out.below hb2)))
      go_cut [39] (fun v wx => ∃ c : Bool, v = .bool c ∧ w2 = wx ∧ Hid ((c = true ∧ inB x = true ∧ ∀ W, (convert 36 84 (.float .f64 Tn)).run Tryz.prog W = .ok (.int .u64 (valT x)) W) ∨ (c = false ∧ inB x = false)))
      case first =>
        rcases HTT.out with ⟨i1, i2, i3, i4⟩ | ⟨i1, i2⟩ | ⟨i1, i2, i3⟩
        · have HI := Lib.hid (And.intro i1 i4)
          clear i1 i4
          as_aux_lemma =>
            go_wp2
            go_meet
            exact ⟨true, rfl, rfl, .inl ⟨rfl, HI.out.1, HI.out.2⟩⟩
        · have HI := Lib.hid i1
          clear i1
          as_aux_lemma =>
            go_wp2
            go_meet
            exact ⟨false, rfl, rfl, .inr ⟨rfl, HI.out⟩⟩
        · have HI := Lib.hid i1
          clear i1
          as_aux_lemma =>
            go_wp2
            go_meet
            exact ⟨false, rfl, rfl, .inr ⟨rfl, HI.out⟩⟩
      case rest =>
        obtain ⟨c, rfl, rfl, HC⟩ := hcut
        clear HTT
        go_upto_if 39 with (fail)
        obtain ⟨D1, hD1⟩ : ∃ D1 : ByteArray, D1 = ⟨(wholeP cv x).2.toArray⟩ := ⟨_, rfl⟩
        have HD1 := Lib.hid hD1
        go_cut [10] (fun d wx => d = .string D1 ∧ Hid (RdW w wx cv.left cv.plus cv.blank cv.zero cv.width cv.prec cv.c.toNat))
        case first =>
          have hrd := rdig_eq (cv := cv) hf hc
          obtain ⟨⟨⟨s0, s1, s2, s3, s4, s5, sfz, sty⟩, s6⟩, _⟩ := HR2.out
          clear sfz sty
          rcases HC.out with ⟨rfl, hi, hcv⟩ | ⟨rfl, hi⟩
          · obtain ⟨_, v0, v1⟩ := (inB_iff x).1 hi
            obtain ⟨V, hV⟩ : ∃ V : Nat, valT x = V := ⟨(valT x).toNat, by omega⟩
            rw [hV] at hcv v1 hrd
            simp only [hi, true_and, Int.toNat_natCast] at hrd
            have HJ := Lib.hid (HL.out.below HR2.out.2)
            have hV1 : V < 18446744073709551616 := by omega
            by_cases h111 : cv.c = 111
            · have b111 : ((cv.c.toNat : Int) == 111) = true := beq_t (d := 111) h111
              rw [if_pos h111] at hrd
              have HU : Hid (Calls Tryz.prog 57 #[.int .u64 V, .int .i64 8] w2 fun e w' => e = .returned (.string D1) ∧ Below w2.heap.size w2 w') := by unfold Hid; rw [hD1, hrd]; exact uint8_any V w2 HJ.out hV1
              clear hrd hi h111 hD1
              as_aux_lemma =>
                go_wp2_with (go_at_call 57; refine HU.out.mono ?_; rintro e w3 ⟨rfl, hb3⟩)
                go_meet
                exact ⟨rfl, HR2.out.below hb3⟩
            rw [if_neg h111] at hrd
            have b111 : ((cv.c.toNat : Int) == 111) = false := beq_f (d := 111) h111
            by_cases h120 : cv.c = 120
            · have b120 : ((cv.c.toNat : Int) == 120) = true := beq_t (d := 120) h120
              rw [if_pos h120] at hrd
              have HU : Hid (Calls Tryz.prog 57 #[.int .u64 V, .int .i64 16] w2 fun e w' => e = .returned (.string D1) ∧ Below w2.heap.size w2 w') := by unfold Hid; rw [hD1, hrd]; exact uint16_any V w2 HJ.out hV1
              clear hrd hi h111 h120 hD1
              as_aux_lemma =>
                go_wp2_with (go_at_call 57; refine HU.out.mono ?_; rintro e w3 ⟨rfl, hb3⟩)
                go_meet
                exact ⟨rfl, HR2.out.below hb3⟩
            rw [if_neg h120] at hrd
            have b120 : ((cv.c.toNat : Int) == 120) = false := beq_f (d := 120) h120
            by_cases h88 : cv.c = 88
            · have b88 : ((cv.c.toNat : Int) == 88) = true := beq_t (d := 88) h88
              rw [if_pos h88] at hrd
              have hlen := (uintT_ok V 16 (.inr rfl)).1
              have HU : Hid (Calls Tryz.prog 57 #[.int .u64 V, .int .i64 16] w2 fun e w' => e = .returned (.string ⟨(uintT V 16).toArray⟩) ∧ Below w2.heap.size w2 w') := uint16_any V w2 HJ.out hV1
              have HUP : Hid (∀ W, Calls Tryz.prog 66 #[.string ⟨(uintT V 16).toArray⟩] W fun e w' => e = .returned (.string D1) ∧ Below W.heap.size W w') := fun W => by
                rw [hD1, hrd]; exact rupper_any ⟨(uintT V 16).toArray⟩ W (by simp [ByteArray.size]; omega)
              clear hrd hi h111 h120 h88 hlen hD1
              as_aux_lemma =>
                go_wp2_with (first
                  | (go_at_call 57; refine HU.out.mono ?_; rintro e w3 ⟨rfl, hb3⟩)
                  | (go_at_call 66; refine (HUP.out _).mono ?_; rintro e w4 ⟨rfl, hb4⟩))
                go_meet
                exact ⟨rfl, (HR2.out.below hb3).below hb4⟩
            rw [if_neg h88] at hrd
            have b88 : ((cv.c.toNat : Int) == 88) = false := beq_f (d := 88) h88
            have HE : Hid (D0 = D1) := by unfold Hid; rw [hD1, hrd]; exact HD0.out
            clear hrd hi h111 h120 h88 hD1
            as_aux_lemma =>
              go_wp2
              go_meet
              exact ⟨by rw [HE.out], HR2⟩
          · have HE : Hid (D0 = D1) := by
              unfold Hid
              rw [hD1, hrd]
              simp only [hi, Bool.false_eq_true, false_and, if_false]
              exact HD0.out
            clear hrd hi hD1
            as_aux_lemma =>
              go_wp2
              go_meet
              exact ⟨by rw [HE.out], HR2⟩
        case rest =>
          obtain ⟨rfl, HR3⟩ := hcut
          clear HC HR2 s0 s1 s2 s3 s4 s5 s6
          rename World => w4
          obtain ⟨⟨⟨s0, s1, s2, s3, s4, s5, sfz, sty⟩, s6⟩, _⟩ := HR3.out
          clear sfz sty
          obtain ⟨L, hLL⟩ : ∃ L, (wholeP cv x).2 = L := ⟨_, rfl⟩
          obtain ⟨D2, hD2⟩ : ∃ D2 : ByteArray, D2 = ⟨(wholeT uintT cv x).2.toArray⟩ := ⟨_, rfl⟩
          have hw1 : S1 = ⟨(wholeT uintT cv x).1.toArray⟩ := by rw [HS1.out, rsign1_eq hf hc]; rfl
          have HW := Lib.hid (And.intro hw1 hD2)
          have hT : (wholeT uintT cv x).2 = if (L.length : Int) < cv.prec then zerosL (cv.prec.toNat - L.length) ++ L else L := by
            rw [wholeT_of]
            show (if finB x = true ∧ ((wholeP cv x).2.length : Int) < cv.prec then _ else _) = _
            rw [hLL]
            simp only [(finB_iff x).2 hf, true_and]
          have HT2 : Hid (D2 = ⟨(if (L.length : Int) < cv.prec then zerosL (cv.prec.toNat - L.length) ++ L else L).toArray⟩) := by unfold Hid; rw [hD2, hT]
          have hlen : L.length ≤ 1000 := by rw [← hLL]; exact (wholeP_len cv x hxx).2
          have HDL : Hid (D1 = ⟨(zerosL 0 ++ L).toArray⟩ ∧ D1.size = L.length) := by
            unfold Hid
            rw [hD1, hLL]
            exact ⟨rfl, by simp [ByteArray.size]⟩
          clear hD1 HD1 hw1 hD2 hT hLL
          go_upto_block 1 with (fail)
          go_cut [10] (fun d wx => d = .string D2 ∧ w4 = wx)
          case first =>
            as_aux_lemma =>
              go_wp2
              go_loopg [10] cv.prec.toNat (fun g d wr => ∃ (k : Nat) (D : ByteArray), d = .string D ∧ g + k = cv.prec.toNat ∧ (k = 0 ∨ ((k + L.length : Nat) : Int) ≤ cv.prec) ∧ D.size = k + L.length ∧ w4 = wr ∧ Hid (D = ⟨(zerosL k ++ L).toArray⟩))
              case atStart => exact ⟨0, D1, rfl, rfl, .inl rfl, by have := HDL.out.2; omega, rfl, HDL.out.1⟩
              case round =>
                obtain ⟨k, D, rfl, hgk, hk, hDz, rfl, HDD⟩ := hrel
                by_cases hlt : (D.size : Int) < cv.prec
                · have hz : (⟨#[48]⟩ ++ D : ByteArray).size = k + 1 + L.length := by rw [ByteArray.size_append, hDz]; show 1 + _ = _; omega
                  have HZ := Lib.hid hz
                  have HD3 : Hid ((⟨#[48]⟩ ++ D : ByteArray) = ⟨(zerosL (k + 1) ++ L).toArray⟩) := by
                    unfold Hid
                    refine ba_of _ _ ?_
                    rw [show (⟨#[48]⟩ ++ D : ByteArray).data.toList = [48] ++ D.data.toList by simp, HDD.out]; rfl
                  have HKL : Hid (((k + 1 + L.length : Nat) : Int) ≤ cv.prec) := by unfold Hid; omega
                  clear hz hk
                  go_wp2
                  go_roundg (gk - 1)
                  case measure => have := HKL.out; omega
                  case rel => exact ⟨k + 1, _, rfl, by have := HKL.out; omega, .inr HKL.out, HZ.out, rfl, HD3⟩
                · have HE : Hid (D = D2) := by
                    unfold Hid
                    rw [HT2.out, HDD.out]
                    by_cases h : (L.length : Int) < cv.prec
                    · rw [if_pos h, show cv.prec.toNat - L.length = k by omega]
                    · rw [if_neg h, show k = 0 by omega]; rfl
                  clear hk
                  go_wp2
                  go_meet
                  exact ⟨by rw [HE.out], rfl⟩
          case rest =>
            obtain ⟨rfl, rfl⟩ := hcut
            go_wp2
            go_region
            go_wp2
            refine bodyPost_ret (v := .tuple #[.string S1, .string D2, .bool (decide (cv.prec < 0))]) (by simp [results, Tryz.results48, go_sem]) rfl ?_
            refine ⟨?_, HR3.out.2.drew⟩
            rw [HW.out.1, HW.out.2]

end Go.Proofs.YtdencljnbilchaaGreatDoor

namespace Go.Proofs.YtdencljnbilchaaGreatDoor
open Go.RowKit

/-- Below nought, as the test says. -/
def ltz (x : Nat) : Bool := FloatKind.f64.format.order x 0 == some .lt
/-- The sign ahead. -/
def rsign (cv : FConv) (x : Nat) : List UInt8 :=
  if ltz x = true then [45] else if cv.c = 117 ∨ cv.c = 111 ∨ cv.c = 120 ∨ cv.c = 88 then [] else signT cv.plus cv.blank false

theorem ltz_fin {x : Nat} (hf : finN x) : ltz x = decide (scal x < 0) := by
  unfold ltz
  rcases real_orders hf with ⟨h, o⟩ | ⟨h, o | o⟩
  · rw [o, decide_eq_true h]; rfl
  · rw [o, decide_eq_false h]; rfl
  · rw [o, decide_eq_false h]; rfl
theorem rsign_fin {cv : FConv} {x : Nat} (hf : finN x) : rsign cv x = rsign0 cv x := by
  unfold rsign rsign0
  rw [ltz_fin hf]
  by_cases h : scal x < 0
  · rw [if_pos (decide_eq_true h), if_pos h]
  · rw [if_neg (by rw [decide_eq_false h]; simp), if_neg h]

/-- What is no finite number: its sign, its name. -/
theorem non_fin {x : Nat} (hx : x < 18446744073709551616) (hf : finB x = false) : (bareT x).2 = ltz x ∧ (bareT (absN x)).2 = false ∧ (bareT (absN x)).1 = (bareT x).1 ∧ finB (absN x) = false ∧ absN x < 18446744073709551616 ∧ FinA (absN x) false := by
  rcases class3 x hx with h | rfl | rfl | h
  · rw [(finB_iff x).2 h] at hf; cases hf
  · exact ⟨by kernel_rfl, by kernel_rfl, by kernel_rfl, by kernel_rfl, by decide, fun W => rfinite_inf W⟩
  · exact ⟨by kernel_rfl, by kernel_rfl, by kernel_rfl, by kernel_rfl, by decide, fun W => rfinite_inf W⟩
  · have e : absN x = x % 9223372036854775808 := rfl
    have ha : 9218868437227405312 < absN x % 9223372036854775808 := by rw [e]; omega
    have hl : absN x < 18446744073709551616 := by rw [e]; omega
    refine ⟨?_, ?_, ?_, ?_, hl, fun W => rfinite_nan _ (nan_order hl ha _) W⟩
    · rw [bareT_nan h]; unfold ltz; rw [nan_order hx h]; rfl
    · rw [bareT_nan ha]
    · rw [bareT_nan h, bareT_nan ha]
    · rw [Bool.eq_false_iff]
      intro h'
      have := (finB_iff _).1 h'
      unfold finN at this; omega

/-- Sign and rest, by the spec, of what is no finite number. -/
theorem parts_non {cv : FConv} {a : FArg} (hc : isWholeC cv.c = true ∨ isRealC cv.c = true) (hf : finB a.n = false) (hb : (bareT a.n).2 = ltz a.n) : partsT cv a = (rsign cv a.n, (bareT a.n).1, false) := by
  have hr : ∀ (p b : Bool), signT p b true = [45] := fun _ _ => rfl
  have key : (rsign cv a.n) = if cv.c = 100 ∨ cv.c = 105 ∨ isRealC cv.c = true then signT cv.plus cv.blank (ltz a.n) else signT false false (ltz a.n) := by
    unfold rsign
    cases hl : ltz a.n with
    | true => rw [if_pos rfl]; split <;> rfl
    | false =>
      rw [if_neg (by simp)]
      rcases hc with hc | hc
      · rcases wholeC_cases hc with q | q | q | q | q | q <;> simp [q, isRealC] <;> rfl
      · have h' : ¬ (cv.c = 117 ∨ cv.c = 111 ∨ cv.c = 120 ∨ cv.c = 88) := by
          intro h
          unfold isRealC at hc
          rcases h with q | q | q | q <;> rw [q] at hc <;> exact absurd hc (by decide)
        rw [if_neg h', if_pos (.inr (.inr hc))]
  rw [key]
  unfold partsT
  rcases hc with hc | hc
  · have h2 : cv.c ≠ 115 ∧ cv.c ≠ 99 ∧ isRealC cv.c = false := by
      rcases wholeC_cases hc with q | q | q | q | q | q <;> rw [q] <;> decide
    rw [if_neg h2.1, if_neg h2.2.1, if_pos hc]
    unfold wholeT
    simp only [hf, hb, Bool.false_eq_true, false_and, and_false, if_false, h2.2.2, or_false, Bool.false_and]
  · have h2 : cv.c ≠ 115 ∧ cv.c ≠ 99 ∧ isWholeC cv.c = false := by
      unfold isRealC at hc
      simp only [Bool.or_eq_true, decide_eq_true_eq] at hc
      rcases hc with ((((q | q) | q) | q) | q) | q <;> rw [q] <;> decide
    rw [if_neg h2.1, if_neg h2.2.1, if_neg (by rw [h2.2.2]; simp)]
    unfold realT
    simp only [hf, hb, Bool.false_eq_true, if_false]
    rw [if_pos (.inr (.inr hc))]

end Go.Proofs.YtdencljnbilchaaGreatDoor
