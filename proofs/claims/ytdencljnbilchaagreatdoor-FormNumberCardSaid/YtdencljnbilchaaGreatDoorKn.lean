/- The walk of the reference's Format. FormAny: the law. -/
import Derived.Test.YtdencljnbilchaaGreatDoorKd
import Derived.Test.YtdencljnbilchaaGreatDoorJm
import Derived.Test.YtdencljnbilchaaGreatDoorJl
import Derived.Test.YtdencljnbilchaaGreatDoorKk
import Derived.Test.YtdencljnbilchaaGreatDoorKh
import Derived.Deep.DeepCutAuto
import Derived.Deep.CutBlock
import Derived.Deep.RegionWith
import Derived.Test.YtdencljnbilchaaGreatDoorTb

namespace Go.Proofs.YtdencljnbilchaaGreatDoor
open Go.RowKit

theorem ext1 (f : ByteArray) (k : Nat) (h : k < f.size) : (f.extract k (k + 1)).data.toList = [f[k]] := by
  have h' : k < f.data.toList.length := by simpa using h
  rw [ex_list, show k + 1 - k = 1 by omega, List.drop_eq_getElem_cons h']
  rfl
theorem size_app (a b : ByteArray) : (a ++ b).size = a.size + b.size := by simp
theorem sz_list (a : ByteArray) : a.size = a.data.toList.length := rfl

theorem formEnd_fit {l : List UInt8} {A0 : List FArg} {w w' : World} {out : ByteArray} (h : formT uintT l (l.length + 1) 0 A0 = some out.data.toList) (hs : ¬ 256 < out.size) (hb : Below w.heap.size w w') : FormEnd l A0 w (.returned (.tuple #[.string out, .int .i64 0])) w' := by
  refine ⟨?_, hb⟩
  rw [formAll_some h, if_neg (by rw [← sz_list]; exact hs)]; rfl
theorem formEnd_over {l : List UInt8} {A0 : List FArg} {w w' : World} {out : ByteArray} (h : formT uintT l (l.length + 1) 0 A0 = some out.data.toList) (hs : 256 < out.size) (hb : Below w.heap.size w w') : FormEnd l A0 w (.returned (.tuple #[.string ⟨#[]⟩, .int .i64 43])) w' := by
  refine ⟨?_, hb⟩
  rw [formAll_some h, if_pos (by rw [← sz_list]; exact hs)]; rfl

/-- The conversion's cells, the argument's, once the argument is laid. -/
theorem sp_set3 {w2 w3 : World} {T : TypeId} {o : Obj} {l p bl z : Bool} {wd pr c : Int} (hb : Below ((w2.alloc (.cells #[.bool l, .bool p, .bool bl, .bool z, .int .i64 wd, .int .i64 pr, .int .u8 c] T)).heap.size + 1) ((w2.alloc (.cells #[.bool l, .bool p, .bool bl, .bool z, .int .i64 wd, .int .i64 pr, .int .u8 c] T)).alloc o) w3) (v0 v1 v2 : Value) :
    SpR (((w3.setCell ⟨w2.heap.size + 1, 0, none⟩ v0).setCell ⟨w2.heap.size + 1, 1, none⟩ v1).setCell ⟨w2.heap.size + 1, 2, none⟩ v2) T w2.heap.size l p bl z wd pr c :=
  (SpR.new w2 T).kept (by
    rw [Below.heap_setCell _ _ _ _ (by show w2.heap.size ≠ w2.heap.size + 1; omega), Below.heap_setCell _ _ _ _ (by show w2.heap.size ≠ w2.heap.size + 1; omega), Below.heap_setCell _ _ _ _ (by show w2.heap.size ≠ w2.heap.size + 1; omega)]
    rw [hb.block _ (by simp; omega), Go.heap_alloc_old _ _ (by simp)])
theorem arg_set3 {w3 : World} {B : Nat} {u0 u1 u2 v0 v1 v2 : Value} (c0 : w3.cell? ⟨B, 0, none⟩ = some u0) (c1 : w3.cell? ⟨B, 1, none⟩ = some u1) (c2 : w3.cell? ⟨B, 2, none⟩ = some u2) :
    (((w3.setCell ⟨B, 0, none⟩ v0).setCell ⟨B, 1, none⟩ v1).setCell ⟨B, 2, none⟩ v2).cell? ⟨B, 0, none⟩ = some v0 ∧
    (((w3.setCell ⟨B, 0, none⟩ v0).setCell ⟨B, 1, none⟩ v1).setCell ⟨B, 2, none⟩ v2).cell? ⟨B, 1, none⟩ = some v1 ∧
    (((w3.setCell ⟨B, 0, none⟩ v0).setCell ⟨B, 1, none⟩ v1).setCell ⟨B, 2, none⟩ v2).cell? ⟨B, 2, none⟩ = some v2 :=
  ⟨by rw [cs_other (addr_ne (by omega)), cs_other (addr_ne (by omega))]; exact cs_same c0,
   by rw [cs_other (addr_ne (by omega))]; exact cs_same (by rw [cs_other (addr_ne (by omega))]; exact c1),
   cs_same (by rw [cs_other (addr_ne (by omega)), cs_other (addr_ne (by omega))]; exact c2)⟩

theorem padZ_ways {left zero nb : Bool} {width : Nat} {S D : ByteArray} : (0 < padZ left zero nb width S.data.toList D.data.toList → nb = true ∧ zero = true ∧ left = false ∧ S.size + D.size + padZ left zero nb width S.data.toList D.data.toList = width) ∧ (padZ left zero nb width S.data.toList D.data.toList = 0 → nb = false ∨ zero = false ∨ left = true ∨ width ≤ S.size + D.size) := by
  have h1 : S.data.toList.length = S.size := rfl
  have h2 : D.data.toList.length = D.size := rfl
  unfold padZ
  rw [h1, h2]
  split
  · next h => exact ⟨fun _ => ⟨h.1, h.2.1, h.2.2, by omega⟩, fun _ => .inr (.inr (.inr (by omega)))⟩
  · next h =>
    refine ⟨fun h => by omega, fun _ => ?_⟩
    cases nb <;> cases zero <;> cases left <;> simp_all

theorem pad_ways {nb zero left bz : Bool} {S D : ByteArray} {Z gk j width : Nat} (hZ : (0 < Z → nb = true ∧ zero = true ∧ left = false ∧ S.size + D.size + Z = width) ∧ (Z = 0 → nb = false ∨ zero = false ∨ left = true ∨ width ≤ S.size + D.size)) (hg : gk + j = Z) (hb : decide (0 < gk) = bz) :
    (bz = false ∧ (nb = false ∨ (nb = true ∧ zero = false) ∨ (nb = true ∧ zero = true ∧ left = true) ∨ (nb = true ∧ zero = true ∧ left = false ∧ decide ((S.size : Int) + ((j : Int) + (D.size : Int)) < (width : Int)) = false))) ∨
    (bz = true ∧ nb = true ∧ zero = true ∧ left = false ∧ decide ((S.size : Int) + ((j : Int) + (D.size : Int)) < (width : Int)) = true) := by
  subst hb
  by_cases h : 0 < gk
  · right
    obtain ⟨h1, h2, h3, h4⟩ := hZ.1 (by omega)
    exact ⟨decide_eq_true h, h1, h2, h3, decide_eq_true (by omega)⟩
  · left
    refine ⟨decide_eq_false h, ?_⟩
    cases hn : nb
    · exact .inl rfl
    · cases hz : zero
      · exact .inr (.inl ⟨rfl, rfl⟩)
      · cases hl : left
        · refine .inr (.inr (.inr ⟨rfl, rfl, rfl, decide_eq_false ?_⟩))
          by_cases h0 : 0 < Z
          · have := (hZ.1 h0).2.2.2; omega
          · rcases hZ.2 (by omega) with h' | h' | h' | h'
            · rw [hn] at h'; cases h'
            · rw [hz] at h'; cases h'
            · rw [hl] at h'; cases h'
            · omega
        · exact .inr (.inr (.inl ⟨rfl, rfl, rfl⟩))

/-- Filled so far. -/
def padT (left : Bool) (j : Nat) (t : ByteArray) : ByteArray := if left = true then t ++ bB j else bB j ++ t
theorem padT_size (left : Bool) (j : Nat) (t : ByteArray) : (padT left j t).size = t.size + j := by
  unfold padT
  split
  · rw [sz_app, bB_size]
  · rw [sz_app, bB_size]; omega
theorem padT_zero (left : Bool) (t : ByteArray) : padT left 0 t = t := by
  have h : bB 0 = ByteArray.empty := rfl
  unfold padT
  rw [h]
  split
  · exact ByteArray.append_empty
  · exact ByteArray.empty_append
theorem padT_left (j : Nat) (t : ByteArray) : padT true j t ++ ⟨#[32]⟩ = padT true (j + 1) t := by
  unfold padT; rw [if_pos rfl, if_pos rfl]; exact bB_right j t
theorem padT_right (j : Nat) (t : ByteArray) : (⟨#[32]⟩ : ByteArray) ++ padT false j t = padT false (j + 1) t := by
  unfold padT; rw [if_neg (by decide), if_neg (by decide)]; exact bB_left j t

set_option maxRecDepth 100000 in
set_option maxHeartbeats 8000000 in
theorem rformat_any (f : ByteArray) (v0 : Value) (A0 : List FArg) (w : World) (hf : f.size ≤ 140737488351232) (hL : LaidJ w) (hA : ArgsAt w w.heap.size v0 A0) (hok : argsOk A0) :
    Calls Tryz.prog 13 #[.string f, v0] w (FormEnd f.data.toList A0 w) := by
  have HL := Lib.hid hL
  have HOK0 := Lib.hid hok
  have HA0 := Lib.hid hA
  have hm : f.size ≤ maxLen := by unfold maxLen; omega
  have HM := Lib.hid hm
  clear hL hok hA hm
  go_enter Tryz.func13, Tryz.ntmps13
  go_wp2
  go_loopw [1, 6, 7] (fun v o i wr => ∃ (k : Nat) (out : ByteArray) (A : List FArg), i = .int .i64 k ∧ o = .string out ∧ k ≤ f.size ∧ out.size ≤ 6000 * k ∧ Hid (ArgsAt wr w.heap.size v A) ∧ Hid (argsOk A) ∧ Hid (Below w.heap.size w wr) ∧ Hid (FormR uintT f.data.toList A0 out.data.toList k A)) (fun _ _ i _ => f.size - (intOf i).toNat)
  case atStart => exact ⟨0, ⟨#[]⟩, A0, rfl, rfl, by omega, Nat.zero_le _, HA0, HOK0, Below.refl _ _, FormR.start _ _ _⟩
  case round =>
    obtain ⟨k, out, A, rfl, rfl, hk, ho, HA, HOK, HB, HFR⟩ := hrel
    by_cases hlt : k < f.size
    · by_cases hc : f[k] = 37
      · have b37 : ((f[k].toNat : Int) != 37) = false := bne_f (d := 37) hc
        by_cases h1 : f.data.toList[k + 1]? = some 37
        · obtain ⟨hl1, hv1⟩ := List.getElem?_eq_some_iff.1 h1
          have hs1 : k + 1 < f.size := by simpa using hl1
          have c1 : f[k + 1] = 37 := hv1
          have b1 : ((f[k + 1].toNat : Int) == 37) = true := beq_t (d := 37) c1
          have H1 := Lib.hid (And.intro h1 hc)
          clear h1 hl1 hv1 c1 hc
          go_wp2
          go_roundw
          case rel =>
            refine ⟨k + 2, _, A, by go_num, rfl, by omega, ?_, HA, HOK, HB, ?_⟩
            · rw [size_app]
              show out.size + 1 ≤ _
              omega
            · show FormR _ _ _ _ _ _
              rw [app_data]
              exact HFR.out.pct (by rw [List.getElem?_eq_getElem (by simpa using hlt)]; exact congrArg some H1.out.2) H1.out.1
          case measure => simp [intOf]; omega
        · have HNX : Hid ((∃ h : k + 1 < f.size, ((f[k + 1].toNat : Int) == 37) = false) ∨ ¬ k + 1 < f.size) := by
            by_cases h : k + 1 < f.size
            · refine .inl ⟨h, beq_f (d := 37) fun q => h1 ?_⟩
              rw [List.getElem?_eq_getElem (by simpa using h)]; exact congrArg some q
            · exact .inr h
          have H1 := Lib.hid (And.intro h1 (show f.data.toList[k]? = some 37 by rw [List.getElem?_eq_getElem (by simpa using hlt)]; exact congrArg some hc))
          clear h1 hc
          go_upto_region 7 with (fail)
          go_cut [44] (fun v wx => v = .bool false ∧ wr = wx)
          case first =>
            rcases HNX.out with ⟨h, b1⟩ | h
            · as_aux_lemma =>
                go_wp2
                go_meet
                exact ⟨rfl, rfl⟩
            · as_aux_lemma =>
                go_wp2
                go_meet
                exact ⟨rfl, rfl⟩
          case rest =>
            obtain ⟨rfl, rfl⟩ := hcut
            clear HNX
            have HR0 : Hid (Calls Tryz.prog 29 #[.string f, .int .i64 ((k : Int) + 1), u1] wr (ReadEnd f.data.toList (k + 1) A wr w.heap.size)) := by
              have := read_any f (k + 1) u1 A w.heap.size wr hf (by omega) HA.out HB.out.size HOK.out
              rw [show ((k + 1 : Nat) : Int) = (k : Int) + 1 by omega] at this
              exact this
            cases hr : readT f.data.toList (k + 1) A with
            | none =>
              have HE : Hid (formT uintT f.data.toList (f.data.toList.length + 1) 0 A0 = none) := HFR.out.bad H1.out.2 H1.out.1 hr
              have HRD : Hid (Calls Tryz.prog 29 #[.string f, .int .i64 ((k : Int) + 1), u1] wr (fun e w' => ∃ (b1 b2 b3 b4 : Bool) (wd pr c : Int), e = .returned (.tuple #[.agg #[.bool b1, .bool b2, .bool b3, .bool b4, .int .i64 wd, .int .i64 pr, .int .u8 c], .int .i64 0, .slice none 0 0, .bool false]) ∧ Hid (Below w.heap.size w w'))) := by
                refine HR0.out.mono ?_
                rintro e w' ⟨hb, ⟨cv, k', A', a', h, _⟩ | ⟨_, b1, b2, b3, b4, wd, pr, c, rfl⟩⟩
                · rw [hr] at h; cases h
                · exact ⟨b1, b2, b3, b4, wd, pr, c, rfl, HB.out.trans (hb.mono HB.out.size)⟩
              clear hr
              go_wp2_with (go_at_call 29; refine HRD.out.mono ?_; rintro e w2 ⟨b1, b2, b3, b4, wd, pr, c, rfl, HB2⟩)
              refine bodyPost_ret (v := .tuple #[.string ⟨#[]⟩, .int .i64 46]) (by simp [results, Tryz.results13, go_sem]) rfl ?_
              exact formEnd_bad HE.out (HB2.out.alloc HB2.out.size _)
            | some r =>
              obtain ⟨cv, k', A'⟩ := r
              obtain ⟨r1, r2, r3, r4, r5, r6⟩ := readT_bd hr
              have HOK' : Hid (argsOk A') := r6 HOK.out
              have HFC := Lib.hid (fun h => HFR.out.conv H1.out.2 H1.out.1 hr h)
              have HRD : Hid (Calls Tryz.prog 29 #[.string f, .int .i64 ((k : Int) + 1), u1] wr (fun e w' => ∃ a', e = .returned (.tuple #[.agg #[.bool cv.left, .bool cv.plus, .bool cv.blank, .bool cv.zero, .int .i64 cv.width, .int .i64 cv.prec, .int .u8 cv.c.toNat], .int .i64 (k' : Nat), a', .bool true]) ∧ Hid (ArgsAt w' w.heap.size a' A') ∧ Hid (Below w.heap.size w w'))) := by
                refine HR0.out.mono ?_
                rintro e w' ⟨hb, ⟨cv2, k2, A2, a', h, he, ha⟩ | ⟨h, _⟩⟩
                · rw [hr] at h; cases h
                  exact ⟨a', he, ha, HB.out.trans (hb.mono HB.out.size)⟩
                · rw [hr] at h; cases h
              clear hr r6 HR0
              have HT : Hid (∀ W a', Hid (ArgsAt W w.heap.size a' A') → w.heap.size ≤ W.heap.size → Calls Tryz.prog 30 #[a'] W (TakeEnd W w.heap.size A')) := fun W a' h h2 => rtake_any W w.heap.size a' A' h.out h2
              go_upto_region 14 with (go_at_call 29; refine HRD.out.mono ?_; rintro e w2 ⟨a', rfl, HA2, HB2⟩)
              have HN2 : Hid (w.heap.size ≤ w2.heap.size) := HB2.out.size
              have HA3 : Hid (∀ S T, ArgsAt ((w2.alloc (.cells S T)).alloc (.cells #[.float .f64 0, .string ⟨#[]⟩, .bool false] 52)) w.heap.size a' A') := fun S T => by
                have := HN2.out
                exact HA2.out.kept fun b hb => by rw [Go.heap_alloc_old _ _ (by simp; omega), Go.heap_alloc_old _ _ (by omega)]
              go_upto_region 15 with (go_at_call 30; refine (HT.out _ _ (HA3.out _ _) (by have := HN2.out; simp; omega)).mono ?_; rintro e w3 ⟨a3, rfl, ha3, hb3⟩; have hb3' := hb3.mono (B' := (w2.alloc (.cells #[.bool cv.left, .bool cv.plus, .bool cv.blank, .bool cv.zero, .int .i64 cv.width, .int .i64 cv.prec, .int .u8 cv.c.toNat] 67)).heap.size + 1) (by simp); have HA4 := Lib.hid ha3; have HB3 := Lib.hid hb3'; obtain ⟨c0, c1, c2, cf⟩ := cells3 hb3'; have f0 := cf 0; have f1 := cf 1; have f2 := cf 2; have eS : (w2.alloc (.cells #[.bool cv.left, .bool cv.plus, .bool cv.blank, .bool cv.zero, .int .i64 cv.width, .int .i64 cv.prec, .int .u8 cv.c.toNat] 67)).heap.size = w2.heap.size + 1 := by { simp }; rw [eS] at c0 c1 c2 f0 f1 f2; clear ha3 hb3 hb3' cf eS)
              have HSP := Lib.hid (sp_set3 HB3.out (.float .f64 (argH A').n) (.string ⟨(argH A').s.toArray⟩) (.bool (argH A').num))
              obtain ⟨d0, d1, d2⟩ := arg_set3 (v0 := .float .f64 (argH A').n) (v1 := .string ⟨(argH A').s.toArray⟩) (v2 := .bool (argH A').num) c0 c1 c2
              have HA5 := Lib.hid (argsAt_set3 HA4.out (show w.heap.size ≤ w2.heap.size + 1 by have := HN2.out; omega) (.float .f64 (argH A').n) (.string ⟨(argH A').s.toArray⟩) (.bool (argH A').num))
              have HB5 : Hid (Below w.heap.size w (((w3.setCell ⟨w2.heap.size + 1, 0, none⟩ (.float .f64 (argH A').n)).setCell ⟨w2.heap.size + 1, 1, none⟩ (.string ⟨(argH A').s.toArray⟩)).setCell ⟨w2.heap.size + 1, 2, none⟩ (.bool (argH A').num))) := by
                have hn := HN2.out
                have h1 : Below w.heap.size w w3 := ((HB2.out.alloc HB2.out.size _).alloc (by simp; omega) _).trans (HB3.out.mono (by simp; omega))
                exact ((h1.setCell (p := ⟨w2.heap.size + 1, 0, none⟩) (by show w.heap.size ≤ w2.heap.size + 1; omega) _).setCell (p := ⟨w2.heap.size + 1, 1, none⟩) (by show w.heap.size ≤ w2.heap.size + 1; omega) _).setCell (p := ⟨w2.heap.size + 1, 2, none⟩) (by show w.heap.size ≤ w2.heap.size + 1; omega) _
              clear HA4 HB3 f0 f1 f2 HA2 HA3 HT HRD HB2 c0 c1 c2
              generalize (((w3.setCell ⟨w2.heap.size + 1, 0, none⟩ (.float .f64 (argH A').n)).setCell ⟨w2.heap.size + 1, 1, none⟩ (.string ⟨(argH A').s.toArray⟩)).setCell ⟨w2.heap.size + 1, 2, none⟩ (.bool (argH A').num)) = W4 at *
              obtain ⟨⟨s0, s1, s2, s3, s4, s5, _, _⟩, s6⟩ := HSP.out
              obtain ⟨S, hS⟩ : ∃ S : ByteArray, S = ⟨(partsT cv (argH A')).1.toArray⟩ := ⟨_, rfl⟩
              obtain ⟨D, hD⟩ : ∃ D : ByteArray, D = ⟨(partsT cv (argH A')).2.1.toArray⟩ := ⟨_, rfl⟩
              obtain ⟨nb, hnb⟩ : ∃ nb, (partsT cv (argH A')).2.2 = nb := ⟨_, rfl⟩
              obtain ⟨ha1, ha2⟩ := argsOk.head HOK'.out
              obtain ⟨l1, l2⟩ := partsT_len5 cv (argH A') ha1 ha2 r3 r4
              have zS : S.size ≤ 1 := by rw [hS]; show (partsT cv (argH A')).1.toArray.size ≤ 1; rw [List.size_toArray]; exact l1
              have zD : D.size ≤ 5000 := by rw [hD]; show (partsT cv (argH A')).2.1.toArray.size ≤ 5000; rw [List.size_toArray]; exact l2
              have HP : Hid (partsT cv (argH A') = (S.data.toList, D.data.toList, nb)) := by rw [hS, hD, ← hnb]; exact rfl
              have HBD : Hid (∀ W, Below w.heap.size w W → Calls Tryz.prog 31 #[.agg #[.bool cv.left, .bool cv.plus, .bool cv.blank, .bool cv.zero, .int .i64 cv.width, .int .i64 cv.prec, .int .u8 cv.c.toNat], .agg #[.float .f64 (argH A').n, .string ⟨(argH A').s.toArray⟩, .bool (argH A').num]] W (fun e w' => e = .returned (.tuple #[.string S, .string D, .bool nb]) ∧ Below W.heap.size W w')) := fun W hW => by
                rw [hS, hD, ← hnb]
                exact rbody_any cv r3 r4 (argH A') ha1 W (HL.out.below hW)
              clear hS hD hnb ha1 ha2 l1 l2 r3 r4
              have HFC2 := Lib.hid (HFC.out (by omega) r2)
              obtain ⟨Z, hZ⟩ : ∃ Z, padZ cv.left cv.zero nb cv.width S.data.toList D.data.toList = Z := ⟨_, rfl⟩
              have HZ : Hid ((0 < Z → nb = true ∧ cv.zero = true ∧ cv.left = false ∧ S.size + D.size + Z = cv.width) ∧ (Z = 0 → nb = false ∨ cv.zero = false ∨ cv.left = true ∨ cv.width ≤ S.size + D.size)) := by
                rw [← hZ]; exact padZ_ways
              have zT : Z ≤ 200 := by rw [← hZ]; unfold padZ; split <;> omega
              have HT : Hid (refT cv.left cv.zero nb cv.width S D = padT cv.left (cv.width - (S ++ (zB Z ++ D)).size) (S ++ (zB Z ++ D))) := by rw [← hZ]; rfl
              clear hZ
              go_wp2_with (go_at_call 31; refine (HBD.out W4 HB5.out).mono ?_; rintro e w5 ⟨rfl, hb5⟩)
              have hblk := hb5.block w2.heap.size (World.block_lt_of_cell? W4 ⟨w2.heap.size, 0, none⟩ s0)
              have HSP5 := Lib.hid (HSP.out.kept hblk)
              have HA6 : Hid (ArgsAt w5 w.heap.size a3 A'.tail) := HA5.out.kept fun b hb => hb5.block b (Nat.lt_of_lt_of_le hb HB5.out.size)
              have HB6 : Hid (Below w.heap.size w w5) := HB5.out.trans (hb5.mono HB5.out.size)
              clear s0 s1 s2 s3 s4 s5 s6 d0 d1 d2 HSP HA5 HB5 HBD hblk hb5
              obtain ⟨⟨s0, _, _, s3, s4, _, _, _⟩, _⟩ := HSP5.out
              go_loopg [14] Z (fun g t wr => ∃ (j : Nat) (T : ByteArray), g + j = Z ∧ t = .string T ∧ T.size = j + D.size ∧ Hid (T = zB j ++ D) ∧ w5 = wr)
              case atStart => exact ⟨0, D, by omega, rfl, by omega, by unfold Hid; exact (ByteArray.empty_append).symm, rfl⟩
              case round =>
                obtain ⟨j, T, hg, rfl, hTs, HTT, rfl⟩ := hrel
                obtain ⟨bz, hbz⟩ : ∃ bz, decide (0 < gk) = bz := ⟨_, rfl⟩
                have HWY := Lib.hid (pad_ways HZ.out hg hbz)
                have HBZ := Lib.hid hbz
                clear hbz
                go_upto_region 16 with (fail)
                go_cut [92] (fun v wx => v = .bool bz ∧ w5 = wx)
                case first =>
                  rcases HWY.out with ⟨rfl, h1 | ⟨h1, h2⟩ | ⟨h1, h2, h3⟩ | ⟨h1, h2, h3, h4⟩⟩ | ⟨rfl, h1, h2, h3, h4⟩
                  · subst h1
                    clear HWY HBZ HP
                    as_aux_lemma =>
                      go_wp2
                      go_meet
                      exact ⟨rfl, rfl⟩
                  · subst h1
                    rw [h2] at s3
                    clear HWY HBZ HP h2
                    as_aux_lemma =>
                      go_wp2
                      go_meet
                      exact ⟨rfl, rfl⟩
                  all_goals
                    subst h1
                    rw [h2] at s3
                    rw [h3] at s0
                    clear HWY HBZ HP h2 h3
                    as_aux_lemma =>
                      go_wp2
                      go_meet
                      exact ⟨rfl, rfl⟩
                case rest =>
                  obtain ⟨rfl, rfl⟩ := hcut
                  clear HWY
                  cases bz with
                  | true =>
                    obtain ⟨g', rfl⟩ : ∃ g', gk = g' + 1 := ⟨gk - 1, by have := of_decide_eq_true HBZ.out; omega⟩
                    go_wp2
                    go_roundg g'
                    case measure => omega
                    case rel => exact ⟨j + 1, _, by omega, rfl, by rw [sz_app, hTs]; show 1 + _ = _; omega, by unfold Hid; rw [HTT.out]; exact zB_step j D, rfl⟩
                  | false =>
                    obtain rfl : gk = 0 := by have := of_decide_eq_false HBZ.out; omega
                    obtain rfl : j = Z := by omega
                    obtain ⟨Y, hY⟩ : ∃ Y, cv.width - (S ++ T).size = Y := ⟨_, rfl⟩
                    have hY' := hY
                    rw [sz_app] at hY'
                    have HU : Hid (refT cv.left cv.zero nb cv.width S D = padT cv.left Y (S ++ T)) := by rw [HT.out, ← HTT.out, hY]; exact rfl
                    clear HBZ HT HTT HZ hg hY
                    go_wp2
                    go_loopg [14] Y (fun g t wr => ∃ (i : Nat) (U : ByteArray), g + i = Y ∧ t = .string U ∧ U.size = S.size + T.size + i ∧ Hid (U = padT cv.left i (S ++ T)) ∧ w5 = wr)
                    case atStart => exact ⟨0, S ++ T, by omega, rfl, by rw [sz_app]; omega, (padT_zero _ _).symm, rfl⟩
                    case round =>
                      obtain ⟨i, U, hg, rfl, hUs, HUU, rfl⟩ := hrel
                      cases gk with
                      | zero =>
                        obtain rfl : i = Y := by omega
                        have hge : ¬ U.size < cv.width := by omega
                        have HTL : Hid (U.data.toList = tellT uintT cv (argH A')) := by
                          unfold Hid; rw [HUU.out, ← HU.out]; exact refT_tell HP.out
                        clear HUU HU HP
                        go_wp2
                        go_roundw
                        case rel =>
                          refine ⟨k', _, A'.tail, rfl, rfl, r2, ?_, HA6, argsOk.tail HOK'.out, HB6, ?_⟩
                          · rw [sz_app]; omega
                          · show FormR _ _ _ _ _ _
                            rw [app_data, HTL.out]; exact HFC2.out
                        case measure => simp [intOf]; omega
                      | succ g' =>
                        have hlt : U.size < cv.width := by omega
                        clear HU HP
                        rcases Bool.eq_false_or_eq_true cv.left with hl | hl
                        · rw [hl] at HUU s0
                          have HU2 := Lib.hid hl
                          clear hl
                          go_wp2
                          go_roundg g'
                          case measure => omega
                          case rel => exact ⟨i + 1, _, by omega, rfl, by rw [sz_app, hUs]; show _ + 1 = _; omega, by unfold Hid; rw [HU2.out, HUU.out]; exact padT_left i _, rfl⟩
                        · rw [hl] at HUU s0
                          have HU2 := Lib.hid hl
                          clear hl
                          go_wp2
                          go_roundg g'
                          case measure => omega
                          case rel => exact ⟨i + 1, _, by omega, rfl, by rw [sz_app, hUs]; show 1 + _ = _; omega, by unfold Hid; rw [HU2.out, HUU.out]; exact padT_right i _, rfl⟩
      · have b37 : ((f[k].toNat : Int) != 37) = true := bne_t (d := 37) hc
        go_wp2
        go_roundw
        case rel =>
          refine ⟨k + 1, _, A, by go_num, rfl, by omega, ?_, HA, HOK, HB, ?_⟩
          · rw [size_app, sz_list (f.extract k (k + 1)), ext1 f k hlt]
            show out.size + 1 ≤ _
            omega
          · show FormR _ _ _ _ _ _
            rw [app_data, ext1 f k hlt]
            exact HFR.out.char (List.getElem?_eq_getElem (by simpa using hlt)) hc
        case measure => simp [intOf]; omega
    · have HE : Hid (formT uintT f.data.toList (f.data.toList.length + 1) 0 A0 = some out.data.toList) := HFR.out.done (by rw [← sz_list]; omega)
      by_cases h256 : 256 < out.size
      · go_wp2
        refine bodyPost_ret (v := .tuple #[.string ⟨#[]⟩, .int .i64 43]) (by simp [results, Tryz.results13, go_sem]) rfl ?_
        exact formEnd_over HE.out h256 HB.out
      · go_wp2
        refine bodyPost_ret (v := .tuple #[.string out, .int .i64 0]) (by simp [results, Tryz.results13, go_sem]) rfl ?_
        exact formEnd_fit HE.out h256 HB.out
end Go.Proofs.YtdencljnbilchaaGreatDoor

namespace Go.Proofs.YtdencljnbilchaaGreatDoor
open Go.RowKit

theorem argsAt_up {w w' : World} {v : Value} {A : List FArg} (h : ArgsAt w w.heap.size v A) (hb : Below w.heap.size w w') : ArgsAt w' w'.heap.size v A := by
  obtain ⟨cap, h | ⟨b, o, h1, h2, h3, h4⟩⟩ := argsAt_below h (Nat.le_refl _) hb
  · exact ⟨cap, .inl h⟩
  · exact ⟨cap, .inr ⟨b, o, h1, h2, Nat.lt_of_lt_of_le h3 hb.size, h4⟩⟩

set_option maxRecDepth 100000 in
theorem formAny_true (f : ByteArray) (ao : Option Addr) (n cap : Nat) (w : World) (hf : f.size ≤ 140737488351232) (hn : n ≤ 9223372036854775807) (hl : RawsAt w ao n) (hL : LaidJ w) :
    Calls Tryz.prog 3 #[.string f, .slice ao n cap] w fun e w' => e = .returned (.bool true) ∧ Below w.heap.size w w' := by
  have HL := Lib.hid hL
  have HK := Lib.hid (fun W hW => known12_true W hW)
  have HA := Lib.hid (args_any ao n cap w hn hl)
  have HP := Lib.hid (fun v A W hW hA hok => pformat_any f v A W hf hW hA hok)
  have HR := Lib.hid (fun v A W hW hA hok => rformat_any f v A W hf hW hA hok)
  clear hL hl hn hf
  go_enter Tryz.func3, Tryz.ntmps3
  go_wp2_with (first
    | (go_at_call 11; refine HA.out.mono ?_; rintro e w1 ⟨va, vb, A, rfl, hA12, hok, ha, hb, hb1⟩; have HOK := Lib.hid hok; have HVA := Lib.hid ha; have HVB := Lib.hid hb; obtain ⟨T, hT⟩ : ∃ T : ByteArray, T = ⟨(formAll uintT f.data.toList A).1.toArray⟩ := ⟨_, rfl⟩; obtain ⟨E, hE⟩ : ∃ E, errC (formAll uintT f.data.toList A).2 = E := ⟨_, rfl⟩; have HT := Lib.hid hT; have HE := Lib.hid hE; clear hok ha hb hT hE)
    | (go_at_call 12; refine (HP.out va A _ (HL.out.below hb1) HVA.out HOK.out).mono ?_; rintro e w2 ⟨he, hb2⟩; rw [← HT.out, HE.out] at he; subst he; have hb3 := hb1.trans (hb2.mono hb1.size); have HVB2 : Hid (ArgsAt w2 w2.heap.size vb A) := argsAt_up HVB.out hb2)
    | (go_at_call 13; refine (HR.out vb A _ (HL.out.below hb3) HVB2.out HOK.out).mono ?_; rintro e w3 ⟨he, hb4⟩; rw [← HT.out, HE.out] at he; subst he; have hb5 := hb3.trans (hb4.mono hb3.size))
    | (go_at_call 14; refine (HK.out _ (HL.out.below hb5)).mono ?_; rintro e w4 ⟨rfl, hb6⟩; have hb7 := hb5.trans (hb6.mono hb5.size)))
  go_ret
  exact ⟨rfl, hb7⟩

end Go.Proofs.YtdencljnbilchaaGreatDoor
