/- The walk of printf's Format. -/
import Derived.Test.YtdencljnbilchaaGreatDoorJm
import Derived.Test.YtdencljnbilchaaGreatDoorJl
import Derived.Deep.DeepCutAuto
import Derived.Deep.CutBlock
import Derived.Deep.RegionWith

namespace Go.Proofs.YtdencljnbilchaaGreatDoor
open Go.RowKit

set_option maxRecDepth 100000 in
set_option maxHeartbeats 8000000 in
theorem pformat_any (f : ByteArray) (v0 : Value) (A0 : List FArg) (w : World) (hf : f.size ≤ 140737488351232) (hL : LaidJ w) (hA : ArgsAt w w.heap.size v0 A0) (hok : argsOk A0) :
    Calls Tryz.prog 12 #[.string f, v0] w (FormEnd f.data.toList A0 w) := by
  obtain ⟨ba, n0, cap0, rfl⟩ : ∃ ba n cap, v0 = .slice ba n cap := by
    obtain ⟨cap, ⟨_, ba, h⟩ | ⟨b, o, h, _⟩⟩ := hA
    · exact ⟨_, _, _, h⟩
    · exact ⟨_, _, _, h⟩
  have HL := Lib.hid hL
  have HOK0 := Lib.hid hok
  have HA0 := Lib.hid hA
  have hm : f.size ≤ maxLen := by unfold maxLen; omega
  have HM := Lib.hid hm
  clear hL hok hA hm
  go_enter Tryz.func12, Tryz.ntmps12
  go_wp2
  refine wp_scope_three (JFm f A0 w (.slice ba n0 cap0)) (muF f) rfl rfl rfl (fun l a w h => ?hJ) ?pass2 ?pass1 ?pass0 ?first
  case hJ =>
    match l, h with
    | 0, _ => exact .inl rfl
    | 1, _ => exact .inr (.inl rfl)
    | 2, _ => exact .inr (.inr rfl)
    | (_ + 3), h => exact h.elim
  case first =>
    intro pass
    have PASS := Lib.hid pass
    clear pass
    as_aux_lemma =>
      go_wp2
      go_step3
      rename_i hK2
      refine hK2 _ _ (PASS.out _ _ ⟨0, .slice none 0 0, _, false, [], [], A0, false, false, false, false, 0, 0, by omega, FmW.start HA0.out, HOK0, WrR.start, FormR.start _ _ _, ?_⟩)
      (refine ⟨⟨?_, ?_, ?_, ?_, ?_, ?_, ?_, ?_, ?_, ?_, ?_, ?_, ?_, ?_, ?_, ?_, ?_, ?_, ?_, ?_⟩, ⟨?_, ?_, ?_, ?_, ?_, ?_, ?_, ?_, ?_, ?_, ?_, ?_, ?_, ?_, ?_, ?_, ?_, ?_, ?_, ?_⟩, ⟨?_, ?_, ?_, ?_, ?_, ?_, ?_, ?_, ?_, ?_, ?_, ?_, ?_, ?_, ?_, ?_, ?_, ?_, ?_, ?_⟩, ⟨?_, ?_, ?_, ?_, ?_, ?_, ?_, ?_, ?_, ?_, ?_, ?_, ?_, ?_, ?_, ?_, ?_, ?_, ?_, ?_⟩, ⟨?_, ?_, ?_, ?_, ?_, ?_, ?_, ?_, ?_, ?_, ?_, ?_, ?_, ?_, ?_, ?_, ?_, ?_, ?_, ?_⟩, ⟨?_, ?_, ?_, ?_, ?_, ?_, ?_, ?_, ?_, ?_, ?_, ?_, ?_, ?_, ?_, ?_, ?_, ?_, ?_, ?_⟩, ⟨?_, ?_, ?_, ?_, ?_, ?_, ?_, ?_, ?_, ?_, ?_, ?_, ?_, ?_, ?_, ?_, ?_, ?_, ?_, ?_⟩, ⟨?_, ?_, ?_, ?_, ?_, ?_, ?_, ?_, ?_, ?_, ?_, ?_, ?_, ?_, ?_, ?_, ?_, ?_, ?_, ?_⟩, ⟨?_, ?_, ?_, ?_, ?_, ?_, ?_, ?_, ?_, ?_, ?_, ?_, ?_, ?_, ?_, ?_, ?_, ?_, ?_, ?_⟩, ⟨?_, ?_, ?_, ?_, ?_, ?_, ?_, ?_, ?_, ?_, undef, undef, undef, undef, undef, undef, undef, undef, undef, undef⟩, ?_⟩; rotate_left 190; refine @congrArg _ _ _ _ (fun x => Act.mk (List.toArray x) []) ?_; dsimp only; repeat (refine congr (congrArg List.cons (?_ : _ = _)) ?_; · exact rfl); exact rfl)
  case pass1 =>
    rintro a' wr ⟨k, k0, j, v, av, long, out, t, A, l, p, bl, z, hk, hkj, HFM, HOK, HW, HFR, HJ, HFL, g0, g1, g2, g3, g4, g5, g6, g7, g8, g9, rfl⟩
    obtain ⟨s0, s1, s2, s3, s4, s5, sfz, sty⟩ := HFM.out.sp
    have f0 := sfz 0
    have f1 := sfz 1
    have f2 := sfz 2
    have f3 := sfz 3
    clear sfz sty s4 s5
    by_cases hend : k = f.size
    · have bk : ((k : Int) == f.size) = true := beq_iff_eq.2 (by omega)
      have HE : Hid (formT uintT f.data.toList (f.data.toList.length + 1) 0 A0 = none) := by
        obtain ⟨h1, h2, h3⟩ := HFR.out
        refine h1.bad h2 h3 (readT_over ?_)
        have h4 := HJ.out
        rw [nWhile_end isFlag _ _ (by simp; omega)] at h4
        rw [← h4]; simp; omega
      clear hend hkj
      as_aux_lemma =>
        go_wp2
        refine bodyPost_ret (v := .tuple #[.string ⟨#[]⟩, .int .i64 46]) (by simp [results, Tryz.results12, go_sem]) rfl ?_
        exact formEnd_bad HE.out HFM.out.be
    · have hks : k < f.size := by omega
      have hkl : k < f.data.toList.length := by simpa using hks
      have bk : ((k : Int) == f.size) = false := beq_eq_false_iff_ne.2 (by omega)
      have hx : f.data.toList[k0 + 1 + j]? = some f[k] := by
        rw [← hkj, List.getElem?_eq_getElem hkl]; rfl
      have HX := Lib.hid hx
      have HON : Hid (isFlag f[k] = true → j + 1 + nWhile isFlag (f.data.toList.drop (k + 1)) = nWhile isFlag (f.data.toList.drop (k0 + 1))) := fun h => by
        have := nF_on hkl h
        have h4 := HJ.out
        omega
      have ek : ((k : Int) + 1) = ((k + 1 : Nat) : Int) := by omega
      have EK := Lib.hid ek
      have HKJ := Lib.hid hkj
      clear hend hx ek hkj
      by_cases h45 : f[k] = 45
      · have b45 : ((f[k].toNat : Int) == 45) = true := beq_t (d := 45) h45
        have HF2 := Lib.hid (HFL.out.s45 (by rw [HX.out, h45]))
        have HJ2 := Lib.hid (HON.out (by rw [h45]; decide))
        clear h45
        as_aux_lemma =>
          go_wp2
          go_step3
          rw [EK.out]
          refine ⟨⟨k + 1, k0, j + 1, v, av, long, out, t, A, true, p, bl, z, by omega, by have := HKJ.out; omega, HFM.out.spec (HFM.out.sp.set0 true) ((OnlyB.refl _ _).set 0 _), HOK, HW, HFR, HJ2, HF2, ?_⟩, ?_⟩
          · (refine ⟨⟨?_, ?_, ?_, ?_, ?_, ?_, ?_, ?_, ?_, ?_, ?_, ?_, ?_, ?_, ?_, ?_, ?_, ?_, ?_, ?_⟩, ⟨?_, ?_, ?_, ?_, ?_, ?_, ?_, ?_, ?_, ?_, ?_, ?_, ?_, ?_, ?_, ?_, ?_, ?_, ?_, ?_⟩, ⟨?_, ?_, ?_, ?_, ?_, ?_, ?_, ?_, ?_, ?_, ?_, ?_, ?_, ?_, ?_, ?_, ?_, ?_, ?_, ?_⟩, ⟨?_, ?_, ?_, ?_, ?_, ?_, ?_, ?_, ?_, ?_, ?_, ?_, ?_, ?_, ?_, ?_, ?_, ?_, ?_, ?_⟩, ⟨?_, ?_, ?_, ?_, ?_, ?_, ?_, ?_, ?_, ?_, ?_, ?_, ?_, ?_, ?_, ?_, ?_, ?_, ?_, ?_⟩, ⟨?_, ?_, ?_, ?_, ?_, ?_, ?_, ?_, ?_, ?_, ?_, ?_, ?_, ?_, ?_, ?_, ?_, ?_, ?_, ?_⟩, ⟨?_, ?_, ?_, ?_, ?_, ?_, ?_, ?_, ?_, ?_, ?_, ?_, ?_, ?_, ?_, ?_, ?_, ?_, ?_, ?_⟩, ⟨?_, ?_, ?_, ?_, ?_, ?_, ?_, ?_, ?_, ?_, ?_, ?_, ?_, ?_, ?_, ?_, ?_, ?_, ?_, ?_⟩, ⟨?_, ?_, ?_, ?_, ?_, ?_, ?_, ?_, ?_, ?_, ?_, ?_, ?_, ?_, ?_, ?_, ?_, ?_, ?_, ?_⟩, ⟨?_, ?_, ?_, ?_, ?_, ?_, ?_, ?_, ?_, ?_, undef, undef, undef, undef, undef, undef, undef, undef, undef, undef⟩, ?_⟩; rotate_left 190; refine @congrArg _ _ _ _ (fun x => Act.mk (List.toArray x) []) ?_; dsimp only; repeat (refine congr (congrArg List.cons (?_ : _ = _)) ?_; · exact rfl); exact rfl)
          · exact muF_lt (k := k) (k' := k + 1) (by omega) hks rfl rfl
      have b45 : ((f[k].toNat : Int) == 45) = false := beq_f (d := 45) h45
      by_cases h43 : f[k] = 43
      · have b43 : ((f[k].toNat : Int) == 43) = true := beq_t (d := 43) h43
        have HF2 := Lib.hid (HFL.out.s43 (by rw [HX.out, h43]))
        have HJ2 := Lib.hid (HON.out (by rw [h43]; decide))
        clear h45 h43
        as_aux_lemma =>
          go_wp2
          go_step3
          rw [EK.out]
          refine ⟨⟨k + 1, k0, j + 1, v, av, long, out, t, A, l, true, bl, z, by omega, by have := HKJ.out; omega, HFM.out.spec (HFM.out.sp.set1 true) ((OnlyB.refl _ _).set 1 _), HOK, HW, HFR, HJ2, HF2, ?_⟩, ?_⟩
          · (refine ⟨⟨?_, ?_, ?_, ?_, ?_, ?_, ?_, ?_, ?_, ?_, ?_, ?_, ?_, ?_, ?_, ?_, ?_, ?_, ?_, ?_⟩, ⟨?_, ?_, ?_, ?_, ?_, ?_, ?_, ?_, ?_, ?_, ?_, ?_, ?_, ?_, ?_, ?_, ?_, ?_, ?_, ?_⟩, ⟨?_, ?_, ?_, ?_, ?_, ?_, ?_, ?_, ?_, ?_, ?_, ?_, ?_, ?_, ?_, ?_, ?_, ?_, ?_, ?_⟩, ⟨?_, ?_, ?_, ?_, ?_, ?_, ?_, ?_, ?_, ?_, ?_, ?_, ?_, ?_, ?_, ?_, ?_, ?_, ?_, ?_⟩, ⟨?_, ?_, ?_, ?_, ?_, ?_, ?_, ?_, ?_, ?_, ?_, ?_, ?_, ?_, ?_, ?_, ?_, ?_, ?_, ?_⟩, ⟨?_, ?_, ?_, ?_, ?_, ?_, ?_, ?_, ?_, ?_, ?_, ?_, ?_, ?_, ?_, ?_, ?_, ?_, ?_, ?_⟩, ⟨?_, ?_, ?_, ?_, ?_, ?_, ?_, ?_, ?_, ?_, ?_, ?_, ?_, ?_, ?_, ?_, ?_, ?_, ?_, ?_⟩, ⟨?_, ?_, ?_, ?_, ?_, ?_, ?_, ?_, ?_, ?_, ?_, ?_, ?_, ?_, ?_, ?_, ?_, ?_, ?_, ?_⟩, ⟨?_, ?_, ?_, ?_, ?_, ?_, ?_, ?_, ?_, ?_, ?_, ?_, ?_, ?_, ?_, ?_, ?_, ?_, ?_, ?_⟩, ⟨?_, ?_, ?_, ?_, ?_, ?_, ?_, ?_, ?_, ?_, undef, undef, undef, undef, undef, undef, undef, undef, undef, undef⟩, ?_⟩; rotate_left 190; refine @congrArg _ _ _ _ (fun x => Act.mk (List.toArray x) []) ?_; dsimp only; repeat (refine congr (congrArg List.cons (?_ : _ = _)) ?_; · exact rfl); exact rfl)
          · exact muF_lt (k := k) (k' := k + 1) (by omega) hks rfl rfl
      have b43 : ((f[k].toNat : Int) == 43) = false := beq_f (d := 43) h43
      by_cases h32 : f[k] = 32
      · have b32 : ((f[k].toNat : Int) == 32) = true := beq_t (d := 32) h32
        have HF2 := Lib.hid (HFL.out.s32 (by rw [HX.out, h32]))
        have HJ2 := Lib.hid (HON.out (by rw [h32]; decide))
        clear h45 h43 h32
        as_aux_lemma =>
          go_wp2
          go_step3
          rw [EK.out]
          refine ⟨⟨k + 1, k0, j + 1, v, av, long, out, t, A, l, p, true, z, by omega, by have := HKJ.out; omega, HFM.out.spec (HFM.out.sp.set2 true) ((OnlyB.refl _ _).set 2 _), HOK, HW, HFR, HJ2, HF2, ?_⟩, ?_⟩
          · (refine ⟨⟨?_, ?_, ?_, ?_, ?_, ?_, ?_, ?_, ?_, ?_, ?_, ?_, ?_, ?_, ?_, ?_, ?_, ?_, ?_, ?_⟩, ⟨?_, ?_, ?_, ?_, ?_, ?_, ?_, ?_, ?_, ?_, ?_, ?_, ?_, ?_, ?_, ?_, ?_, ?_, ?_, ?_⟩, ⟨?_, ?_, ?_, ?_, ?_, ?_, ?_, ?_, ?_, ?_, ?_, ?_, ?_, ?_, ?_, ?_, ?_, ?_, ?_, ?_⟩, ⟨?_, ?_, ?_, ?_, ?_, ?_, ?_, ?_, ?_, ?_, ?_, ?_, ?_, ?_, ?_, ?_, ?_, ?_, ?_, ?_⟩, ⟨?_, ?_, ?_, ?_, ?_, ?_, ?_, ?_, ?_, ?_, ?_, ?_, ?_, ?_, ?_, ?_, ?_, ?_, ?_, ?_⟩, ⟨?_, ?_, ?_, ?_, ?_, ?_, ?_, ?_, ?_, ?_, ?_, ?_, ?_, ?_, ?_, ?_, ?_, ?_, ?_, ?_⟩, ⟨?_, ?_, ?_, ?_, ?_, ?_, ?_, ?_, ?_, ?_, ?_, ?_, ?_, ?_, ?_, ?_, ?_, ?_, ?_, ?_⟩, ⟨?_, ?_, ?_, ?_, ?_, ?_, ?_, ?_, ?_, ?_, ?_, ?_, ?_, ?_, ?_, ?_, ?_, ?_, ?_, ?_⟩, ⟨?_, ?_, ?_, ?_, ?_, ?_, ?_, ?_, ?_, ?_, ?_, ?_, ?_, ?_, ?_, ?_, ?_, ?_, ?_, ?_⟩, ⟨?_, ?_, ?_, ?_, ?_, ?_, ?_, ?_, ?_, ?_, undef, undef, undef, undef, undef, undef, undef, undef, undef, undef⟩, ?_⟩; rotate_left 190; refine @congrArg _ _ _ _ (fun x => Act.mk (List.toArray x) []) ?_; dsimp only; repeat (refine congr (congrArg List.cons (?_ : _ = _)) ?_; · exact rfl); exact rfl)
          · exact muF_lt (k := k) (k' := k + 1) (by omega) hks rfl rfl
      have b32 : ((f[k].toNat : Int) == 32) = false := beq_f (d := 32) h32
      by_cases h48 : f[k] = 48
      · have b48 : ((f[k].toNat : Int) == 48) = true := beq_t (d := 48) h48
        have HF2 := Lib.hid (HFL.out.s48 (by rw [HX.out, h48]))
        have HJ2 := Lib.hid (HON.out (by rw [h48]; decide))
        clear h45 h43 h32 h48
        as_aux_lemma =>
          go_wp2
          go_step3
          rw [EK.out]
          refine ⟨⟨k + 1, k0, j + 1, v, av, long, out, t, A, l, p, bl, true, by omega, by have := HKJ.out; omega, HFM.out.spec (HFM.out.sp.set3 true) ((OnlyB.refl _ _).set 3 _), HOK, HW, HFR, HJ2, HF2, ?_⟩, ?_⟩
          · (refine ⟨⟨?_, ?_, ?_, ?_, ?_, ?_, ?_, ?_, ?_, ?_, ?_, ?_, ?_, ?_, ?_, ?_, ?_, ?_, ?_, ?_⟩, ⟨?_, ?_, ?_, ?_, ?_, ?_, ?_, ?_, ?_, ?_, ?_, ?_, ?_, ?_, ?_, ?_, ?_, ?_, ?_, ?_⟩, ⟨?_, ?_, ?_, ?_, ?_, ?_, ?_, ?_, ?_, ?_, ?_, ?_, ?_, ?_, ?_, ?_, ?_, ?_, ?_, ?_⟩, ⟨?_, ?_, ?_, ?_, ?_, ?_, ?_, ?_, ?_, ?_, ?_, ?_, ?_, ?_, ?_, ?_, ?_, ?_, ?_, ?_⟩, ⟨?_, ?_, ?_, ?_, ?_, ?_, ?_, ?_, ?_, ?_, ?_, ?_, ?_, ?_, ?_, ?_, ?_, ?_, ?_, ?_⟩, ⟨?_, ?_, ?_, ?_, ?_, ?_, ?_, ?_, ?_, ?_, ?_, ?_, ?_, ?_, ?_, ?_, ?_, ?_, ?_, ?_⟩, ⟨?_, ?_, ?_, ?_, ?_, ?_, ?_, ?_, ?_, ?_, ?_, ?_, ?_, ?_, ?_, ?_, ?_, ?_, ?_, ?_⟩, ⟨?_, ?_, ?_, ?_, ?_, ?_, ?_, ?_, ?_, ?_, ?_, ?_, ?_, ?_, ?_, ?_, ?_, ?_, ?_, ?_⟩, ⟨?_, ?_, ?_, ?_, ?_, ?_, ?_, ?_, ?_, ?_, ?_, ?_, ?_, ?_, ?_, ?_, ?_, ?_, ?_, ?_⟩, ⟨?_, ?_, ?_, ?_, ?_, ?_, ?_, ?_, ?_, ?_, undef, undef, undef, undef, undef, undef, undef, undef, undef, undef⟩, ?_⟩; rotate_left 190; refine @congrArg _ _ _ _ (fun x => Act.mk (List.toArray x) []) ?_; dsimp only; repeat (refine congr (congrArg List.cons (?_ : _ = _)) ?_; · exact rfl); exact rfl)
          · exact muF_lt (k := k) (k' := k + 1) (by omega) hks rfl rfl
      have b48 : ((f[k].toNat : Int) == 48) = false := beq_f (d := 48) h48
      have HJ2 : Hid (j = nWhile isFlag (f.data.toList.drop (k0 + 1))) := by
        have h4 := HJ.out
        have : isFlag (f.data.toList[k]'hkl) = false := by
          rw [← byte_get f k hks]
          unfold isFlag; simp [h45, h43, h32, h48]
        rw [nF_off hkl this] at h4
        exact h4
      clear h45 h43 h32 h48
      as_aux_lemma =>
        go_wp2
        go_step3
        refine ⟨⟨k, k0, j, v, av, long, out, t, A, l, p, bl, z, hks, HKJ.out, HFM, HOK, HW, HFR, HJ2, HFL, ?_⟩, ?_⟩
        · (refine ⟨⟨?_, ?_, ?_, ?_, ?_, ?_, ?_, ?_, ?_, ?_, ?_, ?_, ?_, ?_, ?_, ?_, ?_, ?_, ?_, ?_⟩, ⟨?_, ?_, ?_, ?_, ?_, ?_, ?_, ?_, ?_, ?_, ?_, ?_, ?_, ?_, ?_, ?_, ?_, ?_, ?_, ?_⟩, ⟨?_, ?_, ?_, ?_, ?_, ?_, ?_, ?_, ?_, ?_, ?_, ?_, ?_, ?_, ?_, ?_, ?_, ?_, ?_, ?_⟩, ⟨?_, ?_, ?_, ?_, ?_, ?_, ?_, ?_, ?_, ?_, ?_, ?_, ?_, ?_, ?_, ?_, ?_, ?_, ?_, ?_⟩, ⟨?_, ?_, ?_, ?_, ?_, ?_, ?_, ?_, ?_, ?_, ?_, ?_, ?_, ?_, ?_, ?_, ?_, ?_, ?_, ?_⟩, ⟨?_, ?_, ?_, ?_, ?_, ?_, ?_, ?_, ?_, ?_, ?_, ?_, ?_, ?_, ?_, ?_, ?_, ?_, ?_, ?_⟩, ⟨?_, ?_, ?_, ?_, ?_, ?_, ?_, ?_, ?_, ?_, ?_, ?_, ?_, ?_, ?_, ?_, ?_, ?_, ?_, ?_⟩, ⟨?_, ?_, ?_, ?_, ?_, ?_, ?_, ?_, ?_, ?_, ?_, ?_, ?_, ?_, ?_, ?_, ?_, ?_, ?_, ?_⟩, ⟨?_, ?_, ?_, ?_, ?_, ?_, ?_, ?_, ?_, ?_, ?_, ?_, ?_, ?_, ?_, ?_, ?_, ?_, ?_, ?_⟩, ⟨?_, ?_, ?_, ?_, ?_, ?_, ?_, ?_, ?_, ?_, undef, undef, undef, undef, undef, undef, undef, undef, undef, undef⟩, ?_⟩; rotate_left 190; refine @congrArg _ _ _ _ (fun x => Act.mk (List.toArray x) []) ?_; dsimp only; repeat (refine congr (congrArg List.cons (?_ : _ = _)) ?_; · exact rfl); exact rfl)
        · exact muF_12 (k := k) rfl rfl
  case pass0 =>
    intro p1
    have P1 := Lib.hid p1
    clear p1
    rintro a' wr ⟨k, v, av, long, out, t, A, l, p, bl, z, wd, pr, hk, HFM, HOK, HW, HFR, g0, g1, g2, g3, g4, g5, g6, g7, g8, g9, rfl⟩
    by_cases hend : k = f.size
    · have bk : ((k : Int) == f.size) = true := beq_iff_eq.2 (by omega)
      have HE : Hid (formT uintT f.data.toList (f.data.toList.length + 1) 0 A0 = some t) := HFR.out.done (by simp; omega)
      have c1 := HFM.out.wr.c1
      have c0 := HFM.out.wr.c0
      clear hend
      cases long with
      | true =>
        as_aux_lemma =>
          go_wp2
          refine bodyPost_ret (v := .tuple #[.string ⟨#[]⟩, .int .i64 43]) (by simp [results, Tryz.results12, go_sem]) rfl ?_
          exact formEnd_long HE.out HW.out HFM.out.be
      | false =>
        have hcv := run_own_string (P := Tryz.prog) (src := 33) (dst := 9) Tryz.underlying33 Tryz.underlying5 Tryz.underlying9 HFM.out.ow
        as_aux_lemma =>
          go_wp2
          refine bodyPost_ret (v := .tuple #[.string ⟨out.toArray⟩, .int .i64 0]) (by simp [results, Tryz.results12, go_sem]) rfl ?_
          exact formEnd_ok HE.out HW.out HFM.out.be
    · have hks : k < f.size := by omega
      have hkl : k < f.data.toList.length := by simpa using hks
      have bk : ((k : Int) == f.size) = false := beq_eq_false_iff_ne.2 (by omega)
      have hx : f.data.toList[k]? = some f[k] := by rw [List.getElem?_eq_getElem hkl]; rfl
      have HX := Lib.hid hx
      have ek : ((k : Int) + 1) = ((k + 1 : Nat) : Int) := by omega
      have EK := Lib.hid ek
      have HP : Hid (∀ s, Calls Tryz.prog 22 #[.pointer (some ⟨w.heap.size, 0, none⟩), .string s] wr (PutEnd wr w.heap.size (w.heap.size + 2) v av long out s)) := fun s =>
        put_any wr w.heap.size (w.heap.size + 2) v av long out s HFM.out.wr HFM.out.ow HFM.out.ol HFM.out.size
      have HF2 : Hid (∀ (s : ByteArray) (w1 : World) (v' : Value) (out' : List UInt8) (long' : Bool), WrF w1 55 w.heap.size v' long' av → w1.ownsRow (w.heap.size + 2) 5 1 v' out'.length (u8s out') → PutOn w.heap.size v wr w1 →
          ((256 - out.length < s.size ∧ long' = true ∧ out' = out) ∨ (s.size ≤ 256 - out.length ∧ long = true ∧ long' = true ∧ out' = out) ∨ (s.size ≤ 256 - out.length ∧ long = false ∧ long' = false ∧ out' = out ++ s.data.toList)) →
          FmW w w1 v' av long' out' A l p bl z wd pr ∧ WrR (t ++ s.data.toList) out' long') := fun s w1 v' out' long' q1 q2 q3 q4 => by
        have h5 := HW.out.of_put q4
        exact ⟨HFM.out.put q1 q2 h5.2.1 q3, h5⟩
      clear hend hx ek
      by_cases h37 : f[k] = 37
      · have b37 : ((f[k].toNat : Int) != 37) = false := bne_f (d := 37) h37
        have hk37 : f.data.toList[k]? = some 37 := by rw [HX.out, h37]
        by_cases h2 : k + 1 < f.size
        · have hk1l : k + 1 < f.data.toList.length := by simpa using h2
          have hx1 : f.data.toList[k + 1]? = some f[k + 1] := by rw [List.getElem?_eq_getElem hk1l]; rfl
          have d1 : decide ((k : Int) + 1 < f.size) = true := decide_eq_true (by omega)
          by_cases h371 : f[k + 1] = 37
          · have b371 : ((f[k + 1].toNat : Int) == 37) = true := beq_t (d := 37) h371
            have HR2 := Lib.hid (HFR.out.pct hk37 (by rw [hx1, h371]))
            clear h37 hk37 hx1 h371
            as_aux_lemma =>
              go_wp2_with (go_at_call 22; refine (HP.out _).mono ?_; rintro e w1 ⟨rfl, v', out', long', q1, q2, q3, q4⟩)
              go_step3
              have e2 : ((k : Int) + 1 + 1) = ((k + 2 : Nat) : Int) := by omega
              rw [e2]
              have hq := HF2.out _ _ _ _ _ q1 q2 q3 q4
              refine ⟨⟨k + 2, v', av, long', out', t ++ [37], A, l, p, bl, z, wd, pr, by omega, hq.1, HOK, hq.2, HR2, ?_⟩, ?_⟩
              · (refine ⟨⟨?_, ?_, ?_, ?_, ?_, ?_, ?_, ?_, ?_, ?_, ?_, ?_, ?_, ?_, ?_, ?_, ?_, ?_, ?_, ?_⟩, ⟨?_, ?_, ?_, ?_, ?_, ?_, ?_, ?_, ?_, ?_, ?_, ?_, ?_, ?_, ?_, ?_, ?_, ?_, ?_, ?_⟩, ⟨?_, ?_, ?_, ?_, ?_, ?_, ?_, ?_, ?_, ?_, ?_, ?_, ?_, ?_, ?_, ?_, ?_, ?_, ?_, ?_⟩, ⟨?_, ?_, ?_, ?_, ?_, ?_, ?_, ?_, ?_, ?_, ?_, ?_, ?_, ?_, ?_, ?_, ?_, ?_, ?_, ?_⟩, ⟨?_, ?_, ?_, ?_, ?_, ?_, ?_, ?_, ?_, ?_, ?_, ?_, ?_, ?_, ?_, ?_, ?_, ?_, ?_, ?_⟩, ⟨?_, ?_, ?_, ?_, ?_, ?_, ?_, ?_, ?_, ?_, ?_, ?_, ?_, ?_, ?_, ?_, ?_, ?_, ?_, ?_⟩, ⟨?_, ?_, ?_, ?_, ?_, ?_, ?_, ?_, ?_, ?_, ?_, ?_, ?_, ?_, ?_, ?_, ?_, ?_, ?_, ?_⟩, ⟨?_, ?_, ?_, ?_, ?_, ?_, ?_, ?_, ?_, ?_, ?_, ?_, ?_, ?_, ?_, ?_, ?_, ?_, ?_, ?_⟩, ⟨?_, ?_, ?_, ?_, ?_, ?_, ?_, ?_, ?_, ?_, ?_, ?_, ?_, ?_, ?_, ?_, ?_, ?_, ?_, ?_⟩, ⟨?_, ?_, ?_, ?_, ?_, ?_, ?_, ?_, ?_, ?_, undef, undef, undef, undef, undef, undef, undef, undef, undef, undef⟩, ?_⟩; rotate_left 190; refine @congrArg _ _ _ _ (fun x => Act.mk (List.toArray x) []) ?_; dsimp only; repeat (refine congr (congrArg List.cons (?_ : _ = _)) ?_; · exact rfl); exact rfl)
              · exact muF_lt (k := k) (k' := k + 2) (by omega) hks rfl rfl
          · have b371 : ((f[k + 1].toNat : Int) == 37) = false := beq_f (d := 37) h371
            have HR2 := Lib.hid (And.intro HFR.out (And.intro hk37 (show f.data.toList[k + 1]? ≠ some 37 by rw [hx1]; simpa using h371)))
            clear h37 hk37 hx1 h371
            obtain ⟨s0, s1, s2, s3, s4, s5, sfz, sty⟩ := HFM.out.sp
            as_aux_lemma =>
              go_wp2
              go_step3
              rename_i hK2
              refine hK2 _ _ (P1.out _ _ _ ⟨k + 1, k, 0, v, av, long, out, t, A, false, false, false, false, by omega, by omega, HFM.out.spec ((((((HFM.out.sp.set0 false).set1 false).set2 false).set3 false).set4 0).set5 (-1)) (((((((OnlyB.refl _ _).set 0 _).set 1 _).set 2 _).set 3 _).set 4 _).set 5 _), HOK, HW, HR2, Nat.zero_add _, FlagsR.zero _ _, ?_⟩ (muF_le1 (k := k) hks rfl rfl))
              (refine ⟨⟨?_, ?_, ?_, ?_, ?_, ?_, ?_, ?_, ?_, ?_, ?_, ?_, ?_, ?_, ?_, ?_, ?_, ?_, ?_, ?_⟩, ⟨?_, ?_, ?_, ?_, ?_, ?_, ?_, ?_, ?_, ?_, ?_, ?_, ?_, ?_, ?_, ?_, ?_, ?_, ?_, ?_⟩, ⟨?_, ?_, ?_, ?_, ?_, ?_, ?_, ?_, ?_, ?_, ?_, ?_, ?_, ?_, ?_, ?_, ?_, ?_, ?_, ?_⟩, ⟨?_, ?_, ?_, ?_, ?_, ?_, ?_, ?_, ?_, ?_, ?_, ?_, ?_, ?_, ?_, ?_, ?_, ?_, ?_, ?_⟩, ⟨?_, ?_, ?_, ?_, ?_, ?_, ?_, ?_, ?_, ?_, ?_, ?_, ?_, ?_, ?_, ?_, ?_, ?_, ?_, ?_⟩, ⟨?_, ?_, ?_, ?_, ?_, ?_, ?_, ?_, ?_, ?_, ?_, ?_, ?_, ?_, ?_, ?_, ?_, ?_, ?_, ?_⟩, ⟨?_, ?_, ?_, ?_, ?_, ?_, ?_, ?_, ?_, ?_, ?_, ?_, ?_, ?_, ?_, ?_, ?_, ?_, ?_, ?_⟩, ⟨?_, ?_, ?_, ?_, ?_, ?_, ?_, ?_, ?_, ?_, ?_, ?_, ?_, ?_, ?_, ?_, ?_, ?_, ?_, ?_⟩, ⟨?_, ?_, ?_, ?_, ?_, ?_, ?_, ?_, ?_, ?_, ?_, ?_, ?_, ?_, ?_, ?_, ?_, ?_, ?_, ?_⟩, ⟨?_, ?_, ?_, ?_, ?_, ?_, ?_, ?_, ?_, ?_, undef, undef, undef, undef, undef, undef, undef, undef, undef, undef⟩, ?_⟩; rotate_left 190; refine @congrArg _ _ _ _ (fun x => Act.mk (List.toArray x) []) ?_; dsimp only; repeat (refine congr (congrArg List.cons (?_ : _ = _)) ?_; · exact rfl); exact rfl)
        · have d1 : decide ((k : Int) + 1 < f.size) = false := decide_eq_false (by omega)
          have HR2 := Lib.hid (And.intro HFR.out (And.intro hk37 (show f.data.toList[k + 1]? ≠ some 37 by rw [List.getElem?_eq_none (by simp; omega)]; simp)))
          clear h37 hk37
          obtain ⟨s0, s1, s2, s3, s4, s5, sfz, sty⟩ := HFM.out.sp
          as_aux_lemma =>
            go_wp2
            go_step3
            rename_i hK2
            refine hK2 _ _ (P1.out _ _ _ ⟨k + 1, k, 0, v, av, long, out, t, A, false, false, false, false, by omega, by omega, HFM.out.spec ((((((HFM.out.sp.set0 false).set1 false).set2 false).set3 false).set4 0).set5 (-1)) (((((((OnlyB.refl _ _).set 0 _).set 1 _).set 2 _).set 3 _).set 4 _).set 5 _), HOK, HW, HR2, Nat.zero_add _, FlagsR.zero _ _, ?_⟩ (muF_le1 (k := k) hks rfl rfl))
            (refine ⟨⟨?_, ?_, ?_, ?_, ?_, ?_, ?_, ?_, ?_, ?_, ?_, ?_, ?_, ?_, ?_, ?_, ?_, ?_, ?_, ?_⟩, ⟨?_, ?_, ?_, ?_, ?_, ?_, ?_, ?_, ?_, ?_, ?_, ?_, ?_, ?_, ?_, ?_, ?_, ?_, ?_, ?_⟩, ⟨?_, ?_, ?_, ?_, ?_, ?_, ?_, ?_, ?_, ?_, ?_, ?_, ?_, ?_, ?_, ?_, ?_, ?_, ?_, ?_⟩, ⟨?_, ?_, ?_, ?_, ?_, ?_, ?_, ?_, ?_, ?_, ?_, ?_, ?_, ?_, ?_, ?_, ?_, ?_, ?_, ?_⟩, ⟨?_, ?_, ?_, ?_, ?_, ?_, ?_, ?_, ?_, ?_, ?_, ?_, ?_, ?_, ?_, ?_, ?_, ?_, ?_, ?_⟩, ⟨?_, ?_, ?_, ?_, ?_, ?_, ?_, ?_, ?_, ?_, ?_, ?_, ?_, ?_, ?_, ?_, ?_, ?_, ?_, ?_⟩, ⟨?_, ?_, ?_, ?_, ?_, ?_, ?_, ?_, ?_, ?_, ?_, ?_, ?_, ?_, ?_, ?_, ?_, ?_, ?_, ?_⟩, ⟨?_, ?_, ?_, ?_, ?_, ?_, ?_, ?_, ?_, ?_, ?_, ?_, ?_, ?_, ?_, ?_, ?_, ?_, ?_, ?_⟩, ⟨?_, ?_, ?_, ?_, ?_, ?_, ?_, ?_, ?_, ?_, ?_, ?_, ?_, ?_, ?_, ?_, ?_, ?_, ?_, ?_⟩, ⟨?_, ?_, ?_, ?_, ?_, ?_, ?_, ?_, ?_, ?_, undef, undef, undef, undef, undef, undef, undef, undef, undef, undef⟩, ?_⟩; rotate_left 190; refine @congrArg _ _ _ _ (fun x => Act.mk (List.toArray x) []) ?_; dsimp only; repeat (refine congr (congrArg List.cons (?_ : _ = _)) ?_; · exact rfl); exact rfl)
      · have b37 : ((f[k].toNat : Int) != 37) = true := bne_t (d := 37) h37
        have HR2 := Lib.hid (HFR.out.char HX.out h37)
        have HC : Hid ((f.extract k (k + 1)).data.toList = [f[k]]) := by
          unfold Hid
          rw [ex_list, drop_at _ _ hkl, Nat.add_sub_cancel_left]; rfl
        clear h37
        as_aux_lemma =>
          go_wp2_with (go_at_call 22; refine (HP.out _).mono ?_; rintro e w1 ⟨rfl, v', out', long', q1, q2, q3, q4⟩)
          go_step3
          rw [EK.out]
          have hq := HF2.out _ _ _ _ _ q1 q2 q3 q4
          rw [HC.out] at hq
          refine ⟨⟨k + 1, v', av, long', out', t ++ [f[k]], A, l, p, bl, z, wd, pr, by omega, hq.1, HOK, hq.2, HR2, ?_⟩, ?_⟩
          · (refine ⟨⟨?_, ?_, ?_, ?_, ?_, ?_, ?_, ?_, ?_, ?_, ?_, ?_, ?_, ?_, ?_, ?_, ?_, ?_, ?_, ?_⟩, ⟨?_, ?_, ?_, ?_, ?_, ?_, ?_, ?_, ?_, ?_, ?_, ?_, ?_, ?_, ?_, ?_, ?_, ?_, ?_, ?_⟩, ⟨?_, ?_, ?_, ?_, ?_, ?_, ?_, ?_, ?_, ?_, ?_, ?_, ?_, ?_, ?_, ?_, ?_, ?_, ?_, ?_⟩, ⟨?_, ?_, ?_, ?_, ?_, ?_, ?_, ?_, ?_, ?_, ?_, ?_, ?_, ?_, ?_, ?_, ?_, ?_, ?_, ?_⟩, ⟨?_, ?_, ?_, ?_, ?_, ?_, ?_, ?_, ?_, ?_, ?_, ?_, ?_, ?_, ?_, ?_, ?_, ?_, ?_, ?_⟩, ⟨?_, ?_, ?_, ?_, ?_, ?_, ?_, ?_, ?_, ?_, ?_, ?_, ?_, ?_, ?_, ?_, ?_, ?_, ?_, ?_⟩, ⟨?_, ?_, ?_, ?_, ?_, ?_, ?_, ?_, ?_, ?_, ?_, ?_, ?_, ?_, ?_, ?_, ?_, ?_, ?_, ?_⟩, ⟨?_, ?_, ?_, ?_, ?_, ?_, ?_, ?_, ?_, ?_, ?_, ?_, ?_, ?_, ?_, ?_, ?_, ?_, ?_, ?_⟩, ⟨?_, ?_, ?_, ?_, ?_, ?_, ?_, ?_, ?_, ?_, ?_, ?_, ?_, ?_, ?_, ?_, ?_, ?_, ?_, ?_⟩, ⟨?_, ?_, ?_, ?_, ?_, ?_, ?_, ?_, ?_, ?_, undef, undef, undef, undef, undef, undef, undef, undef, undef, undef⟩, ?_⟩; rotate_left 190; refine @congrArg _ _ _ _ (fun x => Act.mk (List.toArray x) []) ?_; dsimp only; repeat (refine congr (congrArg List.cons (?_ : _ = _)) ?_; · exact rfl); exact rfl)
          · exact muF_lt (k := k) (k' := k + 1) (by omega) hks rfl rfl
  case pass2 =>
    rintro a' wr ⟨k, k0, j, v, av, long, out, t, A, l, p, bl, z, hks, hkj, HFM, HOK, HW, HFR, HJ, HFL, g0, g1, g2, g3, g4, g5, g6, g7, g8, g9, rfl⟩
    have hkl : k < f.data.toList.length := by simpa using hks
    have HKE : Hid (k = k0 + 1 + nWhile isFlag (f.data.toList.drop (k0 + 1))) := by unfold Hid; rw [hkj, ← HJ.out]
    have HFN : Hid (FlagsR f.data.toList (k0 + 1) (nWhile isFlag (f.data.toList.drop (k0 + 1))) l p bl z) := by unfold Hid; rw [← HJ.out]; exact HFL.out
    have hkk : k0 < k := by omega
    obtain ⟨c42, hc42⟩ : ∃ c, ((f[k].toNat : Int) == 42) = c := ⟨_, rfl⟩
    have H42 : Hid ((c42 = true ∧ f.data.toList[k]? = some 42) ∨ (c42 = false ∧ f.data.toList[k]? ≠ some 42)) := by
      have hx : f.data.toList[k]? = some f[k] := by rw [List.getElem?_eq_getElem hkl]; rfl
      by_cases h : f[k] = 42
      · exact .inl ⟨by rw [← hc42]; exact beq_t (d := 42) h, by rw [hx, h]⟩
      · exact .inr ⟨by rw [← hc42]; exact beq_f (d := 42) h, by rw [hx]; simpa using h⟩
    have ek : ((k : Int) + 1) = ((k + 1 : Nat) : Int) := by omega
    have EK := Lib.hid ek
    clear ek hkj HJ HFL
    go_upto_if 82 with (fail)
    go_cut [8] (fun at' wx => ∃ (k2 wd : Nat) (lf : Bool) (A2 : List FArg) (av2 : Value), at' = .int .i64 k2 ∧ k ≤ k2 ∧ k2 ≤ f.size ∧ wd ≤ 201 ∧ Hid (widthP f.data.toList k A = some (wd, lf, k2, A2)) ∧ Hid (FmW w wx v av2 long out A2 (l || lf) p bl z wd (-1)) ∧ Hid (argsOk A2))
    case first =>
      rcases H42.out with ⟨rfl, h42⟩ | ⟨rfl, h42⟩
      · have HARG := Lib.hid (arg_any wr w.heap.size w.heap.size v av long A HFM.out.wr HFM.out.ar (Nat.le_refl _))
        rcases starW_ways (argH A).n HOK.out.head.1 with ⟨x, h1, h2, h3, h4⟩ | ⟨h1, h4⟩ | ⟨h1, h4⟩
        · have HWP : Hid (widthP f.data.toList k A = some (x.natAbs, decide (x < 0), k + 1, A.tail)) := by
            unfold Hid widthP; rw [if_pos h42, h1]; rfl
          have HT := Lib.hid h4
          clear h42 h1 h4
          by_cases hx : x < 0
          · have en : RowKit.wrap64 (-x) = -x := by unfold RowKit.wrap64; omega
            have HNA : Hid (-x = (x.natAbs : Int)) := by unfold Hid; omega
            have HWP2 : Hid (widthP f.data.toList k A = some (x.natAbs, true, k + 1, A.tail)) := by
              unfold Hid; rw [HWP.out, decide_eq_true hx]
            as_aux_lemma =>
              go_wp2_with (first
                | (go_at_call 23; refine HARG.out.mono ?_; rintro e w1 ⟨rfl, av2, q1, q2, q3⟩; have HF1 := Lib.hid (HFM.out.arg q1 q2 q3))
                | (go_at_call 24; refine (HT.out _).mono ?_; rintro e w2 ⟨tt, nn, rfl, hw2, hge, hle, hcv⟩; have HF2 := Lib.hid (HF1.out.below (w' := w2) (by rw [hw2]; exact below_drewN ((Below.refl _ _).alloc (Nat.le_refl _) _) nn)); unfold geM at hge; unfold leM at hle; clear hw2; obtain ⟨s0, s1, s2, s3, s4, s5, sfz, sty⟩ := HF2.out.sp; have f0 := sfz 0; have f4 := sfz 4; clear sfz sty))
              go_meet
              refine ⟨k + 1, x.natAbs, true, A.tail, av2, EK.out ▸ rfl, by omega, by omega, by omega, HWP2, ?_, HOK.out.tail⟩
              rw [Bool.or_true]
              rw [HNA.out]
              exact HF2.out.spec (((HF2.out.sp.set4 _).set0 true).set4 _) (((OnlyB.refl _ _).set 4 _).set 0 _ |>.set 4 _)
          · have HNA : Hid (x = (x.natAbs : Int)) := by unfold Hid; omega
            have HWP2 : Hid (widthP f.data.toList k A = some (x.natAbs, false, k + 1, A.tail)) := by
              unfold Hid; rw [HWP.out, decide_eq_false hx]
            as_aux_lemma =>
              go_wp2_with (first
                | (go_at_call 23; refine HARG.out.mono ?_; rintro e w1 ⟨rfl, av2, q1, q2, q3⟩; have HF1 := Lib.hid (HFM.out.arg q1 q2 q3))
                | (go_at_call 24; refine (HT.out _).mono ?_; rintro e w2 ⟨tt, nn, rfl, hw2, hge, hle, hcv⟩; have HF2 := Lib.hid (HF1.out.below (w' := w2) (by rw [hw2]; exact below_drewN ((Below.refl _ _).alloc (Nat.le_refl _) _) nn)); unfold geM at hge; unfold leM at hle; clear hw2; obtain ⟨s0, s1, s2, s3, s4, s5, sfz, sty⟩ := HF2.out.sp; have f0 := sfz 0; have f4 := sfz 4; clear sfz sty))
              go_meet
              refine ⟨k + 1, x.natAbs, false, A.tail, av2, EK.out ▸ rfl, by omega, by omega, by omega, HWP2, ?_, HOK.out.tail⟩
              rw [Bool.or_false, ← HNA.out]
              exact HF2.out.spec (HF2.out.sp.set4 _) ((OnlyB.refl _ _).set 4 _)
        · have HE : Hid (formT uintT f.data.toList (f.data.toList.length + 1) 0 A0 = none) := by
            obtain ⟨g1, g2, g3⟩ := HFR.out
            refine g1.bad g2 g3 (readT_width HKE.out ?_)
            unfold widthP; rw [if_pos h42, h1]; rfl
          have HT := Lib.hid h4
          clear h42 h1 h4
          as_aux_lemma =>
            go_wp2_with (first
              | (go_at_call 23; refine HARG.out.mono ?_; rintro e w1 ⟨rfl, av2, q1, q2, q3⟩; have HF1 := Lib.hid (HFM.out.arg q1 q2 q3))
              | (go_at_call 24; refine (HT.out _).mono ?_; rintro e w2 ⟨tt, nn, rfl, hw2, hge⟩; have HF2 := Lib.hid (HF1.out.below (w' := w2) (by rw [hw2]; exact below_drewN ((Below.refl _ _).alloc (Nat.le_refl _) _) nn)); unfold geM at hge; clear hw2))
            refine bodyPost_ret (v := .tuple #[.string ⟨#[]⟩, .int .i64 46]) (by simp [results, Tryz.results12, go_sem]) rfl ?_
            exact formEnd_bad HE.out HF2.out.be
        · have HE : Hid (formT uintT f.data.toList (f.data.toList.length + 1) 0 A0 = none) := by
            obtain ⟨g1, g2, g3⟩ := HFR.out
            refine g1.bad g2 g3 (readT_width HKE.out ?_)
            unfold widthP; rw [if_pos h42, h1]; rfl
          have HT := Lib.hid h4
          clear h42 h1 h4
          as_aux_lemma =>
            go_wp2_with (first
              | (go_at_call 23; refine HARG.out.mono ?_; rintro e w1 ⟨rfl, av2, q1, q2, q3⟩; have HF1 := Lib.hid (HFM.out.arg q1 q2 q3))
              | (go_at_call 24; refine (HT.out _).mono ?_; rintro e w2 ⟨tt, nn, rfl, hw2, hge, hle⟩; have HF2 := Lib.hid (HF1.out.below (w' := w2) (by rw [hw2]; exact below_drewN ((Below.refl _ _).alloc (Nat.le_refl _) _) nn)); unfold geM at hge; unfold leM at hle; clear hw2))
            refine bodyPost_ret (v := .tuple #[.string ⟨#[]⟩, .int .i64 46]) (by simp [results, Tryz.results12, go_sem]) rfl ?_
            exact formEnd_bad HE.out HF2.out.be
      · have HWP : Hid (widthP f.data.toList k A = some (satN (digsAt f.data.toList k), false, k + nWhile isDig (f.data.toList.drop k), A)) := by
          unfold Hid widthP; rw [if_neg h42]
        have HN := Lib.hid (fun W => pnumber_any f k W HM.out (by omega))
        have hsat := satN_le (digsAt f.data.toList k)
        have hle := nWhile_le isDig (f.data.toList.drop k)
        obtain ⟨S, hS⟩ : ∃ S, satN (digsAt f.data.toList k) = S := ⟨_, rfl⟩
        obtain ⟨k2, hk2⟩ : ∃ k2, k + nWhile isDig (f.data.toList.drop k) = k2 := ⟨_, rfl⟩
        rw [hS] at hsat HWP HN
        rw [hk2] at HWP HN
        have hk2a : k ≤ k2 := by omega
        have hk2b : k2 ≤ f.size := by simp at hle; omega
        clear h42 hle hk2 hS
        obtain ⟨s0, s1, s2, s3, s4, s5, sfz, sty⟩ := HFM.out.sp
        have f4 := sfz 4
        clear sfz sty
        as_aux_lemma =>
          go_wp2_with (go_at_call 25; refine (HN.out _).mono ?_; rintro e w1 ⟨rfl, rfl⟩)
          go_meet
          refine ⟨k2, S, false, A, av, rfl, hk2a, hk2b, hsat, HWP, ?_, HOK⟩
          rw [Bool.or_false]
          exact HFM.out.spec (HFM.out.sp.set4 _) ((OnlyB.refl _ _).set 4 _)
    case rest =>
      obtain ⟨k2, wd, lf, A2, av2, rfl, hk2a, hk2b, hwd, HWP, HFM2, HOK2⟩ := hcut
      clear H42 hc42 HFM HOK EK
      obtain ⟨l2, hl2⟩ : ∃ l2, (l || lf) = l2 := ⟨_, rfl⟩
      have HL2 := Lib.hid hl2
      rw [hl2] at HFM2
      clear hl2
      rename World => w2
      have h3 : (¬ k2 < f.size ∧ f.data.toList[k2]? ≠ some 46) ∨ (∃ h : k2 < f.size, ((f[k2].toNat : Int) == 46) = true ∧ f.data.toList[k2]? = some 46) ∨ (∃ h : k2 < f.size, ((f[k2].toNat : Int) == 46) = false ∧ f.data.toList[k2]? ≠ some 46) := by
        by_cases h : k2 < f.size
        · have hx : f.data.toList[k2]? = some f[k2] := by rw [List.getElem?_eq_getElem (by simpa using h)]; rfl
          by_cases h46 : f[k2] = 46
          · exact .inr (.inl ⟨h, beq_t (d := 46) h46, by rw [hx, h46]⟩)
          · exact .inr (.inr ⟨h, beq_f (d := 46) h46, by rw [hx]; simpa using h46⟩)
        · exact .inl ⟨h, by rw [List.getElem?_eq_none (by simp; omega)]; simp⟩
      have H3 := Lib.hid h3
      clear h3
      go_upto_region 38 with (fail)
      go_cut [124] (fun t' wx => ∃ c : Bool, t' = .bool c ∧ w2 = wx ∧ Hid ((c = true ∧ k2 < f.size ∧ f.data.toList[k2]? = some 46) ∨ (c = false ∧ f.data.toList[k2]? ≠ some 46)))
      case first =>
        rcases H3.out with ⟨h, hq⟩ | ⟨h, hb, hq⟩ | ⟨h, hb, hq⟩
        · have d1 : decide ((k2 : Int) < f.size) = false := decide_eq_false (by omega)
          have HQ := Lib.hid hq
          clear hq
          as_aux_lemma =>
            go_wp2
            go_meet
            exact ⟨false, rfl, rfl, .inr ⟨rfl, HQ.out⟩⟩
        · have d1 : decide ((k2 : Int) < f.size) = true := decide_eq_true (by omega)
          have HQ := Lib.hid hq
          clear hq
          as_aux_lemma =>
            go_wp2
            go_meet
            exact ⟨true, rfl, rfl, .inl ⟨rfl, h, HQ.out⟩⟩
        · have d1 : decide ((k2 : Int) < f.size) = true := decide_eq_true (by omega)
          have HQ := Lib.hid hq
          clear hq
          as_aux_lemma =>
            go_wp2
            go_meet
            exact ⟨false, rfl, rfl, .inr ⟨rfl, HQ.out⟩⟩
      case rest =>
        obtain ⟨c46, rfl, rfl, H46⟩ := hcut
        clear H3
        go_upto_if 124 with (fail)
        go_cut [8] (fun at' wx => ∃ (k3 : Nat) (pr : Int) (A3 : List FArg) (av3 : Value), at' = .int .i64 k3 ∧ k2 ≤ k3 ∧ k3 ≤ f.size ∧ -1 ≤ pr ∧ pr ≤ 201 ∧ Hid (precP f.data.toList k2 A2 = some (pr, k3, A3)) ∧ Hid (FmW w wx v av3 long out A3 l2 p bl z wd pr) ∧ Hid (argsOk A3))
        case first =>
          rcases H46.out with ⟨rfl, hlt, h46⟩ | ⟨rfl, h46⟩
          · have ek : ((k2 : Int) + 1) = ((k2 + 1 : Nat) : Int) := by omega
            have ek2 : ((k2 : Int) + 1 + 1) = ((k2 + 2 : Nat) : Int) := by omega
            have EK := Lib.hid ek
            have EK2 := Lib.hid ek2
            have h4 : (∃ h : k2 + 1 < f.size, ((f[k2 + 1].toNat : Int) == 42) = true ∧ f.data.toList[k2 + 1]? = some 42) ∨ (f.data.toList[k2 + 1]? ≠ some 42 ∧ (¬ k2 + 1 < f.size ∨ (∃ h : k2 + 1 < f.size, ((f[k2 + 1].toNat : Int) == 42) = false))) := by
              by_cases h : k2 + 1 < f.size
              · have hx : f.data.toList[k2 + 1]? = some f[k2 + 1] := by rw [List.getElem?_eq_getElem (by simpa using h)]; rfl
                by_cases h42 : f[k2 + 1] = 42
                · exact .inl ⟨h, beq_t (d := 42) h42, by rw [hx, h42]⟩
                · exact .inr ⟨by rw [hx]; simpa using h42, .inr ⟨h, beq_f (d := 42) h42⟩⟩
              · exact .inr ⟨by rw [List.getElem?_eq_none (by simp; omega)]; simp, .inl h⟩
            clear ek ek2
            rcases h4 with ⟨h, hb, hq⟩ | ⟨hq, h4⟩
            · have d1 : decide ((k2 : Int) + 1 < f.size) = true := decide_eq_true (by omega)
              have HARG := Lib.hid (arg_any w2 w.heap.size w.heap.size v av2 long A2 HFM2.out.wr HFM2.out.ar (Nat.le_refl _))
              have hfd : ∀ W : World, (Instr.field 44 (.agg #[.float .f64 (argH A2).n, .string ⟨(argH A2).s.toArray⟩, .bool (argH A2).num]) 0).run Tryz.prog W = .ok (.float .f64 (argH A2).n) W := fun _ => by kernel_rfl
              rcases starP_ways (argH A2).n HOK2.out.head.1 with ⟨x, h1, h2, h3, h4⟩ | ⟨h1, h4⟩ | ⟨h1, h4⟩
              · have HPP : Hid (precP f.data.toList k2 A2 = some (x, k2 + 2, A2.tail)) := by
                  unfold Hid precP; rw [if_pos h46, if_pos hq, h1]; rfl
                have HT := Lib.hid h4
                clear hq h1 h4 h46
                as_aux_lemma =>
                  go_wp2_with (first
                    | (go_at_call 23; refine HARG.out.mono ?_; rintro e w3 ⟨rfl, av3, q1, q2, q3⟩; have HF1 := Lib.hid (HFM2.out.arg q1 q2 q3))
                    | (go_at_call 24; refine (HT.out _).mono ?_; rintro e w4 ⟨tt, nn, rfl, hw2, hle, htt, hinf, mx, hmx, hcv⟩; have HF2 := Lib.hid (HF1.out.below (w' := w4) (by rw [hw2]; exact below_drewN (Below.refl _ _) nn)); unfold leM at hle; clear hw2; have HI := Lib.hid (fun W => isInf0_any tt htt W); rw [hinf] at HI; obtain ⟨s0, s1, s2, s3, s4, s5, sfz, sty⟩ := HF2.out.sp; have f5 := sfz 5; clear sfz sty)
                    | (go_at_call 26; refine (HI.out _).mono ?_; rintro e w' ⟨rfl, rfl⟩))
                  go_meet
                  refine ⟨k2 + 2, x, A2.tail, av3, EK2.out ▸ rfl, by omega, by omega, h2, by omega, HPP, ?_, HOK2.out.tail⟩
                  exact HF2.out.spec (HF2.out.sp.set5 _) ((OnlyB.refl _ _).set 5 _)
              · have HE : Hid (formT uintT f.data.toList (f.data.toList.length + 1) 0 A0 = none) := by
                  obtain ⟨g1, g2, g3⟩ := HFR.out
                  refine g1.bad g2 g3 (readT_prec HKE.out HWP.out ?_)
                  unfold precP; rw [if_pos h46, if_pos hq, h1]; rfl
                have HT := Lib.hid h4
                clear hq h1 h4 h46
                as_aux_lemma =>
                  go_wp2_with (first
                    | (go_at_call 23; refine HARG.out.mono ?_; rintro e w3 ⟨rfl, av3, q1, q2, q3⟩; have HF1 := Lib.hid (HFM2.out.arg q1 q2 q3))
                    | (go_at_call 24; refine (HT.out _).mono ?_; rintro e w4 ⟨tt, nn, rfl, hw2, hle⟩; have HF2 := Lib.hid (HF1.out.below (w' := w4) (by rw [hw2]; exact below_drewN (Below.refl _ _) nn)); unfold leM at hle; clear hw2))
                  refine bodyPost_ret (v := .tuple #[.string ⟨#[]⟩, .int .i64 46]) (by simp [results, Tryz.results12, go_sem]) rfl ?_
                  exact formEnd_bad HE.out HF2.out.be
              · have HE : Hid (formT uintT f.data.toList (f.data.toList.length + 1) 0 A0 = none) := by
                  obtain ⟨g1, g2, g3⟩ := HFR.out
                  refine g1.bad g2 g3 (readT_prec HKE.out HWP.out ?_)
                  unfold precP; rw [if_pos h46, if_pos hq, h1]; rfl
                have HT := Lib.hid h4
                clear hq h1 h4 h46
                as_aux_lemma =>
                  go_wp2_with (first
                    | (go_at_call 23; refine HARG.out.mono ?_; rintro e w3 ⟨rfl, av3, q1, q2, q3⟩; have HF1 := Lib.hid (HFM2.out.arg q1 q2 q3))
                    | (go_at_call 24; refine (HT.out _).mono ?_; rintro e w4 ⟨tt, nn, rfl, hw2, hle, htt, hinf⟩; have HF2 := Lib.hid (HF1.out.below (w' := w4) (by rw [hw2]; exact below_drewN (Below.refl _ _) nn)); unfold leM at hle; clear hw2; have HI := Lib.hid (fun W => isInf0_any tt htt W); rw [hinf] at HI)
                    | (go_at_call 26; refine (HI.out _).mono ?_; rintro e w' ⟨rfl, rfl⟩))
                  refine bodyPost_ret (v := .tuple #[.string ⟨#[]⟩, .int .i64 46]) (by simp [results, Tryz.results12, go_sem]) rfl ?_
                  exact formEnd_bad HE.out HF2.out.be
            · have HPP : Hid (precP f.data.toList k2 A2 = some (((satN (digsAt f.data.toList (k2 + 1)) : Nat) : Int), k2 + 1 + nWhile isDig (f.data.toList.drop (k2 + 1)), A2)) := by
                unfold Hid precP; rw [if_pos h46, if_neg hq]
              have hn := fun W => pnumber_any f (k2 + 1) W HM.out (by omega)
              rw [← EK.out] at hn
              have HN := Lib.hid hn
              have hsat := satN_le (digsAt f.data.toList (k2 + 1))
              have hle := nWhile_le isDig (f.data.toList.drop (k2 + 1))
              clear hn
              obtain ⟨S, hS⟩ : ∃ S, satN (digsAt f.data.toList (k2 + 1)) = S := ⟨_, rfl⟩
              obtain ⟨k3, hk3⟩ : ∃ k3, k2 + 1 + nWhile isDig (f.data.toList.drop (k2 + 1)) = k3 := ⟨_, rfl⟩
              rw [hS] at hsat HPP HN
              rw [hk3] at HPP HN
              have hk3a : k2 ≤ k3 := by omega
              have hk3b : k3 ≤ f.size := by simp at hle; omega
              clear h46 hq hle hk3 hS
              obtain ⟨s0, s1, s2, s3, s4, s5, sfz, sty⟩ := HFM2.out.sp
              have f5 := sfz 5
              clear sfz sty
              rcases h4 with h | ⟨h, hb⟩
              · have d1 : decide ((k2 : Int) + 1 < f.size) = false := decide_eq_false (by omega)
                as_aux_lemma =>
                  go_wp2_with (go_at_call 25; refine (HN.out _).mono ?_; rintro e w1 ⟨rfl, rfl⟩)
                  go_meet
                  refine ⟨k3, S, A2, av2, rfl, hk3a, hk3b, by omega, by omega, HPP, ?_, HOK2⟩
                  exact HFM2.out.spec (HFM2.out.sp.set5 _) ((OnlyB.refl _ _).set 5 _)
              · have d1 : decide ((k2 : Int) + 1 < f.size) = true := decide_eq_true (by omega)
                as_aux_lemma =>
                  go_wp2_with (go_at_call 25; refine (HN.out _).mono ?_; rintro e w1 ⟨rfl, rfl⟩)
                  go_meet
                  refine ⟨k3, S, A2, av2, rfl, hk3a, hk3b, by omega, by omega, HPP, ?_, HOK2⟩
                  exact HFM2.out.spec (HFM2.out.sp.set5 _) ((OnlyB.refl _ _).set 5 _)
          · have HPP : Hid (precP f.data.toList k2 A2 = some (-1, k2, A2)) := by
              unfold Hid precP; rw [if_neg h46]
            clear h46
            as_aux_lemma =>
              go_wp2
              go_meet
              exact ⟨k2, -1, A2, av2, rfl, by omega, hk2b, by omega, by omega, HPP, HFM2, HOK2⟩
        case rest =>
          obtain ⟨k3, pr, A3, av3, rfl, hk3a, hk3b, hpr1, hpr2, HPP, HFM3, HOK3⟩ := hcut
          clear H46 HFM2 HOK2
          rename World => w3
          obtain ⟨s0, s1, s2, s3, s4, s5, sfz, sty⟩ := HFM3.out.sp
          clear sfz sty
          by_cases hwd2 : 200 < wd
          · have HE : Hid (formT uintT f.data.toList (f.data.toList.length + 1) 0 A0 = none) := by
              obtain ⟨g1, g2, g3⟩ := HFR.out
              exact g1.bad g2 g3 (readT_end HKE.out HWP.out HPP.out (.inl hwd2))
            go_wp2
            refine bodyPost_ret (v := .tuple #[.string ⟨#[]⟩, .int .i64 46]) (by simp [results, Tryz.results12, go_sem]) rfl ?_
            exact formEnd_bad HE.out HFM3.out.be
          by_cases hpr3 : 200 < pr
          · have HE : Hid (formT uintT f.data.toList (f.data.toList.length + 1) 0 A0 = none) := by
              obtain ⟨g1, g2, g3⟩ := HFR.out
              exact g1.bad g2 g3 (readT_end HKE.out HWP.out HPP.out (.inr (.inl hpr3)))
            go_wp2
            refine bodyPost_ret (v := .tuple #[.string ⟨#[]⟩, .int .i64 46]) (by simp [results, Tryz.results12, go_sem]) rfl ?_
            exact formEnd_bad HE.out HFM3.out.be
          by_cases h5 : k3 < f.size
          rotate_left
          · have HE : Hid (formT uintT f.data.toList (f.data.toList.length + 1) 0 A0 = none) := by
              obtain ⟨g1, g2, g3⟩ := HFR.out
              exact g1.bad g2 g3 (readT_end HKE.out HWP.out HPP.out (.inr (.inr (.inl (List.getElem?_eq_none (by simp; omega))))))
            have bk : ((k3 : Int) == f.size) = true := beq_iff_eq.2 (by omega)
            go_wp2
            refine bodyPost_ret (v := .tuple #[.string ⟨#[]⟩, .int .i64 46]) (by simp [results, Tryz.results12, go_sem]) rfl ?_
            exact formEnd_bad HE.out HFM3.out.be
          have bk : ((k3 : Int) == f.size) = false := beq_eq_false_iff_ne.2 (by omega)
          have hx3 : f.data.toList[k3]? = some f[k3] := by rw [List.getElem?_eq_getElem (by simpa using h5)]; rfl
          have hex : f.extract k3 (k3 + 1) = ⟨#[f[k3]]⟩ := ba_of _ [f[k3]] (by rw [ex_list, drop_at _ _ (by simpa using h5), Nat.add_sub_cancel_left]; rfl)
          have hcn := fun W => contains_any f[k3] W
          rw [← hex] at hcn
          cases hlt : isLetter f[k3] with
          | false =>
            have HE : Hid (formT uintT f.data.toList (f.data.toList.length + 1) 0 A0 = none) := by
              obtain ⟨g1, g2, g3⟩ := HFR.out
              exact g1.bad g2 g3 (readT_end HKE.out HWP.out HPP.out (.inr (.inr (.inr ⟨_, hx3, hlt⟩))))
            rw [hlt] at hcn
            have HCN := Lib.hid hcn
            clear hcn hex hx3 hlt
            go_wp2_with (go_at_call 27; refine (HCN.out _).mono ?_; rintro e w' ⟨rfl, rfl⟩)
            refine bodyPost_ret (v := .tuple #[.string ⟨#[]⟩, .int .i64 46]) (by simp [results, Tryz.results12, go_sem]) rfl ?_
            exact formEnd_bad HE.out HFM3.out.be
          | true =>
            rw [hlt] at hcn
            have HCN := Lib.hid hcn
            have hr := readT_of HKE.out HWP.out HPP.out (by omega) (by omega) hx3 hlt
            obtain ⟨g1, g2, g3, g4⟩ := HFN.out
            rw [← g1, ← g2, ← g3, ← g4, HL2.out] at hr
            have HR2 : Hid (FormR uintT f.data.toList A0 (t ++ tellT uintT ⟨l2, p, bl, z, wd, pr, f[k3]⟩ (argH A3)) (k3 + 1) A3.tail) := by
              obtain ⟨y1, y2, y3⟩ := HFR.out
              exact y1.conv y2 y3 hr (by omega) (by simp; omega)
            have HLT := Lib.hid hlt
            clear g1 g2 g3 g4 hr hcn hex hx3 hlt
            go_upto_region 49 with (go_at_call 27; refine (HCN.out _).mono ?_; rintro e w' ⟨rfl, rfl⟩)
            go_cut [] (fun wx => ∃ (v' av' : Value) (long' : Bool) (out' : List UInt8), Hid (FmW w wx v' av' long' out' A3.tail l2 p bl z wd pr) ∧ Hid (WrR (t ++ tellT uintT ⟨l2, p, bl, z, wd, pr, f[k3]⟩ (argH A3)) out' long'))
            case first =>
              have HARG : Hid (∀ W, FmW w W v av3 long out A3 l2 p bl z wd pr → Calls Tryz.prog 23 #[.pointer (some ⟨w.heap.size, 0, none⟩)] W (ArgEnd W w.heap.size w.heap.size v long A3)) := fun W h => arg_any W w.heap.size w.heap.size v av3 long A3 h.wr h.ar (Nat.le_refl _)
              have HTL : Hid (∀ W, LaidJ W → Calls Tryz.prog 28 #[.agg #[.bool l2, .bool p, .bool bl, .bool z, .int .i64 wd, .int .i64 pr], .int .u8 f[k3].toNat, .agg #[.float .f64 (argH A3).n, .string ⟨(argH A3).s.toArray⟩, .bool (argH A3).num]] W (TellEnd ⟨l2, p, bl, z, wd, pr, f[k3]⟩ (argH A3) W)) := fun W h =>
                tell_any ⟨l2, p, bl, z, wd, pr, f[k3]⟩ (argH A3) HOK3.out.head.1 (Nat.le_trans HOK3.out.head.2 (by omega)) HLT.out (by show pr ≤ 200; omega) hpr1 (by show wd ≤ 200; omega) W h
              as_aux_lemma =>
                go_region_with (first
                  | (go_at_call 23; refine (HARG.out _ (HFM3.out.below (by first | exact (Below.refl _ _).drew | exact Below.refl _ _))).mono ?_; rintro e w4 ⟨rfl, av4, q1, q2, q3⟩; have HF1 := Lib.hid ((HFM3.out.below (by first | exact (Below.refl _ _).drew | exact Below.refl _ _)).arg q1 q2 q3); obtain ⟨t0, t1, t2, t3, t4, t5, tfz, tty⟩ := HF1.out.sp; clear tfz tty)
                  | (go_at_call 28; refine (HTL.out _ (HL.out.below HF1.out.be)).mono ?_; rintro e w5 ⟨rfl, hb5⟩; have HF2 := Lib.hid (HF1.out.below hb5))
                  | (go_at_call 22; refine (put_any _ w.heap.size (w.heap.size + 2) v av4 long out _ HF2.out.wr HF2.out.ow HF2.out.ol HF2.out.size).mono ?_; rintro e w6 ⟨rfl, v', out', long', y1, y2, y3, y4⟩))
                all_goals
                  have hw := HW.out.of_put y4
                  go_wp2
                  go_meet
                  exact ⟨v', av4, long', out', HF2.out.put y1 y2 hw.2.1 y3, hw⟩
            case rest =>
              obtain ⟨v', av', long', out', HFM4, HW4⟩ := hcut
              have ek : ((k3 : Int) + 1) = ((k3 + 1 : Nat) : Int) := by omega
              have EK := Lib.hid ek
              clear ek
              go_wp2
              go_step3
              rw [EK.out]
              refine ⟨⟨k3 + 1, v', av', long', out', _, A3.tail, l2, p, bl, z, wd, pr, by omega, HFM4, HOK3.out.tail, HW4, HR2, ?_⟩, ?_⟩
              · (refine ⟨⟨?_, ?_, ?_, ?_, ?_, ?_, ?_, ?_, ?_, ?_, ?_, ?_, ?_, ?_, ?_, ?_, ?_, ?_, ?_, ?_⟩, ⟨?_, ?_, ?_, ?_, ?_, ?_, ?_, ?_, ?_, ?_, ?_, ?_, ?_, ?_, ?_, ?_, ?_, ?_, ?_, ?_⟩, ⟨?_, ?_, ?_, ?_, ?_, ?_, ?_, ?_, ?_, ?_, ?_, ?_, ?_, ?_, ?_, ?_, ?_, ?_, ?_, ?_⟩, ⟨?_, ?_, ?_, ?_, ?_, ?_, ?_, ?_, ?_, ?_, ?_, ?_, ?_, ?_, ?_, ?_, ?_, ?_, ?_, ?_⟩, ⟨?_, ?_, ?_, ?_, ?_, ?_, ?_, ?_, ?_, ?_, ?_, ?_, ?_, ?_, ?_, ?_, ?_, ?_, ?_, ?_⟩, ⟨?_, ?_, ?_, ?_, ?_, ?_, ?_, ?_, ?_, ?_, ?_, ?_, ?_, ?_, ?_, ?_, ?_, ?_, ?_, ?_⟩, ⟨?_, ?_, ?_, ?_, ?_, ?_, ?_, ?_, ?_, ?_, ?_, ?_, ?_, ?_, ?_, ?_, ?_, ?_, ?_, ?_⟩, ⟨?_, ?_, ?_, ?_, ?_, ?_, ?_, ?_, ?_, ?_, ?_, ?_, ?_, ?_, ?_, ?_, ?_, ?_, ?_, ?_⟩, ⟨?_, ?_, ?_, ?_, ?_, ?_, ?_, ?_, ?_, ?_, ?_, ?_, ?_, ?_, ?_, ?_, ?_, ?_, ?_, ?_⟩, ⟨?_, ?_, ?_, ?_, ?_, ?_, ?_, ?_, ?_, ?_, undef, undef, undef, undef, undef, undef, undef, undef, undef, undef⟩, ?_⟩; rotate_left 190; refine @congrArg _ _ _ _ (fun x => Act.mk (List.toArray x) []) ?_; dsimp only; repeat (refine congr (congrArg List.cons (?_ : _ = _)) ?_; · exact rfl); exact rfl)
              · exact muF_lt (k := k) (k' := k3 + 1) (by omega) hks rfl rfl

end Go.Proofs.YtdencljnbilchaaGreatDoor
