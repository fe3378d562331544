/- The walk of the reference's read. -/
import Derived.Test.YtdencljnbilchaaGreatDoorKa
import Derived.Deep.DeepCutAuto
import Derived.Deep.CutBlock

namespace Go.Proofs.YtdencljnbilchaaGreatDoor
open Go.RowKit

def LLs : List UInt8 := [100, 105, 117, 111, 120, 88, 102, 70, 101, 69, 103, 71, 99, 115]
theorem LLs_has (c : UInt8) : (∃ i, ∃ h : i < LLs.length, LLs[i] = c) ↔ isLetter c = true := by
  have key : ∀ k : Fin 256, LLs.contains (⟨⟨k⟩⟩ : UInt8) = isLetter ⟨⟨k⟩⟩ := by decide +kernel
  have := key c.toBitVec.toFin
  rw [← show LLs.contains c = isLetter c from this]
  rw [List.contains_iff_mem, List.mem_iff_getElem]

/-- The state behind the flags. -/
def RdW (w wx : World) (l p bl z : Bool) (wd pr c : Int) : Prop := SpR wx 67 w.heap.size l p bl z wd pr c ∧ Below w.heap.size w wx
theorem RdW.below {w wx wy : World} {l p bl z : Bool} {wd pr c : Int} (h : RdW w wx l p bl z wd pr c) (hb : Below wx.heap.size wx wy) : RdW w wy l p bl z wd pr c :=
  ⟨h.1.kept (hb.block _ h.1.sp.ty.lt), h.2.trans (hb.mono h.2.size)⟩
theorem RdW.set {w wx : World} {l p bl z l' p' bl' z' : Bool} {wd pr c wd' pr' c' : Int} {i : Nat} {v : Value} (h : RdW w wx l p bl z wd pr c) (hs : SpR (wx.setCell ⟨w.heap.size, i, none⟩ v) 67 w.heap.size l' p' bl' z' wd' pr' c') : RdW w (wx.setCell ⟨w.heap.size, i, none⟩ v) l' p' bl' z' wd' pr' c' :=
  ⟨hs, h.2.setCell (p := ⟨w.heap.size, i, none⟩) (Nat.le_refl _) _⟩
/-- Stored back to itself. -/
def seven (w : World) (b : Nat) (l p bl z : Bool) (wd pr c : Int) : World :=
  ((((((w.setCell ⟨b, 0, none⟩ (.bool l)).setCell ⟨b, 1, none⟩ (.bool p)).setCell ⟨b, 2, none⟩ (.bool bl)).setCell ⟨b, 3, none⟩ (.bool z)).setCell ⟨b, 4, none⟩ (.int .i64 wd)).setCell ⟨b, 5, none⟩ (.int .i64 pr)).setCell ⟨b, 6, none⟩ (.int .u8 c)
theorem RdW.seven {w wx : World} {l p bl z : Bool} {wd pr c : Int} (h : RdW w wx l p bl z wd pr c) : RdW w (seven wx w.heap.size l p bl z wd pr c) l p bl z wd pr c :=
  ((((((h.set (h.1.set0 l)).set ((h.1.set0 l).set1 p)).set (((h.1.set0 l).set1 p).set2 bl)).set ((((h.1.set0 l).set1 p).set2 bl).set3 z)).set (((((h.1.set0 l).set1 p).set2 bl).set3 z).set4 wd)).set ((((((h.1.set0 l).set1 p).set2 bl).set3 z).set4 wd).set5 pr)).set (((((((h.1.set0 l).set1 p).set2 bl).set3 z).set4 wd).set5 pr).set6 c)

theorem argsAt_set {w : World} {N B : Nat} {a : Value} {A : List FArg} (h : ArgsAt w N a A) (hN : N ≤ B) (i : Nat) (v : Value) : ArgsAt (w.setCell ⟨B, i, none⟩ v) N a A :=
  h.kept fun k hk => Below.heap_setCell _ _ _ _ (by show k ≠ B; omega)
theorem argsAt_seven {w : World} {N B : Nat} {a : Value} {A : List FArg} (h : ArgsAt w N a A) (hN : N ≤ B) (l p bl z : Bool) (wd pr c : Int) : ArgsAt (seven w B l p bl z wd pr c) N a A :=
  argsAt_set (argsAt_set (argsAt_set (argsAt_set (argsAt_set (argsAt_set (argsAt_set h hN _ _) hN _ _) hN _ _) hN _ _) hN _ _) hN _ _) hN _ _
theorem readEnd_yes {l : List UInt8} {k N k' : Nat} {A A' : List FArg} {a' : Value} {w wx : World} {b1 b2 b3 b4 : Bool} {wd : Nat} {pr : Int} {c : UInt8} (h : readT l k A = some (⟨b1, b2, b3, b4, wd, pr, c⟩, k', A')) (hb : RdW w wx b1 b2 b3 b4 wd pr c.toNat) (ha : ArgsAt wx N a' A') (hN : N ≤ w.heap.size) :
    ReadEnd l k A w N (.returned (.tuple #[.agg #[.bool b1, .bool b2, .bool b3, .bool b4, .int .i64 wd, .int .i64 pr, .int .u8 c.toNat], .int .i64 k', a', .bool true])) (seven wx w.heap.size b1 b2 b3 b4 wd pr c.toNat) :=
  ⟨hb.seven.2, .inl ⟨_, _, _, _, h, rfl, argsAt_seven ha hN _ _ _ _ _ _ _⟩⟩

theorem ReadEnd.drew {l : List UInt8} {k N : Nat} {A : List FArg} {w w' : World} {e : Ending} (h : ReadEnd l k A w N e w') : ReadEnd l k A w N e w'.drew :=
  ⟨h.1.drew, h.2.imp (fun ⟨cv, k', A', a', h1, h2, h3⟩ => ⟨cv, k', A', a', h1, h2, h3.kept fun _ _ => rfl⟩) id⟩
theorem RdW.drew {w wx : World} {l p bl z : Bool} {wd pr c : Int} (h : RdW w wx l p bl z wd pr c) : RdW w wx.drew l p bl z wd pr c := ⟨h.1.kept rfl, h.2.drew⟩

theorem readEnd_no {l : List UInt8} {k N : Nat} {A : List FArg} {w wx : World} {b1 b2 b3 b4 : Bool} {wd pr c : Int} (h : readT l k A = none) (hb : RdW w wx b1 b2 b3 b4 wd pr c) :
    ReadEnd l k A w N (.returned (.tuple #[.agg #[.bool b1, .bool b2, .bool b3, .bool b4, .int .i64 wd, .int .i64 pr, .int .u8 c], .int .i64 0, .slice none 0 0, .bool false])) (seven wx w.heap.size b1 b2 b3 b4 wd pr c) :=
  ⟨hb.seven.2, .inr ⟨h, b1, b2, b3, b4, wd, pr, c, rfl⟩⟩

set_option maxRecDepth 100000 in
set_option maxHeartbeats 8000000 in
theorem read_any (s : ByteArray) (k : Nat) (a : Value) (A : List FArg) (N : Nat) (w : World) (hs : s.size ≤ 140737488351232) (hk : k ≤ s.size) (hA : ArgsAt w N a A) (hN : N ≤ w.heap.size) (hok : argsOk A) :
    Calls Tryz.prog 29 #[.string s, .int .i64 k, a] w (ReadEnd s.data.toList k A w N) := by
  obtain ⟨k1, hk1⟩ : ∃ k1, k + nWhile isFlag (s.data.toList.drop k) = k1 := ⟨_, rfl⟩
  have hk1s : k1 ≤ s.size := by have := nWhile_le isFlag (s.data.toList.drop k); simp at this; omega
  have hm : s.size ≤ maxLen := by unfold maxLen; omega
  have HA := Lib.hid hA
  have HN := Lib.hid hN
  have HOK := Lib.hid hok
  have HK1 := Lib.hid hk1
  have HR0 : Hid (RdW w (w.alloc (.cells #[.bool false, .bool false, .bool false, .bool false, .int .i64 0, .int .i64 (-1), .int .u8 0] 67)) false false false false 0 (-1) 0) :=
    ⟨SpR.new w _, (Below.refl _ _).alloc (Nat.le_refl _) _⟩
  have HAM : Hid (∀ (pr : Bool) (j : Nat) (W : World) (a' : Value) (A' : List FArg), j ≤ s.size → Below w.heap.size w W → ArgsAt W N a' A' → argsOk A' → Calls Tryz.prog 47 #[.string s, .int .i64 j, a', .bool pr] W (AmtEnd (amtT pr s.data.toList j A') W N)) := fun pr j W a' A' hj hb ha ho => by
    by_cases h42 : s.data.toList[j]? = some 42
    · exact amount_star s j pr a' A' N W hm ha (Nat.le_trans hN hb.size) ho.head.1 h42
    · exact amount_dig s j pr a' A' N W hm hj ha h42
  clear hA hN hok hk1 hm
  go_enter Tryz.func29, Tryz.ntmps29
  go_upto_block 0 with (fail)
  go_cut [1] (fun i wx => ∃ (b1 b2 b3 b4 : Bool), i = .int .i64 k1 ∧ Hid (FlagsR s.data.toList k (nWhile isFlag (s.data.toList.drop k)) b1 b2 b3 b4) ∧ Hid (RdW w wx b1 b2 b3 b4 0 (-1) 0))
  case first =>
    as_aux_lemma =>
      go_wp2
      go_loopg [1] (nWhile isFlag (s.data.toList.drop k)) (fun g i wr => ∃ (j : Nat) (b1 b2 b3 b4 : Bool), i = .int .i64 j ∧ k ≤ j ∧ j + g = k1 ∧ Hid (nWhile isFlag (s.data.toList.drop j) = g) ∧ Hid (FlagsR s.data.toList k (j - k) b1 b2 b3 b4) ∧ Hid (RdW w wr b1 b2 b3 b4 0 (-1) 0))
      case atStart => exact ⟨k, false, false, false, false, rfl, Nat.le_refl _, HK1.out, rfl, by rw [Nat.sub_self]; exact FlagsR.zero _ _, HR0⟩
      case round =>
        obtain ⟨j, b1, b2, b3, b4, rfl, hkj, hjg, HG, HFL, HRD⟩ := hrel
        obtain ⟨⟨⟨s0, s1, s2, s3, s4, s5, sfz, sty⟩, s6⟩, hb⟩ := HRD.out
        have f0 := sfz 0
        have f1 := sfz 1
        have f2 := sfz 2
        have f3 := sfz 3
        clear sfz sty s4 s5 s6 hb HR0
        have ek : ((j : Int) + 1) = ((j + 1 : Nat) : Int) := by omega
        have EK := Lib.hid ek
        clear ek
        have HSTOP : Hid (gk = 0 → FlagsR s.data.toList k (nWhile isFlag (s.data.toList.drop k)) b1 b2 b3 b4 ∧ j = k1) := fun h0 => by
          have h1 := HFL.out
          have h2 := HK1.out
          rw [show j - k = nWhile isFlag (s.data.toList.drop k) by omega] at h1
          exact ⟨h1, by omega⟩
        by_cases hjs : j < s.size
        · have hjl : j < s.data.toList.length := by simpa using hjs
          have hx : s.data.toList[k + (j - k)]? = some s[j] := by
            rw [show k + (j - k) = j by omega, List.getElem?_eq_getElem hjl]; rfl
          have HX := Lib.hid hx
          have HON : Hid (isFlag s[j] = true → nWhile isFlag (s.data.toList.drop (j + 1)) = gk - 1 ∧ 0 < gk) := fun h => by
            have := nF_on hjl h
            have h4 := HG.out
            omega
          have hjk : j + 1 - k = j - k + 1 := by omega
          have HJK := Lib.hid hjk
          clear hx hjk
          by_cases h45 : s[j] = 45
          · have b45 : ((s[j].toNat : Int) == 45) = true := beq_t (d := 45) h45
            have HF2 := Lib.hid (HFL.out.s45 (by rw [HX.out, h45]))
            have HJ2 := Lib.hid (HON.out (by rw [h45]; decide))
            clear h45
            as_aux_lemma =>
              go_wp2
              go_roundg (gk - 1)
              case measure => have := HJ2.out; omega
              case rel => exact ⟨j + 1, true, b2, b3, b4, congrArg (Value.int .i64) EK.out, by omega, by have := HJ2.out; omega, HJ2.out.1, by rw [HJK.out]; exact HF2, HRD.out.set (HRD.out.1.set0 true)⟩
          have b45 : ((s[j].toNat : Int) == 45) = false := beq_f (d := 45) h45
          by_cases h43 : s[j] = 43
          · have b43 : ((s[j].toNat : Int) == 43) = true := beq_t (d := 43) h43
            have HF2 := Lib.hid (HFL.out.s43 (by rw [HX.out, h43]))
            have HJ2 := Lib.hid (HON.out (by rw [h43]; decide))
            clear h45 h43
            as_aux_lemma =>
              go_wp2
              go_roundg (gk - 1)
              case measure => have := HJ2.out; omega
              case rel => exact ⟨j + 1, b1, true, b3, b4, congrArg (Value.int .i64) EK.out, by omega, by have := HJ2.out; omega, HJ2.out.1, by rw [HJK.out]; exact HF2, HRD.out.set (HRD.out.1.set1 true)⟩
          have b43 : ((s[j].toNat : Int) == 43) = false := beq_f (d := 43) h43
          by_cases h32 : s[j] = 32
          · have b32 : ((s[j].toNat : Int) == 32) = true := beq_t (d := 32) h32
            have HF2 := Lib.hid (HFL.out.s32 (by rw [HX.out, h32]))
            have HJ2 := Lib.hid (HON.out (by rw [h32]; decide))
            clear h45 h43 h32
            as_aux_lemma =>
              go_wp2
              go_roundg (gk - 1)
              case measure => have := HJ2.out; omega
              case rel => exact ⟨j + 1, b1, b2, true, b4, congrArg (Value.int .i64) EK.out, by omega, by have := HJ2.out; omega, HJ2.out.1, by rw [HJK.out]; exact HF2, HRD.out.set (HRD.out.1.set2 true)⟩
          have b32 : ((s[j].toNat : Int) == 32) = false := beq_f (d := 32) h32
          by_cases h48 : s[j] = 48
          · have b48 : ((s[j].toNat : Int) == 48) = true := beq_t (d := 48) h48
            have HF2 := Lib.hid (HFL.out.s48 (by rw [HX.out, h48]))
            have HJ2 := Lib.hid (HON.out (by rw [h48]; decide))
            clear h45 h43 h32 h48
            as_aux_lemma =>
              go_wp2
              go_roundg (gk - 1)
              case measure => have := HJ2.out; omega
              case rel => exact ⟨j + 1, b1, b2, b3, true, congrArg (Value.int .i64) EK.out, by omega, by have := HJ2.out; omega, HJ2.out.1, by rw [HJK.out]; exact HF2, HRD.out.set (HRD.out.1.set3 true)⟩
          have b48 : ((s[j].toNat : Int) == 48) = false := beq_f (d := 48) h48
          have hno : isFlag (s.data.toList[j]'hjl) = false := by
            rw [← byte_get s j hjs]
            unfold isFlag; simp [h45, h43, h32, h48]
          have h4 := HG.out
          rw [nF_off hjl hno] at h4
          have HS := Lib.hid (HSTOP.out h4.symm)
          clear h45 h43 h32 h48 hno h4
          as_aux_lemma =>
            go_wp2
            go_meet
            exact ⟨b1, b2, b3, b4, by rw [HS.out.2], HS.out.1, HRD⟩
        · have h4 := HG.out
          rw [nWhile_end isFlag _ _ (by simp; omega)] at h4
          have HS := Lib.hid (HSTOP.out h4.symm)
          clear h4
          as_aux_lemma =>
            go_wp2
            go_meet
            exact ⟨b1, b2, b3, b4, by rw [HS.out.2], HS.out.1, HRD⟩
  case rest =>
    obtain ⟨b1, b2, b3, b4, rfl, HFL, HRD⟩ := hcut
    rename World => w1
    clear HR0
    have hc := HAM.out false k1 w1 a A hk1s HRD.out.2 (argsAt_below HA.out HN.out HRD.out.2) HOK.out
    cases hw : amtT false s.data.toList k1 A with
    | none =>
      have HE : Hid (readT s.data.toList k A = none) := readR_width (by rw [HK1.out]; exact hw)
      rw [hw] at hc
      have HC := Lib.hid hc
      clear hc hw
      go_wp2_with (go_at_call 47; refine HC.out.mono ?_; intro e w2 hE; obtain ⟨n, i, a2, rfl, hb2⟩ := hE.none; clear hE; have HR2 := Lib.hid (HRD.out.below hb2); obtain ⟨⟨⟨s0, s1, s2, s3, s4, s5, sfz, sty⟩, s6⟩, _⟩ := HR2.out; have f0 := sfz 0; have f1 := sfz 1; have f2 := sfz 2; have f3 := sfz 3; have f4 := sfz 4; have f5 := sfz 5; have f6 := sfz 6; clear sfz sty)
      refine bodyPost_ret (v := .tuple #[.agg #[.bool b1, .bool b2, .bool b3, .bool b4, .int .i64 n, .int .i64 (-1), .int .u8 0], .int .i64 0, .slice none 0 0, .bool false]) (by simp [results, Tryz.results29, go_sem, s0, s1, s2, s3, s4, s5, s6]) rfl ?_
      exact readEnd_no HE.out (HR2.out.set (HR2.out.1.set4 n))
    | some r =>
      obtain ⟨n, k2, A2⟩ := r
      obtain ⟨n1, n2, _, k2a, k2b, ho⟩ := amt_bound hw (by simpa using hk1s)
      have HOK2 := Lib.hid (ho HOK.out)
      have k2b' : k2 ≤ s.size := by simpa using k2b
      have HW2 : Hid (amtT false s.data.toList (k + nWhile isFlag (s.data.toList.drop k)) A = some (n, k2, A2)) := by unfold Hid; rw [HK1.out]; exact hw
      rw [hw] at hc
      have HC := Lib.hid hc
      clear hc hw ho k2b
      go_upto_if 48 with (go_at_call 47; refine HC.out.mono ?_; intro e w2 hE; obtain ⟨a2, rfl, hb2, ha2⟩ := hE.some; clear hE; have HA2 := Lib.hid ha2; have HR2 := Lib.hid (HRD.out.below hb2); clear ha2; obtain ⟨⟨⟨s0, s1, s2, s3, s4, s5, sfz, sty⟩, s6⟩, _⟩ := HR2.out; have f0 := sfz 0; have f1 := sfz 1; have f2 := sfz 2; have f3 := sfz 3; have f4 := sfz 4; have f5 := sfz 5; have f6 := sfz 6; clear sfz sty)
      go_cut [] (fun wx => Hid (RdW w wx (b1 || decide (n < 0)) b2 b3 b4 n.natAbs (-1) 0) ∧ Hid (ArgsAt wx N a2 A2))
      case first =>
        by_cases hn : n < 0
        · have en : RowKit.wrap64 (-n) = -n := by unfold RowKit.wrap64; omega
          have HNA : Hid (-n = (n.natAbs : Int)) := by unfold Hid; omega
          as_aux_lemma =>
            go_wp2
            go_meet
            rw [decide_eq_true hn, Bool.or_true, HNA.out]
            refine ⟨((HR2.out.set (HR2.out.1.set4 n)).set ((HR2.out.1.set4 n).set0 true)).set (((HR2.out.1.set4 n).set0 true).set4 _), ?_⟩
            exact argsAt_set (argsAt_set (argsAt_set HA2.out HN.out _ _) HN.out _ _) HN.out _ _
        · have HNA : Hid (n = (n.natAbs : Int)) := by unfold Hid; omega
          have HDN := Lib.hid (decide_eq_false hn)
          as_aux_lemma =>
            go_wp2
            go_meet
            rw [HDN.out, Bool.or_false, ← HNA.out]
            exact ⟨HR2.out.set (HR2.out.1.set4 n), argsAt_set HA2.out HN.out _ _⟩
      case rest =>
        obtain ⟨HR3, HA3⟩ := hcut
        clear HA2 HR2 s0 s1 s2 s3 s4 s5 s6 f0 f1 f2 f3 f4 f5 f6 HC
        rename World => w3
        obtain ⟨l2, hl2⟩ : ∃ l2, (b1 || decide (n < 0)) = l2 := ⟨_, rfl⟩
        obtain ⟨wd, hwd⟩ : ∃ wd, n.natAbs = wd := ⟨_, rfl⟩
        have HL2 := Lib.hid (And.intro hl2 hwd)
        rw [hl2, hwd] at HR3
        clear hl2 hwd
        have h3 : (¬ k2 < s.size ∧ s.data.toList[k2]? ≠ some 46) ∨ (∃ h : k2 < s.size, ((s[k2].toNat : Int) == 46) = true ∧ s.data.toList[k2]? = some 46) ∨ (∃ h : k2 < s.size, ((s[k2].toNat : Int) == 46) = false ∧ s.data.toList[k2]? ≠ some 46) := by
          by_cases h : k2 < s.size
          · have hx : s.data.toList[k2]? = some s[k2] := by rw [List.getElem?_eq_getElem (by simpa using h)]; rfl
            by_cases h46 : s[k2] = 46
            · exact .inr (.inl ⟨h, beq_t (d := 46) h46, by rw [hx, h46]⟩)
            · exact .inr (.inr ⟨h, beq_f (d := 46) h46, by rw [hx]; simpa using h46⟩)
          · exact .inl ⟨h, by rw [List.getElem?_eq_none (by simp; omega)]; simp⟩
        have H3 := Lib.hid h3
        clear h3
        go_upto_region 19 with (fail)
        go_cut [63] (fun t' wx => ∃ c : Bool, t' = .bool c ∧ w3 = wx ∧ Hid ((c = true ∧ k2 < s.size ∧ s.data.toList[k2]? = some 46) ∨ (c = false ∧ s.data.toList[k2]? ≠ some 46)))
        case first =>
          rcases H3.out with ⟨h, hq⟩ | ⟨h, hb, hq⟩ | ⟨h, hb, hq⟩
          · have d1 : decide ((k2 : Int) < s.size) = false := decide_eq_false (by omega)
            have HQ := Lib.hid hq
            clear hq
            as_aux_lemma =>
              go_wp2
              go_meet
              exact ⟨false, rfl, rfl, .inr ⟨rfl, HQ.out⟩⟩
          · have d1 : decide ((k2 : Int) < s.size) = true := decide_eq_true (by omega)
            have HQ := Lib.hid hq
            clear hq
            as_aux_lemma =>
              go_wp2
              go_meet
              exact ⟨true, rfl, rfl, .inl ⟨rfl, h, HQ.out⟩⟩
          · have d1 : decide ((k2 : Int) < s.size) = true := decide_eq_true (by omega)
            have HQ := Lib.hid hq
            clear hq
            as_aux_lemma =>
              go_wp2
              go_meet
              exact ⟨false, rfl, rfl, .inr ⟨rfl, HQ.out⟩⟩
        case rest =>
          obtain ⟨c46, rfl, rfl, H46⟩ := hcut
          clear H3
          go_upto_if 63 with (fail)
          go_cut [1, 2] (fun i l wx => ∃ (k3 : Nat) (pr : Int) (A3 : List FArg), i = .int .i64 k3 ∧ k3 ≤ s.size ∧ -1 ≤ pr ∧ Hid (precAt s.data.toList k2 A2 = some (pr, k3, A3)) ∧ Hid (RdW w wx l2 b2 b3 b4 wd pr 0) ∧ Hid (ArgsAt wx N l A3))
          case first =>
            rcases H46.out with ⟨rfl, hlt, h46⟩ | ⟨rfl, h46⟩
            · have ek : ((k2 + 1 : Nat) : Int) = (k2 : Int) + 1 := by omega
              have hc := HAM.out true (k2 + 1) w3 a2 A2 (by omega) HR3.out.2 HA3.out HOK2.out
              rw [ek] at hc
              have HPA : Hid (precAt s.data.toList k2 A2 = amtT true s.data.toList (k2 + 1) A2) := by unfold Hid; rw [precAt_amt, if_pos h46]
              clear ek h46
              cases hw : amtT true s.data.toList (k2 + 1) A2 with
              | none =>
                have HE : Hid (readT s.data.toList k A = none) := readR_prec HW2.out (by rw [HPA.out]; exact hw)
                rw [hw] at hc
                have HC := Lib.hid hc
                clear hc hw
                go_wp2_with (go_at_call 47; refine HC.out.mono ?_; intro e w4 hE; obtain ⟨pr, i, a3, rfl, hb2⟩ := hE.none; clear hE; have HR4 := Lib.hid (HR3.out.below hb2); obtain ⟨⟨⟨s0, s1, s2, s3, s4, s5, sfz, sty⟩, s6⟩, _⟩ := HR4.out; have f0 := sfz 0; have f1 := sfz 1; have f2 := sfz 2; have f3 := sfz 3; have f4 := sfz 4; have f5 := sfz 5; have f6 := sfz 6; clear sfz sty)
                refine bodyPost_ret (v := .tuple #[.agg #[.bool l2, .bool b2, .bool b3, .bool b4, .int .i64 wd, .int .i64 pr, .int .u8 0], .int .i64 0, .slice none 0 0, .bool false]) (by simp [results, Tryz.results29, go_sem, s0, s1, s2, s3, s4, s5, s6]) rfl ?_
                exact readEnd_no HE.out (HR4.out.set (HR4.out.1.set5 pr))
              | some r =>
                obtain ⟨pr, k3, A3⟩ := r
                obtain ⟨_, _, p3, _, k3b, _⟩ := amt_bound hw (by simp; omega)
                have p3' := p3 rfl
                have k3b' : k3 ≤ s.size := by simpa using k3b
                have HPP : Hid (precAt s.data.toList k2 A2 = some (pr, k3, A3)) := by unfold Hid; rw [HPA.out]; exact hw
                rw [hw] at hc
                have HC := Lib.hid hc
                clear hc hw p3 k3b
                by_cases hp1 : pr = -1
                · subst hp1
                  as_aux_lemma =>
                    go_wp2_with (go_at_call 47; refine HC.out.mono ?_; intro e w4 hE; obtain ⟨a3, rfl, hb2, ha2⟩ := hE.some; clear hE; have HA4 := Lib.hid ha2; have HR4 := Lib.hid (HR3.out.below hb2); clear ha2; obtain ⟨⟨⟨s0, s1, s2, s3, s4, s5, sfz, sty⟩, s6⟩, _⟩ := HR4.out; have f0 := sfz 0; have f1 := sfz 1; have f2 := sfz 2; have f3 := sfz 3; have f4 := sfz 4; have f5 := sfz 5; have f6 := sfz 6; clear sfz sty)
                    go_meet
                    exact ⟨k3, -1, A3, rfl, k3b', by omega, HPP, (HR4.out.set (HR4.out.1.set5 _)).set ((HR4.out.1.set5 _).set5 _), argsAt_set (argsAt_set HA4.out HN.out _ _) HN.out _ _⟩
                · have HMX : Hid (max (-1) pr = pr) := by unfold Hid; omega
                  as_aux_lemma =>
                    go_wp2_with (go_at_call 47; refine HC.out.mono ?_; intro e w4 hE; obtain ⟨a3, rfl, hb2, ha2⟩ := hE.some; clear hE; have HA4 := Lib.hid ha2; have HR4 := Lib.hid (HR3.out.below hb2); clear ha2; obtain ⟨⟨⟨s0, s1, s2, s3, s4, s5, sfz, sty⟩, s6⟩, _⟩ := HR4.out; have f0 := sfz 0; have f1 := sfz 1; have f2 := sfz 2; have f3 := sfz 3; have f4 := sfz 4; have f5 := sfz 5; have f6 := sfz 6; clear sfz sty)
                    go_meet
                    rw [HMX.out]
                    exact ⟨k3, pr, A3, rfl, k3b', by omega, HPP, (HR4.out.set (HR4.out.1.set5 _)).set ((HR4.out.1.set5 _).set5 _), argsAt_set (argsAt_set HA4.out HN.out _ _) HN.out _ _⟩
            · have HPP : Hid (precAt s.data.toList k2 A2 = some (-1, k2, A2)) := by unfold Hid; rw [precAt_amt, if_neg h46]
              clear h46
              as_aux_lemma =>
                go_wp2
                go_meet
                exact ⟨k2, -1, A2, rfl, k2b', by omega, HPP, HR3, HA3⟩
          case rest =>
            obtain ⟨k3, pr, A3, rfl, k3b, hpr, HPP, HR5, HA5⟩ := hcut
            clear H46 HR3 HA3
            rename World => w5
            obtain ⟨⟨⟨s0, s1, s2, s3, s4, s5, sfz, sty⟩, s6⟩, _⟩ := HR5.out
            have f0 := sfz 0
            have f1 := sfz 1
            have f2 := sfz 2
            have f3 := sfz 3
            have f4 := sfz 4
            have f5 := sfz 5
            have f6 := sfz 6
            clear sfz sty
            by_cases h5 : k3 < s.size
            · have hx3 : s.data.toList[k3]? = some s[k3] := by rw [List.getElem?_eq_getElem (by simpa using h5)]; rfl
              have HNO : Hid (isLetter s[k3] = false → readT s.data.toList k A = none) := fun h => readR_end HW2.out HPP.out (.inr ⟨_, hx3, h⟩)
              have HYES : Hid (isLetter s[k3] = true → readT s.data.toList k A = some (⟨l2, b2, b3, b4, wd, pr, s[k3]⟩, k3 + 1, A3)) := fun h => by
                have := readR_of HFL.out HW2.out HPP.out hx3 h
                rw [this, HL2.out.1, HL2.out.2]
              obtain ⟨c, hcc⟩ : ∃ c, s[k3] = c := ⟨_, rfl⟩
              have HCC := Lib.hid hcc
              rw [hcc] at HNO HYES
              have hge : ¬ (s.size : Int) ≤ (k3 : Int) := by omega
              clear hx3
              have HR6 : Hid (RdW w (w5.setCell ⟨w.heap.size, 6, none⟩ (.int .u8 c.toNat)) l2 b2 b3 b4 wd pr c.toNat) := HR5.out.set (HR5.out.1.set6 _)
              have HA6 : Hid (ArgsAt (w5.setCell ⟨w.heap.size, 6, none⟩ (.int .u8 c.toNat)) N u2 A3) := argsAt_set HA5.out HN.out 6 _
              go_wp2
              go_loopg [10] 14 (fun g q wr => ∃ i : Nat, q = .int .i64 i ∧ i + g = 14 ∧ Hid (∀ j, ∀ h : j < LLs.length, j < i → LLs[j] ≠ c) ∧ Hid (RdW w wr l2 b2 b3 b4 wd pr c.toNat) ∧ Hid (ArgsAt wr N u2 A3))
              case atStart => exact ⟨0, rfl, rfl, fun j h hj => by omega, HR6, HA6⟩
              case round =>
                obtain ⟨i, rfl, hig, HI, HR7, HA7⟩ := hrel
                clear s0 s1 s2 s3 s4 s5 s6 f0 f1 f2 f3 f4 f5 f6
                obtain ⟨⟨⟨s0, s1, s2, s3, s4, s5, sfz, sty⟩, s6⟩, _⟩ := HR7.out
                have f0 := sfz 0
                have f1 := sfz 1
                have f2 := sfz 2
                have f3 := sfz 3
                have f4 := sfz 4
                have f5 := sfz 5
                have f6 := sfz 6
                clear sfz sty
                by_cases hi14 : i < 14
                · have hq : i < ({ data := #[100, 105, 117, 111, 120, 88, 102, 70, 101, 69, 103, 71, 99, 115] } : ByteArray).size := hi14
                  by_cases hc : ({ data := #[100, 105, 117, 111, 120, 88, 102, 70, 101, 69, 103, 71, 99, 115] } : ByteArray)[i]'hq = c
                  · have bq : ((((({ data := #[100, 105, 117, 111, 120, 88, 102, 70, 101, 69, 103, 71, 99, 115] } : ByteArray)[i]'hq).toNat : Int)) == (c.toNat : Int)) = true := beq_t hc
                    have hR := HYES.out ((LLs_has c).1 ⟨i, hi14, hc⟩)
                    have HR := Lib.hid hR
                    clear hc hR
                    go_wp2
                    go_region
                    go_wp2
                    refine bodyPost_ret (v := .tuple #[.agg #[.bool l2, .bool b2, .bool b3, .bool b4, .int .i64 wd, .int .i64 pr, .int .u8 c.toNat], .int .i64 (k3 + 1 : Nat), u2, .bool true]) (by simp [results, Tryz.results29, go_sem, s0, s1, s2, s3, s4, s5, s6]) rfl ?_
                    have he := (readEnd_yes (k' := k3 + 1) (N := N) HR.out HR7.out HA7.out HN.out).drew
                    unfold Go.Proofs.YtdencljnbilchaaGreatDoor.seven at he
                    exact he
                  · have bq : ((((({ data := #[100, 105, 117, 111, 120, 88, 102, 70, 101, 69, 103, 71, 99, 115] } : ByteArray)[i]'hq).toNat : Int)) == (c.toNat : Int)) = false := beq_f hc
                    have HI2 : Hid (∀ j, ∀ h : j < LLs.length, j < i + 1 → LLs[j] ≠ c) := fun j h hj => by
                      rcases Nat.lt_or_ge j i with h2 | h2
                      · exact HI.out j h h2
                      · obtain rfl : j = i := by omega
                        exact hc
                    clear hc
                    go_wp2
                    go_region
                    go_wp2
                    go_roundg (gk - 1)
                    case measure => omega
                    case rel => exact ⟨i + 1, congrArg (Value.int .i64) (by omega), by omega, HI2, HR7.out.drew, HA7.out.kept fun _ _ => rfl⟩
                · have HE := Lib.hid (HNO.out (Bool.eq_false_iff.2 fun h => by
                    obtain ⟨j, h1, h2⟩ := (LLs_has c).2 h
                    have : LLs.length = 14 := rfl
                    exact HI.out j h1 (by omega) h2))
                  go_wp2
                  refine bodyPost_ret (v := .tuple #[.agg #[.bool l2, .bool b2, .bool b3, .bool b4, .int .i64 wd, .int .i64 pr, .int .u8 c.toNat], .int .i64 0, .slice none 0 0, .bool false]) (by simp [results, Tryz.results29, go_sem, s0, s1, s2, s3, s4, s5, s6]) rfl ?_
                  have he := readEnd_no (N := N) HE.out HR7.out
                  unfold Go.Proofs.YtdencljnbilchaaGreatDoor.seven at he
                  exact he
            · have HE : Hid (readT s.data.toList k A = none) := readR_end HW2.out HPP.out (.inl (List.getElem?_eq_none (by simp; omega)))
              have hge : (s.size : Int) ≤ (k3 : Int) := by omega
              go_wp2
              refine bodyPost_ret (v := .tuple #[.agg #[.bool l2, .bool b2, .bool b3, .bool b4, .int .i64 wd, .int .i64 pr, .int .u8 0], .int .i64 0, .slice none 0 0, .bool false]) (by simp [results, Tryz.results29, go_sem, s0, s1, s2, s3, s4, s5, s6]) rfl ?_
              exact readEnd_no HE.out HR5.out

end Go.Proofs.YtdencljnbilchaaGreatDoor
