/- atof64, whatever the numeral. -/
import Derived.Test.YtjncgedjdmgpfaaGreatDoorXs
import Derived.Test.YtjncgedjdmgpfaaGreatDoorXr
import Derived.Test.YtjncgedjdmgpfaaGreatDoorXh
import Derived.Test.YtjncgedjdmgpfaaGreatDoorWj
import Derived.Test.YtjncgedjdmgpfaaGreatDoorPx

namespace Go.Proofs.YtjncgedjdmgpfaaGreatDoor
open Go.RowKit

def syntaxV : Value := .iface 59 (.int .i64 2)
def anErr (v : Value) : Prop := v = .nilIface ∨ v = rangeV ∨ v = syntaxV

def atP (s : ByteArray) (n x : Nat) (v : Value) : Prop := x < 18446744073709551616 ∧ anErr v ∧
  ∀ w, LaidG w → Calls Tryz.prog 61 #[.string s] w fun e w' => e = .returned (.tuple #[.float .f64 x, .int .i64 n, v]) ∧ Below w.heap.size w w'

theorem okAny {v : Value} (h : okErr v) : anErr v := h.elim .inl (fun h => .inr (.inl h))

theorem readFloat_rf (s : ByteArray) (W : World) (hs : s.size ≤ 140737488351232) (hN : ∀ c ∈ s.data.toList, c ∈ numChL) (m : Nat) (p : Int) (ng tr : Bool) (n : Nat) (ok : Bool)
    (hr : rf s.data.toList = ⟨m, p, ng, tr, n, ok⟩) : Calls Tryz.prog 85 #[.string s] W fun e w' => e = .returned (.tuple #[.int .u64 m, .int .i64 p, .bool ng, .bool tr, .bool false, .int .i64 n, .bool ok]) ∧ W = w' := by
  have := readFloat_any s W hs hN
  rw [hr] at this
  exact this

theorem special_rf (s : ByteArray) (W : World) (hs : s.size ≤ 140737488351232) (hN : ∀ c ∈ s.data.toList, c ∈ numChL) : Calls Tryz.prog 84 #[.string s] W fun e w' => e = .returned (.tuple #[.float .f64 0, .int .i64 0, .bool false]) ∧ W = w' := special_num s W (by unfold maxLen; omega) (fun k h => hN _ (List.getElem_mem (l := s.data.toList) (by simpa using h)))

set_option maxRecDepth 100000 in
set_option maxHeartbeats 1600000 in
theorem atof64_no (s : ByteArray) (hs : s.size ≤ 140737488351232) (hN : ∀ c ∈ s.data.toList, c ∈ numChL) (m : Nat) (p : Int) (ng tr : Bool) (n : Nat)
    (hr : rf s.data.toList = ⟨m, p, ng, tr, n, false⟩) : atP s n 0 syntaxV := by
  refine ⟨by omega, .inr (.inr rfl), fun w hL => ?_⟩
  have HS := Lib.hid (fun W => special_rf s W hs hN)
  have HR := Lib.hid (fun W => readFloat_rf s W hs hN m p ng tr n false hr)
  clear hN hr hs
  go_enter Tryz.func61, Tryz.ntmps61
  go_wp2_with (first | (go_at_call 84; refine (HS.out _).mono ?_; rintro e w' ⟨rfl, rfl⟩) | (go_at_call 85; refine (HR.out _).mono ?_; rintro e w' ⟨rfl, rfl⟩))
  go_ret3
  exact ⟨rfl, Below.refl _ _⟩

def sgN (ng : Bool) : Nat := if ng = true then 9223372036854775808 else 0

set_option maxRecDepth 100000 in
set_option maxHeartbeats 3200000 in
theorem atof64_fast (s : ByteArray) (hs : s.size ≤ 140737488351232) (hN : ∀ c ∈ s.data.toList, c ∈ numChL) (m : Nat) (p : Int) (ng : Bool) (n : Nat)
    (hr : rf s.data.toList = ⟨m, p, ng, false, n, true⟩) (hm0 : m ≠ 0) (hm : m < 18446744073709551616) (hp1 : -345 ≤ p) (hp2 : p ≤ 310) : ∃ x v, atP s n x v := by
  have HS := Lib.hid (fun W => special_rf s W hs hN)
  have HR := Lib.hid (fun W => readFloat_rf s W hs hN m p ng false n true hr)
  have bm : ((m : Int) == 0) = false := beq_eq_false_iff_ne.2 (by omega)
  obtain ⟨x, b, hx, _, he⟩ := exact_gen m p ng (by omega) (by omega)
  have HE := Lib.hid he
  cases b with
  | true =>
    refine ⟨x, .nilIface, hx, .inl rfl, fun w hL => ?_⟩
    have h1 := hL.lt.le.lf.opt
    have HL := Lib.hid hL.lt.le.lf
    clear he hN hr hm0 hs hL hm hx
    cases ng
    all_goals
     go_enter Tryz.func61, Tryz.ntmps61
     go_wp2_with (first | (go_at_call 84; refine (HS.out _).mono ?_; rintro e w' ⟨rfl, rfl⟩) | (go_at_call 85; refine (HR.out _).mono ?_; rintro e w' ⟨rfl, rfl⟩) | (go_at_call 93; refine (bool2_any _ _).mono ?_; rintro e w' ⟨rfl, rfl⟩) | (go_at_call 95; refine (HE.out _ HL.out).mono ?_; rintro e w' ⟨rfl, rfl⟩))
     go_ret3
     exact ⟨rfl, Below.refl _ _⟩
  | false =>
    obtain ⟨x', v, hx', hv, hp⟩ := parse64_any m p (sgN ng) hm0 hm hp1 hp2 (by unfold sgN; split <;> omega)
    have HP := Lib.hid hp
    refine ⟨x', v, hx', okAny hv, fun w hL => ?_⟩
    have h1 := hL.lt.le.lf.opt
    have HT := Lib.hid hL.lt
    have HL := Lib.hid hL.lt.le.lf
    clear he hN hr hm0 hs hL hm hx hx' hp hv
    cases ng
    all_goals
     go_enter Tryz.func61, Tryz.ntmps61
     go_wp2_with (first | (go_at_call 84; refine (HS.out _).mono ?_; rintro e w' ⟨rfl, rfl⟩) | (go_at_call 85; refine (HR.out _).mono ?_; rintro e w' ⟨rfl, rfl⟩) | (go_at_call 93; refine (bool2_any _ _).mono ?_; rintro e w' ⟨rfl, rfl⟩) | (go_at_call 95; refine (HE.out _ HL.out).mono ?_; rintro e w' ⟨rfl, rfl⟩) | (go_at_call 96; refine (HP.out _ HT.out).mono ?_; rintro e w' ⟨rfl, hb⟩))
     go_ret3
     exact ⟨rfl, hb⟩


theorem decF_zero (w : World) (T : TypeId) (Z : Array Value) (hz : ∀ i, i < 800 → Z[i]? = some (.int .u8 0)) (h0 : Z[800]? = some (.int .i64 0)) (h1 : Z[801]? = some (.int .i64 0)) (h2 : Z[802]? = some (.bool false)) (h3 : Z[803]? = some (.bool false)) :
    DecF (w.alloc (.cells Z T)) w.heap.size (fun _ => 0) 0 0 false false where
  d := fun i hi => by rw [cell_of_row _ _ _ _ _ _ (heap_alloc_new w _), hz i hi]; rfl
  nd := by rw [cell_of_row _ _ _ _ _ _ (heap_alloc_new w _), h0]
  dp := by rw [cell_of_row _ _ _ _ _ _ (heap_alloc_new w _), h1]
  ng := by rw [cell_of_row _ _ _ _ _ _ (heap_alloc_new w _), h2]
  tr := by rw [cell_of_row _ _ _ _ _ _ (heap_alloc_new w _), h3]
  fz := fun i => World.frozen?_alloc_at _ _ _ _ rfl

set_option maxRecDepth 100000 in
theorem decF_z (w : World) : DecF (w.alloc (.cells Tryz.zeroCells92 92)) w.heap.size (fun _ => 0) 0 0 false false := by
  have h : Tryz.zeroCells92.toList.take 800 = List.replicate 800 (.int .u8 0) := by kernel_rfl
  refine decF_zero w _ _ (fun i hi => ?_) (by kernel_rfl) (by kernel_rfl) (by kernel_rfl) (by kernel_rfl)
  have h1 : (Tryz.zeroCells92.toList.take 800)[i]? = some (.int .u8 0) := by rw [h, List.getElem?_replicate, if_pos hi]
  rw [List.getElem?_take, if_pos hi] at h1
  simpa using h1

set_option maxRecDepth 100000 in
set_option maxHeartbeats 3200000 in
theorem atof64_slow (s : ByteArray) (hs : s.size ≤ 140737488351232) (hN : ∀ c ∈ s.data.toList, c ∈ numChL) (m : Nat) (p : Int) (ng : Bool) (n : Nat) (hn : n ≤ s.size)
    (hr : rf s.data.toList = ⟨m, p, ng, true, n, true⟩) (hm0 : m ≠ 0) (hm : m < 10000000000000000000) (hp1 : -345 ≤ p) (hp2 : p ≤ 310) : ∃ x v, atP s n x v := by
  have HS := Lib.hid (fun W => special_rf s W hs hN)
  have HR := Lib.hid (fun W => readFloat_rf s W hs hN m p ng true n true hr)
  have bm : ((m : Int) == 0) = false := beq_eq_false_iff_ne.2 (by omega)
  obtain ⟨x, v, hx, hv, hp⟩ := parse64_any m p (sgN ng) hm0 (by omega) hp1 hp2 (by unfold sgN; split <;> omega)
  obtain ⟨M1, eM1⟩ : ∃ M1 : Nat, M1 = m + 1 := ⟨_, rfl⟩
  obtain ⟨x1, v1, _, _, hp'⟩ := parse64_any M1 p (sgN ng) (by omega) (by omega) hp1 hp2 (by unfold sgN; split <;> omega)
  have eM2 : IntKind.u64.wrap ((m : Int) + 1) = (M1 : Int) := by rw [IntKind.wrap_u64]; omega
  obtain ⟨sg, esg⟩ : ∃ sg : Int, ((sgN ng : Nat) : Int) = sg := ⟨_, rfl⟩
  rw [esg] at hp hp'
  have HP := Lib.hid hp
  have HP' := Lib.hid hp'
  clear eM1
  cases hq : (FloatKind.f64.format.order x x1 == some .eq) with
  | true =>
    refine ⟨x, v, hx, okAny hv, fun w hL => ?_⟩
    have h1 := hL.lt.le.lf.opt
    have HT := Lib.hid hL.lt
    clear hN hr hm0 hs hL hm hx hp hv hp'
    have hcs : (ng = false ∧ 0 = sg) ∨ (ng = true ∧ 9223372036854775808 = sg) := by
       cases ng
       · exact .inl ⟨rfl, esg⟩
       · exact .inr ⟨rfl, esg⟩
    clear esg
    rcases hcs with ⟨rfl, rfl⟩ | ⟨rfl, rfl⟩
    all_goals
     go_enter Tryz.func61, Tryz.ntmps61
     go_wp2_with (first | (go_at_call 84; refine (HS.out _).mono ?_; rintro e w' ⟨rfl, rfl⟩) | (go_at_call 85; refine (HR.out _).mono ?_; rintro e w' ⟨rfl, rfl⟩) | (go_at_call 93; refine (bool2_any _ _).mono ?_; rintro e w' ⟨rfl, rfl⟩) | (go_at_call 96; first | (with_reducible refine (HP.out _ HT.out).mono ?_; rintro e w' ⟨rfl, hb⟩) | (with_reducible refine (HP'.out _ (HT.out.below hb)).mono ?_; rintro e w'' ⟨rfl, hb'⟩)))
     go_ret3
     exact ⟨rfl, hb.trans (hb'.mono hb.size)⟩
  | false =>
    have hTN : (s.data.toList.take n).length ≤ 281474976710656 := by rw [List.length_take]; have : s.data.toList.length = s.size := rfl; omega
    have hEX : (s.extract 0 n).data.toList = s.data.toList.take n := by rw [Lib.extract_data]; simp
    have hD := fun (W : World) (b : Nat) (f : Nat → Nat) (h : DecF W b f 0 0 false false) => set_any (s.extract 0 n) W b f (by rw [ByteArray.size_extract]; omega) (by rw [hEX]; exact fun c hc => hN c (List.mem_of_mem_take hc)) h
    rw [hEX] at hD
    have hbd := sdR_bd (s.data.toList.take n) hTN
    have hDZ := fun W => hD _ _ _ (decF_z W)
    have HD := Lib.hid hDZ
    clear hDZ
    have HBD := Lib.hid hbd
    clear hD hbd hTN
    cases hsd : sdR (s.data.toList.take n) with
    | none =>
      rw [hsd] at HD
      refine ⟨0, syntaxV, by omega, .inr (.inr rfl), fun w hL => ?_⟩
      have h1 := hL.lt.le.lf.opt
      have HT := Lib.hid hL.lt
      clear hN hr hm0 hs hL hm hx hp hv hp' HBD hsd hEX
      have hcs : (ng = false ∧ 0 = sg) ∨ (ng = true ∧ 9223372036854775808 = sg) := by
       cases ng
       · exact .inl ⟨rfl, esg⟩
       · exact .inr ⟨rfl, esg⟩
      clear esg
      rcases hcs with ⟨rfl, rfl⟩ | ⟨rfl, rfl⟩
      all_goals
       go_enter Tryz.func61, Tryz.ntmps61
       go_wp2_with (first | (go_at_call 84; refine (HS.out _).mono ?_; rintro e w' ⟨rfl, rfl⟩) | (go_at_call 85; refine (HR.out _).mono ?_; rintro e w' ⟨rfl, rfl⟩) | (go_at_call 93; refine (bool2_any _ _).mono ?_; rintro e w' ⟨rfl, rfl⟩) | (go_at_call 96; first | (with_reducible refine (HP.out _ HT.out).mono ?_; rintro e w' ⟨rfl, hb⟩) | (with_reducible refine (HP'.out _ (HT.out.below hb)).mono ?_; rintro e w'' ⟨rfl, hb'⟩)) | (go_at_call 91; refine (HD.out _).mono ?_; rintro e w3 ⟨he, hob, _⟩; obtain rfl : e = .returned (.bool false) := he))
       go_ret3
       have hs1 := hb.size
       have hs2 := hb'.size
       exact ⟨rfl, hob.below_of ((hb.trans (hb'.mono hb.size)).alloc (by omega) _) (by omega) (by simp; omega)⟩
    | some d =>
      rw [hsd] at HD
      obtain ⟨q1, q2, q3, q4⟩ := HBD.out d hsd
      obtain ⟨ng', eng'⟩ : ∃ ng', decide ((s.data.toList.take n).head? = some 45) = ng' := ⟨_, rfl⟩
      rw [eng'] at HD
      have hz := outI_bd ng' (fbFin d).1 (fbFin d).2.1
      have HFB : Hid (∀ (W : World) (b : Nat), Under W b → DecS W b ng' d → Calls Tryz.prog 92 #[.pointer (some ⟨b, 0, none⟩), .pointer (some ⟨5, 0, none⟩)] W fun e w' => e = .returned (.tuple #[.int .u64 (outI ng' (fbFin d).1 (fbFin d).2.1), .bool (fbFin d).2.2]) ∧ OnlyB b W w') :=
        fun W b hU hDS => floatBits_any W b ng' d hU q1 q2 hDS q3 q4
      generalize outI ng' (fbFin d).1 (fbFin d).2.1 = z at hz HFB
      generalize (fbFin d).2.2 = ov at HFB
      have HF := ext_ifb
      refine ⟨z.toNat, if ov = true then rangeV else .nilIface, by omega, (match ov with | true => .inr (.inl rfl) | false => .inl rfl), fun w hL => ?_⟩
      have h1 := hL.lt.le.lf.opt
      have HT := Lib.hid hL.lt
      have HLG := Lib.hid hL
      have hcs : (ng = false ∧ 0 = sg) ∨ (ng = true ∧ 9223372036854775808 = sg) := by
        cases ng
        · exact .inl ⟨rfl, esg⟩
        · exact .inr ⟨rfl, esg⟩
      clear esg hN hr hm0 hs hL hm hx hp hv hp' HBD hsd hEX q1 q2 q3 q4 eng'
      cases ov <;> rcases hcs with ⟨rfl, rfl⟩ | ⟨rfl, rfl⟩
      all_goals
       go_enter Tryz.func61, Tryz.ntmps61
       go_wp2_with (first | (go_at_call 84; refine (HS.out _).mono ?_; rintro e w' ⟨rfl, rfl⟩) | (go_at_call 85; refine (HR.out _).mono ?_; rintro e w' ⟨rfl, rfl⟩) | (go_at_call 93; refine (bool2_any _ _).mono ?_; rintro e w' ⟨rfl, rfl⟩) | (go_at_call 96; first | (with_reducible refine (HP.out _ HT.out).mono ?_; rintro e w' ⟨rfl, hb⟩) | (with_reducible refine (HP'.out _ (HT.out.below hb)).mono ?_; rintro e w'' ⟨rfl, hb'⟩)) | (go_at_call 91; refine (HD.out _).mono ?_; rintro e w3 ⟨he, hob, hds⟩; obtain rfl : e = .returned (.bool true) := he) | (go_at_call 92; refine (HFB.out _ _ ⟨w, HLG.out, hob.below_of ((hb.trans (hb'.mono hb.size)).alloc (by have := hb.size; have := hb'.size; omega) _) (by have := hb.size; have := hb'.size; omega) (by have := hb.size; have := hb'.size; simp; omega), (by have := hb.size; have := hb'.size; omega)⟩ (hds d rfl)).mono ?_; rintro e w4 ⟨rfl, hob2⟩))
       go_ret3
       have hs1 := hb.size
       have hs2 := hb'.size
       exact ⟨rfl, (hob.trans hob2).below_of ((hb.trans (hb'.mono hb.size)).alloc (by omega) _) (by omega) (by simp; omega)⟩


theorem atof64_any (s : ByteArray) (hs : s.size ≤ 140737488351232) (hN : ∀ c ∈ s.data.toList, c ∈ numChL) : ∃ x v, atP s (rf s.data.toList).i x v := by
  obtain ⟨b1, b2⟩ := rf_bd s.data.toList
  have hb1 : (rf s.data.toList).i ≤ s.size := b1
  clear b1
  obtain ⟨R, hr⟩ : ∃ R, rf s.data.toList = R := ⟨_, rfl⟩
  rw [hr] at b2 hb1 ⊢
  obtain ⟨m, p, ng, tr, n, ok⟩ := R
  dsimp only at b2 hb1 ⊢
  cases ok with
  | false => exact ⟨0, syntaxV, atof64_no s hs hN m p ng tr n hr⟩
  | true =>
    by_cases hm0 : m = 0
    · subst hm0
      exact ⟨sgnBits ng, .nilIface, by unfold sgnBits; split <;> omega, .inl rfl, fun w hL => (atof64_zero s w hs hN hL.lt.le.lf p ng tr n hr).mono fun e w' ⟨h1, h2⟩ => ⟨h1, h2 ▸ Below.refl _ _⟩⟩
    · by_cases hp2 : 310 < p
      · exact ⟨infBits ng, rangeV, by unfold infBits; split <;> omega, .inr (.inl rfl), fun w hL => (atof64_big s w hs hN hL.lt.le.lf m p ng tr n hr hm0 hp2).mono fun e w' ⟨h1, h2⟩ => ⟨h1, h2 ▸ Below.refl _ _⟩⟩
      · by_cases hp1 : p < -345
        · exact ⟨sgnBits ng, .nilIface, by unfold sgnBits; split <;> omega, .inl rfl, fun w hL => (atof64_small s w hs hN hL.lt.le.lf m p ng tr n hr hm0 hp1).mono fun e w' ⟨h1, h2⟩ => ⟨h1, h2 ▸ Below.refl _ _⟩⟩
        · cases tr with
          | false => exact atof64_fast s hs hN m p ng n hr hm0 (by omega) (by omega) (by omega)
          | true => exact atof64_slow s hs hN m p ng n hb1 hr hm0 b2 (by omega) (by omega)

end Go.Proofs.YtjncgedjdmgpfaaGreatDoor
