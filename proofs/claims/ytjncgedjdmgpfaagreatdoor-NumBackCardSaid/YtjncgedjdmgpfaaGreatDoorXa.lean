/- Walks: stringslite.Clone, strconv.rangeError, toError at ErrRange, strconv.ParseFloat over whatever the inner one gives. atof64 where the number is a zero, too great, or too small. What the walks ask of the library's variables, the error among them. -/
import Derived.Test.YtjncgedjdmgpfaaGreatDoorWn
import Derived.Test.YtjncgedjdmgpfaaGreatDoorWm
import Derived.WideLaws
import Derived.Lib.BufferWrite
import Derived.Lib.UnsafeStr
import Derived.Lib.IfaceEq
import Derived.Lib.AtoiErrMem
import Derived.Laws.MakeOwn
import Derived.Deep.RegionWith
import Derived.RegionTactic
import Derived.BigCall

namespace Go.Proofs.YtjncgedjdmgpfaaGreatDoor
open Go.RowKit

set_option maxHeartbeats 4000000 in
set_option maxRecDepth 100000 in
theorem clone_any (s : ByteArray) (w : World) (hlim : s.size ≤ 281474976710656) :
    Calls Tryz.prog 62 #[.string s] w fun e w' => e = .returned (.string s) ∧ Below w.heap.size w w' := by
  by_cases h0 : s.size = 0
  · have hs : s = ⟨#[]⟩ := by
      apply ByteArray.ext
      exact Array.eq_empty_of_size_eq_zero h0
    subst hs
    go_enter Tryz.func62, Tryz.ntmps62
    go_wp2
    go_ret
    exact ⟨rfl, Below.refl _ _⟩
  · obtain ⟨i0, hi, hz0, hz1, hz2⟩ := info_parts Tryz.info_u8
    have hinfo : (Tryz.prog.info? 5).map (·.size) = some 1 := by rw [hi]; simp [hz1]
    have hco : Tryz.prog.cellsOf 5 = 1 := by simp [Program.cellsOf, hi, hz1]
    obtain ⟨M, hM⟩ : ∃ M, M = madeCells (Value.int .u8 0).cells (((s.size : Nat) : Int).toNat * i0.size) := ⟨_, rfl⟩
    have hMs : M.size = s.size := by rw [hM, size_madeCells, hz1]; simp
    have hmk : ∀ W : World, (Instr.makeSlice 22 (.int .i64 (s.size : Int)) (.int .i64 (s.size : Int))).run Tryz.prog W = .ok (.slice (some ⟨W.heap.size, 0, none⟩) s.size s.size) (W.alloc (.cells M 5)) := fun W => by
      have h := run_make (P := Tryz.prog) W 22 5 i0 (.int .u8 0) Tryz.underlying22 hi hz0 .i64 .i64 (s.size : Int) (s.size : Int) (by omega) (by omega) (by rw [hz2]; omega) (by omega)
      rw [← hM] at h
      simpa using h
    clear hM
    have hcp := Lib.run_copy_row_string (P := Tryz.prog) (w.alloc (.cells M 5)) 22 9 3 5 w.heap.size 0 s.size s.size s M 5 Tryz.underlying22 hinfo (heap_alloc_new w _) (Nat.le_refl _) (by omega)
    obtain ⟨Y, hY⟩ : ∃ Y, Y = (M.toList.take 0 ++ Lib.byteCells s.data.toList ++ M.toList.drop (0 + s.size)).toArray := ⟨_, rfl⟩
    rw [← hY] at hcp
    have hYl : Y.toList = Lib.byteCells s.data.toList := by
      rw [hY, List.toList_toArray, List.take_zero, List.nil_append, List.drop_of_length_le (by rw [Array.length_toList]; omega), List.append_nil]
    have hYs : Y.size = s.size := by rw [← Array.length_toList, hYl, Lib.byteCells_length, ← Lib.size_eq]
    have hgY : ((w.alloc (.cells M 5)).setRow w.heap.size Y).heap[w.heap.size]? = some (.cells Y 5 (0, 0)) := setRow_heap _ _ M _ 5 (0, 0) (heap_alloc_new w _)
    have hne : s.data.toList ≠ [] := fun e => h0 (by rw [Lib.size_eq, e]; rfl)
    have hUS := Lib.run_unsafeString_row (P := Tryz.prog) ((w.alloc (.cells M 5)).setRow w.heap.size Y) 115 3 9 5 Tryz.underlying115 hco w.heap.size Y.size (by unfold World.shape?; rw [hgY]) s.data.toList hne (by rw [← Lib.size_eq]; omega) (by rw [← Lib.size_eq]; omega)
      (fun j x hx => Lib.cells_of_row hgY Y.size j _ (by rw [List.take_of_length_le (by rw [Array.length_toList]; exact Nat.le_refl _), hYl]; simp [Lib.byteCells, hx]))
    rw [← Lib.size_eq] at hUS
    clear hY
    go_enter Tryz.func62, Tryz.ntmps62
    go_wp2
    go_ret
    have hb1 : Below w.heap.size w (w.alloc (.cells M 5)) := (Below.refl _ w).alloc (Nat.le_refl _) _
    have hb2 : Below w.heap.size (w.alloc (.cells M 5)) ((w.alloc (.cells M 5)).setRow w.heap.size Y) := ⟨rfl, rfl, rfl, by simp, fun k hk => setRow_other _ _ _ _ (by omega)⟩
    exact ⟨rfl, Lib.below_freeze (hb1.trans hb2) (p := ⟨w.heap.size, 0, none⟩) (Nat.le_refl _) _⟩

set_option maxHeartbeats 6400000 in
set_option maxRecDepth 100000 in
theorem rangeError_any (fn s : ByteArray) (te : TypeId) (pe : Value) (w : World) (hlim : s.size ≤ 281474976710656) (hv : w.cell? ⟨2, 0, none⟩ = some (.iface te pe)) :
    Calls Tryz.prog 51 #[.string fn, .string s] w fun e w' => ∃ N, e = .returned (.pointer (some ⟨N, 0, none⟩)) ∧ Below w.heap.size w w' := by
  have hG : 2 < w.heap.size := Lib.lt_of_cell hv
  have hvd : w.drew.cell? ⟨2, 0, none⟩ = some _ := hv
  go_enter Tryz.func51, Tryz.ntmps51
  go_wp2
  go_region_with (
      go_at_call 62
      refine (clone_any s _ hlim).mono ?_
      rintro e w2 ⟨rfl, hbel⟩
      have hv2 : w2.cell? ⟨2, 0, none⟩ = some _ := (hbel.cell (show (⟨2, 0, none⟩ : Addr).block < w.drew.heap.size from hG)).trans hvd)
  all_goals (
    go_wp2
    go_ret
    have hs2 : w.heap.size ≤ w2.heap.size := hbel.size
    exact ⟨_, rfl, ((Below.drew (Below.refl _ w)).trans hbel).alloc hs2 _⟩)

def rangeV : Value := .iface 59 (.int .i64 1)
def okErr (v : Value) : Prop := v = .nilIface ∨ v = rangeV

set_option maxHeartbeats 4000000 in
set_option maxRecDepth 100000 in
theorem toError_range (fn s : ByteArray) (base bits : Int) (te : TypeId) (pe : Value) (w : World) (hlim : s.size ≤ 281474976710656) (hv : w.cell? ⟨2, 0, none⟩ = some (.iface te pe)) :
    Calls Tryz.prog 41 #[.string fn, .string s, .int .i64 base, .int .i64 bits, .iface 59 (.int .i64 1)] w fun e w' => ∃ v, e = .returned v ∧ Below w.heap.size w w' := by
  have c34 : (Tryz.prog.info? 59).map (·.comparable) = some true := by kernel_rfl
  have hq12 : ∀ W, (binOp .eql 45 (.iface 59 (.int .i64 1)) (.iface 59 (.int .i64 2))).run Tryz.prog W = .ok (.bool false) W := fun W => Lib.run_eql_iface_int W 1 2 Tryz.underlying45 c34 Tryz.underlying59
  have hq11 : ∀ W, (binOp .eql 45 (.iface 59 (.int .i64 1)) (.iface 59 (.int .i64 1))).run Tryz.prog W = .ok (.bool true) W := fun W => Lib.run_eql_iface_int W 1 1 Tryz.underlying45 c34 Tryz.underlying59
  go_enter Tryz.func41, Tryz.ntmps41
  go_wp2_with (go_at_call 51; refine (rangeError_any fn s te pe _ hlim hv).mono ?_; rintro e w2 ⟨N, rfl, h3⟩)
  go_ret
  exact ⟨_, rfl, h3⟩

set_option maxRecDepth 100000 in
set_option maxHeartbeats 1600000 in
theorem parse_of (s : ByteArray) (w : World) (x : Nat) (te : TypeId) (pe : Value) (hlim : s.size ≤ 281474976710656) (hv : w.cell? ⟨2, 0, none⟩ = some (.iface te pe))
    (hA : Calls Tryz.prog 40 #[.string s, .int .i64 64] w fun e w' => ∃ v, okErr v ∧ e = .returned (.tuple #[.float .f64 x, v]) ∧ Below w.heap.size w w') :
    Calls Tryz.prog 25 #[.string s, .int .i64 64] w fun e w' => ∃ v, e = .returned (.tuple #[.float .f64 x, v]) ∧ Below w.heap.size w w' := by
  have HA := Lib.hid hA
  have HT := Lib.hid (fun (W : World) (hb : Below w.heap.size w W) => toError_range ⟨#[80, 97, 114, 115, 101, 70, 108, 111, 97, 116]⟩ s 0 64 te pe W hlim ((hb.cell (Lib.lt_of_cell hv)).trans hv))
  have n1 : ∀ (W : World), (binOp .neq 45 (.iface 59 (.int .i64 1)) .nilIface).run Tryz.prog W = .ok (.bool true) W := fun W => run_neq_held_nil W 45 _ _ (by kernel_rfl)
  have n2 : ∀ (W : World), (binOp .neq 45 .nilIface .nilIface).run Tryz.prog W = .ok (.bool false) W := fun W => run_neq_nil_nil W 45 (by kernel_rfl)
  clear hA
  go_enter Tryz.func25, Tryz.ntmps25
  go_wp2_with (first | (go_at_call 40; refine HA.out.mono ?_; rintro e w1 ⟨v, hv1, rfl, hb1⟩; unfold okErr rangeV at hv1; rcases hv1 with rfl | rfl) | (go_at_call 41; refine (HT.out _ hb1).mono ?_; rintro e w2 ⟨v, rfl, hb2⟩))
  · go_ret2
    exact ⟨_, rfl, hb1⟩
  · go_ret2
    exact ⟨_, rfl, hb1.trans (hb2.mono hb1.size)⟩

theorem iparse_gen (s : ByteArray) (w : World) (x : Nat) (hA : Calls Tryz.prog 61 #[.string s] w fun e w' => ∃ v, okErr v ∧ e = .returned (.tuple #[.float .f64 x, .int .i64 s.size, v]) ∧ Below w.heap.size w w') :
    Calls Tryz.prog 40 #[.string s, .int .i64 64] w fun e w' => ∃ v, okErr v ∧ e = .returned (.tuple #[.float .f64 x, v]) ∧ Below w.heap.size w w' := by
  have hB : Calls Tryz.prog 49 #[.string s, .int .i64 64] w fun e w' => ∃ v, okErr v ∧ e = .returned (.tuple #[.float .f64 x, .int .i64 s.size, v]) ∧ Below w.heap.size w w' :=
    prefix_of s w _ (hA.mono fun e w' ⟨v, h1, h2, h3⟩ => ⟨x, s.size, v, h2, v, h1, h2, h3⟩)
  have HB := Lib.hid hB; clear hA hB
  go_enter Tryz.func40, Tryz.ntmps40
  go_wp2_with (go_at_call 49; refine HB.out.mono ?_; rintro e w' ⟨v, hv, rfl, hb⟩)
  go_ret2
  exact ⟨_, hv, rfl, hb⟩

end Go.Proofs.YtjncgedjdmgpfaaGreatDoor

namespace Go.Proofs.YtjncgedjdmgpfaaGreatDoor
open Go.RowKit

def sgnBits (neg : Bool) : Nat := if neg = true then 9223372036854775808 else 0
def infBits (neg : Bool) : Nat := if neg = true then 18442240474082181120 else 9218868437227405312

theorem ext_ifb (n : Int) (w : World) : (callFunc 94 #[.int .u64 n]).run Tryz.prog w = .ok (.value (.float .f64 n.toNat)) w := by kernel_rfl

set_option maxRecDepth 100000 in
set_option maxHeartbeats 1600000 in
theorem atof64_big (s : ByteArray) (w : World) (hs : s.size ≤ 140737488351232) (hN : ∀ c ∈ s.data.toList, c ∈ numChL) (hL : LaidF w) (m : Nat) (p : Int) (ng tr : Bool) (n : Nat)
    (hr : rf s.data.toList = ⟨m, p, ng, tr, n, true⟩) (hm0 : m ≠ 0) (hp1 : 310 < p) :
    Calls Tryz.prog 61 #[.string s] w fun e w' => e = .returned (.tuple #[.float .f64 (infBits ng), .int .i64 n, rangeV]) ∧ w = w' := by
  have HS := Lib.hid (fun W => special_num s W (by unfold maxLen; omega) (fun k h => hN _ (List.getElem_mem (l := s.data.toList) (by simpa using h))))
  have hR : ∀ W, Calls Tryz.prog 85 #[.string s] W fun e w' => e = .returned (.tuple #[.int .u64 m, .int .i64 p, .bool ng, .bool tr, .bool false, .int .i64 n, .bool true]) ∧ W = w' := fun W => by
    have := readFloat_any s W hs hN
    rw [hr] at this
    exact this
  have HR := Lib.hid hR
  have h1 := hL.opt
  have bm : ((m : Int) == 0) = false := beq_eq_false_iff_ne.2 (by omega)
  have HF := ext_ifb
  clear hR hL hN hr hm0 hs
  cases ng
  all_goals
   go_enter Tryz.func61, Tryz.ntmps61
   go_wp2_with (first | (go_at_call 84; refine (HS.out _).mono ?_; rintro e w' ⟨rfl, rfl⟩) | (go_at_call 85; refine (HR.out _).mono ?_; rintro e w' ⟨rfl, rfl⟩) | (go_at_call 93; refine (bool2_any _ _).mono ?_; rintro e w' ⟨rfl, rfl⟩))
   go_ret3
   exact ⟨rfl, rfl⟩

set_option maxRecDepth 100000 in
set_option maxHeartbeats 1600000 in
theorem atof64_small (s : ByteArray) (w : World) (hs : s.size ≤ 140737488351232) (hN : ∀ c ∈ s.data.toList, c ∈ numChL) (hL : LaidF w) (m : Nat) (p : Int) (ng tr : Bool) (n : Nat)
    (hr : rf s.data.toList = ⟨m, p, ng, tr, n, true⟩) (hm0 : m ≠ 0) (hp1 : p < -345) :
    Calls Tryz.prog 61 #[.string s] w fun e w' => e = .returned (.tuple #[.float .f64 (sgnBits ng), .int .i64 n, .nilIface]) ∧ w = w' := by
  have HS := Lib.hid (fun W => special_num s W (by unfold maxLen; omega) (fun k h => hN _ (List.getElem_mem (l := s.data.toList) (by simpa using h))))
  have hR : ∀ W, Calls Tryz.prog 85 #[.string s] W fun e w' => e = .returned (.tuple #[.int .u64 m, .int .i64 p, .bool ng, .bool tr, .bool false, .int .i64 n, .bool true]) ∧ W = w' := fun W => by
    have := readFloat_any s W hs hN
    rw [hr] at this
    exact this
  have HR := Lib.hid hR
  have h1 := hL.opt
  have bm : ((m : Int) == 0) = false := beq_eq_false_iff_ne.2 (by omega)
  have HF := ext_ifb
  clear hR hL hN hr hm0 hs
  cases ng
  all_goals
   go_enter Tryz.func61, Tryz.ntmps61
   go_wp2_with (first | (go_at_call 84; refine (HS.out _).mono ?_; rintro e w' ⟨rfl, rfl⟩) | (go_at_call 85; refine (HR.out _).mono ?_; rintro e w' ⟨rfl, rfl⟩) | (go_at_call 93; refine (bool2_any _ _).mono ?_; rintro e w' ⟨rfl, rfl⟩))
   go_ret3
   exact ⟨rfl, rfl⟩

set_option maxRecDepth 100000 in
set_option maxHeartbeats 1600000 in
theorem atof64_zero (s : ByteArray) (w : World) (hs : s.size ≤ 140737488351232) (hN : ∀ c ∈ s.data.toList, c ∈ numChL) (hL : LaidF w) (p : Int) (ng tr : Bool) (n : Nat)
    (hr : rf s.data.toList = ⟨0, p, ng, tr, n, true⟩) :
    Calls Tryz.prog 61 #[.string s] w fun e w' => e = .returned (.tuple #[.float .f64 (sgnBits ng), .int .i64 n, .nilIface]) ∧ w = w' := by
  have HS := Lib.hid (fun W => special_num s W (by unfold maxLen; omega) (fun k h => hN _ (List.getElem_mem (l := s.data.toList) (by simpa using h))))
  have hR : ∀ W, Calls Tryz.prog 85 #[.string s] W fun e w' => e = .returned (.tuple #[.int .u64 (0 : Nat), .int .i64 p, .bool ng, .bool tr, .bool false, .int .i64 n, .bool true]) ∧ W = w' := fun W => by
    have := readFloat_any s W hs hN
    rw [hr] at this
    exact this
  have HR := Lib.hid hR
  have h1 := hL.opt
  have HF := ext_ifb
  clear hR hL hN hr hs
  cases ng
  all_goals
   go_enter Tryz.func61, Tryz.ntmps61
   go_wp2_with (first | (go_at_call 84; refine (HS.out _).mono ?_; rintro e w' ⟨rfl, rfl⟩) | (go_at_call 85; refine (HR.out _).mono ?_; rintro e w' ⟨rfl, rfl⟩) | (go_at_call 93; refine (bool2_any _ _).mono ?_; rintro e w' ⟨rfl, rfl⟩))
   go_ret3
   exact ⟨rfl, rfl⟩

end Go.Proofs.YtjncgedjdmgpfaaGreatDoor

namespace Go.Proofs.YtjncgedjdmgpfaaGreatDoor
open Go.RowKit

structure LaidE (w : World) : Prop where
  lf : LaidF w
  er : ∃ te pe, w.cell? ⟨2, 0, none⟩ = some (.iface te pe)

theorem LaidE.below {w w' : World} (h : LaidE w) (hb : Below w.heap.size w w') : LaidE w' := by
  obtain ⟨h1, te, pe, h2⟩ := h
  exact ⟨h1.below hb, te, pe, by rw [hb.cell (World.block_lt_of_cell? w _ h2)]; exact h2⟩

theorem rf_1e999 : rf [49, 101, 57, 57, 57] = ⟨1, 999, false, false, 5, true⟩ := by rfl

theorem parse_1e999 (w : World) (s : ByteArray) (hs : s.data.toList = [49, 101, 57, 57, 57]) (hL : LaidE w) :
    Calls Tryz.prog 25 #[.string s, .int .i64 64] w fun e w' => ∃ v, e = .returned (.tuple #[.float .f64 9218868437227405312, v]) ∧ Below w.heap.size w w' := by
  have hsz : s.size = 5 := by
    have : s.data.toList.length = s.size := rfl
    rw [hs] at this; exact this.symm
  obtain ⟨h1, te, pe, h2⟩ := hL
  refine parse_of s w _ te pe (by omega) h2 (iparse_gen s w _ ?_)
  rw [hsz]
  exact (atof64_big s w (by omega) (by rw [hs]; decide) h1 1 999 false false 5 (by rw [hs]; exact rf_1e999) (by omega) (by omega)).mono fun e w' ⟨he, hw⟩ => ⟨_, .inr rfl, he, hw ▸ Below.refl _ _⟩

end Go.Proofs.YtjncgedjdmgpfaaGreatDoor
