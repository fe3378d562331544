/- ParseFloat, num.Prefix, whatever the text. -/
import Derived.Test.YtjncgedjdmgpfaaGreatDoorXt
import Derived.Test.YtjncgedjdmgpfaaGreatDoorXa
import Derived.Test.YtjncgedjdmgpfaaGreatDoorWn
import Derived.Test.YtjncgedjdmgpfaaGreatDoorWl

namespace Go.Proofs.YtjncgedjdmgpfaaGreatDoor
open Go.RowKit

structure LaidH (w : World) : Prop where
  lg : LaidG w
  sy : ∃ te pe, w.cell? ⟨1, 0, none⟩ = some (.iface te pe)

theorem LaidH.below {w w' : World} (h : LaidH w) (hb : Below w.heap.size w w') : LaidH w' := by
  obtain ⟨h1, te, pe, h2⟩ := h
  exact ⟨h1.below hb, te, pe, by rw [hb.cell (World.block_lt_of_cell? w _ h2)]; exact h2⟩

set_option maxHeartbeats 6400000 in
set_option maxRecDepth 100000 in
theorem syntaxError_any (fn s : ByteArray) (te : TypeId) (pe : Value) (w : World) (hlim : s.size ≤ 281474976710656) (hv : w.cell? ⟨1, 0, none⟩ = some (.iface te pe)) :
    Calls Tryz.prog 50 #[.string fn, .string s] w fun e w' => ∃ N, e = .returned (.pointer (some ⟨N, 0, none⟩)) ∧ Below w.heap.size w w' := by
  have hG : 1 < w.heap.size := Lib.lt_of_cell hv
  have hvd : w.drew.cell? ⟨1, 0, none⟩ = some _ := hv
  go_enter Tryz.func50, Tryz.ntmps50
  go_wp2
  go_region_with (
      go_at_call 62
      refine (clone_any s _ hlim).mono ?_
      rintro e w2 ⟨rfl, hbel⟩
      have hv2 : w2.cell? ⟨1, 0, none⟩ = some _ := (hbel.cell (show (⟨1, 0, none⟩ : Addr).block < w.drew.heap.size from hG)).trans hvd)
  all_goals (
    go_wp2
    go_ret
    have hs2 : w.heap.size ≤ w2.heap.size := hbel.size
    exact ⟨_, rfl, ((Below.drew (Below.refl _ w)).trans hbel).alloc hs2 _⟩)

set_option maxHeartbeats 4000000 in
set_option maxRecDepth 100000 in
theorem toError_syntax (fn s : ByteArray) (base bits : Int) (te : TypeId) (pe : Value) (w : World) (hlim : s.size ≤ 281474976710656) (hv : w.cell? ⟨1, 0, none⟩ = some (.iface te pe)) :
    Calls Tryz.prog 41 #[.string fn, .string s, .int .i64 base, .int .i64 bits, .iface 59 (.int .i64 2)] w fun e w' => ∃ v, e = .returned v ∧ Below w.heap.size w w' := by
  have c34 : (Tryz.prog.info? 59).map (·.comparable) = some true := by kernel_rfl
  have hq22 : ∀ W, (binOp .eql 45 (.iface 59 (.int .i64 2)) (.iface 59 (.int .i64 2))).run Tryz.prog W = .ok (.bool true) W := fun W => Lib.run_eql_iface_int W 2 2 Tryz.underlying45 c34 Tryz.underlying59
  go_enter Tryz.func41, Tryz.ntmps41
  go_wp2_with (go_at_call 50; refine (syntaxError_any fn s te pe _ hlim hv).mono ?_; rintro e w2 ⟨N, rfl, h3⟩)
  go_ret
  exact ⟨_, rfl, h3⟩

theorem iparse_all (s : ByteArray) (n x : Nat) (v : Value) (hA : atP s n x v) : ∃ x' v', x' < 18446744073709551616 ∧ anErr v' ∧
    ∀ w, LaidG w → Calls Tryz.prog 40 #[.string s, .int .i64 64] w fun e w' => e = .returned (.tuple #[.float .f64 x', v']) ∧ Below w.heap.size w w' := by
  obtain ⟨hx, hv, hA⟩ := hA
  have hB : ∀ w, LaidG w → Calls Tryz.prog 49 #[.string s, .int .i64 64] w fun e w' => e = .returned (.tuple #[.float .f64 x, .int .i64 n, v]) ∧ Below w.heap.size w w' := fun w hL =>
    prefix_of s w _ ((hA w hL).mono fun e w' ⟨h1, h2⟩ => ⟨x, n, v, h1, h1, h2⟩)
  have HB := Lib.hid hB
  clear hB hA
  by_cases hn : n = s.size
  · refine ⟨x, v, hx, hv, fun w hL => ?_⟩
    have HL := Lib.hid hL
    have b0 : ((n : Int) != s.size) = false := by rw [hn]; simp
    clear hL hn hx
    go_enter Tryz.func40, Tryz.ntmps40
    go_wp2_with (go_at_call 49; refine (HB.out _ HL.out).mono ?_; rintro e w' ⟨rfl, hb⟩)
    go_ret2
    exact ⟨rfl, hb⟩
  · refine ⟨0, syntaxV, by omega, .inr (.inr rfl), fun w hL => ?_⟩
    have HL := Lib.hid hL
    have b0 : ((n : Int) != s.size) = true := by rw [bne_iff_ne]; omega
    clear hL hn hx
    go_enter Tryz.func40, Tryz.ntmps40
    go_wp2_with (go_at_call 49; refine (HB.out _ HL.out).mono ?_; rintro e w' ⟨rfl, hb⟩)
    go_ret2
    exact ⟨rfl, hb⟩

set_option maxRecDepth 100000 in
set_option maxHeartbeats 1600000 in
/-- ParseFloat at any text of a numeral's bytes: some number. -/
theorem parse_any (s : ByteArray) (hs : s.size ≤ 140737488351232) (hN : ∀ c ∈ s.data.toList, c ∈ numChL) : ∃ x, x < 18446744073709551616 ∧
    ∀ w, LaidH w → Calls Tryz.prog 25 #[.string s, .int .i64 64] w fun e w' => ∃ v, e = .returned (.tuple #[.float .f64 x, v]) ∧ Below w.heap.size w w' := by
  obtain ⟨x0, v0, hA⟩ := atof64_any s hs hN
  obtain ⟨x, v, hx, hv, hP⟩ := iparse_all s _ x0 v0 hA
  refine ⟨x, hx, fun w hL => ?_⟩
  obtain ⟨ter, per, hvr⟩ := hL.lg.lt.le.er
  obtain ⟨tes, pes, hvs⟩ := hL.sy
  have HA := Lib.hid (hP w hL.lg)
  have HT := Lib.hid (fun (W : World) (hb : Below w.heap.size w W) => toError_range ⟨#[80, 97, 114, 115, 101, 70, 108, 111, 97, 116]⟩ s 0 64 ter per W (by omega) ((hb.cell (Lib.lt_of_cell hvr)).trans hvr))
  have HT2 := Lib.hid (fun (W : World) (hb : Below w.heap.size w W) => toError_syntax ⟨#[80, 97, 114, 115, 101, 70, 108, 111, 97, 116]⟩ s 0 64 tes pes W (by omega) ((hb.cell (Lib.lt_of_cell hvs)).trans hvs))
  have n1 : ∀ (W : World), (binOp .neq 45 (.iface 59 (.int .i64 1)) .nilIface).run Tryz.prog W = .ok (.bool true) W := fun W => run_neq_held_nil W 45 _ _ (by kernel_rfl)
  have n2 : ∀ (W : World), (binOp .neq 45 .nilIface .nilIface).run Tryz.prog W = .ok (.bool false) W := fun W => run_neq_nil_nil W 45 (by kernel_rfl)
  have n3 : ∀ (W : World), (binOp .neq 45 (.iface 59 (.int .i64 2)) .nilIface).run Tryz.prog W = .ok (.bool true) W := fun W => run_neq_held_nil W 45 _ _ (by kernel_rfl)
  clear hA hP hL hvr hvs hN hs hx
  unfold anErr rangeV syntaxV at hv
  rcases hv with rfl | rfl | rfl
  · go_enter Tryz.func25, Tryz.ntmps25
    go_wp2_with (go_at_call 40; refine HA.out.mono ?_; rintro e w1 ⟨rfl, hb1⟩)
    go_ret2
    exact ⟨_, rfl, hb1⟩
  · go_enter Tryz.func25, Tryz.ntmps25
    go_wp2_with (first | (go_at_call 40; refine HA.out.mono ?_; rintro e w1 ⟨rfl, hb1⟩) | (go_at_call 41; refine (HT.out _ hb1).mono ?_; rintro e w2 ⟨v, rfl, hb2⟩))
    go_ret2
    exact ⟨_, rfl, hb1.trans (hb2.mono hb1.size)⟩
  · go_enter Tryz.func25, Tryz.ntmps25
    go_wp2_with (first | (go_at_call 40; refine HA.out.mono ?_; rintro e w1 ⟨rfl, hb1⟩) | (go_at_call 41; refine (HT2.out _ hb1).mono ?_; rintro e w2 ⟨v, rfl, hb2⟩))
    go_ret2
    exact ⟨_, rfl, hb1.trans (hb2.mono hb1.size)⟩


theorem prefix_any (s : ByteArray) (hs : s.size ≤ 140737488351232) : ∃ x, x < 18446744073709551616 ∧
    ∀ w, LaidH w → Calls Tryz.prog 9 #[.string s] w fun e w' => e = .returned (.tuple #[.float .f64 x, .int .i64 (if numeralN (s.data.toList.drop (beginA s.data.toList)) = 0 then 0 else prefixE s.data.toList : Nat)]) ∧ Below w.heap.size w w' := by
  by_cases h0 : numeralN (s.data.toList.drop (beginA s.data.toList)) = 0
  · refine ⟨0, by omega, fun w _ => ?_⟩
    rw [if_pos h0]
    exact (prefix_none s w (by unfold maxLen; omega) h0).mono fun e w' ⟨h1, h2⟩ => ⟨h1, h2 ▸ Below.refl _ _⟩
  · have hE : (s.extract (beginS s.data.toList) (prefixE s.data.toList)).data.toList = (s.data.toList.drop (beginS s.data.toList)).take (prefixE s.data.toList - beginS s.data.toList) := Lib.extract_data _ _ _
    obtain ⟨x, hx, hP⟩ := parse_any (s.extract (beginS s.data.toList) (prefixE s.data.toList)) (by rw [ByteArray.size_extract]; omega) (by
      rw [hE]
      have := numeral_bytes s.data.toList (beginS s.data.toList)
      intro c hc
      refine this c ?_
      have e : prefixE s.data.toList - beginS s.data.toList = sgnN (s.data.toList.drop (beginS s.data.toList)) + numeralN (s.data.toList.drop (beginS s.data.toList + sgnN (s.data.toList.drop (beginS s.data.toList)))) := by
        unfold prefixE beginA; omega
      rwa [e] at hc)
    refine ⟨plainN x, ?_, fun w hL => ?_⟩
    · unfold plainN; split <;> omega
    · rw [if_neg h0]
      exact prefix_some s w x (by unfold maxLen; omega) h0 (hP w hL)

end Go.Proofs.YtjncgedjdmgpfaaGreatDoor
