/- ParseFloat, num.Prefix, token.number, token.Next, whatever the text. -/
import Derived.Test.YtkedagbknflacaaDoorXt
import Derived.Test.YtkedagbknflacaaDoorXa
import Derived.Test.YtkedagbknflacaaDoorWy
import Derived.Test.YtkedagbknflacaaDoorWn
import Derived.Test.YtkedagbknflacaaDoorWd

namespace Go.Proofs.YtkedagbknflacaaDoor
open Go.RowKit

structure LaidH (w : World) : Prop where
  lg : LaidG w
  sy : ∃ te pe, w.cell? ⟨1, 0, none⟩ = some (.iface te pe)

theorem LaidH.below {w w' : World} (h : LaidH w) (hb : Below w.heap.size w w') : LaidH w' := by
  obtain ⟨h1, te, pe, h2⟩ := h
  exact ⟨h1.below hb, te, pe, by rw [hb.cell (World.block_lt_of_cell? w _ h2)]; exact h2⟩

set_option maxHeartbeats 6400000 in
set_option maxRecDepth 100000 in
theorem syntaxError_any (fn s : ByteArray) (te : TypeId) (pe : Value) (w : World) (hlim : s.size ≤ 281474976710656) (hv : w.cell? ⟨1, 0, none⟩ = some (.iface te pe)) :
    Calls Tryd.prog 45 #[.string fn, .string s] w fun e w' => ∃ N, e = .returned (.pointer (some ⟨N, 0, none⟩)) ∧ Below w.heap.size w w' := by
  have hG : 1 < w.heap.size := Lib.lt_of_cell hv
  have hvd : w.drew.cell? ⟨1, 0, none⟩ = some _ := hv
  go_enter Tryd.func45, Tryd.ntmps45
  go_wp2
  go_region_with (
      go_at_call 51
      refine (clone_any s _ hlim).mono ?_
      rintro e w2 ⟨rfl, hbel⟩
      have hv2 : w2.cell? ⟨1, 0, none⟩ = some _ := (hbel.cell (show (⟨1, 0, none⟩ : Addr).block < w.drew.heap.size from hG)).trans hvd)
  all_goals (
    go_wp2
    go_ret
    have hs2 : w.heap.size ≤ w2.heap.size := hbel.size
    exact ⟨_, rfl, ((Below.drew (Below.refl _ w)).trans hbel).alloc hs2 _⟩)

set_option maxHeartbeats 4000000 in
set_option maxRecDepth 100000 in
theorem toError_syntax (fn s : ByteArray) (base bits : Int) (te : TypeId) (pe : Value) (w : World) (hlim : s.size ≤ 281474976710656) (hv : w.cell? ⟨1, 0, none⟩ = some (.iface te pe)) :
    Calls Tryd.prog 40 #[.string fn, .string s, .int .i64 base, .int .i64 bits, .iface 63 (.int .i64 2)] w fun e w' => ∃ v, e = .returned v ∧ Below w.heap.size w w' := by
  have c34 : (Tryd.prog.info? 63).map (·.comparable) = some true := by kernel_rfl
  have hq22 : ∀ W, (binOp .eql 53 (.iface 63 (.int .i64 2)) (.iface 63 (.int .i64 2))).run Tryd.prog W = .ok (.bool true) W := fun W => Lib.run_eql_iface_int W 2 2 Tryd.underlying53 c34 Tryd.underlying63
  go_enter Tryd.func40, Tryd.ntmps40
  go_wp2_with (go_at_call 45; refine (syntaxError_any fn s te pe _ hlim hv).mono ?_; rintro e w2 ⟨N, rfl, h3⟩)
  go_ret
  exact ⟨_, rfl, h3⟩

theorem iparse_all (s : ByteArray) (n x : Nat) (v : Value) (hA : atP s n x v) : ∃ x' v', x' < 18446744073709551616 ∧ anErr v' ∧
    ∀ w, LaidG w → Calls Tryd.prog 39 #[.string s, .int .i64 64] w fun e w' => e = .returned (.tuple #[.float .f64 x', v']) ∧ Below w.heap.size w w' := by
  obtain ⟨hx, hv, hA⟩ := hA
  have hB : ∀ w, LaidG w → Calls Tryd.prog 44 #[.string s, .int .i64 64] w fun e w' => e = .returned (.tuple #[.float .f64 x, .int .i64 n, v]) ∧ Below w.heap.size w w' := fun w hL =>
    prefix_of s w _ ((hA w hL).mono fun e w' ⟨h1, h2⟩ => ⟨x, n, v, h1, h1, h2⟩)
  have HB := Lib.hid hB
  clear hB hA
  by_cases hn : n = s.size
  · refine ⟨x, v, hx, hv, fun w hL => ?_⟩
    have HL := Lib.hid hL
    have b0 : ((n : Int) != s.size) = false := by rw [hn]; simp
    clear hL hn hx
    go_enter Tryd.func39, Tryd.ntmps39
    go_wp2_with (go_at_call 44; refine (HB.out _ HL.out).mono ?_; rintro e w' ⟨rfl, hb⟩)
    go_ret2
    exact ⟨rfl, hb⟩
  · refine ⟨0, syntaxV, by omega, .inr (.inr rfl), fun w hL => ?_⟩
    have HL := Lib.hid hL
    have b0 : ((n : Int) != s.size) = true := by rw [bne_iff_ne]; omega
    clear hL hn hx
    go_enter Tryd.func39, Tryd.ntmps39
    go_wp2_with (go_at_call 44; refine (HB.out _ HL.out).mono ?_; rintro e w' ⟨rfl, hb⟩)
    go_ret2
    exact ⟨rfl, hb⟩

set_option maxRecDepth 100000 in
set_option maxHeartbeats 1600000 in
/-- ParseFloat at any text of a numeral's bytes: some number. -/
theorem parse_any (s : ByteArray) (hs : s.size ≤ 140737488351232) (hN : ∀ c ∈ s.data.toList, c ∈ numChL) : ∃ x, x < 18446744073709551616 ∧
    ∀ w, LaidH w → Calls Tryd.prog 34 #[.string s, .int .i64 64] w fun e w' => ∃ v, e = .returned (.tuple #[.float .f64 x, v]) ∧ Below w.heap.size w w' := by
  obtain ⟨x0, v0, hA⟩ := atof64_any s hs hN
  obtain ⟨x, v, hx, hv, hP⟩ := iparse_all s _ x0 v0 hA
  refine ⟨x, hx, fun w hL => ?_⟩
  obtain ⟨ter, per, hvr⟩ := hL.lg.lt.le.er
  obtain ⟨tes, pes, hvs⟩ := hL.sy
  have HA := Lib.hid (hP w hL.lg)
  have HT := Lib.hid (fun (W : World) (hb : Below w.heap.size w W) => toError_range ⟨#[80, 97, 114, 115, 101, 70, 108, 111, 97, 116]⟩ s 0 64 ter per W (by omega) ((hb.cell (Lib.lt_of_cell hvr)).trans hvr))
  have HT2 := Lib.hid (fun (W : World) (hb : Below w.heap.size w W) => toError_syntax ⟨#[80, 97, 114, 115, 101, 70, 108, 111, 97, 116]⟩ s 0 64 tes pes W (by omega) ((hb.cell (Lib.lt_of_cell hvs)).trans hvs))
  have n1 : ∀ (W : World), (binOp .neq 53 (.iface 63 (.int .i64 1)) .nilIface).run Tryd.prog W = .ok (.bool true) W := fun W => run_neq_held_nil W 53 _ _ (by kernel_rfl)
  have n2 : ∀ (W : World), (binOp .neq 53 .nilIface .nilIface).run Tryd.prog W = .ok (.bool false) W := fun W => run_neq_nil_nil W 53 (by kernel_rfl)
  have n3 : ∀ (W : World), (binOp .neq 53 (.iface 63 (.int .i64 2)) .nilIface).run Tryd.prog W = .ok (.bool true) W := fun W => run_neq_held_nil W 53 _ _ (by kernel_rfl)
  clear hA hP hL hvr hvs hN hs hx
  unfold anErr rangeV syntaxV at hv
  rcases hv with rfl | rfl | rfl
  · go_enter Tryd.func34, Tryd.ntmps34
    go_wp2_with (go_at_call 39; refine HA.out.mono ?_; rintro e w1 ⟨rfl, hb1⟩)
    go_ret2
    exact ⟨_, rfl, hb1⟩
  · go_enter Tryd.func34, Tryd.ntmps34
    go_wp2_with (first | (go_at_call 39; refine HA.out.mono ?_; rintro e w1 ⟨rfl, hb1⟩) | (go_at_call 40; refine (HT.out _ hb1).mono ?_; rintro e w2 ⟨v, rfl, hb2⟩))
    go_ret2
    exact ⟨_, rfl, hb1.trans (hb2.mono hb1.size)⟩
  · go_enter Tryd.func34, Tryd.ntmps34
    go_wp2_with (first | (go_at_call 39; refine HA.out.mono ?_; rintro e w1 ⟨rfl, hb1⟩) | (go_at_call 40; refine (HT2.out _ hb1).mono ?_; rintro e w2 ⟨v, rfl, hb2⟩))
    go_ret2
    exact ⟨_, rfl, hb1.trans (hb2.mono hb1.size)⟩


theorem prefix_any (s : ByteArray) (hs : s.size ≤ 140737488351232) : ∃ x, x < 18446744073709551616 ∧
    ∀ w, LaidH w → Calls Tryd.prog 28 #[.string s] w fun e w' => e = .returned (.tuple #[.float .f64 x, .int .i64 (if numeralN (s.data.toList.drop (beginA s.data.toList)) = 0 then 0 else prefixE s.data.toList : Nat)]) ∧ Below w.heap.size w w' := by
  by_cases h0 : numeralN (s.data.toList.drop (beginA s.data.toList)) = 0
  · refine ⟨0, by omega, fun w _ => ?_⟩
    rw [if_pos h0]
    exact (prefix_none s w (by unfold maxLen; omega) h0).mono fun e w' ⟨h1, h2⟩ => ⟨h1, h2 ▸ Below.refl _ _⟩
  · have hE : (s.extract (beginS s.data.toList) (prefixE s.data.toList)).data.toList = (s.data.toList.drop (beginS s.data.toList)).take (prefixE s.data.toList - beginS s.data.toList) := Lib.extract_data _ _ _
    obtain ⟨x, hx, hP⟩ := parse_any (s.extract (beginS s.data.toList) (prefixE s.data.toList)) (by rw [ByteArray.size_extract]; omega) (by
      rw [hE]
      have := numeral_bytes s.data.toList (beginS s.data.toList)
      intro c hc
      refine this c ?_
      have e : prefixE s.data.toList - beginS s.data.toList = sgnN (s.data.toList.drop (beginS s.data.toList)) + numeralN (s.data.toList.drop (beginS s.data.toList + sgnN (s.data.toList.drop (beginS s.data.toList)))) := by
        unfold prefixE beginA; omega
      rwa [e] at hc)
    refine ⟨plainN x, ?_, fun w hL => ?_⟩
    · unfold plainN; split <;> omega
    · rw [if_neg h0]
      exact prefix_some s w x (by unfold maxLen; omega) h0 (hP w hL)

theorem numeral_start (c : UInt8) (r : List UInt8) (hd : isDig c = true ∨ (c = 46 ∧ ∃ d r', r = d :: r' ∧ isDig d = true)) : beginA (c :: r) = 0 ∧ numeralN (c :: r) ≠ 0 := by
  have hnb : isBlank c = false ∧ c ≠ 43 ∧ c ≠ 45 := by
    rcases hd with h | ⟨h, _⟩
    · have := dig_bd h
      refine ⟨?_, fun e => ?_, fun e => ?_⟩
      · simp [isBlank, blankB]; omega
      · rw [e] at this; exact absurd this (by decide)
      · rw [e] at this; exact absurd this (by decide)
    · rw [h]; decide
  have hbS : beginS (c :: r) = 0 := by
    unfold beginS; rw [nWhile, if_neg (by simp [hnb.1])]
  have hbA : beginA (c :: r) = 0 := by
    unfold beginA; rw [hbS, sgnN, if_neg (by simp [hnb.2])]
  refine ⟨hbA, ?_⟩
  have hm : mantN (c :: r) ≠ 0 := by
    rcases hd with h | ⟨h, d, r', h2, h3⟩
    · unfold mantN
      have : nWhile isDig (c :: r) ≠ 0 := by rw [nWhile, if_pos h]; omega
      split
      · split <;> omega
      · exact this
    · have e0 : nWhile isDig (c :: r) = 0 := by rw [nWhile, if_neg (by rw [h]; decide)]
      have e1 : nWhile isDig r ≠ 0 := by rw [h2, nWhile, if_pos h3]; omega
      unfold mantN
      rw [e0]
      rw [if_pos (by simp [h])]
      simp only [Nat.zero_add, List.drop_succ_cons, List.drop_zero]
      split <;> omega
  unfold numeralN; rw [if_neg hm]; omega

theorem number_any (s : ByteArray) (i : Nat) (hs : s.size ≤ 140737488351232) (hn : numStart s.data.toList i) : ∃ nv, NxOk s.data.toList i nv ∧
    ∀ w, LaidH w → Calls Tryd.prog 18 #[.string s, .int .i64 i] w fun e w' => e = .returned nv ∧ Below w.heap.size w w' := by
  obtain ⟨hi, hd⟩ := hn
  have hi' : i < s.size := by simpa using hi
  have hE : (s.extract i s.size).data.toList = s.data.toList.drop i := by
    rw [Lib.extract_data]; exact List.take_of_length_le (by simp)
  obtain ⟨x, hx, hP⟩ := prefix_any (s.extract i s.size) (by rw [ByteArray.size_extract]; omega)
  obtain ⟨n, en⟩ : ∃ n, (if numeralN ((s.extract i s.size).data.toList.drop (beginA (s.extract i s.size).data.toList)) = 0 then 0 else prefixE (s.extract i s.size).data.toList) = n := ⟨_, rfl⟩
  rw [en] at hP
  have hn : i < i + n ∧ i + n ≤ s.size := by
    rw [hE, drop_at _ _ hi] at en
    obtain ⟨hbA, hnum⟩ := numeral_start s.data.toList[i] (s.data.toList.drop (i + 1)) (hd.imp id fun ⟨h, h2, h3⟩ => ⟨h, _, _, drop_at _ _ h2, h3⟩)
    rw [hbA, List.drop_zero, if_neg hnum] at en
    have hpe : prefixE (s.data.toList[i] :: s.data.toList.drop (i + 1)) = numeralN (s.data.toList[i] :: s.data.toList.drop (i + 1)) := by unfold prefixE; rw [hbA, List.drop_zero]; omega
    have hle := numeralN_le (s.data.toList[i] :: s.data.toList.drop (i + 1))
    have hlen : (s.data.toList[i] :: s.data.toList.drop (i + 1)).length = s.size - i := by rw [← drop_at _ _ hi, List.length_drop]; rfl
    omega
  refine ⟨numV x (inR s.data.toList i (i + n)) i (i + n : Nat), ?_, fun w hL => number_of s i n x w (by unfold maxLen; omega) hn.2 hx fun W hW => hP W (hL.below hW)⟩
  unfold numV
  split
  · exact ⟨0, [], 0, i, 0, 23, rfl, Nat.le_refl _, .inl ⟨by omega, hi, rfl, rfl, rfl⟩⟩
  · exact ⟨2, _, x, i, i + n, 0, rfl, Nat.le_refl _, .inr (.inr ⟨rfl, by omega, hn.1, hn.2⟩)⟩

/-- Next, whatever the text, from any place within it. -/
theorem next_all (s : ByteArray) (a : Nat) (op : Bool) (hs : s.size ≤ 140737488351232) (ha : a ≤ s.size) : ∃ V, NxOk s.data.toList a V ∧
    ∀ w, LaidH w → Calls Tryd.prog 7 #[.string s, .int .i64 a, .bool op] w fun e w' => e = .returned V ∧ Below w.heap.size w w' := by
  have hk : a ≤ skipK s.data.toList a ∧ skipK s.data.toList a ≤ s.data.toList.length := by
    unfold skipK
    have := skipS_le _ false (s.data.toList.drop a) (Nat.le_refl _)
    rw [List.length_drop] at this
    have : s.data.toList.length = s.size := rfl
    omega
  have lift : ∀ V, NxOk s.data.toList (skipK s.data.toList a) V → NxOk s.data.toList a V := by
    rintro V ⟨kd, tx, nm, f, t, e, rfl, h1, h2⟩
    exact ⟨kd, tx, nm, f, t, e, rfl, by omega, h2⟩
  by_cases hn : numStart s.data.toList (skipK s.data.toList a)
  · obtain ⟨nv, hv, hC⟩ := number_any s _ hs hn
    refine ⟨nextV s.data.toList op nv (skipK s.data.toList a), lift _ (nextV_ok _ _ _ _ hk.2 fun _ => hv), fun w hL => ?_⟩
    obtain ⟨kd, tx, nm, f, t, e, rfl, _⟩ := hv
    exact next_any s a op w _ kd tx nm f t e rfl hs ha fun _ W hW => hC W (hL.below hW)
  · refine ⟨nextV s.data.toList op (.tuple #[tokV 0 [] 0 0 0, .int .i64 0]) (skipK s.data.toList a), lift _ (nextV_ok _ _ _ _ hk.2 fun h => absurd h hn), fun w hL => ?_⟩
    exact next_any s a op w _ 0 [] 0 0 0 0 rfl hs ha fun h => absurd h hn

end Go.Proofs.YtkedagbknflacaaDoor
