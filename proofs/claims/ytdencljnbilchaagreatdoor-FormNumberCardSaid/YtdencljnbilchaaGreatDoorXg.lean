/- Walks: prescale, pack64, parseFloat64. The walks of tailraceref11: digit, Blank, Numeral, clean. -/
import Derived.Test.YtdencljnbilchaaGreatDoorXf
import GoSem.PinnedTables
import Derived.Test.YtdencljnbilchaaGreatDoorWl
import Derived.Deep.DeepCutAuto
import Derived.Deep.CutBlock

namespace Go.Proofs.YtdencljnbilchaaGreatDoor
open Go.RowKit

def p10hi (i : Nat) : Nat := (Go.Pinned.pow10Rows.getD i (0, 0)).1
def p10lo (i : Nat) : Nat := (Go.Pinned.pow10Rows.getD i (0, 0)).2
theorem p10_all : (Go.Pinned.pow10Rows.all fun x => decide (x.1 < 18446744073709551616) && decide (x.2 < 18446744073709551616)) = true := by decide +kernel
theorem p10_lt (i : Nat) : p10hi i < 18446744073709551616 ∧ p10lo i < 18446744073709551616 := by
  unfold p10hi p10lo
  rw [List.getD_eq_getElem?_getD]
  cases h : Go.Pinned.pow10Rows[i]? with
  | none => simp
  | some x =>
    have := List.all_eq_true.1 p10_all x (List.mem_of_getElem? h)
    simpa using this

structure LaidT (w : World) : Prop where
  le : LaidE w
  tab : ∀ i, i < 696 → w.cell? ⟨5, 2 * i, none⟩ = some (.int .u64 (p10hi i)) ∧ w.cell? ⟨5, 2 * i + 1, none⟩ = some (.int .u64 (p10lo i))

theorem LaidT.below {w w' : World} (h : LaidT w) (hb : Below w.heap.size w w') : LaidT w' := by
  obtain ⟨h1, h2⟩ := h
  refine ⟨h1.below hb, fun i hi => ?_⟩
  obtain ⟨a, b⟩ := h2 i hi
  exact ⟨by rw [hb.cell (World.block_lt_of_cell? w _ a)]; exact a, by rw [hb.cell (World.block_lt_of_cell? w _ b)]; exact b⟩

theorem cell_al {W : World} {a : Addr} {v : Value} (h : W.cell? a = some v) (o : Obj) : (W.alloc o).cell? a = some v :=
  (((Below.refl W.heap.size W).alloc (Nat.le_refl _) o).cell (World.block_lt_of_cell? W a h)).trans h

set_option maxHeartbeats 1000000 in
theorem prescale_any (k : Nat) (e lp : Int) (v0 v1 v2 : Value) (w : World) (hk : k < 696) (hL : LaidT w) (he : -100000 ≤ e) (he' : e ≤ 100000) (hl : -100000 ≤ lp) (hl' : lp ≤ 100000) :
    Calls Tryz.prog 115 #[.pointer (some ⟨w.heap.size, 0, none⟩), .int .i64 e, .int .i64 ((k : Int) - 348), .int .i64 lp] (w.alloc (.cells #[v0, v1, v2] 154)) fun en w' => en = .returned (.tuple #[]) ∧ w.alloc (.cells #[.int .u64 (p10hi k), .int .u64 (p10lo k), .int .i64 (-(e + lp + 3))] 154) = w' := by
  obtain ⟨t1, t2⟩ := hL.tab k hk
  rw [Nat.mul_comm 2 k] at t1 t2
  have g1 := fun o => cell_al t1 o
  have g2 := fun o => cell_al t2 o
  clear hL t1 t2
  go_enter Tryz.func115, Tryz.ntmps115
  go_wp2
  go_end0
  exact ⟨rfl, rfl⟩

theorem bits_bd (op : BinOp) (a b : Int) : 0 ≤ bits op .u64 a b ∧ bits op .u64 a b < 18446744073709551616 := by
  have h : bits op .u64 a b = IntKind.u64.wrap (bits op .u64 a b) := by
    unfold bits
    simp only [IntKind.wrap_u64]
    omega
  rw [h, IntKind.wrap_u64]
  omega

theorem bitLen_bd (x : Nat) : Lib.bitLen x ≤ 64 := by
  have h : ∀ f x, Lib.bitLenAux f x ≤ f := by
    intro f
    induction f with
    | zero => intro x; simp [Lib.bitLenAux]
    | succ f ih => intro x; rw [Lib.bitLenAux]; split; omega; have := ih (x / 2); omega
  exact h 64 x
theorem bitLen_pos (x : Nat) (h : x ≠ 0) : 1 ≤ Lib.bitLen x := by
  unfold Lib.bitLen; rw [Lib.bitLenAux, if_neg h]; omega

def sgnOk (s : Nat) : Prop := s = 0 ∨ s = 9223372036854775808

theorem below_drewN {B : Nat} {a w : World} (h : Below B a w) (n : Nat) : Below B a (w.drewN n) := ⟨h.os, h.tape, h.output, h.size, h.block⟩

end Go.Proofs.YtdencljnbilchaaGreatDoor

namespace Go.Proofs.YtdencljnbilchaaGreatDoor
open Go.RowKit

def digAt (l : List UInt8) (k : Nat) : Bool := match l[k]? with | some c => isDig c | none => false

theorem digAt_lt {l : List UInt8} {k : Nat} (h : digAt l k = true) : k < l.length := by
  rcases Nat.lt_or_ge k l.length with h1 | h1
  · exact h1
  · unfold digAt at h; rw [List.getElem?_eq_none h1] at h; cases h
theorem digAt_in {l : List UInt8} {k : Nat} (h : k < l.length) : digAt l k = isDig l[k] := by unfold digAt; rw [List.getElem?_eq_getElem h]
theorem digAt_out {l : List UInt8} {k : Nat} (h : l.length ≤ k) : digAt l k = false := by unfold digAt; rw [List.getElem?_eq_none h]
theorem nW_on {l : List UInt8} {k : Nat} (h : digAt l k = true) : nWhile isDig (l.drop k) = nWhile isDig (l.drop (k + 1)) + 1 :=
  nWhile_yes isDig l k (digAt_lt h) (by rw [← digAt_in (digAt_lt h)]; exact h)
theorem nW_off {l : List UInt8} {k : Nat} (h : digAt l k = false) : nWhile isDig (l.drop k) = 0 := by
  rcases Nat.lt_or_ge k l.length with h1 | h1
  · exact nWhile_no _ _ _ h1 (by rw [← digAt_in h1]; exact h)
  · exact nWhile_end _ _ _ h1
theorem nW_zero {l : List UInt8} {k : Nat} (h : nWhile isDig (l.drop k) = 0) : digAt l k = false := by
  cases hd : digAt l k with
  | false => rfl
  | true => have := nW_on hd; omega

theorem rdig_any (s : ByteArray) (k : Nat) (a : Int) (ha : a = k) (w : World) (_hs : s.size ≤ maxLen) : Calls Tryz.prog 65 #[.string s, .int .i64 a] w fun e w' => e = .returned (.bool (digAt s.data.toList k)) ∧ w = w' := by
  subst ha
  unfold maxLen at _hs
  by_cases hk : k < s.size
  · have hd : digAt s.data.toList k = digB (s[k].toNat : Int) := digAt_in (l := s.data.toList) hk
    rw [hd]
    clear hd
    go_enter Tryz.func65, Tryz.ntmps65
    go_wp2
    all_goals (go_ret; exact ⟨ret_bool (by simp [digB, *] <;> omega), rfl⟩)
  · have hd : digAt s.data.toList k = false := digAt_out (by simpa using hk)
    rw [hd]
    clear hd
    go_enter Tryz.func65, Tryz.ntmps65
    go_wp2
    go_ret
    exact ⟨rfl, rfl⟩

theorem clean_any (x : Nat) (w : World) : Calls Tryz.prog 50 #[.float .f64 x] w fun e w' => e = .returned (.float .f64 (plainN x)) ∧ w = w' := by
  cases h : (FloatKind.f64.format.order x 0 == some .eq) with
  | true =>
    have HP : Hid (plainN x = 0) := by unfold Hid; rw [plainN, h]; rfl
    go_enter Tryz.func50, Tryz.ntmps50
    go_wp2
    go_ret
    exact ⟨by rw [HP.out]; rfl, rfl⟩
  | false =>
    have HP : Hid (plainN x = x) := by unfold Hid; rw [plainN, h]; rfl
    go_enter Tryz.func50, Tryz.ntmps50
    go_wp2
    go_ret
    exact ⟨by rw [HP.out]; rfl, rfl⟩

/-- Where a numeral's digits and its point end, and what stands there. -/
theorem mant_cases (s : ByteArray) (i d : Nat) (hi : i ≤ s.size) (hd : i + nWhile isDig (s.data.toList.drop i) = d) :
    (i + numeralN (s.data.toList.drop i) = i ∧ d = i ∧ (¬ i < s.size ∨ (∃ h : i < s.size, ((s[i].toNat : Int) == 46) = false) ∨ (∃ h : i < s.size, ((s[i].toNat : Int) == 46) = true ∧ digAt s.data.toList (i + 1) = false))) ∨
    (∃ m, i + numeralN (s.data.toList.drop i) = m + expN (s.data.toList.drop m) ∧ i < m ∧ m ≤ s.size ∧
      (i < d ∨ (d = i ∧ ∃ h : i < s.size, ((s[i].toNat : Int) == 46) = true ∧ digAt s.data.toList (i + 1) = true)) ∧
      ((∃ h : d < s.size, ((s[d].toNat : Int) == 46) = true ∧ d + 1 + nWhile isDig (s.data.toList.drop (d + 1)) = m) ∨ ((¬ d < s.size ∨ ∃ h : d < s.size, ((s[d].toNat : Int) == 46) = false) ∧ d = m))) := by
  have hil : i ≤ s.data.toList.length := by simpa using hi
  have hid : i ≤ d := by omega
  by_cases hdot : ∃ h : d < s.size, s[d] = 46
  · obtain ⟨hds, h46⟩ := hdot
    have b46 : ((s[d].toNat : Int) == 46) = true := beq_t (d := 46) h46
    obtain ⟨h1, h2⟩ := mant_dot s.data.toList i d _ hd (by simpa using hds) h46 rfl
    by_cases hor : i < d ∨ d + 1 < d + 1 + nWhile isDig (s.data.toList.drop (d + 1))
    · right
      have hE := h1 hor
      refine ⟨_, numEnd_exp _ _ _ hE, (hE.2.2.2 rfl).1, by simpa using hE.2.1, ?_, .inl ⟨hds, b46, rfl⟩⟩
      rcases Nat.lt_or_ge i d with h | h
      · exact .inl h
      · obtain rfl : d = i := by omega
        refine .inr ⟨rfl, hds, b46, ?_⟩
        cases hq : digAt s.data.toList (d + 1) with
        | true => rfl
        | false => have := nW_off hq; omega
    · left
      have hE := h2 (by omega) (by omega)
      obtain rfl : d = i := by omega
      exact ⟨numEnd_no _ _ _ hE, rfl, .inr (.inr ⟨hds, b46, nW_zero (by omega)⟩)⟩
  · have hE := mant_end s.data.toList i d hil hd (fun ⟨h, e⟩ => hdot ⟨by simpa using h, e⟩)
    have hb : ¬ d < s.size ∨ ∃ h : d < s.size, ((s[d].toNat : Int) == 46) = false := by
      by_cases h : d < s.size
      · exact .inr ⟨h, beq_f (d := 46) (fun e => hdot ⟨h, e⟩)⟩
      · exact .inl h
    by_cases h : i < d
    · right
      rw [decide_eq_true h] at hE
      exact ⟨d, numEnd_exp _ _ _ hE, h, by simpa using hE.2.1, .inl h, .inr ⟨hb, rfl⟩⟩
    · left
      rw [decide_eq_false h] at hE
      obtain rfl : d = i := by omega
      exact ⟨numEnd_no _ _ _ hE, rfl, hb.imp id .inl⟩

/-- A sign that may stand there. -/
theorem sgn_cases (s : ByteArray) (k : Nat) : (∃ h : k < s.size, (((s[k].toNat : Int) == 43) = true ∨ (((s[k].toNat : Int) == 43) = false ∧ ((s[k].toNat : Int) == 45) = true)) ∧ sgnN (s.data.toList.drop k) = 1) ∨
    ((¬ k < s.size ∨ ∃ h : k < s.size, ((s[k].toNat : Int) == 43) = false ∧ ((s[k].toNat : Int) == 45) = false) ∧ sgnN (s.data.toList.drop k) = 0) := by
  by_cases hg : ∃ h : k < s.size, s[k] = 43 ∨ s[k] = 45
  · obtain ⟨hk, hg⟩ := hg
    left
    refine ⟨hk, ?_, sgn_some s.data.toList k (by simpa using hk) hg⟩
    rcases hg with hg | hg
    · exact .inl (beq_t (d := 43) hg)
    · exact .inr ⟨beq_f (d := 43) (by rw [hg]; decide), beq_t (d := 45) hg⟩
  · right
    refine ⟨?_, sgn_none s.data.toList k (fun ⟨h, e⟩ => hg ⟨by simpa using h, e⟩)⟩
    by_cases h : k < s.size
    · exact .inr ⟨h, beq_f (d := 43) (fun e => hg ⟨h, .inl e⟩), beq_f (d := 45) (fun e => hg ⟨h, .inr e⟩)⟩
    · exact .inl h

theorem exp_cases (s : ByteArray) (m : Nat) : (∃ h : m < s.size, (((s[m].toNat : Int) == 101) = true ∨ (((s[m].toNat : Int) == 101) = false ∧ ((s[m].toNat : Int) == 69) = true)) ∧
      expN (s.data.toList.drop m) = if nWhile isDig (s.data.toList.drop (m + 1 + sgnN (s.data.toList.drop (m + 1)))) = 0 then 0 else 1 + sgnN (s.data.toList.drop (m + 1)) + nWhile isDig (s.data.toList.drop (m + 1 + sgnN (s.data.toList.drop (m + 1))))) ∨
    ((¬ m < s.size ∨ ∃ h : m < s.size, ((s[m].toNat : Int) == 101) = false ∧ ((s[m].toNat : Int) == 69) = false) ∧ expN (s.data.toList.drop m) = 0) := by
  by_cases he : ∃ h : m < s.size, s[m] = 101 ∨ s[m] = 69
  · obtain ⟨hms, he⟩ := he
    left
    refine ⟨hms, ?_, exp_some s.data.toList m (by simpa using hms) he⟩
    rcases he with he | he
    · exact .inl (beq_t (d := 101) he)
    · exact .inr ⟨beq_f (d := 101) (by rw [he]; decide), beq_t (d := 69) he⟩
  · right
    refine ⟨?_, exp_none s.data.toList m (fun ⟨h, e⟩ => he ⟨by simpa using h, e⟩)⟩
    by_cases h : m < s.size
    · exact .inr ⟨h, beq_f (d := 101) (fun e => he ⟨h, .inl e⟩), beq_f (d := 69) (fun e => he ⟨h, .inr e⟩)⟩
    · exact .inl h

end Go.Proofs.YtdencljnbilchaaGreatDoor
