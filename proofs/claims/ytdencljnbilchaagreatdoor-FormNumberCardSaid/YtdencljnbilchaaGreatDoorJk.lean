/- The walk of printf's whole. -/
import Derived.Test.YtdencljnbilchaaGreatDoorJg
import Derived.Test.YtdencljnbilchaaGreatDoorVq

namespace Go.Proofs.YtdencljnbilchaaGreatDoor
open Go.RowKit

def inB (x : Nat) : Bool := finB x && (decide (0 ≤ valT x) && decide (valT x < 18446744073709551616))

theorem inB_iff (x : Nat) : inB x = true ↔ finB x = true ∧ 0 ≤ valT x ∧ valT x < 18446744073709551616 := by
  unfold inB
  rw [Bool.and_eq_true, Bool.and_eq_true, decide_eq_true_iff, decide_eq_true_iff]

/-- What comes of math.Trunc, as the tests see it. -/
def TruncT (x t : Nat) : Prop :=
  (inB x = true ∧ (FloatKind.f64.format.order t 0 == some .gt || FloatKind.f64.format.order t 0 == some .eq) = true ∧ (FloatKind.f64.format.order t 4895412794951729152 == some .lt) = true ∧ ∀ W, (convert 36 84 (.float .f64 t)).run Tryz.prog W = .ok (.int .u64 (valT x)) W) ∨
  (inB x = false ∧ (FloatKind.f64.format.order t 0 == some .gt || FloatKind.f64.format.order t 0 == some .eq) = false) ∨
  (inB x = false ∧ (FloatKind.f64.format.order t 0 == some .gt || FloatKind.f64.format.order t 0 == some .eq) = true ∧ (FloatKind.f64.format.order t 4895412794951729152 == some .lt) = false)

theorem truncT_fin {x : Nat} (h : finN x) : TruncT x (truncN x) := by
  have o1 := order_whole h c0.1 c0.2
  have o2 := order_whole h c2p64.1 c2p64.2
  obtain ⟨_, s2, _⟩ := scal_trunc h
  have hfb := (finB_iff x).2 h
  unfold TruncT
  rw [o1, o2]
  rcases Int.lt_trichotomy (valT x) 0 with h1 | h1 | h1
  · right; left
    rw [cmp_lt h1]
    exact ⟨by rw [Bool.eq_false_iff]; intro h'; have := (inB_iff x).1 h'; omega, rfl⟩
  all_goals
    have hg : (some (compare (valT x) 0) == some .gt || some (compare (valT x) 0) == some .eq) = true := by
      first
        | (rw [h1, cmp_eq]; rfl)
        | (rw [cmp_gt h1]; rfl)
    by_cases hv : valT x < 18446744073709551616
    · left
      refine ⟨(inB_iff x).2 ⟨hfb, by omega, hv⟩, hg, by rw [cmp_lt hv]; rfl, fun W => ?_⟩
      have := conv_u64 s2 (by rw [valT_trunc h]; omega) (by rw [valT_trunc h]; exact hv) W
      rw [valT_trunc h] at this
      exact this
    · right; right
      refine ⟨by rw [Bool.eq_false_iff]; intro h'; exact hv ((inB_iff x).1 h').2.2, hg, ?_⟩
      rcases Int.lt_or_eq_of_le (Int.not_lt.1 hv) with h2 | h2
      · rw [cmp_gt h2]; rfl
      · rw [← h2, cmp_eq]; rfl

theorem trunc_tests (x : Nat) (hx : x < 18446744073709551616) (W : World) : Calls Tryz.prog 24 #[.float .f64 x] W fun e w' => ∃ t n, e = .returned (.float .f64 t) ∧ w' = W.drewN n ∧ TruncT x t := by
  rcases class3 x hx with h | rfl | rfl | h
  · have o1 : FloatKind.f64.format.order x x = some .eq := by rw [order_num (read_num h) (read_num h), cmp_eq]
    exact (trunc_any x (by rw [o1]; simp) W).mono fun e w' ⟨h1, h2⟩ => ⟨_, 0, h1, h2.symm, truncT_fin h⟩
  · have ht : truncN 9218868437227405312 = 9218868437227405312 := by kernel_rfl
    exact (trunc_any 9218868437227405312 (by rw [show FloatKind.f64.format.order 9218868437227405312 9218868437227405312 = some .eq by kernel_rfl]; simp) W).mono fun e w' ⟨h1, h2⟩ => ⟨_, 0, h1, h2.symm, .inr (.inr ⟨by kernel_rfl, by rw [ht]; kernel_rfl, by rw [ht]; kernel_rfl⟩)⟩
  · have ht : truncN 18442240474082181120 = 18442240474082181120 := by kernel_rfl
    exact (trunc_any 18442240474082181120 (by rw [show FloatKind.f64.format.order 18442240474082181120 18442240474082181120 = some .eq by kernel_rfl]; simp) W).mono fun e w' ⟨h1, h2⟩ => ⟨_, 0, h1, h2.symm, .inr (.inl ⟨by kernel_rfl, by rw [ht]; kernel_rfl⟩)⟩
  · refine (truncNone_any x hx h W).mono ?_
    rintro e w' ⟨y, n, rfl, hy, rfl⟩
    refine ⟨y, n, rfl, rfl, .inr (.inl ⟨?_, by rw [hy 0]; rfl⟩)⟩
    rw [Bool.eq_false_iff]
    intro h'
    have := (finB_iff x).1 ((inB_iff x).1 h').1
    unfold finN at this; omega

def TrA (x t : Nat) : Prop := (FloatKind.f64.format.order t 0 == some .gt || FloatKind.f64.format.order t 0 == some .eq) = true ∧ (FloatKind.f64.format.order t 4895412794951729152 == some .lt) = true ∧ ∀ W, (convert 36 84 (.float .f64 t)).run Tryz.prog W = .ok (.int .u64 (valT x)) W
def TrB (t : Nat) : Prop := (FloatKind.f64.format.order t 0 == some .gt || FloatKind.f64.format.order t 0 == some .eq) = false
def TrC (t : Nat) : Prop := (FloatKind.f64.format.order t 0 == some .gt || FloatKind.f64.format.order t 0 == some .eq) = true ∧ (FloatKind.f64.format.order t 4895412794951729152 == some .lt) = false

/-- The same, the way it goes being decided by the number alone. -/
theorem trunc_ways (x : Nat) (hx : x < 18446744073709551616) :
    (inB x = true ∧ ∀ W, Calls Tryz.prog 24 #[.float .f64 x] W fun e w' => ∃ t n, e = .returned (.float .f64 t) ∧ w' = W.drewN n ∧ TrA x t) ∨
    (inB x = false ∧ ∀ W, Calls Tryz.prog 24 #[.float .f64 x] W fun e w' => ∃ t n, e = .returned (.float .f64 t) ∧ w' = W.drewN n ∧ TrB t) ∨
    (inB x = false ∧ ∀ W, Calls Tryz.prog 24 #[.float .f64 x] W fun e w' => ∃ t n, e = .returned (.float .f64 t) ∧ w' = W.drewN n ∧ TrC t) := by
  have one : ∀ (o : FloatKind.f64.format.order x x ≠ none) (h : TruncT x (truncN x)),
      (inB x = true ∧ ∀ W, Calls Tryz.prog 24 #[.float .f64 x] W fun e w' => ∃ t n, e = .returned (.float .f64 t) ∧ w' = W.drewN n ∧ TrA x t) ∨
      (inB x = false ∧ ∀ W, Calls Tryz.prog 24 #[.float .f64 x] W fun e w' => ∃ t n, e = .returned (.float .f64 t) ∧ w' = W.drewN n ∧ TrB t) ∨
      (inB x = false ∧ ∀ W, Calls Tryz.prog 24 #[.float .f64 x] W fun e w' => ∃ t n, e = .returned (.float .f64 t) ∧ w' = W.drewN n ∧ TrC t) := by
    intro o h
    rcases h with ⟨a, b⟩ | ⟨a, b⟩ | ⟨a, b⟩
    · exact .inl ⟨a, fun W => (trunc_any x o W).mono fun e w' ⟨h1, h2⟩ => ⟨_, 0, h1, h2.symm, b⟩⟩
    · exact .inr (.inl ⟨a, fun W => (trunc_any x o W).mono fun e w' ⟨h1, h2⟩ => ⟨_, 0, h1, h2.symm, b⟩⟩)
    · exact .inr (.inr ⟨a, fun W => (trunc_any x o W).mono fun e w' ⟨h1, h2⟩ => ⟨_, 0, h1, h2.symm, b⟩⟩)
  rcases class3 x hx with h | rfl | rfl | h
  · exact one (by rw [order_num (read_num h) (read_num h), cmp_eq]; simp) (truncT_fin h)
  · have ht : truncN 9218868437227405312 = 9218868437227405312 := by kernel_rfl
    exact one (by rw [show FloatKind.f64.format.order 9218868437227405312 9218868437227405312 = some .eq by kernel_rfl]; simp) (.inr (.inr ⟨by kernel_rfl, by rw [ht]; kernel_rfl, by rw [ht]; kernel_rfl⟩))
  · have ht : truncN 18442240474082181120 = 18442240474082181120 := by kernel_rfl
    exact one (by rw [show FloatKind.f64.format.order 18442240474082181120 18442240474082181120 = some .eq by kernel_rfl]; simp) (.inr (.inl ⟨by kernel_rfl, by rw [ht]; kernel_rfl⟩))
  · refine .inr (.inl ⟨?_, fun W => (truncNone_any x hx h W).mono ?_⟩)
    · rw [Bool.eq_false_iff]
      intro h'
      have := (finB_iff x).1 ((inB_iff x).1 h').1
      unfold finN at this; omega
    · rintro e w' ⟨y, n, rfl, hy, rfl⟩
      exact ⟨y, n, rfl, rfl, by unfold TrB; rw [hy 0]; rfl⟩

theorem str_app (l : List UInt8) (s : ByteArray) : ((⟨l.toArray⟩ : ByteArray) ++ s) = ⟨(l ++ s.data.toList).toArray⟩ := ba_ext (by simp)

/-- Sign and digits, before the precision is looked at. -/
def wholeP (cv : FConv) (x : Nat) : List UInt8 × List UInt8 :=
  let sg := if cv.c = 100 ∨ cv.c = 105 then signT cv.plus cv.blank (bareT x).2 else signT false false (bareT x).2
  let base := if cv.c = 111 then 8 else if cv.c = 120 ∨ cv.c = 88 then 16 else 0
  if 0 < base ∧ finB x = true ∧ 0 ≤ valT x ∧ valT x < 18446744073709551616 then ([], if cv.c = 88 then upL (uintT (valT x).toNat base) else uintT (valT x).toNat base) else (sg, (bareT x).1)

theorem wholeT_of (cv : FConv) (x : Nat) : wholeT uintT cv x = ((wholeP cv x).1, if finB x = true ∧ ((wholeP cv x).2.length : Int) < cv.prec then zerosL (cv.prec.toNat - (wholeP cv x).2.length) ++ (wholeP cv x).2 else (wholeP cv x).2) := rfl

theorem uintT_ok (v b : Nat) (hb : b = 8 ∨ b = 16) : (uintT v b).length ≤ 64 ∧ ∀ c ∈ uintT v b, c.toNat < 128 :=
  ⟨baseT_len b 64 v, baseT_ascii b (by omega) (by omega) 64 v⟩

theorem wholeP_len (cv : FConv) (x : Nat) (hx : x < 18446744073709551616) : (wholeP cv x).1.length ≤ 1 ∧ (wholeP cv x).2.length ≤ 1000 := by
  have h1 := (bareT_head x hx).2
  have hs : ∀ a b c, (signT a b c).length ≤ 1 := by intro a b c; cases a <;> cases b <;> cases c <;> decide
  have hu : ∀ v b, (uintT v b).length ≤ 64 := fun v b => baseT_len b 64 v
  have hup : ∀ l : List UInt8, (upL l).length = l.length := fun l => by unfold upL; rw [List.length_map]
  unfold wholeP
  dsimp only
  generalize (if cv.c = 111 then 8 else if cv.c = 120 ∨ cv.c = 88 then 16 else 0) = base
  split
  · refine ⟨by simp, ?_⟩
    show (if cv.c = 88 then _ else _ : List UInt8).length ≤ 1000
    split
    · rw [hup]; exact Nat.le_trans (hu _ _) (by omega)
    · exact Nat.le_trans (hu _ _) (by omega)
  · refine ⟨?_, h1⟩
    show (if _ then _ else _ : List UInt8).length ≤ 1
    split <;> exact hs _ _ _

/-- A conversion in block b. -/
structure SpF (w : World) (b : Nat) (cv : FConv) : Prop where
  s0 : w.cell? ⟨b, 0, none⟩ = some (.bool cv.left)
  s1 : w.cell? ⟨b, 1, none⟩ = some (.bool cv.plus)
  s2 : w.cell? ⟨b, 2, none⟩ = some (.bool cv.blank)
  s3 : w.cell? ⟨b, 3, none⟩ = some (.bool cv.zero)
  s4 : w.cell? ⟨b, 4, none⟩ = some (.int .i64 cv.width)
  s5 : w.cell? ⟨b, 5, none⟩ = some (.int .i64 cv.prec)

theorem SpF.below {w w' : World} {b : Nat} {cv : FConv} (h : SpF w b cv) (hb : Below w.heap.size w w') : SpF w' b cv := by
  have keep : ∀ (a : Addr) (v : Value), w.cell? a = some v → w'.cell? a = some v := fun a v hv => by
    rw [hb.cell (World.block_lt_of_cell? w a hv)]; exact hv
  exact ⟨keep _ _ h.s0, keep _ _ h.s1, keep _ _ h.s2, keep _ _ h.s3, keep _ _ h.s4, keep _ _ h.s5⟩
theorem SpF.new (w : World) (cv : FConv) (T : TypeId) : SpF (w.alloc (.cells #[.bool cv.left, .bool cv.plus, .bool cv.blank, .bool cv.zero, .int .i64 cv.width, .int .i64 cv.prec] T)) w.heap.size cv := by
  refine ⟨?_, ?_, ?_, ?_, ?_, ?_⟩ <;> (rw [World.cell?_alloc_at _ _ _ _ rfl]; rfl)

/-- What whole leaves. -/
def WholeEnd (cv : FConv) (x : Nat) (w : World) (e : Ending) (w' : World) : Prop :=
  e = .returned (.tuple #[.string ⟨(wholeT uintT cv x).1.toArray⟩, .string ⟨(wholeT uintT cv x).2.toArray⟩]) ∧ Below w.heap.size w w'

theorem whole_pad {cv : FConv} {x : Nat} {w w' : World} (S1 S2 : ByteArray) (h1 : S1 = ⟨(wholeP cv x).1.toArray⟩) (h2 : S2 = ⟨(wholeP cv x).2.toArray⟩) (hf : finB x = true) (hp : (S2.size : Int) < cv.prec) (R : ByteArray) (hR : R = ⟨(List.replicate (cv.prec - S2.size).toNat 48).toArray⟩) (hb : Below w.heap.size w w') :
    WholeEnd cv x w (.returned (.tuple #[.string S1, .string (R ++ S2)])) w' := by
  subst hR
  have hs : S2.size = (wholeP cv x).2.length := by rw [h2]; simp [ByteArray.size]
  refine ⟨?_, hb⟩
  rw [wholeT_of, if_pos ⟨hf, by rw [← hs]; exact hp⟩, str_app]
  have e : S2.data.toList = (wholeP cv x).2 := by rw [h2]
  rw [e, hs, h1]
  show Ending.returned (Value.tuple #[_, Value.string ⟨(List.replicate (cv.prec - ((wholeP cv x).2.length : Nat)).toNat 48 ++ (wholeP cv x).2).toArray⟩]) = _
  rw [show (cv.prec - ((wholeP cv x).2.length : Nat)).toNat = cv.prec.toNat - (wholeP cv x).2.length by omega]
  rfl
theorem whole_nopad {cv : FConv} {x : Nat} {w w' : World} (S1 S2 : ByteArray) (h1 : S1 = ⟨(wholeP cv x).1.toArray⟩) (h2 : S2 = ⟨(wholeP cv x).2.toArray⟩) (hf : finB x = false ∨ ¬ (S2.size : Int) < cv.prec) (hb : Below w.heap.size w w') :
    WholeEnd cv x w (.returned (.tuple #[.string S1, .string S2])) w' := by
  have hs : S2.size = (wholeP cv x).2.length := by rw [h2]; simp [ByteArray.size]
  refine ⟨?_, hb⟩
  rw [wholeT_of, if_neg ?_, h1, h2]
  rintro ⟨a, b⟩
  rcases hf with h | h
  · rw [a] at h; cases h
  · rw [hs] at h; exact h b

set_option maxRecDepth 100000 in
set_option maxHeartbeats 2000000 in
theorem whole_d100 (cv : FConv) (hc : cv.c = 100) (x : Nat) (hx : x < 18446744073709551616) (hp : cv.prec ≤ 200) (w : World) (hL : LaidJ w) :
    Calls Tryz.prog 44 #[.agg #[.bool cv.left, .bool cv.plus, .bool cv.blank, .bool cv.zero, .int .i64 cv.width, .int .i64 cv.prec], .int .u8 100, .float .f64 x, .bool (finB x)] w (WholeEnd cv x w) := by
  obtain ⟨S2, hS2⟩ : ∃ S2 : ByteArray, S2 = ⟨(bareT x).1.toArray⟩ := ⟨_, rfl⟩
  obtain ⟨S1, hS1⟩ : ∃ S1 : ByteArray, S1 = ⟨(signT cv.plus cv.blank (bareT x).2).toArray⟩ := ⟨_, rfl⟩
  have hz2 : S2.size ≤ 1000 := by have := (bareT_head x hx).2; rw [hS2]; simpa [ByteArray.size] using this
  have HB : Hid (∀ W, LaidG W → Calls Tryz.prog 55 #[.float .f64 x] W fun e w' => e = .returned (.tuple #[.string S2, .bool (bareT x).2]) ∧ Below W.heap.size W w') := fun W hW => by rw [hS2]; exact bare_any x hx W hW
  have HS : Hid (∀ (W : World), Calls Tryz.prog 56 #[.agg #[.bool cv.left, .bool cv.plus, .bool cv.blank, .bool cv.zero, .int .i64 cv.width, .int .i64 cv.prec], .bool (bareT x).2] W fun e w' => e = .returned (.string S1) ∧ Below W.heap.size W w') := fun W => by rw [hS1]; exact signed_any _ _ _ _ _ _ _ W
  have HT := Lib.hid (fun W => trunc_tests x hx W)
  have HL := Lib.hid hL
  have HR : Hid (∀ (s : Int) (W : World), 0 ≤ s → s ≤ 1000 → Calls Tryz.prog 46 #[.string ⟨#[48]⟩, .int .i64 s] W fun e w' => ∃ R : ByteArray, e = .returned (.string R) ∧ Hid (R = ⟨(List.replicate s.toNat 48).toArray⟩) ∧ R.size ≤ 1000 ∧ Below W.heap.size W w') := fun s W h0 h1 => (repeat_any 48 s.toNat s (by omega) W (by omega)).mono fun e w' ⟨h2, h3⟩ => ⟨_, h2, rfl, by simp [ByteArray.size]; omega, h3⟩
  have hal : Below w.heap.size w (w.alloc (.cells #[.bool cv.left, .bool cv.plus, .bool cv.blank, .bool cv.zero, .int .i64 cv.width, .int .i64 cv.prec] 57)) := (Below.refl _ _).alloc (Nat.le_refl _) _
  have HAL := Lib.hid hal
  have HC := Lib.hid hc
  obtain ⟨bl, hbl⟩ : ∃ bl, (bareT x).2 = bl := ⟨_, rfl⟩
  rw [hbl] at HB HS
  clear hal hL hx hbl hc
  have HP1 : Hid (S1 = ⟨(wholeP cv x).1.toArray⟩) := by unfold Hid wholeP; rw [HC.out, hS1]; rfl
  have HP2 : Hid (S2 = ⟨(wholeP cv x).2.toArray⟩) := by unfold Hid wholeP; rw [HC.out, hS2]; rfl
  clear hS1 hS2
  cases hf : finB x with
  | false =>
    have HF := Lib.hid hf
    clear hf
    as_aux_lemma =>
      go_enter Tryz.func44, Tryz.ntmps44
      go_wp2_with (first
        | (go_at_call 55; refine (HB.out _ (HL.out.lg.below HAL.out)).mono ?_; rintro e w1 ⟨rfl, hb1⟩; have hb2 := HAL.out.trans (hb1.mono HAL.out.size); have HS1 := Lib.hid ((SpF.new w cv 57).below hb1); obtain ⟨a0, a1, a2, a3, a4, a5⟩ := HS1.out)
        | (go_at_call 56; refine (HS.out _).mono ?_; rintro e w2 ⟨rfl, hb3⟩; have hb4 := hb2.trans (hb3.mono hb2.size); have HS2 := Lib.hid (HS1.out.below hb3); obtain ⟨c0, c1, c2, c3, c4, c5⟩ := HS2.out)
        | (go_at_call 24; refine (HT.out _).mono ?_; rintro e w3 ⟨t, nn, rfl, rfl, HTT⟩; have hb5 := below_drewN hb4 nn))
      go_ret2
      exact whole_nopad S1 S2 HP1.out HP2.out (.inl HF.out) hb5
  | true =>
    have HF := Lib.hid hf
    clear hf
    by_cases hpad : (S2.size : Int) < cv.prec
    · as_aux_lemma =>
        go_enter Tryz.func44, Tryz.ntmps44
        go_wp2_with (first
          | (go_at_call 55; refine (HB.out _ (HL.out.lg.below HAL.out)).mono ?_; rintro e w1 ⟨rfl, hb1⟩; have hb2 := HAL.out.trans (hb1.mono HAL.out.size); have HS1 := Lib.hid ((SpF.new w cv 57).below hb1); obtain ⟨a0, a1, a2, a3, a4, a5⟩ := HS1.out)
          | (go_at_call 56; refine (HS.out _).mono ?_; rintro e w2 ⟨rfl, hb3⟩; have hb4 := hb2.trans (hb3.mono hb2.size); have HS2 := Lib.hid (HS1.out.below hb3); obtain ⟨c0, c1, c2, c3, c4, c5⟩ := HS2.out)
          | (go_at_call 24; refine (HT.out _).mono ?_; rintro e w3 ⟨t, nn, rfl, rfl, HTT⟩; have hb5 := below_drewN hb4 nn)
          | (go_at_call 46; refine (HR.out _ _ (by omega) (by omega)).mono ?_; rintro e w4 ⟨R, rfl, HR2, hRz, hb6⟩; have hb7 := hb5.trans (hb6.mono hb5.size)))
        go_ret2
        exact whole_pad S1 S2 HP1.out HP2.out HF.out hpad R HR2.out hb7
    · as_aux_lemma =>
        go_enter Tryz.func44, Tryz.ntmps44
        go_wp2_with (first
          | (go_at_call 55; refine (HB.out _ (HL.out.lg.below HAL.out)).mono ?_; rintro e w1 ⟨rfl, hb1⟩; have hb2 := HAL.out.trans (hb1.mono HAL.out.size); have HS1 := Lib.hid ((SpF.new w cv 57).below hb1); obtain ⟨a0, a1, a2, a3, a4, a5⟩ := HS1.out)
          | (go_at_call 56; refine (HS.out _).mono ?_; rintro e w2 ⟨rfl, hb3⟩; have hb4 := hb2.trans (hb3.mono hb2.size); have HS2 := Lib.hid (HS1.out.below hb3); obtain ⟨c0, c1, c2, c3, c4, c5⟩ := HS2.out)
          | (go_at_call 24; refine (HT.out _).mono ?_; rintro e w3 ⟨t, nn, rfl, rfl, HTT⟩; have hb5 := below_drewN hb4 nn))
        go_ret2
        exact whole_nopad S1 S2 HP1.out HP2.out (.inr (by omega)) hb5

set_option maxRecDepth 100000 in
set_option maxHeartbeats 2000000 in
theorem whole_i105 (cv : FConv) (hc : cv.c = 105) (x : Nat) (hx : x < 18446744073709551616) (hp : cv.prec ≤ 200) (w : World) (hL : LaidJ w) :
    Calls Tryz.prog 44 #[.agg #[.bool cv.left, .bool cv.plus, .bool cv.blank, .bool cv.zero, .int .i64 cv.width, .int .i64 cv.prec], .int .u8 105, .float .f64 x, .bool (finB x)] w (WholeEnd cv x w) := by
  obtain ⟨S2, hS2⟩ : ∃ S2 : ByteArray, S2 = ⟨(bareT x).1.toArray⟩ := ⟨_, rfl⟩
  obtain ⟨S1, hS1⟩ : ∃ S1 : ByteArray, S1 = ⟨(signT cv.plus cv.blank (bareT x).2).toArray⟩ := ⟨_, rfl⟩
  have hz2 : S2.size ≤ 1000 := by have := (bareT_head x hx).2; rw [hS2]; simpa [ByteArray.size] using this
  have HB : Hid (∀ W, LaidG W → Calls Tryz.prog 55 #[.float .f64 x] W fun e w' => e = .returned (.tuple #[.string S2, .bool (bareT x).2]) ∧ Below W.heap.size W w') := fun W hW => by rw [hS2]; exact bare_any x hx W hW
  have HS : Hid (∀ (W : World), Calls Tryz.prog 56 #[.agg #[.bool cv.left, .bool cv.plus, .bool cv.blank, .bool cv.zero, .int .i64 cv.width, .int .i64 cv.prec], .bool (bareT x).2] W fun e w' => e = .returned (.string S1) ∧ Below W.heap.size W w') := fun W => by rw [hS1]; exact signed_any _ _ _ _ _ _ _ W
  have HT := Lib.hid (fun W => trunc_tests x hx W)
  have HL := Lib.hid hL
  have HR : Hid (∀ (s : Int) (W : World), 0 ≤ s → s ≤ 1000 → Calls Tryz.prog 46 #[.string ⟨#[48]⟩, .int .i64 s] W fun e w' => ∃ R : ByteArray, e = .returned (.string R) ∧ Hid (R = ⟨(List.replicate s.toNat 48).toArray⟩) ∧ R.size ≤ 1000 ∧ Below W.heap.size W w') := fun s W h0 h1 => (repeat_any 48 s.toNat s (by omega) W (by omega)).mono fun e w' ⟨h2, h3⟩ => ⟨_, h2, rfl, by simp [ByteArray.size]; omega, h3⟩
  have hal : Below w.heap.size w (w.alloc (.cells #[.bool cv.left, .bool cv.plus, .bool cv.blank, .bool cv.zero, .int .i64 cv.width, .int .i64 cv.prec] 57)) := (Below.refl _ _).alloc (Nat.le_refl _) _
  have HAL := Lib.hid hal
  have HC := Lib.hid hc
  obtain ⟨bl, hbl⟩ : ∃ bl, (bareT x).2 = bl := ⟨_, rfl⟩
  rw [hbl] at HB HS
  clear hal hL hx hbl hc
  have HP1 : Hid (S1 = ⟨(wholeP cv x).1.toArray⟩) := by unfold Hid wholeP; rw [HC.out, hS1]; rfl
  have HP2 : Hid (S2 = ⟨(wholeP cv x).2.toArray⟩) := by unfold Hid wholeP; rw [HC.out, hS2]; rfl
  clear hS1 hS2
  cases hf : finB x with
  | false =>
    have HF := Lib.hid hf
    clear hf
    as_aux_lemma =>
      go_enter Tryz.func44, Tryz.ntmps44
      go_wp2_with (first
        | (go_at_call 55; refine (HB.out _ (HL.out.lg.below HAL.out)).mono ?_; rintro e w1 ⟨rfl, hb1⟩; have hb2 := HAL.out.trans (hb1.mono HAL.out.size); have HS1 := Lib.hid ((SpF.new w cv 57).below hb1); obtain ⟨a0, a1, a2, a3, a4, a5⟩ := HS1.out)
        | (go_at_call 56; refine (HS.out _).mono ?_; rintro e w2 ⟨rfl, hb3⟩; have hb4 := hb2.trans (hb3.mono hb2.size); have HS2 := Lib.hid (HS1.out.below hb3); obtain ⟨c0, c1, c2, c3, c4, c5⟩ := HS2.out)
        | (go_at_call 24; refine (HT.out _).mono ?_; rintro e w3 ⟨t, nn, rfl, rfl, HTT⟩; have hb5 := below_drewN hb4 nn))
      go_ret2
      exact whole_nopad S1 S2 HP1.out HP2.out (.inl HF.out) hb5
  | true =>
    have HF := Lib.hid hf
    clear hf
    by_cases hpad : (S2.size : Int) < cv.prec
    · as_aux_lemma =>
        go_enter Tryz.func44, Tryz.ntmps44
        go_wp2_with (first
          | (go_at_call 55; refine (HB.out _ (HL.out.lg.below HAL.out)).mono ?_; rintro e w1 ⟨rfl, hb1⟩; have hb2 := HAL.out.trans (hb1.mono HAL.out.size); have HS1 := Lib.hid ((SpF.new w cv 57).below hb1); obtain ⟨a0, a1, a2, a3, a4, a5⟩ := HS1.out)
          | (go_at_call 56; refine (HS.out _).mono ?_; rintro e w2 ⟨rfl, hb3⟩; have hb4 := hb2.trans (hb3.mono hb2.size); have HS2 := Lib.hid (HS1.out.below hb3); obtain ⟨c0, c1, c2, c3, c4, c5⟩ := HS2.out)
          | (go_at_call 24; refine (HT.out _).mono ?_; rintro e w3 ⟨t, nn, rfl, rfl, HTT⟩; have hb5 := below_drewN hb4 nn)
          | (go_at_call 46; refine (HR.out _ _ (by omega) (by omega)).mono ?_; rintro e w4 ⟨R, rfl, HR2, hRz, hb6⟩; have hb7 := hb5.trans (hb6.mono hb5.size)))
        go_ret2
        exact whole_pad S1 S2 HP1.out HP2.out HF.out hpad R HR2.out hb7
    · as_aux_lemma =>
        go_enter Tryz.func44, Tryz.ntmps44
        go_wp2_with (first
          | (go_at_call 55; refine (HB.out _ (HL.out.lg.below HAL.out)).mono ?_; rintro e w1 ⟨rfl, hb1⟩; have hb2 := HAL.out.trans (hb1.mono HAL.out.size); have HS1 := Lib.hid ((SpF.new w cv 57).below hb1); obtain ⟨a0, a1, a2, a3, a4, a5⟩ := HS1.out)
          | (go_at_call 56; refine (HS.out _).mono ?_; rintro e w2 ⟨rfl, hb3⟩; have hb4 := hb2.trans (hb3.mono hb2.size); have HS2 := Lib.hid (HS1.out.below hb3); obtain ⟨c0, c1, c2, c3, c4, c5⟩ := HS2.out)
          | (go_at_call 24; refine (HT.out _).mono ?_; rintro e w3 ⟨t, nn, rfl, rfl, HTT⟩; have hb5 := below_drewN hb4 nn))
        go_ret2
        exact whole_nopad S1 S2 HP1.out HP2.out (.inr (by omega)) hb5

set_option maxRecDepth 100000 in
set_option maxHeartbeats 2000000 in
theorem whole_u117 (cv : FConv) (hc : cv.c = 117) (x : Nat) (hx : x < 18446744073709551616) (hp : cv.prec ≤ 200) (w : World) (hL : LaidJ w) :
    Calls Tryz.prog 44 #[.agg #[.bool cv.left, .bool cv.plus, .bool cv.blank, .bool cv.zero, .int .i64 cv.width, .int .i64 cv.prec], .int .u8 117, .float .f64 x, .bool (finB x)] w (WholeEnd cv x w) := by
  obtain ⟨S2, hS2⟩ : ∃ S2 : ByteArray, S2 = ⟨(bareT x).1.toArray⟩ := ⟨_, rfl⟩
  obtain ⟨S1, hS1⟩ : ∃ S1 : ByteArray, S1 = ⟨(signT false false (bareT x).2).toArray⟩ := ⟨_, rfl⟩
  have hz2 : S2.size ≤ 1000 := by have := (bareT_head x hx).2; rw [hS2]; simpa [ByteArray.size] using this
  have HB : Hid (∀ W, LaidG W → Calls Tryz.prog 55 #[.float .f64 x] W fun e w' => e = .returned (.tuple #[.string S2, .bool (bareT x).2]) ∧ Below W.heap.size W w') := fun W hW => by rw [hS2]; exact bare_any x hx W hW
  have HS : Hid (∀ (W : World), Calls Tryz.prog 56 #[.agg #[.bool false, .bool false, .bool false, .bool false, .int .i64 0, .int .i64 0], .bool (bareT x).2] W fun e w' => e = .returned (.string S1) ∧ Below W.heap.size W w') := fun W => by rw [hS1]; exact signed_any _ _ _ _ _ _ _ W
  have HT := Lib.hid (fun W => trunc_tests x hx W)
  have HL := Lib.hid hL
  have HR : Hid (∀ (s : Int) (W : World), 0 ≤ s → s ≤ 1000 → Calls Tryz.prog 46 #[.string ⟨#[48]⟩, .int .i64 s] W fun e w' => ∃ R : ByteArray, e = .returned (.string R) ∧ Hid (R = ⟨(List.replicate s.toNat 48).toArray⟩) ∧ R.size ≤ 1000 ∧ Below W.heap.size W w') := fun s W h0 h1 => (repeat_any 48 s.toNat s (by omega) W (by omega)).mono fun e w' ⟨h2, h3⟩ => ⟨_, h2, rfl, by simp [ByteArray.size]; omega, h3⟩
  have hal : Below w.heap.size w (w.alloc (.cells #[.bool cv.left, .bool cv.plus, .bool cv.blank, .bool cv.zero, .int .i64 cv.width, .int .i64 cv.prec] 57)) := (Below.refl _ _).alloc (Nat.le_refl _) _
  have HAL := Lib.hid hal
  have HC := Lib.hid hc
  obtain ⟨bl, hbl⟩ : ∃ bl, (bareT x).2 = bl := ⟨_, rfl⟩
  rw [hbl] at HB HS
  clear hal hL hx hbl hc
  have HP1 : Hid (S1 = ⟨(wholeP cv x).1.toArray⟩) := by unfold Hid wholeP; rw [HC.out, hS1]; rfl
  have HP2 : Hid (S2 = ⟨(wholeP cv x).2.toArray⟩) := by unfold Hid wholeP; rw [HC.out, hS2]; rfl
  clear hS1 hS2
  cases hf : finB x with
  | false =>
    have HF := Lib.hid hf
    clear hf
    as_aux_lemma =>
      go_enter Tryz.func44, Tryz.ntmps44
      go_wp2_with (first
        | (go_at_call 55; refine (HB.out _ (HL.out.lg.below HAL.out)).mono ?_; rintro e w1 ⟨rfl, hb1⟩; have hb2 := HAL.out.trans (hb1.mono HAL.out.size); have HS1 := Lib.hid ((SpF.new w cv 57).below hb1); obtain ⟨a0, a1, a2, a3, a4, a5⟩ := HS1.out)
        | (go_at_call 56; refine (HS.out _).mono ?_; rintro e w2 ⟨rfl, hb3⟩; have hb4 := hb2.trans (hb3.mono hb2.size); have HS2 := Lib.hid (HS1.out.below hb3); obtain ⟨c0, c1, c2, c3, c4, c5⟩ := HS2.out)
        | (go_at_call 24; refine (HT.out _).mono ?_; rintro e w3 ⟨t, nn, rfl, rfl, HTT⟩; have hb5 := below_drewN hb4 nn))
      go_ret2
      exact whole_nopad S1 S2 HP1.out HP2.out (.inl HF.out) hb5
  | true =>
    have HF := Lib.hid hf
    clear hf
    by_cases hpad : (S2.size : Int) < cv.prec
    · as_aux_lemma =>
        go_enter Tryz.func44, Tryz.ntmps44
        go_wp2_with (first
          | (go_at_call 55; refine (HB.out _ (HL.out.lg.below HAL.out)).mono ?_; rintro e w1 ⟨rfl, hb1⟩; have hb2 := HAL.out.trans (hb1.mono HAL.out.size); have HS1 := Lib.hid ((SpF.new w cv 57).below hb1); obtain ⟨a0, a1, a2, a3, a4, a5⟩ := HS1.out)
          | (go_at_call 56; refine (HS.out _).mono ?_; rintro e w2 ⟨rfl, hb3⟩; have hb4 := hb2.trans (hb3.mono hb2.size); have HS2 := Lib.hid (HS1.out.below hb3); obtain ⟨c0, c1, c2, c3, c4, c5⟩ := HS2.out)
          | (go_at_call 24; refine (HT.out _).mono ?_; rintro e w3 ⟨t, nn, rfl, rfl, HTT⟩; have hb5 := below_drewN hb4 nn)
          | (go_at_call 46; refine (HR.out _ _ (by omega) (by omega)).mono ?_; rintro e w4 ⟨R, rfl, HR2, hRz, hb6⟩; have hb7 := hb5.trans (hb6.mono hb5.size)))
        go_ret2
        exact whole_pad S1 S2 HP1.out HP2.out HF.out hpad R HR2.out hb7
    · as_aux_lemma =>
        go_enter Tryz.func44, Tryz.ntmps44
        go_wp2_with (first
          | (go_at_call 55; refine (HB.out _ (HL.out.lg.below HAL.out)).mono ?_; rintro e w1 ⟨rfl, hb1⟩; have hb2 := HAL.out.trans (hb1.mono HAL.out.size); have HS1 := Lib.hid ((SpF.new w cv 57).below hb1); obtain ⟨a0, a1, a2, a3, a4, a5⟩ := HS1.out)
          | (go_at_call 56; refine (HS.out _).mono ?_; rintro e w2 ⟨rfl, hb3⟩; have hb4 := hb2.trans (hb3.mono hb2.size); have HS2 := Lib.hid (HS1.out.below hb3); obtain ⟨c0, c1, c2, c3, c4, c5⟩ := HS2.out)
          | (go_at_call 24; refine (HT.out _).mono ?_; rintro e w3 ⟨t, nn, rfl, rfl, HTT⟩; have hb5 := below_drewN hb4 nn))
        go_ret2
        exact whole_nopad S1 S2 HP1.out HP2.out (.inr (by omega)) hb5

set_option maxRecDepth 100000 in
set_option maxHeartbeats 2000000 in
theorem whole_o111 (cv : FConv) (hc : cv.c = 111) (x : Nat) (hx : x < 18446744073709551616) (hp : cv.prec ≤ 200) (w : World) (hL : LaidJ w) :
    Calls Tryz.prog 44 #[.agg #[.bool cv.left, .bool cv.plus, .bool cv.blank, .bool cv.zero, .int .i64 cv.width, .int .i64 cv.prec], .int .u8 111, .float .f64 x, .bool (finB x)] w (WholeEnd cv x w) := by
  obtain ⟨S2, hS2⟩ : ∃ S2 : ByteArray, S2 = ⟨(bareT x).1.toArray⟩ := ⟨_, rfl⟩
  obtain ⟨S1, hS1⟩ : ∃ S1 : ByteArray, S1 = ⟨(signT false false (bareT x).2).toArray⟩ := ⟨_, rfl⟩
  have hz2 : S2.size ≤ 1000 := by have := (bareT_head x hx).2; rw [hS2]; simpa [ByteArray.size] using this
  have HB : Hid (∀ W, LaidG W → Calls Tryz.prog 55 #[.float .f64 x] W fun e w' => e = .returned (.tuple #[.string S2, .bool (bareT x).2]) ∧ Below W.heap.size W w') := fun W hW => by rw [hS2]; exact bare_any x hx W hW
  have HS : Hid (∀ (W : World), Calls Tryz.prog 56 #[.agg #[.bool false, .bool false, .bool false, .bool false, .int .i64 0, .int .i64 0], .bool (bareT x).2] W fun e w' => e = .returned (.string S1) ∧ Below W.heap.size W w') := fun W => by rw [hS1]; exact signed_any _ _ _ _ _ _ _ W
  have HW := trunc_ways x hx
  have HL := Lib.hid hL
  have HR : Hid (∀ (s : Int) (W : World), 0 ≤ s → s ≤ 1000 → Calls Tryz.prog 46 #[.string ⟨#[48]⟩, .int .i64 s] W fun e w' => ∃ R : ByteArray, e = .returned (.string R) ∧ Hid (R = ⟨(List.replicate s.toNat 48).toArray⟩) ∧ R.size ≤ 1000 ∧ Below W.heap.size W w') := fun s W h0 h1 => (repeat_any 48 s.toNat s (by omega) W (by omega)).mono fun e w' ⟨h2, h3⟩ => ⟨_, h2, rfl, by simp [ByteArray.size]; omega, h3⟩
  have hal : Below w.heap.size w (w.alloc (.cells #[.bool cv.left, .bool cv.plus, .bool cv.blank, .bool cv.zero, .int .i64 cv.width, .int .i64 cv.prec] 57)) := (Below.refl _ _).alloc (Nat.le_refl _) _
  have HAL := Lib.hid hal
  have HC := Lib.hid hc
  obtain ⟨bl, hbl⟩ : ∃ bl, (bareT x).2 = bl := ⟨_, rfl⟩
  rw [hbl] at HB HS
  have HU : Hid (∀ (v : Nat) W, v < 18446744073709551616 → LaidJ W → Calls Tryz.prog 57 #[.int .u64 v, .int .i64 8] W fun e w' => e = .returned (.string ⟨(uintT v 8).toArray⟩) ∧ Below W.heap.size W w') := fun v W hv hW => uint8_any v W hW hv
  clear hal hL hx hc
  rcases HW with ⟨hin, HT'⟩ | ⟨hin, HT'⟩ | ⟨hin, HT'⟩
  · obtain ⟨i1, i2, i3⟩ := (inB_iff x).1 hin
    obtain ⟨v, hv⟩ : ∃ v : Nat, valT x = v := ⟨(valT x).toNat, by omega⟩
    have hv64 : v < 18446744073709551616 := by omega
    have HF := Lib.hid i1
    obtain ⟨U, hU⟩ : ∃ U : ByteArray, U = ⟨(uintT v 8).toArray⟩ := ⟨_, rfl⟩
    have HP1 : Hid (⟨#[]⟩ = (⟨(wholeP cv x).1.toArray⟩ : ByteArray)) := by
      unfold Hid wholeP
      rw [HC.out]
      dsimp only
      rw [if_pos ⟨by decide, i1, i2, i3⟩]
    have HP2 : Hid (U = ⟨(wholeP cv x).2.toArray⟩) := by
      unfold Hid wholeP
      rw [HC.out]
      dsimp only
      rw [if_pos ⟨by decide, i1, i2, i3⟩, hU, hv]; rfl
    have hUz : U.size ≤ 1000 := by
      have h := (uintT_ok v 8 (by omega)).1
      rw [hU]
      show (uintT v 8).toArray.size ≤ 1000
      rw [List.size_toArray]; omega
    have HT := Lib.hid HT'
    rw [i1]
    have HU2 : Hid (∀ W, LaidJ W → Calls Tryz.prog 57 #[.int .u64 v, .int .i64 8] W fun e w' => e = .returned (.string U) ∧ Below W.heap.size W w') := fun W hW => by rw [hU]; exact HU.out v W hv64 hW
    clear hU i1 i2 i3 hS1 hS2 HT' hin hbl
    by_cases hpad : (U.size : Int) < cv.prec
    · as_aux_lemma =>
        go_enter Tryz.func44, Tryz.ntmps44
        go_wp2_with (first
          | (go_at_call 55; refine (HB.out _ (HL.out.lg.below HAL.out)).mono ?_; rintro e w1 ⟨rfl, hb1⟩; have hb2 := HAL.out.trans (hb1.mono HAL.out.size); have HS1 := Lib.hid ((SpF.new w cv 57).below hb1); obtain ⟨a0, a1, a2, a3, a4, a5⟩ := HS1.out)
          | (go_at_call 56; refine (HS.out _).mono ?_; rintro e w2 ⟨rfl, hb3⟩; have hb4 := hb2.trans (hb3.mono hb2.size); have HS2 := Lib.hid (HS1.out.below hb3); obtain ⟨c0, c1, c2, c3, c4, c5⟩ := HS2.out)
          | (go_at_call 24; refine (HT.out _).mono ?_; rintro e w3 ⟨t, nn, rfl, rfl, g1, g2, g3⟩; have hb5 := below_drewN hb4 nn; rw [hv] at g3)
          | (go_at_call 57; refine (HU2.out _ (HL.out.below hb5)).mono ?_; rintro e w6 ⟨rfl, hb6⟩; have hbz := hb5.trans (hb6.mono hb5.size); obtain ⟨d0, d1, d2, d3, d4, d5⟩ := HS2.out.below ((below_drewN (Below.refl _ _) nn).trans hb6))
          | (go_at_call 46; refine (HR.out _ _ (by omega) (by omega)).mono ?_; rintro e w9 ⟨R, rfl, HR2, hRz, hb8⟩; have hb9 := hbz.trans (hb8.mono hbz.size)))
        go_ret2
        exact whole_pad ⟨#[]⟩ U HP1.out HP2.out HF.out hpad R HR2.out hb9
    · as_aux_lemma =>
        go_enter Tryz.func44, Tryz.ntmps44
        go_wp2_with (first
          | (go_at_call 55; refine (HB.out _ (HL.out.lg.below HAL.out)).mono ?_; rintro e w1 ⟨rfl, hb1⟩; have hb2 := HAL.out.trans (hb1.mono HAL.out.size); have HS1 := Lib.hid ((SpF.new w cv 57).below hb1); obtain ⟨a0, a1, a2, a3, a4, a5⟩ := HS1.out)
          | (go_at_call 56; refine (HS.out _).mono ?_; rintro e w2 ⟨rfl, hb3⟩; have hb4 := hb2.trans (hb3.mono hb2.size); have HS2 := Lib.hid (HS1.out.below hb3); obtain ⟨c0, c1, c2, c3, c4, c5⟩ := HS2.out)
          | (go_at_call 24; refine (HT.out _).mono ?_; rintro e w3 ⟨t, nn, rfl, rfl, g1, g2, g3⟩; have hb5 := below_drewN hb4 nn; rw [hv] at g3)
          | (go_at_call 57; refine (HU2.out _ (HL.out.below hb5)).mono ?_; rintro e w6 ⟨rfl, hb6⟩; have hbz := hb5.trans (hb6.mono hb5.size); obtain ⟨d0, d1, d2, d3, d4, d5⟩ := HS2.out.below ((below_drewN (Below.refl _ _) nn).trans hb6)))
        go_ret2
        exact whole_nopad ⟨#[]⟩ U HP1.out HP2.out (.inr (by omega)) hbz
  · have hno : ¬ (finB x = true ∧ 0 ≤ valT x ∧ valT x < 18446744073709551616) := fun h => by rw [(inB_iff x).2 h] at hin; cases hin
    have HP1 : Hid (S1 = ⟨(wholeP cv x).1.toArray⟩) := by
      unfold Hid wholeP
      rw [HC.out]
      dsimp only
      rw [if_neg (fun h => hno h.2), hS1, hbl]; rfl
    have HP2 : Hid (S2 = ⟨(wholeP cv x).2.toArray⟩) := by
      unfold Hid wholeP
      rw [HC.out]
      dsimp only
      rw [if_neg (fun h => hno h.2), hS2]
    have HT := Lib.hid HT'
    clear hno hS1 hS2 HT' hin hbl
    cases hf : finB x with
    | false =>
      have HF := Lib.hid hf
      clear hf
      as_aux_lemma =>
        go_enter Tryz.func44, Tryz.ntmps44
        go_wp2_with (first
          | (go_at_call 55; refine (HB.out _ (HL.out.lg.below HAL.out)).mono ?_; rintro e w1 ⟨rfl, hb1⟩; have hb2 := HAL.out.trans (hb1.mono HAL.out.size); have HS1 := Lib.hid ((SpF.new w cv 57).below hb1); obtain ⟨a0, a1, a2, a3, a4, a5⟩ := HS1.out)
          | (go_at_call 56; refine (HS.out _).mono ?_; rintro e w2 ⟨rfl, hb3⟩; have hb4 := hb2.trans (hb3.mono hb2.size); have HS2 := Lib.hid (HS1.out.below hb3); obtain ⟨c0, c1, c2, c3, c4, c5⟩ := HS2.out)
          | (go_at_call 24; refine (HT.out _).mono ?_; rintro e w3 ⟨t, nn, rfl, rfl, HTT⟩; have hbz := below_drewN hb4 nn; have g1 := HTT; unfold TrB at g1))
        go_ret2
        exact whole_nopad S1 S2 HP1.out HP2.out (.inl HF.out) hbz
    | true =>
      have HF := Lib.hid hf
      clear hf
      by_cases hpad : (S2.size : Int) < cv.prec
      · as_aux_lemma =>
          go_enter Tryz.func44, Tryz.ntmps44
          go_wp2_with (first
            | (go_at_call 55; refine (HB.out _ (HL.out.lg.below HAL.out)).mono ?_; rintro e w1 ⟨rfl, hb1⟩; have hb2 := HAL.out.trans (hb1.mono HAL.out.size); have HS1 := Lib.hid ((SpF.new w cv 57).below hb1); obtain ⟨a0, a1, a2, a3, a4, a5⟩ := HS1.out)
            | (go_at_call 56; refine (HS.out _).mono ?_; rintro e w2 ⟨rfl, hb3⟩; have hb4 := hb2.trans (hb3.mono hb2.size); have HS2 := Lib.hid (HS1.out.below hb3); obtain ⟨c0, c1, c2, c3, c4, c5⟩ := HS2.out)
            | (go_at_call 24; refine (HT.out _).mono ?_; rintro e w3 ⟨t, nn, rfl, rfl, HTT⟩; have hbz := below_drewN hb4 nn; have g1 := HTT; unfold TrB at g1)
            | (go_at_call 46; refine (HR.out _ _ (by omega) (by omega)).mono ?_; rintro e w9 ⟨R, rfl, HR2, hRz, hb8⟩; have hb9 := hbz.trans (hb8.mono hbz.size)))
          go_ret2
          exact whole_pad S1 S2 HP1.out HP2.out HF.out hpad R HR2.out hb9
      · as_aux_lemma =>
          go_enter Tryz.func44, Tryz.ntmps44
          go_wp2_with (first
            | (go_at_call 55; refine (HB.out _ (HL.out.lg.below HAL.out)).mono ?_; rintro e w1 ⟨rfl, hb1⟩; have hb2 := HAL.out.trans (hb1.mono HAL.out.size); have HS1 := Lib.hid ((SpF.new w cv 57).below hb1); obtain ⟨a0, a1, a2, a3, a4, a5⟩ := HS1.out)
            | (go_at_call 56; refine (HS.out _).mono ?_; rintro e w2 ⟨rfl, hb3⟩; have hb4 := hb2.trans (hb3.mono hb2.size); have HS2 := Lib.hid (HS1.out.below hb3); obtain ⟨c0, c1, c2, c3, c4, c5⟩ := HS2.out)
            | (go_at_call 24; refine (HT.out _).mono ?_; rintro e w3 ⟨t, nn, rfl, rfl, HTT⟩; have hbz := below_drewN hb4 nn; have g1 := HTT; unfold TrB at g1))
          go_ret2
          exact whole_nopad S1 S2 HP1.out HP2.out (.inr (by omega)) hbz
  · have hno : ¬ (finB x = true ∧ 0 ≤ valT x ∧ valT x < 18446744073709551616) := fun h => by rw [(inB_iff x).2 h] at hin; cases hin
    have HP1 : Hid (S1 = ⟨(wholeP cv x).1.toArray⟩) := by
      unfold Hid wholeP
      rw [HC.out]
      dsimp only
      rw [if_neg (fun h => hno h.2), hS1, hbl]; rfl
    have HP2 : Hid (S2 = ⟨(wholeP cv x).2.toArray⟩) := by
      unfold Hid wholeP
      rw [HC.out]
      dsimp only
      rw [if_neg (fun h => hno h.2), hS2]
    have HT := Lib.hid HT'
    clear hno hS1 hS2 HT' hin hbl
    cases hf : finB x with
    | false =>
      have HF := Lib.hid hf
      clear hf
      as_aux_lemma =>
        go_enter Tryz.func44, Tryz.ntmps44
        go_wp2_with (first
          | (go_at_call 55; refine (HB.out _ (HL.out.lg.below HAL.out)).mono ?_; rintro e w1 ⟨rfl, hb1⟩; have hb2 := HAL.out.trans (hb1.mono HAL.out.size); have HS1 := Lib.hid ((SpF.new w cv 57).below hb1); obtain ⟨a0, a1, a2, a3, a4, a5⟩ := HS1.out)
          | (go_at_call 56; refine (HS.out _).mono ?_; rintro e w2 ⟨rfl, hb3⟩; have hb4 := hb2.trans (hb3.mono hb2.size); have HS2 := Lib.hid (HS1.out.below hb3); obtain ⟨c0, c1, c2, c3, c4, c5⟩ := HS2.out)
          | (go_at_call 24; refine (HT.out _).mono ?_; rintro e w3 ⟨t, nn, rfl, rfl, HTT⟩; have hbz := below_drewN hb4 nn; have g1 := HTT; obtain ⟨g1, g2⟩ := HTT))
        go_ret2
        exact whole_nopad S1 S2 HP1.out HP2.out (.inl HF.out) hbz
    | true =>
      have HF := Lib.hid hf
      clear hf
      by_cases hpad : (S2.size : Int) < cv.prec
      · as_aux_lemma =>
          go_enter Tryz.func44, Tryz.ntmps44
          go_wp2_with (first
            | (go_at_call 55; refine (HB.out _ (HL.out.lg.below HAL.out)).mono ?_; rintro e w1 ⟨rfl, hb1⟩; have hb2 := HAL.out.trans (hb1.mono HAL.out.size); have HS1 := Lib.hid ((SpF.new w cv 57).below hb1); obtain ⟨a0, a1, a2, a3, a4, a5⟩ := HS1.out)
            | (go_at_call 56; refine (HS.out _).mono ?_; rintro e w2 ⟨rfl, hb3⟩; have hb4 := hb2.trans (hb3.mono hb2.size); have HS2 := Lib.hid (HS1.out.below hb3); obtain ⟨c0, c1, c2, c3, c4, c5⟩ := HS2.out)
            | (go_at_call 24; refine (HT.out _).mono ?_; rintro e w3 ⟨t, nn, rfl, rfl, HTT⟩; have hbz := below_drewN hb4 nn; have g1 := HTT; obtain ⟨g1, g2⟩ := HTT)
            | (go_at_call 46; refine (HR.out _ _ (by omega) (by omega)).mono ?_; rintro e w9 ⟨R, rfl, HR2, hRz, hb8⟩; have hb9 := hbz.trans (hb8.mono hbz.size)))
          go_ret2
          exact whole_pad S1 S2 HP1.out HP2.out HF.out hpad R HR2.out hb9
      · as_aux_lemma =>
          go_enter Tryz.func44, Tryz.ntmps44
          go_wp2_with (first
            | (go_at_call 55; refine (HB.out _ (HL.out.lg.below HAL.out)).mono ?_; rintro e w1 ⟨rfl, hb1⟩; have hb2 := HAL.out.trans (hb1.mono HAL.out.size); have HS1 := Lib.hid ((SpF.new w cv 57).below hb1); obtain ⟨a0, a1, a2, a3, a4, a5⟩ := HS1.out)
            | (go_at_call 56; refine (HS.out _).mono ?_; rintro e w2 ⟨rfl, hb3⟩; have hb4 := hb2.trans (hb3.mono hb2.size); have HS2 := Lib.hid (HS1.out.below hb3); obtain ⟨c0, c1, c2, c3, c4, c5⟩ := HS2.out)
            | (go_at_call 24; refine (HT.out _).mono ?_; rintro e w3 ⟨t, nn, rfl, rfl, HTT⟩; have hbz := below_drewN hb4 nn; have g1 := HTT; obtain ⟨g1, g2⟩ := HTT))
          go_ret2
          exact whole_nopad S1 S2 HP1.out HP2.out (.inr (by omega)) hbz

set_option maxRecDepth 100000 in
set_option maxHeartbeats 2000000 in
theorem whole_x120 (cv : FConv) (hc : cv.c = 120) (x : Nat) (hx : x < 18446744073709551616) (hp : cv.prec ≤ 200) (w : World) (hL : LaidJ w) :
    Calls Tryz.prog 44 #[.agg #[.bool cv.left, .bool cv.plus, .bool cv.blank, .bool cv.zero, .int .i64 cv.width, .int .i64 cv.prec], .int .u8 120, .float .f64 x, .bool (finB x)] w (WholeEnd cv x w) := by
  obtain ⟨S2, hS2⟩ : ∃ S2 : ByteArray, S2 = ⟨(bareT x).1.toArray⟩ := ⟨_, rfl⟩
  obtain ⟨S1, hS1⟩ : ∃ S1 : ByteArray, S1 = ⟨(signT false false (bareT x).2).toArray⟩ := ⟨_, rfl⟩
  have hz2 : S2.size ≤ 1000 := by have := (bareT_head x hx).2; rw [hS2]; simpa [ByteArray.size] using this
  have HB : Hid (∀ W, LaidG W → Calls Tryz.prog 55 #[.float .f64 x] W fun e w' => e = .returned (.tuple #[.string S2, .bool (bareT x).2]) ∧ Below W.heap.size W w') := fun W hW => by rw [hS2]; exact bare_any x hx W hW
  have HS : Hid (∀ (W : World), Calls Tryz.prog 56 #[.agg #[.bool false, .bool false, .bool false, .bool false, .int .i64 0, .int .i64 0], .bool (bareT x).2] W fun e w' => e = .returned (.string S1) ∧ Below W.heap.size W w') := fun W => by rw [hS1]; exact signed_any _ _ _ _ _ _ _ W
  have HW := trunc_ways x hx
  have HL := Lib.hid hL
  have HR : Hid (∀ (s : Int) (W : World), 0 ≤ s → s ≤ 1000 → Calls Tryz.prog 46 #[.string ⟨#[48]⟩, .int .i64 s] W fun e w' => ∃ R : ByteArray, e = .returned (.string R) ∧ Hid (R = ⟨(List.replicate s.toNat 48).toArray⟩) ∧ R.size ≤ 1000 ∧ Below W.heap.size W w') := fun s W h0 h1 => (repeat_any 48 s.toNat s (by omega) W (by omega)).mono fun e w' ⟨h2, h3⟩ => ⟨_, h2, rfl, by simp [ByteArray.size]; omega, h3⟩
  have hal : Below w.heap.size w (w.alloc (.cells #[.bool cv.left, .bool cv.plus, .bool cv.blank, .bool cv.zero, .int .i64 cv.width, .int .i64 cv.prec] 57)) := (Below.refl _ _).alloc (Nat.le_refl _) _
  have HAL := Lib.hid hal
  have HC := Lib.hid hc
  obtain ⟨bl, hbl⟩ : ∃ bl, (bareT x).2 = bl := ⟨_, rfl⟩
  rw [hbl] at HB HS
  have HU : Hid (∀ (v : Nat) W, v < 18446744073709551616 → LaidJ W → Calls Tryz.prog 57 #[.int .u64 v, .int .i64 16] W fun e w' => e = .returned (.string ⟨(uintT v 16).toArray⟩) ∧ Below W.heap.size W w') := fun v W hv hW => uint16_any v W hW hv
  clear hal hL hx hc
  rcases HW with ⟨hin, HT'⟩ | ⟨hin, HT'⟩ | ⟨hin, HT'⟩
  · obtain ⟨i1, i2, i3⟩ := (inB_iff x).1 hin
    obtain ⟨v, hv⟩ : ∃ v : Nat, valT x = v := ⟨(valT x).toNat, by omega⟩
    have hv64 : v < 18446744073709551616 := by omega
    have HF := Lib.hid i1
    obtain ⟨U, hU⟩ : ∃ U : ByteArray, U = ⟨(uintT v 16).toArray⟩ := ⟨_, rfl⟩
    have HP1 : Hid (⟨#[]⟩ = (⟨(wholeP cv x).1.toArray⟩ : ByteArray)) := by
      unfold Hid wholeP
      rw [HC.out]
      dsimp only
      rw [if_pos ⟨by decide, i1, i2, i3⟩]
    have HP2 : Hid (U = ⟨(wholeP cv x).2.toArray⟩) := by
      unfold Hid wholeP
      rw [HC.out]
      dsimp only
      rw [if_pos ⟨by decide, i1, i2, i3⟩, hU, hv]; rfl
    have hUz : U.size ≤ 1000 := by
      have h := (uintT_ok v 16 (by omega)).1
      rw [hU]
      show (uintT v 16).toArray.size ≤ 1000
      rw [List.size_toArray]; omega
    have HT := Lib.hid HT'
    rw [i1]
    have HU2 : Hid (∀ W, LaidJ W → Calls Tryz.prog 57 #[.int .u64 v, .int .i64 16] W fun e w' => e = .returned (.string U) ∧ Below W.heap.size W w') := fun W hW => by rw [hU]; exact HU.out v W hv64 hW
    clear hU i1 i2 i3 hS1 hS2 HT' hin hbl
    by_cases hpad : (U.size : Int) < cv.prec
    · as_aux_lemma =>
        go_enter Tryz.func44, Tryz.ntmps44
        go_wp2_with (first
          | (go_at_call 55; refine (HB.out _ (HL.out.lg.below HAL.out)).mono ?_; rintro e w1 ⟨rfl, hb1⟩; have hb2 := HAL.out.trans (hb1.mono HAL.out.size); have HS1 := Lib.hid ((SpF.new w cv 57).below hb1); obtain ⟨a0, a1, a2, a3, a4, a5⟩ := HS1.out)
          | (go_at_call 56; refine (HS.out _).mono ?_; rintro e w2 ⟨rfl, hb3⟩; have hb4 := hb2.trans (hb3.mono hb2.size); have HS2 := Lib.hid (HS1.out.below hb3); obtain ⟨c0, c1, c2, c3, c4, c5⟩ := HS2.out)
          | (go_at_call 24; refine (HT.out _).mono ?_; rintro e w3 ⟨t, nn, rfl, rfl, g1, g2, g3⟩; have hb5 := below_drewN hb4 nn; rw [hv] at g3)
          | (go_at_call 57; refine (HU2.out _ (HL.out.below hb5)).mono ?_; rintro e w6 ⟨rfl, hb6⟩; have hbz := hb5.trans (hb6.mono hb5.size); obtain ⟨d0, d1, d2, d3, d4, d5⟩ := HS2.out.below ((below_drewN (Below.refl _ _) nn).trans hb6))
          | (go_at_call 46; refine (HR.out _ _ (by omega) (by omega)).mono ?_; rintro e w9 ⟨R, rfl, HR2, hRz, hb8⟩; have hb9 := hbz.trans (hb8.mono hbz.size)))
        go_ret2
        exact whole_pad ⟨#[]⟩ U HP1.out HP2.out HF.out hpad R HR2.out hb9
    · as_aux_lemma =>
        go_enter Tryz.func44, Tryz.ntmps44
        go_wp2_with (first
          | (go_at_call 55; refine (HB.out _ (HL.out.lg.below HAL.out)).mono ?_; rintro e w1 ⟨rfl, hb1⟩; have hb2 := HAL.out.trans (hb1.mono HAL.out.size); have HS1 := Lib.hid ((SpF.new w cv 57).below hb1); obtain ⟨a0, a1, a2, a3, a4, a5⟩ := HS1.out)
          | (go_at_call 56; refine (HS.out _).mono ?_; rintro e w2 ⟨rfl, hb3⟩; have hb4 := hb2.trans (hb3.mono hb2.size); have HS2 := Lib.hid (HS1.out.below hb3); obtain ⟨c0, c1, c2, c3, c4, c5⟩ := HS2.out)
          | (go_at_call 24; refine (HT.out _).mono ?_; rintro e w3 ⟨t, nn, rfl, rfl, g1, g2, g3⟩; have hb5 := below_drewN hb4 nn; rw [hv] at g3)
          | (go_at_call 57; refine (HU2.out _ (HL.out.below hb5)).mono ?_; rintro e w6 ⟨rfl, hb6⟩; have hbz := hb5.trans (hb6.mono hb5.size); obtain ⟨d0, d1, d2, d3, d4, d5⟩ := HS2.out.below ((below_drewN (Below.refl _ _) nn).trans hb6)))
        go_ret2
        exact whole_nopad ⟨#[]⟩ U HP1.out HP2.out (.inr (by omega)) hbz
  · have hno : ¬ (finB x = true ∧ 0 ≤ valT x ∧ valT x < 18446744073709551616) := fun h => by rw [(inB_iff x).2 h] at hin; cases hin
    have HP1 : Hid (S1 = ⟨(wholeP cv x).1.toArray⟩) := by
      unfold Hid wholeP
      rw [HC.out]
      dsimp only
      rw [if_neg (fun h => hno h.2), hS1, hbl]; rfl
    have HP2 : Hid (S2 = ⟨(wholeP cv x).2.toArray⟩) := by
      unfold Hid wholeP
      rw [HC.out]
      dsimp only
      rw [if_neg (fun h => hno h.2), hS2]
    have HT := Lib.hid HT'
    clear hno hS1 hS2 HT' hin hbl
    cases hf : finB x with
    | false =>
      have HF := Lib.hid hf
      clear hf
      as_aux_lemma =>
        go_enter Tryz.func44, Tryz.ntmps44
        go_wp2_with (first
          | (go_at_call 55; refine (HB.out _ (HL.out.lg.below HAL.out)).mono ?_; rintro e w1 ⟨rfl, hb1⟩; have hb2 := HAL.out.trans (hb1.mono HAL.out.size); have HS1 := Lib.hid ((SpF.new w cv 57).below hb1); obtain ⟨a0, a1, a2, a3, a4, a5⟩ := HS1.out)
          | (go_at_call 56; refine (HS.out _).mono ?_; rintro e w2 ⟨rfl, hb3⟩; have hb4 := hb2.trans (hb3.mono hb2.size); have HS2 := Lib.hid (HS1.out.below hb3); obtain ⟨c0, c1, c2, c3, c4, c5⟩ := HS2.out)
          | (go_at_call 24; refine (HT.out _).mono ?_; rintro e w3 ⟨t, nn, rfl, rfl, HTT⟩; have hbz := below_drewN hb4 nn; have g1 := HTT; unfold TrB at g1))
        go_ret2
        exact whole_nopad S1 S2 HP1.out HP2.out (.inl HF.out) hbz
    | true =>
      have HF := Lib.hid hf
      clear hf
      by_cases hpad : (S2.size : Int) < cv.prec
      · as_aux_lemma =>
          go_enter Tryz.func44, Tryz.ntmps44
          go_wp2_with (first
            | (go_at_call 55; refine (HB.out _ (HL.out.lg.below HAL.out)).mono ?_; rintro e w1 ⟨rfl, hb1⟩; have hb2 := HAL.out.trans (hb1.mono HAL.out.size); have HS1 := Lib.hid ((SpF.new w cv 57).below hb1); obtain ⟨a0, a1, a2, a3, a4, a5⟩ := HS1.out)
            | (go_at_call 56; refine (HS.out _).mono ?_; rintro e w2 ⟨rfl, hb3⟩; have hb4 := hb2.trans (hb3.mono hb2.size); have HS2 := Lib.hid (HS1.out.below hb3); obtain ⟨c0, c1, c2, c3, c4, c5⟩ := HS2.out)
            | (go_at_call 24; refine (HT.out _).mono ?_; rintro e w3 ⟨t, nn, rfl, rfl, HTT⟩; have hbz := below_drewN hb4 nn; have g1 := HTT; unfold TrB at g1)
            | (go_at_call 46; refine (HR.out _ _ (by omega) (by omega)).mono ?_; rintro e w9 ⟨R, rfl, HR2, hRz, hb8⟩; have hb9 := hbz.trans (hb8.mono hbz.size)))
          go_ret2
          exact whole_pad S1 S2 HP1.out HP2.out HF.out hpad R HR2.out hb9
      · as_aux_lemma =>
          go_enter Tryz.func44, Tryz.ntmps44
          go_wp2_with (first
            | (go_at_call 55; refine (HB.out _ (HL.out.lg.below HAL.out)).mono ?_; rintro e w1 ⟨rfl, hb1⟩; have hb2 := HAL.out.trans (hb1.mono HAL.out.size); have HS1 := Lib.hid ((SpF.new w cv 57).below hb1); obtain ⟨a0, a1, a2, a3, a4, a5⟩ := HS1.out)
            | (go_at_call 56; refine (HS.out _).mono ?_; rintro e w2 ⟨rfl, hb3⟩; have hb4 := hb2.trans (hb3.mono hb2.size); have HS2 := Lib.hid (HS1.out.below hb3); obtain ⟨c0, c1, c2, c3, c4, c5⟩ := HS2.out)
            | (go_at_call 24; refine (HT.out _).mono ?_; rintro e w3 ⟨t, nn, rfl, rfl, HTT⟩; have hbz := below_drewN hb4 nn; have g1 := HTT; unfold TrB at g1))
          go_ret2
          exact whole_nopad S1 S2 HP1.out HP2.out (.inr (by omega)) hbz
  · have hno : ¬ (finB x = true ∧ 0 ≤ valT x ∧ valT x < 18446744073709551616) := fun h => by rw [(inB_iff x).2 h] at hin; cases hin
    have HP1 : Hid (S1 = ⟨(wholeP cv x).1.toArray⟩) := by
      unfold Hid wholeP
      rw [HC.out]
      dsimp only
      rw [if_neg (fun h => hno h.2), hS1, hbl]; rfl
    have HP2 : Hid (S2 = ⟨(wholeP cv x).2.toArray⟩) := by
      unfold Hid wholeP
      rw [HC.out]
      dsimp only
      rw [if_neg (fun h => hno h.2), hS2]
    have HT := Lib.hid HT'
    clear hno hS1 hS2 HT' hin hbl
    cases hf : finB x with
    | false =>
      have HF := Lib.hid hf
      clear hf
      as_aux_lemma =>
        go_enter Tryz.func44, Tryz.ntmps44
        go_wp2_with (first
          | (go_at_call 55; refine (HB.out _ (HL.out.lg.below HAL.out)).mono ?_; rintro e w1 ⟨rfl, hb1⟩; have hb2 := HAL.out.trans (hb1.mono HAL.out.size); have HS1 := Lib.hid ((SpF.new w cv 57).below hb1); obtain ⟨a0, a1, a2, a3, a4, a5⟩ := HS1.out)
          | (go_at_call 56; refine (HS.out _).mono ?_; rintro e w2 ⟨rfl, hb3⟩; have hb4 := hb2.trans (hb3.mono hb2.size); have HS2 := Lib.hid (HS1.out.below hb3); obtain ⟨c0, c1, c2, c3, c4, c5⟩ := HS2.out)
          | (go_at_call 24; refine (HT.out _).mono ?_; rintro e w3 ⟨t, nn, rfl, rfl, HTT⟩; have hbz := below_drewN hb4 nn; have g1 := HTT; obtain ⟨g1, g2⟩ := HTT))
        go_ret2
        exact whole_nopad S1 S2 HP1.out HP2.out (.inl HF.out) hbz
    | true =>
      have HF := Lib.hid hf
      clear hf
      by_cases hpad : (S2.size : Int) < cv.prec
      · as_aux_lemma =>
          go_enter Tryz.func44, Tryz.ntmps44
          go_wp2_with (first
            | (go_at_call 55; refine (HB.out _ (HL.out.lg.below HAL.out)).mono ?_; rintro e w1 ⟨rfl, hb1⟩; have hb2 := HAL.out.trans (hb1.mono HAL.out.size); have HS1 := Lib.hid ((SpF.new w cv 57).below hb1); obtain ⟨a0, a1, a2, a3, a4, a5⟩ := HS1.out)
            | (go_at_call 56; refine (HS.out _).mono ?_; rintro e w2 ⟨rfl, hb3⟩; have hb4 := hb2.trans (hb3.mono hb2.size); have HS2 := Lib.hid (HS1.out.below hb3); obtain ⟨c0, c1, c2, c3, c4, c5⟩ := HS2.out)
            | (go_at_call 24; refine (HT.out _).mono ?_; rintro e w3 ⟨t, nn, rfl, rfl, HTT⟩; have hbz := below_drewN hb4 nn; have g1 := HTT; obtain ⟨g1, g2⟩ := HTT)
            | (go_at_call 46; refine (HR.out _ _ (by omega) (by omega)).mono ?_; rintro e w9 ⟨R, rfl, HR2, hRz, hb8⟩; have hb9 := hbz.trans (hb8.mono hbz.size)))
          go_ret2
          exact whole_pad S1 S2 HP1.out HP2.out HF.out hpad R HR2.out hb9
      · as_aux_lemma =>
          go_enter Tryz.func44, Tryz.ntmps44
          go_wp2_with (first
            | (go_at_call 55; refine (HB.out _ (HL.out.lg.below HAL.out)).mono ?_; rintro e w1 ⟨rfl, hb1⟩; have hb2 := HAL.out.trans (hb1.mono HAL.out.size); have HS1 := Lib.hid ((SpF.new w cv 57).below hb1); obtain ⟨a0, a1, a2, a3, a4, a5⟩ := HS1.out)
            | (go_at_call 56; refine (HS.out _).mono ?_; rintro e w2 ⟨rfl, hb3⟩; have hb4 := hb2.trans (hb3.mono hb2.size); have HS2 := Lib.hid (HS1.out.below hb3); obtain ⟨c0, c1, c2, c3, c4, c5⟩ := HS2.out)
            | (go_at_call 24; refine (HT.out _).mono ?_; rintro e w3 ⟨t, nn, rfl, rfl, HTT⟩; have hbz := below_drewN hb4 nn; have g1 := HTT; obtain ⟨g1, g2⟩ := HTT))
          go_ret2
          exact whole_nopad S1 S2 HP1.out HP2.out (.inr (by omega)) hbz

set_option maxRecDepth 100000 in
set_option maxHeartbeats 2000000 in
theorem whole_X88 (cv : FConv) (hc : cv.c = 88) (x : Nat) (hx : x < 18446744073709551616) (hp : cv.prec ≤ 200) (w : World) (hL : LaidJ w) :
    Calls Tryz.prog 44 #[.agg #[.bool cv.left, .bool cv.plus, .bool cv.blank, .bool cv.zero, .int .i64 cv.width, .int .i64 cv.prec], .int .u8 88, .float .f64 x, .bool (finB x)] w (WholeEnd cv x w) := by
  obtain ⟨S2, hS2⟩ : ∃ S2 : ByteArray, S2 = ⟨(bareT x).1.toArray⟩ := ⟨_, rfl⟩
  obtain ⟨S1, hS1⟩ : ∃ S1 : ByteArray, S1 = ⟨(signT false false (bareT x).2).toArray⟩ := ⟨_, rfl⟩
  have hz2 : S2.size ≤ 1000 := by have := (bareT_head x hx).2; rw [hS2]; simpa [ByteArray.size] using this
  have HB : Hid (∀ W, LaidG W → Calls Tryz.prog 55 #[.float .f64 x] W fun e w' => e = .returned (.tuple #[.string S2, .bool (bareT x).2]) ∧ Below W.heap.size W w') := fun W hW => by rw [hS2]; exact bare_any x hx W hW
  have HS : Hid (∀ (W : World), Calls Tryz.prog 56 #[.agg #[.bool false, .bool false, .bool false, .bool false, .int .i64 0, .int .i64 0], .bool (bareT x).2] W fun e w' => e = .returned (.string S1) ∧ Below W.heap.size W w') := fun W => by rw [hS1]; exact signed_any _ _ _ _ _ _ _ W
  have HW := trunc_ways x hx
  have HL := Lib.hid hL
  have HR : Hid (∀ (s : Int) (W : World), 0 ≤ s → s ≤ 1000 → Calls Tryz.prog 46 #[.string ⟨#[48]⟩, .int .i64 s] W fun e w' => ∃ R : ByteArray, e = .returned (.string R) ∧ Hid (R = ⟨(List.replicate s.toNat 48).toArray⟩) ∧ R.size ≤ 1000 ∧ Below W.heap.size W w') := fun s W h0 h1 => (repeat_any 48 s.toNat s (by omega) W (by omega)).mono fun e w' ⟨h2, h3⟩ => ⟨_, h2, rfl, by simp [ByteArray.size]; omega, h3⟩
  have hal : Below w.heap.size w (w.alloc (.cells #[.bool cv.left, .bool cv.plus, .bool cv.blank, .bool cv.zero, .int .i64 cv.width, .int .i64 cv.prec] 57)) := (Below.refl _ _).alloc (Nat.le_refl _) _
  have HAL := Lib.hid hal
  have HC := Lib.hid hc
  obtain ⟨bl, hbl⟩ : ∃ bl, (bareT x).2 = bl := ⟨_, rfl⟩
  rw [hbl] at HB HS
  have HU : Hid (∀ (v : Nat) W, v < 18446744073709551616 → LaidJ W → Calls Tryz.prog 57 #[.int .u64 v, .int .i64 16] W fun e w' => e = .returned (.string ⟨(uintT v 16).toArray⟩) ∧ Below W.heap.size W w') := fun v W hv hW => uint16_any v W hW hv
  clear hal hL hx hc
  rcases HW with ⟨hin, HT'⟩ | ⟨hin, HT'⟩ | ⟨hin, HT'⟩
  · obtain ⟨i1, i2, i3⟩ := (inB_iff x).1 hin
    obtain ⟨v, hv⟩ : ∃ v : Nat, valT x = v := ⟨(valT x).toNat, by omega⟩
    have hv64 : v < 18446744073709551616 := by omega
    have HF := Lib.hid i1
    obtain ⟨U, hU⟩ : ∃ U : ByteArray, U = ⟨(upL (uintT v 16)).toArray⟩ := ⟨_, rfl⟩
    have HP1 : Hid (⟨#[]⟩ = (⟨(wholeP cv x).1.toArray⟩ : ByteArray)) := by
      unfold Hid wholeP
      rw [HC.out]
      dsimp only
      rw [if_pos ⟨by decide, i1, i2, i3⟩]
    have HP2 : Hid (U = ⟨(wholeP cv x).2.toArray⟩) := by
      unfold Hid wholeP
      rw [HC.out]
      dsimp only
      rw [if_pos ⟨by decide, i1, i2, i3⟩, hU, hv]; rfl
    have hUz : U.size ≤ 1000 := by
      have h := (uintT_ok v 16 (by omega)).1
      rw [hU]
      show (upL (uintT v 16)).toArray.size ≤ 1000
      rw [List.size_toArray, upL, List.length_map]; omega
    have HT := Lib.hid HT'
    rw [i1]
    obtain ⟨U0, hU0⟩ : ∃ U0 : ByteArray, U0 = ⟨(uintT v 16).toArray⟩ := ⟨_, rfl⟩
    have HU2 : Hid (∀ W, LaidJ W → Calls Tryz.prog 57 #[.int .u64 v, .int .i64 16] W fun e w' => e = .returned (.string U0) ∧ Below W.heap.size W w') := fun W hW => by rw [hU0]; exact HU.out v W hv64 hW
    have HUP : Hid (∀ W, Calls Tryz.prog 58 #[.string U0] W fun e w' => e = .returned (.string U) ∧ Below W.heap.size W w') := fun W => by
      rw [hU, hU0]
      exact upper_any ⟨(uintT v 16).toArray⟩ W (by have h := (uintT_ok v 16 (by omega)).1; show (uintT v 16).toArray.size ≤ _; rw [List.size_toArray]; omega) (uintT_ok v 16 (by omega)).2
    clear hU hU0 i1 i2 i3 hS1 hS2 HT' hin hbl
    by_cases hpad : (U.size : Int) < cv.prec
    · as_aux_lemma =>
        go_enter Tryz.func44, Tryz.ntmps44
        go_wp2_with (first
          | (go_at_call 55; refine (HB.out _ (HL.out.lg.below HAL.out)).mono ?_; rintro e w1 ⟨rfl, hb1⟩; have hb2 := HAL.out.trans (hb1.mono HAL.out.size); have HS1 := Lib.hid ((SpF.new w cv 57).below hb1); obtain ⟨a0, a1, a2, a3, a4, a5⟩ := HS1.out)
          | (go_at_call 56; refine (HS.out _).mono ?_; rintro e w2 ⟨rfl, hb3⟩; have hb4 := hb2.trans (hb3.mono hb2.size); have HS2 := Lib.hid (HS1.out.below hb3); obtain ⟨c0, c1, c2, c3, c4, c5⟩ := HS2.out)
          | (go_at_call 24; refine (HT.out _).mono ?_; rintro e w3 ⟨t, nn, rfl, rfl, g1, g2, g3⟩; have hb5 := below_drewN hb4 nn; rw [hv] at g3)
          | (go_at_call 57; refine (HU2.out _ (HL.out.below hb5)).mono ?_; rintro e w6 ⟨rfl, hb6⟩; have hb7 := hb5.trans (hb6.mono hb5.size); have HS3 := Lib.hid (HS2.out.below ((below_drewN (Below.refl _ _) nn).trans hb6)))
          | (go_at_call 58; refine (HUP.out _).mono ?_; rintro e w7 ⟨rfl, hbu⟩; have hbz := hb7.trans (hbu.mono hb7.size); obtain ⟨d0, d1, d2, d3, d4, d5⟩ := HS3.out.below hbu)
          | (go_at_call 46; refine (HR.out _ _ (by omega) (by omega)).mono ?_; rintro e w9 ⟨R, rfl, HR2, hRz, hb8⟩; have hb9 := hbz.trans (hb8.mono hbz.size)))
        go_ret2
        exact whole_pad ⟨#[]⟩ U HP1.out HP2.out HF.out hpad R HR2.out hb9
    · as_aux_lemma =>
        go_enter Tryz.func44, Tryz.ntmps44
        go_wp2_with (first
          | (go_at_call 55; refine (HB.out _ (HL.out.lg.below HAL.out)).mono ?_; rintro e w1 ⟨rfl, hb1⟩; have hb2 := HAL.out.trans (hb1.mono HAL.out.size); have HS1 := Lib.hid ((SpF.new w cv 57).below hb1); obtain ⟨a0, a1, a2, a3, a4, a5⟩ := HS1.out)
          | (go_at_call 56; refine (HS.out _).mono ?_; rintro e w2 ⟨rfl, hb3⟩; have hb4 := hb2.trans (hb3.mono hb2.size); have HS2 := Lib.hid (HS1.out.below hb3); obtain ⟨c0, c1, c2, c3, c4, c5⟩ := HS2.out)
          | (go_at_call 24; refine (HT.out _).mono ?_; rintro e w3 ⟨t, nn, rfl, rfl, g1, g2, g3⟩; have hb5 := below_drewN hb4 nn; rw [hv] at g3)
          | (go_at_call 57; refine (HU2.out _ (HL.out.below hb5)).mono ?_; rintro e w6 ⟨rfl, hb6⟩; have hb7 := hb5.trans (hb6.mono hb5.size); have HS3 := Lib.hid (HS2.out.below ((below_drewN (Below.refl _ _) nn).trans hb6)))
          | (go_at_call 58; refine (HUP.out _).mono ?_; rintro e w7 ⟨rfl, hbu⟩; have hbz := hb7.trans (hbu.mono hb7.size); obtain ⟨d0, d1, d2, d3, d4, d5⟩ := HS3.out.below hbu))
        go_ret2
        exact whole_nopad ⟨#[]⟩ U HP1.out HP2.out (.inr (by omega)) hbz
  · have hno : ¬ (finB x = true ∧ 0 ≤ valT x ∧ valT x < 18446744073709551616) := fun h => by rw [(inB_iff x).2 h] at hin; cases hin
    have HP1 : Hid (S1 = ⟨(wholeP cv x).1.toArray⟩) := by
      unfold Hid wholeP
      rw [HC.out]
      dsimp only
      rw [if_neg (fun h => hno h.2), hS1, hbl]; rfl
    have HP2 : Hid (S2 = ⟨(wholeP cv x).2.toArray⟩) := by
      unfold Hid wholeP
      rw [HC.out]
      dsimp only
      rw [if_neg (fun h => hno h.2), hS2]
    have HT := Lib.hid HT'
    clear hno hS1 hS2 HT' hin hbl
    cases hf : finB x with
    | false =>
      have HF := Lib.hid hf
      clear hf
      as_aux_lemma =>
        go_enter Tryz.func44, Tryz.ntmps44
        go_wp2_with (first
          | (go_at_call 55; refine (HB.out _ (HL.out.lg.below HAL.out)).mono ?_; rintro e w1 ⟨rfl, hb1⟩; have hb2 := HAL.out.trans (hb1.mono HAL.out.size); have HS1 := Lib.hid ((SpF.new w cv 57).below hb1); obtain ⟨a0, a1, a2, a3, a4, a5⟩ := HS1.out)
          | (go_at_call 56; refine (HS.out _).mono ?_; rintro e w2 ⟨rfl, hb3⟩; have hb4 := hb2.trans (hb3.mono hb2.size); have HS2 := Lib.hid (HS1.out.below hb3); obtain ⟨c0, c1, c2, c3, c4, c5⟩ := HS2.out)
          | (go_at_call 24; refine (HT.out _).mono ?_; rintro e w3 ⟨t, nn, rfl, rfl, HTT⟩; have hbz := below_drewN hb4 nn; have g1 := HTT; unfold TrB at g1))
        go_ret2
        exact whole_nopad S1 S2 HP1.out HP2.out (.inl HF.out) hbz
    | true =>
      have HF := Lib.hid hf
      clear hf
      by_cases hpad : (S2.size : Int) < cv.prec
      · as_aux_lemma =>
          go_enter Tryz.func44, Tryz.ntmps44
          go_wp2_with (first
            | (go_at_call 55; refine (HB.out _ (HL.out.lg.below HAL.out)).mono ?_; rintro e w1 ⟨rfl, hb1⟩; have hb2 := HAL.out.trans (hb1.mono HAL.out.size); have HS1 := Lib.hid ((SpF.new w cv 57).below hb1); obtain ⟨a0, a1, a2, a3, a4, a5⟩ := HS1.out)
            | (go_at_call 56; refine (HS.out _).mono ?_; rintro e w2 ⟨rfl, hb3⟩; have hb4 := hb2.trans (hb3.mono hb2.size); have HS2 := Lib.hid (HS1.out.below hb3); obtain ⟨c0, c1, c2, c3, c4, c5⟩ := HS2.out)
            | (go_at_call 24; refine (HT.out _).mono ?_; rintro e w3 ⟨t, nn, rfl, rfl, HTT⟩; have hbz := below_drewN hb4 nn; have g1 := HTT; unfold TrB at g1)
            | (go_at_call 46; refine (HR.out _ _ (by omega) (by omega)).mono ?_; rintro e w9 ⟨R, rfl, HR2, hRz, hb8⟩; have hb9 := hbz.trans (hb8.mono hbz.size)))
          go_ret2
          exact whole_pad S1 S2 HP1.out HP2.out HF.out hpad R HR2.out hb9
      · as_aux_lemma =>
          go_enter Tryz.func44, Tryz.ntmps44
          go_wp2_with (first
            | (go_at_call 55; refine (HB.out _ (HL.out.lg.below HAL.out)).mono ?_; rintro e w1 ⟨rfl, hb1⟩; have hb2 := HAL.out.trans (hb1.mono HAL.out.size); have HS1 := Lib.hid ((SpF.new w cv 57).below hb1); obtain ⟨a0, a1, a2, a3, a4, a5⟩ := HS1.out)
            | (go_at_call 56; refine (HS.out _).mono ?_; rintro e w2 ⟨rfl, hb3⟩; have hb4 := hb2.trans (hb3.mono hb2.size); have HS2 := Lib.hid (HS1.out.below hb3); obtain ⟨c0, c1, c2, c3, c4, c5⟩ := HS2.out)
            | (go_at_call 24; refine (HT.out _).mono ?_; rintro e w3 ⟨t, nn, rfl, rfl, HTT⟩; have hbz := below_drewN hb4 nn; have g1 := HTT; unfold TrB at g1))
          go_ret2
          exact whole_nopad S1 S2 HP1.out HP2.out (.inr (by omega)) hbz
  · have hno : ¬ (finB x = true ∧ 0 ≤ valT x ∧ valT x < 18446744073709551616) := fun h => by rw [(inB_iff x).2 h] at hin; cases hin
    have HP1 : Hid (S1 = ⟨(wholeP cv x).1.toArray⟩) := by
      unfold Hid wholeP
      rw [HC.out]
      dsimp only
      rw [if_neg (fun h => hno h.2), hS1, hbl]; rfl
    have HP2 : Hid (S2 = ⟨(wholeP cv x).2.toArray⟩) := by
      unfold Hid wholeP
      rw [HC.out]
      dsimp only
      rw [if_neg (fun h => hno h.2), hS2]
    have HT := Lib.hid HT'
    clear hno hS1 hS2 HT' hin hbl
    cases hf : finB x with
    | false =>
      have HF := Lib.hid hf
      clear hf
      as_aux_lemma =>
        go_enter Tryz.func44, Tryz.ntmps44
        go_wp2_with (first
          | (go_at_call 55; refine (HB.out _ (HL.out.lg.below HAL.out)).mono ?_; rintro e w1 ⟨rfl, hb1⟩; have hb2 := HAL.out.trans (hb1.mono HAL.out.size); have HS1 := Lib.hid ((SpF.new w cv 57).below hb1); obtain ⟨a0, a1, a2, a3, a4, a5⟩ := HS1.out)
          | (go_at_call 56; refine (HS.out _).mono ?_; rintro e w2 ⟨rfl, hb3⟩; have hb4 := hb2.trans (hb3.mono hb2.size); have HS2 := Lib.hid (HS1.out.below hb3); obtain ⟨c0, c1, c2, c3, c4, c5⟩ := HS2.out)
          | (go_at_call 24; refine (HT.out _).mono ?_; rintro e w3 ⟨t, nn, rfl, rfl, HTT⟩; have hbz := below_drewN hb4 nn; have g1 := HTT; obtain ⟨g1, g2⟩ := HTT))
        go_ret2
        exact whole_nopad S1 S2 HP1.out HP2.out (.inl HF.out) hbz
    | true =>
      have HF := Lib.hid hf
      clear hf
      by_cases hpad : (S2.size : Int) < cv.prec
      · as_aux_lemma =>
          go_enter Tryz.func44, Tryz.ntmps44
          go_wp2_with (first
            | (go_at_call 55; refine (HB.out _ (HL.out.lg.below HAL.out)).mono ?_; rintro e w1 ⟨rfl, hb1⟩; have hb2 := HAL.out.trans (hb1.mono HAL.out.size); have HS1 := Lib.hid ((SpF.new w cv 57).below hb1); obtain ⟨a0, a1, a2, a3, a4, a5⟩ := HS1.out)
            | (go_at_call 56; refine (HS.out _).mono ?_; rintro e w2 ⟨rfl, hb3⟩; have hb4 := hb2.trans (hb3.mono hb2.size); have HS2 := Lib.hid (HS1.out.below hb3); obtain ⟨c0, c1, c2, c3, c4, c5⟩ := HS2.out)
            | (go_at_call 24; refine (HT.out _).mono ?_; rintro e w3 ⟨t, nn, rfl, rfl, HTT⟩; have hbz := below_drewN hb4 nn; have g1 := HTT; obtain ⟨g1, g2⟩ := HTT)
            | (go_at_call 46; refine (HR.out _ _ (by omega) (by omega)).mono ?_; rintro e w9 ⟨R, rfl, HR2, hRz, hb8⟩; have hb9 := hbz.trans (hb8.mono hbz.size)))
          go_ret2
          exact whole_pad S1 S2 HP1.out HP2.out HF.out hpad R HR2.out hb9
      · as_aux_lemma =>
          go_enter Tryz.func44, Tryz.ntmps44
          go_wp2_with (first
            | (go_at_call 55; refine (HB.out _ (HL.out.lg.below HAL.out)).mono ?_; rintro e w1 ⟨rfl, hb1⟩; have hb2 := HAL.out.trans (hb1.mono HAL.out.size); have HS1 := Lib.hid ((SpF.new w cv 57).below hb1); obtain ⟨a0, a1, a2, a3, a4, a5⟩ := HS1.out)
            | (go_at_call 56; refine (HS.out _).mono ?_; rintro e w2 ⟨rfl, hb3⟩; have hb4 := hb2.trans (hb3.mono hb2.size); have HS2 := Lib.hid (HS1.out.below hb3); obtain ⟨c0, c1, c2, c3, c4, c5⟩ := HS2.out)
            | (go_at_call 24; refine (HT.out _).mono ?_; rintro e w3 ⟨t, nn, rfl, rfl, HTT⟩; have hbz := below_drewN hb4 nn; have g1 := HTT; obtain ⟨g1, g2⟩ := HTT))
          go_ret2
          exact whole_nopad S1 S2 HP1.out HP2.out (.inr (by omega)) hbz

theorem whole_any (cv : FConv) (hc : isWholeC cv.c = true) (x : Nat) (hx : x < 18446744073709551616) (hp : cv.prec ≤ 200) (w : World) (hL : LaidJ w) :
    Calls Tryz.prog 44 #[.agg #[.bool cv.left, .bool cv.plus, .bool cv.blank, .bool cv.zero, .int .i64 cv.width, .int .i64 cv.prec], .int .u8 cv.c.toNat, .float .f64 x, .bool (finB x)] w (WholeEnd cv x w) := by
  have h : cv.c = 100 ∨ cv.c = 105 ∨ cv.c = 117 ∨ cv.c = 111 ∨ cv.c = 120 ∨ cv.c = 88 := by
    unfold isWholeC at hc
    simpa [or_assoc] using hc
  rcases h with h | h | h | h | h | h
  · rw [h]; exact whole_d100 cv h x hx hp w hL
  · rw [h]; exact whole_i105 cv h x hx hp w hL
  · rw [h]; exact whole_u117 cv h x hx hp w hL
  · rw [h]; exact whole_o111 cv h x hx hp w hL
  · rw [h]; exact whole_x120 cv h x hx hp w hL
  · rw [h]; exact whole_X88 cv h x hx hp w hL

end Go.Proofs.YtdencljnbilchaaGreatDoor
