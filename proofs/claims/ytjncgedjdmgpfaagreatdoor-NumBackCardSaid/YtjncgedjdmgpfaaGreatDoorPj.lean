/- Plain: numerals that are put together of their parts. No program here. Texts of numerals that are put together: what num.Prefix and num.Looks say of them. NumMade: true. -/
import Derived.Test.YtjncgedjdmgpfaaGreatDoorFb
import Derived.Test.YtjncgedjdmgpfaaGreatDoorGm
import Derived.Test.YtjncgedjdmgpfaaGreatDoorFs
import Derived.Test.YtjncgedjdmgpfaaGreatDoorXu
import Derived.Test.YtjncgedjdmgpfaaGreatDoorVi
import Derived.Laws.Cover2

namespace Go.Proofs.YtjncgedjdmgpfaaGreatDoor

theorem nWhile_app (p : UInt8 → Bool) : ∀ (A r : List UInt8), (∀ c ∈ A, p c = true) → nWhile p (A ++ r) = A.length + nWhile p r
  | [], r, _ => by simp
  | a :: A, r, h => by
    have ih := nWhile_app p A r (fun c hc => h c (List.mem_cons_of_mem _ hc))
    have e : nWhile p (a :: (A ++ r)) = nWhile p (A ++ r) + 1 := by
      have := nWhile_yes p (a :: (A ++ r)) 0 (by simp) (h a (List.mem_cons_self ..))
      simpa using this
    rw [List.cons_append, e, ih, List.length_cons]; omega

theorem nWhile_zero (p : UInt8 → Bool) (r : List UInt8) (h : ∀ c, r.head? = some c → p c = false) : nWhile p r = 0 := by
  cases r with
  | nil => rfl
  | cons c r =>
    have := nWhile_no p (c :: r) 0 (by simp) (h c rfl)
    simpa using this

/-- What may follow a numeral: nothing, or what makes it no longer. -/
def tailOk (t : List UInt8) : Prop := t = [] ∨ t.head? = some 120 ∨ t.head? = some 32

theorem tail_head {t : List UInt8} (h : tailOk t) (c : UInt8) (hc : t.head? = some c) : isDig c = false ∧ c ≠ 46 ∧ c ≠ 101 ∧ c ≠ 69 := by
  rcases h with rfl | h | h
  · cases hc
  · rw [h] at hc; cases hc; decide
  · rw [h] at hc; cases hc; decide

structure numParts (S D1 P X : List UInt8) : Prop where
  s : S = [] ∨ S = [45]
  d1 : D1 ≠ [] ∧ ∀ c ∈ D1, isDig c = true
  p : P = [] ∨ ∃ D2, P = 46 :: D2 ∧ D2 ≠ [] ∧ ∀ c ∈ D2, isDig c = true
  x : X = [] ∨ ∃ Sg D3, X = 101 :: (Sg ++ D3) ∧ (Sg = [] ∨ Sg = [45]) ∧ D3 ≠ [] ∧ ∀ c ∈ D3, isDig c = true

theorem dig_ne {c : UInt8} (h : isDig c = true) : c ≠ 43 ∧ c ≠ 45 ∧ isBlank c = false := by
  unfold isDig digB at h
  simp at h
  refine ⟨fun e => ?_, fun e => ?_, ?_⟩
  · subst e; simp at h
  · subst e; simp at h
  · unfold isBlank blankB; simp; omega

theorem head_digits {D : List UInt8} (h : D ≠ [] ∧ ∀ c ∈ D, isDig c = true) (r : List UInt8) : ∃ c, (D ++ r).head? = some c ∧ isDig c = true := by
  cases D with
  | nil => exact absurd rfl h.1
  | cons c D => exact ⟨c, rfl, h.2 c (List.mem_cons_self ..)⟩

theorem sgn_digits {D : List UInt8} (h : D ≠ [] ∧ ∀ c ∈ D, isDig c = true) (r : List UInt8) : sgnN (D ++ r) = 0 := by
  obtain ⟨c, hc, hd⟩ := head_digits h r
  unfold sgnN
  rw [hc, if_neg]
  rintro (e | e)
  · exact (dig_ne hd).1 (Option.some.inj e)
  · exact (dig_ne hd).2.1 (Option.some.inj e)

theorem exp_parts {S D1 P X t : List UInt8} (h : numParts S D1 P X) (ht : tailOk t) : expN (X ++ t) = X.length := by
  rcases h.x with rfl | ⟨Sg, D3, rfl, hs, hd⟩
  · rw [List.nil_append]
    unfold expN
    rw [if_neg]
    · rfl
    · rintro (e | e)
      · exact (tail_head ht _ e).2.2.1 rfl
      · exact (tail_head ht _ e).2.2.2 rfl
  · have hD : ∀ c, t.head? = some c → isDig c = false := fun c hc => (tail_head ht c hc).1
    have hl : 0 < D3.length := List.length_pos_iff.2 hd.1
    have hn : nWhile isDig (D3 ++ t) = D3.length := by rw [nWhile_app isDig D3 t hd.2, nWhile_zero isDig t hD, Nat.add_zero]
    unfold expN
    rw [if_pos (.inl rfl)]
    have e1 : (101 :: (Sg ++ D3) ++ t).drop 1 = Sg ++ (D3 ++ t) := by simp
    rw [e1]
    rcases hs with rfl | rfl
    · rw [List.nil_append, sgn_digits hd t]
      have e2 : (101 :: ([] ++ D3) ++ t).drop (1 + 0) = D3 ++ t := by simp
      rw [e2, hn, if_neg (by omega)]
      simp; omega
    · have e3 : sgnN ([45] ++ (D3 ++ t)) = 1 := by unfold sgnN; rw [if_pos (.inr rfl)]
      rw [e3]
      have e2 : (101 :: ([45] ++ D3) ++ t).drop (1 + 1) = D3 ++ t := by simp
      rw [e2, hn, if_neg (by omega)]
      simp; omega

theorem mant_parts {S D1 P X t : List UInt8} (h : numParts S D1 P X) (ht : tailOk t) : mantN (D1 ++ P ++ (X ++ t)) = D1.length + P.length ∧ (D1 ++ P ++ (X ++ t)).drop (D1.length + P.length) = X ++ t := by
  have hl : 0 < D1.length := List.length_pos_iff.2 h.d1.1
  have hX : ∀ c, (X ++ t).head? = some c → isDig c = false ∧ c ≠ 46 := by
    rcases h.x with rfl | ⟨Sg, D3, rfl, _, _⟩
    · exact fun c hc => ⟨(tail_head ht c hc).1, (tail_head ht c hc).2.1⟩
    · intro c hc
      cases hc
      exact ⟨by decide, by decide⟩
  refine ⟨?_, by rw [← List.length_append, List.drop_left]⟩
  rcases h.p with rfl | ⟨D2, rfl, hd2⟩
  · have e0 : D1 ++ [] ++ (X ++ t) = D1 ++ (X ++ t) := by simp
    rw [e0]
    have hn : nWhile isDig (D1 ++ (X ++ t)) = D1.length := by rw [nWhile_app isDig D1 _ h.d1.2, nWhile_zero isDig _ (fun c hc => (hX c hc).1), Nat.add_zero]
    unfold mantN
    rw [hn, List.drop_left, if_neg (fun e => (hX _ e).2 rfl)]
    rfl
  · have e0 : D1 ++ 46 :: D2 ++ (X ++ t) = D1 ++ (46 :: (D2 ++ (X ++ t))) := by simp
    rw [e0]
    have hl2 : 0 < D2.length := List.length_pos_iff.2 hd2.1
    have hn : nWhile isDig (D1 ++ (46 :: (D2 ++ (X ++ t)))) = D1.length := by
      rw [nWhile_app isDig D1 _ h.d1.2, nWhile_zero isDig _ (fun c hc => by cases hc; decide), Nat.add_zero]
    have hn2 : nWhile isDig (D2 ++ (X ++ t)) = D2.length := by rw [nWhile_app isDig D2 _ hd2.2, nWhile_zero isDig _ (fun c hc => (hX c hc).1), Nat.add_zero]
    have e1 : (D1 ++ (46 :: (D2 ++ (X ++ t)))).drop (D1.length + 1) = D2 ++ (X ++ t) := by
      rw [← List.drop_drop, List.drop_left]; rfl
    unfold mantN
    rw [hn, List.drop_left, if_pos (show (46 :: (D2 ++ (X ++ t))).head? = some 46 from rfl), e1, hn2, if_neg (by omega)]
    simp; omega

theorem numeral_parts {S D1 P X t : List UInt8} (h : numParts S D1 P X) (ht : tailOk t) : numeralN (D1 ++ P ++ (X ++ t)) = D1.length + P.length + X.length := by
  have hl : 0 < D1.length := List.length_pos_iff.2 h.d1.1
  obtain ⟨h1, h2⟩ := mant_parts h ht
  unfold numeralN
  rw [h1, h2, if_neg (by omega), exp_parts h ht]

end Go.Proofs.YtjncgedjdmgpfaaGreatDoor

namespace Go.Proofs.YtjncgedjdmgpfaaGreatDoor
open Go.RowKit

theorem begin_parts {B S D1 P X t : List UInt8} (hB : ∀ c ∈ B, isBlank c = true) (h : numParts S D1 P X) :
    beginS (B ++ (S ++ (D1 ++ P ++ (X ++ t)))) = B.length ∧ beginA (B ++ (S ++ (D1 ++ P ++ (X ++ t)))) = B.length + S.length ∧ (B ++ (S ++ (D1 ++ P ++ (X ++ t)))).drop (B.length + S.length) = D1 ++ P ++ (X ++ t) := by
  have e1 : D1 ++ P ++ (X ++ t) = D1 ++ (P ++ (X ++ t)) := by simp
  have h1 : beginS (B ++ (S ++ (D1 ++ P ++ (X ++ t)))) = B.length := by
    unfold beginS
    rw [nWhile_app isBlank B _ hB, nWhile_zero isBlank _ (fun c hc => ?_), Nat.add_zero]
    rcases h.s with rfl | rfl
    · obtain ⟨c', hc', hd⟩ := head_digits h.d1 (P ++ (X ++ t))
      rw [List.nil_append, e1, hc'] at hc
      cases hc
      exact (dig_ne hd).2.2
    · cases hc; decide
  refine ⟨h1, ?_, ?_⟩
  · unfold beginA
    rw [h1, List.drop_left]
    rcases h.s with rfl | rfl
    · rw [List.nil_append, e1, sgn_digits h.d1]; rfl
    · unfold sgnN; rw [if_pos (.inr rfl)]; rfl
  · rw [← List.drop_drop, List.drop_left, List.drop_left]

theorem prefix_parts {B S D1 P X t : List UInt8} (hB : ∀ c ∈ B, isBlank c = true) (h : numParts S D1 P X) (ht : tailOk t) :
    numeralN ((B ++ (S ++ (D1 ++ P ++ (X ++ t)))).drop (beginA (B ++ (S ++ (D1 ++ P ++ (X ++ t)))))) ≠ 0 ∧
    prefixE (B ++ (S ++ (D1 ++ P ++ (X ++ t)))) = B.length + S.length + (D1.length + P.length + X.length) ∧
    (B ++ (S ++ (D1 ++ P ++ (X ++ t)))).drop (B.length + S.length + (D1.length + P.length + X.length)) = t := by
  obtain ⟨_, h2, h3⟩ := begin_parts (t := t) hB h
  have hl : 0 < D1.length := List.length_pos_iff.2 h.d1.1
  have hn := numeral_parts h ht
  refine ⟨by rw [h2, h3, hn]; omega, by unfold prefixE; rw [h2, h3, hn], ?_⟩
  have h4 : (D1 ++ P ++ (X ++ t)).drop (D1.length + P.length + X.length) = t := by
    have e : D1.length + P.length + X.length = (D1 ++ P ++ X).length := by simp; omega
    rw [e, ← List.append_assoc, List.drop_left]
  rw [← List.drop_drop, h3, h4]

theorem made_prefix (u : ByteArray) (hu : u.size ≤ 140737488351232) {B S D1 P X t : List UInt8} (hB : ∀ c ∈ B, isBlank c = true) (h : numParts S D1 P X) (ht : tailOk t) (e : u.data.toList = B ++ (S ++ (D1 ++ P ++ (X ++ t)))) :
    ∃ x, ∀ W, LaidH W → Calls Tryz.prog 9 #[.string u] W fun e w' => e = .returned (.tuple #[.float .f64 x, .int .i64 (B.length + S.length + (D1.length + P.length + X.length) : Nat)]) ∧ Below W.heap.size W w' := by
  obtain ⟨x, _, hP⟩ := prefix_any u hu
  obtain ⟨h1, h2, _⟩ := prefix_parts hB h ht
  refine ⟨x, fun W hL => ?_⟩
  have := hP W hL
  rw [e, if_neg h1, h2] at this
  exact this

theorem made_looks (u : ByteArray) (hu : u.size ≤ maxLen) {B S D1 P X t : List UInt8} (hB : ∀ c ∈ B, isBlank c = true) (h : numParts S D1 P X) (ht : tailOk t) (e : u.data.toList = B ++ (S ++ (D1 ++ P ++ (X ++ t)))) (r : Bool) (hr : decide (nWhile isBlank t = t.length) = r) (W : World) :
    Calls Tryz.prog 13 #[.string u] W fun e w' => e = .returned (.bool r) ∧ W = w' := by
  have hl := looks_any u W hu
  obtain ⟨h1, h2, h3⟩ := prefix_parts hB h ht
  have : looksB u.data.toList = r := by
    unfold looksB
    rw [e, if_neg h1, h2, h3, ← hr]
    congr 1
    simp only [List.length_append]
    exact propext ⟨fun q => by omega, fun q => by omega⟩
  rw [this] at hl
  exact hl

end Go.Proofs.YtjncgedjdmgpfaaGreatDoor

namespace Go.Proofs.YtjncgedjdmgpfaaGreatDoor
open Go.RowKit

def pickN (n : Int) (m : Nat) : Nat := (if n.tmod m < 0 then n.tmod m + m else n.tmod m).toNat
theorem pickN_lt (n : Int) (m : Nat) (hm : 0 < m) : pickN n m < m := by
  have t1 := Int.tmod_lt_of_pos n (b := (m : Int)) (by omega)
  have t2 := Int.lt_tmod_of_pos n (b := (m : Int)) (by omega)
  unfold pickN; split <;> omega

set_option maxRecDepth 100000 in
set_option maxHeartbeats 1600000 in
theorem pick_any (n : Int) (m : Nat) (w : World) (hm : 0 < m) (hm2 : m ≤ maxLen) : Calls Tryz.prog 15 #[.int .i64 n, .int .i64 m] w fun e w' => e = .returned (.int .i64 (pickN n m)) ∧ w = w' := by
  have t1 := Int.tmod_lt_of_pos n (b := (m : Int)) (by omega)
  have t2 := Int.lt_tmod_of_pos n (b := (m : Int)) (by omega)
  unfold maxLen at hm2
  by_cases h : n.tmod m < 0
  · have HF : Hid ((pickN n m : Int) = n.tmod m + m) := by unfold Hid pickN; rw [if_pos h]; omega
    go_enter Tryz.func15, Tryz.ntmps15
    go_wp2
    go_ret
    exact ⟨by rw [HF.out]; rfl, rfl⟩
  · have HF : Hid ((pickN n m : Int) = n.tmod m) := by unfold Hid pickN; rw [if_neg h]; omega
    go_enter Tryz.func15, Tryz.ntmps15
    go_wp2
    go_ret
    exact ⟨by rw [HF.out]; rfl, rfl⟩

/-- A small whole number as a double: finite; of its sign. -/
theorem ofInt_fin (n : Int) (h1 : -9007199254740992 < n) (h2 : n < 9007199254740992) : floatOfInt .f64 n < 18446744073709551616 ∧ finN (floatOfInt .f64 n) ∧ (0 ≤ n → floatOfInt .f64 n < 9223372036854775808) := by
  obtain ⟨r, hr, e⟩ := nearest_fin (decide (n < 0)) n.natAbs (by omega) 0 (by omega)
  rw [Nat.pow_zero, Nat.mul_one] at e
  have e2 : floatOfInt .f64 n = FloatKind.f64.format.nearest (decide (n < 0)) n.natAbs 0 := rfl
  rw [e2, e]
  by_cases h : n < 0
  · rw [if_pos (decide_eq_true h)]
    exact ⟨by omega, by unfold finN; omega, fun h0 => by omega⟩
  · rw [if_neg (by simpa using h)]
    exact ⟨by omega, by unfold finN; omega, fun _ => by omega⟩

theorem ba_list (x y : ByteArray) : (x ++ y).data.toList = x.data.toList ++ y.data.toList := by simp

theorem digits_int (n : Int) (h1 : -9007199254740992 < n) (h2 : n < 9007199254740992) (w : World) (hL : LaidG w) : ∃ ng ds, (0 ≤ n → ng = false) ∧ digL ds ∧
    ∀ W, Below w.heap.size w W → Calls Tryz.prog 16 #[.float .f64 (floatOfInt .f64 n)] W fun e w' => e = .returned (.string ⟨(sgnL ng ++ ds).toArray⟩) ∧ Below W.heap.size W w' := by
  obtain ⟨f1, f2, f3⟩ := ofInt_fin n h1 h2
  obtain ⟨ng, ds, g1, g2, g3, _⟩ := digits_fin _ f1 f2
  exact ⟨ng, ds, fun h => g1 (f3 h), g2, fun W hW => g3 W (hL.below hW)⟩

theorem ba_size (l : List UInt8) : (⟨l.toArray⟩ : ByteArray).size = l.length := by simp [ByteArray.size]

set_option maxRecDepth 100000 in
set_option maxHeartbeats 3200000 in
theorem numMade_true (a b : Int) (point ex neg : Bool) (e blanks : Int) (w : World) (ha : 0 ≤ a ∧ a ≤ 4294967295) (hb : 0 ≤ b ∧ b ≤ 4294967295) (he : -128 ≤ e ∧ e ≤ 127) (hL : LaidH w) :
    Calls Tryz.prog 4 #[.int .u32 a, .int .u32 b, .bool point, .bool ex, .bool neg, .int .i8 e, .int .i64 blanks] w fun e w' => e = .returned (.bool true) ∧ Below w.heap.size w w' := by
  obtain ⟨ngA, A, gA, hA, HA1⟩ := digits_int a (by omega) (by omega) w hL.lg
  obtain ⟨ngB, Bd, gB, hB, HB1⟩ := digits_int b (by omega) (by omega) w hL.lg
  obtain ⟨ngE, Ed, _, hE, HE1⟩ := digits_int e (by omega) (by omega) w hL.lg
  obtain rfl : ngA = false := gA ha.1
  obtain rfl : ngB = false := gB hb.1
  rw [sgnL_false, List.nil_append] at HA1 HB1
  have HA := Lib.hid HA1
  have HB := Lib.hid HB1
  have HE := Lib.hid HE1
  have HLL := Lib.hid hL
  have HK : Hid (∀ W, Below w.heap.size w W → Calls Tryz.prog 11 #[] W fun e w' => e = .returned (.bool true) ∧ Below W.heap.size W w') := fun W hb => known11_true W (hL.below hb).lg
  obtain ⟨p, ep⟩ : ∃ p, pickN blanks 4 = p := ⟨_, rfl⟩
  have hp : p < 4 := by rw [← ep]; exact pickN_lt blanks 4 (by decide)
  have HPK : Hid (∀ W, Calls Tryz.prog 15 #[.int .i64 blanks, .int .i64 4] W fun e w' => e = .returned (.int .i64 p) ∧ W = w') := fun W => by
    have := pick_any blanks 4 W (by decide) (by decide)
    rw [ep] at this; exact this
  obtain ⟨S, eS⟩ : ∃ S : List UInt8, (if neg = true then [45] else []) = S := ⟨_, rfl⟩
  have hS : S = [] ∨ S = [45] := by rw [← eS]; cases neg <;> simp
  have hSl : S.length ≤ 1 := by rcases hS with rfl | rfl <;> simp
  have hAl := hA.2.2
  have hBl := hB.2.2
  have hEl := hE.2.2
  have hsE := sgnL_len ngE
  have r0 := Below.refl w.heap.size w
  clear HA1 HB1 HE1 hL ep gA gB
  go_enter Tryz.func4, Tryz.ntmps4
  go_upto_block 0 with (go_at_call 15; refine (HPK.out _).mono ?_; rintro e w' ⟨rfl, rfl⟩)
  go_cut [15] (fun sv wx => ∃ t : ByteArray, sv = .string t ∧ t.size ≤ 3 ∧ Hid (t.data.toList = List.replicate p 32) ∧ w = wx)
  case first =>
    as_aux_lemma =>
      go_wp2
      go_loop [15, 16] (fun sv iv => ∃ (g : Nat) (t : ByteArray), g ≤ p ∧ iv = .int .i64 g ∧ sv = .string t ∧ t.size + g = p ∧ Hid (t.data.toList = List.replicate (p - g) 32)) (fun _ iv => (intOf iv).toNat)
      case atStart => exact ⟨p, ByteArray.empty, Nat.le_refl _, rfl, rfl, by simp, by simp [Hid]⟩
      case round =>
        obtain ⟨g, t, hg, rfl, rfl, hs, ht⟩ := hrel
        cases g with
        | zero =>
          go_wp2
          go_meet
          exact ⟨t, rfl, by omega, by simpa using ht⟩
        | succ g =>
          have e1 : ((g + 1 : Nat) : Int) - 1 = (g : Int) := by omega
          go_wp2
          go_round
          case rel => exact ⟨g, t ++ ⟨#[32]⟩, by omega, by go_num, rfl, by rw [ByteArray.size_append]; show t.size + 1 + g = p; omega, by
            have := ht.out
            unfold Hid
            rw [ba_list, this, show p - g = p - (g + 1) + 1 by omega, List.replicate_succ']⟩
          case measure => simp [intOf]
  case rest =>
    obtain ⟨t0, rfl, hs0, ht0, rfl⟩ := hcut
    go_upto_if 29 with (fail)
    go_cut [15] (fun sv wx => ∃ t : ByteArray, sv = .string t ∧ t.size ≤ 4 ∧ Hid (t.data.toList = List.replicate p 32 ++ S) ∧ w = wx)
    case first =>
      as_aux_lemma =>
        cases neg with
        | true =>
          go_wp2
          go_meet
          exact ⟨t0 ++ ⟨#[45]⟩, rfl, by rw [ByteArray.size_append]; show t0.size + 1 ≤ 4; omega, by have := ht0.out; unfold Hid; rw [ba_list, this, ← eS]; simp, rfl⟩
        | false =>
          go_wp2
          go_meet
          exact ⟨t0, rfl, by omega, by have := ht0.out; unfold Hid; rw [this, ← eS]; simp, rfl⟩
    case rest =>
      obtain ⟨t1, rfl, hs1, ht1, rfl⟩ := hcut
      have hsA : (⟨A.toArray⟩ : ByteArray).size = A.length := ba_size A
      have hsB : (⟨Bd.toArray⟩ : ByteArray).size = Bd.length := ba_size Bd
      have hsED : (⟨(sgnL ngE ++ Ed).toArray⟩ : ByteArray).size = (sgnL ngE ++ Ed).length := ba_size _
      rw [List.length_append] at hsED
      go_upto_if 37 with (go_at_call 16; refine (HA.out _ r0).mono ?_; rintro e w1 ⟨rfl, hb1⟩)
      have HB1 := Lib.hid hb1
      obtain ⟨t2, et2⟩ : ∃ t2, t1 ++ (⟨A.toArray⟩ : ByteArray) = t2 := ⟨_, rfl⟩
      have hs2 : t2.size ≤ 1004 := by rw [← et2, ByteArray.size_append]; omega
      have ht2 : Hid (t2.data.toList = List.replicate p 32 ++ (S ++ A)) := by unfold Hid; rw [← et2, ba_list, ht1.out, List.append_assoc]
      rw [et2]
      clear et2 hb1 ht1 ht0 hs0
      go_cut [15] (fun sv wx => ∃ (t : ByteArray) (P : List UInt8), sv = .string t ∧ t.size ≤ 2100 ∧ Hid (P.length ≤ 1001 ∧ (P = [] ∨ ∃ D2, P = 46 :: D2 ∧ D2 ≠ [] ∧ ∀ c ∈ D2, isDig c = true)) ∧ Hid (t.data.toList = List.replicate p 32 ++ (S ++ (A ++ P))) ∧ Hid (Below w.heap.size w wx))
      case first =>
        as_aux_lemma =>
          cases point with
          | true =>
            go_wp2_with (go_at_call 16; refine (HB.out _ HB1.out).mono ?_; rintro e w2 ⟨rfl, hb2⟩)
            go_meet
            refine ⟨t2 ++ ⟨#[46]⟩ ++ ⟨Bd.toArray⟩, 46 :: Bd, rfl, ?_, ?_, ?_, Lib.hid (HB1.out.trans (hb2.mono HB1.out.size))⟩
            · rw [ByteArray.size_append, ByteArray.size_append]; show t2.size + 1 + _ ≤ 2100; omega
            · exact ⟨by rw [List.length_cons]; omega, .inr ⟨Bd, rfl, hB.1, hB.2.1⟩⟩
            · have := ht2.out; unfold Hid; rw [ba_list, ba_list, this]; simp
          | false =>
            go_wp2
            go_meet
            exact ⟨t2, [], rfl, by omega, ⟨by simp, .inl rfl⟩, by have := ht2.out; unfold Hid; rw [this]; simp, HB1⟩
      case rest =>
        obtain ⟨t3, P, rfl, hs3, hP, ht3, HB3⟩ := hcut
        clear ht2 hs2 HB1 r0
        go_upto_if 44 with (fail)
        go_cut [15] (fun sv wx => ∃ (t : ByteArray) (X : List UInt8), sv = .string t ∧ t.size ≤ 4000 ∧ Hid (X = [] ∨ ∃ Sg D3, X = 101 :: (Sg ++ D3) ∧ (Sg = [] ∨ Sg = [45]) ∧ D3 ≠ [] ∧ ∀ c ∈ D3, isDig c = true) ∧ Hid (t.data.toList = List.replicate p 32 ++ (S ++ (A ++ P ++ X))) ∧ Hid (Below w.heap.size w wx))
        case first =>
          as_aux_lemma =>
            cases ex with
            | true =>
              go_wp2_with (go_at_call 16; refine (HE.out _ HB3.out).mono ?_; rintro e w2 ⟨rfl, hb2⟩)
              go_meet
              refine ⟨t3 ++ ⟨#[101]⟩ ++ ⟨(sgnL ngE ++ Ed).toArray⟩, 101 :: (sgnL ngE ++ Ed), rfl, ?_, ?_, ?_, Lib.hid (HB3.out.trans (hb2.mono HB3.out.size))⟩
              · rw [ByteArray.size_append, ByteArray.size_append]; show t3.size + 1 + _ ≤ 4000; omega
              · exact .inr ⟨sgnL ngE, Ed, rfl, by unfold sgnL; split <;> simp, hE.1, hE.2.1⟩
              · have := ht3.out; unfold Hid; rw [ba_list, ba_list, this]; simp
            | false =>
              go_wp2
              go_meet
              exact ⟨t3, [], rfl, by omega, .inl rfl, by have := ht3.out; unfold Hid; rw [this]; simp, HB3⟩
        case rest =>
          obtain ⟨t4, X, rfl, hs4, hX, ht4, HB4⟩ := hcut
          have hparts : numParts S A P X := ⟨hS, ⟨hA.1, hA.2.1⟩, hP.out.2, hX.out⟩
          have hbl : ∀ c ∈ List.replicate p (32 : UInt8), isBlank c = true := fun c hc => by rw [(List.mem_replicate.1 hc).2]; decide
          have el : ∀ (tl : ByteArray), (t4 ++ tl).data.toList = List.replicate p 32 ++ (S ++ (A ++ P ++ (X ++ tl.data.toList))) := fun tl => by rw [ba_list, ht4.out]; simp
          have el0 : t4.data.toList = List.replicate p 32 ++ (S ++ (A ++ P ++ (X ++ []))) := by rw [ht4.out]; simp
          have hN : (List.replicate p (32 : UInt8)).length + S.length + (A.length + P.length + X.length) = t4.size := by
            have : t4.data.toList.length = t4.size := rfl
            rw [← this, ht4.out]; simp; omega
          obtain ⟨x1, P1⟩ := made_prefix t4 (by omega) hbl hparts (.inl rfl) el0
          obtain ⟨x2, P2⟩ := made_prefix (t4 ++ ⟨#[120]⟩) (by rw [ByteArray.size_append]; show t4.size + 1 ≤ _; omega) hbl hparts (.inr (.inl rfl)) (el ⟨#[120]⟩)
          have L1 := made_looks t4 (by unfold maxLen; omega) hbl hparts (.inl rfl) el0 true (by decide)
          have L2 := made_looks (t4 ++ ⟨#[32, 10]⟩) (by rw [ByteArray.size_append]; show t4.size + 2 ≤ _; unfold maxLen; omega) hbl hparts (.inr (.inr rfl)) (el ⟨#[32, 10]⟩) true (by decide)
          have L3 := made_looks (t4 ++ ⟨#[120]⟩) (by rw [ByteArray.size_append]; show t4.size + 1 ≤ _; unfold maxLen; omega) hbl hparts (.inr (.inl rfl)) (el ⟨#[120]⟩) false (by decide)
          rw [hN] at P1 P2
          have Q1 : Hid (∀ W, Below w.heap.size w W → Calls Tryz.prog 9 #[.string t4] W fun e w' => e = .returned (.tuple #[.float .f64 x1, .int .i64 t4.size]) ∧ Below W.heap.size W w') := fun W hW => P1 W (HLL.out.below hW)
          have Q2 : Hid (∀ W, Below w.heap.size w W → Calls Tryz.prog 9 #[.string (t4 ++ ⟨#[120]⟩)] W fun e w' => e = .returned (.tuple #[.float .f64 x2, .int .i64 t4.size]) ∧ Below W.heap.size W w') := fun W hW => P2 W (HLL.out.below hW)
          have M1 := Lib.hid L1
          have M2 := Lib.hid L2
          have M3 := Lib.hid L3
          have hb4 := HB4.out
          clear P1 P2 L1 L2 L3 hN el el0 hparts hbl HB3 ht3 ht4 hP hX
          as_aux_lemma =>
            go_wp2_with (first
              | (go_at_call 9; first | (with_reducible refine (Q1.out _ hb4).mono ?_; rintro e w5 ⟨rfl, hb5⟩; have hb45 := hb4.trans (hb5.mono hb4.size)) | (with_reducible refine (Q2.out _ hb45).mono ?_; rintro e w6 ⟨rfl, hb6⟩; have hb46 := hb45.trans (hb6.mono hb45.size)))
              | (go_at_call 11; refine (HK.out _ hb46).mono ?_; rintro e w7 ⟨rfl, hb7⟩; have hb47 := hb46.trans (hb7.mono hb46.size))
              | (go_at_call 13; first | (with_reducible refine (M1.out _).mono ?_; rintro e w' ⟨rfl, rfl⟩) | (with_reducible refine (M2.out _).mono ?_; rintro e w' ⟨rfl, rfl⟩) | (with_reducible refine (M3.out _).mono ?_; rintro e w' ⟨rfl, rfl⟩)))
            go_ret
            exact ⟨ret_bool (by simp), hb47⟩

end Go.Proofs.YtjncgedjdmgpfaaGreatDoor
