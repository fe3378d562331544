/- The walk of floatBits. Plain: numerals that are put together of their parts. No program here. Plain: what readFloat reads of a whole number's digits. No program here. -/
import Derived.Test.YtdencljnbilchaaGreatDoorFn
import Derived.Test.YtdencljnbilchaaGreatDoorGt
import Derived.Test.YtdencljnbilchaaGreatDoorWj
import Derived.Deep.DeepCutAuto
import Derived.Deep.CutBlock
import Derived.Test.YtdencljnbilchaaGreatDoorPa
import Derived.Test.YtdencljnbilchaaGreatDoorFa

namespace Go.Proofs.YtdencljnbilchaaGreatDoor
open Go.RowKit

theorem DecS.drewN {w : World} {b : Nat} {ng : Bool} {s : DS} (h : DecS w b ng s) (n : Nat) : DecS (w.drewN n) b ng s := by
  obtain ⟨f, h1, h2⟩ := h; exact ⟨f, h1.drewN n, h2⟩

/-- Number, exponent, overflow, as they come to the end. -/
def fbTail (s : DS) (e : Int) : Nat × Int × Bool :=
  if 2047 ≤ e + 1023 then (0, 1024, true)
  else
    let m := riV (shlR s 53)
    if m = 9007199254740992 then (if 2047 ≤ e + 1 + 1023 then (0, 1024, true) else (4503599627370496, e + 1, false))
    else (m, if bits .and .u64 (m : Int) 4503599627370496 = 0 then -1023 else e, false)
def fbMid (s : DS) (e : Int) : Nat × Int × Bool := if e - 1 < -1022 then fbTail (shrR s (-1022 - (e - 1)).toNat) (-1022) else fbTail s (e - 1)
def fbFin (s : DS) : Nat × Int × Bool :=
  if s.nd = 0 then (0, -1023, false) else if 310 < s.dp then (0, 1024, true) else if s.dp < -330 then (0, -1023, false)
  else fbMid (fb2 (mu2 (fb1 (mu1 s) s 0).1) (fb1 (mu1 s) s 0).1 (fb1 (mu1 s) s 0).2).1 (fb2 (mu2 (fb1 (mu1 s) s 0).1) (fb1 (mu1 s) s 0).1 (fb1 (mu1 s) s 0).2).2

def outI (ng : Bool) (m : Nat) (e : Int) : Int :=
  if ng = true then bits .or .u64 (bits .or .u64 (bits .and .u64 (m : Int) 4503599627370495) ((e + 1023) * 4503599627370496)) 9223372036854775808
  else bits .or .u64 (bits .and .u64 (m : Int) 4503599627370495) ((e + 1023) * 4503599627370496)
theorem outI_bd (ng : Bool) (m : Nat) (e : Int) : 0 ≤ outI ng m e ∧ outI ng m e < 18446744073709551616 := by
  unfold outI; split <;> exact bits_bd ..

theorem and2047 (x : Int) (h0 : 0 ≤ x) (h1 : x ≤ 2047) : bits .and .i64 x 2047 = x := by
  have h : ∀ s : Fin 2048, bits .and .i64 ((s : Nat) : Int) 2047 = (s : Nat) := by decide +kernel
  have := h ⟨x.toNat, by omega⟩
  rwa [show ((x.toNat : Nat) : Int) = x by omega] at this

end Go.Proofs.YtdencljnbilchaaGreatDoor

namespace Go.Proofs.YtdencljnbilchaaGreatDoor

theorem nWhile_app (p : UInt8 → Bool) : ∀ (A r : List UInt8), (∀ c ∈ A, p c = true) → nWhile p (A ++ r) = A.length + nWhile p r
  | [], r, _ => by simp
  | a :: A, r, h => by
    have ih := nWhile_app p A r (fun c hc => h c (List.mem_cons_of_mem _ hc))
    have e : nWhile p (a :: (A ++ r)) = nWhile p (A ++ r) + 1 := by
      have := nWhile_yes p (a :: (A ++ r)) 0 (by simp) (h a (List.mem_cons_self ..))
      simpa using this
    rw [List.cons_append, e, ih, List.length_cons]; omega

theorem nWhile_zero (p : UInt8 → Bool) (r : List UInt8) (h : ∀ c, r.head? = some c → p c = false) : nWhile p r = 0 := by
  cases r with
  | nil => rfl
  | cons c r =>
    have := nWhile_no p (c :: r) 0 (by simp) (h c rfl)
    simpa using this

/-- What may follow a numeral: nothing, or what makes it no longer. -/
def tailOk (t : List UInt8) : Prop := t = [] ∨ t.head? = some 120 ∨ t.head? = some 32

theorem tail_head {t : List UInt8} (h : tailOk t) (c : UInt8) (hc : t.head? = some c) : isDig c = false ∧ c ≠ 46 ∧ c ≠ 101 ∧ c ≠ 69 := by
  rcases h with rfl | h | h
  · cases hc
  · rw [h] at hc; cases hc; decide
  · rw [h] at hc; cases hc; decide

structure numParts (S D1 P X : List UInt8) : Prop where
  s : S = [] ∨ S = [45]
  d1 : D1 ≠ [] ∧ ∀ c ∈ D1, isDig c = true
  p : P = [] ∨ ∃ D2, P = 46 :: D2 ∧ D2 ≠ [] ∧ ∀ c ∈ D2, isDig c = true
  x : X = [] ∨ ∃ Sg D3, X = 101 :: (Sg ++ D3) ∧ (Sg = [] ∨ Sg = [45]) ∧ D3 ≠ [] ∧ ∀ c ∈ D3, isDig c = true

theorem dig_ne {c : UInt8} (h : isDig c = true) : c ≠ 43 ∧ c ≠ 45 ∧ isBlank c = false := by
  unfold isDig digB at h
  simp at h
  refine ⟨fun e => ?_, fun e => ?_, ?_⟩
  · subst e; simp at h
  · subst e; simp at h
  · unfold isBlank blankB; simp; omega

theorem head_digits {D : List UInt8} (h : D ≠ [] ∧ ∀ c ∈ D, isDig c = true) (r : List UInt8) : ∃ c, (D ++ r).head? = some c ∧ isDig c = true := by
  cases D with
  | nil => exact absurd rfl h.1
  | cons c D => exact ⟨c, rfl, h.2 c (List.mem_cons_self ..)⟩

theorem sgn_digits {D : List UInt8} (h : D ≠ [] ∧ ∀ c ∈ D, isDig c = true) (r : List UInt8) : sgnN (D ++ r) = 0 := by
  obtain ⟨c, hc, hd⟩ := head_digits h r
  unfold sgnN
  rw [hc, if_neg]
  rintro (e | e)
  · exact (dig_ne hd).1 (Option.some.inj e)
  · exact (dig_ne hd).2.1 (Option.some.inj e)

theorem exp_parts {S D1 P X t : List UInt8} (h : numParts S D1 P X) (ht : tailOk t) : expN (X ++ t) = X.length := by
  rcases h.x with rfl | ⟨Sg, D3, rfl, hs, hd⟩
  · rw [List.nil_append]
    unfold expN
    rw [if_neg]
    · rfl
    · rintro (e | e)
      · exact (tail_head ht _ e).2.2.1 rfl
      · exact (tail_head ht _ e).2.2.2 rfl
  · have hD : ∀ c, t.head? = some c → isDig c = false := fun c hc => (tail_head ht c hc).1
    have hl : 0 < D3.length := List.length_pos_iff.2 hd.1
    have hn : nWhile isDig (D3 ++ t) = D3.length := by rw [nWhile_app isDig D3 t hd.2, nWhile_zero isDig t hD, Nat.add_zero]
    unfold expN
    rw [if_pos (.inl rfl)]
    have e1 : (101 :: (Sg ++ D3) ++ t).drop 1 = Sg ++ (D3 ++ t) := by simp
    rw [e1]
    rcases hs with rfl | rfl
    · rw [List.nil_append, sgn_digits hd t]
      have e2 : (101 :: ([] ++ D3) ++ t).drop (1 + 0) = D3 ++ t := by simp
      rw [e2, hn, if_neg (by omega)]
      simp; omega
    · have e3 : sgnN ([45] ++ (D3 ++ t)) = 1 := by unfold sgnN; rw [if_pos (.inr rfl)]
      rw [e3]
      have e2 : (101 :: ([45] ++ D3) ++ t).drop (1 + 1) = D3 ++ t := by simp
      rw [e2, hn, if_neg (by omega)]
      simp; omega

theorem mant_parts {S D1 P X t : List UInt8} (h : numParts S D1 P X) (ht : tailOk t) : mantN (D1 ++ P ++ (X ++ t)) = D1.length + P.length ∧ (D1 ++ P ++ (X ++ t)).drop (D1.length + P.length) = X ++ t := by
  have hl : 0 < D1.length := List.length_pos_iff.2 h.d1.1
  have hX : ∀ c, (X ++ t).head? = some c → isDig c = false ∧ c ≠ 46 := by
    rcases h.x with rfl | ⟨Sg, D3, rfl, _, _⟩
    · exact fun c hc => ⟨(tail_head ht c hc).1, (tail_head ht c hc).2.1⟩
    · intro c hc
      cases hc
      exact ⟨by decide, by decide⟩
  refine ⟨?_, by rw [← List.length_append, List.drop_left]⟩
  rcases h.p with rfl | ⟨D2, rfl, hd2⟩
  · have e0 : D1 ++ [] ++ (X ++ t) = D1 ++ (X ++ t) := by simp
    rw [e0]
    have hn : nWhile isDig (D1 ++ (X ++ t)) = D1.length := by rw [nWhile_app isDig D1 _ h.d1.2, nWhile_zero isDig _ (fun c hc => (hX c hc).1), Nat.add_zero]
    unfold mantN
    rw [hn, List.drop_left, if_neg (fun e => (hX _ e).2 rfl)]
    rfl
  · have e0 : D1 ++ 46 :: D2 ++ (X ++ t) = D1 ++ (46 :: (D2 ++ (X ++ t))) := by simp
    rw [e0]
    have hl2 : 0 < D2.length := List.length_pos_iff.2 hd2.1
    have hn : nWhile isDig (D1 ++ (46 :: (D2 ++ (X ++ t)))) = D1.length := by
      rw [nWhile_app isDig D1 _ h.d1.2, nWhile_zero isDig _ (fun c hc => by cases hc; decide), Nat.add_zero]
    have hn2 : nWhile isDig (D2 ++ (X ++ t)) = D2.length := by rw [nWhile_app isDig D2 _ hd2.2, nWhile_zero isDig _ (fun c hc => (hX c hc).1), Nat.add_zero]
    have e1 : (D1 ++ (46 :: (D2 ++ (X ++ t)))).drop (D1.length + 1) = D2 ++ (X ++ t) := by
      rw [← List.drop_drop, List.drop_left]; rfl
    unfold mantN
    rw [hn, List.drop_left, if_pos (show (46 :: (D2 ++ (X ++ t))).head? = some 46 from rfl), e1, hn2, if_neg (by omega)]
    simp; omega

theorem numeral_parts {S D1 P X t : List UInt8} (h : numParts S D1 P X) (ht : tailOk t) : numeralN (D1 ++ P ++ (X ++ t)) = D1.length + P.length + X.length := by
  have hl : 0 < D1.length := List.length_pos_iff.2 h.d1.1
  obtain ⟨h1, h2⟩ := mant_parts h ht
  unfold numeralN
  rw [h1, h2, if_neg (by omega), exp_parts h ht]

end Go.Proofs.YtdencljnbilchaaGreatDoor

namespace Go.Proofs.YtdencljnbilchaaGreatDoor

theorem rfLoop_append : ∀ (A B : List UInt8) (st st' : RF), rfLoop st A = (st', A.length) → rfLoop st (A ++ B) = ((rfLoop st' B).1, A.length + (rfLoop st' B).2)
  | [], B, st, st', h => by
    have e : st' = st := by have := congrArg Prod.fst h; exact this.symm
    subst e
    simp
  | a :: A, B, st, st', h => by
    rw [List.cons_append, rfLoop]
    rw [rfLoop] at h
    cases hs : rfStep st a with
    | none => rw [hs] at h; have := congrArg Prod.snd h; simp at this
    | some s1 =>
      rw [hs] at h
      have h1 : rfLoop s1 A = (st', A.length) := by
        have a1 := congrArg Prod.fst h
        have a2 := congrArg Prod.snd h
        simp only [List.length_cons] at a1 a2
        exact Prod.ext a1 (by show (rfLoop s1 A).2 = A.length; omega)
      have ih := rfLoop_append A B s1 st' h1
      simp only [ih, List.length_cons]
      congr 1
      omega

theorem dgf_isDig (X N i : Nat) : isDig (UInt8.ofNat (dgf X N i)) = true := by
  have h := dgf_digit X N i
  unfold isDig digB
  rw [UInt8.toNat_ofNat', Nat.mod_eq_of_lt (by omega)]
  simp; omega

theorem dgf_byte (X N i : Nat) : (UInt8.ofNat (dgf X N i)).toNat = dgf X N i := by
  have h := dgf_digit X N i
  rw [UInt8.toNat_ofNat', Nat.mod_eq_of_lt (by omega)]

def stJ (X N j : Nat) : RF := ⟨X / 10 ^ (N - j), j, j, 0, false, decide (0 < j), false⟩

theorem rfLoop_digits (X N : Nat) (hN : 1 ≤ N) (hN19 : N ≤ 19) (h1 : 10 ^ (N - 1) ≤ X) (h2 : X < 10 ^ N) : ∀ j, j ≤ N → rfLoop .init (digsL (dgf X N) 0 j) = (stJ X N j, j)
  | 0, _ => by
    have h0 : X / 10 ^ N = 0 := Nat.div_eq_of_lt h2
    show (RF.init, 0) = _
    unfold stJ RF.init
    rw [Nat.sub_zero, h0]; rfl
  | j + 1, hj => by
    have ih := rfLoop_digits X N hN hN19 h1 h2 j (by omega)
    have e := rfLoop_append (digsL (dgf X N) 0 j) [UInt8.ofNat (dgf X N (0 + j))] .init (stJ X N j) (by rw [ih, digsL_len])
    rw [digsL_succ, e, digsL_len, Nat.zero_add]
    have hd := dgf_digit X N j
    have hb := dgf_byte X N j
    have hst : rfStep (stJ X N j) (UInt8.ofNat (dgf X N j)) = some (stJ X N (j + 1)) := by
      have n46 : UInt8.ofNat (dgf X N j) ≠ 46 := fun e => by rw [e] at hb; have : (46 : UInt8).toNat = 46 := rfl; omega
      have n48 : ¬ (UInt8.ofNat (dgf X N j) = 48 ∧ (stJ X N j).nd = 0) := by
        rintro ⟨e, e0⟩
        have hj0 : j = 0 := e0
        subst hj0
        rw [e] at hb
        have e48 : (48 : UInt8).toNat = 48 := rfl
        have hz : X / 10 ^ (N - 1 - 0) % 10 = 0 := by unfold dgf at hb; omega
        have hp : 1 ≤ X / 10 ^ (N - 1) := (Nat.le_div_iff_mul_le (Nat.pow_pos (by decide))).2 (by omega)
        have hlt : X / 10 ^ (N - 1) < 10 := by
          rw [Nat.div_lt_iff_lt_mul (Nat.pow_pos (by decide)), ← Nat.pow_succ', show (N - 1).succ = N by omega]; exact h2
        rw [Nat.sub_zero] at hz
        omega
      unfold rfStep
      rw [if_neg n46, if_pos (dgf_isDig X N j), if_neg n48, if_pos (show (stJ X N j).ndm < 19 by show j < 19; omega)]
      have hm : X / 10 ^ (N - j) * 10 + (dgf X N j - 48) = X / 10 ^ (N - (j + 1)) := by
        unfold dgf
        rw [show N - 1 - j = N - (j + 1) by omega, show N - j = (N - (j + 1)) + 1 by omega, Nat.pow_succ, ← Nat.div_div_eq_div_mul]
        omega
      show some (RF.mk (X / 10 ^ (N - j) * 10 + ((UInt8.ofNat (dgf X N j)).toNat - 48)) (j + 1) (j + 1) 0 false true false) = some (stJ X N (j + 1))
      rw [hb, hm]
      unfold stJ
      rw [decide_eq_true (show 0 < j + 1 by omega)]
    have h1s : rfLoop (stJ X N j) [UInt8.ofNat (dgf X N j)] = (stJ X N (j + 1), 1) := by
      rw [rfLoop, hst]; rfl
    rw [h1s]

theorem rf_whole (neg : Bool) (X N : Nat) (hN : 1 ≤ N) (hN19 : N ≤ 19) (h1 : 10 ^ (N - 1) ≤ X) (h2 : X < 10 ^ N) :
    rf (sgnL neg ++ digsL (dgf X N) 0 N) = ⟨X, 0, neg, false, (sgnL neg ++ digsL (dgf X N) 0 N).length, true⟩ := by
  have hX0 : X ≠ 0 := by have := Nat.pow_pos (n := N - 1) (show 0 < 10 by decide); omega
  have hD : digsL (dgf X N) 0 N ≠ [] ∧ ∀ c ∈ digsL (dgf X N) 0 N, isDig c = true := by
    refine ⟨fun e => by have := congrArg List.length e; rw [digsL_len] at this; simp at this; omega, fun c hc => ?_⟩
    unfold digsL at hc
    obtain ⟨k, _, rfl⟩ := List.mem_map.1 hc
    exact dgf_isDig _ _ _
  have hl := rfLoop_digits X N hN hN19 h1 h2 N (Nat.le_refl _)
  have hst : stJ X N N = ⟨X, N, N, 0, false, true, false⟩ := by unfold stJ; rw [Nat.sub_self, Nat.pow_zero, Nat.div_one, decide_eq_true (by omega)]
  rw [hst] at hl
  obtain ⟨D, eD⟩ : ∃ D, digsL (dgf X N) 0 N = D := ⟨_, rfl⟩
  have hDl : D.length = N := by rw [← eD, digsL_len]
  rw [eD] at hD hl ⊢
  have hsg : sgnN (sgnL neg ++ D) = (sgnL neg).length := by
    cases neg
    · have := sgn_digits hD []
      rw [List.append_nil] at this
      exact this
    · unfold sgnN; rw [if_pos (.inr rfl)]; rfl
  have hneg : decide ((sgnL neg ++ D).head? = some 45) = neg := by
    cases neg
    · obtain ⟨c, hc, hd⟩ := head_digits hD []
      rw [List.append_nil] at hc
      show decide (D.head? = some 45) = false
      rw [hc]
      exact decide_eq_false (fun e => (dig_ne hd).2.1 (Option.some.inj e))
    · exact decide_eq_true rfl
  have hne : sgnL neg ++ D ≠ [] := fun e => hD.1 (List.append_eq_nil_iff.1 e).2
  unfold rf
  rw [if_neg hne, hneg, hsg, List.drop_left, hl]
  unfold rfTail
  have hlen : (sgnL neg).length + N = (sgnL neg ++ D).length := by rw [List.length_append, hDl]
  have hend : ((sgnL neg ++ D).drop ((sgnL neg).length + N)).head? = none := by rw [hlen, List.drop_length]; rfl
  simp only [hend]
  rw [if_neg (by decide), if_neg (by simp)]
  unfold rfDone
  simp only [if_neg hX0, hlen]
  congr 1
  simp

end Go.Proofs.YtdencljnbilchaaGreatDoor
