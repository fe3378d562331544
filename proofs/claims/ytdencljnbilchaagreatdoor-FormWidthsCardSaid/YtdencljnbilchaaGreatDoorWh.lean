/- The walks of num.begin, num.numeral. Plain: what readFloat reads of a text of digits, signs, points and e. No program here. -/
import Derived.Test.YtdencljnbilchaaGreatDoorWa
import Derived.Deep.DeepCutAuto

namespace Go.Proofs.YtdencljnbilchaaGreatDoor
open Go.RowKit

def NumEnd (l : List UInt8) (i : Nat) (m : Nat) (wb : Bool) : Prop := i ≤ m ∧ m ≤ l.length ∧ (wb = false → mantN (l.drop i) = 0) ∧ (wb = true → i < m ∧ mantN (l.drop i) = m - i)

theorem numEnd_no (l : List UInt8) (i m : Nat) (h : NumEnd l i m false) : i + numeralN (l.drop i) = i := by
  rw [numeralN, if_pos (h.2.2.1 rfl)]; rfl
theorem numEnd_exp (l : List UInt8) (i m : Nat) (h : NumEnd l i m true) : i + numeralN (l.drop i) = m + expN (l.drop m) := by
  obtain ⟨h1, h2⟩ := h.2.2.2 rfl
  rw [numeralN, h2, if_neg (by omega), List.drop_drop, show i + (m - i) = m by omega]; omega

theorem exp_none (l : List UInt8) (m : Nat) (h : ¬ ∃ h : m < l.length, l[m] = 101 ∨ l[m] = 69) : expN (l.drop m) = 0 := by
  rw [expN, if_neg]
  intro hh
  apply h
  by_cases hm : m < l.length
  · rw [drop_head l m hm] at hh
    exact ⟨hm, by simpa using hh⟩
  · rw [drop_head_end l m (by omega)] at hh; simp at hh
theorem exp_some (l : List UInt8) (m : Nat) (h : m < l.length) (he : l[m] = 101 ∨ l[m] = 69) :
    expN (l.drop m) = if nWhile isDig (l.drop (m + 1 + sgnN (l.drop (m + 1)))) = 0 then 0 else 1 + sgnN (l.drop (m + 1)) + nWhile isDig (l.drop (m + 1 + sgnN (l.drop (m + 1)))) := by
  rw [expN, drop_head l m h, if_pos (by rcases he with he | he <;> simp [he])]
  simp only [List.drop_drop, Nat.add_assoc]
theorem sgn_none (l : List UInt8) (m : Nat) (h : ¬ ∃ h : m < l.length, l[m] = 43 ∨ l[m] = 45) : sgnN (l.drop m) = 0 := by
  rw [sgnN, if_neg]
  intro hh
  apply h
  by_cases hm : m < l.length
  · rw [drop_head l m hm] at hh
    exact ⟨hm, by simpa using hh⟩
  · rw [drop_head_end l m (by omega)] at hh; simp at hh
theorem sgn_some (l : List UInt8) (m : Nat) (h : m < l.length) (he : l[m] = 43 ∨ l[m] = 45) : sgnN (l.drop m) = 1 := by
  rw [sgnN, drop_head l m h, if_pos (by rcases he with he | he <;> simp [he])]

theorem mant_end (l : List UInt8) (i d : Nat) (hi : i ≤ l.length) (hd : i + nWhile isDig (l.drop i) = d) (h : ¬ ∃ h : d < l.length, l[d] = 46) : NumEnd l i d (decide (i < d)) := by
  have hm : mantN (l.drop i) = d - i := by
    rw [mantN, List.drop_drop, hd, if_neg]
    · omega
    · intro hh
      apply h
      by_cases hl : d < l.length
      · rw [drop_head l d hl] at hh; exact ⟨hl, by simpa using hh⟩
      · rw [drop_head_end l d (by omega)] at hh; cases hh
  have := nWhile_le isDig (l.drop i)
  simp only [List.length_drop] at this
  refine ⟨by omega, by omega, fun h => ?_, fun h => ?_⟩
  · simp at h; omega
  · simp at h; exact ⟨h, hm⟩
theorem mant_dot (l : List UInt8) (i d p : Nat) (hd : i + nWhile isDig (l.drop i) = d) (h : d < l.length) (h46 : l[d] = 46) (hp : d + 1 + nWhile isDig (l.drop (d + 1)) = p) :
    (i < d ∨ d + 1 < p → NumEnd l i p true) ∧ (¬ i < d → ¬ d + 1 < p → NumEnd l i d false) := by
  have h1 := nWhile_le isDig (l.drop (d + 1))
  simp only [List.length_drop] at h1
  have hm : mantN (l.drop i) = if nWhile isDig (l.drop i) = 0 ∧ nWhile isDig (l.drop (d + 1)) = 0 then 0 else nWhile isDig (l.drop i) + 1 + nWhile isDig (l.drop (d + 1)) := by
    rw [mantN, List.drop_drop, hd, drop_head l d h, h46, if_pos rfl, List.drop_drop, ← Nat.add_assoc, hd]
  constructor
  · intro hor
    refine ⟨by omega, by omega, fun h => by simp at h, fun _ => ⟨by omega, ?_⟩⟩
    rw [hm, if_neg (by omega)]; omega
  · intro h2 h3
    refine ⟨by omega, by omega, fun _ => ?_, fun h => by simp at h⟩
    rw [hm, if_pos (by omega)]

end Go.Proofs.YtdencljnbilchaaGreatDoor

namespace Go.Proofs.YtdencljnbilchaaGreatDoor

/-- The bytes that numerals are made of. -/
def numChL : List UInt8 := [43, 45, 46, 48, 49, 50, 51, 52, 53, 54, 55, 56, 57, 69, 101]

structure RF where
  mant : Nat
  nd : Nat
  ndm : Nat
  dp : Int
  sd : Bool
  sg : Bool
  tr : Bool

def RF.init : RF := ⟨0, 0, 0, 0, false, false, false⟩

def rfStep (st : RF) (c : UInt8) : Option RF :=
  if c = 46 then (if st.sd = true then none else some { st with sd := true, dp := st.nd })
  else if isDig c = true then
    (if c = 48 ∧ st.nd = 0 then some { st with sg := true, dp := st.dp - 1 }
     else if st.ndm < 19 then some { st with sg := true, nd := st.nd + 1, mant := st.mant * 10 + (c.toNat - 48), ndm := st.ndm + 1 }
     else some { st with sg := true, nd := st.nd + 1, tr := if c = 48 then st.tr else true })
  else none

def rfLoop : RF → List UInt8 → RF × Nat
  | st, [] => (st, 0)
  | st, c :: r => match rfStep st c with
    | none => (st, 0)
    | some st' => ((rfLoop st' r).1, (rfLoop st' r).2 + 1)

/-- The exponent's digits: a number that stops at ten thousand, how many. -/
def eLoop : Nat → List UInt8 → Nat × Nat
  | e, [] => (e, 0)
  | e, c :: r => if isDig c = true then ((eLoop (if e < 10000 then e * 10 + (c.toNat - 48) else e) r).1, (eLoop (if e < 10000 then e * 10 + (c.toNat - 48) else e) r).2 + 1) else (e, 0)

structure RFRes where
  mant : Nat
  exp : Int
  neg : Bool
  tr : Bool
  i : Nat
  ok : Bool

def rfDone (neg : Bool) (st : RF) (dp : Int) (i : Nat) : RFRes := ⟨st.mant, if st.mant = 0 then 0 else dp - st.ndm, neg, st.tr, i, true⟩

def rfExp (l : List UInt8) (neg : Bool) (st : RF) (dp : Int) (k : Nat) : RFRes :=
  if l.length ≤ k then ⟨st.mant, 0, neg, st.tr, k, false⟩
  else if nWhile isDig (l.drop (k + sgnN (l.drop k))) = 0 then ⟨st.mant, 0, neg, st.tr, k + sgnN (l.drop k), false⟩
  else rfDone neg st (dp + (eLoop 0 (l.drop (k + sgnN (l.drop k)))).1 * (if (l.drop k).head? = some 45 then -1 else 1)) (k + sgnN (l.drop k) + (eLoop 0 (l.drop (k + sgnN (l.drop k)))).2)

def rfTail (l : List UInt8) (neg : Bool) (st : RF) (i : Nat) : RFRes :=
  if st.sg = false then ⟨st.mant, 0, neg, st.tr, i, false⟩
  else if (l.drop i).head? = some 101 ∨ (l.drop i).head? = some 69 then rfExp l neg st (if st.sd = true then st.dp else st.nd) (i + 1)
  else rfDone neg st (if st.sd = true then st.dp else st.nd) i

def rf (l : List UInt8) : RFRes :=
  if l = [] then ⟨0, 0, false, false, 0, false⟩
  else rfTail l (decide (l.head? = some 45)) (rfLoop .init (l.drop (sgnN l))).1 (sgnN l + (rfLoop .init (l.drop (sgnN l))).2)

theorem rfLoop_end (st : RF) (l : List UInt8) (k : Nat) (h : l.length ≤ k) : rfLoop st (l.drop k) = (st, 0) := by
  rw [List.drop_eq_nil_of_le h]; rfl
theorem rfLoop_no (st : RF) (l : List UInt8) (k : Nat) (h : k < l.length) (hs : rfStep st l[k] = none) : rfLoop st (l.drop k) = (st, 0) := by
  rw [drop_at l k h, rfLoop, hs]
theorem rfLoop_yes (st st' : RF) (l : List UInt8) (k : Nat) (h : k < l.length) (hs : rfStep st l[k] = some st') : rfLoop st (l.drop k) = ((rfLoop st' (l.drop (k + 1))).1, (rfLoop st' (l.drop (k + 1))).2 + 1) := by
  rw [drop_at l k h, rfLoop, hs]
theorem eLoop_end (e : Nat) (l : List UInt8) (k : Nat) (h : l.length ≤ k) : eLoop e (l.drop k) = (e, 0) := by
  rw [List.drop_eq_nil_of_le h]; rfl
theorem eLoop_no (e : Nat) (l : List UInt8) (k : Nat) (h : k < l.length) (hs : isDig l[k] = false) : eLoop e (l.drop k) = (e, 0) := by
  rw [drop_at l k h, eLoop, hs]; rfl
theorem eLoop_yes (e : Nat) (l : List UInt8) (k : Nat) (h : k < l.length) (hs : isDig l[k] = true) : eLoop e (l.drop k) = ((eLoop (if e < 10000 then e * 10 + (l[k].toNat - 48) else e) (l.drop (k + 1))).1, (eLoop (if e < 10000 then e * 10 + (l[k].toNat - 48) else e) (l.drop (k + 1))).2 + 1) := by
  rw [drop_at l k h, eLoop, if_pos hs]

/-- What always holds of the loop's state behind k bytes. -/
def RF.ok (st : RF) (k : Nat) : Prop := st.mant < 10 ^ st.ndm ∧ st.ndm ≤ 19 ∧ st.nd ≤ k ∧ st.ndm ≤ st.nd ∧ -(k : Int) ≤ st.dp ∧ st.dp ≤ k

theorem dig_bd {c : UInt8} (h : isDig c = true) : 48 ≤ c.toNat ∧ c.toNat ≤ 57 := by
  simp [isDig, digB] at h; omega

theorem rfStep_ok (st st' : RF) (k : Nat) (c : UInt8) (h : st.ok k) (hs : rfStep st c = some st') : st'.ok (k + 1) := by
  obtain ⟨h1, h2, h3, h4, h5, h6⟩ := h
  unfold rfStep at hs
  split at hs
  · split at hs
    · cases hs
    · cases hs; exact ⟨h1, h2, by show st.nd ≤ k + 1; omega, h4, by show -((k + 1 : Nat) : Int) ≤ (st.nd : Int); omega, by show (st.nd : Int) ≤ _; omega⟩
  · split at hs
    · rename_i hd
      have := dig_bd hd
      split at hs
      · cases hs; exact ⟨h1, h2, by show st.nd ≤ k + 1; omega, h4, by show -((k + 1 : Nat) : Int) ≤ st.dp - 1; omega, by show st.dp - 1 ≤ _; omega⟩
      · split at hs
        · cases hs
          refine ⟨?_, by show st.ndm + 1 ≤ 19; omega, by show st.nd + 1 ≤ k + 1; omega, by show st.ndm + 1 ≤ st.nd + 1; omega, by show _ ≤ st.dp; omega, by show st.dp ≤ _; omega⟩
          show st.mant * 10 + (c.toNat - 48) < 10 ^ (st.ndm + 1)
          rw [Nat.pow_succ]; omega
        · cases hs
          exact ⟨h1, h2, by show st.nd + 1 ≤ k + 1; omega, by show st.ndm ≤ st.nd + 1; omega, by show _ ≤ st.dp; omega, by show st.dp ≤ _; omega⟩
    · cases hs

end Go.Proofs.YtdencljnbilchaaGreatDoor
