/- Plain: escapes, what the inside of a text tells, a regular expression's inside. No program here. -/
import Derived.Test.YtkedagbknflacaaDoorPa
namespace Go.Proofs.YtkedagbknflacaaDoor

def lettersL : List UInt8 := [34, 92, 47, 110, 116, 114, 102, 118, 97, 98]
def bytesL : List UInt8 := [34, 92, 47, 10, 9, 13, 12, 11, 7, 8]

/-- Octal digits at the beginning, at most so many: the number, how many. -/
def oct : Nat → Nat → List UInt8 → Nat × Nat
  | 0, n, _ => (n, 0)
  | _ + 1, n, [] => (n, 0)
  | f + 1, n, c :: r => if 48 ≤ c.toNat ∧ c.toNat ≤ 55 then ((oct f (8 * n + (c.toNat - 48)) r).1, (oct f (8 * n + (c.toNat - 48)) r).2 + 1) else (n, 0)

/-- The byte that stands behind a backslash, how many bytes tell it; 0: that is none. -/
def escL (l : List UInt8) : UInt8 × Nat :=
  match l with
  | [] => (0, 0)
  | c :: _ => if lettersL.idxOf c < 10 then (bytesL.getD (lettersL.idxOf c) 0, 1) else (UInt8.ofNat (oct 3 0 l).1, (oct 3 0 l).2)

theorem oct_yes (f n : Nat) (l : List UInt8) (k : Nat) (h : k < l.length) (h1 : 48 ≤ l[k].toNat ∧ l[k].toNat ≤ 55) :
    oct (f + 1) n (l.drop k) = ((oct f (8 * n + (l[k].toNat - 48)) (l.drop (k + 1))).1, (oct f (8 * n + (l[k].toNat - 48)) (l.drop (k + 1))).2 + 1) := by
  rw [drop_at l k h, oct, if_pos h1]
theorem oct_no (f n : Nat) (l : List UInt8) (k : Nat) (h : k < l.length) (h1 : ¬ (48 ≤ l[k].toNat ∧ l[k].toNat ≤ 55)) : oct f n (l.drop k) = (n, 0) := by
  cases f with
  | zero => rfl
  | succ f => rw [drop_at l k h, oct, if_neg h1]
theorem oct_end (f n : Nat) (l : List UInt8) (k : Nat) (h : l.length ≤ k) : oct f n (l.drop k) = (n, 0) := by
  rw [List.drop_eq_nil_of_le h]; cases f <;> rfl
theorem oct_le : ∀ (f n : Nat) (l : List UInt8), (oct f n l).2 ≤ f ∧ (oct f n l).2 ≤ l.length
  | 0, _, _ => by simp [oct]
  | _ + 1, _, [] => by simp [oct]
  | f + 1, n, c :: r => by
    unfold oct
    split
    · have := oct_le f (8 * n + (c.toNat - 48)) r; simp; omega
    · simp

theorem escL_le (l : List UInt8) : (escL l).2 ≤ l.length := by
  unfold escL
  split
  · simp
  · rename_i c r
    split
    · simp
    · exact (oct_le 3 0 (c :: r)).2

theorem idx_step (c : UInt8) (L : List UInt8) (k : Nat) (h : k < L.length) : (L.drop k).idxOf c = if L[k] = c then 0 else (L.drop (k + 1)).idxOf c + 1 := by
  rw [List.drop_eq_getElem_cons h, List.idxOf_cons]
  by_cases hc : L[k] = c
  · simp [hc]
  · rw [if_neg hc, beq_eq_false_iff_ne.2 hc]; rfl

theorem escL_letter (c : UInt8) (l : List UInt8) (hl : 0 < l.length) (hc : l[0] = c) (k : Nat) (h : k < 10) (hx : lettersL.idxOf c = k) : escL l = (bytesL[k]'h, 1) := by
  cases l with
  | nil => simp at hl
  | cons d r =>
    simp at hc; subst hc
    rw [escL, hx, if_pos h]
    congr 1
    rw [List.getD_eq_getElem?_getD, List.getElem?_eq_getElem (show k < bytesL.length from h)]; rfl
theorem escL_oct (c : UInt8) (l : List UInt8) (hl : 0 < l.length) (hc : l[0] = c) (hx : ¬ lettersL.idxOf c < 10) : escL l = (UInt8.ofNat (oct 3 0 l).1, (oct 3 0 l).2) := by
  cases l with
  | nil => simp at hl
  | cons d r =>
    simp at hc; subst hc
    rw [escL, if_neg hx]

def decF : Nat → List UInt8 → Option (List UInt8)
  | 0, _ => none
  | _ + 1, [] => some []
  | f + 1, c :: r => if c ≠ 92 then (decF f r).map (c :: ·) else if (escL r).2 = 0 then none else (decF f (r.drop (escL r).2)).map ((escL r).1 :: ·)

/-- What the inside of a text tells; none: an escape that is none. -/
def dec (l : List UInt8) : Option (List UInt8) := decF (l.length + 1) l

theorem decF_fuel : ∀ (f g : Nat) (l : List UInt8), l.length < f → l.length < g → decF f l = decF g l
  | 0, _, _, h, _ => absurd h (by omega)
  | _, 0, _, _, h => absurd h (by omega)
  | f + 1, g + 1, [], _, _ => rfl
  | f + 1, g + 1, c :: r, h, h' => by
    simp only [List.length_cons] at h h'
    unfold decF
    rw [decF_fuel f g r (by omega) (by omega), decF_fuel f g (r.drop (escL r).2) (by simp; omega) (by simp; omega)]

theorem dec_nil : dec [] = some [] := rfl
theorem dec_plain (c : UInt8) (r : List UInt8) (h : c ≠ 92) : dec (c :: r) = (dec r).map (c :: ·) := by
  rw [dec, decF, if_pos h]; rfl
theorem dec_bad (r : List UInt8) (h : (escL r).2 = 0) : dec (92 :: r) = none := by
  rw [dec, decF, if_neg (by simp), if_pos h]
theorem dec_esc (r : List UInt8) (h : (escL r).2 ≠ 0) : dec (92 :: r) = (dec (r.drop (escL r).2)).map ((escL r).1 :: ·) := by
  rw [dec, decF, if_neg (by simp), if_neg h, dec, decF_fuel ((92 :: r).length) ((r.drop (escL r).2).length + 1) _ (by simp; omega) (by omega)]

/-- A regular expression's inside, with \/ as /. -/
def unsl : List UInt8 → List UInt8
  | [] => []
  | [c] => if c = 92 then [] else [c]
  | c :: d :: r => if c = 92 then (if d = 47 then unsl r |>.cons d else 92 :: d :: unsl r) else c :: unsl (d :: r)

end Go.Proofs.YtkedagbknflacaaDoor
