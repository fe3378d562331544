/- Walks of the small functions of the token and num layers that touch no memory. Plain: escapes, what the inside of a text tells, a regular expression's inside. No program here. Plain: closing and escapes step together. No program here. Plain: numerals. No program here. -/
import Derived.Test.YtdencljnbilchaaGreatDoorRows
import Derived.Test.YtdencljnbilchaaGreatDoorPi
import Derived.WalkKit
import Derived.WalkSpells
import Derived.WalkLawsBesides
import Derived.Lib.Hide

namespace Go.Proofs.YtdencljnbilchaaGreatDoor
open Go.RowKit

theorem ret_int {k : IntKind} {a b : Int} (h : a = b) : Ending.returned (.int k a) = .returned (.int k b) := by rw [h]
theorem ret_bool {a b : Bool} (h : a = b) : Ending.returned (.bool a) = .returned (.bool b) := by rw [h]
theorem u8_of_beq {c : UInt8} {d : UInt8} (h : ((c.toNat : Int) == (d.toNat : Int)) = true) : c = d := UInt8.toNat_inj.1 (by have := eq_of_beq h; omega)
theorem u8_ne_of_beq {c : UInt8} {d : UInt8} (h : ((c.toNat : Int) == (d.toNat : Int)) = false) : c ≠ d := fun e => by subst e; simp at h
theorem beq_t {c d : UInt8} (h : c = d) : ((c.toNat : Int) == (d.toNat : Int)) = true := by subst h; simp
theorem beq_f {c d : UInt8} (h : c ≠ d) : ((c.toNat : Int) == (d.toNat : Int)) = false := by
  cases hb : ((c.toNat : Int) == (d.toNat : Int)) with
  | false => rfl
  | true => exact absurd (u8_of_beq hb) h
theorem bne_t {c d : UInt8} (h : c ≠ d) : ((c.toNat : Int) != (d.toNat : Int)) = true := by rw [bne, beq_f h]; rfl
theorem bne_f {c d : UInt8} (h : c = d) : ((c.toNat : Int) != (d.toNat : Int)) = false := by rw [bne, beq_t h]; rfl
theorem byte_get (s : ByteArray) (k : Nat) (h : k < s.size) : s[k] = s.data.toList[k]'(by simpa using h) := rfl

theorem Tryz.info_u8 : (Tryz.prog.info? 5).map (fun i => (i.zero, i.size, i.bytes)) = some (some (.int .u8 0), 1, 1) := by kernel_rfl

end Go.Proofs.YtdencljnbilchaaGreatDoor

namespace Go.Proofs.YtdencljnbilchaaGreatDoor

def lettersL : List UInt8 := [34, 92, 47, 110, 116, 114, 102, 118, 97, 98]
def bytesL : List UInt8 := [34, 92, 47, 10, 9, 13, 12, 11, 7, 8]

/-- Octal digits at the beginning, at most so many: the number, how many. -/
def oct : Nat → Nat → List UInt8 → Nat × Nat
  | 0, n, _ => (n, 0)
  | _ + 1, n, [] => (n, 0)
  | f + 1, n, c :: r => if 48 ≤ c.toNat ∧ c.toNat ≤ 55 then ((oct f (8 * n + (c.toNat - 48)) r).1, (oct f (8 * n + (c.toNat - 48)) r).2 + 1) else (n, 0)

/-- The byte that stands behind a backslash, how many bytes tell it; 0: that is none. -/
def escL (l : List UInt8) : UInt8 × Nat :=
  match l with
  | [] => (0, 0)
  | c :: _ => if lettersL.idxOf c < 10 then (bytesL.getD (lettersL.idxOf c) 0, 1) else (UInt8.ofNat (oct 3 0 l).1, (oct 3 0 l).2)

theorem oct_yes (f n : Nat) (l : List UInt8) (k : Nat) (h : k < l.length) (h1 : 48 ≤ l[k].toNat ∧ l[k].toNat ≤ 55) :
    oct (f + 1) n (l.drop k) = ((oct f (8 * n + (l[k].toNat - 48)) (l.drop (k + 1))).1, (oct f (8 * n + (l[k].toNat - 48)) (l.drop (k + 1))).2 + 1) := by
  rw [drop_at l k h, oct, if_pos h1]
theorem oct_no (f n : Nat) (l : List UInt8) (k : Nat) (h : k < l.length) (h1 : ¬ (48 ≤ l[k].toNat ∧ l[k].toNat ≤ 55)) : oct f n (l.drop k) = (n, 0) := by
  cases f with
  | zero => rfl
  | succ f => rw [drop_at l k h, oct, if_neg h1]
theorem oct_end (f n : Nat) (l : List UInt8) (k : Nat) (h : l.length ≤ k) : oct f n (l.drop k) = (n, 0) := by
  rw [List.drop_eq_nil_of_le h]; cases f <;> rfl
theorem oct_le : ∀ (f n : Nat) (l : List UInt8), (oct f n l).2 ≤ f ∧ (oct f n l).2 ≤ l.length
  | 0, _, _ => by simp [oct]
  | _ + 1, _, [] => by simp [oct]
  | f + 1, n, c :: r => by
    unfold oct
    split
    · have := oct_le f (8 * n + (c.toNat - 48)) r; simp; omega
    · simp

theorem escL_le (l : List UInt8) : (escL l).2 ≤ l.length := by
  unfold escL
  split
  · simp
  · rename_i c r
    split
    · simp
    · exact (oct_le 3 0 (c :: r)).2

theorem idx_step (c : UInt8) (L : List UInt8) (k : Nat) (h : k < L.length) : (L.drop k).idxOf c = if L[k] = c then 0 else (L.drop (k + 1)).idxOf c + 1 := by
  rw [List.drop_eq_getElem_cons h, List.idxOf_cons]
  by_cases hc : L[k] = c
  · simp [hc]
  · rw [if_neg hc, beq_eq_false_iff_ne.2 hc]; rfl

theorem escL_letter (c : UInt8) (l : List UInt8) (hl : 0 < l.length) (hc : l[0] = c) (k : Nat) (h : k < 10) (hx : lettersL.idxOf c = k) : escL l = (bytesL[k]'h, 1) := by
  cases l with
  | nil => simp at hl
  | cons d r =>
    simp at hc; subst hc
    rw [escL, hx, if_pos h]
    congr 1
    rw [List.getD_eq_getElem?_getD, List.getElem?_eq_getElem (show k < bytesL.length from h)]; rfl
theorem escL_oct (c : UInt8) (l : List UInt8) (hl : 0 < l.length) (hc : l[0] = c) (hx : ¬ lettersL.idxOf c < 10) : escL l = (UInt8.ofNat (oct 3 0 l).1, (oct 3 0 l).2) := by
  cases l with
  | nil => simp at hl
  | cons d r =>
    simp at hc; subst hc
    rw [escL, if_neg hx]

def decF : Nat → List UInt8 → Option (List UInt8)
  | 0, _ => none
  | _ + 1, [] => some []
  | f + 1, c :: r => if c ≠ 92 then (decF f r).map (c :: ·) else if (escL r).2 = 0 then none else (decF f (r.drop (escL r).2)).map ((escL r).1 :: ·)

/-- What the inside of a text tells; none: an escape that is none. -/
def dec (l : List UInt8) : Option (List UInt8) := decF (l.length + 1) l

theorem decF_fuel : ∀ (f g : Nat) (l : List UInt8), l.length < f → l.length < g → decF f l = decF g l
  | 0, _, _, h, _ => absurd h (by omega)
  | _, 0, _, _, h => absurd h (by omega)
  | f + 1, g + 1, [], _, _ => rfl
  | f + 1, g + 1, c :: r, h, h' => by
    simp only [List.length_cons] at h h'
    unfold decF
    rw [decF_fuel f g r (by omega) (by omega), decF_fuel f g (r.drop (escL r).2) (by simp; omega) (by simp; omega)]

theorem dec_nil : dec [] = some [] := rfl
theorem dec_plain (c : UInt8) (r : List UInt8) (h : c ≠ 92) : dec (c :: r) = (dec r).map (c :: ·) := by
  rw [dec, decF, if_pos h]; rfl
theorem dec_bad (r : List UInt8) (h : (escL r).2 = 0) : dec (92 :: r) = none := by
  rw [dec, decF, if_neg (by simp), if_pos h]
theorem dec_esc (r : List UInt8) (h : (escL r).2 ≠ 0) : dec (92 :: r) = (dec (r.drop (escL r).2)).map ((escL r).1 :: ·) := by
  rw [dec, decF, if_neg (by simp), if_neg h, dec, decF_fuel ((92 :: r).length) ((r.drop (escL r).2).length + 1) _ (by simp; omega) (by omega)]

/-- A regular expression's inside, with \/ as /. -/
def unsl : List UInt8 → List UInt8
  | [] => []
  | [c] => if c = 92 then [] else [c]
  | c :: d :: r => if c = 92 then (if d = 47 then unsl r |>.cons d else 92 :: d :: unsl r) else c :: unsl (d :: r)

end Go.Proofs.YtdencljnbilchaaGreatDoor

namespace Go.Proofs.YtdencljnbilchaaGreatDoor

def closeR (q : UInt8) (l : List UInt8) (k : Nat) : Int := match closeN q (l.drop k) with | some n => (k + n : Nat) | none => -1

theorem closeR_end (q : UInt8) (l : List UInt8) (k : Nat) (h : l.length ≤ k) : closeR q l k = -1 := by
  rw [closeR, List.drop_eq_nil_of_le h]; rfl
theorem closeR_nl (q : UInt8) (l : List UInt8) (k : Nat) (h : k < l.length) (hc : l[k] = 10) : closeR q l k = -1 := by
  rw [closeR, drop_at l k h, closeN.eq_def]; simp [hc]
theorem closeR_q (q : UInt8) (l : List UInt8) (k : Nat) (h : k < l.length) (h1 : l[k] ≠ 10) (hc : l[k] = q) : closeR q l k = k := by
  rw [closeR, drop_at l k h, closeN.eq_def]; subst hc; simp [h1]
theorem closeR_step (q : UInt8) (l : List UInt8) (k : Nat) (h : k < l.length) (h1 : l[k] ≠ 10) (h2 : l[k] ≠ q) (h3 : l[k] ≠ 92) : closeR q l k = closeR q l (k + 1) := by
  rw [closeR, drop_at l k h, closeN.eq_def, closeR]; simp only [h1, h2, h3, if_false]
  cases closeN q (l.drop (k + 1)) with
  | none => rfl
  | some n => simp; omega
theorem closeR_bs_end (q : UInt8) (l : List UInt8) (k : Nat) (h : k < l.length) (h1 : l[k] ≠ 10) (h2 : l[k] ≠ q) (h3 : l[k] = 92) (hd : l.length ≤ k + 1) : closeR q l k = -1 := by
  rw [closeR, drop_at l k h, List.drop_eq_nil_of_le hd, closeN.eq_def]; dsimp only; rw [if_neg h1, if_neg h2, if_pos h3]
theorem closeR_bs_nl (q : UInt8) (l : List UInt8) (k : Nat) (h : k + 1 < l.length) (h1 : l[k] ≠ 10) (h2 : l[k] ≠ q) (h3 : l[k] = 92) (hd : l[k + 1] = 10) : closeR q l k = -1 := by
  rw [closeR, drop_at l k (by omega), drop_at l (k + 1) h, closeN.eq_def]; dsimp only; rw [if_neg h1, if_neg h2, if_pos h3, if_pos hd]
theorem closeR_bs (q : UInt8) (l : List UInt8) (k : Nat) (h : k + 1 < l.length) (h1 : l[k] ≠ 10) (h2 : l[k] ≠ q) (h3 : l[k] = 92) (hd : l[k + 1] ≠ 10) : closeR q l k = closeR q l (k + 2) := by
  rw [closeR, drop_at l k (by omega), drop_at l (k + 1) h, closeN.eq_def, closeR]; dsimp only; rw [if_neg h1, if_neg h2, if_pos h3, if_neg hd]
  cases closeN q (l.drop (k + 2)) with
  | none => rfl
  | some n => simp; omega

theorem closeN_lt (q : UInt8) : ∀ (N : Nat) (l : List UInt8) (n : Nat), l.length ≤ N → closeN q l = some n → n < l.length
  | _, [], n, _, h => by simp [closeN] at h
  | 0, c :: r, n, hN, _ => by simp at hN
  | N + 1, c :: r, n, hN, h => by
    rw [closeN.eq_def] at h
    dsimp only at h
    simp only [List.length_cons] at hN ⊢
    split at h
    · cases h
    split at h
    · cases h; omega
    split at h
    · split at h
      · cases h
      · rename_i d r' 
        split at h
        · cases h
        · cases hc : closeN q r' with
          | none => rw [hc] at h; cases h
          | some m =>
            rw [hc] at h; cases h
            simp only [List.length_cons] at hN ⊢
            have := closeN_lt q N r' m (by omega) hc
            show m + 2 < _
            omega
    · cases hc : closeN q r with
      | none => rw [hc] at h; cases h
      | some m =>
        rw [hc] at h; cases h
        have := closeN_lt q N r m (by omega) hc
        show m + 1 < _
        omega

theorem closeR_bd (q : UInt8) (l : List UInt8) (k t : Nat) (h : closeR q l k = t) : k ≤ t ∧ t < l.length := by
  rw [closeR] at h
  cases hc : closeN q (l.drop k) with
  | none => rw [hc] at h; simp at h
  | some n =>
    rw [hc] at h
    have := closeN_lt q _ _ n (Nat.le_refl _) hc
    simp at this h
    omega

/-- What is known at a place ahead of the end. -/
theorem closeR_at (q : UInt8) (l : List UInt8) (k t : Nat) (h : closeR q l k = t) (hk : k < t) (hl : k < l.length) :
    l[k] ≠ 10 ∧ l[k] ≠ q ∧ (l[k] ≠ 92 → closeR q l (k + 1) = t) ∧ (l[k] = 92 → k + 2 ≤ t ∧ closeR q l (k + 2) = t) := by
  have h1 : l[k] ≠ 10 := fun e => by rw [closeR_nl q l k hl e] at h; omega
  have h2 : l[k] ≠ q := fun e => by rw [closeR_q q l k hl h1 e] at h; omega
  refine ⟨h1, h2, fun h3 => by rw [← closeR_step q l k hl h1 h2 h3]; exact h, fun h3 => ?_⟩
  by_cases h4 : k + 1 < l.length
  · by_cases h5 : l[k + 1] = 10
    · rw [closeR_bs_nl q l k h4 h1 h2 h3 h5] at h; omega
    · rw [closeR_bs q l k h4 h1 h2 h3 h5] at h
      exact ⟨(closeR_bd q l _ t h).1, h⟩
  · rw [closeR_bs_end q l k hl h1 h2 h3 (by omega)] at h; omega

theorem oct_all : ∀ (f n : Nat) (l : List UInt8) (j : Nat) (_ : j < (oct f n l).2) (hl : j < l.length), 48 ≤ l[j].toNat ∧ l[j].toNat ≤ 55
  | 0, _, _, j, hj, _ => by simp [oct] at hj
  | _ + 1, _, [], j, hj, _ => by simp [oct] at hj
  | f + 1, n, c :: r, j, hj, hl => by
    unfold oct at hj
    split at hj
    · rename_i hc
      cases j with
      | zero => exact hc
      | succ j => exact oct_all f _ r j (by simp at hj; omega) (by simpa using hl)
    · simp at hj

/-- Behind a backslash and octal digits the closing goes on as before. -/
theorem closeR_oct (l : List UInt8) (t : Nat) : ∀ (j k : Nat), closeR 34 l k = t → k + j ≤ t → (∀ i (hi : k + i < l.length), i < j → 48 ≤ l[k + i].toNat ∧ l[k + i].toNat ≤ 55) → closeR 34 l (k + j) = t
  | 0, k, h, _, _ => h
  | j + 1, k, h, hj, hd => by
    have hl := (closeR_bd 34 l k t h).2
    have h0 := hd 0 (by omega) (by omega)
    simp only [Nat.add_zero] at h0
    have hn : l[k] ≠ 92 := fun e => by rw [e] at h0; simp at h0
    have := (closeR_at 34 l k t h (by omega) (by omega)).2.2.1 hn
    have ih := closeR_oct l t j (k + 1) this (by omega) (fun i hi hij => by
      have := hd (i + 1) (by omega) (by omega)
      simpa [Nat.add_assoc, Nat.add_comm 1] using this)
    rw [show k + (j + 1) = k + 1 + j by omega]; exact ih

theorem esc_close (l : List UInt8) (k t : Nat) (hk : k + 2 ≤ t) (h : closeR 34 l (k + 2) = t) (hn : (escL ((l.drop (k + 1)).take (t - (k + 1)))).2 ≠ 0) :
    closeR 34 l (k + 1 + (escL ((l.drop (k + 1)).take (t - (k + 1)))).2) = t ∧ k + 1 + (escL ((l.drop (k + 1)).take (t - (k + 1)))).2 ≤ t := by
  have hl := (closeR_bd 34 l _ t h).2
  have hle := escL_le ((l.drop (k + 1)).take (t - (k + 1)))
  simp only [List.length_take, List.length_drop] at hle
  refine ⟨?_, by omega⟩
  generalize hm : (l.drop (k + 1)).take (t - (k + 1)) = m at *
  have hmg : ∀ j (hj : j < m.length), m[j] = l[k + 1 + j]'(by subst hm; simp at hj; omega) := fun j hj => by subst hm; simp
  have hml : m.length = t - (k + 1) := by subst hm; simp; omega
  cases m with
  | nil => simp at hml; omega
  | cons d r =>
    by_cases hi : lettersL.idxOf d < 10
    · have : (escL (d :: r)).2 = 1 := by rw [escL, if_pos hi]
      rw [this]; exact h
    · have he : (escL (d :: r)).2 = (oct 3 0 (d :: r)).2 := by rw [escL, if_neg hi]
      rw [he] at hn hle ⊢
      have := closeR_oct l t ((oct 3 0 (d :: r)).2 - 1) (k + 2) h (by omega) (fun i hi' hij => by
        have h1 := oct_all 3 0 (d :: r) (i + 1) (by omega) (by simp only [List.length_cons] at hml ⊢; omega)
        rw [hmg (i + 1) (by simp only [List.length_cons] at hml ⊢; omega)] at h1
        simpa [show k + 1 + (i + 1) = k + 2 + i by omega] using h1)
      rw [show k + 1 + (oct 3 0 (d :: r)).2 = k + 2 + ((oct 3 0 (d :: r)).2 - 1) by omega]; exact this

/-- The inside that is left at a place. -/
def inR (l : List UInt8) (k t : Nat) : List UInt8 := (l.drop k).take (t - k)
theorem inR_at (l : List UInt8) (k t : Nat) (hk : k < t) (hl : k < l.length) : inR l k t = l[k] :: inR l (k + 1) t := by
  rw [inR, drop_at l k hl, show t - k = (t - (k + 1)) + 1 by omega, List.take_succ_cons]; rfl
theorem inR_end (l : List UInt8) (t : Nat) : inR l t t = [] := by simp [inR]
theorem inR_drop (l : List UInt8) (k t n : Nat) : (inR l k t).drop n = inR l (k + n) t := by
  rw [inR, inR, List.drop_take, List.drop_drop]; congr 1; omega

theorem unsl_nil : unsl [] = [] := rfl
theorem unsl_plain (c : UInt8) (r : List UInt8) (h : c ≠ 92) : unsl (c :: r) = c :: unsl r := by
  cases r with
  | nil => simp [unsl, h]
  | cons d r => rw [unsl, if_neg h]
theorem unsl_slash (r : List UInt8) : unsl (92 :: 47 :: r) = 47 :: unsl r := by
  rw [unsl, if_pos rfl, if_pos rfl]
theorem unsl_bs (d : UInt8) (r : List UInt8) (h : d ≠ 47) : unsl (92 :: d :: r) = 92 :: d :: unsl r := by
  rw [unsl, if_pos rfl, if_neg h]

end Go.Proofs.YtdencljnbilchaaGreatDoor

namespace Go.Proofs.YtdencljnbilchaaGreatDoor

/-- How long the digits and the point of a numeral are that stands at the beginning; 0: there is none. -/
def mantN (l : List UInt8) : Nat :=
  if (l.drop (nWhile isDig l)).head? = some 46 then
    (if nWhile isDig l = 0 ∧ nWhile isDig (l.drop (nWhile isDig l + 1)) = 0 then 0 else nWhile isDig l + 1 + nWhile isDig (l.drop (nWhile isDig l + 1)))
  else nWhile isDig l

def sgnN (l : List UInt8) : Nat := if l.head? = some 43 ∨ l.head? = some 45 then 1 else 0

/-- How long the exponent is. -/
def expN (l : List UInt8) : Nat :=
  if l.head? = some 101 ∨ l.head? = some 69 then
    (if nWhile isDig (l.drop (1 + sgnN (l.drop 1))) = 0 then 0 else 1 + sgnN (l.drop 1) + nWhile isDig (l.drop (1 + sgnN (l.drop 1))))
  else 0

def numeralN (l : List UInt8) : Nat := if mantN l = 0 then 0 else mantN l + expN (l.drop (mantN l))

theorem drop_head (l : List UInt8) (k : Nat) (h : k < l.length) : (l.drop k).head? = some l[k] := by rw [drop_at l k h]; rfl
theorem drop_head_end (l : List UInt8) (k : Nat) (h : l.length ≤ k) : (l.drop k).head? = none := by rw [List.drop_eq_nil_of_le h]; rfl

theorem mantN_le (l : List UInt8) : mantN l ≤ l.length := by
  have h1 := nWhile_le isDig l
  have h2 := nWhile_le isDig (l.drop (nWhile isDig l + 1))
  unfold mantN
  split
  · rename_i h
    have : nWhile isDig l < l.length := by
      rcases Nat.lt_or_ge (nWhile isDig l) l.length with h3 | h3
      · exact h3
      · rw [drop_head_end l _ h3] at h; cases h
    split
    · omega
    · simp only [List.length_drop] at h2; omega
  · exact h1
theorem expN_le (l : List UInt8) : expN l ≤ l.length := by
  have h2 := nWhile_le isDig (l.drop (1 + sgnN (l.drop 1)))
  unfold expN
  split
  · split
    · omega
    · simp only [List.length_drop] at h2; omega
  · omega
theorem numeralN_le (l : List UInt8) : numeralN l ≤ l.length := by
  have h1 := mantN_le l
  have h2 := expN_le (l.drop (mantN l))
  unfold numeralN
  simp only [List.length_drop] at h2
  split <;> omega

end Go.Proofs.YtdencljnbilchaaGreatDoor
