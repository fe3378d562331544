/- Plain functions on bytes: what the small functions of the token and num layers compute. No program here. Plain: escapes, what the inside of a text tells, a regular expression's inside. No program here. Plain: closing and escapes step together. No program here. Plain: numerals. No program here. Plain: what readFloat reads of a text of digits, signs, points and e. No program here. Plain: decimal digits in a row of bytes. No program here. Plain: a row of decimal digits times a power of two, from its end. No program here. Plain: a row of decimal digits by a power of two, from its beginning. No program here. Plain: what of a quotient is dropped, and its trailing noughts. No program here. Plain: decimals as numbers: shifting them, and that repeated shifts come to an end. No program here. Plain: scaling a decimal into [1/2, 1) comes to an end. No program here. Plain: shifts by any number. No program here. Plain: bounds of decimals that are shifted; a mantissa as a decimal. No program here. Plain: what decimal.set reads of a numeral. No program here. Plain: floats that are no NaN. No program here. Plain: how far readFloat reads, how great its number is. No program here. Plain: bounds of what decimal.set reads. No program here. Plain: a numeral is of numerals' bytes. No program here. -/
import GoSem.PinnedTables
import Derived.Laws.FloatArith

namespace Go.Proofs.YtdencljnbilchaaGreatDoor

def digB (c : Int) : Bool := decide (48 ≤ c) && decide (c ≤ 57)
def letB (c : Int) : Bool := (decide (65 ≤ c) && decide (c ≤ 90)) || (decide (97 ≤ c) && decide (c ≤ 122)) || decide (c = 95)
def blankB (c : Int) : Bool := (decide (9 ≤ c) && decide (c ≤ 13)) || decide (c = 32)

/-- How many bytes at the beginning meet a test. -/
def nWhile (p : UInt8 → Bool) : List UInt8 → Nat
  | [] => 0
  | c :: r => if p c then nWhile p r + 1 else 0

theorem nWhile_le (p : UInt8 → Bool) : ∀ l, nWhile p l ≤ l.length
  | [] => Nat.le_refl _
  | c :: r => by unfold nWhile; split <;> simp; exact nWhile_le p r

def isDig (c : UInt8) : Bool := digB c.toNat
def isLet (c : UInt8) : Bool := letB c.toNat
def isBlank (c : UInt8) : Bool := blankB c.toNat
def isWordC (c : UInt8) : Bool := isLet c || isDig c

theorem drop_at (l : List UInt8) (k : Nat) (h : k < l.length) : l.drop k = l[k] :: l.drop (k + 1) := List.drop_eq_getElem_cons h

theorem nWhile_yes (p : UInt8 → Bool) (l : List UInt8) (k : Nat) (h : k < l.length) (hp : p l[k] = true) : nWhile p (l.drop k) = nWhile p (l.drop (k + 1)) + 1 := by
  rw [drop_at l k h, nWhile, if_pos hp]
theorem nWhile_no (p : UInt8 → Bool) (l : List UInt8) (k : Nat) (h : k < l.length) (hp : p l[k] = false) : nWhile p (l.drop k) = 0 := by
  rw [drop_at l k h, nWhile, if_neg (by simp [hp])]
theorem nWhile_end (p : UInt8 → Bool) (l : List UInt8) (k : Nat) (h : l.length ≤ k) : nWhile p (l.drop k) = 0 := by
  rw [List.drop_eq_nil_of_le h]; rfl

/-- The words of the language; its functions; its signs of two bytes, of one. -/
def wordL : List (List UInt8) := [[66, 69, 71, 73, 78], [69, 78, 68], [69, 86, 69, 82, 89], [71, 65, 80], [102, 117, 110, 99, 116, 105, 111, 110], [105, 102], [101, 108, 115, 101], [119, 104, 105, 108, 101], [102, 111, 114], [100, 111], [98, 114, 101, 97, 107], [99, 111, 110, 116, 105, 110, 117, 101], [110, 101, 120, 116], [101, 120, 105, 116], [114, 101, 116, 117, 114, 110], [100, 101, 108, 101, 116, 101], [105, 110], [103, 101, 116, 108, 105, 110, 101], [112, 114, 105, 110, 116], [112, 114, 105, 110, 116, 102]]
def builtL : List (List UInt8) := [[108, 101, 110, 103, 116, 104], [115, 117, 98, 115, 116, 114], [105, 110, 100, 101, 120], [115, 112, 108, 105, 116], [115, 117, 98], [103, 115, 117, 98], [109, 97, 116, 99, 104], [115, 112, 114, 105, 110, 116, 102], [116, 111, 108, 111, 119, 101, 114], [116, 111, 117, 112, 112, 101, 114], [105, 110, 116], [115, 113, 114, 116], [101, 120, 112], [108, 111, 103], [115, 105, 110], [99, 111, 115], [97, 116, 97, 110, 50], [114, 97, 110, 100], [115, 114, 97, 110, 100], [101, 120, 112, 105, 114, 101]]
def twoL : List (List UInt8) := [[38, 38], [124, 124], [43, 43], [45, 45], [43, 61], [45, 61], [42, 61], [47, 61], [37, 61], [94, 61], [61, 61], [60, 61], [62, 61], [33, 61], [33, 126], [62, 62]]
def oneL : List UInt8 := [123, 125, 40, 41, 91, 93, 59, 44, 43, 45, 42, 47, 37, 94, 33, 62, 60, 124, 63, 58, 126, 36, 61]

/-- Where a text or a regular expression ends, counted from behind its first byte. -/
def closeN (q : UInt8) : List UInt8 → Option Nat
  | [] => none
  | c :: r => if c = 10 then none else if c = q then some 0 else if c = 92 then (match r with | [] => none | d :: r' => if d = 10 then none else (closeN q r').map (· + 2)) else (closeN q r).map (· + 1)

end Go.Proofs.YtdencljnbilchaaGreatDoor

namespace Go.Proofs.YtdencljnbilchaaGreatDoor

def lettersL : List UInt8 := [34, 92, 47, 110, 116, 114, 102, 118, 97, 98]
def bytesL : List UInt8 := [34, 92, 47, 10, 9, 13, 12, 11, 7, 8]

/-- Octal digits at the beginning, at most so many: the number, how many. -/
def oct : Nat → Nat → List UInt8 → Nat × Nat
  | 0, n, _ => (n, 0)
  | _ + 1, n, [] => (n, 0)
  | f + 1, n, c :: r => if 48 ≤ c.toNat ∧ c.toNat ≤ 55 then ((oct f (8 * n + (c.toNat - 48)) r).1, (oct f (8 * n + (c.toNat - 48)) r).2 + 1) else (n, 0)

/-- The byte that stands behind a backslash, how many bytes tell it; 0: that is none. -/
def escL (l : List UInt8) : UInt8 × Nat :=
  match l with
  | [] => (0, 0)
  | c :: _ => if lettersL.idxOf c < 10 then (bytesL.getD (lettersL.idxOf c) 0, 1) else (UInt8.ofNat (oct 3 0 l).1, (oct 3 0 l).2)

theorem oct_yes (f n : Nat) (l : List UInt8) (k : Nat) (h : k < l.length) (h1 : 48 ≤ l[k].toNat ∧ l[k].toNat ≤ 55) :
    oct (f + 1) n (l.drop k) = ((oct f (8 * n + (l[k].toNat - 48)) (l.drop (k + 1))).1, (oct f (8 * n + (l[k].toNat - 48)) (l.drop (k + 1))).2 + 1) := by
  rw [drop_at l k h, oct, if_pos h1]
theorem oct_no (f n : Nat) (l : List UInt8) (k : Nat) (h : k < l.length) (h1 : ¬ (48 ≤ l[k].toNat ∧ l[k].toNat ≤ 55)) : oct f n (l.drop k) = (n, 0) := by
  cases f with
  | zero => rfl
  | succ f => rw [drop_at l k h, oct, if_neg h1]
theorem oct_end (f n : Nat) (l : List UInt8) (k : Nat) (h : l.length ≤ k) : oct f n (l.drop k) = (n, 0) := by
  rw [List.drop_eq_nil_of_le h]; cases f <;> rfl
theorem oct_le : ∀ (f n : Nat) (l : List UInt8), (oct f n l).2 ≤ f ∧ (oct f n l).2 ≤ l.length
  | 0, _, _ => by simp [oct]
  | _ + 1, _, [] => by simp [oct]
  | f + 1, n, c :: r => by
    unfold oct
    split
    · have := oct_le f (8 * n + (c.toNat - 48)) r; simp; omega
    · simp

theorem escL_le (l : List UInt8) : (escL l).2 ≤ l.length := by
  unfold escL
  split
  · simp
  · rename_i c r
    split
    · simp
    · exact (oct_le 3 0 (c :: r)).2

theorem idx_step (c : UInt8) (L : List UInt8) (k : Nat) (h : k < L.length) : (L.drop k).idxOf c = if L[k] = c then 0 else (L.drop (k + 1)).idxOf c + 1 := by
  rw [List.drop_eq_getElem_cons h, List.idxOf_cons]
  by_cases hc : L[k] = c
  · simp [hc]
  · rw [if_neg hc, beq_eq_false_iff_ne.2 hc]; rfl

theorem escL_letter (c : UInt8) (l : List UInt8) (hl : 0 < l.length) (hc : l[0] = c) (k : Nat) (h : k < 10) (hx : lettersL.idxOf c = k) : escL l = (bytesL[k]'h, 1) := by
  cases l with
  | nil => simp at hl
  | cons d r =>
    simp at hc; subst hc
    rw [escL, hx, if_pos h]
    congr 1
    rw [List.getD_eq_getElem?_getD, List.getElem?_eq_getElem (show k < bytesL.length from h)]; rfl
theorem escL_oct (c : UInt8) (l : List UInt8) (hl : 0 < l.length) (hc : l[0] = c) (hx : ¬ lettersL.idxOf c < 10) : escL l = (UInt8.ofNat (oct 3 0 l).1, (oct 3 0 l).2) := by
  cases l with
  | nil => simp at hl
  | cons d r =>
    simp at hc; subst hc
    rw [escL, if_neg hx]

def decF : Nat → List UInt8 → Option (List UInt8)
  | 0, _ => none
  | _ + 1, [] => some []
  | f + 1, c :: r => if c ≠ 92 then (decF f r).map (c :: ·) else if (escL r).2 = 0 then none else (decF f (r.drop (escL r).2)).map ((escL r).1 :: ·)

/-- What the inside of a text tells; none: an escape that is none. -/
def dec (l : List UInt8) : Option (List UInt8) := decF (l.length + 1) l

theorem decF_fuel : ∀ (f g : Nat) (l : List UInt8), l.length < f → l.length < g → decF f l = decF g l
  | 0, _, _, h, _ => absurd h (by omega)
  | _, 0, _, _, h => absurd h (by omega)
  | f + 1, g + 1, [], _, _ => rfl
  | f + 1, g + 1, c :: r, h, h' => by
    simp only [List.length_cons] at h h'
    unfold decF
    rw [decF_fuel f g r (by omega) (by omega), decF_fuel f g (r.drop (escL r).2) (by simp; omega) (by simp; omega)]

theorem dec_nil : dec [] = some [] := rfl
theorem dec_plain (c : UInt8) (r : List UInt8) (h : c ≠ 92) : dec (c :: r) = (dec r).map (c :: ·) := by
  rw [dec, decF, if_pos h]; rfl
theorem dec_bad (r : List UInt8) (h : (escL r).2 = 0) : dec (92 :: r) = none := by
  rw [dec, decF, if_neg (by simp), if_pos h]
theorem dec_esc (r : List UInt8) (h : (escL r).2 ≠ 0) : dec (92 :: r) = (dec (r.drop (escL r).2)).map ((escL r).1 :: ·) := by
  rw [dec, decF, if_neg (by simp), if_neg h, dec, decF_fuel ((92 :: r).length) ((r.drop (escL r).2).length + 1) _ (by simp; omega) (by omega)]

/-- A regular expression's inside, with \/ as /. -/
def unsl : List UInt8 → List UInt8
  | [] => []
  | [c] => if c = 92 then [] else [c]
  | c :: d :: r => if c = 92 then (if d = 47 then unsl r |>.cons d else 92 :: d :: unsl r) else c :: unsl (d :: r)

end Go.Proofs.YtdencljnbilchaaGreatDoor

namespace Go.Proofs.YtdencljnbilchaaGreatDoor

def closeR (q : UInt8) (l : List UInt8) (k : Nat) : Int := match closeN q (l.drop k) with | some n => (k + n : Nat) | none => -1

theorem closeR_end (q : UInt8) (l : List UInt8) (k : Nat) (h : l.length ≤ k) : closeR q l k = -1 := by
  rw [closeR, List.drop_eq_nil_of_le h]; rfl
theorem closeR_nl (q : UInt8) (l : List UInt8) (k : Nat) (h : k < l.length) (hc : l[k] = 10) : closeR q l k = -1 := by
  rw [closeR, drop_at l k h, closeN.eq_def]; simp [hc]
theorem closeR_q (q : UInt8) (l : List UInt8) (k : Nat) (h : k < l.length) (h1 : l[k] ≠ 10) (hc : l[k] = q) : closeR q l k = k := by
  rw [closeR, drop_at l k h, closeN.eq_def]; subst hc; simp [h1]
theorem closeR_step (q : UInt8) (l : List UInt8) (k : Nat) (h : k < l.length) (h1 : l[k] ≠ 10) (h2 : l[k] ≠ q) (h3 : l[k] ≠ 92) : closeR q l k = closeR q l (k + 1) := by
  rw [closeR, drop_at l k h, closeN.eq_def, closeR]; simp only [h1, h2, h3, if_false]
  cases closeN q (l.drop (k + 1)) with
  | none => rfl
  | some n => simp; omega
theorem closeR_bs_end (q : UInt8) (l : List UInt8) (k : Nat) (h : k < l.length) (h1 : l[k] ≠ 10) (h2 : l[k] ≠ q) (h3 : l[k] = 92) (hd : l.length ≤ k + 1) : closeR q l k = -1 := by
  rw [closeR, drop_at l k h, List.drop_eq_nil_of_le hd, closeN.eq_def]; dsimp only; rw [if_neg h1, if_neg h2, if_pos h3]
theorem closeR_bs_nl (q : UInt8) (l : List UInt8) (k : Nat) (h : k + 1 < l.length) (h1 : l[k] ≠ 10) (h2 : l[k] ≠ q) (h3 : l[k] = 92) (hd : l[k + 1] = 10) : closeR q l k = -1 := by
  rw [closeR, drop_at l k (by omega), drop_at l (k + 1) h, closeN.eq_def]; dsimp only; rw [if_neg h1, if_neg h2, if_pos h3, if_pos hd]
theorem closeR_bs (q : UInt8) (l : List UInt8) (k : Nat) (h : k + 1 < l.length) (h1 : l[k] ≠ 10) (h2 : l[k] ≠ q) (h3 : l[k] = 92) (hd : l[k + 1] ≠ 10) : closeR q l k = closeR q l (k + 2) := by
  rw [closeR, drop_at l k (by omega), drop_at l (k + 1) h, closeN.eq_def, closeR]; dsimp only; rw [if_neg h1, if_neg h2, if_pos h3, if_neg hd]
  cases closeN q (l.drop (k + 2)) with
  | none => rfl
  | some n => simp; omega

theorem closeN_lt (q : UInt8) : ∀ (N : Nat) (l : List UInt8) (n : Nat), l.length ≤ N → closeN q l = some n → n < l.length
  | _, [], n, _, h => by simp [closeN] at h
  | 0, c :: r, n, hN, _ => by simp at hN
  | N + 1, c :: r, n, hN, h => by
    rw [closeN.eq_def] at h
    dsimp only at h
    simp only [List.length_cons] at hN ⊢
    split at h
    · cases h
    split at h
    · cases h; omega
    split at h
    · split at h
      · cases h
      · rename_i d r' 
        split at h
        · cases h
        · cases hc : closeN q r' with
          | none => rw [hc] at h; cases h
          | some m =>
            rw [hc] at h; cases h
            simp only [List.length_cons] at hN ⊢
            have := closeN_lt q N r' m (by omega) hc
            show m + 2 < _
            omega
    · cases hc : closeN q r with
      | none => rw [hc] at h; cases h
      | some m =>
        rw [hc] at h; cases h
        have := closeN_lt q N r m (by omega) hc
        show m + 1 < _
        omega

theorem closeR_bd (q : UInt8) (l : List UInt8) (k t : Nat) (h : closeR q l k = t) : k ≤ t ∧ t < l.length := by
  rw [closeR] at h
  cases hc : closeN q (l.drop k) with
  | none => rw [hc] at h; simp at h
  | some n =>
    rw [hc] at h
    have := closeN_lt q _ _ n (Nat.le_refl _) hc
    simp at this h
    omega

/-- What is known at a place ahead of the end. -/
theorem closeR_at (q : UInt8) (l : List UInt8) (k t : Nat) (h : closeR q l k = t) (hk : k < t) (hl : k < l.length) :
    l[k] ≠ 10 ∧ l[k] ≠ q ∧ (l[k] ≠ 92 → closeR q l (k + 1) = t) ∧ (l[k] = 92 → k + 2 ≤ t ∧ closeR q l (k + 2) = t) := by
  have h1 : l[k] ≠ 10 := fun e => by rw [closeR_nl q l k hl e] at h; omega
  have h2 : l[k] ≠ q := fun e => by rw [closeR_q q l k hl h1 e] at h; omega
  refine ⟨h1, h2, fun h3 => by rw [← closeR_step q l k hl h1 h2 h3]; exact h, fun h3 => ?_⟩
  by_cases h4 : k + 1 < l.length
  · by_cases h5 : l[k + 1] = 10
    · rw [closeR_bs_nl q l k h4 h1 h2 h3 h5] at h; omega
    · rw [closeR_bs q l k h4 h1 h2 h3 h5] at h
      exact ⟨(closeR_bd q l _ t h).1, h⟩
  · rw [closeR_bs_end q l k hl h1 h2 h3 (by omega)] at h; omega

theorem oct_all : ∀ (f n : Nat) (l : List UInt8) (j : Nat) (_ : j < (oct f n l).2) (hl : j < l.length), 48 ≤ l[j].toNat ∧ l[j].toNat ≤ 55
  | 0, _, _, j, hj, _ => by simp [oct] at hj
  | _ + 1, _, [], j, hj, _ => by simp [oct] at hj
  | f + 1, n, c :: r, j, hj, hl => by
    unfold oct at hj
    split at hj
    · rename_i hc
      cases j with
      | zero => exact hc
      | succ j => exact oct_all f _ r j (by simp at hj; omega) (by simpa using hl)
    · simp at hj

/-- Behind a backslash and octal digits the closing goes on as before. -/
theorem closeR_oct (l : List UInt8) (t : Nat) : ∀ (j k : Nat), closeR 34 l k = t → k + j ≤ t → (∀ i (hi : k + i < l.length), i < j → 48 ≤ l[k + i].toNat ∧ l[k + i].toNat ≤ 55) → closeR 34 l (k + j) = t
  | 0, k, h, _, _ => h
  | j + 1, k, h, hj, hd => by
    have hl := (closeR_bd 34 l k t h).2
    have h0 := hd 0 (by omega) (by omega)
    simp only [Nat.add_zero] at h0
    have hn : l[k] ≠ 92 := fun e => by rw [e] at h0; simp at h0
    have := (closeR_at 34 l k t h (by omega) (by omega)).2.2.1 hn
    have ih := closeR_oct l t j (k + 1) this (by omega) (fun i hi hij => by
      have := hd (i + 1) (by omega) (by omega)
      simpa [Nat.add_assoc, Nat.add_comm 1] using this)
    rw [show k + (j + 1) = k + 1 + j by omega]; exact ih

theorem esc_close (l : List UInt8) (k t : Nat) (hk : k + 2 ≤ t) (h : closeR 34 l (k + 2) = t) (hn : (escL ((l.drop (k + 1)).take (t - (k + 1)))).2 ≠ 0) :
    closeR 34 l (k + 1 + (escL ((l.drop (k + 1)).take (t - (k + 1)))).2) = t ∧ k + 1 + (escL ((l.drop (k + 1)).take (t - (k + 1)))).2 ≤ t := by
  have hl := (closeR_bd 34 l _ t h).2
  have hle := escL_le ((l.drop (k + 1)).take (t - (k + 1)))
  simp only [List.length_take, List.length_drop] at hle
  refine ⟨?_, by omega⟩
  generalize hm : (l.drop (k + 1)).take (t - (k + 1)) = m at *
  have hmg : ∀ j (hj : j < m.length), m[j] = l[k + 1 + j]'(by subst hm; simp at hj; omega) := fun j hj => by subst hm; simp
  have hml : m.length = t - (k + 1) := by subst hm; simp; omega
  cases m with
  | nil => simp at hml; omega
  | cons d r =>
    by_cases hi : lettersL.idxOf d < 10
    · have : (escL (d :: r)).2 = 1 := by rw [escL, if_pos hi]
      rw [this]; exact h
    · have he : (escL (d :: r)).2 = (oct 3 0 (d :: r)).2 := by rw [escL, if_neg hi]
      rw [he] at hn hle ⊢
      have := closeR_oct l t ((oct 3 0 (d :: r)).2 - 1) (k + 2) h (by omega) (fun i hi' hij => by
        have h1 := oct_all 3 0 (d :: r) (i + 1) (by omega) (by simp only [List.length_cons] at hml ⊢; omega)
        rw [hmg (i + 1) (by simp only [List.length_cons] at hml ⊢; omega)] at h1
        simpa [show k + 1 + (i + 1) = k + 2 + i by omega] using h1)
      rw [show k + 1 + (oct 3 0 (d :: r)).2 = k + 2 + ((oct 3 0 (d :: r)).2 - 1) by omega]; exact this

/-- The inside that is left at a place. -/
def inR (l : List UInt8) (k t : Nat) : List UInt8 := (l.drop k).take (t - k)
theorem inR_at (l : List UInt8) (k t : Nat) (hk : k < t) (hl : k < l.length) : inR l k t = l[k] :: inR l (k + 1) t := by
  rw [inR, drop_at l k hl, show t - k = (t - (k + 1)) + 1 by omega, List.take_succ_cons]; rfl
theorem inR_end (l : List UInt8) (t : Nat) : inR l t t = [] := by simp [inR]
theorem inR_drop (l : List UInt8) (k t n : Nat) : (inR l k t).drop n = inR l (k + n) t := by
  rw [inR, inR, List.drop_take, List.drop_drop]; congr 1; omega

theorem unsl_nil : unsl [] = [] := rfl
theorem unsl_plain (c : UInt8) (r : List UInt8) (h : c ≠ 92) : unsl (c :: r) = c :: unsl r := by
  cases r with
  | nil => simp [unsl, h]
  | cons d r => rw [unsl, if_neg h]
theorem unsl_slash (r : List UInt8) : unsl (92 :: 47 :: r) = 47 :: unsl r := by
  rw [unsl, if_pos rfl, if_pos rfl]
theorem unsl_bs (d : UInt8) (r : List UInt8) (h : d ≠ 47) : unsl (92 :: d :: r) = 92 :: d :: unsl r := by
  rw [unsl, if_pos rfl, if_neg h]

end Go.Proofs.YtdencljnbilchaaGreatDoor

namespace Go.Proofs.YtdencljnbilchaaGreatDoor

/-- How long the digits and the point of a numeral are that stands at the beginning; 0: there is none. -/
def mantN (l : List UInt8) : Nat :=
  if (l.drop (nWhile isDig l)).head? = some 46 then
    (if nWhile isDig l = 0 ∧ nWhile isDig (l.drop (nWhile isDig l + 1)) = 0 then 0 else nWhile isDig l + 1 + nWhile isDig (l.drop (nWhile isDig l + 1)))
  else nWhile isDig l

def sgnN (l : List UInt8) : Nat := if l.head? = some 43 ∨ l.head? = some 45 then 1 else 0

/-- How long the exponent is. -/
def expN (l : List UInt8) : Nat :=
  if l.head? = some 101 ∨ l.head? = some 69 then
    (if nWhile isDig (l.drop (1 + sgnN (l.drop 1))) = 0 then 0 else 1 + sgnN (l.drop 1) + nWhile isDig (l.drop (1 + sgnN (l.drop 1))))
  else 0

def numeralN (l : List UInt8) : Nat := if mantN l = 0 then 0 else mantN l + expN (l.drop (mantN l))

theorem drop_head (l : List UInt8) (k : Nat) (h : k < l.length) : (l.drop k).head? = some l[k] := by rw [drop_at l k h]; rfl
theorem drop_head_end (l : List UInt8) (k : Nat) (h : l.length ≤ k) : (l.drop k).head? = none := by rw [List.drop_eq_nil_of_le h]; rfl

theorem mantN_le (l : List UInt8) : mantN l ≤ l.length := by
  have h1 := nWhile_le isDig l
  have h2 := nWhile_le isDig (l.drop (nWhile isDig l + 1))
  unfold mantN
  split
  · rename_i h
    have : nWhile isDig l < l.length := by
      rcases Nat.lt_or_ge (nWhile isDig l) l.length with h3 | h3
      · exact h3
      · rw [drop_head_end l _ h3] at h; cases h
    split
    · omega
    · simp only [List.length_drop] at h2; omega
  · exact h1
theorem expN_le (l : List UInt8) : expN l ≤ l.length := by
  have h2 := nWhile_le isDig (l.drop (1 + sgnN (l.drop 1)))
  unfold expN
  split
  · split
    · omega
    · simp only [List.length_drop] at h2; omega
  · omega
theorem numeralN_le (l : List UInt8) : numeralN l ≤ l.length := by
  have h1 := mantN_le l
  have h2 := expN_le (l.drop (mantN l))
  unfold numeralN
  simp only [List.length_drop] at h2
  split <;> omega

end Go.Proofs.YtdencljnbilchaaGreatDoor

namespace Go.Proofs.YtdencljnbilchaaGreatDoor

/-- The bytes that numerals are made of. -/
def numChL : List UInt8 := [43, 45, 46, 48, 49, 50, 51, 52, 53, 54, 55, 56, 57, 69, 101]

structure RF where
  mant : Nat
  nd : Nat
  ndm : Nat
  dp : Int
  sd : Bool
  sg : Bool
  tr : Bool

def RF.init : RF := ⟨0, 0, 0, 0, false, false, false⟩

def rfStep (st : RF) (c : UInt8) : Option RF :=
  if c = 46 then (if st.sd = true then none else some { st with sd := true, dp := st.nd })
  else if isDig c = true then
    (if c = 48 ∧ st.nd = 0 then some { st with sg := true, dp := st.dp - 1 }
     else if st.ndm < 19 then some { st with sg := true, nd := st.nd + 1, mant := st.mant * 10 + (c.toNat - 48), ndm := st.ndm + 1 }
     else some { st with sg := true, nd := st.nd + 1, tr := if c = 48 then st.tr else true })
  else none

def rfLoop : RF → List UInt8 → RF × Nat
  | st, [] => (st, 0)
  | st, c :: r => match rfStep st c with
    | none => (st, 0)
    | some st' => ((rfLoop st' r).1, (rfLoop st' r).2 + 1)

/-- The exponent's digits: a number that stops at ten thousand, how many. -/
def eLoop : Nat → List UInt8 → Nat × Nat
  | e, [] => (e, 0)
  | e, c :: r => if isDig c = true then ((eLoop (if e < 10000 then e * 10 + (c.toNat - 48) else e) r).1, (eLoop (if e < 10000 then e * 10 + (c.toNat - 48) else e) r).2 + 1) else (e, 0)

structure RFRes where
  mant : Nat
  exp : Int
  neg : Bool
  tr : Bool
  i : Nat
  ok : Bool

def rfDone (neg : Bool) (st : RF) (dp : Int) (i : Nat) : RFRes := ⟨st.mant, if st.mant = 0 then 0 else dp - st.ndm, neg, st.tr, i, true⟩

def rfExp (l : List UInt8) (neg : Bool) (st : RF) (dp : Int) (k : Nat) : RFRes :=
  if l.length ≤ k then ⟨st.mant, 0, neg, st.tr, k, false⟩
  else if nWhile isDig (l.drop (k + sgnN (l.drop k))) = 0 then ⟨st.mant, 0, neg, st.tr, k + sgnN (l.drop k), false⟩
  else rfDone neg st (dp + (eLoop 0 (l.drop (k + sgnN (l.drop k)))).1 * (if (l.drop k).head? = some 45 then -1 else 1)) (k + sgnN (l.drop k) + (eLoop 0 (l.drop (k + sgnN (l.drop k)))).2)

def rfTail (l : List UInt8) (neg : Bool) (st : RF) (i : Nat) : RFRes :=
  if st.sg = false then ⟨st.mant, 0, neg, st.tr, i, false⟩
  else if (l.drop i).head? = some 101 ∨ (l.drop i).head? = some 69 then rfExp l neg st (if st.sd = true then st.dp else st.nd) (i + 1)
  else rfDone neg st (if st.sd = true then st.dp else st.nd) i

def rf (l : List UInt8) : RFRes :=
  if l = [] then ⟨0, 0, false, false, 0, false⟩
  else rfTail l (decide (l.head? = some 45)) (rfLoop .init (l.drop (sgnN l))).1 (sgnN l + (rfLoop .init (l.drop (sgnN l))).2)

theorem rfLoop_end (st : RF) (l : List UInt8) (k : Nat) (h : l.length ≤ k) : rfLoop st (l.drop k) = (st, 0) := by
  rw [List.drop_eq_nil_of_le h]; rfl
theorem rfLoop_no (st : RF) (l : List UInt8) (k : Nat) (h : k < l.length) (hs : rfStep st l[k] = none) : rfLoop st (l.drop k) = (st, 0) := by
  rw [drop_at l k h, rfLoop, hs]
theorem rfLoop_yes (st st' : RF) (l : List UInt8) (k : Nat) (h : k < l.length) (hs : rfStep st l[k] = some st') : rfLoop st (l.drop k) = ((rfLoop st' (l.drop (k + 1))).1, (rfLoop st' (l.drop (k + 1))).2 + 1) := by
  rw [drop_at l k h, rfLoop, hs]
theorem eLoop_end (e : Nat) (l : List UInt8) (k : Nat) (h : l.length ≤ k) : eLoop e (l.drop k) = (e, 0) := by
  rw [List.drop_eq_nil_of_le h]; rfl
theorem eLoop_no (e : Nat) (l : List UInt8) (k : Nat) (h : k < l.length) (hs : isDig l[k] = false) : eLoop e (l.drop k) = (e, 0) := by
  rw [drop_at l k h, eLoop, hs]; rfl
theorem eLoop_yes (e : Nat) (l : List UInt8) (k : Nat) (h : k < l.length) (hs : isDig l[k] = true) : eLoop e (l.drop k) = ((eLoop (if e < 10000 then e * 10 + (l[k].toNat - 48) else e) (l.drop (k + 1))).1, (eLoop (if e < 10000 then e * 10 + (l[k].toNat - 48) else e) (l.drop (k + 1))).2 + 1) := by
  rw [drop_at l k h, eLoop, if_pos hs]

/-- What always holds of the loop's state behind k bytes. -/
def RF.ok (st : RF) (k : Nat) : Prop := st.mant < 10 ^ st.ndm ∧ st.ndm ≤ 19 ∧ st.nd ≤ k ∧ st.ndm ≤ st.nd ∧ -(k : Int) ≤ st.dp ∧ st.dp ≤ k

theorem dig_bd {c : UInt8} (h : isDig c = true) : 48 ≤ c.toNat ∧ c.toNat ≤ 57 := by
  simp [isDig, digB] at h; omega

theorem rfStep_ok (st st' : RF) (k : Nat) (c : UInt8) (h : st.ok k) (hs : rfStep st c = some st') : st'.ok (k + 1) := by
  obtain ⟨h1, h2, h3, h4, h5, h6⟩ := h
  unfold rfStep at hs
  split at hs
  · split at hs
    · cases hs
    · cases hs; exact ⟨h1, h2, by show st.nd ≤ k + 1; omega, h4, by show -((k + 1 : Nat) : Int) ≤ (st.nd : Int); omega, by show (st.nd : Int) ≤ _; omega⟩
  · split at hs
    · rename_i hd
      have := dig_bd hd
      split at hs
      · cases hs; exact ⟨h1, h2, by show st.nd ≤ k + 1; omega, h4, by show -((k + 1 : Nat) : Int) ≤ st.dp - 1; omega, by show st.dp - 1 ≤ _; omega⟩
      · split at hs
        · cases hs
          refine ⟨?_, by show st.ndm + 1 ≤ 19; omega, by show st.nd + 1 ≤ k + 1; omega, by show st.ndm + 1 ≤ st.nd + 1; omega, by show _ ≤ st.dp; omega, by show st.dp ≤ _; omega⟩
          show st.mant * 10 + (c.toNat - 48) < 10 ^ (st.ndm + 1)
          rw [Nat.pow_succ]; omega
        · cases hs
          exact ⟨h1, h2, by show st.nd + 1 ≤ k + 1; omega, by show st.ndm ≤ st.nd + 1; omega, by show _ ≤ st.dp; omega, by show st.dp ≤ _; omega⟩
    · cases hs

end Go.Proofs.YtdencljnbilchaaGreatDoor

namespace Go.Proofs.YtdencljnbilchaaGreatDoor

/-- The first nd bytes are the digits of M. -/
def dgs (f : Nat → Nat) (nd M : Nat) : Prop := M < 10 ^ nd ∧ ∀ i, i < nd → f i = 48 + M / 10 ^ (nd - 1 - i) % 10

/-- Trailing noughts struck. -/
def trimN : Nat → Nat → Nat × Nat
  | 0, M => (0, M)
  | n + 1, M => if M % 10 = 0 then trimN n (M / 10) else (n + 1, M)

def dpT (n : Nat) (dp : Int) : Int := if n = 0 then 0 else dp

theorem dgs_last {f : Nat → Nat} {n M : Nat} (h : dgs f (n + 1) M) : f n = 48 + M % 10 := by
  have := h.2 n (by omega)
  rwa [show n + 1 - 1 - n = 0 by omega, Nat.pow_zero, Nat.div_one] at this

theorem dgs_drop {f : Nat → Nat} {n M : Nat} (h : dgs f (n + 1) M) : dgs f n (M / 10) := by
  refine ⟨?_, fun i hi => ?_⟩
  · have := h.1; rw [Nat.pow_succ] at this; omega
  · rw [h.2 i (by omega), Nat.div_div_eq_div_mul, show n + 1 - 1 - i = (n - 1 - i) + 1 by omega, Nat.pow_succ, Nat.mul_comm]

theorem trimN_zero (M : Nat) : trimN 0 M = (0, M) := rfl
theorem trimN_yes {n M : Nat} (h : M % 10 = 0) : trimN (n + 1) M = trimN n (M / 10) := by rw [trimN, if_pos h]
theorem trimN_no {n M : Nat} (h : M % 10 ≠ 0) : trimN (n + 1) M = (n + 1, M) := by rw [trimN, if_neg h]

theorem trimN_le : ∀ n M, (trimN n M).1 ≤ n
  | 0, _ => Nat.le_refl _
  | n + 1, M => by
    unfold trimN; split
    · have := trimN_le n (M / 10); omega
    · exact Nat.le_refl _

theorem p10_pos (n : Nat) : 0 < 10 ^ n := Nat.pow_pos (by decide)

theorem div_lt_cross {M S a c : Nat} (h : M / 10 ^ a < S / 10 ^ c) : M * 10 ^ c < S * 10 ^ a := by
  have h1 : M < (M / 10 ^ a + 1) * 10 ^ a := Nat.lt_mul_of_div_lt (Nat.lt_succ_self _) (p10_pos a)
  have h2 : (M / 10 ^ a + 1) * 10 ^ a ≤ S / 10 ^ c * 10 ^ a := Nat.mul_le_mul_right _ h
  have h3 : S / 10 ^ c * 10 ^ c ≤ S := Nat.div_mul_le_self _ _
  have h4 : M * 10 ^ c < S / 10 ^ c * 10 ^ a * 10 ^ c := Nat.mul_lt_mul_of_pos_right (Nat.lt_of_lt_of_le h1 h2) (p10_pos c)
  have h5 : S / 10 ^ c * 10 ^ a * 10 ^ c = S / 10 ^ c * 10 ^ c * 10 ^ a := by rw [Nat.mul_assoc, Nat.mul_comm (10 ^ a), ← Nat.mul_assoc]
  rw [h5] at h4
  exact Nat.lt_of_lt_of_le h4 (Nat.mul_le_mul_right _ h3)

/-- A digit more of a beginning. -/
theorem pre_succ (M n i : Nat) (h : i < n) : M / 10 ^ (n - (i + 1)) = M / 10 ^ (n - i) * 10 + M / 10 ^ (n - 1 - i) % 10 := by
  have e : M / 10 ^ (n - i) = M / 10 ^ (n - 1 - i) / 10 := by
    rw [Nat.div_div_eq_div_mul, show n - i = (n - 1 - i) + 1 by omega, Nat.pow_succ]
  rw [e, show n - (i + 1) = n - 1 - i by omega]
  omega

theorem pl_pow {M S nd L i : Nat} (hi : i < nd) (hL : i < L) (h : M * 10 ^ (L - 1 - i) < S * 10 ^ (nd - 1 - i)) : M * 10 ^ L < S * 10 ^ nd := by
  have e1 : 10 ^ L = 10 ^ (L - 1 - i) * 10 ^ (i + 1) := by rw [← Nat.pow_add]; congr 1; omega
  have e2 : 10 ^ nd = 10 ^ (nd - 1 - i) * 10 ^ (i + 1) := by rw [← Nat.pow_add]; congr 1; omega
  rw [e1, e2, ← Nat.mul_assoc, ← Nat.mul_assoc]
  exact Nat.mul_lt_mul_of_pos_right h (p10_pos _)
theorem pl_lt {M S nd L i : Nat} (hi : i < nd) (hL : i < L) (h : M / 10 ^ (nd - 1 - i) < S / 10 ^ (L - 1 - i)) : M * 10 ^ L < S * 10 ^ nd := pl_pow hi hL (div_lt_cross h)
theorem pl_gt {M S nd L i : Nat} (hi : i < nd) (hL : i < L) (h : S / 10 ^ (L - 1 - i) < M / 10 ^ (nd - 1 - i)) : ¬ M * 10 ^ L < S * 10 ^ nd := Nat.lt_asymm (pl_pow hL hi (div_lt_cross h))
theorem pl_end {M S nd L : Nat} (h : L ≤ nd) (he : M / 10 ^ (nd - L) = S) : ¬ M * 10 ^ L < S * 10 ^ nd := by
  have h1 : S * 10 ^ (nd - L) ≤ M := by rw [← he]; exact Nat.div_mul_le_self _ _
  have e2 : 10 ^ nd = 10 ^ (nd - L) * 10 ^ L := by rw [← Nat.pow_add]; congr 1; omega
  rw [e2, ← Nat.mul_assoc]
  exact Nat.not_lt.2 (Nat.mul_le_mul_right _ h1)
theorem pl_short {M S nd L : Nat} (h : nd < L) (he : M = S / 10 ^ (L - nd)) (hS : S % 10 ≠ 0) : M * 10 ^ L < S * 10 ^ nd := by
  have e1 : 10 ^ L = 10 ^ (L - nd) * 10 ^ nd := by rw [← Nat.pow_add]; congr 1; omega
  rw [e1, ← Nat.mul_assoc]
  refine Nat.mul_lt_mul_of_pos_right ?_ (p10_pos _)
  have h1 : M * 10 ^ (L - nd) ≤ S := by rw [he]; exact Nat.div_mul_le_self _ _
  refine Nat.lt_of_le_of_ne h1 fun e => hS ?_
  rw [← e, show L - nd = (L - nd - 1) + 1 by omega, Nat.pow_succ, ← Nat.mul_assoc]
  exact Nat.mul_mod_left _ _

end Go.Proofs.YtdencljnbilchaaGreatDoor

namespace Go.Proofs.YtdencljnbilchaaGreatDoor

/-- What is carried behind the q last digits. -/
def carry (M k q : Nat) : Nat := M % 10 ^ q * 2 ^ k / 10 ^ q

theorem mod_succ (M q : Nat) : M % 10 ^ (q + 1) = M / 10 ^ q % 10 * 10 ^ q + M % 10 ^ q := by
  rw [Nat.pow_succ, Nat.mod_mul, Nat.mul_comm]; omega

theorem carry_step (M k q : Nat) : carry M k q + M / 10 ^ q % 10 * 2 ^ k = M % 10 ^ (q + 1) * 2 ^ k / 10 ^ q := by
  unfold carry
  rw [mod_succ, Nat.add_mul, Nat.mul_assoc, Nat.mul_comm (10 ^ q) (2 ^ k), ← Nat.mul_assoc, Nat.add_comm (M / 10 ^ q % 10 * 2 ^ k * 10 ^ q), Nat.add_mul_div_right _ _ (p10_pos q)]

theorem carry_quo (M k q : Nat) : (carry M k q + M / 10 ^ q % 10 * 2 ^ k) / 10 = carry M k (q + 1) := by
  rw [carry_step, carry, Nat.div_div_eq_div_mul, ← Nat.pow_succ]

theorem carry_rem (M k q : Nat) : (carry M k q + M / 10 ^ q % 10 * 2 ^ k) % 10 = M * 2 ^ k / 10 ^ q % 10 := by
  rw [carry_step]
  have e : M * 2 ^ k = M % 10 ^ (q + 1) * 2 ^ k + M / 10 ^ (q + 1) * 2 ^ k * 10 * 10 ^ q := by
    have h := Nat.div_add_mod M (10 ^ (q + 1))
    have h2 : M / 10 ^ (q + 1) * 2 ^ k * 10 * 10 ^ q = M / 10 ^ (q + 1) * 10 ^ (q + 1) * 2 ^ k := by
      rw [Nat.pow_succ]; ac_rfl
    rw [h2, ← Nat.add_mul]
    congr 1
    rw [Nat.mul_comm (M / 10 ^ (q + 1))]; omega
  rw [e, Nat.add_mul_div_right _ _ (p10_pos q)]
  omega

theorem carry_lt (M k q : Nat) : carry M k q < 2 ^ k := by
  unfold carry
  rw [Nat.div_lt_iff_lt_mul (p10_pos q), Nat.mul_comm]
  exact Nat.mul_lt_mul_of_pos_left (Nat.mod_lt _ (p10_pos q)) (Nat.pow_pos (by decide))

theorem carry_zero (M k : Nat) : carry M k 0 = 0 := by simp [carry, Nat.mod_one]
theorem carry_all {M k nd : Nat} (h : M < 10 ^ nd) : carry M k nd = M * 2 ^ k / 10 ^ nd := by rw [carry, Nat.mod_eq_of_lt h]

/-- What has been dropped. -/
def dropB (P T q : Nat) : Bool := decide (P % 10 ^ min q (T - 800) ≠ 0)
theorem dropB_zero (P T : Nat) : dropB P T 0 = false := by simp [dropB, Nat.mod_one]
theorem dropB_in {P T q : Nat} (h : T - (q + 1) < 800) : dropB P T (q + 1) = dropB P T q := by
  unfold dropB; rw [show min (q + 1) (T - 800) = min q (T - 800) by omega]
theorem dropB_out {P T q : Nat} (h : ¬ T - (q + 1) < 800) : dropB P T (q + 1) = (dropB P T q || decide (P / 10 ^ q % 10 ≠ 0)) := by
  unfold dropB
  rw [show min (q + 1) (T - 800) = q + 1 by omega, show min q (T - 800) = q by omega, mod_succ]
  have hp := p10_pos q
  rcases Nat.eq_zero_or_pos (P / 10 ^ q % 10) with h0 | h0
  · rw [h0, Nat.zero_mul, Nat.zero_add]; simp
  · have h1 : P / 10 ^ q % 10 * 10 ^ q + P % 10 ^ q ≠ 0 := by
      have := Nat.mul_pos h0 hp; omega
    have h2 : P / 10 ^ q % 10 ≠ 0 := by omega
    rw [decide_eq_true h1, decide_eq_true h2, Bool.or_true]
theorem dropB_all {P T q : Nat} (h : T - 800 ≤ q) : dropB P T q = decide (P % 10 ^ (T - 800) ≠ 0) := by
  unfold dropB; rw [Nat.min_eq_right h]

def shRes (P T : Nat) : Nat × Nat := trimN (min T 800) (P / 10 ^ (T - 800))

/-- The digits that have been put down. -/
def putD (f : Nat → Nat) (P T q : Nat) : Prop := ∀ j, j < 800 → T - q ≤ j → j < T → f j = 48 + P / 10 ^ (T - 1 - j) % 10
theorem putD_zero (f : Nat → Nat) (P T : Nat) : putD f P T 0 := fun j _ h1 h2 => absurd h2 (by omega)

theorem putD_dgs {f : Nat → Nat} {P T : Nat} (h : putD f P T T) (hP : P < 10 ^ T) : dgs f (min T 800) (P / 10 ^ (T - 800)) := by
  refine ⟨?_, fun i hi => ?_⟩
  · rw [Nat.div_lt_iff_lt_mul (p10_pos _), ← Nat.pow_add, show min T 800 + (T - 800) = T by omega]; exact hP
  · rw [h i (by omega) (by omega) (by omega), Nat.div_div_eq_div_mul, ← Nat.pow_add, show T - 800 + (min T 800 - 1 - i) = T - 1 - i by omega]

structure Cheat (k delta L : Nat) : Prop where
  sum : L + delta = k + 1
  d1 : 1 ≤ delta
  up : 2 ^ k ≤ 10 ^ delta
  lo : 10 ^ (delta - 1) ≤ 2 ^ k

theorem cheat_less {M nd k delta L : Nat} (h : Cheat k delta L) : decide (M * 10 ^ L < 5 ^ k * 10 ^ nd) = decide (M * 2 ^ k < 10 ^ (nd + delta - 1)) := by
  have h1 := h.sum
  have h2 := h.d1
  have e : M * 2 ^ k < 10 ^ (nd + delta - 1) ↔ M * 10 ^ L < 5 ^ k * 10 ^ nd := by
    have e1 : M * 2 ^ k * (5 ^ k * 10 ^ L) = M * 10 ^ L * 10 ^ k := by
      rw [show (10 : Nat) ^ k = 2 ^ k * 5 ^ k by rw [← Nat.mul_pow]]; ac_rfl
    have e2 : 10 ^ (nd + delta - 1) * (5 ^ k * 10 ^ L) = 5 ^ k * 10 ^ nd * 10 ^ k := by
      have : 10 ^ (nd + delta - 1) * 10 ^ L = 10 ^ nd * 10 ^ k := by rw [← Nat.pow_add, ← Nat.pow_add]; congr 1; omega
      rw [Nat.mul_comm (5 ^ k) (10 ^ L), ← Nat.mul_assoc, this]; ac_rfl
    have hp : 0 < 5 ^ k * 10 ^ L := Nat.mul_pos (Nat.pow_pos (by decide)) (p10_pos L)
    rw [← Nat.mul_lt_mul_right hp, e1, e2, Nat.mul_lt_mul_right (p10_pos k)]
  exact decide_eq_decide.2 e.symm

/-- How many digits the product has. -/
def lenP (P nd delta : Nat) : Nat := if P < 10 ^ (nd + delta - 1) then nd + delta - 1 else nd + delta

theorem lenP_bd {M nd k delta L : Nat} (h : Cheat k delta L) (hM : M < 10 ^ nd) (hM0 : 10 ^ (nd - 1) ≤ M) (hnd : 1 ≤ nd) :
    M * 2 ^ k < 10 ^ lenP (M * 2 ^ k) nd delta ∧ 10 ^ (lenP (M * 2 ^ k) nd delta - 1) ≤ M * 2 ^ k ∧ nd ≤ lenP (M * 2 ^ k) nd delta ∧ lenP (M * 2 ^ k) nd delta ≤ nd + delta := by
  have h2 := h.d1
  unfold lenP
  split
  · rename_i hl
    refine ⟨hl, ?_, by omega, by omega⟩
    have e : 10 ^ (nd + delta - 1 - 1) = 10 ^ (nd - 1) * 10 ^ (delta - 1) := by rw [← Nat.pow_add]; congr 1; omega
    rw [e]; exact Nat.mul_le_mul hM0 h.lo
  · rename_i hl
    refine ⟨?_, by omega, by omega, by omega⟩
    have : M * 2 ^ k < 10 ^ nd * 2 ^ k := Nat.mul_lt_mul_of_pos_right hM (Nat.pow_pos (by decide))
    refine Nat.lt_of_lt_of_le this ?_
    rw [Nat.pow_add]
    exact Nat.mul_le_mul_left _ h.up

/-- The table, row by row. -/
def cheatOk (k : Nat) (x : Nat × List UInt8) : Bool :=
  decide (x.2.length + x.1 = k + 1) && decide (1 ≤ x.1) && decide (2 ^ k ≤ 10 ^ x.1) && decide (10 ^ (x.1 - 1) ≤ 2 ^ k) && decide (5 ^ k < 10 ^ x.2.length) && decide (x.2.length ≤ 100) &&
    (List.range x.2.length).all fun i => decide ((x.2.getD i 0).toNat = 48 + 5 ^ k / 10 ^ (x.2.length - 1 - i) % 10)
theorem cheats_ok : ((List.range 60).all fun i => cheatOk (i + 1) (Go.Pinned.cheatRows.getD (i + 1) (0, []))) = true := by decide +kernel

theorem pow5_mod (k : Nat) (h : 1 ≤ k) : 5 ^ k % 10 ≠ 0 := by
  have : ∀ n, 5 ^ (n + 1) % 10 = 5 := by
    intro n
    induction n with
    | zero => rfl
    | succ n ih => rw [Nat.pow_succ, Nat.mul_mod, ih]
  obtain ⟨n, rfl⟩ : ∃ n, k = n + 1 := ⟨k - 1, by omega⟩
  rw [this n]; decide

/-- How many digits. -/
def nD (P : Nat) : Nat := if P = 0 then 0 else nD (P / 10) + 1
decreasing_by omega
theorem nD_of : ∀ (T P : Nat), 10 ^ (T - 1) ≤ P → P < 10 ^ T → 1 ≤ T → nD P = T
  | 0, _, _, _, h => absurd h (by omega)
  | 1, P, h1, h2, _ => by
    rw [nD, if_neg (by simp at h1; omega), Nat.div_eq_of_lt (by simpa using h2), nD, if_pos rfl]
  | T + 2, P, h1, h2, _ => by
    have hp := p10_pos T
    have e1 : 10 ^ (T + 2 - 1) = 10 ^ T * 10 := by rw [show T + 2 - 1 = T + 1 by omega, Nat.pow_succ]
    have e2 : 10 ^ (T + 2) = 10 ^ (T + 1) * 10 := Nat.pow_succ ..
    rw [e1] at h1
    rw [e2] at h2
    rw [nD, if_neg (by omega), nD_of (T + 1) (P / 10) (by rw [Nat.add_sub_cancel]; omega) (by omega) (by omega)]

end Go.Proofs.YtdencljnbilchaaGreatDoor

namespace Go.Proofs.YtdencljnbilchaaGreatDoor

/-- The first r digits. -/
def preA (M nd r : Nat) : Nat := M * 10 ^ r / 10 ^ nd

theorem preA_zero {M nd : Nat} (h : M < 10 ^ nd) : preA M nd 0 = 0 := by
  unfold preA; rw [Nat.pow_zero, Nat.mul_one, Nat.div_eq_of_lt h]
theorem preA_in {M nd r : Nat} (h : r ≤ nd) : preA M nd r = M / 10 ^ (nd - r) := by
  unfold preA
  have e : 10 ^ nd = 10 ^ (nd - r) * 10 ^ r := by rw [← Nat.pow_add]; congr 1; omega
  rw [e, Nat.mul_div_mul_right _ _ (p10_pos r)]
theorem preA_out {M nd r : Nat} (h : nd ≤ r) : preA M nd r = M * 10 ^ (r - nd) := by
  unfold preA
  have e : 10 ^ r = 10 ^ (r - nd) * 10 ^ nd := by rw [← Nat.pow_add]; congr 1; omega
  rw [e, ← Nat.mul_assoc, Nat.mul_div_cancel _ (p10_pos nd)]
theorem preA_succ_in {M nd r : Nat} (h : r < nd) : preA M nd (r + 1) = preA M nd r * 10 + M / 10 ^ (nd - 1 - r) % 10 := by
  rw [preA_in (by omega), preA_in (by omega)]; exact pre_succ M nd r h
theorem preA_succ_out {M nd r : Nat} (h : nd ≤ r) : preA M nd (r + 1) = preA M nd r * 10 := by
  rw [preA_out (by omega), preA_out h, show r + 1 - nd = (r - nd) + 1 by omega, Nat.pow_succ, Nat.mul_assoc]
theorem preA_succ_le (M nd r : Nat) : preA M nd (r + 1) ≤ preA M nd r * 10 + 9 := by
  rcases Nat.lt_or_ge r nd with h | h
  · rw [preA_succ_in h]; omega
  · rw [preA_succ_out h]; omega
theorem preA_nd (M nd : Nat) : preA M nd nd = M := by rw [preA_in (Nat.le_refl _)]; simp

/-- Where the quotient's digits begin. -/
structure Start (M nd k r0 : Nat) : Prop where
  pos : 1 ≤ r0
  before : ∀ r, r < r0 → preA M nd r < 2 ^ k
  at_ : 2 ^ k ≤ preA M nd r0

theorem start_ex {M nd : Nat} (k : Nat) (hM : M < 10 ^ nd) (h0 : 0 < M) : ∃ r0, Start M nd k r0 := by
  have hex : ∃ r, 2 ^ k ≤ preA M nd r := by
    refine ⟨nd + k, ?_⟩
    rw [preA_out (by omega), show nd + k - nd = k by omega]
    have : 2 ^ k ≤ 10 ^ k := Nat.pow_le_pow_left (by decide) k
    exact Nat.le_trans this (Nat.le_mul_of_pos_left _ h0)
  obtain ⟨r, hr⟩ := hex
  induction r with
  | zero => rw [preA_zero hM] at hr; have := Nat.pow_pos (n := k) (show 0 < 2 by decide); omega
  | succ r ih =>
    rcases Nat.lt_or_ge (preA M nd r) (2 ^ k) with h | h
    · by_cases hall : ∀ r', r' < r + 1 → preA M nd r' < 2 ^ k
      · exact ⟨r + 1, by omega, hall, hr⟩
      · exfalso
        apply hall
        intro r' hr'
        -- the beginnings grow
        have mono : ∀ d, preA M nd r' ≤ preA M nd (r' + d) := by
          intro d
          induction d with
          | zero => exact Nat.le_refl _
          | succ d ihd =>
            refine Nat.le_trans ihd ?_
            rw [show r' + (d + 1) = (r' + d) + 1 by omega]
            rcases Nat.lt_or_ge (r' + d) nd with h' | h'
            · rw [preA_succ_in h']; omega
            · rw [preA_succ_out h']; omega
        have := mono (r - r')
        rw [show r' + (r - r') = r by omega] at this
        omega
    · exact ih h

theorem Start.lt {M nd k r0 : Nat} (h : Start M nd k r0) : preA M nd r0 < 10 * 2 ^ k := by
  have h1 := h.before (r0 - 1) (by have := h.pos; omega)
  have h2 := preA_succ_le M nd (r0 - 1)
  rw [show r0 - 1 + 1 = r0 by have := h.pos; omega] at h2
  omega

theorem preA_div (M nd k r : Nat) : preA M nd r / 2 ^ k = M * 5 ^ k * 10 ^ r / 10 ^ (nd + k) := by
  unfold preA
  have e : M * 5 ^ k * 10 ^ r = M * 10 ^ r * 5 ^ k := by ac_rfl
  have e2 : 10 ^ (nd + k) = 10 ^ nd * 2 ^ k * 5 ^ k := by rw [Nat.pow_add, Nat.mul_assoc, ← Nat.mul_pow]
  rw [e, e2, Nat.mul_div_mul_right _ _ (Nat.pow_pos (by decide)), Nat.div_div_eq_div_mul]

/-- How many digits the product with 5^k has. -/
theorem Start.len {M nd k r0 : Nat} (h : Start M nd k r0) (h0 : 0 < M) : r0 ≤ nd + k ∧ nD (M * 5 ^ k) = nd + k - r0 + 1 ∧ M * 5 ^ k < 10 ^ (nd + k - r0 + 1) := by
  have h1 := h.lt
  have h2 := h.at_
  have hp : 0 < 2 ^ k := Nat.pow_pos (by decide)
  have h3 : 1 ≤ preA M nd r0 / 2 ^ k := Nat.div_pos h2 hp
  have h4 : preA M nd r0 / 2 ^ k < 10 := by rw [Nat.div_lt_iff_lt_mul hp]; exact h1
  rw [preA_div] at h3 h4
  have hP : 0 < M * 5 ^ k := Nat.mul_pos h0 (Nat.pow_pos (by decide))
  have h5 : 10 ^ (nd + k) ≤ M * 5 ^ k * 10 ^ r0 := by
    have := Nat.div_mul_le_self (M * 5 ^ k * 10 ^ r0) (10 ^ (nd + k))
    exact Nat.le_trans (Nat.le_mul_of_pos_left _ h3) this
  have h6 : M * 5 ^ k * 10 ^ r0 < 10 ^ (nd + k + 1) := by
    rw [Nat.div_lt_iff_lt_mul (p10_pos _)] at h4
    rw [Nat.pow_succ, Nat.mul_comm (10 ^ (nd + k))]; exact h4
  have h7 : r0 ≤ nd + k := by
    rcases Nat.lt_or_ge (nd + k) r0 with h | h
    · have := Nat.pow_le_pow_right (n := 10) (by decide) (show nd + k + 1 ≤ r0 by omega)
      have h8 := Nat.le_mul_of_pos_left (10 ^ r0) hP
      omega
    · exact h
  have e5 : 10 ^ (nd + k) = 10 ^ (nd + k - r0) * 10 ^ r0 := by rw [← Nat.pow_add]; congr 1; omega
  have e6 : 10 ^ (nd + k + 1) = 10 ^ (nd + k - r0 + 1) * 10 ^ r0 := by rw [← Nat.pow_add]; congr 1; omega
  rw [e5] at h5
  rw [e6] at h6
  have h8 := Nat.le_of_mul_le_mul_right h5 (p10_pos r0)
  have h9 := Nat.lt_of_mul_lt_mul_right h6
  exact ⟨h7, nD_of _ _ (by rw [Nat.add_sub_cancel]; exact h8) h9 (by omega), h9⟩

/-- A digit of the quotient. -/
theorem quo_digit {M nd k r0 T q : Nat} (hT : T = nd + k - r0 + 1) (hr : r0 ≤ nd + k) (hq : q < T) : preA M nd (r0 + q) % (10 * 2 ^ k) / 2 ^ k = M * 5 ^ k / 10 ^ (T - 1 - q) % 10 := by
  have e : preA M nd (r0 + q) % (10 * 2 ^ k) / 2 ^ k = preA M nd (r0 + q) / 2 ^ k % 10 := by
    rw [Nat.mul_comm 10, Nat.mod_mul_right_div_self]
  rw [e, preA_div]
  have e2 : 10 ^ (nd + k) = 10 ^ (T - 1 - q) * 10 ^ (r0 + q) := by rw [← Nat.pow_add]; congr 1; omega
  rw [e2, Nat.mul_div_mul_right _ _ (p10_pos _)]

theorem rest_in {M nd k r : Nat} (h : r < nd) : preA M nd (r + 1) % (10 * 2 ^ k) = preA M nd r % (10 * 2 ^ k) % 2 ^ k * 10 + M / 10 ^ (nd - 1 - r) % 10 := by
  have hp : 0 < 2 ^ k := Nat.pow_pos (by decide)
  rw [preA_succ_in h, Nat.mod_mul_left_mod]
  have hd : M / 10 ^ (nd - 1 - r) % 10 < 10 := Nat.mod_lt _ (by decide)
  generalize M / 10 ^ (nd - 1 - r) % 10 = d at hd
  generalize preA M nd r = A
  have e : A * 10 + d = 10 * 2 ^ k * (A / 2 ^ k) + (A % 2 ^ k * 10 + d) := by
    have := Nat.div_add_mod A (2 ^ k)
    have e2 : 10 * 2 ^ k * (A / 2 ^ k) = 2 ^ k * (A / 2 ^ k) * 10 := by ac_rfl
    rw [e2]; omega
  rw [e, Nat.mul_add_mod, Nat.mod_eq_of_lt]
  have := Nat.mod_lt A hp
  omega
theorem rest_out {M nd k r : Nat} (h : nd ≤ r) : preA M nd (r + 1) % (10 * 2 ^ k) = preA M nd r % (10 * 2 ^ k) % 2 ^ k * 10 := by
  rw [preA_succ_out h, Nat.mod_mul_left_mod, Nat.mul_comm (preA M nd r), Nat.mul_mod_mul_left, Nat.mul_comm]

theorem rest_end {M nd k r0 T q : Nat} (hT : T = nd + k - r0 + 1) (hr : r0 ≤ nd + k) (hq : T ≤ q) : preA M nd (r0 + q) % (10 * 2 ^ k) = 0 := by
  rw [preA_out (by omega)]
  have e : 10 ^ (r0 + q - nd) = 10 ^ (r0 + q - nd - (k + 1)) * (5 ^ k * (10 * 2 ^ k)) := by
    have : 5 ^ k * (10 * 2 ^ k) = 10 ^ (k + 1) := by rw [Nat.pow_succ, show (10 : Nat) ^ k = 5 ^ k * 2 ^ k by rw [← Nat.mul_pow]]; ac_rfl
    rw [this, ← Nat.pow_add]; congr 1; omega
  rw [e, ← Nat.mul_assoc, ← Nat.mul_assoc]
  exact Nat.mul_mod_left _ _

theorem rest_zero {M nd k r0 T q : Nat} (hT : T = nd + k - r0 + 1) (hr : r0 ≤ nd + k) (hq : q ≤ T) (hn : nd ≤ r0 + q) (h : preA M nd (r0 + q) % (10 * 2 ^ k) = 0) : M * 5 ^ k % 10 ^ (T - q) = 0 := by
  rw [preA_out hn] at h
  have hd : 10 * 2 ^ k ∣ M * 10 ^ (r0 + q - nd) := Nat.dvd_of_mod_eq_zero h
  have hd2 : 10 * 2 ^ k * 5 ^ k ∣ M * 10 ^ (r0 + q - nd) * 5 ^ k := Nat.mul_dvd_mul_right hd _
  have e1 : 10 * 2 ^ k * 5 ^ k = 10 ^ (T - q) * 10 ^ (r0 + q - nd) := by
    rw [Nat.mul_assoc, ← Nat.mul_pow, ← Nat.pow_succ', ← Nat.pow_add]; congr 1; omega
  have e2 : M * 10 ^ (r0 + q - nd) * 5 ^ k = M * 5 ^ k * 10 ^ (r0 + q - nd) := by ac_rfl
  rw [e1, e2] at hd2
  exact Nat.mod_eq_zero_of_dvd (Nat.dvd_of_mul_dvd_mul_right (p10_pos _) hd2)

end Go.Proofs.YtdencljnbilchaaGreatDoor

namespace Go.Proofs.YtdencljnbilchaaGreatDoor

theorem trimN_mul : ∀ (c a M : Nat), trimN (a + c) (M * 10 ^ c) = trimN a M
  | 0, a, M => by simp
  | c + 1, a, M => by
    have e : M * 10 ^ (c + 1) = M * 10 ^ c * 10 := by rw [Nat.pow_succ, Nat.mul_assoc]
    rw [show a + (c + 1) = (a + c) + 1 by omega, e, trimN_yes (Nat.mul_mod_left _ _), Nat.mul_div_cancel _ (by decide)]
    exact trimN_mul c a M

theorem div_pow_split {P a c : Nat} (h : P % 10 ^ (a + c) = 0) : P / 10 ^ a = P / 10 ^ (a + c) * 10 ^ c := by
  have hd : 10 ^ (a + c) ∣ P := Nat.dvd_of_mod_eq_zero h
  obtain ⟨m, rfl⟩ := hd
  rw [Nat.mul_div_cancel_left _ (p10_pos _), Nat.pow_add, Nat.mul_assoc, Nat.mul_div_cancel_left _ (p10_pos a), Nat.mul_comm]

theorem shRes_of {P T q : Nat} (hq : q ≤ T) (h : P % 10 ^ (T - q) = 0) : trimN (min q 800) (P / 10 ^ (T - min q 800)) = shRes P T := by
  unfold shRes
  rcases Nat.lt_or_ge q 800 with h8 | h8
  · have e1 : min q 800 = q := by omega
    have e2 : min T 800 = q + (min T 800 - q) := by omega
    have e3 : T - q = (T - 800) + (min T 800 - q) := by omega
    rw [e1, e2, e3]
    rw [e3] at h
    rw [div_pow_split h]
    exact (trimN_mul _ _ _).symm
  · have e1 : min q 800 = 800 := by omega
    have e2 : min T 800 = 800 := by omega
    rw [e1, e2]

def dropQ (P T q : Nat) : Bool := decide (P / 10 ^ (T - q) % 10 ^ (q - 800) ≠ 0)
theorem dropQ_in {P T q : Nat} (h : q ≤ 800) : dropQ P T q = false := by
  unfold dropQ; rw [show q - 800 = 0 by omega]; simp [Nat.mod_one]
theorem dropQ_out {P T q : Nat} (h : 800 ≤ q) (hT : q < T) : dropQ P T (q + 1) = (dropQ P T q || decide (P / 10 ^ (T - 1 - q) % 10 ≠ 0)) := by
  unfold dropQ
  have e1 : P / 10 ^ (T - q) = P / 10 ^ (T - 1 - q) / 10 := by
    rw [Nat.div_div_eq_div_mul, show T - q = (T - 1 - q) + 1 by omega, Nat.pow_succ]
  rw [e1, show T - (q + 1) = T - 1 - q by omega, show q + 1 - 800 = (q - 800) + 1 by omega]
  generalize P / 10 ^ (T - 1 - q) = X
  generalize q - 800 = u
  have e2 : X % 10 ^ (u + 1) = X / 10 % 10 ^ (u) * 10 + X % 10 := by
    rw [Nat.pow_succ, Nat.mul_comm (10 ^ (u)), Nat.mod_mul]; generalize X / 10 % 10 ^ (u) = Y; omega
  rw [e2]
  generalize X / 10 % 10 ^ (u) = Y
  rw [Bool.eq_iff_iff]
  simp only [decide_eq_true_eq, Bool.or_eq_true]
  omega

theorem dropQ_all {P T q : Nat} (hq : q ≤ T) (h : P % 10 ^ (T - q) = 0) : dropQ P T q = decide (P % 10 ^ (T - 800) ≠ 0) := by
  rcases Nat.lt_or_ge q 800 with h8 | h8
  · rw [dropQ_in (by omega)]
    have hd : 10 ^ (T - 800) ∣ P := Nat.dvd_trans (Nat.pow_dvd_pow 10 (by omega)) (Nat.dvd_of_mod_eq_zero h)
    simp [Nat.mod_eq_zero_of_dvd hd]
  · unfold dropQ
    have e : 10 ^ (T - 800) = 10 ^ (T - q) * 10 ^ (q - 800) := by rw [← Nat.pow_add, show T - q + (q - 800) = T - 800 by omega]
    rw [e, Nat.mod_mul, h, Nat.zero_add]
    have hp := p10_pos (T - q)
    refine decide_eq_decide.2 ⟨fun h1 h2 => h1 ?_, fun h1 h2 => h1 ?_⟩
    · rcases Nat.mul_eq_zero.1 h2 with h3 | h3
      · omega
      · exact h3
    · rw [h2, Nat.mul_zero]

theorem quo_dgs {f : Nat → Nat} {P T q : Nat} (h : ∀ j, j < q → j < 800 → f j = 48 + P / 10 ^ (T - 1 - j) % 10) (hP : P < 10 ^ T) (hq : q ≤ T) : dgs f (min q 800) (P / 10 ^ (T - min q 800)) := by
  refine ⟨?_, fun i hi => ?_⟩
  · rw [Nat.div_lt_iff_lt_mul (p10_pos _), ← Nat.pow_add, show min q 800 + (T - min q 800) = T by omega]; exact hP
  · rw [h i (by omega) (by omega), Nat.div_div_eq_div_mul, ← Nat.pow_add, show T - min q 800 + (min q 800 - 1 - i) = T - 1 - i by omega]

end Go.Proofs.YtdencljnbilchaaGreatDoor

namespace Go.Proofs.YtdencljnbilchaaGreatDoor

structure DS where
  M : Nat
  nd : Nat
  dp : Int
  tr : Bool

/-- The first digit is none that is nought. -/
def DS.ok (s : DS) : Prop := 1 ≤ s.nd ∧ s.nd ≤ 800 ∧ 10 ^ (s.nd - 1) ≤ s.M ∧ s.M < 10 ^ s.nd
/-- The first digit. -/
def DS.lead (s : DS) : Nat := s.M / 10 ^ (s.nd - 1)

theorem lead_bd {s : DS} (h : s.ok) : 1 ≤ s.lead ∧ s.lead ≤ 9 := by
  obtain ⟨h1, _, h3, h4⟩ := h
  unfold DS.lead
  refine ⟨Nat.div_pos h3 (p10_pos _), ?_⟩
  have : s.M / 10 ^ (s.nd - 1) < 10 := by
    have e : 10 ^ s.nd = 10 ^ (s.nd - 1) * 10 := by
      obtain ⟨n, hn⟩ : ∃ n, s.nd = n + 1 := ⟨s.nd - 1, by omega⟩
      rw [hn, Nat.add_sub_cancel, Nat.pow_succ]
    rw [Nat.div_lt_iff_lt_mul (p10_pos _), Nat.mul_comm, ← e]; exact h4
  omega

theorem nD_bd (P : Nat) (h : 0 < P) : 1 ≤ nD P ∧ 10 ^ (nD P - 1) ≤ P ∧ P < 10 ^ nD P := by
  induction P using Nat.strongRecOn with
  | _ P ih =>
    rw [nD, if_neg (by omega)]
    rcases Nat.eq_zero_or_pos (P / 10) with h0 | h0
    · rw [h0, nD, if_pos rfl]; exact ⟨by omega, by simp; omega, by simp; omega⟩
    · obtain ⟨a, b, c⟩ := ih (P / 10) (by omega) h0
      refine ⟨by omega, ?_, ?_⟩
      · rw [Nat.add_sub_cancel, show nD (P / 10) = nD (P / 10) - 1 + 1 by omega, Nat.pow_succ]; omega
      · rw [Nat.pow_succ]; omega

theorem trimN_ok : ∀ (n M : Nat), 1 ≤ n → 10 ^ (n - 1) ≤ M → M < 10 ^ n → 1 ≤ (trimN n M).1 ∧ (trimN n M).1 ≤ n ∧ 10 ^ ((trimN n M).1 - 1) ≤ (trimN n M).2 ∧ (trimN n M).2 < 10 ^ (trimN n M).1 ∧ (trimN n M).2 / 10 ^ ((trimN n M).1 - 1) = M / 10 ^ (n - 1)
  | 0, _, h, _, _ => absurd h (by omega)
  | 1, M, _, h1, h2 => by
    have : M % 10 ≠ 0 := by simp at h1 h2; omega
    rw [trimN_no this]; exact ⟨by omega, by omega, h1, h2, rfl⟩
  | n + 2, M, _, h1, h2 => by
    by_cases h : M % 10 = 0
    · rw [trimN_yes h]
      have e1 : 10 ^ (n + 2 - 1) = 10 ^ n * 10 := by rw [show n + 2 - 1 = n + 1 by omega, Nat.pow_succ]
      have e2 : 10 ^ (n + 2) = 10 ^ (n + 1) * 10 := Nat.pow_succ ..
      rw [e1] at h1
      rw [e2] at h2
      obtain ⟨a, b, c, d, e⟩ := trimN_ok (n + 1) (M / 10) (by omega) (by rw [Nat.add_sub_cancel]; omega) (by omega)
      refine ⟨a, by omega, c, d, ?_⟩
      rw [e, e1, Nat.add_sub_cancel, Nat.mul_comm, ← Nat.div_div_eq_div_mul]
    · rw [trimN_no h]; exact ⟨by omega, by omega, h1, h2, rfl⟩

theorem shRes_ok (P : Nat) (h : 0 < P) : 1 ≤ (shRes P (nD P)).1 ∧ (shRes P (nD P)).1 ≤ 800 ∧ 10 ^ ((shRes P (nD P)).1 - 1) ≤ (shRes P (nD P)).2 ∧ (shRes P (nD P)).2 < 10 ^ (shRes P (nD P)).1 ∧ (shRes P (nD P)).2 / 10 ^ ((shRes P (nD P)).1 - 1) = P / 10 ^ (nD P - 1) := by
  obtain ⟨h1, h2, h3⟩ := nD_bd P h
  generalize nD P = T at *
  unfold shRes
  have e1 : 10 ^ (T - 1) = 10 ^ (min T 800 - 1) * 10 ^ (T - 800) := by rw [← Nat.pow_add, show min T 800 - 1 + (T - 800) = T - 1 by omega]
  have e2 : 10 ^ T = 10 ^ min T 800 * 10 ^ (T - 800) := by rw [← Nat.pow_add, show min T 800 + (T - 800) = T by omega]
  obtain ⟨a, b, c, d, e⟩ := trimN_ok (min T 800) (P / 10 ^ (T - 800)) (by omega) (by rw [Nat.le_div_iff_mul_le (p10_pos _), ← e1]; exact h2) (by rw [Nat.div_lt_iff_lt_mul (p10_pos _), ← e2]; exact h3)
  refine ⟨a, by omega, c, d, ?_⟩
  rw [e, Nat.div_div_eq_div_mul, Nat.mul_comm, ← e1]

def shlS (s : DS) (k : Nat) : DS := ⟨(shRes (s.M * 2 ^ k) (nD (s.M * 2 ^ k))).2, (shRes (s.M * 2 ^ k) (nD (s.M * 2 ^ k))).1, dpT (shRes (s.M * 2 ^ k) (nD (s.M * 2 ^ k))).1 (s.dp + nD (s.M * 2 ^ k) - s.nd), s.tr || decide (s.M * 2 ^ k % 10 ^ (nD (s.M * 2 ^ k) - 800) ≠ 0)⟩
def shrS (s : DS) (k : Nat) : DS := ⟨(shRes (s.M * 5 ^ k) (nD (s.M * 5 ^ k))).2, (shRes (s.M * 5 ^ k) (nD (s.M * 5 ^ k))).1, dpT (shRes (s.M * 5 ^ k) (nD (s.M * 5 ^ k))).1 (s.dp + nD (s.M * 5 ^ k) - s.nd - k), s.tr || decide (s.M * 5 ^ k % 10 ^ (nD (s.M * 5 ^ k) - 800) ≠ 0)⟩

theorem DS.ok.pos {s : DS} (h : s.ok) : 0 < s.M := Nat.lt_of_lt_of_le (p10_pos _) h.2.2.1

theorem shlS_ok {s : DS} (h : s.ok) (k : Nat) : (shlS s k).ok ∧ (shlS s k).dp = s.dp + nD (s.M * 2 ^ k) - s.nd ∧ (shlS s k).lead = s.M * 2 ^ k / 10 ^ (nD (s.M * 2 ^ k) - 1) := by
  obtain ⟨a, b, c, d, e⟩ := shRes_ok (s.M * 2 ^ k) (Nat.mul_pos h.pos (Nat.pow_pos (by decide)))
  exact ⟨⟨a, b, c, d⟩, if_neg (by omega), e⟩
theorem shrS_ok {s : DS} (h : s.ok) (k : Nat) : (shrS s k).ok ∧ (shrS s k).dp = s.dp + nD (s.M * 5 ^ k) - s.nd - k ∧ (shrS s k).lead = s.M * 5 ^ k / 10 ^ (nD (s.M * 5 ^ k) - 1) := by
  obtain ⟨a, b, c, d, e⟩ := shRes_ok (s.M * 5 ^ k) (Nat.mul_pos h.pos (Nat.pow_pos (by decide)))
  exact ⟨⟨a, b, c, d⟩, if_neg (by omega), e⟩

/-- Leftwards the point goes right, by the digits that come in. -/
theorem shlS_dp {s : DS} (h : s.ok) {k a c : Nat} (h1 : 10 ^ a ≤ 2 ^ k) (h2 : 2 ^ k ≤ 10 ^ c) : s.dp + a ≤ (shlS s k).dp ∧ (shlS s k).dp ≤ s.dp + c := by
  obtain ⟨_, e, _⟩ := shlS_ok h k
  obtain ⟨n1, n2, n3⟩ := nD_bd (s.M * 2 ^ k) (Nat.mul_pos h.pos (Nat.pow_pos (by decide)))
  obtain ⟨p1, _, p3, p4⟩ := h
  have l1 : 10 ^ (s.nd - 1 + a) ≤ s.M * 2 ^ k := by rw [Nat.pow_add]; exact Nat.mul_le_mul p3 h1
  have l2 : s.M * 2 ^ k < 10 ^ (s.nd + c) := by
    rw [Nat.pow_add]
    exact Nat.lt_of_lt_of_le (Nat.mul_lt_mul_of_pos_right p4 (Nat.pow_pos (by decide))) (Nat.mul_le_mul_left _ h2)
  have g1 : s.nd - 1 + a < nD (s.M * 2 ^ k) := (Nat.pow_lt_pow_iff_right (by decide)).1 (Nat.lt_of_le_of_lt l1 n3)
  have g2 : nD (s.M * 2 ^ k) - 1 < s.nd + c := (Nat.pow_lt_pow_iff_right (a := 10) (by decide)).1 (Nat.lt_of_le_of_lt n2 l2)
  rw [e]; omega

/-- Rightwards the point goes left. -/
theorem shrS_dp {s : DS} (h : s.ok) (k : Nat) : s.dp - k ≤ (shrS s k).dp ∧ (shrS s k).dp ≤ s.dp := by
  obtain ⟨_, e, _⟩ := shrS_ok h k
  obtain ⟨n1, n2, n3⟩ := nD_bd (s.M * 5 ^ k) (Nat.mul_pos h.pos (Nat.pow_pos (by decide)))
  obtain ⟨p1, _, p3, p4⟩ := h
  have l1 : 10 ^ (s.nd - 1) ≤ s.M * 5 ^ k := Nat.le_trans p3 (Nat.le_mul_of_pos_right _ (Nat.pow_pos (by decide)))
  have l2 : s.M * 5 ^ k < 10 ^ (s.nd + k) := by
    rw [Nat.pow_add]
    exact Nat.lt_of_lt_of_le (Nat.mul_lt_mul_of_pos_right p4 (Nat.pow_pos (by decide))) (Nat.mul_le_mul_left _ (Nat.pow_le_pow_left (by decide) k))
  have g1 : s.nd - 1 < nD (s.M * 5 ^ k) := (Nat.pow_lt_pow_iff_right (a := 10) (by decide)).1 (Nat.lt_of_le_of_lt l1 n3)
  have g2 : nD (s.M * 5 ^ k) - 1 < s.nd + k := (Nat.pow_lt_pow_iff_right (a := 10) (by decide)).1 (Nat.lt_of_le_of_lt n2 l2)
  rw [e]; omega

end Go.Proofs.YtdencljnbilchaaGreatDoor

namespace Go.Proofs.YtdencljnbilchaaGreatDoor

def powL : List Nat := [1, 3, 6, 9, 13, 16, 19, 23, 26]
def powN (d : Nat) : Nat := if 9 ≤ d then 27 else powL.getD d 0
theorem powN_bd (d : Nat) : 1 ≤ powN d ∧ powN d ≤ 27 := by
  unfold powN
  split
  · omega
  · obtain rfl | rfl | rfl | rfl | rfl | rfl | rfl | rfl | rfl : d = 0 ∨ d = 1 ∨ d = 2 ∨ d = 3 ∨ d = 4 ∨ d = 5 ∨ d = 6 ∨ d = 7 ∨ d = 8 := by omega
    all_goals decide
theorem powN_two (d : Nat) (h : 2 ≤ d) : 6 ≤ powN d := by
  unfold powN
  split
  · omega
  · obtain rfl | rfl | rfl | rfl | rfl | rfl | rfl : d = 2 ∨ d = 3 ∨ d = 4 ∨ d = 5 ∨ d = 6 ∨ d = 7 ∨ d = 8 := by omega
    all_goals decide

theorem pow2_ge (k : Nat) (h : 4 ≤ k) : 10 ≤ 2 ^ k := by
  have := Nat.pow_le_pow_right (n := 2) (by decide) h
  omega

theorem p10_pred {n : Nat} (h : 1 ≤ n) : 10 ^ n = 10 ^ (n - 1) * 10 := by
  obtain ⟨m, rfl⟩ : ∃ m, n = m + 1 := ⟨n - 1, by omega⟩
  rw [Nat.add_sub_cancel, Nat.pow_succ]

/-- A quotient that loses a digit. -/
theorem shrS_less {s : DS} (h : s.ok) (k : Nat) (hl : s.M < 2 ^ k * 10 ^ (s.nd - 1)) : (shrS s k).dp ≤ s.dp - 1 := by
  obtain ⟨_, e, _⟩ := shrS_ok h k
  obtain ⟨n1, n2, n3⟩ := nD_bd (s.M * 5 ^ k) (Nat.mul_pos h.pos (Nat.pow_pos (by decide)))
  have l2 : s.M * 5 ^ k < 10 ^ (s.nd - 1 + k) := by
    have h2 : s.M * 5 ^ k < 2 ^ k * 10 ^ (s.nd - 1) * 5 ^ k := Nat.mul_lt_mul_of_pos_right hl (Nat.pow_pos (by decide))
    have e2 : 2 ^ k * 10 ^ (s.nd - 1) * 5 ^ k = 10 ^ (s.nd - 1 + k) := by
      rw [Nat.pow_add, show (10 : Nat) ^ k = 2 ^ k * 5 ^ k by rw [← Nat.mul_pow]]; ac_rfl
    rwa [e2] at h2
  have g2 : nD (s.M * 5 ^ k) - 1 < s.nd - 1 + k := (Nat.pow_lt_pow_iff_right (a := 10) (by decide)).1 (Nat.lt_of_le_of_lt n2 l2)
  have := h.1
  rw [e]; omega

theorem shrS_less10 {s : DS} (h : s.ok) (k : Nat) (hk : 4 ≤ k) : (shrS s k).dp ≤ s.dp - 1 := by
  refine shrS_less h k (Nat.lt_of_lt_of_le h.2.2.2 ?_)
  rw [p10_pred h.1, Nat.mul_comm]
  exact Nat.mul_le_mul_right _ (pow2_ge k hk)

/-- By eight: a first digit of eight or nine becomes a one. -/
theorem shrS_three {s : DS} (h : s.ok) (hl : ¬ s.M < 2 ^ 3 * 10 ^ (s.nd - 1)) : (shrS s 3).lead = 1 := by
  obtain ⟨_, _, e⟩ := shrS_ok h 3
  obtain ⟨n1, n2, n3⟩ := nD_bd (s.M * 5 ^ 3) (Nat.mul_pos h.pos (Nat.pow_pos (by decide)))
  obtain ⟨p1, _, p3, p4⟩ := h
  have hp := p10_pos (s.nd - 1)
  rw [p10_pred p1] at p4
  have hT : nD (s.M * 5 ^ 3) = s.nd + 3 := by
    refine nD_of _ _ ?_ ?_ (by omega)
    · rw [show s.nd + 3 - 1 = s.nd - 1 + 3 by omega, Nat.pow_add]; omega
    · rw [show s.nd + 3 = s.nd - 1 + 4 by omega, Nat.pow_add]; omega
  rw [e, hT, show s.nd + 3 - 1 = s.nd - 1 + 3 by omega, Nat.pow_add]
  generalize 10 ^ (s.nd - 1) = X at *
  apply Nat.div_eq_of_lt_le <;> omega

def mu1 (s : DS) : Nat := 2 * s.dp.toNat + (if 8 ≤ s.lead then 1 else 0)
theorem lead_le {s : DS} (n : Nat) (h : s.M < n * 10 ^ (s.nd - 1)) : s.lead < n := by
  unfold DS.lead; rw [Nat.div_lt_iff_lt_mul (p10_pos _)]; exact h
theorem lead_ge {s : DS} (n : Nat) (h : ¬ s.M < n * 10 ^ (s.nd - 1)) : n ≤ s.lead := by
  unfold DS.lead; rw [Nat.le_div_iff_mul_le (p10_pos _)]; omega

theorem mu1_lt {s : DS} (h : s.ok) (hd : 0 < s.dp) : mu1 (shrS s (powN s.dp.toNat)) < mu1 s := by
  unfold mu1
  by_cases h2 : 2 ≤ s.dp.toNat
  · have := shrS_less10 h (powN s.dp.toNat) (by have := powN_two _ h2; omega)
    split <;> split <;> omega
  · have h1 : s.dp.toNat = 1 := by omega
    rw [h1]
    have hp : powN 1 = 3 := rfl
    rw [hp]
    by_cases hl : s.M < 2 ^ 3 * 10 ^ (s.nd - 1)
    · have := shrS_less h 3 hl
      split <;> split <;> omega
    · have g := lead_ge _ hl
      have l := shrS_three h hl
      have := (shrS_dp h 3).2
      rw [l, if_neg (by omega), if_pos (by omega)]; omega

def fb1 : Nat → DS → Int → DS × Int
  | 0, s, e => (s, e)
  | n + 1, s, e => if 0 < s.dp then fb1 n (shrS s (powN s.dp.toNat)) (e + powN s.dp.toNat) else (s, e)
theorem fb1_stop (n : Nat) (s : DS) (e : Int) (h : ¬ 0 < s.dp) : fb1 n s e = (s, e) := by
  cases n with
  | zero => rfl
  | succ n => rw [fb1, if_neg h]

/-- By two: a first digit below five grows. -/
theorem shlS_one {s : DS} (h : s.ok) (hl : s.lead < 5) : (shlS s 1).dp = s.dp ∧ 2 * s.lead ≤ (shlS s 1).lead := by
  obtain ⟨_, e, el⟩ := shlS_ok h 1
  obtain ⟨p1, _, p3, p4⟩ := h
  have hM : s.M < 5 * 10 ^ (s.nd - 1) := by
    unfold DS.lead at hl; rwa [Nat.div_lt_iff_lt_mul (p10_pos _)] at hl
  have hT : nD (s.M * 2 ^ 1) = s.nd := nD_of _ _ (by omega) (by rw [p10_pred p1]; omega) p1
  rw [e, el, hT]
  refine ⟨by omega, ?_⟩
  rw [Nat.le_div_iff_mul_le (p10_pos _)]
  have := Nat.div_mul_le_self s.M (10 ^ (s.nd - 1))
  unfold DS.lead
  rw [Nat.mul_assoc]; omega

theorem shlS_three {s : DS} (h : s.ok) : s.dp + 1 ≤ (shlS s 3).dp ∨ ((shlS s 3).dp = s.dp ∧ 8 * s.lead ≤ (shlS s 3).lead) := by
  obtain ⟨_, e, el⟩ := shlS_ok h 3
  obtain ⟨n1, n2, n3⟩ := nD_bd (s.M * 2 ^ 3) (Nat.mul_pos h.pos (Nat.pow_pos (by decide)))
  obtain ⟨p1, _, p3, p4⟩ := h
  have g1 : s.nd - 1 < nD (s.M * 2 ^ 3) := (Nat.pow_lt_pow_iff_right (a := 10) (by decide)).1 (Nat.lt_of_le_of_lt (Nat.le_trans p3 (Nat.le_mul_of_pos_right _ (by decide))) n3)
  by_cases hT : nD (s.M * 2 ^ 3) = s.nd
  · right
    rw [e, el, hT]
    refine ⟨by omega, ?_⟩
    rw [Nat.le_div_iff_mul_le (p10_pos _)]
    have := Nat.div_mul_le_self s.M (10 ^ (s.nd - 1))
    unfold DS.lead
    rw [Nat.mul_assoc]; omega
  · left; rw [e]; omega

def mu2 (s : DS) : Nat := if s.dp < 0 then 20 * (-s.dp).toNat + (10 - s.lead) else if s.dp = 0 then 10 - s.lead else 0
def cond2 (s : DS) : Prop := s.dp < 0 ∨ (s.dp = 0 ∧ s.lead < 5)
instance (s : DS) : Decidable (cond2 s) := by unfold cond2; infer_instance

theorem mu2_lt {s : DS} (h : s.ok) (hd : cond2 s) : mu2 (shlS s (powN (-s.dp).toNat)) < mu2 s := by
  have hb := lead_bd h
  have hb2 := lead_bd (shlS_ok h (powN (-s.dp).toNat)).1
  rcases hd with hd | ⟨hd, hl⟩
  · have key : s.dp + 1 ≤ (shlS s (powN (-s.dp).toNat)).dp ∨ ((shlS s (powN (-s.dp).toNat)).dp = s.dp ∧ 8 * s.lead ≤ (shlS s (powN (-s.dp).toNat)).lead) := by
      by_cases h2 : 2 ≤ (-s.dp).toNat
      · left
        have h6 := powN_two _ h2
        have hb := powN_bd (-s.dp).toNat
        have := (shlS_dp h (k := powN (-s.dp).toNat) (a := 1) (c := powN (-s.dp).toNat) (pow2_ge _ (by omega)) (Nat.pow_le_pow_left (by decide) _)).1
        omega
      · have h1 : (-s.dp).toNat = 1 := by omega
        rw [h1]; exact shlS_three h
    unfold mu2
    rw [if_pos hd]
    split <;> (try split) <;> omega
  · have h0 : (-s.dp).toNat = 0 := by omega
    rw [h0] at hb2 ⊢
    have hp : powN 0 = 1 := rfl
    rw [hp] at hb2 ⊢
    obtain ⟨a, b⟩ := shlS_one h hl
    unfold mu2
    rw [a, hd]
    simp only [Int.lt_irrefl, if_false, if_true]
    omega

def fb2 : Nat → DS → Int → DS × Int
  | 0, s, e => (s, e)
  | n + 1, s, e => if cond2 s then fb2 n (shlS s (powN (-s.dp).toNat)) (e - powN (-s.dp).toNat) else (s, e)
theorem fb2_stop (n : Nat) (s : DS) (e : Int) (h : ¬ cond2 s) : fb2 n s e = (s, e) := by
  cases n with
  | zero => rfl
  | succ n => rw [fb2, if_neg h]

end Go.Proofs.YtdencljnbilchaaGreatDoor

namespace Go.Proofs.YtdencljnbilchaaGreatDoor

def shlR (s : DS) (k : Nat) : DS := if 60 < k then shlR (shlS s 60) (k - 60) else shlS s k
def shrR (s : DS) (k : Nat) : DS := if 60 < k then shrR (shrS s 60) (k - 60) else shrS s k

theorem shlS_bd {s : DS} (h : s.ok) (k : Nat) : s.dp ≤ (shlS s k).dp ∧ (shlS s k).dp ≤ s.dp + k := by
  have := shlS_dp h (k := k) (a := 0) (c := k) (by simpa using Nat.one_le_two_pow) (Nat.pow_le_pow_left (by decide) k)
  omega

theorem shlR_ok (k : Nat) : ∀ (s : DS), s.ok → (shlR s k).ok ∧ s.dp ≤ (shlR s k).dp ∧ (shlR s k).dp ≤ s.dp + k := by
  induction k using Nat.strongRecOn with
  | _ k ih =>
    intro s h
    rw [shlR]
    split
    · have h1 := shlS_bd h 60
      obtain ⟨a, b, c⟩ := ih (k - 60) (by omega) _ (shlS_ok h 60).1
      exact ⟨a, by omega, by omega⟩
    · exact ⟨(shlS_ok h k).1, shlS_bd h k⟩
theorem shrR_ok (k : Nat) : ∀ (s : DS), s.ok → (shrR s k).ok ∧ s.dp - k ≤ (shrR s k).dp ∧ (shrR s k).dp ≤ s.dp := by
  induction k using Nat.strongRecOn with
  | _ k ih =>
    intro s h
    rw [shrR]
    split
    · have h1 := shrS_dp h 60
      obtain ⟨a, b, c⟩ := ih (k - 60) (by omega) _ (shrS_ok h 60).1
      exact ⟨a, by omega, by omega⟩
    · exact ⟨(shrS_ok h k).1, shrS_dp h k⟩

/-- Should it be rounded up behind i digits? -/
def sruB (s : DS) (i : Int) : Bool :=
  if i < 0 ∨ (s.nd : Int) ≤ i then false
  else if s.M / 10 ^ (s.nd - 1 - i.toNat) % 10 = 5 ∧ i.toNat + 1 = s.nd then
    (if s.tr = true then true else decide (0 < i.toNat ∧ s.M / 10 ^ (s.nd - 1 - (i.toNat - 1)) % 10 % 2 ≠ 0))
  else decide (5 ≤ s.M / 10 ^ (s.nd - 1 - i.toNat) % 10)

end Go.Proofs.YtdencljnbilchaaGreatDoor

namespace Go.Proofs.YtdencljnbilchaaGreatDoor

theorem shlS60 {s : DS} (h : s.ok) {k : Nat} (hk : k ≤ 60) : (shlS s k).dp ≤ s.dp + 19 :=
  (shlS_dp h (k := k) (a := 0) (c := 19) (by simpa using Nat.one_le_two_pow) (Nat.le_trans (Nat.pow_le_pow_right (by decide) hk) (by decide))).2

theorem five_tab : ∀ k : Fin 61, 10 ^ ((k : Nat) - 19) ≤ 5 ^ (k : Nat) := by decide +kernel

theorem shrS60 {s : DS} (h : s.ok) {k : Nat} (hk : k ≤ 60) : s.dp - 19 ≤ (shrS s k).dp := by
  obtain ⟨_, e, _⟩ := shrS_ok h k
  obtain ⟨n1, n2, n3⟩ := nD_bd (s.M * 5 ^ k) (Nat.mul_pos h.pos (Nat.pow_pos (by decide)))
  obtain ⟨p1, _, p3, p4⟩ := h
  have l1 : 10 ^ (s.nd - 1 + (k - 19)) ≤ s.M * 5 ^ k := by rw [Nat.pow_add]; exact Nat.mul_le_mul p3 (five_tab ⟨k, by omega⟩)
  have g1 : s.nd - 1 + (k - 19) < nD (s.M * 5 ^ k) := (Nat.pow_lt_pow_iff_right (a := 10) (by decide)).1 (Nat.lt_of_le_of_lt l1 n3)
  rw [e]; omega

theorem shlR_bd (k : Nat) : ∀ (s : DS), s.ok → (shlR s k).dp ≤ s.dp + 19 * ((k / 60 : Nat) + 1) := by
  induction k using Nat.strongRecOn with
  | _ k ih =>
    intro s h
    rw [shlR]
    split
    · have h1 := shlS60 h (Nat.le_refl 60)
      have := ih (k - 60) (by omega) _ (shlS_ok h 60).1
      omega
    · have := shlS60 h (k := k) (by omega)
      omega

theorem shrR_bd (k : Nat) : ∀ (s : DS), s.ok → s.dp - 19 * ((k / 60 : Nat) + 1) ≤ (shrR s k).dp := by
  induction k using Nat.strongRecOn with
  | _ k ih =>
    intro s h
    rw [shrR]
    split
    · have h1 := shrS60 h (Nat.le_refl 60)
      have := ih (k - 60) (by omega) _ (shrS_ok h 60).1
      omega
    · have := shrS60 h (k := k) (by omega)
      omega

/-- A number of n digits as a decimal. -/
def dsOf (n v : Nat) : DS := ⟨(trimN n v).2, (trimN n v).1, dpT (trimN n v).1 n, false⟩

theorem dsOf_ok {n v : Nat} (hn : 1 ≤ n) (hn2 : n ≤ 20) (h1 : 10 ^ (n - 1) ≤ v) (h2 : v < 10 ^ n) : (dsOf n v).ok ∧ (dsOf n v).dp = n := by
  obtain ⟨a, b, c, d, _⟩ := trimN_ok n v hn h1 h2
  exact ⟨⟨a, by show (trimN n v).1 ≤ 800; omega, c, d⟩, if_neg (by show ¬ (trimN n v).1 = 0; omega)⟩

/-- Shift, whatever the sign. -/
def shiR (s : DS) (k : Int) : DS := if 0 < k then shlR s k.toNat else if k < 0 then shrR s (-k).toNat else s

theorem shiR_ok {s : DS} (h : s.ok) (k : Int) (h1 : -1100 ≤ k) (h2 : k ≤ 1000) : (shiR s k).ok ∧ s.dp - 380 ≤ (shiR s k).dp ∧ (shiR s k).dp ≤ s.dp + 330 := by
  unfold shiR
  split
  · obtain ⟨a, b, c⟩ := shlR_ok k.toNat s h
    have := shlR_bd k.toNat s h
    exact ⟨a, by omega, by omega⟩
  · split
    · obtain ⟨a, b, c⟩ := shrR_ok (-k).toNat s h
      have := shrR_bd (-k).toNat s h
      exact ⟨a, by omega, by omega⟩
    · exact ⟨h, by omega, by omega⟩

/-- A number's digits, from the left. -/
def dgf (M nd : Nat) (i : Nat) : Nat := 48 + M / 10 ^ (nd - 1 - i) % 10
theorem dgf_lt (M nd i : Nat) : dgf M nd i < 256 := by unfold dgf; omega
theorem dgf_digit (M nd i : Nat) : 48 ≤ dgf M nd i ∧ dgf M nd i ≤ 57 := by unfold dgf; omega

end Go.Proofs.YtdencljnbilchaaGreatDoor

namespace Go.Proofs.YtdencljnbilchaaGreatDoor

structure SD where
  M : Nat
  nd : Nat
  dp : Int
  sd : Bool
  sg : Bool
  tr : Bool

def SD.init : SD := ⟨0, 0, 0, false, false, false⟩

def sdStep (st : SD) (c : UInt8) : Option SD :=
  if c = 46 then (if st.sd = true then none else some { st with sd := true, dp := st.nd })
  else if isDig c = true then
    (if c = 48 ∧ st.nd = 0 then some { st with sg := true, dp := st.dp - 1 }
     else if st.nd < 800 then some { st with sg := true, nd := st.nd + 1, M := st.M * 10 + (c.toNat - 48) }
     else some { st with sg := true, tr := if c = 48 then st.tr else true })
  else none

def sdLoop : SD → List UInt8 → SD × Nat
  | st, [] => (st, 0)
  | st, c :: r => match sdStep st c with
    | none => (st, 0)
    | some st' => ((sdLoop st' r).1, (sdLoop st' r).2 + 1)

theorem sdLoop_end (st : SD) (l : List UInt8) (k : Nat) (h : l.length ≤ k) : sdLoop st (l.drop k) = (st, 0) := by
  rw [List.drop_eq_nil_of_le h]; rfl
theorem sdLoop_no (st : SD) (l : List UInt8) (k : Nat) (h : k < l.length) (hs : sdStep st l[k] = none) : sdLoop st (l.drop k) = (st, 0) := by
  rw [drop_at l k h, sdLoop, hs]
theorem sdLoop_yes (st st' : SD) (l : List UInt8) (k : Nat) (h : k < l.length) (hs : sdStep st l[k] = some st') : sdLoop st (l.drop k) = ((sdLoop st' (l.drop (k + 1))).1, (sdLoop st' (l.drop (k + 1))).2 + 1) := by
  rw [drop_at l k h, sdLoop, hs]

/-- What is read behind the mantissa, and that it all ends there. -/
def sdDone (l : List UInt8) (st : SD) (dp : Int) (i : Nat) : Option DS := if i = l.length then some ⟨st.M, st.nd, dp, st.tr⟩ else none

def sdExp (l : List UInt8) (st : SD) (dp : Int) (k : Nat) : Option DS :=
  if l.length ≤ k then none
  else if nWhile isDig (l.drop (k + sgnN (l.drop k))) = 0 then none
  else sdDone l st (dp + (eLoop 0 (l.drop (k + sgnN (l.drop k)))).1 * (if (l.drop k).head? = some 45 then -1 else 1)) (k + sgnN (l.drop k) + (eLoop 0 (l.drop (k + sgnN (l.drop k)))).2)

def sdTail (l : List UInt8) (st : SD) (i : Nat) : Option DS :=
  if (l.drop i).head? = some 46 then none
  else if st.sg = false then none
  else if (l.drop i).head? = some 101 ∨ (l.drop i).head? = some 69 then sdExp l st (if st.sd = true then st.dp else st.nd) (i + 1)
  else sdDone l st (if st.sd = true then st.dp else st.nd) i

def sdR (l : List UInt8) : Option DS :=
  if l = [] then none
  else sdTail l (sdLoop .init (l.drop (sgnN l))).1 (sgnN l + (sdLoop .init (l.drop (sgnN l))).2)

/-- What always holds of the loop's state behind k bytes. -/
def SD.ok (st : SD) (k : Nat) : Prop := st.M < 10 ^ st.nd ∧ (st.nd = 0 ∨ 10 ^ (st.nd - 1) ≤ st.M) ∧ st.nd ≤ 800 ∧ st.nd ≤ k ∧ -(k : Int) ≤ st.dp ∧ st.dp ≤ k

theorem SD.init_ok : SD.init.ok 0 := ⟨by show 0 < 1; omega, .inl rfl, by show 0 ≤ 800; omega, Nat.le_refl _, by show -((0 : Nat) : Int) ≤ 0; omega, by show (0 : Int) ≤ ((0 : Nat) : Int); omega⟩
theorem SD.ok_mono {st : SD} {k k' : Nat} (h : st.ok k) (hk : k ≤ k') : st.ok k' := by
  obtain ⟨h1, h2, h3, h4, h5, h6⟩ := h
  exact ⟨h1, h2, h3, by omega, by omega, by omega⟩

theorem sdStep_ok (st st' : SD) (k : Nat) (c : UInt8) (h : st.ok k) (hs : sdStep st c = some st') : st'.ok (k + 1) := by
  obtain ⟨M, nd, dp, sd, sg, tr⟩ := st
  obtain ⟨h1, h2, h3, h4, h5, h6⟩ := h
  dsimp only at h1 h2 h3 h4 h5 h6
  unfold sdStep at hs
  dsimp only at hs
  split at hs
  · split at hs
    · cases hs
    · cases hs; exact ⟨h1, h2, h3, by show nd ≤ k + 1; omega, by show -((k + 1 : Nat) : Int) ≤ (nd : Int); omega, by show (nd : Int) ≤ ((k + 1 : Nat) : Int); omega⟩
  · split at hs
    · rename_i hd
      have := dig_bd hd
      split at hs
      · cases hs; exact ⟨h1, h2, h3, by show nd ≤ k + 1; omega, by show -((k + 1 : Nat) : Int) ≤ dp - 1; omega, by show dp - 1 ≤ ((k + 1 : Nat) : Int); omega⟩
      · rename_i h48
        split at hs
        · cases hs
          refine ⟨?_, .inr ?_, by show nd + 1 ≤ 800; omega, by show nd + 1 ≤ k + 1; omega, by show -((k + 1 : Nat) : Int) ≤ dp; omega, by show dp ≤ ((k + 1 : Nat) : Int); omega⟩
          · show M * 10 + (c.toNat - 48) < 10 ^ (nd + 1)
            rw [Nat.pow_succ]; omega
          · show 10 ^ (nd + 1 - 1) ≤ M * 10 + (c.toNat - 48)
            rw [Nat.add_sub_cancel]
            rcases h2 with h2 | h2
            · subst h2
              have hc : c.toNat ≠ 48 := fun e => h48 ⟨UInt8.toNat_inj.1 e, rfl⟩
              show 1 ≤ _; omega
            · rcases Nat.eq_zero_or_pos nd with h0 | h0
              · subst h0
                have hc : c.toNat ≠ 48 := fun e => h48 ⟨UInt8.toNat_inj.1 e, rfl⟩
                show 1 ≤ _; omega
              · rw [show nd = nd - 1 + 1 by omega, Nat.pow_succ]; omega
        · cases hs
          exact ⟨h1, h2, h3, by show nd ≤ k + 1; omega, by show -((k + 1 : Nat) : Int) ≤ dp; omega, by show dp ≤ ((k + 1 : Nat) : Int); omega⟩
    · cases hs

theorem sdLoop_ok : ∀ (l : List UInt8) (st : SD) (k : Nat), st.ok k → (sdLoop st l).1.ok (k + (sdLoop st l).2)
  | [], st, k, h => h
  | c :: r, st, k, h => by
    unfold sdLoop
    split
    · exact h
    · rename_i st' hs
      have := sdLoop_ok r st' (k + 1) (sdStep_ok st st' k c h hs)
      rwa [show k + 1 + (sdLoop st' r).2 = k + ((sdLoop st' r).2 + 1) by omega] at this

/-- One digit more. -/
theorem dgs_add {f : Nat → Nat} {nd M c : Nat} (h : dgs f nd M) (h1 : 48 ≤ c) (h2 : c ≤ 57) : dgs (fun j => if j = nd then c else f j) (nd + 1) (M * 10 + (c - 48)) := by
  refine ⟨?_, fun i hi => ?_⟩
  · have := h.1; rw [Nat.pow_succ]; omega
  · show (if i = nd then c else f i) = _
    by_cases e : i = nd
    · subst e
      rw [if_pos rfl, show i + 1 - 1 - i = 0 by omega, Nat.pow_zero, Nat.div_one]; omega
    · have h3 := h.2 i (by omega)
      rw [if_neg e, h3, show nd + 1 - 1 - i = (nd - 1 - i) + 1 by omega, Nat.pow_succ, Nat.mul_comm (10 ^ (nd - 1 - i)) 10, ← Nat.div_div_eq_div_mul, show (M * 10 + (c - 48)) / 10 = M by omega]
theorem dgs_nil (f : Nat → Nat) : dgs f 0 0 := ⟨by decide, fun i hi => absurd hi (by omega)⟩

end Go.Proofs.YtdencljnbilchaaGreatDoor

namespace Go.Proofs.YtdencljnbilchaaGreatDoor
open Go

/-- It is no NaN. -/
def NN (x : Nat) : Prop := x % 9223372036854775808 ≤ 9218868437227405312

theorem nn_read {x : Nat} (h : NN x) : (∃ s m e, FloatKind.f64.format.read x = .number s m e) ∨ (∃ s, FloatKind.f64.format.read x = .infinity s) := by
  unfold NN at h
  have e1 : FloatKind.f64.format.signWeight = 9223372036854775808 := by decide
  have e2 : FloatKind.f64.format.binade = 4503599627370496 := by decide
  have e3 : FloatKind.f64.format.infRung = 9218868437227405312 := by decide
  unfold Ieee.Format.read
  simp only [e1, e2, e3]
  by_cases h1 : x % 9223372036854775808 < 4503599627370496
  · rw [if_pos h1]; exact .inl ⟨_, _, _, rfl⟩
  · rw [if_neg h1]
    by_cases h2 : x % 9223372036854775808 < 9218868437227405312
    · rw [if_pos h2]; exact .inl ⟨_, _, _, rfl⟩
    · rw [if_neg h2, if_pos (by omega)]; exact .inr ⟨_, rfl⟩

theorem nn_word (neg : Bool) (r : Nat) (h : r ≤ 9218868437227405312) : NN (FloatKind.f64.format.word neg r) := by
  have e1 : FloatKind.f64.format.signWeight = 9223372036854775808 := by decide
  unfold NN Ieee.Format.word
  rw [e1]
  split <;> omega

theorem nn_nearest (neg : Bool) (m : Nat) (e : Int) : NN (FloatKind.f64.format.nearest neg m e) := by
  have e3 : FloatKind.f64.format.infRung = 9218868437227405312 := by decide
  unfold Ieee.Format.nearest
  dsimp only
  split
  · exact nn_word _ _ (by omega)
  · refine nn_word _ _ ?_
    rw [e3]; exact Nat.min_le_right ..

theorem nn_write_inf (s : Bool) : NN (FloatKind.f64.format.write (.infinity s)) := by
  show NN (FloatKind.f64.format.word s FloatKind.f64.format.infRung)
  exact nn_word _ _ (by decide)
theorem nn_write_num (s : Bool) (m : Nat) (e : Int) : NN (FloatKind.f64.format.write (.number s m e)) := nn_nearest s m e

theorem nn_ofInt (n : Int) : NN (floatOfInt .f64 n) := nn_nearest _ _ _
theorem ofInt_lt (n : Int) : floatOfInt .f64 n < 18446744073709551616 := show FloatKind.f64.format.write (.number (decide (n < 0)) n.natAbs 0) < 2 ^ 64 from FloatKind.f64.format.write_lt _

theorem nn_neg {x : Nat} (h : NN x) : NN (x ^^^ 9223372036854775808) := by
  unfold NN at *
  have e : (x ^^^ 2 ^ 63) % 2 ^ 63 = x % 2 ^ 63 ^^^ 2 ^ 63 % 2 ^ 63 := Nat.xor_mod_two_pow
  have e2 : x % 2 ^ 63 ^^^ 2 ^ 63 % 2 ^ 63 = x % 2 ^ 63 := by simp
  rw [e2] at e
  have e' : (x ^^^ 9223372036854775808) % 9223372036854775808 = x % 9223372036854775808 := e
  rw [e']; exact h
theorem neg_lt {x : Nat} (h : x < 18446744073709551616) : x ^^^ 9223372036854775808 < 18446744073709551616 := Nat.xor_lt_two_pow (n := 64) h (by decide)

/-- It is a number, and none of the two zeros. -/
def NZ (x : Nat) : Prop := ∃ s m e, FloatKind.f64.format.read x = .number s m e ∧ m ≠ 0

theorem mul_some {x y : Nat} (hx : NN x) (hy : NZ y) : ∃ r, floatBits .mul .f64 x y = some r ∧ r < 18446744073709551616 ∧ NN r := by
  obtain ⟨t, n, j, hr, hn⟩ := hy
  have hlt : ∀ d, FloatKind.f64.format.write d < 18446744073709551616 := fun d => FloatKind.f64.format.write_lt d
  rcases nn_read hx with ⟨s, m, e, h⟩ | ⟨s, h⟩
  · exact ⟨FloatKind.f64.format.write (.number (s ^^ t) (m * n) (e + j)), by simp only [floatBits, Ieee.Format.mul, h, hr, Ieee.Datum.product]; rfl, hlt _, nn_write_num _ _ _⟩
  · exact ⟨FloatKind.f64.format.write (.infinity (s ^^ t)), by simp only [floatBits, Ieee.Format.mul, h, hr, Ieee.Datum.product, if_neg hn]; rfl, hlt _, nn_write_inf _⟩

theorem div_some {x y : Nat} (hx : NN x) (hy : NZ y) : ∃ r, floatBits .quo .f64 x y = some r ∧ r < 18446744073709551616 ∧ NN r := by
  obtain ⟨t, n, j, hr, hn⟩ := hy
  have hlt : ∀ d, FloatKind.f64.format.write d < 18446744073709551616 := fun d => FloatKind.f64.format.write_lt d
  rcases nn_read hx with ⟨s, m, e, h⟩ | ⟨s, h⟩
  · have hq : ∃ a b c, (FloatKind.f64.format.read x).quotient (FloatKind.f64.format.fractionBits + 2) (FloatKind.f64.format.read y) = some (.number a b c) := by
      rw [h, hr]; simp only [Ieee.Datum.quotient, if_neg hn]; exact ⟨_, _, _, rfl⟩
    obtain ⟨a, b, c, hq⟩ := hq
    exact ⟨FloatKind.f64.format.write (.number a b c), by simp only [floatBits, Ieee.Format.div, hq]; rfl, hlt _, nn_write_num _ _ _⟩
  · exact ⟨FloatKind.f64.format.write (.infinity (s ^^ t)), by simp only [floatBits, Ieee.Format.div, h, hr, Ieee.Datum.quotient]; rfl, hlt _, nn_write_inf _⟩

end Go.Proofs.YtdencljnbilchaaGreatDoor

namespace Go.Proofs.YtdencljnbilchaaGreatDoor

theorem rfLoop_len : ∀ (l : List UInt8) (st : RF), (rfLoop st l).2 ≤ l.length
  | [], _ => Nat.le_refl _
  | c :: r, st => by
    rw [rfLoop]
    cases h : rfStep st c with
    | none => simp
    | some st' => have := rfLoop_len r st'; simp only [List.length_cons]; omega

theorem eLoop_len : ∀ (l : List UInt8) (e : Nat), (eLoop e l).2 ≤ l.length
  | [], _ => Nat.le_refl _
  | c :: r, e => by
    rw [eLoop]
    split
    · have := eLoop_len r (if e < 10000 then e * 10 + (c.toNat - 48) else e); simp only [List.length_cons]; omega
    · simp

theorem rfLoop_okS : ∀ (l : List UInt8) (st : RF) (k : Nat), st.ok k → (rfLoop st l).1.ok (k + (rfLoop st l).2)
  | [], st, k, h => h
  | c :: r, st, k, h => by
    rw [rfLoop]
    cases hs : rfStep st c with
    | none => exact h
    | some st' =>
      have := rfLoop_okS r st' (k + 1) (rfStep_ok st st' k c h hs)
      dsimp only
      rwa [show k + ((rfLoop st' r).2 + 1) = k + 1 + (rfLoop st' r).2 by omega]

theorem RF.init_okS : RF.init.ok 0 := ⟨by show 0 < 1; omega, by show 0 ≤ 19; omega, Nat.le_refl _, Nat.le_refl _, by show -((0 : Nat) : Int) ≤ 0; omega, by show (0 : Int) ≤ ((0 : Nat) : Int); omega⟩

theorem sgnN_le (l : List UInt8) : sgnN l ≤ l.length := by
  unfold sgnN; split
  · cases l with
    | nil => simp at *
    | cons c r => simp
  · omega

theorem rfDone_i (ng : Bool) (st : RF) (dp : Int) (i : Nat) : (rfDone ng st dp i).i = i := rfl
theorem rfDone_mant (ng : Bool) (st : RF) (dp : Int) (i : Nat) : (rfDone ng st dp i).mant = st.mant := rfl

theorem rf_bd (l : List UInt8) : (rf l).i ≤ l.length ∧ (rf l).mant < 10000000000000000000 := by
  unfold rf
  split
  · exact ⟨Nat.zero_le _, by show 0 < 10000000000000000000; omega⟩
  · have h1 := sgnN_le l
    have h2 := rfLoop_len (l.drop (sgnN l)) .init
    have h3 := rfLoop_okS (l.drop (sgnN l)) .init 0 RF.init_okS
    rw [List.length_drop] at h2
    generalize rfLoop .init (l.drop (sgnN l)) = R at h2 h3
    generalize sgnN l = g at h1 h2
    have hm : R.1.mant < 10000000000000000000 := by
      have := h3.1
      have h19 := h3.2.1
      have := Nat.pow_le_pow_right (n := 10) (by omega) h19
      have e : (10 : Nat) ^ 19 = 10000000000000000000 := by decide
      omega
    have hh : ∀ k, (l.drop k).head? = some 101 ∨ (l.drop k).head? = some 69 → k < l.length := by
      intro k hk
      by_cases hl : k < l.length
      · exact hl
      · rw [List.drop_eq_nil_of_le (by omega)] at hk; simp at hk
    unfold rfTail
    split
    · exact ⟨by show g + R.2 ≤ _; omega, hm⟩
    · split
      · rename_i h
        have := hh _ h
        unfold rfExp
        split
        · exact ⟨by show g + R.2 + 1 ≤ _; omega, hm⟩
        · have h5 := sgnN_le (l.drop (g + R.2 + 1))
          rw [List.length_drop] at h5
          split
          · exact ⟨by show g + R.2 + 1 + _ ≤ _; omega, hm⟩
          · rw [rfDone_i, rfDone_mant]
            have h6 := eLoop_len (l.drop (g + R.2 + 1 + sgnN (l.drop (g + R.2 + 1)))) 0
            rw [List.length_drop] at h6
            exact ⟨by omega, hm⟩
      · rw [rfDone_i, rfDone_mant]; exact ⟨by omega, hm⟩

end Go.Proofs.YtdencljnbilchaaGreatDoor

namespace Go.Proofs.YtdencljnbilchaaGreatDoor

theorem eLoop_val : ∀ (l : List UInt8) (e : Nat), e ≤ 100000 → (eLoop e l).1 ≤ 100000
  | [], e, h => h
  | c :: r, e, h => by
    rw [eLoop]
    split
    · rename_i hd
      have := dig_bd hd
      refine eLoop_val r _ ?_
      split <;> omega
    · exact h

theorem sdR_bd (l : List UInt8) (hl : l.length ≤ 281474976710656) (d : DS) (h : sdR l = some d) :
    d.nd ≤ 800 ∧ (d.nd = 0 ∨ d.ok) ∧ -1152921504606846976 ≤ d.dp ∧ d.dp ≤ 1152921504606846976 := by
  unfold sdR at h
  split at h
  · cases h
  · have h3 := sdLoop_ok (l.drop (sgnN l)) .init 0 SD.init_ok
    have h2 : (sdLoop .init (l.drop (sgnN l))).2 ≤ l.length := by
      have : ∀ (l : List UInt8) (st : SD), (sdLoop st l).2 ≤ l.length := by
        intro l
        induction l with
        | nil => intro st; exact Nat.le_refl _
        | cons c r ih =>
          intro st
          rw [sdLoop]
          cases hs : sdStep st c with
          | none => simp
          | some st' => have := ih st'; simp only [List.length_cons]; omega
      have := this (l.drop (sgnN l)) .init
      rw [List.length_drop] at this; omega
    generalize sdLoop .init (l.drop (sgnN l)) = R at h h2 h3
    generalize sgnN l = g at h
    obtain ⟨a1, a2, a3, a4, a5, a6⟩ := h3
    have hc : R.1.nd = 0 ∨ (1 ≤ R.1.nd ∧ R.1.nd ≤ 800 ∧ 10 ^ (R.1.nd - 1) ≤ R.1.M ∧ R.1.M < 10 ^ R.1.nd) := by
      rcases a2 with h | h
      · exact .inl h
      · by_cases h0 : R.1.nd = 0
        · exact .inl h0
        · exact .inr ⟨by omega, a3, h, a1⟩
    have done : ∀ (dp : Int) (i : Nat), -300000000000000 ≤ dp → dp ≤ 300000000000000 → sdDone l R.1 dp i = some d → d.nd ≤ 800 ∧ (d.nd = 0 ∨ d.ok) ∧ -1152921504606846976 ≤ d.dp ∧ d.dp ≤ 1152921504606846976 := by
      intro dp i b1 b2 hd
      unfold sdDone at hd
      split at hd
      · cases hd; exact ⟨a3, hc, by show _ ≤ dp; omega, by show dp ≤ _; omega⟩
      · cases hd
    have b1 : -281474976710656 ≤ (if R.1.sd = true then R.1.dp else (R.1.nd : Int)) := by split <;> omega
    have b2 : (if R.1.sd = true then R.1.dp else (R.1.nd : Int)) ≤ 281474976710656 := by split <;> omega
    unfold sdTail at h
    split at h
    · cases h
    · split at h
      · cases h
      · split at h
        · unfold sdExp at h
          split at h
          · cases h
          · split at h
            · cases h
            · refine done _ _ ?_ ?_ h
              all_goals
                have := eLoop_val (l.drop (g + R.2 + 1 + sgnN (l.drop (g + R.2 + 1)))) 0 (by omega)
                generalize (eLoop 0 (l.drop (g + R.2 + 1 + sgnN (l.drop (g + R.2 + 1))))).1 = E at this
                generalize (if R.1.sd = true then R.1.dp else (R.1.nd : Int)) = D at b1 b2
                split <;> omega
        · exact done _ _ (by omega) (by omega) h

end Go.Proofs.YtdencljnbilchaaGreatDoor

namespace Go.Proofs.YtdencljnbilchaaGreatDoor

def allN (l : List UInt8) (n : Nat) : Prop := ∀ c ∈ l.take n, c ∈ numChL

theorem allN_zero (l : List UInt8) : allN l 0 := fun c hc => by simp at hc
theorem allN_add {l : List UInt8} {a b : Nat} (h : allN l a) (h' : allN (l.drop a) b) : allN l (a + b) := by
  intro c hc
  rw [List.take_add] at hc
  rcases List.mem_append.1 hc with hc | hc
  · exact h c hc
  · exact h' c hc
theorem dig_num (c : UInt8) (h : isDig c = true) : c ∈ numChL := by
  have hall : ∀ n : Fin 256, isDig (UInt8.ofNat n) = true → UInt8.ofNat n ∈ numChL := by decide +kernel
  have := hall ⟨c.toNat, c.toNat_lt⟩
  have e : UInt8.ofNat c.toNat = c := UInt8.toNat_inj.1 (by rw [UInt8.toNat_ofNat']; exact Nat.mod_eq_of_lt c.toNat_lt)
  simp only [e] at this
  exact this h
theorem allN_digs : ∀ l : List UInt8, allN l (nWhile isDig l)
  | [] => allN_zero _
  | c :: r => by
    unfold nWhile
    split
    · rename_i h
      intro x hx
      rw [List.take_succ_cons] at hx
      rcases List.mem_cons.1 hx with rfl | hx
      · exact dig_num _ h
      · exact allN_digs r x hx
    · exact allN_zero _
theorem allN_head {l : List UInt8} {c : UInt8} (h : l.head? = some c) (hc : c ∈ numChL) : allN l 1 := by
  cases l with
  | nil => cases h
  | cons d r =>
    cases h
    intro x hx
    simp at hx
    subst hx; exact hc
theorem allN_sgn (l : List UInt8) : allN l (sgnN l) := by
  unfold sgnN
  split
  · rename_i h
    rcases h with h | h
    · exact allN_head h (by decide)
    · exact allN_head h (by decide)
  · exact allN_zero _
theorem allN_mant (l : List UInt8) : allN l (mantN l) := by
  unfold mantN
  split
  · rename_i h
    split
    · exact allN_zero _
    · refine allN_add (allN_add (allN_digs l) (allN_head h (by decide))) ?_
      exact allN_digs _
  · exact allN_digs l
theorem allN_exp (l : List UInt8) : allN l (expN l) := by
  unfold expN
  split
  · rename_i h
    split
    · exact allN_zero _
    · refine allN_add (allN_add ?_ (allN_sgn _)) (allN_digs _)
      rcases h with h | h
      · exact allN_head h (by decide)
      · exact allN_head h (by decide)
  · exact allN_zero _
theorem allN_numeral (l : List UInt8) : allN l (numeralN l) := by
  unfold numeralN
  split
  · exact allN_zero _
  · exact allN_add (allN_mant l) (allN_exp _)

/-- The sign and the numeral behind the blanks. -/
theorem numeral_bytes (l : List UInt8) (b : Nat) : allN (l.drop b) (sgnN (l.drop b) + numeralN (l.drop (b + sgnN (l.drop b)))) := by
  refine allN_add (allN_sgn _) ?_
  rw [List.drop_drop]
  exact allN_numeral _

end Go.Proofs.YtdencljnbilchaaGreatDoor
