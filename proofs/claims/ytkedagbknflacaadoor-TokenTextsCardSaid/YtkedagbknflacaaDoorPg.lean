/- Plain: a text that is written with each byte as three octal digits. No program here. -/
import Derived.Test.YtkedagbknflacaaDoorPf
namespace Go.Proofs.YtkedagbknflacaaDoor

def octD (c : UInt8) : List UInt8 := [92, 48 + c / 64, 48 + c / 8 % 8, 48 + c % 8]
def octL : List UInt8 → List UInt8
  | [] => []
  | c :: r => octD c ++ octL r

theorem octL_len : ∀ l, (octL l).length = 4 * l.length
  | [] => rfl
  | c :: r => by rw [octL, List.length_append, octL_len r]; simp [octD]; omega
theorem octL_snoc : ∀ (l : List UInt8) (c : UInt8), octL (l ++ [c]) = octL l ++ octD c
  | [], c => by simp [octL]
  | d :: r, c => by rw [List.cons_append, octL, octL_snoc r c, octL, List.append_assoc]

theorem oct_d1 (c : UInt8) : (48 + c / 64).toNat = 48 + c.toNat / 64 := by
  have := c.toNat_lt; simp [UInt8.toNat_add, UInt8.toNat_div]; omega
theorem oct_d2 (c : UInt8) : (48 + c / 8 % 8).toNat = 48 + c.toNat / 8 % 8 := by
  have := c.toNat_lt; simp [UInt8.toNat_add, UInt8.toNat_div, UInt8.toNat_mod]; omega
theorem oct_d3 (c : UInt8) : (48 + c % 8).toNat = 48 + c.toNat % 8 := by
  have := c.toNat_lt; simp [UInt8.toNat_add, UInt8.toNat_mod]; omega

theorem ne_of_nat {d : UInt8} {n : Nat} (hn : n < 256) (h : d.toNat ≠ n) : d ≠ UInt8.ofNat n := fun e => h (by rw [e]; simp; omega)

theorem closeN_dig (d : UInt8) (r : List UInt8) (h1 : 48 ≤ d.toNat) (h2 : d.toNat ≤ 55) : closeN 34 (d :: r) = (closeN 34 r).map (· + 1) := by
  have a : d ≠ 10 := ne_of_nat (n := 10) (by omega) (by omega)
  have b : d ≠ 34 := ne_of_nat (n := 34) (by omega) (by omega)
  have c : d ≠ 92 := ne_of_nat (n := 92) (by omega) (by omega)
  rw [closeN.eq_def]; simp only [a, b, c, if_false]

theorem closeN_oct : ∀ (l r : List UInt8), closeN 34 (octL l ++ 34 :: r) = some (4 * l.length)
  | [], r => by rw [octL, List.nil_append, closeN.eq_def]; rfl
  | c :: l, r => by
    have hlt := c.toNat_lt
    have h1 := oct_d1 c
    have h2 := oct_d2 c
    have h3 := oct_d3 c
    have e : octL (c :: l) ++ 34 :: r = 92 :: (48 + c / 64) :: (48 + c / 8 % 8) :: (48 + c % 8) :: (octL l ++ 34 :: r) := rfl
    have n1 : (48 + c / 64) ≠ 10 := ne_of_nat (n := 10) (by omega) (by omega)
    rw [e, closeN.eq_def]
    dsimp only
    rw [if_neg (by decide), if_neg (by decide), if_pos rfl, if_neg n1, closeN_dig _ _ (by omega) (by omega), closeN_dig _ _ (by omega) (by omega), closeN_oct l r]
    simp; omega

theorem escL_octd (c : UInt8) (r : List UInt8) : escL ((48 + c / 64) :: (48 + c / 8 % 8) :: (48 + c % 8) :: r) = (c, 3) := by
  have hlt := c.toNat_lt
  have h1 := oct_d1 c
  have h2 := oct_d2 c
  have h3 := oct_d3 c
  have hx : ¬ lettersL.idxOf (48 + c / 64) < 10 := by
    intro hh
    have hm : (48 + c / 64) ∈ lettersL := List.idxOf_lt_length_iff.1 hh
    have : ∀ d ∈ lettersL, d.toNat < 48 ∨ 55 < d.toNat := by decide
    have := this _ hm
    omega
  rw [escL, if_neg hx, oct, if_pos (by omega), oct, if_pos (by omega), oct, if_pos (by omega), oct]
  dsimp only
  congr 1
  apply UInt8.toNat_inj.1
  rw [UInt8.toNat_ofNat', h1, h2, h3]
  omega

theorem dec_oct : ∀ l : List UInt8, dec (octL l) = some l
  | [] => rfl
  | c :: l => by
    have e : octL (c :: l) = 92 :: (48 + c / 64) :: (48 + c / 8 % 8) :: (48 + c % 8) :: octL l := rfl
    have h := escL_octd c (octL l)
    rw [e, dec_esc _ (by rw [h]; show 3 ≠ 0; decide), h]
    show (dec (octL l)).map (c :: ·) = _
    rw [dec_oct l]; rfl

theorem skip_oct (r : List UInt8) : skipK (34 :: r) 0 = 0 := by
  refine skipK_stop _ 0 (by simp) ?_ ?_ ?_ <;> simp <;> decide

theorem close_oct (l : List UInt8) : closeR 34 (34 :: (octL l ++ [34, 120])) (0 + 1) = ((4 * l.length + 1 : Nat) : Int) := by
  have e : (34 :: (octL l ++ [34, 120])).drop (0 + 1) = octL l ++ 34 :: [120] := rfl
  rw [closeR, e, closeN_oct]
  show ((0 + 1 + 4 * l.length : Nat) : Int) = _
  congr 1; omega
theorem inR_oct (l : List UInt8) : inR (34 :: (octL l ++ [34, 120])) (0 + 1) (4 * l.length + 1) = octL l := by
  rw [inR]
  show ((octL l ++ [34, 120])).take (4 * l.length + 1 - (0 + 1)) = _
  rw [show 4 * l.length + 1 - (0 + 1) = (octL l).length by rw [octL_len]; omega]
  simp

end Go.Proofs.YtkedagbknflacaaDoor
