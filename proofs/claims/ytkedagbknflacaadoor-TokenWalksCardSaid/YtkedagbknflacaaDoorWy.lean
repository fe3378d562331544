/- What a next token's places are. Plain: a text that is written with each byte as three octal digits. No program here. -/
import Derived.Test.YtkedagbknflacaaDoorWo
import Derived.Test.YtkedagbknflacaaDoorWc

namespace Go.Proofs.YtkedagbknflacaaDoor
open Go.RowKit

/-- What Next answers, from a place k behind the blanks: a fault there; the end; or a token that is not empty. -/
def NxOk (l : List UInt8) (k : Nat) (V : Value) : Prop :=
  ∃ (kd : Int) (tx : List UInt8) (nm f t : Nat) (e : Int), V = .tuple #[tokV kd tx nm f t, .int .i64 e] ∧ k ≤ f ∧
    ((e ≠ 0 ∧ f < l.length ∧ t = 0 ∧ kd = 0 ∧ tx = []) ∨ (e = 0 ∧ kd = 0 ∧ f = l.length ∧ t = l.length) ∨ (e = 0 ∧ kd ≠ 0 ∧ f < t ∧ t ≤ l.length))

theorem nextV_ok (l : List UInt8) (op : Bool) (nv : Value) (k : Nat) (hk : k ≤ l.length) (hn : numStart l k → NxOk l k nv) : NxOk l k (nextV l op nv k) := by
  unfold nextV
  by_cases hl : k < l.length
  · rw [drop_at l k hl]
    dsimp only
    have bad : ∀ e : Int, e ≠ 0 → NxOk l k (.tuple #[tokV 0 [] 0 k 0, .int .i64 e]) := fun e he => ⟨0, [], 0, k, 0, e, rfl, Nat.le_refl _, .inl ⟨he, hl, rfl, rfl, rfl⟩⟩
    have good : ∀ (kd : Int) (tx : List UInt8) (t : Nat), kd ≠ 0 → k < t → t ≤ l.length → NxOk l k (.tuple #[tokV kd tx 0 k t, .int .i64 0]) := fun kd tx t h1 h2 h3 => ⟨kd, tx, 0, k, t, 0, rfl, Nat.le_refl _, .inr (.inr ⟨rfl, h1, h2, h3⟩)⟩
    split
    · exact good 1 [] (k + 1) (by omega) (by omega) (by omega)
    · split
      · rename_i h
        refine hn ⟨hl, h.elim .inl fun h => .inr ⟨h.1, ?_⟩⟩
        by_cases h2 : k + 1 < l.length
        · refine ⟨h2, ?_⟩
          have := h.2
          rw [drop_at l (k + 1) h2] at this
          exact Option.some.inj this
        · have := h.2
          rw [List.drop_eq_nil_of_le (by omega)] at this
          simp at this
      · split
        · rename_i h
          unfold wordV
          have h1 : 0 < nWhile isWordC (l.drop k) := by
            rw [drop_at l k hl, nWhile, if_pos (by simp [isWordC, h])]; omega
          have h2 := nWhile_le isWordC (l.drop k)
          rw [List.length_drop] at h2
          refine good _ _ _ ?_ (by unfold wordEnd; omega) (by unfold wordEnd; omega)
          unfold wordKind; repeat' split
          all_goals omega
        · split
          · unfold textV
            dsimp only
            split
            · exact bad 21 (by omega)
            · rename_i ht
              obtain ⟨t, et⟩ : ∃ t : Nat, closeR 34 l (k + 1) = t := ⟨(closeR 34 l (k + 1)).toNat, by omega⟩
              have hb := closeR_bd 34 l (k + 1) t et
              rw [et]
              split
              · exact bad 22 (by omega)
              · exact good 3 _ (t + 1) (by omega) (by omega) (by omega)
          · split
            · unfold regexV
              dsimp only
              split
              · exact bad 21 (by omega)
              · obtain ⟨t, et⟩ : ∃ t : Nat, closeR 47 l (k + 1) = t := ⟨(closeR 47 l (k + 1)).toNat, by omega⟩
                have hb := closeR_bd 47 l (k + 1) t et
                rw [et]
                exact good 4 _ (t + 1) (by omega) (by omega) (by omega)
            · split
              · rename_i h
                have h2 := signN_le (l.drop k)
                rw [List.length_drop, drop_at l k hl] at h2
                exact good 9 _ _ (by omega) (by omega) (by omega)
              · exact bad 20 (by omega)
  · rw [List.drop_eq_nil_of_le (by omega)]
    exact ⟨0, [], 0, k, k, 0, rfl, Nat.le_refl _, .inr (.inl ⟨rfl, rfl, by omega, by omega⟩)⟩

end Go.Proofs.YtkedagbknflacaaDoor

namespace Go.Proofs.YtkedagbknflacaaDoor

def octD (c : UInt8) : List UInt8 := [92, 48 + c / 64, 48 + c / 8 % 8, 48 + c % 8]
def octL : List UInt8 → List UInt8
  | [] => []
  | c :: r => octD c ++ octL r

theorem octL_len : ∀ l, (octL l).length = 4 * l.length
  | [] => rfl
  | c :: r => by rw [octL, List.length_append, octL_len r]; simp [octD]; omega
theorem octL_snoc : ∀ (l : List UInt8) (c : UInt8), octL (l ++ [c]) = octL l ++ octD c
  | [], c => by simp [octL]
  | d :: r, c => by rw [List.cons_append, octL, octL_snoc r c, octL, List.append_assoc]

theorem oct_d1 (c : UInt8) : (48 + c / 64).toNat = 48 + c.toNat / 64 := by
  have := c.toNat_lt; simp [UInt8.toNat_add, UInt8.toNat_div]; omega
theorem oct_d2 (c : UInt8) : (48 + c / 8 % 8).toNat = 48 + c.toNat / 8 % 8 := by
  have := c.toNat_lt; simp [UInt8.toNat_add, UInt8.toNat_div, UInt8.toNat_mod]; omega
theorem oct_d3 (c : UInt8) : (48 + c % 8).toNat = 48 + c.toNat % 8 := by
  have := c.toNat_lt; simp [UInt8.toNat_add, UInt8.toNat_mod]; omega

theorem ne_of_nat {d : UInt8} {n : Nat} (hn : n < 256) (h : d.toNat ≠ n) : d ≠ UInt8.ofNat n := fun e => h (by rw [e]; simp; omega)

theorem closeN_dig (d : UInt8) (r : List UInt8) (h1 : 48 ≤ d.toNat) (h2 : d.toNat ≤ 55) : closeN 34 (d :: r) = (closeN 34 r).map (· + 1) := by
  have a : d ≠ 10 := ne_of_nat (n := 10) (by omega) (by omega)
  have b : d ≠ 34 := ne_of_nat (n := 34) (by omega) (by omega)
  have c : d ≠ 92 := ne_of_nat (n := 92) (by omega) (by omega)
  rw [closeN.eq_def]; simp only [a, b, c, if_false]

theorem closeN_oct : ∀ (l r : List UInt8), closeN 34 (octL l ++ 34 :: r) = some (4 * l.length)
  | [], r => by rw [octL, List.nil_append, closeN.eq_def]; rfl
  | c :: l, r => by
    have hlt := c.toNat_lt
    have h1 := oct_d1 c
    have h2 := oct_d2 c
    have h3 := oct_d3 c
    have e : octL (c :: l) ++ 34 :: r = 92 :: (48 + c / 64) :: (48 + c / 8 % 8) :: (48 + c % 8) :: (octL l ++ 34 :: r) := rfl
    have n1 : (48 + c / 64) ≠ 10 := ne_of_nat (n := 10) (by omega) (by omega)
    rw [e, closeN.eq_def]
    dsimp only
    rw [if_neg (by decide), if_neg (by decide), if_pos rfl, if_neg n1, closeN_dig _ _ (by omega) (by omega), closeN_dig _ _ (by omega) (by omega), closeN_oct l r]
    simp; omega

theorem escL_octd (c : UInt8) (r : List UInt8) : escL ((48 + c / 64) :: (48 + c / 8 % 8) :: (48 + c % 8) :: r) = (c, 3) := by
  have hlt := c.toNat_lt
  have h1 := oct_d1 c
  have h2 := oct_d2 c
  have h3 := oct_d3 c
  have hx : ¬ lettersL.idxOf (48 + c / 64) < 10 := by
    intro hh
    have hm : (48 + c / 64) ∈ lettersL := List.idxOf_lt_length_iff.1 hh
    have : ∀ d ∈ lettersL, d.toNat < 48 ∨ 55 < d.toNat := by decide
    have := this _ hm
    omega
  rw [escL, if_neg hx, oct, if_pos (by omega), oct, if_pos (by omega), oct, if_pos (by omega), oct]
  dsimp only
  congr 1
  apply UInt8.toNat_inj.1
  rw [UInt8.toNat_ofNat', h1, h2, h3]
  omega

theorem dec_oct : ∀ l : List UInt8, dec (octL l) = some l
  | [] => rfl
  | c :: l => by
    have e : octL (c :: l) = 92 :: (48 + c / 64) :: (48 + c / 8 % 8) :: (48 + c % 8) :: octL l := rfl
    have h := escL_octd c (octL l)
    rw [e, dec_esc _ (by rw [h]; show 3 ≠ 0; decide), h]
    show (dec (octL l)).map (c :: ·) = _
    rw [dec_oct l]; rfl

theorem skip_oct (r : List UInt8) : skipK (34 :: r) 0 = 0 := by
  refine skipK_stop _ 0 (by simp) ?_ ?_ ?_ <;> simp <;> decide

theorem close_oct (l : List UInt8) : closeR 34 (34 :: (octL l ++ [34, 120])) (0 + 1) = ((4 * l.length + 1 : Nat) : Int) := by
  have e : (34 :: (octL l ++ [34, 120])).drop (0 + 1) = octL l ++ 34 :: [120] := rfl
  rw [closeR, e, closeN_oct]
  show ((0 + 1 + 4 * l.length : Nat) : Int) = _
  congr 1; omega
theorem inR_oct (l : List UInt8) : inR (34 :: (octL l ++ [34, 120])) (0 + 1) (4 * l.length + 1) = octL l := by
  rw [inR]
  show ((octL l ++ [34, 120])).take (4 * l.length + 1 - (0 + 1)) = _
  rw [show 4 * l.length + 1 - (0 + 1) = (octL l).length by rw [octL_len]; omega]
  simp

end Go.Proofs.YtkedagbknflacaaDoor
