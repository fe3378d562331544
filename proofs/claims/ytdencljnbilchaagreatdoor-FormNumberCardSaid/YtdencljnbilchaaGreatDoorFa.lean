/- Plain: what fmtEFG writes. No program here. -/
import Derived.Test.YtdencljnbilchaaGreatDoorPa

namespace Go.Proofs.YtdencljnbilchaaGreatDoor

def digsL (f : Nat → Nat) (i n : Nat) : List UInt8 := (List.range n).map fun k => UInt8.ofNat (f (i + k))
def zerosL (n : Nat) : List UInt8 := List.replicate n 48
theorem digsL_zero (f : Nat → Nat) (i : Nat) : digsL f i 0 = [] := rfl
theorem digsL_succ (f : Nat → Nat) (i n : Nat) : digsL f i (n + 1) = digsL f i n ++ [UInt8.ofNat (f (i + n))] := by simp [digsL, List.range_succ]
theorem digsL_len (f : Nat → Nat) (i n : Nat) : (digsL f i n).length = n := by simp [digsL]
theorem zerosL_succ (n : Nat) : zerosL (n + 1) = zerosL n ++ [48] := by unfold zerosL; rw [← List.replicate_succ']
theorem zerosL_len (n : Nat) : (zerosL n).length = n := by simp [zerosL]

theorem lenS : (∀ (a b : List UInt8), (a ++ b).length = a.length + b.length) ∧ (∀ (c : UInt8) (l : List UInt8), (c :: l).length = l.length + 1) ∧ ([] : List UInt8).length = 0 ∧ (∀ f i n, (digsL f i n).length = n) ∧ (∀ n, (zerosL n).length = n) :=
  ⟨fun _ _ => List.length_append, fun _ _ => rfl, rfl, digsL_len, zerosL_len⟩

def sgnL (ng : Bool) : List UInt8 := if ng = true then [45] else []

theorem sgnL_len (ng : Bool) : (sgnL ng).length ≤ 1 := by unfold sgnL; split <;> simp

/-- An exponent's digits: two or three. -/
def expL (e : Nat) : List UInt8 :=
  if e < 10 then [48, UInt8.ofNat (e + 48)] else if e < 100 then [UInt8.ofNat (e / 10 + 48), UInt8.ofNat (e % 10 + 48)] else [UInt8.ofNat (e / 100 + 48), UInt8.ofNat (e / 10 % 10 + 48), UInt8.ofNat (e % 10 + 48)]

/-- The exponent, with its letter and its sign. -/
def expoL (ec : Nat) (e : Int) : List UInt8 := [UInt8.ofNat ec, if e < 0 then 45 else 43] ++ expL e.natAbs

def mantE (f : Nat → Nat) (nd : Nat) (prec : Int) : List UInt8 :=
  [if nd = 0 then 48 else UInt8.ofNat (f 0)] ++
    (if 0 < prec then [46] ++ digsL f 1 (min nd (prec.toNat + 1) - 1) ++ zerosL (prec.toNat + 1 - max 1 (min nd (prec.toNat + 1))) else [])

def fmtE (ng : Bool) (f : Nat → Nat) (nd : Nat) (dp prec : Int) (ec : Nat) : List UInt8 :=
  sgnL ng ++ mantE f nd prec ++ expoL ec (if nd = 0 then 0 else dp - 1)

def wholeL (f : Nat → Nat) (nd : Nat) (dp : Int) : List UInt8 := if 0 < dp then digsL f 0 (min nd dp.toNat) ++ zerosL (dp.toNat - min nd dp.toNat) else [48]
def lzN (dp prec : Int) : Nat := min prec.toNat (-dp).toNat
def midN (nd : Nat) (dp prec : Int) : Nat := min (prec.toNat - lzN dp prec) (nd - (dp + lzN dp prec).toNat)
def fracL (f : Nat → Nat) (nd : Nat) (dp prec : Int) : List UInt8 :=
  if 0 < prec then [46] ++ zerosL (lzN dp prec) ++ digsL f (dp + lzN dp prec).toNat (midN nd dp prec) ++ zerosL (prec.toNat - lzN dp prec - midN nd dp prec) else []

def fmtF (ng : Bool) (f : Nat → Nat) (nd : Nat) (dp prec : Int) : List UInt8 := sgnL ng ++ wholeL f nd dp ++ fracL f nd dp prec

/-- Is %e used for %g? -/
def gE (nd : Nat) (dp prec : Int) (sh : Bool) : Bool :=
  decide (dp - 1 < -4) || decide ((if sh = true then 6 else if prec > nd ∧ (nd : Int) ≥ dp then (nd : Int) else prec) ≤ dp - 1)

def fmtL (ng : Bool) (f : Nat → Nat) (nd : Nat) (dp prec : Int) (fmt : Nat) (sh : Bool) : List UInt8 :=
  if fmt = 103 ∨ fmt = 71 then
    (if gE nd dp prec sh = true then fmtE ng f nd dp (min prec nd - 1) (fmt - 2) else fmtF ng f nd dp (max ((if prec > dp then (nd : Int) else prec) - dp) 0))
  else if fmt = 102 then fmtF ng f nd dp prec
  else fmtE ng f nd dp prec fmt

end Go.Proofs.YtdencljnbilchaaGreatDoor
