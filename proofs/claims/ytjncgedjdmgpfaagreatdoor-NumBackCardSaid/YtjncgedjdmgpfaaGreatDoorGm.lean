/- Memory helpers: bytes that a call appends to, as a string. No program here. Plain functions on bytes: what the small functions of the token and num layers compute. No program here. Plain: what fmtEFG writes. No program here. -/
import Derived.WalkKit
import Derived.Laws.BytesArg

namespace Go
open Go.RowKit

def u8s (l : List UInt8) : List Value := l.map fun c => .int .u8 c.toNat

theorem strOfNums_u8 (l : List UInt8) : strOfNums (l.map fun c => (c.toNat : Int)) = ⟨l.toArray⟩ := by
  simp only [strOfNums, List.map_map]
  congr 2
  have : ((fun n : Int => UInt8.ofNat n.toNat) ∘ fun c : UInt8 => (c.toNat : Int)) = id := by
    funext c; simp
  rw [this, List.map_id]

theorem run_own_string {P : Program} {w : World} {base : Nat} {src dst e : TypeId} {v : Value} {l : List UInt8} (hs : P.underlying src = some (.slice e)) (he : P.underlying e = some (.int .u8)) (hd : P.underlying dst = some .string)
    (h : w.ownsRow base e 1 v l.length (u8s l)) : (convert src dst v).run P w = .ok (.string ⟨l.toArray⟩) w := by
  obtain ⟨h1, h2⟩ := h
  rcases h2 with ⟨rfl, h0⟩ | ⟨g, cap, cur, rfl, _, hg, _, _, hsz, htake⟩
  · have : l = [] := List.eq_nil_of_length_eq_zero h0
    subst this
    exact run_convert_bytes_nil w src e hs he _ _ dst hd
  · rw [← strOfNums_u8]
    refine run_convert_bytes_arg w src e hs he g 0 l.length cap _ (by simp) (fun i hi => ?_) dst hd
    have : cur.toList[i]? = (u8s l)[i]? := by
      rw [← htake, List.getElem?_take, if_pos (by omega)]
    rw [cell_of_row w g (0 + i) cur e (0, 0) hg]
    simp only [Nat.zero_add]
    rw [← Array.getElem?_toList, this]
    simp [u8s, hi]

@[go_sem] theorem run_store_float {P : Program} {w : World} {a : Addr} {m : Mode} (k : FloatKind) (b : Nat) : (store a (.float k b) m).run P w = stored P w a (.float k b) m := run_store P w a _ m rfl
@[go_sem] theorem run_store_complex {P : Program} {w : World} {a : Addr} {m : Mode} (k : FloatKind) (b c : Nat) : (store a (.complex k b c) m).run P w = stored P w a (.complex k b c) m := run_store P w a _ m rfl

theorem u8s_snoc (l : List UInt8) (c : UInt8) : u8s (l ++ [c]) = u8s l ++ [.int .u8 c.toNat] := by simp [u8s]
theorem u8s_length (l : List UInt8) : (u8s l).length = l.length := by simp [u8s]

/-- The cells of a block of five that a call has laid, in a later world that is as it was below. -/
theorem cells5 {w wx : World} {v0 v1 v2 v3 v4 : Value} {T : TypeId} (hb : Below (w.heap.size + 1) (w.alloc (.cells #[v0, v1, v2, v3, v4] T)) wx) :
    wx.cell? ⟨w.heap.size, 0, none⟩ = some v0 ∧ wx.cell? ⟨w.heap.size, 1, none⟩ = some v1 ∧ wx.cell? ⟨w.heap.size, 2, none⟩ = some v2 ∧ wx.cell? ⟨w.heap.size, 3, none⟩ = some v3 ∧ wx.cell? ⟨w.heap.size, 4, none⟩ = some v4 ∧
    wx.frozen? ⟨w.heap.size, 0, none⟩ = false ∧ wx.frozen? ⟨w.heap.size, 1, none⟩ = false ∧ wx.frozen? ⟨w.heap.size, 2, none⟩ = false ∧ wx.frozen? ⟨w.heap.size, 3, none⟩ = false ∧ wx.frozen? ⟨w.heap.size, 4, none⟩ = false := by
  have hF : ∀ j, wx.frozen? ⟨w.heap.size, j, none⟩ = false := fun j => by rw [hb.frozen (by simp)]; exact World.frozen?_alloc_at _ _ _ _ rfl
  refine ⟨?_, ?_, ?_, ?_, ?_, hF 0, hF 1, hF 2, hF 3, hF 4⟩ <;> (rw [hb.cell (by simp), World.cell?_alloc_at _ _ _ _ rfl]; rfl)

theorem own_below {w w' : World} {B : Nat} {e : TypeId} {sz n : Nat} {v : Value} {xs : List Value} (h : w.ownsRow B e sz v n xs) (hb : Below w.heap.size w w') : w'.ownsRow B e sz v n xs :=
  h.kept (row := none) ⟨hb.os, hb.tape, hb.output, hb.size, fun k hk _ => hb.block k hk⟩ (by cases v.ownBlock <;> simp)

theorem below_set5 {w wx : World} {o : Obj} (hb : Below (w.heap.size + 1) (w.alloc o) wx) (v0 v1 v2 v3 v4 : Value) :
    Below w.heap.size w (((((wx.setCell ⟨w.heap.size, 0, none⟩ v0).setCell ⟨w.heap.size, 1, none⟩ v1).setCell ⟨w.heap.size, 2, none⟩ v2).setCell ⟨w.heap.size, 3, none⟩ v3).setCell ⟨w.heap.size, 4, none⟩ v4) :=
  ((((((((Below.refl _ _).alloc (Nat.le_refl _) _).trans (hb.mono (by omega))).setCell (p := ⟨w.heap.size, 0, none⟩) (Nat.le_refl _) _)).setCell (p := ⟨w.heap.size, 1, none⟩) (Nat.le_refl _) _).setCell (p := ⟨w.heap.size, 2, none⟩) (Nat.le_refl _) _).setCell (p := ⟨w.heap.size, 3, none⟩) (Nat.le_refl _) _).setCell (p := ⟨w.heap.size, 4, none⟩) (Nat.le_refl _) _

theorem app_step {W wr w1 : World} {B : Nat} {e : TypeId} {v v' : Value} {acc : List UInt8} {c : UInt8} {o : Obj} (hown : wr.ownsRow B e 1 v acc.length (u8s acc)) (hb : Below B W wr) (hB : B ≤ wr.heap.size)
    (hown' : w1.ownsRow B e 1 v' (acc.length + 1) (u8s acc ++ [.int .u8 c.toNat])) (hg : (wr.alloc o).grownBy w1 v.ownBlock) :
    w1.ownsRow B e 1 v' (acc ++ [c]).length (u8s (acc ++ [c])) ∧ Below B W w1 :=
  ⟨by rw [u8s_snoc]; simpa using hown', (hb.alloc hB o).grown hg (by simp; omega) (fun j hj => (hown.lt j hj).1)⟩

end Go

namespace Go.Proofs.YtjncgedjdmgpfaaGreatDoor

def digB (c : Int) : Bool := decide (48 ≤ c) && decide (c ≤ 57)
def letB (c : Int) : Bool := (decide (65 ≤ c) && decide (c ≤ 90)) || (decide (97 ≤ c) && decide (c ≤ 122)) || decide (c = 95)
def blankB (c : Int) : Bool := (decide (9 ≤ c) && decide (c ≤ 13)) || decide (c = 32)

/-- How many bytes at the beginning meet a test. -/
def nWhile (p : UInt8 → Bool) : List UInt8 → Nat
  | [] => 0
  | c :: r => if p c then nWhile p r + 1 else 0

theorem nWhile_le (p : UInt8 → Bool) : ∀ l, nWhile p l ≤ l.length
  | [] => Nat.le_refl _
  | c :: r => by unfold nWhile; split <;> simp; exact nWhile_le p r

def isDig (c : UInt8) : Bool := digB c.toNat
def isLet (c : UInt8) : Bool := letB c.toNat
def isBlank (c : UInt8) : Bool := blankB c.toNat
def isWordC (c : UInt8) : Bool := isLet c || isDig c

theorem drop_at (l : List UInt8) (k : Nat) (h : k < l.length) : l.drop k = l[k] :: l.drop (k + 1) := List.drop_eq_getElem_cons h

theorem nWhile_yes (p : UInt8 → Bool) (l : List UInt8) (k : Nat) (h : k < l.length) (hp : p l[k] = true) : nWhile p (l.drop k) = nWhile p (l.drop (k + 1)) + 1 := by
  rw [drop_at l k h, nWhile, if_pos hp]
theorem nWhile_no (p : UInt8 → Bool) (l : List UInt8) (k : Nat) (h : k < l.length) (hp : p l[k] = false) : nWhile p (l.drop k) = 0 := by
  rw [drop_at l k h, nWhile, if_neg (by simp [hp])]
theorem nWhile_end (p : UInt8 → Bool) (l : List UInt8) (k : Nat) (h : l.length ≤ k) : nWhile p (l.drop k) = 0 := by
  rw [List.drop_eq_nil_of_le h]; rfl

/-- The words of the language; its functions; its signs of two bytes, of one. -/
def wordL : List (List UInt8) := [[66, 69, 71, 73, 78], [69, 78, 68], [69, 86, 69, 82, 89], [71, 65, 80], [102, 117, 110, 99, 116, 105, 111, 110], [105, 102], [101, 108, 115, 101], [119, 104, 105, 108, 101], [102, 111, 114], [100, 111], [98, 114, 101, 97, 107], [99, 111, 110, 116, 105, 110, 117, 101], [110, 101, 120, 116], [101, 120, 105, 116], [114, 101, 116, 117, 114, 110], [100, 101, 108, 101, 116, 101], [105, 110], [103, 101, 116, 108, 105, 110, 101], [112, 114, 105, 110, 116], [112, 114, 105, 110, 116, 102]]
def builtL : List (List UInt8) := [[108, 101, 110, 103, 116, 104], [115, 117, 98, 115, 116, 114], [105, 110, 100, 101, 120], [115, 112, 108, 105, 116], [115, 117, 98], [103, 115, 117, 98], [109, 97, 116, 99, 104], [115, 112, 114, 105, 110, 116, 102], [116, 111, 108, 111, 119, 101, 114], [116, 111, 117, 112, 112, 101, 114], [105, 110, 116], [115, 113, 114, 116], [101, 120, 112], [108, 111, 103], [115, 105, 110], [99, 111, 115], [97, 116, 97, 110, 50], [114, 97, 110, 100], [115, 114, 97, 110, 100], [101, 120, 112, 105, 114, 101]]
def twoL : List (List UInt8) := [[38, 38], [124, 124], [43, 43], [45, 45], [43, 61], [45, 61], [42, 61], [47, 61], [37, 61], [94, 61], [61, 61], [60, 61], [62, 61], [33, 61], [33, 126], [62, 62]]
def oneL : List UInt8 := [123, 125, 40, 41, 91, 93, 59, 44, 43, 45, 42, 47, 37, 94, 33, 62, 60, 124, 63, 58, 126, 36, 61]

/-- Where a text or a regular expression ends, counted from behind its first byte. -/
def closeN (q : UInt8) : List UInt8 → Option Nat
  | [] => none
  | c :: r => if c = 10 then none else if c = q then some 0 else if c = 92 then (match r with | [] => none | d :: r' => if d = 10 then none else (closeN q r').map (· + 2)) else (closeN q r).map (· + 1)

end Go.Proofs.YtjncgedjdmgpfaaGreatDoor

namespace Go.Proofs.YtjncgedjdmgpfaaGreatDoor

def digsL (f : Nat → Nat) (i n : Nat) : List UInt8 := (List.range n).map fun k => UInt8.ofNat (f (i + k))
def zerosL (n : Nat) : List UInt8 := List.replicate n 48
theorem digsL_zero (f : Nat → Nat) (i : Nat) : digsL f i 0 = [] := rfl
theorem digsL_succ (f : Nat → Nat) (i n : Nat) : digsL f i (n + 1) = digsL f i n ++ [UInt8.ofNat (f (i + n))] := by simp [digsL, List.range_succ]
theorem digsL_len (f : Nat → Nat) (i n : Nat) : (digsL f i n).length = n := by simp [digsL]
theorem zerosL_succ (n : Nat) : zerosL (n + 1) = zerosL n ++ [48] := by unfold zerosL; rw [← List.replicate_succ']
theorem zerosL_len (n : Nat) : (zerosL n).length = n := by simp [zerosL]

theorem lenS : (∀ (a b : List UInt8), (a ++ b).length = a.length + b.length) ∧ (∀ (c : UInt8) (l : List UInt8), (c :: l).length = l.length + 1) ∧ ([] : List UInt8).length = 0 ∧ (∀ f i n, (digsL f i n).length = n) ∧ (∀ n, (zerosL n).length = n) :=
  ⟨fun _ _ => List.length_append, fun _ _ => rfl, rfl, digsL_len, zerosL_len⟩

def sgnL (ng : Bool) : List UInt8 := if ng = true then [45] else []

theorem sgnL_len (ng : Bool) : (sgnL ng).length ≤ 1 := by unfold sgnL; split <;> simp

/-- An exponent's digits: two or three. -/
def expL (e : Nat) : List UInt8 :=
  if e < 10 then [48, UInt8.ofNat (e + 48)] else if e < 100 then [UInt8.ofNat (e / 10 + 48), UInt8.ofNat (e % 10 + 48)] else [UInt8.ofNat (e / 100 + 48), UInt8.ofNat (e / 10 % 10 + 48), UInt8.ofNat (e % 10 + 48)]

/-- The exponent, with its letter and its sign. -/
def expoL (ec : Nat) (e : Int) : List UInt8 := [UInt8.ofNat ec, if e < 0 then 45 else 43] ++ expL e.natAbs

def mantE (f : Nat → Nat) (nd : Nat) (prec : Int) : List UInt8 :=
  [if nd = 0 then 48 else UInt8.ofNat (f 0)] ++
    (if 0 < prec then [46] ++ digsL f 1 (min nd (prec.toNat + 1) - 1) ++ zerosL (prec.toNat + 1 - max 1 (min nd (prec.toNat + 1))) else [])

def fmtE (ng : Bool) (f : Nat → Nat) (nd : Nat) (dp prec : Int) (ec : Nat) : List UInt8 :=
  sgnL ng ++ mantE f nd prec ++ expoL ec (if nd = 0 then 0 else dp - 1)

def wholeL (f : Nat → Nat) (nd : Nat) (dp : Int) : List UInt8 := if 0 < dp then digsL f 0 (min nd dp.toNat) ++ zerosL (dp.toNat - min nd dp.toNat) else [48]
def lzN (dp prec : Int) : Nat := min prec.toNat (-dp).toNat
def midN (nd : Nat) (dp prec : Int) : Nat := min (prec.toNat - lzN dp prec) (nd - (dp + lzN dp prec).toNat)
def fracL (f : Nat → Nat) (nd : Nat) (dp prec : Int) : List UInt8 :=
  if 0 < prec then [46] ++ zerosL (lzN dp prec) ++ digsL f (dp + lzN dp prec).toNat (midN nd dp prec) ++ zerosL (prec.toNat - lzN dp prec - midN nd dp prec) else []

def fmtF (ng : Bool) (f : Nat → Nat) (nd : Nat) (dp prec : Int) : List UInt8 := sgnL ng ++ wholeL f nd dp ++ fracL f nd dp prec

/-- Is %e used for %g? -/
def gE (nd : Nat) (dp prec : Int) (sh : Bool) : Bool :=
  decide (dp - 1 < -4) || decide ((if sh = true then 6 else if prec > nd ∧ (nd : Int) ≥ dp then (nd : Int) else prec) ≤ dp - 1)

def fmtL (ng : Bool) (f : Nat → Nat) (nd : Nat) (dp prec : Int) (fmt : Nat) (sh : Bool) : List UInt8 :=
  if fmt = 103 ∨ fmt = 71 then
    (if gE nd dp prec sh = true then fmtE ng f nd dp (min prec nd - 1) (fmt - 2) else fmtF ng f nd dp (max ((if prec > dp then (nd : Int) else prec) - dp) 0))
  else if fmt = 102 then fmtF ng f nd dp prec
  else fmtE ng f nd dp prec fmt

end Go.Proofs.YtjncgedjdmgpfaaGreatDoor
