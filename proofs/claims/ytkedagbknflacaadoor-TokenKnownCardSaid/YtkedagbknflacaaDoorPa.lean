/- Plain functions on bytes: what the small functions of the token and num layers compute. No program here. -/
namespace Go.Proofs.YtkedagbknflacaaDoor

def digB (c : Int) : Bool := decide (48 ≤ c) && decide (c ≤ 57)
def letB (c : Int) : Bool := (decide (65 ≤ c) && decide (c ≤ 90)) || (decide (97 ≤ c) && decide (c ≤ 122)) || decide (c = 95)
def blankB (c : Int) : Bool := (decide (9 ≤ c) && decide (c ≤ 13)) || decide (c = 32)

/-- How many bytes at the beginning meet a test. -/
def nWhile (p : UInt8 → Bool) : List UInt8 → Nat
  | [] => 0
  | c :: r => if p c then nWhile p r + 1 else 0

theorem nWhile_le (p : UInt8 → Bool) : ∀ l, nWhile p l ≤ l.length
  | [] => Nat.le_refl _
  | c :: r => by unfold nWhile; split <;> simp; exact nWhile_le p r

def isDig (c : UInt8) : Bool := digB c.toNat
def isLet (c : UInt8) : Bool := letB c.toNat
def isBlank (c : UInt8) : Bool := blankB c.toNat
def isWordC (c : UInt8) : Bool := isLet c || isDig c

theorem drop_at (l : List UInt8) (k : Nat) (h : k < l.length) : l.drop k = l[k] :: l.drop (k + 1) := List.drop_eq_getElem_cons h

theorem nWhile_yes (p : UInt8 → Bool) (l : List UInt8) (k : Nat) (h : k < l.length) (hp : p l[k] = true) : nWhile p (l.drop k) = nWhile p (l.drop (k + 1)) + 1 := by
  rw [drop_at l k h, nWhile, if_pos hp]
theorem nWhile_no (p : UInt8 → Bool) (l : List UInt8) (k : Nat) (h : k < l.length) (hp : p l[k] = false) : nWhile p (l.drop k) = 0 := by
  rw [drop_at l k h, nWhile, if_neg (by simp [hp])]
theorem nWhile_end (p : UInt8 → Bool) (l : List UInt8) (k : Nat) (h : l.length ≤ k) : nWhile p (l.drop k) = 0 := by
  rw [List.drop_eq_nil_of_le h]; rfl

/-- The words of the language; its functions; its signs of two bytes, of one. -/
def wordL : List (List UInt8) := [[66, 69, 71, 73, 78], [69, 78, 68], [69, 86, 69, 82, 89], [71, 65, 80], [102, 117, 110, 99, 116, 105, 111, 110], [105, 102], [101, 108, 115, 101], [119, 104, 105, 108, 101], [102, 111, 114], [100, 111], [98, 114, 101, 97, 107], [99, 111, 110, 116, 105, 110, 117, 101], [110, 101, 120, 116], [101, 120, 105, 116], [114, 101, 116, 117, 114, 110], [100, 101, 108, 101, 116, 101], [105, 110], [103, 101, 116, 108, 105, 110, 101], [112, 114, 105, 110, 116], [112, 114, 105, 110, 116, 102]]
def builtL : List (List UInt8) := [[108, 101, 110, 103, 116, 104], [115, 117, 98, 115, 116, 114], [105, 110, 100, 101, 120], [115, 112, 108, 105, 116], [115, 117, 98], [103, 115, 117, 98], [109, 97, 116, 99, 104], [115, 112, 114, 105, 110, 116, 102], [116, 111, 108, 111, 119, 101, 114], [116, 111, 117, 112, 112, 101, 114], [105, 110, 116], [115, 113, 114, 116], [101, 120, 112], [108, 111, 103], [115, 105, 110], [99, 111, 115], [97, 116, 97, 110, 50], [114, 97, 110, 100], [115, 114, 97, 110, 100], [101, 120, 112, 105, 114, 101]]
def twoL : List (List UInt8) := [[38, 38], [124, 124], [43, 43], [45, 45], [43, 61], [45, 61], [42, 61], [47, 61], [37, 61], [94, 61], [61, 61], [60, 61], [62, 61], [33, 61], [33, 126], [62, 62]]
def oneL : List UInt8 := [123, 125, 40, 41, 91, 93, 59, 44, 43, 45, 42, 47, 37, 94, 33, 62, 60, 124, 63, 58, 126, 36, 61]

/-- Where a text or a regular expression ends, counted from behind its first byte. -/
def closeN (q : UInt8) : List UInt8 → Option Nat
  | [] => none
  | c :: r => if c = 10 then none else if c = q then some 0 else if c = 92 then (match r with | [] => none | d :: r' => if d = 10 then none else (closeN q r').map (· + 2)) else (closeN q r).map (· + 1)

end Go.Proofs.YtkedagbknflacaaDoor
