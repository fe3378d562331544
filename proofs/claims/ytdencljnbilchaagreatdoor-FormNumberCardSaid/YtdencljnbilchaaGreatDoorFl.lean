/- fmtEFG whole; FormatFloat over ftoa64. Formats of printf: what needs no numbers. No walk here. -/
import Derived.Test.YtdencljnbilchaaGreatDoorFc
import Derived.Test.YtdencljnbilchaaGreatDoorFd
import Derived.WideLaws
import Derived.OwnWalk
import Derived.Test.YtdencljnbilchaaGreatDoorPa
import Derived.Test.YtdencljnbilchaaGreatDoorFa

namespace Go.Proofs.YtdencljnbilchaaGreatDoor
open Go.RowKit

theorem fmtEFG_any (w : World) (bd : Nat) (v sv : Value) (acc : List UInt8) (ng sh : Bool) (f : Nat → Nat) (nd : Nat) (dp prec : Int) (fmt : Nat)
    (hv : RowAt w 5 v bd (u8s acc)) (hacc : acc.length ≤ 1000) (hsv : digSrc w bd sv f nd dp) (hf : ∀ i, f i < 256) (hfmt : fmt = 101 ∨ fmt = 69 ∨ fmt = 102 ∨ fmt = 103 ∨ fmt = 71)
    (hnd : nd ≤ 1000) (hd1 : -900 ≤ dp) (hd2 : dp ≤ 900) (hp1 : 0 ≤ prec) (hp2 : prec ≤ 1000) :
    Calls Tryz.prog 87 #[v, .bool ng, sv, .int .i64 dp, .int .i64 nd, .int .i64 prec, .int .u8 fmt, .bool sh] w fun e w' => ∃ v', e = .returned v' ∧ App w 5 bd v' w' (acc ++ fmtL ng f nd dp prec fmt sh) := by
  by_cases h : g6 nd dp prec fmt sh = 102
  · exact fmtEFG_F w bd v sv acc ng sh f nd dp prec fmt hv hacc hsv hf hfmt hnd hd1 hd2 hp1 h hp2
  · exact fmtEFG_E w bd v sv acc ng sh f nd dp prec fmt hv hacc hsv hf hfmt hnd hd1 hd2 hp1 h hp2

theorem RowAt.of_own {w : World} {B g cap : Nat} {e : TypeId} {xs : List Value} (h : w.ownsRow B e 1 (.slice (some ⟨g, 0, none⟩) xs.length cap) xs.length xs) : RowAt w e (.slice (some ⟨g, 0, none⟩) xs.length cap) g xs := by
  rcases h.2 with ⟨h0, _⟩ | ⟨g', cap', cur, hv, _, hg, hn, hc, hs, ht⟩
  · cases h0
  · cases hv
    exact ⟨cap, cur, rfl, hg, hn, hc, by simpa using hs, by simpa using ht⟩

set_option maxRecDepth 100000 in
set_option maxHeartbeats 1600000 in
/-- FormatFloat, where ftoa64 writes T whatever the world. -/
theorem format_of (x fmt : Nat) (prec : Int) (T : List UInt8) (w : World) (hp1 : -1 ≤ prec) (hp2 : prec ≤ 1000) (_hT : T.length ≤ 9223372036854775807)
    (hF : ∀ (W : World) (v : Value) (bd : Nat), Below w.heap.size w W → w.heap.size ≤ bd → RowAt W 5 v bd [] → Calls Tryz.prog 68 #[v, .float .f64 x, .int .u8 fmt, .int .i64 prec] W fun e w' => ∃ v', e = .returned v' ∧ App W 5 bd v' w' T) :
    Calls Tryz.prog 49 #[.float .f64 x, .int .u8 fmt, .int .i64 prec, .int .i64 64] w fun e w' => e = .returned (.string ⟨T.toArray⟩) ∧ Below w.heap.size w w' := by
  obtain ⟨i0, hi0, hz0, hz1, hz2⟩ := info_parts Tryz.info_u8'
  have HF := Lib.hid hF
  clear hF
  have key : ∀ (C : Nat), C ≤ 2000 → ((24 ≤ prec + 4 ∧ prec + 4 = (C : Int)) ∨ (¬ 24 ≤ prec + 4 ∧ C = 24)) → Calls Tryz.prog 49 #[.float .f64 x, .int .u8 fmt, .int .i64 prec, .int .i64 64] w fun e w' => e = .returned (.string ⟨T.toArray⟩) ∧ Below w.heap.size w w' := by
    intro C hC hc
    rcases hc with ⟨h1, h2⟩ | ⟨h1, rfl⟩
    · go_enter Tryz.func49, Tryz.ntmps49
      go_wp2_with (first
        | (at_make; refine wpList_make_own _ rfl _ _ 33 rfl w.heap.size 5 i0 (.int .u8 0) 1 Tryz.underlying33 hi0 hz0 hz1 _ _ _ C rfl rfl (by omega) (by rw [hz2]; omega) (by unfold maxLen; omega) (Nat.le_refl _) ?_; intro w1 hown hgrow; have hb1 : Below w.heap.size w w1 := ⟨hgrow.os, hgrow.tape, hgrow.output, hgrow.size, fun k hk => hgrow.block k hk (by simp)⟩; have hrow : RowAt w1 5 (.slice (some ⟨w.heap.size, 0, none⟩) 0 C) w.heap.size [] := RowAt.of_own (xs := []) hown)
        | (go_at_call 68; refine (HF.out w1 _ w.heap.size hb1 (Nat.le_refl _) hrow).mono ?_; rintro e w2 ⟨v', rfl, hA⟩; obtain ⟨g, hr, hg, hgr⟩ := hA; have hconv := run_own_string (P := Tryz.prog) Tryz.underlying33 Tryz.underlying5 Tryz.underlying9 (l := T) (base := 0) (by have h9 := hr.own 0 (Nat.zero_le _); rwa [u8s_length] at h9)))
      go_ret
      exact ⟨rfl, ⟨hgr.os.trans hb1.os, hgr.tape.trans hb1.tape, hgr.output.trans hb1.output, Nat.le_trans hb1.size hgr.size, fun k hk => (hgr.block k (Nat.lt_of_lt_of_le hk hb1.size) (fun e => by have := Option.some.inj e; omega)).trans (hb1.block k hk)⟩⟩
    · go_enter Tryz.func49, Tryz.ntmps49
      go_wp2_with (first
        | (at_make; refine wpList_make_own _ rfl _ _ 33 rfl w.heap.size 5 i0 (.int .u8 0) 1 Tryz.underlying33 hi0 hz0 hz1 _ _ _ 24 rfl rfl (by omega) (by rw [hz2]; omega) (by unfold maxLen; omega) (Nat.le_refl _) ?_; intro w1 hown hgrow; have hb1 : Below w.heap.size w w1 := ⟨hgrow.os, hgrow.tape, hgrow.output, hgrow.size, fun k hk => hgrow.block k hk (by simp)⟩; have hrow : RowAt w1 5 (.slice (some ⟨w.heap.size, 0, none⟩) 0 24) w.heap.size [] := RowAt.of_own (xs := []) hown)
        | (go_at_call 68; refine (HF.out w1 _ w.heap.size hb1 (Nat.le_refl _) hrow).mono ?_; rintro e w2 ⟨v', rfl, hA⟩; obtain ⟨g, hr, hg, hgr⟩ := hA; have hconv := run_own_string (P := Tryz.prog) Tryz.underlying33 Tryz.underlying5 Tryz.underlying9 (l := T) (base := 0) (by have h9 := hr.own 0 (Nat.zero_le _); rwa [u8s_length] at h9)))
      go_ret
      exact ⟨rfl, ⟨hgr.os.trans hb1.os, hgr.tape.trans hb1.tape, hgr.output.trans hb1.output, Nat.le_trans hb1.size hgr.size, fun k hk => (hgr.block k (Nat.lt_of_lt_of_le hk hb1.size) (fun e => by have := Option.some.inj e; omega)).trans (hb1.block k hk)⟩⟩
  by_cases h : 24 ≤ prec + 4
  · exact key (prec + 4).toNat (by omega) (.inl ⟨h, by omega⟩)
  · exact key 24 (by omega) (.inr ⟨h, rfl⟩)

end Go.Proofs.YtdencljnbilchaaGreatDoor

namespace Go.Proofs.YtdencljnbilchaaGreatDoor

structure FArg where
  n : Nat
  s : List UInt8
  num : Bool

/-- A conversion: its flags, its width, its precision (below nought: none), its letter. -/
structure FConv where
  left : Bool
  plus : Bool
  blank : Bool
  zero : Bool
  width : Nat
  prec : Int
  c : UInt8

def signT (plus blank below : Bool) : List UInt8 := if below = true then [45] else if plus = true then [43] else if blank = true then [32] else []

def blanksL (n : Nat) : List UInt8 := List.replicate n 32

/-- Filled to its width. -/
def fillT (left zero nou : Bool) (width : Nat) (sign body : List UInt8) : List UInt8 :=
  if width ≤ sign.length + body.length then sign ++ body
  else if left = true then sign ++ (body ++ blanksL (width - (sign.length + body.length)))
  else if (zero && nou) = true then sign ++ (zerosL (width - (sign.length + body.length)) ++ body)
  else blanksL (width - (sign.length + body.length)) ++ (sign ++ body)

def upL (l : List UInt8) : List UInt8 := l.map fun c => if 97 ≤ c ∧ c ≤ 122 then c - 32 else c

def isWholeC (c : UInt8) : Bool := c = 100 || c = 105 || c = 117 || c = 111 || c = 120 || c = 88

-- the text of a format

def isFlag (c : UInt8) : Bool := c = 45 || c = 43 || c = 32 || c = 48
def isLetter (c : UInt8) : Bool := isWholeC c || c = 102 || c = 70 || c = 101 || c = 69 || c = 103 || c = 71 || c = 99 || c = 115

/-- Digits as a number that stops just above 200. -/
def satN (D : List UInt8) : Nat := D.foldl (fun n c => min (10 * n + (c.toNat - 48)) 201) 0
/-- The reference's. -/
def satM (D : List UInt8) : Nat := D.foldl (fun n c => min 1000000 (10 * n + (c.toNat - 48))) 0

theorem sat_both : ∀ (D : List UInt8) (a b : Nat), (a = b ∧ a ≤ 200) ∨ (a = 201 ∧ 200 < b) →
    (D.foldl (fun n c => min (10 * n + (c.toNat - 48)) 201) a = D.foldl (fun n c => min 1000000 (10 * n + (c.toNat - 48))) b ∧ D.foldl (fun n c => min (10 * n + (c.toNat - 48)) 201) a ≤ 200) ∨
    (D.foldl (fun n c => min (10 * n + (c.toNat - 48)) 201) a = 201 ∧ 200 < D.foldl (fun n c => min 1000000 (10 * n + (c.toNat - 48))) b)
  | [], _, _, h => h
  | c :: D, a, b, h => by
    simp only [List.foldl_cons]
    apply sat_both D
    rcases h with ⟨rfl, h⟩ | ⟨rfl, h⟩
    · by_cases hv : 10 * a + (c.toNat - 48) ≤ 200
      · left; omega
      · right; omega
    · right; omega

theorem satN_le (D : List UInt8) : satN D ≤ 201 := by
  have := sat_both D 0 0 (.inl ⟨rfl, by omega⟩)
  unfold satN; omega
theorem satM_iff (D : List UInt8) : (satN D ≤ 200 ↔ satM D ≤ 200) ∧ (satN D ≤ 200 → satM D = satN D) := by
  have := sat_both D 0 0 (.inl ⟨rfl, by omega⟩)
  unfold satN satM; omega

def digsAt (l : List UInt8) (k : Nat) : List UInt8 := (l.drop k).take (nWhile isDig (l.drop k))

def argH (A : List FArg) : FArg := A.headD ⟨0, [], false⟩

/-- A whole number in a base of at most sixteen. -/
def baseT : Nat → Nat → Nat → List UInt8
  | 0, _, _ => []
  | g + 1, u, b => if u < b then [UInt8.ofNat (if u < 10 then 48 + u else 87 + u)] else baseT g (u / b) b ++ [UInt8.ofNat (if u % b < 10 then 48 + u % b else 87 + u % b)]
def uintT (u b : Nat) : List UInt8 := baseT 64 u b

end Go.Proofs.YtdencljnbilchaaGreatDoor
