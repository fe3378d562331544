/- Walks: bits.Len64, bits.Mul64, and the small functions of the unrounded scaling. Blanks, place by place. -/
import Derived.Test.YtdencljnbilchaaGreatDoorXa
import Derived.Lib.Strings
import Derived.Lib.Slices
import Derived.Lib.Small
import Derived.Lib.Walk
import Derived.Lib.BitFns
import Derived.Lib.Tables
import Derived.Deep.Light
import Derived.Laws.Bits64b
import Derived.Laws.BitsAllLaws
import Derived.Test.YtdencljnbilchaaGreatDoorWl

namespace Go.Proofs.YtdencljnbilchaaGreatDoor
open Go.RowKit

theorem wrap_add (k a b : Nat) (hk : k ≤ 56) (ha : a ≤ 8) (hb : b = k + a) : RowKit.wrap64 ((k : Int) + RowKit.wrap64 (a : Int)) = (b : Int) := by
  unfold RowKit.wrap64; omega
theorem wrap_wrap (a : Nat) (ha : a ≤ 8) : RowKit.wrap64 (RowKit.wrap64 (a : Int)) = (a : Int) := by
  unfold RowKit.wrap64; omega
theorem wrap_one (a : Nat) (ha : a ≤ 8) : RowKit.wrap64 (a : Int) = (a : Int) := by
  unfold RowKit.wrap64; omega
theorem len8_get (y : Int) (h : y.toNat < Lib.len8tab.size) : ((Lib.len8tab[y.toNat]'h).toNat : Int) = Lib.len8 y := by
  unfold Lib.len8
  rw [ByteArray.getElem?_lt' _ _ h]
  rfl

set_option maxHeartbeats 4000000 in
set_option maxRecDepth 100000 in
theorem len64_int (x : Int) (w : World) (h0 : 0 ≤ x) (h1 : x ≤ 18446744073709551615) :
    Calls Tryz.prog 88 #[.int .u64 x] w fun e w' => e = .returned (.int .i64 (Lib.bitLen x.toNat)) ∧ w = w' := by
  go_enter Tryz.func88, Tryz.ntmps88
  go_wp2
  all_goals first
    | (go_ret; refine ⟨congrArg Ending.returned (congrArg (Value.int IntKind.i64) ?_), rfl⟩; go_light)
    | (exfalso
       go_light
       have hs := Lib.len8tab_size
       omega)
  all_goals first
    | (rw [len8_get (x / 4294967296 / 65536 / 256) _, Lib.len8_of (x / 4294967296 / 65536 / 256) (by omega) (by omega)]
       have e : (x / 4294967296 / 65536 / 256).toNat = x.toNat / 72057594037927936 := by omega
       have l := Lib.bitLen_le8' (x / 4294967296 / 65536 / 256) (by omega) (by omega)
       have s := Lib.bitLen_shift56 x.toNat (by omega) (by omega)
       rw [e] at l ⊢
       exact wrap_add 56 _ _ (by decide) l s)
    | (rw [len8_get (x / 4294967296 / 65536) _, Lib.len8_of (x / 4294967296 / 65536) (by omega) (by omega)]
       have e : (x / 4294967296 / 65536).toNat = x.toNat / 281474976710656 := by omega
       have l := Lib.bitLen_le8' (x / 4294967296 / 65536) (by omega) (by omega)
       have s := Lib.bitLen_shift48 x.toNat (by omega) (by omega)
       rw [e] at l ⊢
       exact wrap_add 48 _ _ (by decide) l s)
    | (rw [len8_get (x / 4294967296 / 256) _, Lib.len8_of (x / 4294967296 / 256) (by omega) (by omega)]
       have e : (x / 4294967296 / 256).toNat = x.toNat / 1099511627776 := by omega
       have l := Lib.bitLen_le8' (x / 4294967296 / 256) (by omega) (by omega)
       have s := Lib.bitLen_shift40 x.toNat (by omega) (by omega)
       rw [e] at l ⊢
       exact wrap_add 40 _ _ (by decide) l s)
    | (rw [len8_get (x / 4294967296) _, Lib.len8_of (x / 4294967296) (by omega) (by omega)]
       have e : (x / 4294967296).toNat = x.toNat / 4294967296 := by omega
       have l := Lib.bitLen_le8' (x / 4294967296) (by omega) (by omega)
       have s := Lib.bitLen_shift32 x.toNat (by omega) (by omega)
       rw [e] at l ⊢
       exact wrap_add 32 _ _ (by decide) l s)
    | (rw [len8_get (x / 65536 / 256) _, Lib.len8_of (x / 65536 / 256) (by omega) (by omega)]
       have e : (x / 65536 / 256).toNat = x.toNat / 16777216 := by omega
       have l := Lib.bitLen_le8' (x / 65536 / 256) (by omega) (by omega)
       have s := Lib.bitLen_shift24 x.toNat (by omega) (by omega)
       rw [e] at l ⊢
       exact wrap_add 24 _ _ (by decide) l s)
    | (rw [len8_get (x / 65536) _, Lib.len8_of (x / 65536) (by omega) (by omega)]
       have e : (x / 65536).toNat = x.toNat / 65536 := by omega
       have l := Lib.bitLen_le8' (x / 65536) (by omega) (by omega)
       have s := Lib.bitLen_shift16 x.toNat (by omega) (by omega)
       rw [e] at l ⊢
       exact wrap_add 16 _ _ (by decide) l s)
    | (rw [len8_get (x / 256) _, Lib.len8_of (x / 256) (by omega) (by omega)]
       have e : (x / 256).toNat = x.toNat / 256 := by omega
       have l := Lib.bitLen_le8' (x / 256) (by omega) (by omega)
       have s := Lib.bitLen_shift8 x.toNat (by omega) (by omega)
       rw [e] at l ⊢
       exact wrap_add 8 _ _ (by decide) l s)
    | (rw [len8_get x _, Lib.len8_of x (by omega) (by omega)]
       have l := Lib.bitLen_le8' x (by omega) (by omega)
       first | exact wrap_wrap _ l | exact wrap_add 0 _ _ (by decide) l (by omega) | exact wrap_one _ l)

theorem len64_any (x : Nat) (w : World) (h1 : x < 18446744073709551616) :
    Calls Tryz.prog 88 #[.int .u64 x] w fun e w' => e = .returned (.int .i64 (Lib.bitLen x)) ∧ w = w' := by
  have := len64_int x w (by omega) (by omega)
  simpa using this

theorem and32 (x : Nat) (hx : x < 18446744073709551616) : bits .and .u64 (x : Int) 4294967295 = (x : Int) % 4294967296 := by
  have h := bits_and_u64_nat x 4294967295 hx (by omega)
  have h2 : x &&& 4294967295 = x % 4294967296 := Nat.and_two_pow_sub_one_eq_mod x 32
  rw [h2] at h
  exact h.trans (by omega)
theorem and32i (x : Int) (h0 : 0 ≤ x) (hx : x < 18446744073709551616) : bits .and .u64 x 4294967295 = x % 4294967296 := by
  have := and32 x.toNat (by omega)
  rw [show ((x.toNat : Nat) : Int) = x by omega] at this
  exact this

theorem mul_parts (x y : Nat) (hx : x < 18446744073709551616) (hy : y < 18446744073709551616) : ∃ x0 x1 y0 y1 a b c d : Int, 0 ≤ x0 ∧ x0 ≤ 4294967295 ∧ 0 ≤ x1 ∧ x1 ≤ 4294967295 ∧ 0 ≤ y0 ∧ y0 ≤ 4294967295 ∧ 0 ≤ y1 ∧ y1 ≤ 4294967295 ∧
    (x : Int) % 4294967296 = x0 ∧ (x : Int) / 4294967296 = x1 ∧ (y : Int) % 4294967296 = y0 ∧ (y : Int) / 4294967296 = y1 ∧ x0 * y0 = a ∧ x1 * y0 = b ∧ x0 * y1 = c ∧ x1 * y1 = d ∧
    0 ≤ a ∧ a ≤ 18446744065119617025 ∧ 0 ≤ b ∧ b ≤ 18446744065119617025 ∧ 0 ≤ c ∧ c ≤ 18446744065119617025 ∧ 0 ≤ d ∧ d ≤ 18446744065119617025 ∧ (x : Int) * y = d * 18446744073709551616 + (b + c) * 4294967296 + a := by
  refine ⟨((x : Int) % 4294967296), ((x : Int) / 4294967296), ((y : Int) % 4294967296), ((y : Int) / 4294967296), ((x : Int) % 4294967296) * ((y : Int) % 4294967296), ((x : Int) / 4294967296) * ((y : Int) % 4294967296), ((x : Int) % 4294967296) * ((y : Int) / 4294967296), ((x : Int) / 4294967296) * ((y : Int) / 4294967296), ?_⟩
  have k : ∀ u v : Int, 0 ≤ u → u ≤ 4294967295 → 0 ≤ v → v ≤ 4294967295 → 0 ≤ u * v ∧ u * v ≤ 18446744065119617025 := fun u v h1 h2 h3 h4 =>
    ⟨Int.mul_nonneg h1 h3, by
      have h5 : u * v ≤ 4294967295 * v := Int.mul_le_mul_of_nonneg_right h2 h3
      omega⟩
  have ex : (x : Int) = (x : Int) / 4294967296 * 4294967296 + (x : Int) % 4294967296 := by omega
  have ey : (y : Int) = (y : Int) / 4294967296 * 4294967296 + (y : Int) % 4294967296 := by omega
  have b1 : 0 ≤ (x : Int) % 4294967296 ∧ (x : Int) % 4294967296 ≤ 4294967295 := by omega
  have b2 : 0 ≤ (x : Int) / 4294967296 ∧ (x : Int) / 4294967296 ≤ 4294967295 := by omega
  have b3 : 0 ≤ (y : Int) % 4294967296 ∧ (y : Int) % 4294967296 ≤ 4294967295 := by omega
  have b4 : 0 ≤ (y : Int) / 4294967296 ∧ (y : Int) / 4294967296 ≤ 4294967295 := by omega
  refine ⟨b1.1, b1.2, b2.1, b2.2, b3.1, b3.2, b4.1, b4.2, rfl, rfl, rfl, rfl, rfl, rfl, rfl, rfl, (k _ _ b1.1 b1.2 b3.1 b3.2).1, (k _ _ b1.1 b1.2 b3.1 b3.2).2, (k _ _ b2.1 b2.2 b3.1 b3.2).1, (k _ _ b2.1 b2.2 b3.1 b3.2).2, (k _ _ b1.1 b1.2 b4.1 b4.2).1, (k _ _ b1.1 b1.2 b4.1 b4.2).2, (k _ _ b2.1 b2.2 b4.1 b4.2).1, (k _ _ b2.1 b2.2 b4.1 b4.2).2, ?_⟩
  generalize (x : Int) % 4294967296 = x0 at *
  generalize (x : Int) / 4294967296 = x1 at *
  generalize (y : Int) % 4294967296 = y0 at *
  generalize (y : Int) / 4294967296 = y1 at *
  rw [ex, ey]
  grind

set_option maxHeartbeats 4000000 in
theorem mul64_any (x y : Nat) (w : World) (hx : x < 18446744073709551616) (hy : y < 18446744073709551616) :
    Calls Tryz.prog 79 #[.int .u64 x, .int .u64 y] w fun e w' => e = .returned (.tuple #[.int .u64 (x * y / 18446744073709551616 : Nat), .int .u64 (x * y % 18446744073709551616 : Nat)]) ∧ w = w' := by
  obtain ⟨x0, x1, y0, y1, a, b, c, d, hx0, hx0', hx1, hx1', hy0, hy0', hy1, hy1', e1, e2, e3, e4, pa, pb, pc, pd, ha, ha', hb, hb', hc, hc', hd, hd', hxy⟩ := mul_parts x y hx hy
  have h1 := and32 x hx
  have h2 := and32 y hy
  rw [e1] at h1
  rw [e3] at h2
  have h3 := and32i
  have HXY := Lib.hid hxy
  clear hxy e1 e3
  have E : ∀ h l : Int, h = (x * y / 18446744073709551616 : Nat) → l = (x * y % 18446744073709551616 : Nat) → Value.tuple #[.int .u64 h, .int .u64 l] = Value.tuple #[.int .u64 (x * y / 18446744073709551616 : Nat), .int .u64 (x * y % 18446744073709551616 : Nat)] := fun h l h1 h2 => by rw [h1, h2]
  have HE := Lib.hid E
  clear E
  go_enter Tryz.func79, Tryz.ntmps79
  go_wp2
  go_ret2
  refine ⟨congrArg Ending.returned (HE.out _ _ ?_ ?_), rfl⟩
  · have hc1 : ((x * y / 18446744073709551616 : Nat) : Int) = (x : Int) * y / 18446744073709551616 := by rw [Int.natCast_ediv, Int.natCast_mul]; rfl
    rw [h3 _ (by omega) (by omega), hc1, HXY.out, IntKind.wrap_u64, IntKind.wrap_u64]
    clear h1 h2 h3 HXY HE e2 e4 pa pb pc pd hx hy hx0 hx0' hx1 hx1' hy0 hy0' hy1 hy1' hc1
    omega
  · have hc2 : ((x * y % 18446744073709551616 : Nat) : Int) = (x : Int) * y % 18446744073709551616 := by rw [Int.natCast_emod, Int.natCast_mul]; rfl
    rw [hc2, IntKind.wrap_u64]

end Go.Proofs.YtdencljnbilchaaGreatDoor

namespace Go.Proofs.YtdencljnbilchaaGreatDoor
open Go.RowKit

def blkAt (l : List UInt8) (k : Nat) : Bool := match l[k]? with | some c => isBlank c | none => false
theorem blkAt_lt {l : List UInt8} {k : Nat} (h : blkAt l k = true) : k < l.length := by
  rcases Nat.lt_or_ge k l.length with h1 | h1
  · exact h1
  · unfold blkAt at h; rw [List.getElem?_eq_none h1] at h; cases h
theorem blkAt_in {l : List UInt8} {k : Nat} (h : k < l.length) : blkAt l k = isBlank l[k] := by unfold blkAt; rw [List.getElem?_eq_getElem h]
theorem bW_on {l : List UInt8} {k : Nat} (h : blkAt l k = true) : nWhile isBlank (l.drop k) = nWhile isBlank (l.drop (k + 1)) + 1 :=
  nWhile_yes isBlank l k (blkAt_lt h) (by rw [← blkAt_in (blkAt_lt h)]; exact h)
theorem bW_off {l : List UInt8} {k : Nat} (h : blkAt l k = false) : nWhile isBlank (l.drop k) = 0 := by
  rcases Nat.lt_or_ge k l.length with h1 | h1
  · exact nWhile_no _ _ _ h1 (by rw [← blkAt_in h1]; exact h)
  · exact nWhile_end _ _ _ h1
theorem blk_cases (s : ByteArray) (k : Nat) (c : Bool) (h : blkAt s.data.toList k = c) : (∃ h : k < s.size, blankB (s[k].toNat : Int) = c) ∨ (¬ k < s.size ∧ c = false) := by
  by_cases hk : k < s.size
  · left
    refine ⟨hk, ?_⟩
    rw [blkAt_in (by simpa using hk)] at h
    exact h
  · right
    refine ⟨hk, ?_⟩
    rw [← h]; unfold blkAt; rw [List.getElem?_eq_none (by simpa using hk)]

end Go.Proofs.YtdencljnbilchaaGreatDoor
