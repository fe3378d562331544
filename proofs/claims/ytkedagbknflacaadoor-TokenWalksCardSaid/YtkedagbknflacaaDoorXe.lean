/- Walks: bits.Len64, bits.Mul64, and the small functions of the unrounded scaling. Walks: the unrounded scaling's small functions. -/
import Derived.Test.YtkedagbknflacaaDoorXa
import Derived.Lib.Strings
import Derived.Lib.Slices
import Derived.Lib.Small
import Derived.Lib.Walk
import Derived.Lib.BitFns
import Derived.Lib.Tables
import Derived.Deep.Light
import Derived.Laws.Bits64b
import Derived.Laws.BitsAllLaws
import Derived.BigQuiet
import Derived.Deep.QuietTactic

namespace Go.Proofs.YtkedagbknflacaaDoor
open Go.RowKit

theorem wrap_add (k a b : Nat) (hk : k ≤ 56) (ha : a ≤ 8) (hb : b = k + a) : RowKit.wrap64 ((k : Int) + RowKit.wrap64 (a : Int)) = (b : Int) := by
  unfold RowKit.wrap64; omega
theorem wrap_wrap (a : Nat) (ha : a ≤ 8) : RowKit.wrap64 (RowKit.wrap64 (a : Int)) = (a : Int) := by
  unfold RowKit.wrap64; omega
theorem wrap_one (a : Nat) (ha : a ≤ 8) : RowKit.wrap64 (a : Int) = (a : Int) := by
  unfold RowKit.wrap64; omega
theorem len8_get (y : Int) (h : y.toNat < Lib.len8tab.size) : ((Lib.len8tab[y.toNat]'h).toNat : Int) = Lib.len8 y := by
  unfold Lib.len8
  rw [ByteArray.getElem?_lt' _ _ h]
  rfl

set_option maxHeartbeats 4000000 in
set_option maxRecDepth 100000 in
theorem len64_int (x : Int) (w : World) (h0 : 0 ≤ x) (h1 : x ≤ 18446744073709551615) :
    Calls Tryd.prog 73 #[.int .u64 x] w fun e w' => e = .returned (.int .i64 (Lib.bitLen x.toNat)) ∧ w = w' := by
  go_enter Tryd.func73, Tryd.ntmps73
  go_wp2
  all_goals first
    | (go_ret; refine ⟨congrArg Ending.returned (congrArg (Value.int IntKind.i64) ?_), rfl⟩; go_light)
    | (exfalso
       go_light
       have hs := Lib.len8tab_size
       omega)
  all_goals first
    | (rw [len8_get (x / 4294967296 / 65536 / 256) _, Lib.len8_of (x / 4294967296 / 65536 / 256) (by omega) (by omega)]
       have e : (x / 4294967296 / 65536 / 256).toNat = x.toNat / 72057594037927936 := by omega
       have l := Lib.bitLen_le8' (x / 4294967296 / 65536 / 256) (by omega) (by omega)
       have s := Lib.bitLen_shift56 x.toNat (by omega) (by omega)
       rw [e] at l ⊢
       exact wrap_add 56 _ _ (by decide) l s)
    | (rw [len8_get (x / 4294967296 / 65536) _, Lib.len8_of (x / 4294967296 / 65536) (by omega) (by omega)]
       have e : (x / 4294967296 / 65536).toNat = x.toNat / 281474976710656 := by omega
       have l := Lib.bitLen_le8' (x / 4294967296 / 65536) (by omega) (by omega)
       have s := Lib.bitLen_shift48 x.toNat (by omega) (by omega)
       rw [e] at l ⊢
       exact wrap_add 48 _ _ (by decide) l s)
    | (rw [len8_get (x / 4294967296 / 256) _, Lib.len8_of (x / 4294967296 / 256) (by omega) (by omega)]
       have e : (x / 4294967296 / 256).toNat = x.toNat / 1099511627776 := by omega
       have l := Lib.bitLen_le8' (x / 4294967296 / 256) (by omega) (by omega)
       have s := Lib.bitLen_shift40 x.toNat (by omega) (by omega)
       rw [e] at l ⊢
       exact wrap_add 40 _ _ (by decide) l s)
    | (rw [len8_get (x / 4294967296) _, Lib.len8_of (x / 4294967296) (by omega) (by omega)]
       have e : (x / 4294967296).toNat = x.toNat / 4294967296 := by omega
       have l := Lib.bitLen_le8' (x / 4294967296) (by omega) (by omega)
       have s := Lib.bitLen_shift32 x.toNat (by omega) (by omega)
       rw [e] at l ⊢
       exact wrap_add 32 _ _ (by decide) l s)
    | (rw [len8_get (x / 65536 / 256) _, Lib.len8_of (x / 65536 / 256) (by omega) (by omega)]
       have e : (x / 65536 / 256).toNat = x.toNat / 16777216 := by omega
       have l := Lib.bitLen_le8' (x / 65536 / 256) (by omega) (by omega)
       have s := Lib.bitLen_shift24 x.toNat (by omega) (by omega)
       rw [e] at l ⊢
       exact wrap_add 24 _ _ (by decide) l s)
    | (rw [len8_get (x / 65536) _, Lib.len8_of (x / 65536) (by omega) (by omega)]
       have e : (x / 65536).toNat = x.toNat / 65536 := by omega
       have l := Lib.bitLen_le8' (x / 65536) (by omega) (by omega)
       have s := Lib.bitLen_shift16 x.toNat (by omega) (by omega)
       rw [e] at l ⊢
       exact wrap_add 16 _ _ (by decide) l s)
    | (rw [len8_get (x / 256) _, Lib.len8_of (x / 256) (by omega) (by omega)]
       have e : (x / 256).toNat = x.toNat / 256 := by omega
       have l := Lib.bitLen_le8' (x / 256) (by omega) (by omega)
       have s := Lib.bitLen_shift8 x.toNat (by omega) (by omega)
       rw [e] at l ⊢
       exact wrap_add 8 _ _ (by decide) l s)
    | (rw [len8_get x _, Lib.len8_of x (by omega) (by omega)]
       have l := Lib.bitLen_le8' x (by omega) (by omega)
       first | exact wrap_wrap _ l | exact wrap_add 0 _ _ (by decide) l (by omega) | exact wrap_one _ l)

theorem len64_any (x : Nat) (w : World) (h1 : x < 18446744073709551616) :
    Calls Tryd.prog 73 #[.int .u64 x] w fun e w' => e = .returned (.int .i64 (Lib.bitLen x)) ∧ w = w' := by
  have := len64_int x w (by omega) (by omega)
  simpa using this

theorem and32 (x : Nat) (hx : x < 18446744073709551616) : bits .and .u64 (x : Int) 4294967295 = (x : Int) % 4294967296 := by
  have h := bits_and_u64_nat x 4294967295 hx (by omega)
  have h2 : x &&& 4294967295 = x % 4294967296 := Nat.and_two_pow_sub_one_eq_mod x 32
  rw [h2] at h
  exact h.trans (by omega)
theorem and32i (x : Int) (h0 : 0 ≤ x) (hx : x < 18446744073709551616) : bits .and .u64 x 4294967295 = x % 4294967296 := by
  have := and32 x.toNat (by omega)
  rw [show ((x.toNat : Nat) : Int) = x by omega] at this
  exact this

theorem mul_parts (x y : Nat) (hx : x < 18446744073709551616) (hy : y < 18446744073709551616) : ∃ x0 x1 y0 y1 a b c d : Int, 0 ≤ x0 ∧ x0 ≤ 4294967295 ∧ 0 ≤ x1 ∧ x1 ≤ 4294967295 ∧ 0 ≤ y0 ∧ y0 ≤ 4294967295 ∧ 0 ≤ y1 ∧ y1 ≤ 4294967295 ∧
    (x : Int) % 4294967296 = x0 ∧ (x : Int) / 4294967296 = x1 ∧ (y : Int) % 4294967296 = y0 ∧ (y : Int) / 4294967296 = y1 ∧ x0 * y0 = a ∧ x1 * y0 = b ∧ x0 * y1 = c ∧ x1 * y1 = d ∧
    0 ≤ a ∧ a ≤ 18446744065119617025 ∧ 0 ≤ b ∧ b ≤ 18446744065119617025 ∧ 0 ≤ c ∧ c ≤ 18446744065119617025 ∧ 0 ≤ d ∧ d ≤ 18446744065119617025 ∧ (x : Int) * y = d * 18446744073709551616 + (b + c) * 4294967296 + a := by
  refine ⟨((x : Int) % 4294967296), ((x : Int) / 4294967296), ((y : Int) % 4294967296), ((y : Int) / 4294967296), ((x : Int) % 4294967296) * ((y : Int) % 4294967296), ((x : Int) / 4294967296) * ((y : Int) % 4294967296), ((x : Int) % 4294967296) * ((y : Int) / 4294967296), ((x : Int) / 4294967296) * ((y : Int) / 4294967296), ?_⟩
  have k : ∀ u v : Int, 0 ≤ u → u ≤ 4294967295 → 0 ≤ v → v ≤ 4294967295 → 0 ≤ u * v ∧ u * v ≤ 18446744065119617025 := fun u v h1 h2 h3 h4 =>
    ⟨Int.mul_nonneg h1 h3, by
      have h5 : u * v ≤ 4294967295 * v := Int.mul_le_mul_of_nonneg_right h2 h3
      omega⟩
  have ex : (x : Int) = (x : Int) / 4294967296 * 4294967296 + (x : Int) % 4294967296 := by omega
  have ey : (y : Int) = (y : Int) / 4294967296 * 4294967296 + (y : Int) % 4294967296 := by omega
  have b1 : 0 ≤ (x : Int) % 4294967296 ∧ (x : Int) % 4294967296 ≤ 4294967295 := by omega
  have b2 : 0 ≤ (x : Int) / 4294967296 ∧ (x : Int) / 4294967296 ≤ 4294967295 := by omega
  have b3 : 0 ≤ (y : Int) % 4294967296 ∧ (y : Int) % 4294967296 ≤ 4294967295 := by omega
  have b4 : 0 ≤ (y : Int) / 4294967296 ∧ (y : Int) / 4294967296 ≤ 4294967295 := by omega
  refine ⟨b1.1, b1.2, b2.1, b2.2, b3.1, b3.2, b4.1, b4.2, rfl, rfl, rfl, rfl, rfl, rfl, rfl, rfl, (k _ _ b1.1 b1.2 b3.1 b3.2).1, (k _ _ b1.1 b1.2 b3.1 b3.2).2, (k _ _ b2.1 b2.2 b3.1 b3.2).1, (k _ _ b2.1 b2.2 b3.1 b3.2).2, (k _ _ b1.1 b1.2 b4.1 b4.2).1, (k _ _ b1.1 b1.2 b4.1 b4.2).2, (k _ _ b2.1 b2.2 b4.1 b4.2).1, (k _ _ b2.1 b2.2 b4.1 b4.2).2, ?_⟩
  generalize (x : Int) % 4294967296 = x0 at *
  generalize (x : Int) / 4294967296 = x1 at *
  generalize (y : Int) % 4294967296 = y0 at *
  generalize (y : Int) / 4294967296 = y1 at *
  rw [ex, ey]
  grind

set_option maxHeartbeats 4000000 in
theorem mul64_any (x y : Nat) (w : World) (hx : x < 18446744073709551616) (hy : y < 18446744073709551616) :
    Calls Tryd.prog 85 #[.int .u64 x, .int .u64 y] w fun e w' => e = .returned (.tuple #[.int .u64 (x * y / 18446744073709551616 : Nat), .int .u64 (x * y % 18446744073709551616 : Nat)]) ∧ w = w' := by
  obtain ⟨x0, x1, y0, y1, a, b, c, d, hx0, hx0', hx1, hx1', hy0, hy0', hy1, hy1', e1, e2, e3, e4, pa, pb, pc, pd, ha, ha', hb, hb', hc, hc', hd, hd', hxy⟩ := mul_parts x y hx hy
  have h1 := and32 x hx
  have h2 := and32 y hy
  rw [e1] at h1
  rw [e3] at h2
  have h3 := and32i
  have HXY := Lib.hid hxy
  clear hxy e1 e3
  have E : ∀ h l : Int, h = (x * y / 18446744073709551616 : Nat) → l = (x * y % 18446744073709551616 : Nat) → Value.tuple #[.int .u64 h, .int .u64 l] = Value.tuple #[.int .u64 (x * y / 18446744073709551616 : Nat), .int .u64 (x * y % 18446744073709551616 : Nat)] := fun h l h1 h2 => by rw [h1, h2]
  have HE := Lib.hid E
  clear E
  go_enter Tryd.func85, Tryd.ntmps85
  go_wp2
  go_ret2
  refine ⟨congrArg Ending.returned (HE.out _ _ ?_ ?_), rfl⟩
  · have hc1 : ((x * y / 18446744073709551616 : Nat) : Int) = (x : Int) * y / 18446744073709551616 := by rw [Int.natCast_ediv, Int.natCast_mul]; rfl
    rw [h3 _ (by omega) (by omega), hc1, HXY.out, IntKind.wrap_u64, IntKind.wrap_u64]
    clear h1 h2 h3 HXY HE e2 e4 pa pb pc pd hx hy hx0 hx0' hx1 hx1' hy0 hy0' hy1 hy1' hc1
    omega
  · have hc2 : ((x * y % 18446744073709551616 : Nat) : Int) = (x : Int) * y % 18446744073709551616 := by rw [Int.natCast_emod, Int.natCast_mul]; rfl
    rw [hc2, IntKind.wrap_u64]

end Go.Proofs.YtkedagbknflacaaDoor

namespace Go.Proofs.YtkedagbknflacaaDoor
open Go.RowKit

theorem bool2i_any (b : Bool) (w : World) : Calls Tryd.prog 77 #[.bool b] w fun e w' => e = .returned (.int .i64 (if b then 1 else 0)) ∧ w = w' := by
  cases b <;> (go_enter Tryd.func77, Tryd.ntmps77; go_wp2; go_ret; exact ⟨rfl, rfl⟩)

theorem unmin_any (x : Nat) (hx0 : 1 ≤ x) (hx : x < 4611686018427387904) (w : World) : Calls Tryd.prog 78 #[.int .u64 x] w fun e w' => e = .returned (.int .u64 (4 * x - 2 : Nat)) ∧ w = w' := by
  go_enter Tryd.func78, Tryd.ntmps78
  go_wp2
  go_ret
  refine ⟨congrArg Ending.returned (congrArg (Value.int IntKind.u64) ?_), rfl⟩
  omega

theorem log2p_any (x : Int) (h0 : -1000000 ≤ x) (h1 : x ≤ 1000000) (w : World) : Calls Tryd.prog 74 #[.int .i64 x] w fun e w' => e = .returned (.int .i64 (x * 108853 / 32768)) ∧ w = w' := by
  go_enter Tryd.func74, Tryd.ntmps74
  go_wp2
  go_ret
  exact ⟨rfl, rfl⟩

def roundN (u : Nat) : Nat := (u + 1 + u / 4 % 2) / 4
theorem round_any (u : Nat) (hu : u < 18446744073709551612) (w : World) : Calls Tryd.prog 80 #[.int .u64 u] w fun e w' => e = .returned (.int .u64 (roundN u)) ∧ w = w' := by
  have h1 : bits .and .u64 ((u : Int) / 4) 1 = (u : Int) / 4 % 2 := by
    have h := bits_and_u64_nat (u / 4) 1 (by omega) (by omega)
    rw [nat_mask1] at h
    exact h.trans (by omega)
  go_enter Tryd.func80, Tryd.ntmps80
  go_wp2
  go_ret
  refine ⟨congrArg Ending.returned (congrArg (Value.int IntKind.u64) ?_), rfl⟩
  unfold roundN
  omega

theorem quiet_left {P : Program} {f : FuncId} {args : Array Value} {w : World} {n : Nat} {v : Value}
    (h : Calls P f args (w.drewN n) fun e w' => e = .returned v ∧ w.drewN n = w') : Calls P f args (w.drewN n) fun e w'' => e = .returned v ∧ ∃ m, w'' = w.drewN m :=
  h.mono fun _ _ ⟨he, hm⟩ => ⟨he, n, hm.symm⟩

def orN (a b : Int) : Nat := a.toNat ||| b.toNat
theorem orN_lt (a b : Int) (ha : a < 18446744073709551616) (hb : b < 18446744073709551616) : orN a b < 18446744073709551616 :=
  Nat.or_lt_two_pow (n := 64) (by omega) (by omega)
theorem or_N (a b : Int) (h1 : 0 ≤ a) (h2 : a < 18446744073709551616) (h3 : 0 ≤ b) (h4 : b < 18446744073709551616) : bits .or .u64 a b = (orN a b : Nat) := u64_or a b h1 h2 h3 h4
theorem div_pow_bd (H : Int) (s : Nat) (h0 : 0 ≤ H) (h : H < 18446744073709551616) : 0 ≤ H / 2 ^ s ∧ H / 2 ^ s < 18446744073709551616 := by
  have hp : (0 : Int) < 2 ^ s := Int.pow_pos (by omega)
  exact ⟨Int.ediv_nonneg h0 (by omega), Int.lt_of_le_of_lt (Int.ediv_le_self _ h0) h⟩

/-- What the scaling of x by hi * 2^64 - lo and by 2^-s leaves: the whole part, and whether anything is left over. -/
def uscV (x hi lo s : Nat) : Nat :=
  if (((x * hi / 18446744073709551616 : Nat) : Int) / 2 ^ s * 2 ^ s) % 18446744073709551616 ≠ (x * hi / 18446744073709551616 : Nat) then orN (((x * hi / 18446744073709551616 : Nat) : Int) / 2 ^ s) 1
  else if x * hi % 18446744073709551616 < x * lo / 18446744073709551616 then
    orN ((((x * hi / 18446744073709551616 : Nat) : Int) - 1) % 18446744073709551616 / 2 ^ s) (if 1 < (((x * hi % 18446744073709551616 : Nat) : Int) - (x * lo / 18446744073709551616 : Nat)) % 18446744073709551616 then 1 else 0)
  else orN (((x * hi / 18446744073709551616 : Nat) : Int) / 2 ^ s) (if 1 < (((x * hi % 18446744073709551616 : Nat) : Int) - (x * lo / 18446744073709551616 : Nat)) % 18446744073709551616 then 1 else 0)

theorem hi64_lt (x y : Nat) (hx : x < 18446744073709551616) (hy : y < 18446744073709551616) : x * y / 18446744073709551616 < 18446744073709551616 := by
  rw [Nat.div_lt_iff_lt_mul (by omega)]
  exact Nat.mul_lt_mul'' hx hy

theorem uscV_lt (x hi lo s : Nat) (hx : x < 18446744073709551616) (hhi : hi < 18446744073709551616) : uscV x hi lo s < 18446744073709551616 := by
  have h1 := hi64_lt x hi hx hhi
  unfold uscV
  have d1 := div_pow_bd ((x * hi / 18446744073709551616 : Nat) : Int) s (by omega) (by omega)
  have d2 := div_pow_bd ((((x * hi / 18446744073709551616 : Nat) : Int) - 1) % 18446744073709551616) s (by omega) (by omega)
  split
  · exact orN_lt _ _ d1.2 (by omega)
  · split
    · exact orN_lt _ _ d2.2 (by split <;> omega)
    · exact orN_lt _ _ d1.2 (by split <;> omega)

theorem and63 (s : Nat) (hs : s ≤ 63) : bits .and .i64 (s : Int) 63 = s := by
  have h : ∀ s : Fin 64, bits .and .i64 ((s : Nat) : Int) 63 = (s : Nat) := by decide +kernel
  exact h ⟨s, by omega⟩

set_option maxHeartbeats 2000000 in
theorem uscale_any (x hi lo s b : Nat) (w : World) (hx : x < 18446744073709551616) (hhi : hi < 18446744073709551616) (hlo : lo < 18446744073709551616) (hs : s ≤ 63)
    (c0 : w.cell? ⟨b, 0, none⟩ = some (.int .u64 hi)) (c1 : w.cell? ⟨b, 1, none⟩ = some (.int .u64 lo)) (c2 : w.cell? ⟨b, 2, none⟩ = some (.int .i64 s)) :
    Calls Tryd.prog 76 #[.int .u64 x, .pointer (some ⟨b, 0, none⟩)] w fun e w' => e = .returned (.int .u64 (uscV x hi lo s)) ∧ ∃ n, w' = w.drewN n := by
  have h1 := fun W => mul64_any x hi W hx hhi
  have h2 := fun W => mul64_any x lo W hx hlo
  have hand := and63 s hs
  have b1 := hi64_lt x hi hx hhi
  have b2 : x * hi % 18446744073709551616 < 18446744073709551616 := by omega
  have b3 := hi64_lt x lo hx hlo
  obtain ⟨H, eH⟩ : ∃ H, x * hi / 18446744073709551616 = H := ⟨_, rfl⟩
  obtain ⟨M, eM⟩ : ∃ M, x * hi % 18446744073709551616 = M := ⟨_, rfl⟩
  obtain ⟨M2, eM2⟩ : ∃ M2, x * lo / 18446744073709551616 = M2 := ⟨_, rfl⟩
  obtain ⟨L2, eL2⟩ : ∃ L2, x * lo % 18446744073709551616 = L2 := ⟨_, rfl⟩
  have hV : uscV x hi lo s = if ((H : Int) / 2 ^ s * 2 ^ s) % 18446744073709551616 ≠ (H : Int) then orN ((H : Int) / 2 ^ s) 1
      else if M < M2 then orN (((H : Int) - 1) % 18446744073709551616 / 2 ^ s) (if 1 < ((M : Int) - M2) % 18446744073709551616 then 1 else 0)
      else orN ((H : Int) / 2 ^ s) (if 1 < ((M : Int) - M2) % 18446744073709551616 then 1 else 0) := by
    unfold uscV; rw [eH, eM, eM2]
  rw [eH, eM] at h1
  rw [eM2, eL2] at h2
  rw [eH] at b1
  rw [eM] at b2
  rw [eM2] at b3
  have H1 := Lib.hid h1
  have H2 := Lib.hid h2
  have HV := Lib.hid hV
  clear h1 h2 hV eH eM eM2 eL2
  have d1 := div_pow_bd (H : Int) s (by omega) (by omega)
  have d2 := div_pow_bd (((H : Int) - 1) % 18446744073709551616) s (by omega) (by omega)
  have o1 := or_N _ 1 d1.1 d1.2 (by omega) (by omega)
  have o2 := or_N _ 0 d1.1 d1.2 (by omega) (by omega)
  have o3 := or_N _ 1 d2.1 d2.2 (by omega) (by omega)
  have o4 := or_N _ 0 d2.1 d2.2 (by omega) (by omega)
  have hw := IntKind.wrap_u64
  by_cases ht : ((H : Int) / 2 ^ s * 2 ^ s) % 18446744073709551616 = (H : Int)
  · have bt : (((H : Int) / 2 ^ s * 2 ^ s) % 18446744073709551616 != (H : Int)) = false := by simp [ht]
    have HT := Lib.hid ht
    clear ht
    by_cases hm : M < M2
    · by_cases hr : 1 < ((M : Int) - M2) % 18446744073709551616
      · have br : decide ((1 : Int) < ((M : Int) - M2) % 18446744073709551616) = true := by simpa using hr
        have HR : Hid (uscV x hi lo s = orN (((H : Int) - 1) % 18446744073709551616 / 2 ^ s) 1) := by unfold Hid; rw [HV.out, if_neg (by rw [HT.out]; simp), if_pos hm, if_pos hr]
        clear HV
        go_enter Tryd.func76, Tryd.ntmps76
        go_wp2_with (first | (go_at_call 85; first | (with_reducible refine (H1.out _).mono ?_; rintro e w' ⟨rfl, rfl⟩) | (with_reducible refine (H2.out _).mono ?_; rintro e w' ⟨rfl, rfl⟩)) | (go_at_call 63; refine (bool2_any _ _).mono ?_; rintro e w' ⟨rfl, rfl⟩))
        go_quiet ((go_at_call 63; exact quiet_left (bool2_any _ _)))
        go_wp2
        go_ret
        exact ⟨congrArg Ending.returned (congrArg (Value.int IntKind.u64) (by rw [HR.out])), _, rfl⟩
      · have br : decide ((1 : Int) < ((M : Int) - M2) % 18446744073709551616) = false := by simpa using hr
        have HR : Hid (uscV x hi lo s = orN (((H : Int) - 1) % 18446744073709551616 / 2 ^ s) 0) := by unfold Hid; rw [HV.out, if_neg (by rw [HT.out]; simp), if_pos hm, if_neg hr]
        clear HV
        go_enter Tryd.func76, Tryd.ntmps76
        go_wp2_with (first | (go_at_call 85; first | (with_reducible refine (H1.out _).mono ?_; rintro e w' ⟨rfl, rfl⟩) | (with_reducible refine (H2.out _).mono ?_; rintro e w' ⟨rfl, rfl⟩)) | (go_at_call 63; refine (bool2_any _ _).mono ?_; rintro e w' ⟨rfl, rfl⟩))
        go_quiet ((go_at_call 63; exact quiet_left (bool2_any _ _)))
        go_wp2
        go_ret
        exact ⟨congrArg Ending.returned (congrArg (Value.int IntKind.u64) (by rw [HR.out])), _, rfl⟩
    · by_cases hr : 1 < ((M : Int) - M2) % 18446744073709551616
      · have br : decide ((1 : Int) < ((M : Int) - M2) % 18446744073709551616) = true := by simpa using hr
        have HR : Hid (uscV x hi lo s = orN ((H : Int) / 2 ^ s) 1) := by unfold Hid; rw [HV.out, if_neg (by rw [HT.out]; simp), if_neg hm, if_pos hr]
        clear HV
        go_enter Tryd.func76, Tryd.ntmps76
        go_wp2_with (first | (go_at_call 85; first | (with_reducible refine (H1.out _).mono ?_; rintro e w' ⟨rfl, rfl⟩) | (with_reducible refine (H2.out _).mono ?_; rintro e w' ⟨rfl, rfl⟩)) | (go_at_call 63; refine (bool2_any _ _).mono ?_; rintro e w' ⟨rfl, rfl⟩))
        go_quiet ((go_at_call 63; exact quiet_left (bool2_any _ _)))
        go_wp2
        go_ret
        exact ⟨congrArg Ending.returned (congrArg (Value.int IntKind.u64) (by rw [Int.emod_eq_of_lt (a := (H : Int)) (by omega) (by omega), o1, HR.out])), _, rfl⟩
      · have br : decide ((1 : Int) < ((M : Int) - M2) % 18446744073709551616) = false := by simpa using hr
        have HR : Hid (uscV x hi lo s = orN ((H : Int) / 2 ^ s) 0) := by unfold Hid; rw [HV.out, if_neg (by rw [HT.out]; simp), if_neg hm, if_neg hr]
        clear HV
        go_enter Tryd.func76, Tryd.ntmps76
        go_wp2_with (first | (go_at_call 85; first | (with_reducible refine (H1.out _).mono ?_; rintro e w' ⟨rfl, rfl⟩) | (with_reducible refine (H2.out _).mono ?_; rintro e w' ⟨rfl, rfl⟩)) | (go_at_call 63; refine (bool2_any _ _).mono ?_; rintro e w' ⟨rfl, rfl⟩))
        go_quiet ((go_at_call 63; exact quiet_left (bool2_any _ _)))
        go_wp2
        go_ret
        exact ⟨congrArg Ending.returned (congrArg (Value.int IntKind.u64) (by rw [Int.emod_eq_of_lt (a := (H : Int)) (by omega) (by omega), o2, HR.out])), _, rfl⟩
  · have bt : (((H : Int) / 2 ^ s * 2 ^ s) % 18446744073709551616 != (H : Int)) = true := by simp [ht]
    have HR : Hid (uscV x hi lo s = orN ((H : Int) / 2 ^ s) 1) := by unfold Hid; rw [HV.out, if_pos ht]
    clear HV ht
    go_enter Tryd.func76, Tryd.ntmps76
    go_wp2_with (first | (go_at_call 85; first | (with_reducible refine (H1.out _).mono ?_; rintro e w' ⟨rfl, rfl⟩) | (with_reducible refine (H2.out _).mono ?_; rintro e w' ⟨rfl, rfl⟩)) | (go_at_call 63; refine (bool2_any _ _).mono ?_; rintro e w' ⟨rfl, rfl⟩))
    go_ret
    exact ⟨congrArg Ending.returned (congrArg (Value.int IntKind.u64) (by rw [HR.out])), 0, rfl⟩

end Go.Proofs.YtkedagbknflacaaDoor
