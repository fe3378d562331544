/- formatBase10: the shelf's contract, at this program. formatBase10 on a block of bytes; setDigits. The walks of log10Pow2, numDigits, unrounded.div. The walk of unrounded.div at ten. The walk of fixedWidthFloat. -/
import Derived.Test.YtdencljnbilchaaGreatDoorFe
import Derived.Test.YtdencljnbilchaaGreatDoorPa
import Derived.Shelf.Strconv.Itoa2
import Derived.Deep.DeepCutAuto
import Derived.Test.YtdencljnbilchaaGreatDoorXl
import Derived.Test.YtdencljnbilchaaGreatDoorXf
import Derived.RegionTactic
import Derived.BigCall
import Derived.Deep.RegionWith
import Derived.BigQuiet
import Derived.Deep.QuietTactic
import Derived.Deep.CutBlock

namespace Go.Proofs.YtdencljnbilchaaGreatDoor
open Go.RowKit Go.Shelf

def renS : Ren where
  f := fun x => if x = 285 then 102 else x
  t := fun x => if x = 3 then 3 else if x = 4 then 4 else if x = 5 then 5 else if x = 9 then 9 else if x = 37 then 33 else if x = 51 then 48 else if x = 53 then 84 else x
  g := fun x => x

theorem lays285 : Lays.n285 Tryz.prog renS where
  mixed := by kernel_rfl
  f285 := by kernel_rfl
  t0 := by kernel_rfl
  a0 := fun w => by kernel_rfl
  z0 := fun w => by kernel_rfl
  v0 := fun w => by kernel_rfl
  t3 := by kernel_rfl
  a3 := fun w => by kernel_rfl
  z3 := fun w => by kernel_rfl
  v3 := fun w => by kernel_rfl
  t4 := by kernel_rfl
  a4 := fun w => by kernel_rfl
  z4 := fun w => by kernel_rfl
  v4 := fun w => by kernel_rfl
  t5 := by kernel_rfl
  a5 := fun w => by kernel_rfl
  z5 := fun w => by kernel_rfl
  v5 := fun w => by kernel_rfl
  t9 := by kernel_rfl
  a9 := fun w => by kernel_rfl
  z9 := fun w => by kernel_rfl
  v9 := fun w => by kernel_rfl
  t37 := by kernel_rfl
  a37 := fun w => by kernel_rfl
  z37 := fun w => by kernel_rfl
  v37 := fun w => by kernel_rfl
  t51 := by kernel_rfl
  a51 := fun w => by kernel_rfl
  z51 := fun w => by kernel_rfl
  v51 := fun w => by kernel_rfl
  t53 := by kernel_rfl
  a53 := fun w => by kernel_rfl
  z53 := fun w => by kernel_rfl
  v53 := fun w => by kernel_rfl

end Go.Proofs.YtdencljnbilchaaGreatDoor

namespace Go.Proofs.YtdencljnbilchaaGreatDoor
open Go.RowKit Go.Sort

def encB : UInt8 → Value := fun (b : UInt8) => Value.int .u8 (b.toNat : Int)

theorem onlyB_putRow (w : World) (b : Nat) (d : Array UInt8) (n : Nat) : OnlyB b w ((putRow encB w b 0 d).drewN n) where
  os := rfl
  tape := rfl
  output := rfl
  size := by show w.heap.size ≤ (putRow encB w b 0 d).heap.size; simp
  block := fun k _ hne => by
    show (w.heap.modify b (onCells (putCells encB 0 d)))[k]? = _
    rw [Array.getElem?_modify, if_neg (fun e => hne (by rw [e]))]

theorem dg_toNat (u j : Nat) : (Go.Lib.dg u j).toNat = 48 + u / 10 ^ j % 10 := by
  unfold Go.Lib.dg; rw [UInt8.toNat_ofNat']; omega

set_option maxRecDepth 100000 in
theorem fb10_any (w : World) (b n cap u : Nat) (f : Nat → Nat) (hB : BufF w b f n) (hf : ∀ i, f i < 256) (hn : n ≤ 1000) (hu : u < 10 ^ n) (hu64 : u < 18446744073709551616) :
    Calls Tryz.prog 102 #[.slice (some ⟨b, 0, none⟩) n cap, .int .u64 u] w fun e w' => e = .returned (.tuple #[]) ∧ BufF w' b (dgf u n) n ∧ OnlyB b w w' := by
  obtain ⟨d, hd⟩ : ∃ d : Array UInt8, d = ((List.range n).map fun i => UInt8.ofNat (f i)).toArray := ⟨_, rfl⟩
  have hsz : d.size = n := by rw [hd]; simp
  have hget : ∀ i, i < n → (d[i]!).toNat = f i := fun i hi => by
    have : d[i]! = UInt8.ofNat (f i) := by rw [hd]; simp [hi]
    rw [this, UInt8.toNat_ofNat']
    have := hf i
    omega
  have hH : Holds (fun (b : UInt8) => Value.int .u8 (b.toNat : Int)) w b 0 d := fun j hj => by
    rw [hsz] at hj
    rw [Nat.zero_add]
    refine ⟨?_, hB.fz j⟩
    show _ = some (Value.int .u8 ((d[j]!).toNat : Int))
    rw [hget j hj]
    exact hB.d j hj
  have h := Any.internal_strconv_formatBase10 lays285 b 0 cap u d w hH (by rw [hsz]; exact hu) hu64 (by rw [hsz]; omega)
  rw [hsz] at h
  have hfn : renS.f 285 = 102 := by kernel_rfl
  rw [hfn] at h
  refine h.mono ?_
  rintro e w' ⟨he, q, v', dk, rfl, hI⟩
  refine ⟨he, ⟨fun i hi => ?_, fun i => ?_⟩, onlyB_putRow w b dk q⟩
  · have h1 := cell?_putRow (fun (b : UInt8) => Value.int .u8 (b.toNat : Int)) w b 0 d dk hH (by rw [hI.size, hsz]) i (by rw [hI.size]; exact hi)
    rw [Nat.zero_add] at h1
    show (putRow (fun (b : UInt8) => Value.int .u8 (b.toNat : Int)) w b 0 dk).cell? ⟨b, i, none⟩ = _
    rw [h1, hI.done i (Nat.zero_le _) hi]
    show some (Value.int .u8 ((Go.Lib.dg u (n - 1 - i)).toNat : Int)) = _
    rw [dg_toNat]; rfl
  · show (putRow (fun (b : UInt8) => Value.int .u8 (b.toNat : Int)) w b 0 dk).frozen? ⟨b, i, none⟩ = false
    rw [frozen?_putRow]
    exact hB.fz i

set_option maxHeartbeats 1600000 in
set_option maxRecDepth 100000 in
theorem setDigits_any (w : World) (b u n cap : Nat) (p : Int) (f : Nat → Nat) (hB : BufF w b f n) (hf : ∀ i, f i < 256) (hn : n ≤ 24) (hcap : 24 ≤ cap) (hu : u < 10 ^ n) (hu64 : u < 18446744073709551616) (hp1 : -100000 ≤ p) (hp2 : p ≤ 100000) :
    Calls Tryz.prog 90 #[.slice (some ⟨b, 0, none⟩) 24 cap, .int .u64 u, .int .i64 p, .int .i64 n] w fun e w' => e = .returned (.tuple #[.int .i64 (n + p), .int .i64 (trimN n u).1]) ∧ BufF w' b (dgf u n) n ∧ OnlyB b w w' := by
  have H1 := Lib.hid (fb10_any w b n cap u f hB hf (by omega) hu hu64)
  clear hB hf hu
  go_enter Tryz.func90, Tryz.ntmps90
  go_wp2_with (go_at_call 102; refine H1.out.mono ?_; rintro e w1 ⟨rfl, hb1, ho1⟩)
  have HB := Lib.hid hb1
  clear hb1
  go_loop [3] (fun v => ∃ (k M : Nat), k ≤ n ∧ v = .int .i64 k ∧ Hid (M = u / 10 ^ (n - k)) ∧ Hid (trimN n u = trimN k M)) (fun v => (intOf v).toNat)
  case atStart => exact ⟨n, u, Nat.le_refl _, rfl, by simp [Hid], rfl⟩
  case round =>
    obtain ⟨k, M, hk, rfl, HM, HT⟩ := hrel
    cases k with
    | zero =>
      have HR : Hid ((trimN n u).1 = 0) := by unfold Hid; rw [HT.out]; rfl
      clear HT
      go_wp2
      go_ret2
      exact ⟨by rw [HR.out]; rfl, HB.out, ho1⟩
    | succ k =>
      have ck := HB.out.d k (by omega)
      have e1 : ((k + 1 : Nat) : Int) - 1 = (k : Int) := by omega
      have hdk : dgf u n k = 48 + M % 10 := by unfold dgf; rw [HM.out, show n - 1 - k = n - (k + 1) by omega]
      rw [hdk] at ck
      by_cases h9 : M % 10 = 0
      · rw [h9] at ck
        have HT2 : Hid (trimN n u = trimN k (M / 10)) := by unfold Hid; rw [HT.out, trimN_yes h9]
        have HM2 : Hid (M / 10 = u / 10 ^ (n - k)) := by unfold Hid; rw [HM.out, Nat.div_div_eq_div_mul, show n - k = n - (k + 1) + 1 by omega, Nat.pow_succ]
        clear hdk h9 HT HM
        go_wp2
        go_round
        case rel => exact ⟨k, M / 10, by omega, by go_num, HM2, HT2⟩
        case measure => simp [intOf]
      · have HR : Hid ((trimN n u).1 = k + 1) := by unfold Hid; rw [HT.out, trimN_no h9]
        obtain ⟨D, eD⟩ : ∃ D, 48 + M % 10 = D := ⟨_, rfl⟩
        rw [eD] at ck
        have b48 : ((D : Int) == 48) = false := beq_eq_false_iff_ne.2 (by omega)
        clear hdk HT eD h9 HM
        go_wp2
        go_ret2
        exact ⟨by rw [HR.out]; rfl, HB.out, ho1⟩

end Go.Proofs.YtdencljnbilchaaGreatDoor

namespace Go.Proofs.YtdencljnbilchaaGreatDoor
open Go.RowKit

theorem log10p_any (x : Int) (h0 : -1000000 ≤ x) (h1 : x ≤ 1000000) (w : World) : Calls Tryz.prog 92 #[.int .i64 x] w fun e w' => e = .returned (.int .i64 (x * 78913 / 262144)) ∧ w = w' := by
  go_enter Tryz.func92, Tryz.ntmps92
  go_wp2
  go_ret
  exact ⟨rfl, rfl⟩

theorem bitLen_two : ∀ (n x : Nat), x < 2 ^ n → (x = 0 ∧ Lib.bitLenAux n x = 0) ∨ (2 ^ (Lib.bitLenAux n x - 1) ≤ x ∧ x < 2 ^ Lib.bitLenAux n x ∧ 1 ≤ Lib.bitLenAux n x ∧ Lib.bitLenAux n x ≤ n)
  | 0, x, h => .inl ⟨by simpa using h, rfl⟩
  | n + 1, x, h => by
    by_cases h0 : x = 0
    · left; subst h0; exact ⟨rfl, by simp [Lib.bitLenAux]⟩
    · right
      have hh : x / 2 < 2 ^ n := by rw [Nat.pow_succ] at h; omega
      rw [Lib.bitLenAux, if_neg h0]
      rcases bitLen_two n (x / 2) hh with ⟨h1, h2⟩ | ⟨h1, h2, h3, h4⟩
      · rw [h2]; exact ⟨by show 1 ≤ x; omega, by show x < 2; omega, by omega, by omega⟩
      · generalize Lib.bitLenAux n (x / 2) = L at h1 h2 h3 h4
        refine ⟨?_, ?_, by omega, by omega⟩
        · rw [show 1 + L - 1 = (L - 1) + 1 by omega, Nat.pow_succ]; omega
        · rw [show 1 + L = L + 1 by omega, Nat.pow_succ]; omega

theorem nd_tab : ∀ L : Fin 65, 1 ≤ (L : Nat) → (L : Nat) * 78913 / 262144 ≤ 19 ∧ 2 ^ (L : Nat) ≤ 10 ^ ((L : Nat) * 78913 / 262144 + 1) ∧ ((L : Nat) * 78913 / 262144 = 0 ∨ 10 ^ ((L : Nat) * 78913 / 262144 - 1) ≤ 2 ^ ((L : Nat) - 1)) := by decide +kernel

def ndN (d : Nat) : Nat := Lib.bitLen d * 78913 / 262144 + (if 10 ^ (Lib.bitLen d * 78913 / 262144) ≤ d then 1 else 0)

theorem ndN_ok (d : Nat) (h0 : 0 < d) (hd : d < 18446744073709551616) : 1 ≤ ndN d ∧ ndN d ≤ 20 ∧ 10 ^ (ndN d - 1) ≤ d ∧ d < 10 ^ ndN d ∧ Lib.bitLen d * 78913 / 262144 ≤ 19 := by
  have hb : Lib.bitLen d = Lib.bitLenAux 64 d := rfl
  rcases bitLen_two 64 d (by rw [show (2 : Nat) ^ 64 = 18446744073709551616 from by decide]; exact hd) with ⟨h, _⟩ | ⟨h1, h2, h3, h4⟩
  · omega
  · rw [← hb] at h1 h2 h3 h4
    unfold ndN
    generalize Lib.bitLen d = L at h1 h2 h3 h4
    obtain ⟨t1, t2, t3⟩ := nd_tab ⟨L, by omega⟩ h3
    dsimp only at t1 t2 t3
    generalize L * 78913 / 262144 = k at t1 t2 t3
    split
    · rename_i h
      exact ⟨by omega, by omega, by simpa using h, by omega, t1⟩
    · rename_i h
      have hk : k ≠ 0 := fun e => by subst e; exact h (by rw [Nat.pow_zero]; exact h0)
      have := t3.resolve_left hk
      exact ⟨by omega, by omega, by simp only [Nat.add_zero]; omega, by simp only [Nat.add_zero]; omega, t1⟩

set_option maxHeartbeats 1600000 in
theorem numDigits_any (d : Nat) (h0 : 0 < d) (hd : d < 18446744073709551616) (w : World) (hL : LaidG w) :
    Calls Tryz.prog 91 #[.int .u64 d] w fun e w' => e = .returned (.int .i64 (ndN d)) ∧ w = w' := by
  obtain ⟨_, _, _, _, hk⟩ := ndN_ok d h0 hd
  have H1 := Lib.hid (fun W => len64_any d W hd)
  obtain ⟨L, eL⟩ : ∃ L, Lib.bitLen d = L := ⟨_, rfl⟩
  have hLb : L ≤ 64 := by rw [← eL]; exact bitLen_bd d
  have H2 := Lib.hid (fun W => log10p_any (L : Int) (by omega) (by omega) W)
  have hV : ndN d = L * 78913 / 262144 + (if 10 ^ (L * 78913 / 262144) ≤ d then 1 else 0) := by unfold ndN; rw [eL]
  rw [eL] at H1 hk
  obtain ⟨k, ek⟩ : ∃ k, L * 78913 / 262144 = k := ⟨_, rfl⟩
  have ek2 : (L : Int) * 78913 / 262144 = (k : Int) := by omega
  rw [ek] at hV hk
  rw [ek2] at H2
  have cu := hL.u10 k (by omega)
  obtain ⟨T, eT⟩ : ∃ T : Nat, 10 ^ k = T := ⟨_, rfl⟩
  rw [eT] at cu hV
  have HV := Lib.hid hV
  clear hL eT ek ek2 hV eL
  by_cases ht : T ≤ d
  · go_enter Tryz.func91, Tryz.ntmps91
    go_wp2_with (first | (go_at_call 88; refine (H1.out _).mono ?_; rintro e w' ⟨rfl, rfl⟩) | (go_at_call 92; refine (H2.out _).mono ?_; rintro e w' ⟨rfl, rfl⟩) | (go_at_call 122; refine (bool2i_any _ _).mono ?_; rintro e w' ⟨rfl, rfl⟩))
    go_ret
    exact ⟨congrArg Ending.returned (congrArg (Value.int IntKind.i64) (by rw [HV.out, if_pos ht]; simp)), rfl⟩
  · go_enter Tryz.func91, Tryz.ntmps91
    go_wp2_with (first | (go_at_call 88; refine (H1.out _).mono ?_; rintro e w' ⟨rfl, rfl⟩) | (go_at_call 92; refine (H2.out _).mono ?_; rintro e w' ⟨rfl, rfl⟩) | (go_at_call 122; refine (bool2i_any _ _).mono ?_; rintro e w' ⟨rfl, rfl⟩))
    go_ret
    exact ⟨congrArg Ending.returned (congrArg (Value.int IntKind.i64) (by rw [HV.out, if_neg ht]; simp)), rfl⟩

end Go.Proofs.YtdencljnbilchaaGreatDoor

namespace Go.Proofs.YtdencljnbilchaaGreatDoor
open Go.RowKit

theorem bool2u_any (b : Bool) (w : World) : Calls Tryz.prog 137 #[.bool b] w fun e w' => e = .returned (.int .u64 (if b then 1 else 0)) ∧ w = w' := by
  cases b <;> (go_enter Tryz.func137, Tryz.ntmps137; go_wp2; go_ret; exact ⟨rfl, rfl⟩)

/-- A tenth, the last bit for whatever is left over. -/
def divU (u : Nat) : Nat := orN ((orN ((u : Int) / 10) ((u : Int) % 2) : Nat) : Int) (if u % 10 = 0 then 0 else 1)

set_option maxHeartbeats 2000000 in
theorem div_any (u : Nat) (hu : u < 18446744073709551616) (w : World) : Calls Tryz.prog 124 #[.int .u64 u, .int .u64 10] w fun e w' => e = .returned (.int .u64 (divU u)) ∧ ∃ n, w' = w.drewN n := by
  have a1 : bits .and .u64 (u : Int) 1 = (u : Int) % 2 := by
    have h := bits_and_u64_nat u 1 hu (by omega)
    rw [nat_mask1] at h
    exact h.trans (by omega)
  have o1 := or_N ((u : Int) / 10) ((u : Int) % 2) (by omega) (by omega) (by omega) (by omega)
  obtain ⟨v1, ev1⟩ : ∃ v1, orN ((u : Int) / 10) ((u : Int) % 2) = v1 := ⟨_, rfl⟩
  have hv1 : v1 < 18446744073709551616 := by rw [← ev1]; exact orN_lt _ _ (by omega) (by omega)
  rw [ev1] at o1
  have o2 := or_N (v1 : Int) 0 (by omega) (by omega) (by omega) (by omega)
  have o3 := or_N (v1 : Int) 1 (by omega) (by omega) (by omega) (by omega)
  by_cases h10 : u % 10 = 0
  · have b10 : ((u : Int) % 10 != 0) = false := by simp; omega
    have hd : divU u = orN v1 0 := by unfold divU; rw [ev1, if_pos h10]
    have HD := Lib.hid hd
    clear ev1 hd
    go_enter Tryz.func124, Tryz.ntmps124
    go_wp2
    go_quiet ((go_at_call 137; exact quiet_left (bool2u_any _ _)))
    go_wp2
    go_ret
    exact ⟨congrArg Ending.returned (congrArg (Value.int IntKind.u64) (by rw [HD.out])), _, rfl⟩
  · have b10 : ((u : Int) % 10 != 0) = true := by simp; omega
    have hd : divU u = orN v1 1 := by unfold divU; rw [ev1, if_neg h10]
    have HD := Lib.hid hd
    clear ev1 hd
    go_enter Tryz.func124, Tryz.ntmps124
    go_wp2
    go_quiet ((go_at_call 137; exact quiet_left (bool2u_any _ _)))
    go_wp2
    go_ret
    exact ⟨congrArg Ending.returned (congrArg (Value.int IntKind.u64) (by rw [HD.out])), _, rfl⟩

end Go.Proofs.YtdencljnbilchaaGreatDoor

namespace Go.Proofs.YtdencljnbilchaaGreatDoor
open Go.RowKit

def itU : Nat → Nat → Nat
  | 0, u => u
  | j + 1, u => itU j (divU u)

theorem divU_lt (u : Nat) (hu : u < 18446744073709551616) : divU u < 18446744073709551616 / 8 := by
  have h1 : orN ((u : Int) / 10) ((u : Int) % 2) < 2 ^ 61 := Nat.or_lt_two_pow (by omega) (by omega)
  have h2 : orN ((orN ((u : Int) / 10) ((u : Int) % 2) : Nat) : Int) (if u % 10 = 0 then 0 else 1) < 2 ^ 61 := Nat.or_lt_two_pow (by omega) (by split <;> decide)
  unfold divU
  exact h2

def fwP (e : Int) (n : Nat) : Int := (n : Int) - 1 - (e + 63) * 78913 / 262144
def fwS (e : Int) (n : Nat) : Nat := (-(e + fwP e n * 108853 / 32768 + 3)).toNat
def fwU (m : Nat) (e : Int) (n : Nat) : Nat := uscV m (p10hi (fwP e n + 348).toNat) (p10lo (fwP e n + 348).toNat) (fwS e n)
def fwUP (m : Nat) (e : Int) (n : Nat) : Nat × Int := if 4 * 10 ^ n - 2 ≤ fwU m e n then (divU (fwU m e n), fwP e n - 1) else (fwU m e n, fwP e n)
def fwEnd (m : Nat) (e : Int) (n : Nat) (prec : Int) (fmt : Nat) : Nat × Int :=
  if fmt = 102 ∧ prec < (fwUP m e n).2 then (itU ((fwUP m e n).2 - prec).toNat (fwUP m e n).1, prec) else fwUP m e n

theorem fw_bd (e : Int) (n : Nat) (he1 : -1137 ≤ e) (he2 : e ≤ 960) (hn1 : 1 ≤ n) (hn2 : n ≤ 18) :
    -330 ≤ fwP e n ∧ fwP e n ≤ 345 ∧ 0 ≤ -(e + fwP e n * 108853 / 32768 + 3) ∧ -(e + fwP e n * 108853 / 32768 + 3) ≤ 63 := by
  unfold fwP
  obtain ⟨a, ea⟩ : ∃ a, (e + 63) * 78913 / 262144 = a := ⟨_, rfl⟩
  rw [ea]
  have : 262144 * a ≤ (e + 63) * 78913 ∧ (e + 63) * 78913 < 262144 * a + 262144 := by omega
  clear ea
  refine ⟨by omega, by omega, by omega, by omega⟩

theorem itU_lt : ∀ (j u : Nat), u < 18446744073709551612 → itU j u < 18446744073709551612
  | 0, u, h => h
  | j + 1, u, h => itU_lt j (divU u) (by have := divU_lt u (by omega); omega)

set_option maxRecDepth 100000 in
set_option maxHeartbeats 4000000 in
theorem fixedWidth_any (m : Nat) (e : Int) (n : Nat) (prec : Int) (fmt : Nat) (w : World) (hL : LaidG w) (hm : m < 18446744073709551616) (he1 : -1137 ≤ e) (he2 : e ≤ 960) (hn1 : 1 ≤ n) (hn2 : n ≤ 18) (hp1 : 0 ≤ prec) (hp2 : prec ≤ 1000)
    (hu : fwU m e n < 18446744073709551612) :
    Calls Tryz.prog 93 #[.int .u64 m, .int .i64 e, .int .i64 n, .int .i64 prec, .int .u8 fmt] w fun en w' => en = .returned (.tuple #[.int .u64 (roundN (fwEnd m e n prec fmt).1), .int .i64 (-(fwEnd m e n prec fmt).2)]) ∧ Below w.heap.size w w' := by
  obtain ⟨b1, b2, b3, b4⟩ := fw_bd e n he1 he2 hn1 hn2
  obtain ⟨k, ek⟩ : ∃ k : Nat, fwP e n = (k : Int) - 348 := ⟨(fwP e n + 348).toNat, by omega⟩
  obtain ⟨s, es⟩ : ∃ s : Nat, -(e + fwP e n * 108853 / 32768 + 3) = s := ⟨(-(e + fwP e n * 108853 / 32768 + 3)).toNat, by omega⟩
  have hs63 : s ≤ 63 := by omega
  have hk : k < 696 := by omega
  obtain ⟨lp, elp⟩ : ∃ lp, ((k : Int) - 348) * 108853 / 32768 = lp := ⟨_, rfl⟩
  have hlp : -2000 ≤ lp ∧ lp ≤ 2000 := by omega
  have H0 := Lib.hid (fun W => log10p_any (e + 63) (by omega) (by omega) W)
  have hl10 : (n : Int) - 1 - (e + 63) * 78913 / 262144 = (k : Int) - 348 := by rw [← ek]; rfl
  obtain ⟨a, ea⟩ : ∃ a, (e + 63) * 78913 / 262144 = a := ⟨_, rfl⟩
  rw [ea] at H0 hl10
  have h2 := fun W => log2p_any ((k : Int) - 348) (by omega) (by omega) W
  rw [elp] at h2
  have H2 := Lib.hid h2
  have h3 := fun W (hL : LaidT W) => prescale_any k e lp (.int .u64 0) (.int .u64 0) (.int .i64 0) W hk hL (by omega) (by omega) (by omega) (by omega)
  rw [ek, elp] at es
  rw [es] at h3
  have H3 := Lib.hid h3
  have hU : fwU m e n = uscV m (p10hi k) (p10lo k) s := by
    unfold fwU fwS; rw [ek, show ((k : Int) - 348 + 348).toNat = k by omega, elp, es]; rfl
  have h4 := fun (W : World) b c0 c1 c2 => uscale_any m (p10hi k) (p10lo k) s b W hm (p10_lt k).1 (p10_lt k).2 hs63 c0 c1 c2
  rw [← hU] at h4
  have H4 := Lib.hid h4
  obtain ⟨u, eu⟩ : ∃ u, fwU m e n = u := ⟨_, rfl⟩
  rw [eu] at H4 hu
  have hUP : fwUP m e n = if 4 * 10 ^ n - 2 ≤ u then (divU u, (k : Int) - 348 - 1) else (u, (k : Int) - 348) := by unfold fwUP; rw [eu, ek]
  have cu := hL.u10 n (by omega)
  obtain ⟨T, eT⟩ : ∃ T : Nat, 10 ^ n = T := ⟨_, rfl⟩
  have hT1 : 1 ≤ T := by rw [← eT]; exact p10_pos n
  have hT2 : T ≤ 1000000000000000000 := by
    rw [← eT]
    exact Nat.le_trans (Nat.pow_le_pow_right (by omega) hn2) (by decide)
  rw [eT] at cu hUP
  have H5 := Lib.hid (fun W => unmin_any T hT1 (by omega) W)
  have gu := fun o (q : Nat) => (show ((w.alloc o).drewN q).cell? ⟨3, n, none⟩ = some (.int .u64 (T : Nat)) from cell_al cu o)
  have HLT := Lib.hid hL.lt
  have HUP := Lib.hid hUP
  have HD := Lib.hid (fun u h W => div_any u h W)
  clear hL h2 h3 h4 hU eu cu eT hUP es elp ea ek b1 b2 b3 b4
  go_enter Tryz.func93, Tryz.ntmps93
  go_upto_if 32 with (first | (go_at_call 123; refine (H5.out _).mono ?_; rintro e w' ⟨rfl, rfl⟩) | (go_at_call 92; refine (H0.out _).mono ?_; rintro e w' ⟨rfl, rfl⟩) | (go_at_call 116; refine (H2.out _).mono ?_; rintro e w' ⟨rfl, rfl⟩) | (go_at_call 115; refine (H3.out _ HLT.out).mono ?_; rintro e w' ⟨rfl, rfl⟩) | (go_at_call 117; refine (H4.out _ _ ?c0 ?c1 ?c2).mono ?_; rotate_left 3; rintro e w' ⟨rfl, nq, rfl⟩))
  case c0 => rw [World.cell?_alloc_at _ _ _ _ rfl]; rfl
  case c1 => rw [World.cell?_alloc_at _ _ _ _ rfl]; rfl
  case c2 => rw [World.cell?_alloc_at _ _ _ _ rfl]; rfl
  obtain ⟨Sc, eSc⟩ : ∃ Sc : Obj, Obj.cells #[Value.int IntKind.u64 (p10hi k), Value.int IntKind.u64 (p10lo k), Value.int IntKind.i64 s] 154 = Sc := ⟨_, rfl⟩
  rw [eSc]
  clear eSc H3 H4 H5 gu HLT
  go_cut [11, 13] (fun p x wx => ∃ (U : Nat) (P : Int) (q : Nat), p = .int .i64 P ∧ x = .int .u64 U ∧ Hid (fwUP m e n = (U, P)) ∧ U < 18446744073709551612 ∧ -400 ≤ P ∧ P ≤ 400 ∧ wx = (w.alloc Sc).drewN q)
  case first =>
    as_aux_lemma =>
      have hdl := divU_lt u (by omega)
      by_cases h : 4 * T - 2 ≤ u
      · have hb : ((4 * T - 2 : Nat) : Int) ≤ (u : Int) := by omega
        have HR : Hid (fwUP m e n = (divU u, (k : Int) - 348 - 1)) := by unfold Hid; rw [HUP.out, if_pos h]
        go_wp2_with (go_at_call 124; refine (HD.out u (by omega) _).mono ?_; rintro e w' ⟨rfl, q, rfl⟩)
        go_meet
        exact ⟨_, _, _, by go_num, rfl, HR, by omega, by omega, by omega, rfl⟩
      · have hb : ¬ ((4 * T - 2 : Nat) : Int) ≤ (u : Int) := by omega
        have HR : Hid (fwUP m e n = (u, (k : Int) - 348)) := by unfold Hid; rw [HUP.out, if_neg h]
        go_wp2
        go_meet
        exact ⟨_, _, _, rfl, rfl, HR, hu, by omega, by omega, rfl⟩
  case rest =>
    obtain ⟨U, P, q, rfl, rfl, HR, hU, hP1, hP2, rfl⟩ := hcut
    clear HUP hu
    by_cases h102 : fmt = 102
    · have b102 : ((fmt : Int) == 102) = true := by rw [h102]; rfl
      obtain ⟨L, eL⟩ : ∃ L : Nat, (if prec < P then (P - prec).toNat else 0) = L := ⟨_, rfl⟩
      have hE : fwEnd m e n prec fmt = (itU L U, if prec < P then prec else P) := by
        unfold fwEnd; rw [HR.out]
        by_cases h : prec < P
        · rw [if_pos ⟨h102, h⟩, if_pos h, ← eL, if_pos h]
        · rw [if_neg (fun hh => h hh.2), if_neg h, ← eL, if_neg h]; rfl
      have HE := Lib.hid hE
      have HL : Hid ((prec < P ∧ (L : Int) = P - prec) ∨ (¬ prec < P ∧ L = 0)) := by
        unfold Hid; by_cases h : prec < P
        · left; rw [if_pos h] at eL; exact ⟨h, by omega⟩
        · right; rw [if_neg h] at eL; exact ⟨h, eL.symm⟩
      clear hE eL HR h102
      as_aux_lemma =>
        go_wp2
        go_loopg [11, 13] L (fun gk p x wr => ∃ (V : Nat) (Q : Int) (q' : Nat), gk ≤ L ∧ p = .int .i64 Q ∧ x = .int .u64 V ∧ V < 18446744073709551612 ∧ Hid (itU L U = itU gk V) ∧ Hid (Q = P - ((L : Int) - gk)) ∧ -400 ≤ Q ∧ Q ≤ 400 ∧ wr = (w.alloc Sc).drewN q')
        case atStart => exact ⟨U, P, q, Nat.le_refl _, rfl, rfl, hU, rfl, by unfold Hid; omega, hP1, hP2, rfl⟩
        case round =>
          obtain ⟨V, Q, q', hgk, rfl, rfl, hV, HI, HQ, hQ1, hQ2, rfl⟩ := hrel
          cases gk with
          | zero =>
            have hnq : ¬ prec < Q := by have h1 := HQ.out; have h2 := HL.out; omega
            have HF : Hid (fwEnd m e n prec fmt = (V, Q)) := by
              unfold Hid; rw [HE.out, HI.out]
              have h1 := HQ.out; have h2 := HL.out
              show (V, _) = _
              congr 1
              split <;> omega
            have H6 := Lib.hid (fun W => round_any V hV W)
            have hw : RowKit.wrap64 (-Q) = -Q := by unfold RowKit.wrap64; omega
            as_aux_lemma =>
              go_wp2_with (go_at_call 121; refine (H6.out _).mono ?_; rintro e w' ⟨rfl, rfl⟩)
              go_ret2
              exact ⟨by rw [HF.out]; rfl, below_drewN ((Below.refl _ _).alloc (Nat.le_refl _) _) _⟩
          | succ gk =>
            have hnq : prec < Q := by have h1 := HQ.out; have h2 := HL.out; omega
            have hdl := divU_lt V (by omega)
            as_aux_lemma =>
              go_wp2_with (go_at_call 124; refine (HD.out V (by omega) _).mono ?_; rintro e w' ⟨rfl, q2, rfl⟩)
              go_roundg gk
              case measure => omega
              case rel => exact ⟨divU V, Q - 1, _, by omega, by go_num, rfl, by omega, by unfold Hid; rw [HI.out]; rfl, by have h1 := HQ.out; unfold Hid; omega, by omega, by omega, rfl⟩
    · have b102 : ((fmt : Int) == 102) = false := beq_eq_false_iff_ne.2 (by omega)
      have HF : Hid (fwEnd m e n prec fmt = (U, P)) := by unfold Hid fwEnd; rw [HR.out, if_neg (fun hh => h102 hh.1)]
      have H6 := Lib.hid (fun W => round_any U hU W)
      have hw : RowKit.wrap64 (-P) = -P := by unfold RowKit.wrap64; omega
      as_aux_lemma =>
        go_wp2_with (go_at_call 121; refine (H6.out _).mono ?_; rintro e w' ⟨rfl, rfl⟩)
        go_ret2
        exact ⟨by rw [HF.out]; rfl, below_drewN ((Below.refl _ _).alloc (Nat.le_refl _) _) _⟩
end Go.Proofs.YtdencljnbilchaaGreatDoor
