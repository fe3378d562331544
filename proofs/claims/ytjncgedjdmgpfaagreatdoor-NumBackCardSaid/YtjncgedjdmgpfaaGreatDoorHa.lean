/- formatBase10: the shelf's contract, at this program. formatBase10 on a block of bytes; setDigits. Shift and Round whatever the sign; the bound of fixedWidthFloat's number. -/
import Derived.Test.YtjncgedjdmgpfaaGreatDoorFe
import Derived.Test.YtjncgedjdmgpfaaGreatDoorVf
import Derived.Shelf.Strconv.Itoa2
import Derived.Deep.DeepCutAuto
import Derived.Test.YtjncgedjdmgpfaaGreatDoorFh
import Derived.Test.YtjncgedjdmgpfaaGreatDoorXl

namespace Go.Proofs.YtjncgedjdmgpfaaGreatDoor
open Go.RowKit Go.Shelf

def renS : Ren where
  f := fun x => if x = 285 then 109 else x
  t := fun x => if x = 3 then 3 else if x = 4 then 4 else if x = 5 then 5 else if x = 9 then 9 else if x = 37 then 22 else if x = 51 then 31 else if x = 53 then 50 else x
  g := fun x => x

theorem lays285 : Lays.n285 Tryz.prog renS where
  mixed := by kernel_rfl
  f285 := by kernel_rfl
  t0 := by kernel_rfl
  a0 := fun w => by kernel_rfl
  z0 := fun w => by kernel_rfl
  v0 := fun w => by kernel_rfl
  t3 := by kernel_rfl
  a3 := fun w => by kernel_rfl
  z3 := fun w => by kernel_rfl
  v3 := fun w => by kernel_rfl
  t4 := by kernel_rfl
  a4 := fun w => by kernel_rfl
  z4 := fun w => by kernel_rfl
  v4 := fun w => by kernel_rfl
  t5 := by kernel_rfl
  a5 := fun w => by kernel_rfl
  z5 := fun w => by kernel_rfl
  v5 := fun w => by kernel_rfl
  t9 := by kernel_rfl
  a9 := fun w => by kernel_rfl
  z9 := fun w => by kernel_rfl
  v9 := fun w => by kernel_rfl
  t37 := by kernel_rfl
  a37 := fun w => by kernel_rfl
  z37 := fun w => by kernel_rfl
  v37 := fun w => by kernel_rfl
  t51 := by kernel_rfl
  a51 := fun w => by kernel_rfl
  z51 := fun w => by kernel_rfl
  v51 := fun w => by kernel_rfl
  t53 := by kernel_rfl
  a53 := fun w => by kernel_rfl
  z53 := fun w => by kernel_rfl
  v53 := fun w => by kernel_rfl

end Go.Proofs.YtjncgedjdmgpfaaGreatDoor

namespace Go.Proofs.YtjncgedjdmgpfaaGreatDoor
open Go.RowKit Go.Sort

def encB : UInt8 → Value := fun (b : UInt8) => Value.int .u8 (b.toNat : Int)

theorem onlyB_putRow (w : World) (b : Nat) (d : Array UInt8) (n : Nat) : OnlyB b w ((putRow encB w b 0 d).drewN n) where
  os := rfl
  tape := rfl
  output := rfl
  size := by show w.heap.size ≤ (putRow encB w b 0 d).heap.size; simp
  block := fun k _ hne => by
    show (w.heap.modify b (onCells (putCells encB 0 d)))[k]? = _
    rw [Array.getElem?_modify, if_neg (fun e => hne (by rw [e]))]

theorem dg_toNat (u j : Nat) : (Go.Lib.dg u j).toNat = 48 + u / 10 ^ j % 10 := by
  unfold Go.Lib.dg; rw [UInt8.toNat_ofNat']; omega

set_option maxRecDepth 100000 in
theorem fb10_any (w : World) (b n cap u : Nat) (f : Nat → Nat) (hB : BufF w b f n) (hf : ∀ i, f i < 256) (hn : n ≤ 1000) (hu : u < 10 ^ n) (hu64 : u < 18446744073709551616) :
    Calls Tryz.prog 109 #[.slice (some ⟨b, 0, none⟩) n cap, .int .u64 u] w fun e w' => e = .returned (.tuple #[]) ∧ BufF w' b (dgf u n) n ∧ OnlyB b w w' := by
  obtain ⟨d, hd⟩ : ∃ d : Array UInt8, d = ((List.range n).map fun i => UInt8.ofNat (f i)).toArray := ⟨_, rfl⟩
  have hsz : d.size = n := by rw [hd]; simp
  have hget : ∀ i, i < n → (d[i]!).toNat = f i := fun i hi => by
    have : d[i]! = UInt8.ofNat (f i) := by rw [hd]; simp [hi]
    rw [this, UInt8.toNat_ofNat']
    have := hf i
    omega
  have hH : Holds (fun (b : UInt8) => Value.int .u8 (b.toNat : Int)) w b 0 d := fun j hj => by
    rw [hsz] at hj
    rw [Nat.zero_add]
    refine ⟨?_, hB.fz j⟩
    show _ = some (Value.int .u8 ((d[j]!).toNat : Int))
    rw [hget j hj]
    exact hB.d j hj
  have h := Any.internal_strconv_formatBase10 lays285 b 0 cap u d w hH (by rw [hsz]; exact hu) hu64 (by rw [hsz]; omega)
  rw [hsz] at h
  have hfn : renS.f 285 = 109 := by kernel_rfl
  rw [hfn] at h
  refine h.mono ?_
  rintro e w' ⟨he, q, v', dk, rfl, hI⟩
  refine ⟨he, ⟨fun i hi => ?_, fun i => ?_⟩, onlyB_putRow w b dk q⟩
  · have h1 := cell?_putRow (fun (b : UInt8) => Value.int .u8 (b.toNat : Int)) w b 0 d dk hH (by rw [hI.size, hsz]) i (by rw [hI.size]; exact hi)
    rw [Nat.zero_add] at h1
    show (putRow (fun (b : UInt8) => Value.int .u8 (b.toNat : Int)) w b 0 dk).cell? ⟨b, i, none⟩ = _
    rw [h1, hI.done i (Nat.zero_le _) hi]
    show some (Value.int .u8 ((Go.Lib.dg u (n - 1 - i)).toNat : Int)) = _
    rw [dg_toNat]; rfl
  · show (putRow (fun (b : UInt8) => Value.int .u8 (b.toNat : Int)) w b 0 dk).frozen? ⟨b, i, none⟩ = false
    rw [frozen?_putRow]
    exact hB.fz i

set_option maxHeartbeats 1600000 in
set_option maxRecDepth 100000 in
theorem setDigits_any (w : World) (b u n cap : Nat) (p : Int) (f : Nat → Nat) (hB : BufF w b f n) (hf : ∀ i, f i < 256) (hn : n ≤ 24) (hcap : 24 ≤ cap) (hu : u < 10 ^ n) (hu64 : u < 18446744073709551616) (hp1 : -100000 ≤ p) (hp2 : p ≤ 100000) :
    Calls Tryz.prog 72 #[.slice (some ⟨b, 0, none⟩) 24 cap, .int .u64 u, .int .i64 p, .int .i64 n] w fun e w' => e = .returned (.tuple #[.int .i64 (n + p), .int .i64 (trimN n u).1]) ∧ BufF w' b (dgf u n) n ∧ OnlyB b w w' := by
  have H1 := Lib.hid (fb10_any w b n cap u f hB hf (by omega) hu hu64)
  clear hB hf hu
  go_enter Tryz.func72, Tryz.ntmps72
  go_wp2_with (go_at_call 109; refine H1.out.mono ?_; rintro e w1 ⟨rfl, hb1, ho1⟩)
  have HB := Lib.hid hb1
  clear hb1
  go_loop [3] (fun v => ∃ (k M : Nat), k ≤ n ∧ v = .int .i64 k ∧ Hid (M = u / 10 ^ (n - k)) ∧ Hid (trimN n u = trimN k M)) (fun v => (intOf v).toNat)
  case atStart => exact ⟨n, u, Nat.le_refl _, rfl, by simp [Hid], rfl⟩
  case round =>
    obtain ⟨k, M, hk, rfl, HM, HT⟩ := hrel
    cases k with
    | zero =>
      have HR : Hid ((trimN n u).1 = 0) := by unfold Hid; rw [HT.out]; rfl
      clear HT
      go_wp2
      go_ret2
      exact ⟨by rw [HR.out]; rfl, HB.out, ho1⟩
    | succ k =>
      have ck := HB.out.d k (by omega)
      have e1 : ((k + 1 : Nat) : Int) - 1 = (k : Int) := by omega
      have hdk : dgf u n k = 48 + M % 10 := by unfold dgf; rw [HM.out, show n - 1 - k = n - (k + 1) by omega]
      rw [hdk] at ck
      by_cases h9 : M % 10 = 0
      · rw [h9] at ck
        have HT2 : Hid (trimN n u = trimN k (M / 10)) := by unfold Hid; rw [HT.out, trimN_yes h9]
        have HM2 : Hid (M / 10 = u / 10 ^ (n - k)) := by unfold Hid; rw [HM.out, Nat.div_div_eq_div_mul, show n - k = n - (k + 1) + 1 by omega, Nat.pow_succ]
        clear hdk h9 HT HM
        go_wp2
        go_round
        case rel => exact ⟨k, M / 10, by omega, by go_num, HM2, HT2⟩
        case measure => simp [intOf]
      · have HR : Hid ((trimN n u).1 = k + 1) := by unfold Hid; rw [HT.out, trimN_no h9]
        obtain ⟨D, eD⟩ : ∃ D, 48 + M % 10 = D := ⟨_, rfl⟩
        rw [eD] at ck
        have b48 : ((D : Int) == 48) = false := beq_eq_false_iff_ne.2 (by omega)
        clear hdk HT eD h9 HM
        go_wp2
        go_ret2
        exact ⟨by rw [HR.out]; rfl, HB.out, ho1⟩

end Go.Proofs.YtjncgedjdmgpfaaGreatDoor

namespace Go.Proofs.YtjncgedjdmgpfaaGreatDoor
open Go.RowKit

theorem shift0_any (w : World) (b : Nat) (ng : Bool) (s : DS) (hs : s.ok) (hD : DecS w b ng s) :
    Calls Tryz.prog 77 #[.pointer (some ⟨b, 0, none⟩), .int .i64 0] w (DecEnd w b ng s) := by
  have hn1 := hs.1
  have HD := Lib.hid hD
  obtain ⟨f0, hF0, _⟩ := hD
  have c800 := hF0.nd
  have bn : ((s.nd : Int) == 0) = false := beq_eq_false_iff_ne.2 (by omega)
  clear hF0 hs hn1
  go_enter Tryz.func77, Tryz.ntmps77
  go_wp2
  go_end0
  exact ⟨rfl, HD.out, OnlyB.refl b w⟩

theorem shift_any (w : World) (b : Nat) (k : Int) (ng : Bool) (s : DS) (hU : Under w b) (hs : s.ok) (hk1 : -1100 ≤ k) (hk : k ≤ 1000) (hD : DecS w b ng s) (hp1 : -500000000 ≤ s.dp) (hp2 : s.dp ≤ 500000000) :
    Calls Tryz.prog 77 #[.pointer (some ⟨b, 0, none⟩), .int .i64 k] w (DecEnd w b ng (shiR s k)) := by
  unfold shiR
  split
  · rename_i h
    have := shiftL_any w b k.toNat ng s hU hs (by omega) (by omega) hD hp1 hp2
    rwa [Int.toNat_of_nonneg (by omega)] at this
  · split
    · rename_i h1 h
      have := shiftR_any w b (-k).toNat ng s hs (by omega) (by omega) hD hp1 hp2
      rwa [Int.toNat_of_nonneg (by omega), Int.neg_neg] at this
    · obtain rfl : k = 0 := by omega
      exact shift0_any w b ng s hs hD

theorem round_neg (w : World) (b : Nat) (k : Int) (hk : k < 0) : 
    Calls Tryz.prog 78 #[.pointer (some ⟨b, 0, none⟩), .int .i64 k] w fun e w' => e = .returned (.tuple #[]) ∧ w = w' := by
  go_enter Tryz.func78, Tryz.ntmps78
  go_wp2
  exact bodyPost_ret (v := .tuple #[]) (by simp [results, Tryz.results78, go_sem]) rfl ⟨rfl, rfl⟩

def roundI (s : DS) (k : Int) : DS := if k < 0 then s else roundR s k.toNat

theorem roundI_any (w : World) (b : Nat) (ng : Bool) (s : DS) (k : Int) (hk : k ≤ 1000000) (hs : s.nd ≤ 800) (hd1 : -1000000000 ≤ s.dp) (hd2 : s.dp ≤ 1000000000) (hD : DecS w b ng s) :
    Calls Tryz.prog 78 #[.pointer (some ⟨b, 0, none⟩), .int .i64 k] w (DecEnd w b ng (roundI s k)) := by
  unfold roundI
  split
  · rename_i h
    exact (round_neg w b k h).mono fun e w' ⟨h1, h2⟩ => ⟨h1, h2 ▸ hD, h2 ▸ OnlyB.refl b w⟩
  · have := round_any10 w b ng s k.toNat (by omega) hs hd1 hd2 hD
    rwa [Int.toNat_of_nonneg (by omega)] at this

theorem upN_le : ∀ (n A k B : Nat), upN n A = some (k, B) → k ≤ n
  | 0, _, _, _, h => by cases h
  | n + 1, A, k, B, h => by
    unfold upN at h
    split at h
    · have := upN_le n (A / 10) k B h; omega
    · cases h; exact Nat.le_refl _

theorem roundI_bd (s : DS) (k : Int) (h1 : 1 ≤ s.nd) (h2 : s.nd ≤ 800) (lo hi : Int) (hl : lo ≤ s.dp) (hh : s.dp ≤ hi) (hl0 : lo ≤ 0) (hh0 : 0 ≤ hi) :
    (roundI s k).nd ≤ 800 ∧ lo ≤ (roundI s k).dp ∧ (roundI s k).dp ≤ hi + 1 := by
  unfold roundI
  split
  · exact ⟨h2, hl, by omega⟩
  · unfold roundR
    split
    · exact ⟨h2, hl, by omega⟩
    · split
      · unfold upR
        split
        · exact ⟨by show (1 : Nat) ≤ 800; omega, by show lo ≤ s.dp + 1; omega, by show s.dp + 1 ≤ hi + 1; omega⟩
        · rename_i k' B' he
          have := upN_le _ _ _ _ he
          exact ⟨by show k' ≤ 800; omega, hl, by show s.dp ≤ hi + 1; omega⟩
      · have := trimN_le k.toNat (s.M / 10 ^ (s.nd - k.toNat))
        refine ⟨by show (trimN k.toNat (s.M / 10 ^ (s.nd - k.toNat))).1 ≤ 800; omega, ?_, ?_⟩
        · show lo ≤ dpT _ s.dp; unfold dpT; split <;> omega
        · show dpT _ s.dp ≤ hi + 1; unfold dpT; split <;> omega

theorem fw_one (e : Int) (n : Nat) (he1 : -1137 ≤ e) (he2 : e ≤ 960) (hn1 : 1 ≤ n) (hn2 : n ≤ 18) : 1 ≤ -(e + fwP e n * 108853 / 32768 + 3) := by
  unfold fwP
  obtain ⟨a, ea⟩ : ∃ a, (e + 63) * 78913 / 262144 = a := ⟨_, rfl⟩
  rw [ea]
  have : 262144 * a ≤ (e + 63) * 78913 ∧ (e + 63) * 78913 < 262144 * a + 262144 := by omega
  clear ea
  omega

theorem fwU_lt (m : Nat) (e : Int) (n : Nat) (hm : m < 18446744073709551616) (he1 : -1137 ≤ e) (he2 : e ≤ 960) (hn1 : 1 ≤ n) (hn2 : n ≤ 18) : fwU m e n < 18446744073709551612 := by
  have h1 := fw_one e n he1 he2 hn1 hn2
  obtain ⟨b1, b2, _, h63⟩ := fw_bd e n he1 he2 hn1 hn2
  have hS : 1 ≤ fwS e n ∧ fwS e n ≤ 63 := by unfold fwS; omega
  have hk := p10_lt (fwP e n + 348).toNat
  unfold fwU
  generalize p10hi (fwP e n + 348).toNat = H at hk
  generalize p10lo (fwP e n + 348).toNat = L at hk
  generalize fwS e n = s at hS
  have hX := hi64_lt m H hm hk.1
  have hp : (2 : Int) ≤ 2 ^ s := by
    obtain ⟨t, rfl⟩ : ∃ t, s = t + 1 := ⟨s - 1, by omega⟩
    have : (1 : Int) ≤ 2 ^ t := by
      have : 0 < (2 : Int) ^ t := Int.pow_pos (by decide)
      omega
    rw [Int.pow_succ]; omega
  obtain ⟨X, eX⟩ : ∃ X, m * H / 18446744073709551616 = X := ⟨_, rfl⟩
  rw [eX] at hX
  have key : ∀ (Y : Int) (c : Int), 0 ≤ Y → Y < 18446744073709551616 → 0 ≤ c → c ≤ 1 → orN (Y / 2 ^ s) c < 18446744073709551612 := fun Y c h0 h2 hc0 hc1 => by
    have hd0 : 0 ≤ Y / 2 ^ s := Int.ediv_nonneg h0 (by omega)
    have hd1 : Y / 2 ^ s < 9223372036854775808 := by
      rw [Int.ediv_lt_iff_lt_mul (by omega)]
      omega
    have : orN (Y / 2 ^ s) c < 2 ^ 63 := Nat.or_lt_two_pow (by omega) (by omega)
    omega
  unfold uscV
  rw [eX]
  split
  · exact key _ _ (by omega) (by omega) (by omega) (by omega)
  · split
    · exact key _ _ (by omega) (by omega) (by split <;> omega) (by split <;> omega)
    · exact key _ _ (by omega) (by omega) (by split <;> omega) (by split <;> omega)

end Go.Proofs.YtjncgedjdmgpfaaGreatDoor
