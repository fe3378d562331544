/- Walks: the unrounded scaling's small functions. -/
import Derived.Test.YtdencljnbilchaaGreatDoorXe
import Derived.BigQuiet
import Derived.Deep.QuietTactic

namespace Go.Proofs.YtdencljnbilchaaGreatDoor
open Go.RowKit

theorem bool2i_any (b : Bool) (w : World) : Calls Tryz.prog 122 #[.bool b] w fun e w' => e = .returned (.int .i64 (if b then 1 else 0)) ∧ w = w' := by
  cases b <;> (go_enter Tryz.func122, Tryz.ntmps122; go_wp2; go_ret; exact ⟨rfl, rfl⟩)

theorem unmin_any (x : Nat) (hx0 : 1 ≤ x) (hx : x < 4611686018427387904) (w : World) : Calls Tryz.prog 123 #[.int .u64 x] w fun e w' => e = .returned (.int .u64 (4 * x - 2 : Nat)) ∧ w = w' := by
  go_enter Tryz.func123, Tryz.ntmps123
  go_wp2
  go_ret
  refine ⟨congrArg Ending.returned (congrArg (Value.int IntKind.u64) ?_), rfl⟩
  omega

theorem log2p_any (x : Int) (h0 : -1000000 ≤ x) (h1 : x ≤ 1000000) (w : World) : Calls Tryz.prog 116 #[.int .i64 x] w fun e w' => e = .returned (.int .i64 (x * 108853 / 32768)) ∧ w = w' := by
  go_enter Tryz.func116, Tryz.ntmps116
  go_wp2
  go_ret
  exact ⟨rfl, rfl⟩

def roundN (u : Nat) : Nat := (u + 1 + u / 4 % 2) / 4
theorem round_any (u : Nat) (hu : u < 18446744073709551612) (w : World) : Calls Tryz.prog 121 #[.int .u64 u] w fun e w' => e = .returned (.int .u64 (roundN u)) ∧ w = w' := by
  have h1 : bits .and .u64 ((u : Int) / 4) 1 = (u : Int) / 4 % 2 := by
    have h := bits_and_u64_nat (u / 4) 1 (by omega) (by omega)
    rw [nat_mask1] at h
    exact h.trans (by omega)
  go_enter Tryz.func121, Tryz.ntmps121
  go_wp2
  go_ret
  refine ⟨congrArg Ending.returned (congrArg (Value.int IntKind.u64) ?_), rfl⟩
  unfold roundN
  omega

theorem quiet_left {P : Program} {f : FuncId} {args : Array Value} {w : World} {n : Nat} {v : Value}
    (h : Calls P f args (w.drewN n) fun e w' => e = .returned v ∧ w.drewN n = w') : Calls P f args (w.drewN n) fun e w'' => e = .returned v ∧ ∃ m, w'' = w.drewN m :=
  h.mono fun _ _ ⟨he, hm⟩ => ⟨he, n, hm.symm⟩

def orN (a b : Int) : Nat := a.toNat ||| b.toNat
theorem orN_lt (a b : Int) (ha : a < 18446744073709551616) (hb : b < 18446744073709551616) : orN a b < 18446744073709551616 :=
  Nat.or_lt_two_pow (n := 64) (by omega) (by omega)
theorem or_N (a b : Int) (h1 : 0 ≤ a) (h2 : a < 18446744073709551616) (h3 : 0 ≤ b) (h4 : b < 18446744073709551616) : bits .or .u64 a b = (orN a b : Nat) := u64_or a b h1 h2 h3 h4
theorem div_pow_bd (H : Int) (s : Nat) (h0 : 0 ≤ H) (h : H < 18446744073709551616) : 0 ≤ H / 2 ^ s ∧ H / 2 ^ s < 18446744073709551616 := by
  have hp : (0 : Int) < 2 ^ s := Int.pow_pos (by omega)
  exact ⟨Int.ediv_nonneg h0 (by omega), Int.lt_of_le_of_lt (Int.ediv_le_self _ h0) h⟩

/-- What the scaling of x by hi * 2^64 - lo and by 2^-s leaves: the whole part, and whether anything is left over. -/
def uscV (x hi lo s : Nat) : Nat :=
  if (((x * hi / 18446744073709551616 : Nat) : Int) / 2 ^ s * 2 ^ s) % 18446744073709551616 ≠ (x * hi / 18446744073709551616 : Nat) then orN (((x * hi / 18446744073709551616 : Nat) : Int) / 2 ^ s) 1
  else if x * hi % 18446744073709551616 < x * lo / 18446744073709551616 then
    orN ((((x * hi / 18446744073709551616 : Nat) : Int) - 1) % 18446744073709551616 / 2 ^ s) (if 1 < (((x * hi % 18446744073709551616 : Nat) : Int) - (x * lo / 18446744073709551616 : Nat)) % 18446744073709551616 then 1 else 0)
  else orN (((x * hi / 18446744073709551616 : Nat) : Int) / 2 ^ s) (if 1 < (((x * hi % 18446744073709551616 : Nat) : Int) - (x * lo / 18446744073709551616 : Nat)) % 18446744073709551616 then 1 else 0)

theorem hi64_lt (x y : Nat) (hx : x < 18446744073709551616) (hy : y < 18446744073709551616) : x * y / 18446744073709551616 < 18446744073709551616 := by
  rw [Nat.div_lt_iff_lt_mul (by omega)]
  exact Nat.mul_lt_mul'' hx hy

theorem uscV_lt (x hi lo s : Nat) (hx : x < 18446744073709551616) (hhi : hi < 18446744073709551616) : uscV x hi lo s < 18446744073709551616 := by
  have h1 := hi64_lt x hi hx hhi
  unfold uscV
  have d1 := div_pow_bd ((x * hi / 18446744073709551616 : Nat) : Int) s (by omega) (by omega)
  have d2 := div_pow_bd ((((x * hi / 18446744073709551616 : Nat) : Int) - 1) % 18446744073709551616) s (by omega) (by omega)
  split
  · exact orN_lt _ _ d1.2 (by omega)
  · split
    · exact orN_lt _ _ d2.2 (by split <;> omega)
    · exact orN_lt _ _ d1.2 (by split <;> omega)

theorem and63 (s : Nat) (hs : s ≤ 63) : bits .and .i64 (s : Int) 63 = s := by
  have h : ∀ s : Fin 64, bits .and .i64 ((s : Nat) : Int) 63 = (s : Nat) := by decide +kernel
  exact h ⟨s, by omega⟩

set_option maxHeartbeats 2000000 in
theorem uscale_any (x hi lo s b : Nat) (w : World) (hx : x < 18446744073709551616) (hhi : hi < 18446744073709551616) (hlo : lo < 18446744073709551616) (hs : s ≤ 63)
    (c0 : w.cell? ⟨b, 0, none⟩ = some (.int .u64 hi)) (c1 : w.cell? ⟨b, 1, none⟩ = some (.int .u64 lo)) (c2 : w.cell? ⟨b, 2, none⟩ = some (.int .i64 s)) :
    Calls Tryz.prog 117 #[.int .u64 x, .pointer (some ⟨b, 0, none⟩)] w fun e w' => e = .returned (.int .u64 (uscV x hi lo s)) ∧ ∃ n, w' = w.drewN n := by
  have h1 := fun W => mul64_any x hi W hx hhi
  have h2 := fun W => mul64_any x lo W hx hlo
  have hand := and63 s hs
  have b1 := hi64_lt x hi hx hhi
  have b2 : x * hi % 18446744073709551616 < 18446744073709551616 := by omega
  have b3 := hi64_lt x lo hx hlo
  obtain ⟨H, eH⟩ : ∃ H, x * hi / 18446744073709551616 = H := ⟨_, rfl⟩
  obtain ⟨M, eM⟩ : ∃ M, x * hi % 18446744073709551616 = M := ⟨_, rfl⟩
  obtain ⟨M2, eM2⟩ : ∃ M2, x * lo / 18446744073709551616 = M2 := ⟨_, rfl⟩
  obtain ⟨L2, eL2⟩ : ∃ L2, x * lo % 18446744073709551616 = L2 := ⟨_, rfl⟩
  have hV : uscV x hi lo s = if ((H : Int) / 2 ^ s * 2 ^ s) % 18446744073709551616 ≠ (H : Int) then orN ((H : Int) / 2 ^ s) 1
      else if M < M2 then orN (((H : Int) - 1) % 18446744073709551616 / 2 ^ s) (if 1 < ((M : Int) - M2) % 18446744073709551616 then 1 else 0)
      else orN ((H : Int) / 2 ^ s) (if 1 < ((M : Int) - M2) % 18446744073709551616 then 1 else 0) := by
    unfold uscV; rw [eH, eM, eM2]
  rw [eH, eM] at h1
  rw [eM2, eL2] at h2
  rw [eH] at b1
  rw [eM] at b2
  rw [eM2] at b3
  have H1 := Lib.hid h1
  have H2 := Lib.hid h2
  have HV := Lib.hid hV
  clear h1 h2 hV eH eM eM2 eL2
  have d1 := div_pow_bd (H : Int) s (by omega) (by omega)
  have d2 := div_pow_bd (((H : Int) - 1) % 18446744073709551616) s (by omega) (by omega)
  have o1 := or_N _ 1 d1.1 d1.2 (by omega) (by omega)
  have o2 := or_N _ 0 d1.1 d1.2 (by omega) (by omega)
  have o3 := or_N _ 1 d2.1 d2.2 (by omega) (by omega)
  have o4 := or_N _ 0 d2.1 d2.2 (by omega) (by omega)
  have hw := IntKind.wrap_u64
  by_cases ht : ((H : Int) / 2 ^ s * 2 ^ s) % 18446744073709551616 = (H : Int)
  · have bt : (((H : Int) / 2 ^ s * 2 ^ s) % 18446744073709551616 != (H : Int)) = false := by simp [ht]
    have HT := Lib.hid ht
    clear ht
    by_cases hm : M < M2
    · by_cases hr : 1 < ((M : Int) - M2) % 18446744073709551616
      · have br : decide ((1 : Int) < ((M : Int) - M2) % 18446744073709551616) = true := by simpa using hr
        have HR : Hid (uscV x hi lo s = orN (((H : Int) - 1) % 18446744073709551616 / 2 ^ s) 1) := by unfold Hid; rw [HV.out, if_neg (by rw [HT.out]; simp), if_pos hm, if_pos hr]
        clear HV
        go_enter Tryz.func117, Tryz.ntmps117
        go_wp2_with (first | (go_at_call 79; first | (with_reducible refine (H1.out _).mono ?_; rintro e w' ⟨rfl, rfl⟩) | (with_reducible refine (H2.out _).mono ?_; rintro e w' ⟨rfl, rfl⟩)) | (go_at_call 136; refine (bool2_any _ _).mono ?_; rintro e w' ⟨rfl, rfl⟩))
        go_quiet ((go_at_call 136; exact quiet_left (bool2_any _ _)))
        go_wp2
        go_ret
        exact ⟨congrArg Ending.returned (congrArg (Value.int IntKind.u64) (by rw [HR.out])), _, rfl⟩
      · have br : decide ((1 : Int) < ((M : Int) - M2) % 18446744073709551616) = false := by simpa using hr
        have HR : Hid (uscV x hi lo s = orN (((H : Int) - 1) % 18446744073709551616 / 2 ^ s) 0) := by unfold Hid; rw [HV.out, if_neg (by rw [HT.out]; simp), if_pos hm, if_neg hr]
        clear HV
        go_enter Tryz.func117, Tryz.ntmps117
        go_wp2_with (first | (go_at_call 79; first | (with_reducible refine (H1.out _).mono ?_; rintro e w' ⟨rfl, rfl⟩) | (with_reducible refine (H2.out _).mono ?_; rintro e w' ⟨rfl, rfl⟩)) | (go_at_call 136; refine (bool2_any _ _).mono ?_; rintro e w' ⟨rfl, rfl⟩))
        go_quiet ((go_at_call 136; exact quiet_left (bool2_any _ _)))
        go_wp2
        go_ret
        exact ⟨congrArg Ending.returned (congrArg (Value.int IntKind.u64) (by rw [HR.out])), _, rfl⟩
    · by_cases hr : 1 < ((M : Int) - M2) % 18446744073709551616
      · have br : decide ((1 : Int) < ((M : Int) - M2) % 18446744073709551616) = true := by simpa using hr
        have HR : Hid (uscV x hi lo s = orN ((H : Int) / 2 ^ s) 1) := by unfold Hid; rw [HV.out, if_neg (by rw [HT.out]; simp), if_neg hm, if_pos hr]
        clear HV
        go_enter Tryz.func117, Tryz.ntmps117
        go_wp2_with (first | (go_at_call 79; first | (with_reducible refine (H1.out _).mono ?_; rintro e w' ⟨rfl, rfl⟩) | (with_reducible refine (H2.out _).mono ?_; rintro e w' ⟨rfl, rfl⟩)) | (go_at_call 136; refine (bool2_any _ _).mono ?_; rintro e w' ⟨rfl, rfl⟩))
        go_quiet ((go_at_call 136; exact quiet_left (bool2_any _ _)))
        go_wp2
        go_ret
        exact ⟨congrArg Ending.returned (congrArg (Value.int IntKind.u64) (by rw [Int.emod_eq_of_lt (a := (H : Int)) (by omega) (by omega), o1, HR.out])), _, rfl⟩
      · have br : decide ((1 : Int) < ((M : Int) - M2) % 18446744073709551616) = false := by simpa using hr
        have HR : Hid (uscV x hi lo s = orN ((H : Int) / 2 ^ s) 0) := by unfold Hid; rw [HV.out, if_neg (by rw [HT.out]; simp), if_neg hm, if_neg hr]
        clear HV
        go_enter Tryz.func117, Tryz.ntmps117
        go_wp2_with (first | (go_at_call 79; first | (with_reducible refine (H1.out _).mono ?_; rintro e w' ⟨rfl, rfl⟩) | (with_reducible refine (H2.out _).mono ?_; rintro e w' ⟨rfl, rfl⟩)) | (go_at_call 136; refine (bool2_any _ _).mono ?_; rintro e w' ⟨rfl, rfl⟩))
        go_quiet ((go_at_call 136; exact quiet_left (bool2_any _ _)))
        go_wp2
        go_ret
        exact ⟨congrArg Ending.returned (congrArg (Value.int IntKind.u64) (by rw [Int.emod_eq_of_lt (a := (H : Int)) (by omega) (by omega), o2, HR.out])), _, rfl⟩
  · have bt : (((H : Int) / 2 ^ s * 2 ^ s) % 18446744073709551616 != (H : Int)) = true := by simp [ht]
    have HR : Hid (uscV x hi lo s = orN ((H : Int) / 2 ^ s) 1) := by unfold Hid; rw [HV.out, if_pos ht]
    clear HV ht
    go_enter Tryz.func117, Tryz.ntmps117
    go_wp2_with (first | (go_at_call 79; first | (with_reducible refine (H1.out _).mono ?_; rintro e w' ⟨rfl, rfl⟩) | (with_reducible refine (H2.out _).mono ?_; rintro e w' ⟨rfl, rfl⟩)) | (go_at_call 136; refine (bool2_any _ _).mono ?_; rintro e w' ⟨rfl, rfl⟩))
    go_ret
    exact ⟨congrArg Ending.returned (congrArg (Value.int IntKind.u64) (by rw [HR.out])), 0, rfl⟩

end Go.Proofs.YtdencljnbilchaaGreatDoor
