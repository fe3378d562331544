/- The walks of tailraceref16's IsWord, IsBuilt, IsName and of tailracehand's Pick. -/
import Derived.Test.YtkedagbknflacaaDoorWr
namespace Go.Proofs.YtkedagbknflacaaDoor
open Go.RowKit

set_option maxRecDepth 100000 in
set_option maxHeartbeats 1600000 in
theorem rIsWord_any (s : ByteArray) (w : World) : Calls Tryd.prog 16 #[.string s] w fun e w' => e = .returned (.bool (isWordL s.data.toList)) ∧ w = w' := by
  go_enter Tryd.func16, Tryd.ntmps16
  go_wp2_with (go_at_call 27; refine (among_any _ _ _ (by decide)).mono ?_; rintro e w' ⟨rfl, rfl⟩)
  go_ret
  refine ⟨ret_bool ?_, rfl⟩
  unfold amB isWordL
  refine congrArg (fun x => List.contains x s.data.toList) ?_
  kernel_rfl

set_option maxRecDepth 100000 in
set_option maxHeartbeats 1600000 in
theorem rIsBuilt_any (s : ByteArray) (w : World) : Calls Tryd.prog 15 #[.string s] w fun e w' => e = .returned (.bool (isBuiltL s.data.toList)) ∧ w = w' := by
  go_enter Tryd.func15, Tryd.ntmps15
  go_wp2_with (go_at_call 27; refine (among_any _ _ _ (by decide)).mono ?_; rintro e w' ⟨rfl, rfl⟩)
  go_ret
  refine ⟨ret_bool ?_, rfl⟩
  unfold amB isBuiltL
  refine congrArg (fun x => List.contains x s.data.toList) ?_
  kernel_rfl

def ldL (l : List UInt8) : Bool := l.all fun c => isLet c || isDig c
theorem ldL_at (l : List UInt8) (k : Nat) (h : k < l.length) : ldL (l.drop k) = ((isLet l[k] || isDig l[k]) && ldL (l.drop (k + 1))) := by rw [drop_at l k h]; rfl
theorem nameOk_ld : ∀ (l : List UInt8) (k : Nat), k ≠ 0 → nameOk k l = ldL l
  | [], _, _ => rfl
  | c :: r, k, h => by
    rw [nameOk, nameOk_ld r (k + 1) (by omega), show (k != 0) = true from by simpa using h, Bool.true_and]; rfl
theorem isNameL_ld (l : List UInt8) : isNameL l = (match l with | [] => false | c :: _ => isLet c && (ldL l && (!isWordL l && !isBuiltL l))) := by
  cases l with
  | nil => rfl
  | cons c r =>
    unfold isNameL isWordL isBuiltL
    rw [nameOk, nameOk_ld r 1 (by decide)]
    have e : ldL (c :: r) = ((isLet c || isDig c) && ldL r) := rfl
    have e2 : (c :: r != []) = true := rfl
    dsimp only
    rw [e, e2]
    cases h : isLet c <;> simp

theorem isNameL_head {l : List UInt8} (h : 0 < l.length) (hc : isLet l[0] = true) (hl : ldL l = true) : isNameL l = (!isWordL l && !isBuiltL l) := by
  rw [isNameL_ld]; cases l with
  | nil => exact absurd h (by simp)
  | cons c r => dsimp only; rw [show isLet c = true from hc, hl]; simp
theorem isNameL_nohead {l : List UInt8} (h : 0 < l.length) (hc : isLet l[0] = false) : isNameL l = false := by
  rw [isNameL_ld]; cases l with
  | nil => rfl
  | cons c r => dsimp only; rw [show isLet c = false from hc]; rfl
theorem isNameL_nold {l : List UInt8} (hl : ldL l = false) : isNameL l = false := by
  rw [isNameL_ld]; cases l with
  | nil => rfl
  | cons c r => dsimp only; rw [hl]; cases isLet c <;> rfl

set_option maxRecDepth 100000 in
set_option maxHeartbeats 1600000 in
theorem rIsName_any (s : ByteArray) (w : World) (hs : s.size ≤ 9223372036854775807) : Calls Tryd.prog 14 #[.string s] w fun e w' => e = .returned (.bool (isNameL s.data.toList)) ∧ w = w' := by
  have HW := Lib.hid (fun W => rIsWord_any s W)
  have HB := Lib.hid (fun W => rIsBuilt_any s W)
  by_cases h0 : s.size = 0
  · have e0 : s = ByteArray.empty := ByteArray.ext (Array.eq_empty_of_size_eq_zero h0)
    subst e0
    go_enter Tryd.func14, Tryd.ntmps14
    go_wp2
    go_ret
    exact ⟨rfl, rfl⟩
  have hpos : 0 < s.size := by omega
  have hp2 : 0 < s.data.toList.length := by simpa using hpos
  have be : (s.toList == []) = false := by
    rw [toL]; refine beq_eq_false_iff_ne.2 fun h => ?_
    rw [h] at hp2; exact absurd hp2 (by simp)
  clear h0
  by_cases hc : isLet (s.data.toList[0]'hp2) = true
  · have hl0 : letB (s[0].toNat : Int) = true := hc
    obtain ⟨N, hN⟩ : ∃ N, ldL s.data.toList = N := ⟨_, rfl⟩
    have HNM := Lib.hid (fun h : ldL s.data.toList = true => isNameL_head hp2 hc h)
    have HNO := Lib.hid (fun h : ldL s.data.toList = false => isNameL_nold h)
    have HN := Lib.hid hN
    clear hc hN
    go_enter Tryd.func14, Tryd.ntmps14
    go_wp2_with (go_at_call 25; refine (rletter_any _ _).mono ?_; rintro e w' ⟨rfl, rfl⟩)
    go_loop [3] (fun n => ∃ k : Nat, k ≤ s.size ∧ n = .int .i64 k ∧ Hid (ldL (s.data.toList.drop k) = N)) (fun n => s.size - (intOf n).toNat)
    case atStart => exact ⟨0, by omega, rfl, HN⟩
    case round =>
      obtain ⟨k, hk, rfl, HK⟩ := hrel
      by_cases hlt : k < s.size
      · have HE := Lib.hid (ldL_at s.data.toList k (by simpa using hlt))
        cases hl : letB (s[k].toNat : Int) with
        | true =>
            have HK2 : Hid (ldL (s.data.toList.drop (k + 1)) = N) := by
              unfold Hid; rw [← HK.out, HE.out]
              rw [show isLet (s.data.toList[k]'(by simpa using hlt)) = true from hl]; simp
            clear HE HK
            go_wp2_with (first | (go_at_call 25; refine (rletter_any _ _).mono ?_; rintro e w' ⟨rfl, rfl⟩) | (go_at_call 26; refine (rdigit_any _ _).mono ?_; rintro e w' ⟨rfl, rfl⟩))
            exact ⟨⟨k + 1, by omega, by go_num, HK2⟩, by simp [intOf]; omega⟩
        | false =>
          cases hd : digB (s[k].toNat : Int) with
          | true =>
            have HK2 : Hid (ldL (s.data.toList.drop (k + 1)) = N) := by
              unfold Hid; rw [← HK.out, HE.out]
              rw [show isLet (s.data.toList[k]'(by simpa using hlt)) = false from hl, show isDig (s.data.toList[k]'(by simpa using hlt)) = true from hd]; simp
            clear HE HK
            go_wp2_with (first | (go_at_call 25; refine (rletter_any _ _).mono ?_; rintro e w' ⟨rfl, rfl⟩) | (go_at_call 26; refine (rdigit_any _ _).mono ?_; rintro e w' ⟨rfl, rfl⟩))
            exact ⟨⟨k + 1, by omega, by go_num, HK2⟩, by simp [intOf]; omega⟩
          | false =>
            have HF : Hid (isNameL s.data.toList = false) := by
              unfold Hid; refine HNO.out ?_
              rw [HN.out, ← HK.out, HE.out]
              rw [show isLet (s.data.toList[k]'(by simpa using hlt)) = false from hl, show isDig (s.data.toList[k]'(by simpa using hlt)) = false from hd]; rfl
            clear HE HK
            go_wp2_with (first | (go_at_call 25; refine (rletter_any _ _).mono ?_; rintro e w' ⟨rfl, rfl⟩) | (go_at_call 26; refine (rdigit_any _ _).mono ?_; rintro e w' ⟨rfl, rfl⟩))
            go_ret
            exact ⟨by rw [HF.out]; rfl, rfl⟩
      · have HF : Hid (isNameL s.data.toList = (!isWordL s.data.toList && !isBuiltL s.data.toList)) := by
          unfold Hid; refine HNM.out ?_
          rw [HN.out, ← HK.out, List.drop_eq_nil_of_le (by simpa using hlt)]; rfl
        have b0 : decide ((k : Int) < s.size) = false := decide_eq_false (by omega)
        clear HK HNM HNO HN
        generalize isWordL s.data.toList = x at HW HF
        generalize isBuiltL s.data.toList = y at HB HF
        cases x <;> cases y <;> (go_wp2_with (first | (go_at_call 16; refine (HW.out _).mono ?_; rintro e w' ⟨rfl, rfl⟩) | (go_at_call 15; refine (HB.out _).mono ?_; rintro e w' ⟨rfl, rfl⟩))) <;> go_ret <;> exact ⟨by rw [HF.out]; rfl, rfl⟩
  · have hl0 : letB (s[0].toNat : Int) = false := eq_false_of_ne_true hc
    have HF := Lib.hid (isNameL_nohead hp2 (eq_false_of_ne_true hc))
    clear hc
    go_enter Tryd.func14, Tryd.ntmps14
    go_wp2_with (go_at_call 25; refine (rletter_any _ _).mono ?_; rintro e w' ⟨rfl, rfl⟩)
    go_ret
    exact ⟨by rw [HF.out]; rfl, rfl⟩

def pickN (n : Int) (m : Nat) : Nat := (if n.tmod m < 0 then n.tmod m + m else n.tmod m).toNat
theorem pickN_lt (n : Int) (m : Nat) (hm : 0 < m) : pickN n m < m := by
  have t1 := Int.tmod_lt_of_pos n (b := (m : Int)) (by omega)
  have t2 := Int.lt_tmod_of_pos n (b := (m : Int)) (by omega)
  unfold pickN; split <;> omega

set_option maxRecDepth 100000 in
set_option maxHeartbeats 1600000 in
theorem pick_any (n : Int) (m : Nat) (w : World) (hm : 0 < m) (hm2 : m ≤ maxLen) : Calls Tryd.prog 13 #[.int .i64 n, .int .i64 m] w fun e w' => e = .returned (.int .i64 (pickN n m)) ∧ w = w' := by
  have t1 := Int.tmod_lt_of_pos n (b := (m : Int)) (by omega)
  have t2 := Int.lt_tmod_of_pos n (b := (m : Int)) (by omega)
  unfold maxLen at hm2
  by_cases h : n.tmod m < 0
  · have HF : Hid ((pickN n m : Int) = n.tmod m + m) := by unfold Hid pickN; rw [if_pos h]; omega
    go_enter Tryd.func13, Tryd.ntmps13
    go_wp2
    go_ret
    exact ⟨by rw [HF.out]; rfl, rfl⟩
  · have HF : Hid ((pickN n m : Int) = n.tmod m) := by unfold Hid pickN; rw [if_neg h]; omega
    go_enter Tryd.func13, Tryd.ntmps13
    go_wp2
    go_ret
    exact ⟨by rw [HF.out]; rfl, rfl⟩

end Go.Proofs.YtkedagbknflacaaDoor
