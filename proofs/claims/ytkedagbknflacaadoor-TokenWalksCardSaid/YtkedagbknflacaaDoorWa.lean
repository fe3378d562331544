/- Walks of the small functions of the token and num layers that touch no memory. Walks of the small functions of the token and num layers that touch no memory: words, names, signs. -/
import Derived.Test.YtkedagbknflacaaDoorRows
import Derived.Test.YtkedagbknflacaaDoorPa
import Derived.WalkKit
import Derived.WalkSpells
import Derived.WalkLawsBesides
import Derived.Lib.Hide

namespace Go.Proofs.YtkedagbknflacaaDoor
open Go.RowKit

theorem ret_int {k : IntKind} {a b : Int} (h : a = b) : Ending.returned (.int k a) = .returned (.int k b) := by rw [h]
theorem ret_bool {a b : Bool} (h : a = b) : Ending.returned (.bool a) = .returned (.bool b) := by rw [h]
theorem u8_of_beq {c : UInt8} {d : UInt8} (h : ((c.toNat : Int) == (d.toNat : Int)) = true) : c = d := UInt8.toNat_inj.1 (by have := eq_of_beq h; omega)
theorem u8_ne_of_beq {c : UInt8} {d : UInt8} (h : ((c.toNat : Int) == (d.toNat : Int)) = false) : c ≠ d := fun e => by subst e; simp at h
theorem beq_t {c d : UInt8} (h : c = d) : ((c.toNat : Int) == (d.toNat : Int)) = true := by subst h; simp
theorem beq_f {c d : UInt8} (h : c ≠ d) : ((c.toNat : Int) == (d.toNat : Int)) = false := by
  cases hb : ((c.toNat : Int) == (d.toNat : Int)) with
  | false => rfl
  | true => exact absurd (u8_of_beq hb) h
theorem bne_t {c d : UInt8} (h : c ≠ d) : ((c.toNat : Int) != (d.toNat : Int)) = true := by rw [bne, beq_f h]; rfl
theorem bne_f {c d : UInt8} (h : c = d) : ((c.toNat : Int) != (d.toNat : Int)) = false := by rw [bne, beq_t h]; rfl
theorem byte_get (s : ByteArray) (k : Nat) (h : k < s.size) : s[k] = s.data.toList[k]'(by simpa using h) := rfl

theorem digit_any (c : Int) (w : World) : Calls Tryd.prog 17 #[.int .u8 c] w fun e w' => e = .returned (.bool (digB c)) ∧ w = w' := by
  go_enter Tryd.func17, Tryd.ntmps17
  go_wp2
  all_goals (go_ret; exact ⟨ret_bool (by simp [digB, *] <;> omega), rfl⟩)

theorem ndigit_any (c : Int) (w : World) : Calls Tryd.prog 43 #[.int .u8 c] w fun e w' => e = .returned (.bool (digB c)) ∧ w = w' := by
  go_enter Tryd.func43, Tryd.ntmps43
  go_wp2
  all_goals (go_ret; exact ⟨ret_bool (by simp [digB, *] <;> omega), rfl⟩)

theorem letter_any (c : Int) (w : World) : Calls Tryd.prog 19 #[.int .u8 c] w fun e w' => e = .returned (.bool (letB c)) ∧ w = w' := by
  go_enter Tryd.func19, Tryd.ntmps19
  go_wp2
  all_goals (go_ret; refine ⟨ret_bool ?_, rfl⟩)
  all_goals (rw [Bool.eq_iff_iff]; simp [letB]; omega)

theorem blank_any (c : Int) (w : World) : Calls Tryd.prog 37 #[.int .u8 c] w fun e w' => e = .returned (.bool (blankB c)) ∧ w = w' := by
  go_enter Tryd.func37, Tryd.ntmps37
  go_wp2
  all_goals (go_ret; refine ⟨ret_bool ?_, rfl⟩)
  all_goals (rw [Bool.eq_iff_iff]; simp [blankB]; omega)

set_option maxHeartbeats 400000 in
theorem digits_any (s : ByteArray) (i : Nat) (w : World) (hs : s.size ≤ maxLen) (hi : i ≤ s.size) :
    Calls Tryd.prog 38 #[.string s, .int .i64 i] w fun e w' => e = .returned (.int .i64 (i + nWhile isDig (s.data.toList.drop i) : Nat)) ∧ w = w' := by
  unfold maxLen at hs
  go_enter Tryd.func38, Tryd.ntmps38
  go_wp2
  go_loop [1] (fun n => ∃ k : Nat, k ≤ s.size ∧ n = .int .i64 k ∧ i + nWhile isDig (s.data.toList.drop i) = k + nWhile isDig (s.data.toList.drop k)) (fun n => s.size - (intOf n).toNat)
  case atStart => exact ⟨i, hi, rfl, rfl⟩
  case round =>
    obtain ⟨k, hk, rfl, heq⟩ := hrel
    have HE := Lib.hid heq; clear heq
    by_cases hlt : k < s.size
    · go_wp2_with (go_at_call 43; refine (ndigit_any _ _).mono ?_; rintro e w' ⟨rfl, rfl⟩)
      · rename_i hd
        go_round
        case rel => exact ⟨k + 1, by omega, by go_num, by rw [HE.out, nWhile_yes isDig _ k (by simpa using hlt) hd]; omega⟩
        case measure => simp [intOf]; omega
      · rename_i hd
        go_ret
        exact ⟨ret_int (by rw [HE.out, nWhile_no isDig _ k (by simpa using hlt) hd]; rfl), rfl⟩
    · go_wp2
      go_ret
      exact ⟨ret_int (by rw [← Int.natCast_add, HE.out, nWhile_end isDig _ k (by simpa using hlt)]; rfl), rfl⟩

end Go.Proofs.YtkedagbknflacaaDoor

namespace Go.Proofs.YtkedagbknflacaaDoor
open Go.RowKit

theorem toL (s : ByteArray) : s.toList = s.data.toList := ByteArray.toList_eq s

set_option maxHeartbeats 800000 in
theorem isWord_any (s : ByteArray) (w : World) : Calls Tryd.prog 10 #[.string s] w fun e w' => e = .returned (.bool (wordL.contains s.data.toList)) ∧ w = w' := by
  rw [← toL]
  go_enter Tryd.func10, Tryd.ntmps10
  go_wp2
  all_goals (go_ret; refine ⟨ret_bool ?_, rfl⟩)
  all_goals (simp only [wordL, List.contains_cons, List.contains_nil, Bool.or_false, *, Bool.true_or, Bool.or_true])
  all_goals simp_all

set_option maxHeartbeats 800000 in
theorem isBuilt_any (s : ByteArray) (w : World) : Calls Tryd.prog 11 #[.string s] w fun e w' => e = .returned (.bool (builtL.contains s.data.toList)) ∧ w = w' := by
  rw [← toL]
  go_enter Tryd.func11, Tryd.ntmps11
  go_wp2
  all_goals (go_ret; refine ⟨ret_bool ?_, rfl⟩)
  all_goals (simp only [builtL, List.contains_cons, List.contains_nil, Bool.or_false, *, Bool.true_or, Bool.or_true])
  all_goals simp_all

def isWordL (l : List UInt8) : Bool := wordL.contains l
def isBuiltL (l : List UInt8) : Bool := builtL.contains l
theorem isWord_of (s : ByteArray) (T : List UInt8) (h : s.data.toList = T) (w : World) : Calls Tryd.prog 10 #[.string s] w fun e w' => e = .returned (.bool (isWordL T)) ∧ w = w' := by
  subst h; exact isWord_any s w
theorem isBuilt_of (s : ByteArray) (T : List UInt8) (h : s.data.toList = T) (w : World) : Calls Tryd.prog 11 #[.string s] w fun e w' => e = .returned (.bool (isBuiltL T)) ∧ w = w' := by
  subst h; exact isBuilt_any s w

/-- A name: letters, digits; neither a word nor built. -/
def nameOk : Nat → List UInt8 → Bool
  | _, [] => true
  | i, c :: r => (isLet c || (i != 0 && isDig c)) && nameOk (i + 1) r

def isNameL (l : List UInt8) : Bool := nameOk 0 l && (l != [] && !wordL.contains l && !builtL.contains l)

theorem nameOk_at (l : List UInt8) (k : Nat) (h : k < l.length) : nameOk k (l.drop k) = ((isLet l[k] || (k != 0 && isDig l[k])) && nameOk (k + 1) (l.drop (k + 1))) := by
  rw [drop_at l k h, nameOk]

set_option maxHeartbeats 800000 in
theorem isName_any (s : ByteArray) (w : World) (hs : s.size ≤ maxLen) : Calls Tryd.prog 12 #[.string s] w fun e w' => e = .returned (.bool (isNameL s.data.toList)) ∧ w = w' := by
  unfold maxLen at hs
  go_enter Tryd.func12, Tryd.ntmps12
  go_wp2
  go_loop [3] (fun n => ∃ k : Nat, k ≤ s.size ∧ n = .int .i64 k ∧ nameOk 0 s.data.toList = nameOk k (s.data.toList.drop k)) (fun n => s.size - (intOf n).toNat)
  case atStart => exact ⟨0, by omega, rfl, rfl⟩
  case round =>
    obtain ⟨k, hk, rfl, heq⟩ := hrel
    by_cases hlt : k < s.size
    · have HE : Hid (nameOk 0 s.data.toList = ((letB s[k].toNat || k != 0 && digB s[k].toNat) && nameOk (k + 1) (s.data.toList.drop (k+1)))) := heq.trans (nameOk_at _ k (by simpa using hlt))
      clear heq
      go_wp2_with (first | (go_at_call 19; refine (letter_any _ _).mono ?_; rintro e w' ⟨rfl, rfl⟩) | (go_at_call 17; refine (digit_any _ _).mono ?_; rintro e w' ⟨rfl, rfl⟩))
      · rename_i h
        go_round
        case rel => exact ⟨k + 1, by omega, by go_num, by rw [HE.out]; simp [h]⟩
        case measure => simp [intOf]; omega
      · rename_i h h0
        go_ret
        subst h0
        exact ⟨ret_bool (by rw [isNameL, HE.out]; simp [h]), rfl⟩
      · rename_i h h0 h1
        go_ret
        refine ⟨ret_bool ?_, rfl⟩
        rw [isNameL, HE.out]
        simp at h1
        simp [h, h0]
        rcases h1 with h1 | h1
        · omega
        · simp [h1]
      · rename_i h h0 h1
        go_round
        case rel => exact ⟨k + 1, by omega, by go_num, by rw [HE.out]; simp at h1; simp [h, h0, h1.2]⟩
        case measure => simp [intOf]; omega
    · have HE : Hid (nameOk 0 s.data.toList = true) := by rw [heq, List.drop_eq_nil_of_le (by simpa using hlt)]; rfl
      clear heq
      go_wp2_with (first | (go_at_call 10; refine (isWord_any _ _).mono ?_; rintro e w' ⟨rfl, rfl⟩) | (go_at_call 11; refine (isBuilt_any _ _).mono ?_; rintro e w' ⟨rfl, rfl⟩))
      all_goals (go_ret; refine ⟨ret_bool ?_, rfl⟩; rw [isNameL, HE.out])
      · rename_i h _
        rw [toL] at h
        simp [h]
      · rename_i h _ h2
        simp [h2]
      · rename_i h _ h2
        rw [toL] at h ⊢
        have h3 : s.data.toList.isEmpty = false := by cases hx : s.data.toList with | nil => exact absurd hx h | cons a b => rfl
        have h4 : (s.data.toList != []) = true := by simp only [bne_iff_ne, ne_eq]; exact h
        rw [h3, h4]
        simp [h2]

end Go.Proofs.YtkedagbknflacaaDoor
