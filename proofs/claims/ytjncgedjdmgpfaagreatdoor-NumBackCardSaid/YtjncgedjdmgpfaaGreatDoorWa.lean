/- Walks of the small functions of the token and num layers that touch no memory. Twenty values in one: the open slots of a large activation. No program here. -/
import Derived.Test.YtjncgedjdmgpfaaGreatDoorRows
import Derived.Test.YtjncgedjdmgpfaaGreatDoorGm
import Derived.WalkKit
import Derived.WalkSpells
import Derived.WalkLawsBesides
import Derived.Lib.Hide

namespace Go.Proofs.YtjncgedjdmgpfaaGreatDoor
open Go.RowKit

theorem ret_int {k : IntKind} {a b : Int} (h : a = b) : Ending.returned (.int k a) = .returned (.int k b) := by rw [h]
theorem ret_bool {a b : Bool} (h : a = b) : Ending.returned (.bool a) = .returned (.bool b) := by rw [h]
theorem u8_of_beq {c : UInt8} {d : UInt8} (h : ((c.toNat : Int) == (d.toNat : Int)) = true) : c = d := UInt8.toNat_inj.1 (by have := eq_of_beq h; omega)
theorem u8_ne_of_beq {c : UInt8} {d : UInt8} (h : ((c.toNat : Int) == (d.toNat : Int)) = false) : c ≠ d := fun e => by subst e; simp at h
theorem beq_t {c d : UInt8} (h : c = d) : ((c.toNat : Int) == (d.toNat : Int)) = true := by subst h; simp
theorem beq_f {c d : UInt8} (h : c ≠ d) : ((c.toNat : Int) == (d.toNat : Int)) = false := by
  cases hb : ((c.toNat : Int) == (d.toNat : Int)) with
  | false => rfl
  | true => exact absurd (u8_of_beq hb) h
theorem bne_t {c d : UInt8} (h : c ≠ d) : ((c.toNat : Int) != (d.toNat : Int)) = true := by rw [bne, beq_f h]; rfl
theorem bne_f {c d : UInt8} (h : c = d) : ((c.toNat : Int) != (d.toNat : Int)) = false := by rw [bne, beq_t h]; rfl
theorem byte_get (s : ByteArray) (k : Nat) (h : k < s.size) : s[k] = s.data.toList[k]'(by simpa using h) := rfl

theorem Tryz.info_u8 : (Tryz.prog.info? 5).map (fun i => (i.zero, i.size, i.bytes)) = some (some (.int .u8 0), 1, 1) := by kernel_rfl

theorem ndigit_any (c : Int) (w : World) : Calls Tryz.prog 48 #[.int .u8 c] w fun e w' => e = .returned (.bool (digB c)) ∧ w = w' := by
  go_enter Tryz.func48, Tryz.ntmps48
  go_wp2
  all_goals (go_ret; exact ⟨ret_bool (by simp [digB, *] <;> omega), rfl⟩)

theorem blank_any (c : Int) (w : World) : Calls Tryz.prog 31 #[.int .u8 c] w fun e w' => e = .returned (.bool (blankB c)) ∧ w = w' := by
  go_enter Tryz.func31, Tryz.ntmps31
  go_wp2
  all_goals (go_ret; refine ⟨ret_bool ?_, rfl⟩)
  all_goals (rw [Bool.eq_iff_iff]; simp [blankB]; omega)

set_option maxHeartbeats 400000 in
theorem digits_any (s : ByteArray) (i : Nat) (w : World) (hs : s.size ≤ maxLen) (hi : i ≤ s.size) :
    Calls Tryz.prog 39 #[.string s, .int .i64 i] w fun e w' => e = .returned (.int .i64 (i + nWhile isDig (s.data.toList.drop i) : Nat)) ∧ w = w' := by
  unfold maxLen at hs
  go_enter Tryz.func39, Tryz.ntmps39
  go_wp2
  go_loop [1] (fun n => ∃ k : Nat, k ≤ s.size ∧ n = .int .i64 k ∧ i + nWhile isDig (s.data.toList.drop i) = k + nWhile isDig (s.data.toList.drop k)) (fun n => s.size - (intOf n).toNat)
  case atStart => exact ⟨i, hi, rfl, rfl⟩
  case round =>
    obtain ⟨k, hk, rfl, heq⟩ := hrel
    have HE := Lib.hid heq; clear heq
    by_cases hlt : k < s.size
    · go_wp2_with (go_at_call 48; refine (ndigit_any _ _).mono ?_; rintro e w' ⟨rfl, rfl⟩)
      · rename_i hd
        go_round
        case rel => exact ⟨k + 1, by omega, by go_num, by rw [HE.out, nWhile_yes isDig _ k (by simpa using hlt) hd]; omega⟩
        case measure => simp [intOf]; omega
      · rename_i hd
        go_ret
        exact ⟨ret_int (by rw [HE.out, nWhile_no isDig _ k (by simpa using hlt) hd]; rfl), rfl⟩
    · go_wp2
      go_ret
      exact ⟨ret_int (by rw [← Int.natCast_add, HE.out, nWhile_end isDig _ k (by simpa using hlt)]; rfl), rfl⟩

end Go.Proofs.YtjncgedjdmgpfaaGreatDoor

namespace Go
structure V20 where
  a : Value
  b : Value
  c : Value
  d : Value
  e : Value
  f : Value
  g : Value
  h : Value
  i : Value
  j : Value
  k : Value
  l : Value
  m : Value
  n : Value
  o : Value
  p : Value
  q : Value
  r : Value
  s : Value
  t : Value
end Go
