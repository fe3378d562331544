/- Walks of the small functions of the token layer: signs. The walk of token.Place at the text that 'known' asks for. -/
import Derived.Test.YtkedagbknflacaaDoorWa
import Derived.Lib.Strings
import Derived.Lib.Hide

namespace Go.Proofs.YtkedagbknflacaaDoor
open Go.RowKit

theorem ex2 (s : ByteArray) (i : Nat) : (s.extract i (i + 2)).toList = (s.data.toList.drop i).take 2 := by
  rw [toL, Lib.extract_data]; congr 1; omega

def oneN (c : UInt8) : Nat := if oneL.contains c then 1 else 0

/-- How many bytes the longest sign has that stands there. -/
def signN : List UInt8 → Nat
  | [] => 0
  | c :: r => if twoL.contains ((c :: r).take 2) then 2 else if oneL.contains c then 1 else 0

set_option maxHeartbeats 800000 in
theorem sign_two (s : ByteArray) (i : Nat) (w : World) (hs : s.size ≤ maxLen) (hi : i + 1 < s.size) (hm : (s.extract i (i + 2)).toList ∈ twoL) : Calls Tryd.prog 23 #[.string s, .int .i64 i] w fun e w' => e = .returned (.int .i64 2) ∧ w = w' := by
  unfold maxLen at hs
  simp only [twoL, List.mem_cons, List.not_mem_nil, or_false] at hm
  rcases hm with hm | hm | hm | hm | hm | hm | hm | hm | hm | hm | hm | hm | hm | hm | hm | hm <;> (go_enter Tryd.func23, Tryd.ntmps23; go_wp2; go_ret; exact ⟨rfl, rfl⟩)

theorem beq_int (c d : UInt8) : (c == d) = ((c.toNat : Int) == (d.toNat : Int)) := by
  rw [Bool.eq_iff_iff]; simp [← UInt8.toNat_inj]; omega
theorem one_or (c : UInt8) : oneL.contains c = (((c.toNat : Int) == 123) || ((c.toNat : Int) == 125) || ((c.toNat : Int) == 40) || ((c.toNat : Int) == 41) || ((c.toNat : Int) == 91) || ((c.toNat : Int) == 93) || ((c.toNat : Int) == 59) || ((c.toNat : Int) == 44) || ((c.toNat : Int) == 43) || ((c.toNat : Int) == 45) || ((c.toNat : Int) == 42) || ((c.toNat : Int) == 47) || ((c.toNat : Int) == 37) || ((c.toNat : Int) == 94) || ((c.toNat : Int) == 33) || ((c.toNat : Int) == 62) || ((c.toNat : Int) == 60) || ((c.toNat : Int) == 124) || ((c.toNat : Int) == 63) || ((c.toNat : Int) == 58) || ((c.toNat : Int) == 126) || ((c.toNat : Int) == 36) || ((c.toNat : Int) == 61)) := by
  simp only [oneL, List.contains_cons, List.contains_nil, Bool.or_false, beq_int, Bool.or_assoc]; rfl

set_option maxHeartbeats 1600000 in
theorem sign_one (s : ByteArray) (i : Nat) (w : World) (hs : s.size ≤ maxLen) (hi : i < s.size) (ht : decide (i + 1 < s.size) = false ∨ (decide (i + 1 < s.size) = true ∧ ¬ (s.extract i (i + 2)).toList ∈ twoL)) : Calls Tryd.prog 23 #[.string s, .int .i64 i] w fun e w' => e = .returned (.int .i64 (oneN s[i] : Nat)) ∧ w = w' := by
  unfold maxLen at hs
  rcases ht with ht | ⟨ht, hx⟩
  · simp only [decide_eq_false_iff_not] at ht
    go_enter Tryd.func23, Tryd.ntmps23
    go_wp2
    all_goals (go_ret; refine ⟨ret_int ?_, rfl⟩; rw [oneN, one_or]; simp only [*, Bool.true_or, Bool.or_true, Bool.or_false, if_true, Bool.false_eq_true, if_false]; rfl)
  · simp only [decide_eq_true_eq] at ht
    simp only [twoL, List.mem_cons, List.not_mem_nil, or_false, not_or, ← beq_eq_false_iff_ne] at hx
    obtain ⟨x1, x2, x3, x4, x5, x6, x7, x8, x9, x10, x11, x12, x13, x14, x15, x16⟩ := hx
    go_enter Tryd.func23, Tryd.ntmps23
    go_wp2
    all_goals (go_ret; refine ⟨ret_int ?_, rfl⟩; rw [oneN, one_or]; simp only [*, Bool.true_or, Bool.or_true, Bool.or_false, if_true, Bool.false_eq_true, if_false]; rfl)

theorem sign_any (s : ByteArray) (i : Nat) (w : World) (hs : s.size ≤ maxLen) (hi : i < s.size) : Calls Tryd.prog 23 #[.string s, .int .i64 i] w fun e w' => e = .returned (.int .i64 (signN (s.data.toList.drop i) : Nat)) ∧ w = w' := by
  have hd := drop_at s.data.toList i (by simpa using hi)
  by_cases h1 : i + 1 < s.size ∧ (s.extract i (i + 2)).toList ∈ twoL
  · refine (sign_two s i w hs h1.1 h1.2).mono ?_
    rintro e w' ⟨rfl, rfl⟩
    refine ⟨ret_int ?_, rfl⟩
    rw [hd, signN, ← hd, ← ex2, if_pos (by simpa using h1.2)]; rfl
  · have hn : twoL.contains ((s.data.toList.drop i).take 2) = false := by
      by_cases h2 : i + 1 < s.size
      · rw [← ex2]; simpa using fun h => h1 ⟨h2, h⟩
      · rw [hd, List.drop_eq_nil_of_le (by simp; omega)]
        generalize s.data.toList[i] = c
        simp [twoL]
    refine (sign_one s i w hs hi ?_).mono ?_
    · by_cases h2 : i + 1 < s.size
      · exact .inr ⟨by simpa using h2, fun h => h1 ⟨h2, h⟩⟩
      · exact .inl (by simpa using h2)
    · rintro e w' ⟨rfl, rfl⟩
      refine ⟨ret_int ?_, rfl⟩
      rw [hd, signN, ← hd, hn]
      simp only [Bool.false_eq_true, if_false]
      rfl

end Go.Proofs.YtkedagbknflacaaDoor

namespace Go.Proofs.YtkedagbknflacaaDoor
open Go.RowKit

abbrev one64 : Nat := 4607182418800017408
def plZ (k : Nat) : Value := .complex .f64 (if k = 3 then 4611686018427387904 else 4607182418800017408) (if k = 1 then 4611686018427387904 else if k = 2 then 4613937818241073152 else 4607182418800017408)

theorem cadd0 (w : World) : Sem.run Tryd.prog (binOp .add 41 (.complex .f64 4607182418800017408 4607182418800017408) (.complex .f64 0 4607182418800017408)) w = .ok (.complex .f64 4607182418800017408 4611686018427387904) w := by kernel_rfl
theorem cadd1 (w : World) : Sem.run Tryd.prog (binOp .add 41 (.complex .f64 4607182418800017408 4611686018427387904) (.complex .f64 0 4607182418800017408)) w = .ok (.complex .f64 4607182418800017408 4613937818241073152) w := by kernel_rfl
theorem cre2 (w : World) : Sem.run Tryd.prog (Builtin.real_ #[41] 23 #[.complex .f64 4607182418800017408 4613937818241073152]) w = .ok (.float .f64 4607182418800017408) w := by kernel_rfl
theorem fadd2 (w : World) : Sem.run Tryd.prog (binOp .add 23 (.float .f64 4607182418800017408) (.float .f64 4607182418800017408)) w = .ok (.float .f64 4611686018427387904) w := by kernel_rfl
theorem cmk2 (w : World) : Sem.run Tryd.prog (Builtin.complex_ #[23, 23] 41 #[.float .f64 4611686018427387904, .float .f64 4607182418800017408]) w = .ok (.complex .f64 4611686018427387904 4607182418800017408) w := by kernel_rfl

set_option maxRecDepth 100000 in
set_option maxHeartbeats 1600000 in
theorem place_abc (w : World) : Calls Tryd.prog 24 #[.string ⟨#[97, 98, 10, 99]⟩, .int .i64 3] w fun e w' => e = .returned (.complex .f64 4611686018427387904 4607182418800017408) ∧ w = w' := by
  go_enter Tryd.func24, Tryd.ntmps24
  go_wp2
  go_loop [5, 6] (fun z n => ∃ k : Nat, k ≤ 3 ∧ n = .int .i64 k ∧ z = plZ k) (fun _ n => 3 - (intOf n).toNat)
  case atStart => exact ⟨0, by omega, rfl, rfl⟩
  case round =>
    obtain ⟨k, hk, rfl, rfl⟩ := hrel
    have h4 : k = 0 ∨ k = 1 ∨ k = 2 ∨ k = 3 := by omega
    obtain rfl | rfl | rfl | rfl := h4
    · have b : (((⟨#[97, 98, 10, 99]⟩ : ByteArray)[0].toNat : Int) == 10) = false := by decide
      have e : plZ 0 = .complex .f64 4607182418800017408 4607182418800017408 := rfl
      have e' := cadd0
      rw [e]
      go_wp2
      refine ⟨⟨1, by omega, rfl, rfl⟩, ?_⟩
      simp [intOf]
    · have b : (((⟨#[97, 98, 10, 99]⟩ : ByteArray)[1].toNat : Int) == 10) = false := by decide
      have e : plZ 1 = .complex .f64 4607182418800017408 4611686018427387904 := rfl
      have e' := cadd1
      rw [e]
      go_wp2
      refine ⟨⟨2, by omega, rfl, rfl⟩, ?_⟩
      simp [intOf]
    · have b : (((⟨#[97, 98, 10, 99]⟩ : ByteArray)[2].toNat : Int) == 10) = true := by decide
      have e : plZ 2 = .complex .f64 4607182418800017408 4613937818241073152 := rfl
      have e1 := cre2
      have e2 := fadd2
      have e3 := cmk2
      rw [e]
      go_wp2
      refine ⟨⟨3, by omega, rfl, rfl⟩, ?_⟩
      simp [intOf]
    · have e : plZ 3 = .complex .f64 4611686018427387904 4607182418800017408 := rfl
      rw [e]
      go_wp2
      go_ret
      exact ⟨rfl, rfl⟩

end Go.Proofs.YtkedagbknflacaaDoor
