/- The walk of token.Place at the text that 'known' asks for. -/
import Derived.Test.YtkedagbknflacaaDoorWa
import Derived.Lib.Hide
namespace Go.Proofs.YtkedagbknflacaaDoor
open Go.RowKit

abbrev one64 : Nat := 4607182418800017408
def plZ (k : Nat) : Value := .complex .f64 (if k = 3 then 4611686018427387904 else 4607182418800017408) (if k = 1 then 4611686018427387904 else if k = 2 then 4613937818241073152 else 4607182418800017408)

theorem cadd0 (w : World) : Sem.run Tryd.prog (binOp .add 41 (.complex .f64 4607182418800017408 4607182418800017408) (.complex .f64 0 4607182418800017408)) w = .ok (.complex .f64 4607182418800017408 4611686018427387904) w := by kernel_rfl
theorem cadd1 (w : World) : Sem.run Tryd.prog (binOp .add 41 (.complex .f64 4607182418800017408 4611686018427387904) (.complex .f64 0 4607182418800017408)) w = .ok (.complex .f64 4607182418800017408 4613937818241073152) w := by kernel_rfl
theorem cre2 (w : World) : Sem.run Tryd.prog (Builtin.real_ #[41] 23 #[.complex .f64 4607182418800017408 4613937818241073152]) w = .ok (.float .f64 4607182418800017408) w := by kernel_rfl
theorem fadd2 (w : World) : Sem.run Tryd.prog (binOp .add 23 (.float .f64 4607182418800017408) (.float .f64 4607182418800017408)) w = .ok (.float .f64 4611686018427387904) w := by kernel_rfl
theorem cmk2 (w : World) : Sem.run Tryd.prog (Builtin.complex_ #[23, 23] 41 #[.float .f64 4611686018427387904, .float .f64 4607182418800017408]) w = .ok (.complex .f64 4611686018427387904 4607182418800017408) w := by kernel_rfl

set_option maxRecDepth 100000 in
set_option maxHeartbeats 1600000 in
theorem place_abc (w : World) : Calls Tryd.prog 24 #[.string ⟨#[97, 98, 10, 99]⟩, .int .i64 3] w fun e w' => e = .returned (.complex .f64 4611686018427387904 4607182418800017408) ∧ w = w' := by
  go_enter Tryd.func24, Tryd.ntmps24
  go_wp2
  go_loop [5, 6] (fun z n => ∃ k : Nat, k ≤ 3 ∧ n = .int .i64 k ∧ z = plZ k) (fun _ n => 3 - (intOf n).toNat)
  case atStart => exact ⟨0, by omega, rfl, rfl⟩
  case round =>
    obtain ⟨k, hk, rfl, rfl⟩ := hrel
    have h4 : k = 0 ∨ k = 1 ∨ k = 2 ∨ k = 3 := by omega
    obtain rfl | rfl | rfl | rfl := h4
    · have b : (((⟨#[97, 98, 10, 99]⟩ : ByteArray)[0].toNat : Int) == 10) = false := by decide
      have e : plZ 0 = .complex .f64 4607182418800017408 4607182418800017408 := rfl
      have e' := cadd0
      rw [e]
      go_wp2
      refine ⟨⟨1, by omega, rfl, rfl⟩, ?_⟩
      simp [intOf]
    · have b : (((⟨#[97, 98, 10, 99]⟩ : ByteArray)[1].toNat : Int) == 10) = false := by decide
      have e : plZ 1 = .complex .f64 4607182418800017408 4611686018427387904 := rfl
      have e' := cadd1
      rw [e]
      go_wp2
      refine ⟨⟨2, by omega, rfl, rfl⟩, ?_⟩
      simp [intOf]
    · have b : (((⟨#[97, 98, 10, 99]⟩ : ByteArray)[2].toNat : Int) == 10) = true := by decide
      have e : plZ 2 = .complex .f64 4607182418800017408 4613937818241073152 := rfl
      have e1 := cre2
      have e2 := fadd2
      have e3 := cmk2
      rw [e]
      go_wp2
      refine ⟨⟨3, by omega, rfl, rfl⟩, ?_⟩
      simp [intOf]
    · have e : plZ 3 = .complex .f64 4611686018427387904 4607182418800017408 := rfl
      rw [e]
      go_wp2
      go_ret
      exact ⟨rfl, rfl⟩

end Go.Proofs.YtkedagbknflacaaDoor
