/- The walk of TokenNames: true. -/
import Derived.Test.YtkedagbknflacaaDoorWs
import Derived.Test.YtkedagbknflacaaDoorWq
import Derived.Deep.DeepCutAuto
import Derived.Deep.CutBlock
namespace Go.Proofs.YtkedagbknflacaaDoor
open Go.RowKit

theorem nameA_0 (w : World) : Sem.run Tryd.prog (Instr.index 34 (.agg #[.string ⟨#[112, 114, 105, 110, 116]⟩, .string ⟨#[108, 101, 110, 103, 116, 104]⟩, .string ⟨#[120]⟩, .string ⟨#[66, 69, 71, 73, 78]⟩, .string ⟨#[101, 120, 112, 105, 114, 101]⟩, .string ⟨#[103, 101, 116, 108, 105, 110, 101]⟩, .string ⟨#[95, 97]⟩, .string ⟨#[49, 97]⟩, .string ⟨#[]⟩, .string ⟨#[102, 117, 110, 99]⟩, .string ⟨#[69, 86, 69, 82, 89, 120]⟩, .string ⟨#[105, 110]⟩]) (.int .i64 0)) w = .ok (.string ⟨#[112, 114, 105, 110, 116]⟩) w := by kernel_rfl
theorem nameA_1 (w : World) : Sem.run Tryd.prog (Instr.index 34 (.agg #[.string ⟨#[112, 114, 105, 110, 116]⟩, .string ⟨#[108, 101, 110, 103, 116, 104]⟩, .string ⟨#[120]⟩, .string ⟨#[66, 69, 71, 73, 78]⟩, .string ⟨#[101, 120, 112, 105, 114, 101]⟩, .string ⟨#[103, 101, 116, 108, 105, 110, 101]⟩, .string ⟨#[95, 97]⟩, .string ⟨#[49, 97]⟩, .string ⟨#[]⟩, .string ⟨#[102, 117, 110, 99]⟩, .string ⟨#[69, 86, 69, 82, 89, 120]⟩, .string ⟨#[105, 110]⟩]) (.int .i64 1)) w = .ok (.string ⟨#[108, 101, 110, 103, 116, 104]⟩) w := by kernel_rfl
theorem nameA_2 (w : World) : Sem.run Tryd.prog (Instr.index 34 (.agg #[.string ⟨#[112, 114, 105, 110, 116]⟩, .string ⟨#[108, 101, 110, 103, 116, 104]⟩, .string ⟨#[120]⟩, .string ⟨#[66, 69, 71, 73, 78]⟩, .string ⟨#[101, 120, 112, 105, 114, 101]⟩, .string ⟨#[103, 101, 116, 108, 105, 110, 101]⟩, .string ⟨#[95, 97]⟩, .string ⟨#[49, 97]⟩, .string ⟨#[]⟩, .string ⟨#[102, 117, 110, 99]⟩, .string ⟨#[69, 86, 69, 82, 89, 120]⟩, .string ⟨#[105, 110]⟩]) (.int .i64 2)) w = .ok (.string ⟨#[120]⟩) w := by kernel_rfl
theorem nameA_3 (w : World) : Sem.run Tryd.prog (Instr.index 34 (.agg #[.string ⟨#[112, 114, 105, 110, 116]⟩, .string ⟨#[108, 101, 110, 103, 116, 104]⟩, .string ⟨#[120]⟩, .string ⟨#[66, 69, 71, 73, 78]⟩, .string ⟨#[101, 120, 112, 105, 114, 101]⟩, .string ⟨#[103, 101, 116, 108, 105, 110, 101]⟩, .string ⟨#[95, 97]⟩, .string ⟨#[49, 97]⟩, .string ⟨#[]⟩, .string ⟨#[102, 117, 110, 99]⟩, .string ⟨#[69, 86, 69, 82, 89, 120]⟩, .string ⟨#[105, 110]⟩]) (.int .i64 3)) w = .ok (.string ⟨#[66, 69, 71, 73, 78]⟩) w := by kernel_rfl
theorem nameA_4 (w : World) : Sem.run Tryd.prog (Instr.index 34 (.agg #[.string ⟨#[112, 114, 105, 110, 116]⟩, .string ⟨#[108, 101, 110, 103, 116, 104]⟩, .string ⟨#[120]⟩, .string ⟨#[66, 69, 71, 73, 78]⟩, .string ⟨#[101, 120, 112, 105, 114, 101]⟩, .string ⟨#[103, 101, 116, 108, 105, 110, 101]⟩, .string ⟨#[95, 97]⟩, .string ⟨#[49, 97]⟩, .string ⟨#[]⟩, .string ⟨#[102, 117, 110, 99]⟩, .string ⟨#[69, 86, 69, 82, 89, 120]⟩, .string ⟨#[105, 110]⟩]) (.int .i64 4)) w = .ok (.string ⟨#[101, 120, 112, 105, 114, 101]⟩) w := by kernel_rfl
theorem nameA_5 (w : World) : Sem.run Tryd.prog (Instr.index 34 (.agg #[.string ⟨#[112, 114, 105, 110, 116]⟩, .string ⟨#[108, 101, 110, 103, 116, 104]⟩, .string ⟨#[120]⟩, .string ⟨#[66, 69, 71, 73, 78]⟩, .string ⟨#[101, 120, 112, 105, 114, 101]⟩, .string ⟨#[103, 101, 116, 108, 105, 110, 101]⟩, .string ⟨#[95, 97]⟩, .string ⟨#[49, 97]⟩, .string ⟨#[]⟩, .string ⟨#[102, 117, 110, 99]⟩, .string ⟨#[69, 86, 69, 82, 89, 120]⟩, .string ⟨#[105, 110]⟩]) (.int .i64 5)) w = .ok (.string ⟨#[103, 101, 116, 108, 105, 110, 101]⟩) w := by kernel_rfl
theorem nameA_6 (w : World) : Sem.run Tryd.prog (Instr.index 34 (.agg #[.string ⟨#[112, 114, 105, 110, 116]⟩, .string ⟨#[108, 101, 110, 103, 116, 104]⟩, .string ⟨#[120]⟩, .string ⟨#[66, 69, 71, 73, 78]⟩, .string ⟨#[101, 120, 112, 105, 114, 101]⟩, .string ⟨#[103, 101, 116, 108, 105, 110, 101]⟩, .string ⟨#[95, 97]⟩, .string ⟨#[49, 97]⟩, .string ⟨#[]⟩, .string ⟨#[102, 117, 110, 99]⟩, .string ⟨#[69, 86, 69, 82, 89, 120]⟩, .string ⟨#[105, 110]⟩]) (.int .i64 6)) w = .ok (.string ⟨#[95, 97]⟩) w := by kernel_rfl
theorem nameA_7 (w : World) : Sem.run Tryd.prog (Instr.index 34 (.agg #[.string ⟨#[112, 114, 105, 110, 116]⟩, .string ⟨#[108, 101, 110, 103, 116, 104]⟩, .string ⟨#[120]⟩, .string ⟨#[66, 69, 71, 73, 78]⟩, .string ⟨#[101, 120, 112, 105, 114, 101]⟩, .string ⟨#[103, 101, 116, 108, 105, 110, 101]⟩, .string ⟨#[95, 97]⟩, .string ⟨#[49, 97]⟩, .string ⟨#[]⟩, .string ⟨#[102, 117, 110, 99]⟩, .string ⟨#[69, 86, 69, 82, 89, 120]⟩, .string ⟨#[105, 110]⟩]) (.int .i64 7)) w = .ok (.string ⟨#[49, 97]⟩) w := by kernel_rfl
theorem nameA_8 (w : World) : Sem.run Tryd.prog (Instr.index 34 (.agg #[.string ⟨#[112, 114, 105, 110, 116]⟩, .string ⟨#[108, 101, 110, 103, 116, 104]⟩, .string ⟨#[120]⟩, .string ⟨#[66, 69, 71, 73, 78]⟩, .string ⟨#[101, 120, 112, 105, 114, 101]⟩, .string ⟨#[103, 101, 116, 108, 105, 110, 101]⟩, .string ⟨#[95, 97]⟩, .string ⟨#[49, 97]⟩, .string ⟨#[]⟩, .string ⟨#[102, 117, 110, 99]⟩, .string ⟨#[69, 86, 69, 82, 89, 120]⟩, .string ⟨#[105, 110]⟩]) (.int .i64 8)) w = .ok (.string ⟨#[]⟩) w := by kernel_rfl
theorem nameA_9 (w : World) : Sem.run Tryd.prog (Instr.index 34 (.agg #[.string ⟨#[112, 114, 105, 110, 116]⟩, .string ⟨#[108, 101, 110, 103, 116, 104]⟩, .string ⟨#[120]⟩, .string ⟨#[66, 69, 71, 73, 78]⟩, .string ⟨#[101, 120, 112, 105, 114, 101]⟩, .string ⟨#[103, 101, 116, 108, 105, 110, 101]⟩, .string ⟨#[95, 97]⟩, .string ⟨#[49, 97]⟩, .string ⟨#[]⟩, .string ⟨#[102, 117, 110, 99]⟩, .string ⟨#[69, 86, 69, 82, 89, 120]⟩, .string ⟨#[105, 110]⟩]) (.int .i64 9)) w = .ok (.string ⟨#[102, 117, 110, 99]⟩) w := by kernel_rfl
theorem nameA_10 (w : World) : Sem.run Tryd.prog (Instr.index 34 (.agg #[.string ⟨#[112, 114, 105, 110, 116]⟩, .string ⟨#[108, 101, 110, 103, 116, 104]⟩, .string ⟨#[120]⟩, .string ⟨#[66, 69, 71, 73, 78]⟩, .string ⟨#[101, 120, 112, 105, 114, 101]⟩, .string ⟨#[103, 101, 116, 108, 105, 110, 101]⟩, .string ⟨#[95, 97]⟩, .string ⟨#[49, 97]⟩, .string ⟨#[]⟩, .string ⟨#[102, 117, 110, 99]⟩, .string ⟨#[69, 86, 69, 82, 89, 120]⟩, .string ⟨#[105, 110]⟩]) (.int .i64 10)) w = .ok (.string ⟨#[69, 86, 69, 82, 89, 120]⟩) w := by kernel_rfl
theorem nameA_11 (w : World) : Sem.run Tryd.prog (Instr.index 34 (.agg #[.string ⟨#[112, 114, 105, 110, 116]⟩, .string ⟨#[108, 101, 110, 103, 116, 104]⟩, .string ⟨#[120]⟩, .string ⟨#[66, 69, 71, 73, 78]⟩, .string ⟨#[101, 120, 112, 105, 114, 101]⟩, .string ⟨#[103, 101, 116, 108, 105, 110, 101]⟩, .string ⟨#[95, 97]⟩, .string ⟨#[49, 97]⟩, .string ⟨#[]⟩, .string ⟨#[102, 117, 110, 99]⟩, .string ⟨#[69, 86, 69, 82, 89, 120]⟩, .string ⟨#[105, 110]⟩]) (.int .i64 11)) w = .ok (.string ⟨#[105, 110]⟩) w := by kernel_rfl

set_option maxRecDepth 100000 in
set_option maxHeartbeats 3200000 in
theorem names_true (s : ByteArray) (k : Int) (w : World) (hs : s.size ≤ 9223372036854775807) (hL : LaidF w) : Calls Tryd.prog 6 #[.string s, .int .i64 k] w fun e w' => e = .returned (.bool true) ∧ Below w.heap.size w w' := by
  have HK := Lib.hid (known_true w hL)
  have HS := Lib.hid hs
  clear hL hs
  have HP := Lib.hid (fun W => pick_any (wrap64 (k.tdiv 2)) 12 W (by decide) (by decide))
  have hn := pickN_lt (wrap64 (k.tdiv 2)) 12 (by decide)
  generalize pickN (wrap64 (k.tdiv 2)) 12 = n at HP hn
  have h12 : n = 0 ∨ n = 1 ∨ n = 2 ∨ n = 3 ∨ n = 4 ∨ n = 5 ∨ n = 6 ∨ n = 7 ∨ n = 8 ∨ n = 9 ∨ n = 10 ∨ n = 11 := by omega
  clear hn
  go_enter Tryd.func6, Tryd.ntmps6
  go_upto_if 7 with (fail)
  go_cut [0] (fun x wx => (∃ S : ByteArray, Hid (S.size ≤ 9223372036854775807) ∧ x = .string S) ∧ wx = w)
  case first =>
    cases hp : (k.tmod 2 == 0) with
    | true =>
      obtain rfl | rfl | rfl | rfl | rfl | rfl | rfl | rfl | rfl | rfl | rfl | rfl := h12
      all_goals
        have A0 := nameA_0
        have A1 := nameA_1
        have A2 := nameA_2
        have A3 := nameA_3
        have A4 := nameA_4
        have A5 := nameA_5
        have A6 := nameA_6
        have A7 := nameA_7
        have A8 := nameA_8
        have A9 := nameA_9
        have A10 := nameA_10
        have A11 := nameA_11
        go_wp2_with (go_at_call 13; refine (HP.out _).mono ?_; rintro e w' ⟨rfl, rfl⟩)
        go_meet
        exact ⟨⟨_, Lib.hid (by decide), rfl⟩, rfl⟩
    | false =>
      go_wp2
      go_meet
      exact ⟨⟨s, HS, rfl⟩, rfl⟩
  case rest =>
    obtain ⟨⟨S, HS2, rfl⟩, rfl⟩ := hcut
    go_wp2_with (first | (go_at_call 8; refine HK.out.mono ?_; rintro e w1 ⟨rfl, hb⟩) | (go_at_call 12; refine (isName_any _ _ (by have := HS2.out; unfold maxLen; omega)).mono ?_; rintro e w' ⟨rfl, rfl⟩) | (go_at_call 14; refine (rIsName_any _ _ HS2.out).mono ?_; rintro e w' ⟨rfl, rfl⟩) | (go_at_call 11; refine (isBuilt_of _ _ rfl _).mono ?_; rintro e w' ⟨rfl, rfl⟩) | (go_at_call 15; refine (rIsBuilt_any _ _).mono ?_; rintro e w' ⟨rfl, rfl⟩) | (go_at_call 10; refine (isWord_of _ _ rfl _).mono ?_; rintro e w' ⟨rfl, rfl⟩) | (go_at_call 16; refine (rIsWord_any _ _).mono ?_; rintro e w' ⟨rfl, rfl⟩))
    go_ret
    exact ⟨rfl, hb⟩

end Go.Proofs.YtkedagbknflacaaDoor
