/- The walk of tailracelaw16.TokenKnown. -/
import Derived.Test.YtkedagbknflacaaDoorXc
import Derived.Test.YtkedagbknflacaaDoorWq
import Derived.Test.YtkedagbknflacaaDoorWu
namespace Go.Proofs.YtkedagbknflacaaDoor
open Go.RowKit

theorem next_k1 (w : World) : Calls Tryd.prog 7 #[.string ⟨#[34, 97, 92, 110, 34]⟩, .int .i64 0, .bool true] w fun e w' => e = .returned (.tuple #[tokV 3 [97, 10] 0 0 5, .int .i64 0]) ∧ Below w.heap.size w w' := by
  have hK : skipK (ByteArray.data ⟨#[34, 97, 92, 110, 34]⟩).toList 0 = 0 := by decide
  have h := next_any ⟨#[34, 97, 92, 110, 34]⟩ 0 true w _ 0 [] 0 0 0 0 rfl (by decide) (by decide) (fun hn W hb => by rw [hK] at hn; exact absurd hn (by unfold numStart; decide))
  rw [hK] at h
  exact h

theorem next_k2 (w : World) : Calls Tryd.prog 7 #[.string ⟨#[34, 97]⟩, .int .i64 0, .bool true] w fun e w' => e = .returned (.tuple #[tokV 0 [] 0 0 0, .int .i64 21]) ∧ Below w.heap.size w w' := by
  have hK : skipK (ByteArray.data ⟨#[34, 97]⟩).toList 0 = 0 := by decide
  have h := next_any ⟨#[34, 97]⟩ 0 true w _ 0 [] 0 0 0 0 rfl (by decide) (by decide) (fun hn W hb => by rw [hK] at hn; exact absurd hn (by unfold numStart; decide))
  rw [hK] at h
  exact h

theorem next_k3 (w : World) : Calls Tryd.prog 7 #[.string ⟨#[64]⟩, .int .i64 0, .bool true] w fun e w' => e = .returned (.tuple #[tokV 0 [] 0 0 0, .int .i64 20]) ∧ Below w.heap.size w w' := by
  have hK : skipK (ByteArray.data ⟨#[64]⟩).toList 0 = 0 := by decide
  have h := next_any ⟨#[64]⟩ 0 true w _ 0 [] 0 0 0 0 rfl (by decide) (by decide) (fun hn W hb => by rw [hK] at hn; exact absurd hn (by unfold numStart; decide))
  rw [hK] at h
  exact h

theorem next_k4 (w : World) : Calls Tryd.prog 7 #[.string ⟨#[34, 97, 92, 113, 34]⟩, .int .i64 0, .bool true] w fun e w' => e = .returned (.tuple #[tokV 0 [] 0 0 0, .int .i64 22]) ∧ Below w.heap.size w w' := by
  have hK : skipK (ByteArray.data ⟨#[34, 97, 92, 113, 34]⟩).toList 0 = 0 := by decide
  have h := next_any ⟨#[34, 97, 92, 113, 34]⟩ 0 true w _ 0 [] 0 0 0 0 rfl (by decide) (by decide) (fun hn W hb => by rw [hK] at hn; exact absurd hn (by unfold numStart; decide))
  rw [hK] at h
  exact h

theorem next_k6 (w : World) : Calls Tryd.prog 7 #[.string ⟨#[35, 32, 99, 10]⟩, .int .i64 0, .bool true] w fun e w' => e = .returned (.tuple #[tokV 1 [] 0 3 4, .int .i64 0]) ∧ Below w.heap.size w w' := by
  have hK : skipK (ByteArray.data ⟨#[35, 32, 99, 10]⟩).toList 0 = 3 := by decide
  have h := next_any ⟨#[35, 32, 99, 10]⟩ 0 true w _ 0 [] 0 0 0 0 rfl (by decide) (by decide) (fun hn W hb => by rw [hK] at hn; exact absurd hn (by unfold numStart; decide))
  rw [hK] at h
  exact h

theorem next_k7 (w : World) : Calls Tryd.prog 7 #[.string ⟨#[102, 40, 120, 41]⟩, .int .i64 0, .bool true] w fun e w' => e = .returned (.tuple #[tokV 6 [102] 0 0 1, .int .i64 0]) ∧ Below w.heap.size w w' := by
  have hK : skipK (ByteArray.data ⟨#[102, 40, 120, 41]⟩).toList 0 = 0 := by decide
  have h := next_any ⟨#[102, 40, 120, 41]⟩ 0 true w _ 0 [] 0 0 0 0 rfl (by decide) (by decide) (fun hn W hb => by rw [hK] at hn; exact absurd hn (by unfold numStart; decide))
  rw [hK] at h
  exact h

theorem next_k5 (w : World) (hL : LaidE w) : Calls Tryd.prog 7 #[.string ⟨#[49, 101, 57, 57, 57]⟩, .int .i64 0, .bool true] w fun e w' => e = .returned (.tuple #[tokV 0 [] 0 0 0, .int .i64 23]) ∧ Below w.heap.size w w' := by
  have hK : skipK (ByteArray.data ⟨#[49, 101, 57, 57, 57]⟩).toList 0 = 0 := by decide
  have h := next_any ⟨#[49, 101, 57, 57, 57]⟩ 0 true w _ _ _ _ _ _ _ rfl (by decide) (by decide) (fun _ W hb => by rw [hK]; exact number_1e999 W (hL.below hb))
  rw [hK] at h
  exact h

theorem below_next {w wi wj : World} {B : Nat} {o : Obj} (h : Below B w wi ∧ B ≤ wi.heap.size) (hb : Below (wi.alloc o).heap.size (wi.alloc o) wj) : Below B w wj ∧ B ≤ wj.heap.size := by
  have hs := hb.size
  simp only [World.size_alloc] at hs
  exact ⟨(h.1.alloc h.2 o).trans (hb.mono (by simp only [World.size_alloc]; omega)), by omega⟩

set_option maxRecDepth 100000 in
set_option maxHeartbeats 3200000 in
theorem tokenKnown_true (w : World) (hL : LaidE w) : Calls Tryd.prog 5 #[] w fun e w' => e = .returned (.bool true) ∧ Below w.heap.size w w' := by
  have h1 := fun W => next_k1 W
  have h2 := fun W => next_k2 W
  have h3 := fun W => next_k3 W
  have h4 := fun W => next_k4 W
  have h5 := fun W => next_k5 W
  have h6 := fun W => next_k6 W
  have h7 := fun W => next_k7 W
  unfold tokV at h1 h2 h3 h4 h5 h6 h7
  have H1 := Lib.hid h1
  have H2 := Lib.hid h2
  have H3 := Lib.hid h3
  have H4 := Lib.hid h4
  have H5 := Lib.hid h5
  have H6 := Lib.hid h6
  have H7 := Lib.hid h7
  have HK := Lib.hid (fun W h => known_true W h)
  have HL := Lib.hid hL
  clear hL h1 h2 h3 h4 h5 h6 h7
  go_enter Tryd.func5, Tryd.ntmps5
  go_wp2_with (first
    | (go_at_call 7; first
      | (with_reducible refine (H1.out _).mono ?_; rintro e w1 ⟨rfl, hb1⟩)
      | (with_reducible refine (H2.out _).mono ?_; rintro e w2 ⟨rfl, hb2⟩)
      | (with_reducible refine (H3.out _).mono ?_; rintro e w3 ⟨rfl, hb3⟩)
      | (with_reducible refine (H4.out _).mono ?_; rintro e w4 ⟨rfl, hb4⟩)
      | (with_reducible refine (H5.out _ ?hl5).mono ?_; rotate_left; rintro e w5 ⟨rfl, hb5⟩)
      | (with_reducible refine (H6.out _).mono ?_; rintro e w6 ⟨rfl, hb6⟩)
      | (with_reducible refine (H7.out _).mono ?_; rintro e w7 ⟨rfl, hb7⟩))
    | (go_at_call 8; refine (HK.out _ ?hl8).mono ?_; rotate_left; rintro e w8 ⟨rfl, hb8⟩
       obtain ⟨_, a, _, _, _, _, _, _, _, _⟩ := cells5 (hb2.mono (B' := w1.heap.size + 1) (by simp))
       obtain ⟨b0, _, _, b3, _, _, _, _, _, _⟩ := cells5 (hb7.mono (B' := w6.heap.size + 1) (by simp))
       obtain ⟨c0, _, _, _, _, _, _, _, _, _⟩ := cells5 (hb8.mono (B' := w7.heap.size + 1) (by simp))
       have s2 := hb2.size
       have s3 := hb3.size
       have s4 := hb4.size
       have s5 := hb5.size
       have s6 := hb6.size
       have s7 := hb7.size
       have s8 := hb8.size
       simp only [World.size_alloc] at s2 s3 s4 s5 s6 s7 s8
       have a := cell_far (by omega) hb8 (cell_far (by omega) hb7 (cell_far (by omega) hb6 (cell_far (by omega) hb5 (cell_far (by omega) hb4 (cell_far (by omega) hb3 a)))))
       have b0 := cell_far (by omega) hb8 b0
       have b3 := cell_far (by omega) hb8 b3
       clear s2 s3 s4 s5 s6 s7 s8)
    | (go_at_call 12; refine (isName_any _ _ (by unfold maxLen; decide)).mono ?_; rintro e w' ⟨rfl, rfl⟩)
    | (go_at_call 11; refine (isBuilt_of _ _ rfl _).mono ?_; rintro e w' ⟨rfl, rfl⟩)
    | (go_at_call 10; refine (isWord_of _ _ rfl _).mono ?_; rintro e w' ⟨rfl, rfl⟩))
  case hl5 =>
    have B4 := below_next (below_next (below_next ⟨hb1, hb1.size⟩ hb2) hb3) hb4
    exact HL.out.below (B4.1.alloc B4.2 _)
  case hl8 =>
    have B7 := below_next (below_next (below_next (below_next (below_next (below_next ⟨hb1, hb1.size⟩ hb2) hb3) hb4) hb5) hb6) hb7
    exact HL.out.lf.below (B7.1.alloc B7.2 _)
  all_goals
    go_ret
    exact ⟨rfl, (below_next (below_next (below_next (below_next (below_next (below_next (below_next ⟨hb1, hb1.size⟩ hb2) hb3) hb4) hb5) hb6) hb7) hb8).1⟩

end Go.Proofs.YtkedagbknflacaaDoor
