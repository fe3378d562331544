/- The walk of 'known': true. -/
import Derived.Test.YtkedagbknflacaaDoorWo
import Derived.Test.YtkedagbknflacaaDoorWu
import Derived.Test.YtkedagbknflacaaDoorWm

namespace Go.Proofs.YtkedagbknflacaaDoor
open Go.RowKit

theorem cell_on {W : World} {a : Addr} {v : Value} (o : Obj) (h : W.cell? a = some v) : (W.alloc o).cell? a = some v := by
  have hlt : a.block < W.heap.size := by
    rcases Nat.lt_or_ge a.block W.heap.size with h' | h'
    · exact h'
    · simp [World.cell?, Array.getElem?_eq_none h'] at h
  exact ((Below.refl W.heap.size W).alloc (Nat.le_refl _) o).cell hlt ▸ h
theorem cells_on {W : World} {n : Nat} {v0 v1 v2 v3 v4 : Value} (h0 : W.cell? ⟨n, 0, none⟩ = some v0) (h1 : W.cell? ⟨n, 1, none⟩ = some v1) (h2 : W.cell? ⟨n, 2, none⟩ = some v2) (h3 : W.cell? ⟨n, 3, none⟩ = some v3) (h4 : W.cell? ⟨n, 4, none⟩ = some v4) :
    (∀ o, (W.alloc o).cell? ⟨n, 0, none⟩ = some v0) ∧ (∀ o, (W.alloc o).cell? ⟨n, 1, none⟩ = some v1) ∧ (∀ o, (W.alloc o).cell? ⟨n, 2, none⟩ = some v2) ∧ (∀ o, (W.alloc o).cell? ⟨n, 3, none⟩ = some v3) ∧ (∀ o, (W.alloc o).cell? ⟨n, 4, none⟩ = some v4) :=
  ⟨fun o => cell_on o h0, fun o => cell_on o h1, fun o => cell_on o h2, fun o => cell_on o h3, fun o => cell_on o h4⟩
theorem cell_far {w2 w3 : World} {n j : Nat} {o : Obj} {v : Value} (hlt : n < w2.heap.size) (hb : Below (w2.alloc o).heap.size (w2.alloc o) w3) (hc : w2.cell? ⟨n, j, none⟩ = some v) : w3.cell? ⟨n, j, none⟩ = some v := by
  rw [hb.cell (by simp; omega)]
  exact ((Below.refl w2.heap.size w2).alloc (Nat.le_refl _) o).cell (p := ⟨n, j, none⟩) hlt ▸ hc

theorem far5 {w2 w3 : World} {n : Nat} {o o1 : Obj} {v0 v1 v2 v3 v4 : Value} {W : World} (h : n < (W.alloc o1).heap.size) (hb2 : Below (W.alloc o1).heap.size (W.alloc o1) w2) (hb : Below (w2.alloc o).heap.size (w2.alloc o) w3)
    (h0 : w2.cell? ⟨n, 0, none⟩ = some v0) (h1 : w2.cell? ⟨n, 1, none⟩ = some v1) (h2 : w2.cell? ⟨n, 2, none⟩ = some v2) (h3 : w2.cell? ⟨n, 3, none⟩ = some v3) (h4 : w2.cell? ⟨n, 4, none⟩ = some v4) :
    (∀ o', (w3.alloc o').cell? ⟨n, 0, none⟩ = some v0) ∧ (∀ o', (w3.alloc o').cell? ⟨n, 1, none⟩ = some v1) ∧ (∀ o', (w3.alloc o').cell? ⟨n, 2, none⟩ = some v2) ∧ (∀ o', (w3.alloc o').cell? ⟨n, 3, none⟩ = some v3) ∧ (∀ o', (w3.alloc o').cell? ⟨n, 4, none⟩ = some v4) := by
  have a := hb2.size
  have b := hb.size
  simp at b
  have c : n < w2.heap.size := by omega
  exact ⟨fun o' => cell_on o' (cell_far c hb h0), fun o' => cell_on o' (cell_far c hb h1), fun o' => cell_on o' (cell_far c hb h2), fun o' => cell_on o' (cell_far c hb h3), fun o' => cell_on o' (cell_far c hb h4)⟩

theorem number_15e3 (w : World) (hL : LaidF w) : Calls Tryd.prog 18 #[.string ⟨#[32, 49, 46, 53, 101, 51, 120]⟩, .int .i64 (1 : Nat)] w fun e w' => e = .returned (.tuple #[tokV 2 [49, 46, 53, 101, 51] 4654311885213007872 1 6, .int .i64 0]) ∧ Below w.heap.size w w' := by
  have h := number_of ⟨#[32, 49, 46, 53, 101, 51, 120]⟩ 1 5 4654311885213007872 w (by decide) (by decide) (by omega) (fun W hW => by
    have hS : (ByteArray.extract ⟨#[32, 49, 46, 53, 101, 51, 120]⟩ 1 (ByteArray.size ⟨#[32, 49, 46, 53, 101, 51, 120]⟩)) = ⟨#[49, 46, 53, 101, 51, 120]⟩ := by decide
    rw [hS]
    have h := prefix_some ⟨#[49, 46, 53, 101, 51, 120]⟩ W 4654311885213007872 (by decide) (by decide) ((parse_15e3 W _ (by decide) (hL.below hW)).mono (fun e w' ⟨he, hw⟩ => ⟨_, he, hw ▸ Below.refl _ _⟩))
    have e1 : plainN 4654311885213007872 = 4654311885213007872 := by kernel_rfl
    have e2 : prefixE (ByteArray.data ⟨#[49, 46, 53, 101, 51, 120]⟩).toList = 5 := by decide
    rw [e1, e2] at h
    exact h)
  have e : numV 4654311885213007872 (inR (ByteArray.data ⟨#[32, 49, 46, 53, 101, 51, 120]⟩).toList 1 (1 + 5)) (1 : Nat) (1 + 5 : Nat) = .tuple #[tokV 2 [49, 46, 53, 101, 51] 4654311885213007872 1 6, .int .i64 0] := by
    have hi : infB 4654311885213007872 = false := by kernel_rfl
    rw [numV, if_neg (by rw [hi]; decide)]; rfl
  rw [e] at h
  exact h

theorem next_15e3 (w : World) (hL : LaidF w) : Calls Tryd.prog 7 #[.string ⟨#[32, 49, 46, 53, 101, 51, 120]⟩, .int .i64 0, .bool true] w fun e w' => e = .returned (.tuple #[tokV 2 [49, 46, 53, 101, 51] 4654311885213007872 1 6, .int .i64 0]) ∧ Below w.heap.size w w' := by
  have hK : skipK (ByteArray.data ⟨#[32, 49, 46, 53, 101, 51, 120]⟩).toList 0 = 1 := by decide
  have h := next_any ⟨#[32, 49, 46, 53, 101, 51, 120]⟩ 0 true w _ _ _ _ _ _ _ rfl (by decide) (by decide) (fun _ W hb => by rw [hK]; exact number_15e3 W (hL.below hb))
  rw [hK] at h
  exact h

theorem next_div (w : World) : Calls Tryd.prog 7 #[.string ⟨#[97, 47, 98]⟩, .int .i64 1, .bool false] w fun e w' => e = .returned (.tuple #[tokV 9 [47] 0 1 2, .int .i64 0]) ∧ Below w.heap.size w w' := by
  have hK : skipK (ByteArray.data ⟨#[97, 47, 98]⟩).toList 1 = 1 := by decide
  have h := next_any ⟨#[97, 47, 98]⟩ 1 false w _ 0 [] 0 0 0 0 rfl (by decide) (by decide) (fun hn W hb => by rw [hK] at hn; exact absurd hn (by unfold numStart; decide))
  rw [hK] at h
  exact h

theorem next_reg (w : World) : Calls Tryd.prog 7 #[.string ⟨#[97, 47, 98, 47]⟩, .int .i64 1, .bool true] w fun e w' => e = .returned (.tuple #[tokV 4 [98] 0 1 4, .int .i64 0]) ∧ Below w.heap.size w w' := by
  have hK : skipK (ByteArray.data ⟨#[97, 47, 98, 47]⟩).toList 1 = 1 := by decide
  have h := next_any ⟨#[97, 47, 98, 47]⟩ 1 true w _ 0 [] 0 0 0 0 rfl (by decide) (by decide) (fun hn W hb => by rw [hK] at hn; exact absurd hn (by unfold numStart; decide))
  rw [hK] at h
  exact h

set_option maxRecDepth 100000 in
set_option maxHeartbeats 1600000 in
theorem known_true (w : World) (hL : LaidF w) : Calls Tryd.prog 8 #[] w fun e w' => e = .returned (.bool true) ∧ Below w.heap.size w w' := by
  have h1 := next_15e3 w hL
  have h2 := fun W => next_div W
  have h3 := fun W => next_reg W
  unfold tokV at h1 h2 h3
  have H1 := Lib.hid h1
  have H2 := Lib.hid h2
  have H3 := Lib.hid h3
  have H4 := Lib.hid (fun W => place_abc W)
  clear hL h1 h2 h3
  have o1 : FloatKind.f64.format.order 4654311885213007872 4654311885213007872 = some .eq := by kernel_rfl
  have o2 : FloatKind.f64.format.order 4611686018427387904 4611686018427387904 = some .eq := by kernel_rfl
  have o3 : FloatKind.f64.format.order 4607182418800017408 4607182418800017408 = some .eq := by kernel_rfl
  go_enter Tryd.func8, Tryd.ntmps8
  go_wp2_with (first | (go_at_call 7; first | (with_reducible refine H1.out.mono ?_; rintro e w1 ⟨rfl, hb1⟩) | (with_reducible refine (H2.out _).mono ?_; rintro e w2 ⟨rfl, hb2⟩; obtain ⟨c0, c1, c2, c3, c4, f0, f1, f2, f3, f4⟩ := cells5 (hb2.mono (B' := w1.heap.size + 1) (by simp))) | (with_reducible refine (H3.out _).mono ?_; rintro e w3 ⟨rfl, hb3⟩; obtain ⟨d0, d1, d2, d3, d4⟩ := far5 (by simp) hb2 hb3 c0 c1 c2 c3 c4; obtain ⟨g0, g1, g2, g3, g4, _, _, _, _, _⟩ := cells5 (hb3.mono (B' := w2.heap.size + 1) (by simp)); obtain ⟨k0, k1, k2, k3, k4⟩ := cells_on g0 g1 g2 g3 g4; clear g0 g1 g2 g3 g4)) | (go_at_call 24; refine (H4.out _).mono ?_; rintro e w' ⟨rfl, rfl⟩))
  go_ret
  refine ⟨rfl, ?_⟩
  have s1 := hb1.size
  have s2 := hb2.size
  have s3 := hb3.size
  simp at s2 s3
  exact ((((hb1.alloc s1 _).trans (hb2.mono (by simp; omega))).alloc (by omega) _).trans (hb3.mono (by simp; omega))).alloc (by omega) _

end Go.Proofs.YtkedagbknflacaaDoor
