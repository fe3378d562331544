/- What the walks ask of the library's variables, the error among them. -/
import Derived.Test.YtkedagbknflacaaDoorXb
namespace Go.Proofs.YtkedagbknflacaaDoor
open Go.RowKit

structure LaidE (w : World) : Prop where
  lf : LaidF w
  er : ∃ te pe, w.cell? ⟨2, 0, none⟩ = some (.iface te pe)

theorem LaidE.below {w w' : World} (h : LaidE w) (hb : Below w.heap.size w w') : LaidE w' := by
  obtain ⟨h1, te, pe, h2⟩ := h
  exact ⟨h1.below hb, te, pe, by rw [hb.cell (World.block_lt_of_cell? w _ h2)]; exact h2⟩

theorem rf_1e999 : rf [49, 101, 57, 57, 57] = ⟨1, 999, false, false, 5, true⟩ := by rfl

theorem parse_1e999 (w : World) (s : ByteArray) (hs : s.data.toList = [49, 101, 57, 57, 57]) (hL : LaidE w) :
    Calls Tryd.prog 34 #[.string s, .int .i64 64] w fun e w' => ∃ v, e = .returned (.tuple #[.float .f64 9218868437227405312, v]) ∧ Below w.heap.size w w' := by
  have hsz : s.size = 5 := by
    have : s.data.toList.length = s.size := rfl
    rw [hs] at this; exact this.symm
  obtain ⟨h1, te, pe, h2⟩ := hL
  refine parse_of s w _ te pe (by omega) h2 (iparse_gen s w _ ?_)
  rw [hsz]
  exact (atof64_big s w (by omega) (by rw [hs]; decide) h1 1 999 false false 5 (by rw [hs]; exact rf_1e999) (by omega) (by omega)).mono fun e w' ⟨he, hw⟩ => ⟨_, .inr rfl, he, hw ▸ Below.refl _ _⟩

theorem number_1e999 (w : World) (hL : LaidE w) : Calls Tryd.prog 18 #[.string ⟨#[49, 101, 57, 57, 57]⟩, .int .i64 (0 : Nat)] w fun e w' => e = .returned (.tuple #[tokV 0 [] 0 0 0, .int .i64 23]) ∧ Below w.heap.size w w' := by
  have h := number_of ⟨#[49, 101, 57, 57, 57]⟩ 0 5 9218868437227405312 w (by decide) (by decide) (by omega) (fun W hW => by
    have hS : (ByteArray.extract ⟨#[49, 101, 57, 57, 57]⟩ 0 (ByteArray.size ⟨#[49, 101, 57, 57, 57]⟩)) = ⟨#[49, 101, 57, 57, 57]⟩ := by decide
    rw [hS]
    have h := prefix_some ⟨#[49, 101, 57, 57, 57]⟩ W 9218868437227405312 (by decide) (by decide) (parse_1e999 W _ (by decide) (hL.below hW))
    have e1 : plainN 9218868437227405312 = 9218868437227405312 := by kernel_rfl
    have e2 : prefixE (ByteArray.data ⟨#[49, 101, 57, 57, 57]⟩).toList = 5 := by decide
    rw [e1, e2] at h
    exact h)
  have e : numV 9218868437227405312 (inR (ByteArray.data ⟨#[49, 101, 57, 57, 57]⟩).toList 0 (0 + 5)) (0 : Nat) (0 + 5 : Nat) = .tuple #[tokV 0 [] 0 0 0, .int .i64 23] := by
    have hi : infB 9218868437227405312 = true := by kernel_rfl
    rw [numV, if_pos (by rw [hi])]; rfl
  rw [e] at h
  exact h

end Go.Proofs.YtkedagbknflacaaDoor
