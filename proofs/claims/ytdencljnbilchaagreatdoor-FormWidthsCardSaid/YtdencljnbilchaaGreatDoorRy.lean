/- A slice of bytes that came in. -/
import Derived.Test.YtdencljnbilchaaGreatDoorRs
import Derived.Laws.Cover2

namespace Go.Proofs.YtdencljnbilchaaGreatDoor
open Go.ChangeShapes Go.WideShapes Go.ChangeAt Go.RowKit

theorem wf_u8' {n : Int} (h : (Lit.int IntKind.u8 n).wf = true) : 0 ≤ n ∧ n ≤ 255 := by
  have h2 : IntKind.u8.min ≤ n ∧ n ≤ IntKind.u8.max := by simpa [Lit.wf] using h
  exact h2

set_option maxRecDepth 1000000 in
theorem open_bytesV {H : Type} {enc : TypeId × Value → H} {W : World} {base : Nat} {v : Value} {d : DataW H} {p : List MemPlace} (hval : Value.okWide Tryz.prog W .any base 33 v) (h : DataW.Trod enc Tryz.prog W 0 (fun _ => true) true 33 v d p) :
    ∃ (ao : Option Addr) (n cap : Nat) (Z : Nat → Nat), v = .slice ao n cap ∧ n ≤ 9223372036854775807 ∧ (n = 0 ∨ ∃ b o, ao = some ⟨b, o, none⟩ ∧ ∀ i, i < n → Z i < 256 ∧ W.cell? ⟨b, o + i, none⟩ = some (.int .u8 (Z i))) := by
  obtain ⟨a1, len, cap, rfl⟩ := okWide_slice Tryz.underlying33 hval
  obtain ⟨fuel, hf⟩ := h
  rcases open_ints Tryz.underlying33 Tryz.underlying5 (by kernel_rfl) hf with ⟨hcs, hx⟩ | ⟨a, len', cap', zs, hcs, _, hl, hm, hz, hx, hcell, hwz⟩
  · simp [Value.cells] at hcs
    obtain ⟨rfl, rfl, rfl⟩ := hcs
    exact ⟨none, 0, 0, fun _ => 0, rfl, by omega, .inl rfl⟩
  · simp [Value.cells] at hcs
    obtain ⟨rfl, rfl, rfl⟩ := hcs
    simp only [if_true] at hz
    refine ⟨some a, len, cap, fun i => (zs.getD i 0).toNat, rfl, by unfold maxLen at hm; omega, ?_⟩
    by_cases h0 : len = 0
    · exact .inl h0
    · right
      obtain ⟨ab, ao, spot⟩ := a
      have hspot : spot = none := by simpa [Addr.add] using World.cell?_spot (hcell 0 (by omega))
      subst hspot
      refine ⟨ab, ao, rfl, fun i hi => ?_⟩
      have h1 := hcell i (by omega)
      have h2 : (Lit.int IntKind.u8 (zs.getD i 0)).wf = true := hwz _ (by
        have hlt : i < zs.length := by omega
        rw [List.getD_eq_getElem?_getD, List.getElem?_eq_getElem hlt]
        exact List.getElem_mem hlt)
      obtain ⟨h3, h4⟩ : 0 ≤ zs.getD i 0 ∧ zs.getD i 0 ≤ 255 := by
        exact wf_u8' h2
      rw [Addr.add_lit] at h1
      refine ⟨by show (zs.getD i 0).toNat < 256; omega, ?_⟩
      rw [h1]
      show some (Value.int IntKind.u8 (zs.getD i 0)) = some (Value.int IntKind.u8 ((zs.getD i 0).toNat : Int))
      rw [Int.toNat_of_nonneg h3]

theorem wf_both {k : IntKind} {n : Int} (h : (Lit.int k n).wf = true) : k.min ≤ n ∧ n ≤ k.max := by simpa [Lit.wf] using h
theorem wf_u32 {n : Int} (h : (Lit.int .u32 n).wf = true) : 0 ≤ n ∧ n ≤ 4294967295 := wf_both h
theorem wf_i8 {n : Int} (h : (Lit.int .i8 n).wf = true) : -128 ≤ n ∧ n ≤ 127 := wf_both h
theorem wf_i64 {n : Int} (h : (Lit.int .i64 n).wf = true) : -9223372036854775808 ≤ n ∧ n ≤ 9223372036854775807 := wf_both h
theorem wf_float {b : Nat} (h : (Lit.float .f64 b).wf = true) : b < 18446744073709551616 := by simpa [Lit.wf] using h

end Go.Proofs.YtdencljnbilchaaGreatDoor
