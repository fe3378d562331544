/- NumDigits: true. What a slice of two-celled elements holds that reads as listed. No program here. -/
import Derived.Test.YtdencljnbilchaaGreatDoorVq
import Derived.Test.YtdencljnbilchaaGreatDoorHe
import Derived.Test.YtdencljnbilchaaGreatDoorXt
import Derived.Test.YtdencljnbilchaaGreatDoorGl

namespace Go.Proofs.YtdencljnbilchaaGreatDoor
open Go.RowKit

theorem calls_below {f : Nat} {args : Array Value} {w : World} {v : Value} (h : Calls Tryz.prog f args w fun e w' => e = .returned v ∧ w = w') : Calls Tryz.prog f args w fun e w' => e = .returned v ∧ Below w.heap.size w w' :=
  h.mono fun _ _ ⟨h1, h2⟩ => ⟨h1, h2 ▸ Below.refl _ _⟩

theorem digits_both (x : Nat) (hx : x < 18446744073709551616) : ∃ T : ByteArray, ∀ W, LaidG W →
    Calls Tryz.prog 16 #[.float .f64 x] W (fun e w' => e = .returned (.string T) ∧ Below W.heap.size W w') ∧
    Calls Tryz.prog 38 #[.float .f64 x] W (fun e w' => e = .returned (.string T) ∧ Below W.heap.size W w') := by
  rcases class3 x hx with h | rfl | rfl | h
  · obtain ⟨ng, ds, _, _, h1, h2⟩ := digits_fin x hx h
    exact ⟨_, fun W hL => ⟨h1 W hL, rdigits_fin x _ W h (h2 W hL)⟩⟩
  · exact ⟨_, fun W _ => ⟨calls_below (digits_infP _ W (by kernel_rfl) (by kernel_rfl)), calls_below (rdigits_inf W)⟩⟩
  · exact ⟨_, fun W _ => ⟨calls_below (digits_infM _ W (by kernel_rfl) (by kernel_rfl) (by kernel_rfl)), calls_below (rdigits_minf W)⟩⟩
  · have hn := nan_order hx h x
    exact ⟨_, fun W _ => ⟨calls_below (digits_nan x W (by unfold nanB; rw [hn]; rfl)), calls_below (rdigits_nan x hn W)⟩⟩

theorem whole_both (x : Nat) (hx : x < 18446744073709551616) : ∃ b : Bool, ∀ W,
    Calls Tryz.prog 34 #[.float .f64 x] W (fun e w' => e = .returned (.bool b) ∧ Below W.heap.size W w') ∧
    Calls Tryz.prog 36 #[.float .f64 x] W (fun e w' => e = .returned (.bool b) ∧ Below W.heap.size W w') := by
  rcases class3 x hx with h | rfl | rfl | h
  · exact ⟨wholeB x, fun W => ⟨calls_below (whole_fin x h W), calls_below (rwhole_fin x hx h W)⟩⟩
  · exact ⟨false, fun W => ⟨calls_below (whole_inf W), calls_below (rwhole_non _ W rfinite_inf)⟩⟩
  · exact ⟨false, fun W => ⟨calls_below (whole_minf W), calls_below (rwhole_non _ W rfinite_minf)⟩⟩
  · exact ⟨false, fun W => ⟨whole_nan x hx h W, calls_below (rwhole_non x W (fun W' => rfinite_nan x (nan_order hx h x) W'))⟩⟩

end Go.Proofs.YtdencljnbilchaaGreatDoor

namespace Go
open Go.ChangeShapes Go.WideShapes Go.RowKit
section
variable {H : Type} {enc : TypeId × Value → H} {P : Program} {w : World} {base : Nat} {sp : Nat → Bool} {held : Bool}

theorem trod_slice_inv2 {fuel : Nat} {t e : TypeId} {cs : List Value} {ds rest : List (DataW H)} {p : List MemPlace} (ht : P.underlying t = some (.slice e)) (hc : P.cellsOf e = 2)
    (h : DataW.trod enc P w base sp held fuel t cs = some (.slice ds rest, p)) :
    ∃ a cap, cs = [.slice (some a) ds.length cap] ∧ ∀ i d, ds[i]? = some d → ∃ v v' fu q, w.cell? (a.add (i * 2)) = some v ∧ w.cell? ((a.add (i * 2)).add 1) = some v' ∧ DataW.trod enc P w base sp held fu e [v, v'] = some (d, q) := by
  cases fuel with
  | zero => simp [DataW.trod] at h
  | succ n =>
    unfold DataW.trod at h
    rw [ht] at h
    split at h <;> try (simp at *; done)
    · rename_i e' a len cap heq
      cases heq
      dsimp only at h
      split at h
      · simp only [Option.bind_eq_some_iff, Option.map_eq_some_iff] at h
        obtain ⟨elems, he, rest', hr, hx⟩ := h
        simp only [Prod.mk.injEq, DataW.slice.injEq] at hx
        obtain ⟨⟨h1, h2⟩, _⟩ := hx
        have hlen : elems.length = len := by have := Lib.mapM_length he; simpa using this
        have hl : ds.length = len := by rw [← h1]; simpa using hlen
        refine ⟨a, cap, by rw [hl], fun i d hd => ?_⟩
        have hi : i < len := by
          rcases Nat.lt_or_ge i len with h | h
          · exact h
          · rw [List.getElem?_eq_none (by omega)] at hd; cases hd
        obtain ⟨q, hq⟩ := mapM_fst he i i d (by simp [hi]) (by rw [h1]; exact hd)
        simp only [Option.bind_eq_some_iff] at hq
        obtain ⟨vs, hv, hq⟩ := hq
        rw [hc] at hv
        unfold World.cells? at hv
        split at hv
        · simp only [show List.range 2 = [0, 1] from rfl, List.mapM_cons, List.mapM_nil] at hv
          cases hcell : w.cell? ((a.add (i * 2)).add 0) with
          | none => rw [hcell] at hv; cases hv
          | some v =>
            cases hcell' : w.cell? ((a.add (i * 2)).add 1) with
            | none => rw [hcell, hcell'] at hv; cases hv
            | some v' =>
              rw [hcell, hcell'] at hv
              cases hv
              refine ⟨v, v', n, q, ?_, rfl, hq⟩
              have : (a.add (i * 2)).add 0 = a.add (i * 2) := by cases a; simp [Addr.add]
              rwa [this] at hcell
        · cases hv
      · cases h

end
end Go
