/- Readings of package-level variables: from data to cells. No program here. -/
import Derived.WalkKit
import Derived.Lib.LaidU8
import Derived.OpenShut

namespace Go
open Go.RowKit

section
variable {H : Type} {enc : TypeId × Value → H} {P : Program} {w : World} {held : Bool} {base : Nat} {sp : Nat → Bool}

theorem trod_bool_inv {fuel : Nat} {t : TypeId} {cs : List Value} {b : Bool} {p : List MemPlace} (ht : P.underlying t = some .bool) (h : DataW.trod enc P w base sp held fuel t cs = some (.lit (.bool b), p)) : cs = [.bool b] := by
  cases fuel with
  | zero => simp [DataW.trod] at h
  | succ n =>
    unfold DataW.trod at h
    rw [ht] at h
    split at h <;> simp_all

theorem trod_int_inv {fuel : Nat} {t : TypeId} {cs : List Value} {k : IntKind} {z : Int} {p : List MemPlace} (ht : P.underlying t = some (.int k)) (h : DataW.trod enc P w base sp held fuel t cs = some (.lit (.int k z), p)) : cs = [.int k z] := by
  cases fuel with
  | zero => simp [DataW.trod] at h
  | succ n =>
    unfold DataW.trod at h
    rw [ht] at h
    split at h <;> simp_all

theorem trod_float_inv {fuel : Nat} {t : TypeId} {cs : List Value} {k : FloatKind} {z : Nat} {p : List MemPlace} (ht : P.underlying t = some (.float k)) (h : DataW.trod enc P w base sp held fuel t cs = some (.lit (.float k z), p)) : cs = [.float k z] := by
  cases fuel with
  | zero => simp [DataW.trod] at h
  | succ n =>
    unfold DataW.trod at h
    rw [ht] at h
    split at h <;> simp_all

theorem trod_string_inv {fuel : Nat} {t : TypeId} {cs : List Value} {z : List UInt8} {p : List MemPlace} (ht : P.underlying t = some .string) (h : DataW.trod enc P w base sp held fuel t cs = some (.lit (.string z), p)) : cs = [.string ⟨z.toArray⟩] := by
  cases fuel with
  | zero => simp [DataW.trod] at h
  | succ n =>
    unfold DataW.trod at h
    rw [ht] at h
    split at h <;> simp_all
    rename_i s
    obtain ⟨_, h, _⟩ := h
    rw [← h]

theorem mapM_fst {α β γ : Type} {f : α → Option (β × γ)} {l : List α} {r : List (β × γ)} (h : l.mapM f = some r) (i : Nat) (a : α) (d : β) (ha : l[i]? = some a) (hd : (r.map (·.1))[i]? = some d) : ∃ q, f a = some (d, q) := by
  obtain ⟨b, hb, hf⟩ := Lib.mapM_at h i a ha
  simp only [List.getElem?_map, hb, Option.map_some, Option.some.injEq] at hd
  exact ⟨b.2, by rw [hf, ← hd]⟩

theorem trod_slice_inv {fuel : Nat} {t e : TypeId} {cs : List Value} {ds rest : List (DataW H)} {p : List MemPlace} (ht : P.underlying t = some (.slice e)) (hc : P.cellsOf e = 1)
    (h : DataW.trod enc P w base sp held fuel t cs = some (.slice ds rest, p)) :
    ∃ a cap, cs = [.slice (some a) ds.length cap] ∧ ∀ i d, ds[i]? = some d → ∃ v fu q, w.cell? (a.add i) = some v ∧ DataW.trod enc P w base sp held fu e [v] = some (d, q) := by
  cases fuel with
  | zero => simp [DataW.trod] at h
  | succ n =>
    unfold DataW.trod at h
    rw [ht] at h
    split at h <;> try (simp at *; done)
    · rename_i e' a len cap heq
      cases heq
      dsimp only at h
      split at h
      · simp only [Option.bind_eq_some_iff, Option.map_eq_some_iff] at h
        obtain ⟨elems, he, rest', hr, hx⟩ := h
        simp only [Prod.mk.injEq, DataW.slice.injEq] at hx
        obtain ⟨⟨h1, h2⟩, _⟩ := hx
        have hlen : elems.length = len := by have := Lib.mapM_length he; simpa using this
        have hl : ds.length = len := by rw [← h1]; simpa using hlen
        refine ⟨a, cap, by rw [hl], fun i d hd => ?_⟩
        have hi : i < len := by
          rcases Nat.lt_or_ge i len with h | h
          · exact h
          · rw [List.getElem?_eq_none (by omega)] at hd; cases hd
        obtain ⟨q, hq⟩ := mapM_fst he i i d (by simp [hi]) (by rw [h1]; exact hd)
        simp only [Option.bind_eq_some_iff] at hq
        obtain ⟨vs, hv, hq⟩ := hq
        rw [hc] at hv
        unfold World.cells? at hv
        split at hv
        · simp only [show List.range 1 = [0] from rfl, List.mapM_cons, List.mapM_nil, Nat.mul_one] at hv
          cases hcell : w.cell? ((a.add i).add 0) with
          | none => rw [hcell] at hv; cases hv
          | some v =>
            rw [hcell] at hv
            cases hv
            refine ⟨v, n, q, ?_, hq⟩
            have : (a.add i).add 0 = a.add i := by cases a; simp [Addr.add]
            rwa [this] at hcell
        · cases hv
      · cases h

end
end Go
