/- A scope with several labels to which the run jumps back. No program here. -/
import Derived.ScopeJumps
import Derived.WalkKit

namespace Go

def Exit.jumps (J : Nat → Act → World → Prop) (Q : Exit → Act → World → Prop) : Exit → Act → World → Prop
  | .goto l, a, w => J l a w
  | e, a, w => Q e a w

section
variable {P : Program} {a : Act} {w : World} {Q : Exit → Act → World → Prop} {J : Nat → Act → World → Prop}
@[go_sem] theorem Exit.jumps_normal : Exit.jumps J Q .normal a w = Q .normal a w := rfl
@[go_sem] theorem Exit.jumps_exit (id : Nat) : Exit.jumps J Q (.exit id) a w = Q (.exit id) a w := rfl
@[go_sem] theorem Exit.jumps_ret : Exit.jumps J Q .ret a w = Q .ret a w := rfl
@[go_sem] theorem Exit.jumps_panic (ch : List PanicEntry) : Exit.jumps J Q (.panic ch) a w = Q (.panic ch) a w := rfl
theorem Exit.jumps_goto (l : Nat) : Exit.jumps J Q (.goto l) a w = J l a w := rfl

theorem wp_skip_seq {c : Code} (h : c.wp P Q a w) : (Code.seq .skip c).wp P Q a w := wp_seq (wp_skip h)

theorem wp_scope_multi {c : Code} (J : Nat → Act → World → Prop) (μ : Nat → Act → World → Nat)
    (pass : ∀ l a w, J l a w → ∃ rest, findLabel c l = some (.seq .skip rest) ∧ rest.wp P (Exit.jumps (fun l' a' w' => J l' a' w' ∧ μ l' a' w' < μ l a w) Q) a w)
    (first : (∀ l rest a w, findLabel c l = some (.seq .skip rest) → J l a w → rest.wp P (Exit.jumps J Q) a w) → c.wp P (Exit.jumps J Q) a w) : (Code.scope c).wp P Q a w := by
  have first := first fun l rest a w hl hJ => by
    obtain ⟨rest', hl', hp⟩ := pass l a w hJ
    rw [hl] at hl'; injection hl' with h1; injection h1 with _ h2
    subst h2
    exact wp_mono hp fun e a w q => by cases e <;> first | exact q | exact q.1
  intro b k cs
  have hg : ∀ l rest, findLabel c l = some rest → gotoIn l (.inScope c :: k) = some (.code rest :: .inScope c :: k) := fun l rest h => by simp [gotoIn, h]
  have key : ∀ n l a w rest, findLabel c l = some (.seq .skip rest) → μ l a w = n → J l a w → ∃ e a' w', Q e a' w' ∧ Arrives P (lone (b.at a (.code (.seq .skip rest) :: .inScope c :: k)) cs w) b k cs e a' w' := by
    intro n
    induction n using Nat.strongRecOn with
    | _ n ih =>
      intro l a w rest hl hn hJ
      obtain ⟨rest', hl', hp⟩ := pass l a w hJ
      have : rest' = rest := by rw [hl] at hl'; injection hl' with h1; injection h1 with _ h2; exact h2.symm
      subst this
      obtain ⟨e, a₁, w₁, hq, harr⟩ := wp_skip_seq hp b (.inScope c :: k) cs
      cases e with
      | normal => exact ⟨.normal, a₁, w₁, hq, Steps.trans harr (.one step_inScope)⟩
      | exit id => exact ⟨.exit id, a₁, w₁, hq, fun k' hk => harr k' (by simp [exitTo, hk])⟩
      | goto l' =>
        obtain ⟨hJ', hlt⟩ := hq
        obtain ⟨rest'', hl'', _⟩ := pass l' a₁ w₁ hJ'
        obtain ⟨e₂, a₂, w₂, hq₂, harr₂⟩ := ih _ (by omega) l' a₁ w₁ rest'' hl'' rfl hJ'
        exact ⟨e₂, a₂, w₂, hq₂, .of_steps (harr _ (hg _ _ hl'')) harr₂⟩
      | ret => exact ⟨_, a₁, w₁, hq, harr⟩
      | panic ch => exact ⟨_, a₁, w₁, hq, harr⟩
      | outgrown => exact ⟨_, a₁, w₁, hq, harr⟩
  obtain ⟨e, a₁, w₁, hq, harr⟩ := first b (.inScope c :: k) cs
  cases e with
  | normal => exact ⟨.normal, a₁, w₁, hq, .head step_scope (Steps.trans harr (.one step_inScope))⟩
  | exit id => exact ⟨.exit id, a₁, w₁, hq, fun k' hk => .head step_scope (harr k' (by simp [exitTo, hk]))⟩
  | goto l' =>
    obtain ⟨rest, hl, _⟩ := pass l' a₁ w₁ hq
    obtain ⟨e₂, a₂, w₂, hq₂, harr₂⟩ := key _ l' a₁ w₁ rest hl rfl hq
    exact ⟨e₂, a₂, w₂, hq₂, .of_steps (.head step_scope (harr _ (hg _ _ hl))) harr₂⟩
  | ret => exact ⟨_, a₁, w₁, hq, .of_steps (.one step_scope) harr⟩
  | panic ch => exact ⟨_, a₁, w₁, hq, .of_steps (.one step_scope) harr⟩
  | outgrown => exact ⟨_, a₁, w₁, hq, .of_steps (.one step_scope) harr⟩

theorem Exit.jumps_mono {J J' : Nat → Act → World → Prop} (h : ∀ l a w, J l a w → J' l a w) (e : Exit) (a : Act) (w : World) (q : Exit.jumps J Q e a w) : Exit.jumps J' Q e a w := by
  cases e <;> first | exact q | exact h _ _ _ q

/-- Two labels. -/
theorem wp_scope_two {c r0 r1 : Code} (J : Nat → Act → World → Prop) (μ : Nat → Act → World → Nat) (h0 : findLabel c 0 = some (.seq .skip r0)) (h1 : findLabel c 1 = some (.seq .skip r1)) (hJ : ∀ l a w, J l a w → l = 0 ∨ l = 1)
    (pass0 : ∀ a w, J 0 a w → r0.wp P (Exit.jumps (fun l' a' w' => J l' a' w' ∧ μ l' a' w' < μ 0 a w) Q) a w)
    (pass1 : ∀ a w, J 1 a w → r1.wp P (Exit.jumps (fun l' a' w' => J l' a' w' ∧ μ l' a' w' < μ 1 a w) Q) a w)
    (first : (∀ a w, J 0 a w → r0.wp P (Exit.jumps J Q) a w) → (∀ a w, J 1 a w → r1.wp P (Exit.jumps J Q) a w) → c.wp P (Exit.jumps J Q) a w) : (Code.scope c).wp P Q a w := by
  refine wp_scope_multi J μ (fun l a w h => ?_) (fun hp => first (fun a w h => hp 0 _ a w h0 h) (fun a w h => hp 1 _ a w h1 h))
  rcases hJ l a w h with rfl | rfl
  · exact ⟨_, h0, pass0 a w h⟩
  · exact ⟨_, h1, pass1 a w h⟩

/-- One label: the run falls through it, or jumps back to it; J holds each time. `pre` is what stands ahead of the label. -/
theorem wp_scope_one {c rest : Code} (l : Nat) (J : Act → World → Prop) (μ : Act → World → Nat) (hf : findLabel c l = some (.seq .skip rest))
    (pass : ∀ a w, J a w → rest.wp P (Exit.jump l (fun a' w' => J a' w' ∧ μ a' w' < μ a w) Q) a w)
    (first : (∀ a w, J a w → rest.wp P (Exit.jump l J Q) a w) → c.wp P (Exit.jump l J Q) a w) : (Code.scope c).wp P Q a w :=
  wp_scope_jumps l J μ hf (first fun a w h => wp_mono (pass a w h) (fun e a w q => by cases e <;> first | exact q | exact ⟨q.1, q.2.1⟩)) fun a w h => wp_skip_seq (pass a w h)
end
end Go
