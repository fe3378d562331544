/- Gt -/
import Derived.ScopeJumps
import Derived.WalkKit
namespace Go
def Exit.jumps (J:Nat->Act->World->Prop) (Q:Exit->Act->World->Prop):Exit->Act->World->Prop
 | .goto l,a,w=>J l a w
 | e,a,w=>Q e a w
section
variable {P:Program} {a:Act} {w:World} {Q:Exit->Act->World->Prop} {J:Nat->Act->World->Prop}
@[go_sem] theorem Exit.jumps_normal:Exit.jumps J Q .normal a w=Q .normal a w:=rfl
@[go_sem] theorem Exit.jumps_exit (id:Nat):Exit.jumps J Q (.exit id) a w=Q (.exit id) a w:=rfl
@[go_sem] theorem Exit.jumps_ret:Exit.jumps J Q .ret a w=Q .ret a w:=rfl
@[go_sem] theorem Exit.jumps_panic (b:List PanicEntry):Exit.jumps J Q (.panic b) a w=Q (.panic b) a w:=rfl
theorem H' {c:Code} (h:c.wp P Q a w):(Code.seq .skip c).wp P Q a w:=wp_seq (wp_skip h)
theorem JB {c:Code} (J:Nat->Act->World->Prop) (M:Nat->Act->World->Nat)
  (p:∀l a w,J l a w->∃d,findLabel c l=some (.seq .skip d)/\d.wp P (Exit.jumps (fun z B w'=>J z B w'/\M z B w'<M l a w) Q) a w)
  (first:(∀l d a w,findLabel c l=some (.seq .skip d)->J l a w->d.wp P (Exit.jumps J Q) a w)->c.wp P (Exit.jumps J Q) a w):(Code.scope c).wp P Q a w:=by
 have first:=first fun l d a w A G=>by
  obtain⟨u,t,I⟩:=p l a w G;rw[A] at t;injection t with E;injection E with _ F;subst F;exact wp_mono I fun e a w q=>by cases e<;>first | exact q | exact q.1
 intro b k D;have N:∀l d,findLabel c l=some d->gotoIn l (.inScope c::k)=some (.code d :: .inScope c::k):=fun l d h=>by simp[gotoIn,h]
 have L:∀n l a w d,findLabel c l=some (.seq .skip d)->M l a w=n->J l a w->∃e B w',Q e B w'/\Arrives P (lone (b.at a (.code (.seq .skip d) :: .inScope c::k)) D w) b k D e B w':=by
  intro n
  induction n using Nat.strongRecOn with
  | _ n S =>
    intro l a w d A T G;obtain⟨u,t,I⟩:=p l a w G;have:u=d:=by rw[A] at t;injection t with E;injection E with _ F;exact F.symm
    subst this;obtain⟨e,f,g,o,i⟩:=H' I b (.inScope c::k) D
    cases e with
    | normal=>exact⟨.normal,f,g,o,Steps.trans i (.one step_inScope)⟩
    | exit id=>exact⟨.exit id,f,g,o,fun K H=>i K (by simp[exitTo,H])⟩
    | goto z =>
      obtain⟨C,R⟩:=o;obtain⟨x,y,_⟩:=p z f g C;obtain⟨s,r,v,m,j⟩:=S _ (by omega) z f g x y rfl C;exact⟨s,r,v,m,.of_steps (i _ (N _ _ y)) j⟩
    | ret=>exact⟨_,f,g,o,i⟩
    | panic O=>exact⟨_,f,g,o,i⟩
    | outgrown=>exact⟨_,f,g,o,i⟩
 obtain⟨e,f,g,o,i⟩:=first b (.inScope c::k) D
 cases e with
 | normal=>exact⟨.normal,f,g,o,.head step_scope (Steps.trans i (.one step_inScope))⟩
 | exit id=>exact⟨.exit id,f,g,o,fun K H => .head step_scope (i K (by simp[exitTo,H]))⟩
 | goto z =>
   obtain⟨d,A,_⟩:=p z f g o;obtain⟨s,r,v,m,j⟩:=L _ z f g d A rfl o;exact⟨s,r,v,m,.of_steps (.head step_scope (i _ (N _ _ A))) j⟩
 | ret=>exact⟨_,f,g,o,.of_steps (.one step_scope) i⟩
 | panic O=>exact⟨_,f,g,o,.of_steps (.one step_scope) i⟩
 | outgrown=>exact⟨_,f,g,o,.of_steps (.one step_scope) i⟩
theorem GN {c j k:Code} (J:Nat->Act->World->Prop) (i:Nat->Act->World->Nat) (m:findLabel c 0=some (.seq .skip j)) (n:findLabel c 1=some (.seq .skip k)) (p:∀l a w,J l a w->l=0\/l=1)
  (b:∀a w,J 0 a w->j.wp P (Exit.jumps (fun f e g=>J f e g/\i f e g<i 0 a w) Q) a w)
  (d:∀a w,J 1 a w->k.wp P (Exit.jumps (fun f e g=>J f e g/\i f e g<i 1 a w) Q) a w)
  (first:(∀a w,J 0 a w->j.wp P (Exit.jumps J Q) a w)->(∀a w,J 1 a w->k.wp P (Exit.jumps J Q) a w)->c.wp P (Exit.jumps J Q) a w):(Code.scope c).wp P Q a w:=by
 refine JB J i (fun l a w h=>?_) (fun o=>first (fun a w h=>o 0 _ a w m h) (fun a w h=>o 1 _ a w n h));rcases p l a w h with rfl | rfl
 ·exact⟨_,m,b a w h⟩
 exact⟨_,n,d a w h⟩
theorem Ll {c b:Code} (l:Nat) (J:Act->World->Prop) (f:Act->World->Nat) (j:findLabel c l=some (.seq .skip b))
  (d:∀a w,J a w->b.wp P (Exit.jump l (fun g i=>J g i/\f g i<f a w) Q) a w)
  (first:(∀a w,J a w->b.wp P (Exit.jump l J Q) a w)->c.wp P (Exit.jump l J Q) a w):(Code.scope c).wp P Q a w :=
 wp_scope_jumps l J f j (first fun a w h=>wp_mono (d a w h) (fun e a w q=>by cases e<;>first | exact q | exact⟨q.1,q.2.1⟩)) fun a w h=>H' (d a w h)
end
end Go
