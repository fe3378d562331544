/- Lc Oi Oj -/
import Derived.Test.YtfblenhlildnaaaGreatDoorAq
import Derived.Test.YtfblenhlildnaaaGreatDoorCa
import Derived.Test.YtfblenhlildnaaaGreatDoorAm
import Derived.Deep.RegionHeld
import Derived.OrdersHeld
set_option maxRecDepth 100000
set_option maxHeartbeats 4000000
open Go.Lib renaming hid->aA
open Go.RowKit.Below renaming refl->aB
namespace Go.Proofs.YtfblenhlildnaaaGreatDoor
set_option linter.unusedSimpArgs false
set_option linter.unusedVariables false
def Adv (nx:Nat->Bool->Tk) (S:Nat):Prop:=(∀a,a<=S->(nx a false).f<=S)/\∀a,a<=S->(nx a false).e=0->a<=(nx a false).t/\(nx a false).t<=S/\((nx a false).kd≠0->a<(nx a false).t)
def Kn {α:Type} (S a:Nat) (b:Bool) (G:α->Ps->Prop) (o:Hf α):Prop :=
 match o with
 | .hush=>False
 | .bad f _=>f<=S
 | .ok x q=>a<=q.a/\q.a<=S/\(b=true->a<q.a)/\G x q
section
variable {nx:Nat->Bool->Tk} {pl:Nat->Nat×Nat} {ere:List UInt8->Option Bool} {S a c:Nat} {b d:Bool} {α β:Type} {G:α->Ps->Prop} {G':β->Ps->Prop} {p:Ps}
theorem Kn.ok {x:α} {q:Ps} (c:a<=q.a) (d:q.a<=S) (e:b=true->a<q.a) (f:G x q):Kn S a b G (.ok x q):=⟨c,d,e,f⟩
theorem Kn.bad {f:Nat} {e:Int} (h:f<=S):Kn S a b G (.bad f e):=h
theorem Kn.refuse {t:Tk} (h:t.f<=S):Kn S a b G (JF t p):=h
theorem Kn.bind {o:Hf α} {K:α->Ps->Hf β} (h:Kn S c d G o) (g:∀x q,G x q->c<=q.a->q.a<=S->(d=true->c<q.a)->Kn S a b G' (K x q)):Kn S a b G' (o.bind K):=by
 cases o with
 | hush=>exact h.elim
 | bad f e=>exact h
 | ok x q=>exact g x q h.2.2.2 h.1 h.2.1 h.2.2.1
theorem Kn.up {o:Hf α} (h:Kn S c d G o) (g:a<=c) (i:b=true->d=true\/a<c):Kn S a b G o:=by
 cases o with
 | hush=>exact h.elim
 | bad f e=>exact h
 | ok x q =>
   refine⟨Nat.le_trans g h.1,h.2.1,fun e=>?_,h.2.2.2⟩;rcases i e with e | e
   ·exact Nat.lt_of_le_of_lt g (h.2.2.1 e)
   exact Nat.lt_of_lt_of_le e h.1
theorem Kn.peek (A:Adv nx S) (H:Abi nx) {d:Bool} {K:Tk->Ps->Hf α} (f:p.a<=S) (j:(nx p.a false).e=0->p.a<=(nx p.a false).t->(nx p.a false).t<=S->((nx p.a false).kd≠0->p.a<(nx p.a false).t)->Kn S a b G (K (nx p.a false) p)):Kn S a b G ((Eb nx d p).bind K):=by
 have k:nx p.a d=nx p.a false:=by cases d;rfl;exact H.op _
 unfold Eb;rw[k];by_cases c:(nx p.a false).e=0
 ·rw[if_pos c];obtain⟨g,h,i⟩:=A.2 p.a f c;exact j c g h i
 rw[if_neg c];exact A.1 _ f
theorem AcU {t:Tk} {x:List UInt8} (h:isS t x=true):t.kd≠0:=by unfold isS at h;simp only[Bool.and_eq_true,decide_eq_true_eq] at h;rw[h.1];decide
theorem Adl {t:Tk} {x:List UInt8} (h:XI t x=true):t.kd≠0:=by unfold XI at h;simp only[Bool.and_eq_true,decide_eq_true_eq] at h;rw[h.1];decide
theorem Aeh {t:Tk} {x y:List UInt8} (h:isS t x=true\/isS t y=true):t.kd≠0:=h.elim AcU AcU
theorem Ags {t:Tk} {x y z:List UInt8} (h:isS t x=true\/isS t y=true\/isS t z=true):t.kd≠0:=h.elim AcU Aeh
theorem Abk {R:Nat×Nat->Prop} (A:Adv nx S) (H:Abi nx) (h:∀f,R (pl f)) (x:List UInt8) (p:Ps) (b:p.a<=S):Kn S p.a true (fun z _=>R z) (Abb nx pl x p):=by
 unfold Abb;refine Kn.peek A H b fun j d e i=>?_;split
 ·rename_i c
  have g:=i (AcU c);split
  ·split
   ·exact A.1 _ b
   exact⟨d,e,fun _=>g,h _⟩
  split
  iterate 2
   focus
    exact⟨d,e,fun _=>g,h _⟩
 exact A.1 _ b
theorem Abq (A:Adv nx S) (H:Abi nx) (b:Bool):∀(n:Nat) (p:Ps),p.a<=S->S-p.a<n->Kn S p.a false (fun _ _=>True) (Lf nx b n p)
 | 0,p,_,h=>absurd h (by omega)
 | n+1,p,hp,hf=>by
   rw[Lf];refine Kn.peek A H hp fun i d f g=>?_;split
   ·rename_i c
    have j:=g (by rw[c];decide);exact(Abq A H b n _ f (by show S-(nx p.a false).t<n;omega)).up d (fun e=>by cases e)
   exact⟨Nat.le_refl _,hp,(fun e=>by cases e),trivial⟩
theorem Acq (A:Adv nx S) (H:Abi nx) (b:Bool):∀(n:Nat) (p:Ps),p.a<=S->S-p.a<n->Kn S p.a false (fun t q=>t=nx q.a false/\t.e=0) (LB nx b n p)
 | 0,p,_,h=>absurd h (by omega)
 | n+1,p,hp,hf=>by
   rw[LB];refine Kn.peek A H hp fun d f g i=>?_;split
   ·rename_i c
    have j:=i (by rcases c with c | c;rw[c];decide;exact AcU c);exact(Acq A H b n _ g (by show S-(nx p.a false).t<n;omega)).up f (fun e=>by cases e)
   exact⟨Nat.le_refl _,hp,(fun e=>by cases e),rfl,d⟩
end
section
inductive Tr.Ok (Q:Nat->Prop) (R:Nat×Nat->Prop):Tr->Prop
 | mk {k:Int} {nm:List UInt8} {x:Nat} {z:Nat×Nat} {ks:List Tr} (hx:Q x) (hz:R z) (hk:∀t∈ks,Tr.Ok Q R t):Tr.Ok Q R (.mk k nm x z ks)
variable {Q:Nat->Prop} {R:Nat×Nat->Prop}
theorem Tr.Ok.xx {t:Tr} (h:Tr.Ok Q R t):Q t.x:=by cases h;assumption
theorem Tr.Ok.zz {t:Tr} (h:Tr.Ok Q R t):R t.z:=by cases h;assumption
theorem Tr.Ok.kid {t u:Tr} (h:Tr.Ok Q R t) (b:u∈t.ks):Tr.Ok Q R u:=by cases h with | mk c d a=>exact a u b
def AL (Q:Nat->Prop) (R:Nat×Nat->Prop) (l:List Tr):Prop:=∀t∈l,Tr.Ok Q R t
theorem AL.nil:AL Q R []:=fun _ h=>nomatch h
theorem AL.cons {t:Tr} {l:List Tr} (h:Tr.Ok Q R t) (b:AL Q R l):AL Q R (t::l):=fun u a=>by rcases List.mem_cons.1 a with rfl | a;exact h;exact b u a
theorem AL.one {t:Tr} (h:Tr.Ok Q R t):AL Q R [t]:=AL.cons h AL.nil
theorem AL.app {l m:List Tr} (h:AL Q R l) (g:AL Q R m):AL Q R (l++m):=fun u a=>by rcases List.mem_append.1 a with a | a;exact h u a;exact g u a
theorem AL.node {k:Int} {nm:List UInt8} {x:Nat} {z:Nat×Nat} {l:List Tr} (b:Q x) (c:R z) (a:AL Q R l):AL Q R [.mk k nm x z l]:=AL.one (Tr.Ok.mk b c a)
theorem Abm {l:List Tr} (b:Q 0) (a:R (0,0)) (h:AL Q R l):Tr.Ok Q R (hd1 l):=by
 cases l with
 | nil=>exact Tr.Ok.mk b a fun _ h=>nomatch h
 | cons t l=>exact h t (.head _)
end
def rk:NT->Nat
 | .expr=>18 | .cond=>17 | .or=>16 | .and=>15 | .inn=>14 | .mat=>13 | .cmp=>12 | .cat=>11 | .catL _=>11 | .sum=>10 | .prod=>9 | .unary=>8 | .power=>7 | .post=>6 | .primary=>5 | .operand=>4
 | .target=>3 | .dollar=>5 | .list=>19 | .innL _=>1 | _=>0
def stK:NT->Bool
 | .orL _=>false | .andL _=>false | .innL _=>false | .matL _=>false | .catL _=>false | .sumL _=>false | .prodL _=>false | .listL _=>false | _=>true
def AiM (Q:Nat->Prop) (R:Nat×Nat->Prop):NT->Prop
 | .orL t=>Tr.Ok Q R t | .andL t=>Tr.Ok Q R t | .innL t=>Tr.Ok Q R t | .matL t=>Tr.Ok Q R t | .catL t=>Tr.Ok Q R t | .sumL t=>Tr.Ok Q R t | .prodL t=>Tr.Ok Q R t | .listL l=>AL Q R l | .has l=>AL Q R l | _=>True
theorem AcB {nx:Nat->Bool->Tk} {pl:Nat->Nat×Nat} {ere:List UInt8->Option Bool} {S:Nat} {Q:Nat->Prop} {R:Nat×Nat->Prop} (A:Adv nx S) (H:Abi nx) (o:Q 0) (t:∀f,R (pl f)) (i:R (0,0)) (Y:∀a,(nx a false).kd=2->Q (nx a false).nm) :
  ∀(n:Nat) (k:NT) (p:Ps),AiM Q R k->p.a<=S->20*(S-p.a)+rk k<n->Kn S p.a (stK k) (fun l _=>AL Q R l) (Dn nx pl ere n k p)
 | 0,_,_,_,_,h=>absurd h (by omega)
 | n+1,k,p,hk,hp,hf=>by
   have j:=AcB (pl:=pl) (ere:=ere) A H o t i Y n
   cases k with
   | expr =>
     simp only[Dn,CQ];refine Kn.bind (j .cond _ trivial (by first | omega | (dsimp only;omega)) (by first | (simp only[rk] at hf ⊢;omega) | (simp only[rk] at hf ⊢;dsimp only;omega))) fun l q g q1 F b=>?_;replace b:=b rfl
     (try dsimp only at q1 b)
     refine Kn.peek A H (by first | omega | (dsimp only;omega)) fun z B C s=>?_
     (try dsimp only at z B C s ⊢)
     split
     ·rename_i c
      have K:=s (by rw[c.1];decide);refine Kn.bind (j .expr _ trivial (by first | omega | (dsimp only;omega)) (by first | (simp only[rk] at hf ⊢;omega) | (simp only[rk] at hf ⊢;dsimp only;omega))) fun m r V X r2 P=>?_;replace P:=P rfl
      (try dsimp only at X P)
      exact Kn.ok (by first | omega | (dsimp only;omega)) (by first | omega | (dsimp only;omega)) (fun e=>by first | omega | (dsimp only;omega) | cases e) (AL.node o (by first | exact t _ | assumption | exact hk.zz | exact(Abm o i g).zz | exact hk.2) (g.app V))
     exact Kn.ok (by first | omega | (dsimp only;omega)) (by first | omega | (dsimp only;omega)) (fun e=>by first | omega | (dsimp only;omega) | cases e) (g)
   | cond =>
     simp only[Dn,CQ];refine Kn.bind (j .or _ trivial (by first | omega | (dsimp only;omega)) (by first | (simp only[rk] at hf ⊢;omega) | (simp only[rk] at hf ⊢;dsimp only;omega))) fun l q g q1 F b=>?_;replace b:=b rfl
     (try dsimp only at q1 b)
     rw[Abp];refine Kn.peek A H (by first | omega | (dsimp only;omega)) fun z B C s=>?_
     (try dsimp only at z B C s ⊢)
     split
     ·refine Kn.bind (Abk A H t _ _ (by first | omega | (dsimp only;omega))) fun O u L u1 u2 u3=>?_
      replace u3:=u3 rfl
      (try dsimp only at u1 u3)
      refine Kn.bind (j .expr _ trivial (by first | omega | (dsimp only;omega)) (by first | (simp only[rk] at hf ⊢;omega) | (simp only[rk] at hf ⊢;dsimp only;omega))) fun x v G I M E=>?_;replace E:=E rfl
      (try dsimp only at I E)
      refine Kn.bind (Abk A H t _ _ (by first | omega | (dsimp only;omega))) fun zw w gw J N D=>?_;replace D:=D rfl
      (try dsimp only at J D)
      refine Kn.bind (j .expr _ trivial (by first | omega | (dsimp only;omega)) (by first | (simp only[rk] at hf ⊢;omega) | (simp only[rk] at hf ⊢;dsimp only;omega))) fun y k Z k1 k2 W=>?_;replace W:=W rfl
      (try dsimp only at k1 W)
      exact Kn.ok (by first | omega | (dsimp only;omega)) (by first | omega | (dsimp only;omega)) (fun e=>by first | omega | (dsimp only;omega) | cases e) (AL.node o (by first | exact t _ | assumption | exact hk.zz | exact(Abm o i g).zz | exact hk.2) ((g.app G).app Z))
     exact Kn.ok (by first | omega | (dsimp only;omega)) (by first | omega | (dsimp only;omega)) (fun e=>by first | omega | (dsimp only;omega) | cases e) (g)
   | or =>
     simp only[Dn,CQ];refine Kn.bind (j .and _ trivial (by first | omega | (dsimp only;omega)) (by first | (simp only[rk] at hf ⊢;omega) | (simp only[rk] at hf ⊢;dsimp only;omega))) fun l q g q1 F b=>?_;replace b:=b rfl
     (try dsimp only at q1 b)
     exact Kn.up (j (.orL _) _ (Abm o i g) (by first | omega | (dsimp only;omega)) (by first | (simp only[rk] at hf ⊢;omega) | (simp only[rk] at hf ⊢;dsimp only;omega))) (by first | omega | (dsimp only;omega)) (fun _ => .inr (by first | omega | (dsimp only;omega)))
   | orL y =>
     simp only[Dn,CQ];rw[Abp];refine Kn.peek A H (by first | omega | (dsimp only;omega)) fun z B C s=>?_
     (try dsimp only at z B C s ⊢)
     split
     ·refine Kn.bind (Abk A H t _ _ (by first | omega | (dsimp only;omega))) fun O u L u1 u2 u3=>?_
      replace u3:=u3 rfl
      (try dsimp only at u1 u3)
      refine Kn.bind (Abq A H true _ _ (by first | omega | (dsimp only;omega)) (by first | (simp only[rk] at hf ⊢;omega) | (simp only[rk] at hf ⊢;dsimp only;omega))) fun _ v _ I M E=>?_;clear E
      (try dsimp only at I)
      refine Kn.bind (j .and _ trivial (by first | omega | (dsimp only;omega)) (by first | (simp only[rk] at hf ⊢;omega) | (simp only[rk] at hf ⊢;dsimp only;omega))) fun x w G J N D=>?_;replace D:=D rfl
      (try dsimp only at J D)
      exact Kn.up (j (.orL _) _ (Tr.Ok.mk o (by first | exact t _ | assumption | exact hk.zz | exact(Abm o i g).zz | exact hk.2) (AL.cons hk G)) (by first | omega | (dsimp only;omega)) (by first | (simp only[rk] at hf ⊢;omega) | (simp only[rk] at hf ⊢;dsimp only;omega))) (by first | omega | (dsimp only;omega)) (fun _ => .inr (by first | omega | (dsimp only;omega)))
     exact Kn.ok (by first | omega | (dsimp only;omega)) (by first | omega | (dsimp only;omega)) (fun e=>by first | omega | (dsimp only;omega) | cases e) (AL.one hk)
   | and =>
     simp only[Dn,CQ];refine Kn.bind (j .inn _ trivial (by first | omega | (dsimp only;omega)) (by first | (simp only[rk] at hf ⊢;omega) | (simp only[rk] at hf ⊢;dsimp only;omega))) fun l q g q1 F b=>?_;replace b:=b rfl
     (try dsimp only at q1 b)
     exact Kn.up (j (.andL _) _ (Abm o i g) (by first | omega | (dsimp only;omega)) (by first | (simp only[rk] at hf ⊢;omega) | (simp only[rk] at hf ⊢;dsimp only;omega))) (by first | omega | (dsimp only;omega)) (fun _ => .inr (by first | omega | (dsimp only;omega)))
   | andL y =>
     simp only[Dn,CQ];rw[Abp];refine Kn.peek A H (by first | omega | (dsimp only;omega)) fun z B C s=>?_
     (try dsimp only at z B C s ⊢)
     split
     ·refine Kn.bind (Abk A H t _ _ (by first | omega | (dsimp only;omega))) fun O u L u1 u2 u3=>?_
      replace u3:=u3 rfl
      (try dsimp only at u1 u3)
      refine Kn.bind (Abq A H true _ _ (by first | omega | (dsimp only;omega)) (by first | (simp only[rk] at hf ⊢;omega) | (simp only[rk] at hf ⊢;dsimp only;omega))) fun _ v _ I M E=>?_;clear E
      (try dsimp only at I)
      refine Kn.bind (j .inn _ trivial (by first | omega | (dsimp only;omega)) (by first | (simp only[rk] at hf ⊢;omega) | (simp only[rk] at hf ⊢;dsimp only;omega))) fun x w G J N D=>?_;replace D:=D rfl
      (try dsimp only at J D)
      exact Kn.up (j (.andL _) _ (Tr.Ok.mk o (by first | exact t _ | assumption | exact hk.zz | exact(Abm o i g).zz | exact hk.2) (AL.cons hk G)) (by first | omega | (dsimp only;omega)) (by first | (simp only[rk] at hf ⊢;omega) | (simp only[rk] at hf ⊢;dsimp only;omega))) (by first | omega | (dsimp only;omega)) (fun _ => .inr (by first | omega | (dsimp only;omega)))
     exact Kn.ok (by first | omega | (dsimp only;omega)) (by first | omega | (dsimp only;omega)) (fun e=>by first | omega | (dsimp only;omega) | cases e) (AL.one hk)
   | inn =>
     simp only[Dn,CQ];refine Kn.bind (j .mat _ trivial (by first | omega | (dsimp only;omega)) (by first | (simp only[rk] at hf ⊢;omega) | (simp only[rk] at hf ⊢;dsimp only;omega))) fun l q g q1 F b=>?_;replace b:=b rfl
     (try dsimp only at q1 b)
     exact Kn.up (j (.innL _) _ (Abm o i g) (by first | omega | (dsimp only;omega)) (by first | (simp only[rk] at hf ⊢;omega) | (simp only[rk] at hf ⊢;dsimp only;omega))) (by first | omega | (dsimp only;omega)) (fun _ => .inr (by first | omega | (dsimp only;omega)))
   | innL y =>
     simp only[Dn,CQ];refine Kn.peek A H (by first | omega | (dsimp only;omega)) fun z B C s=>?_
     (try dsimp only at z B C s ⊢)
     split
     ·refine Kn.bind (j (.has _) _ (AL.one hk) (by first | omega | (dsimp only;omega)) (by first | (simp only[rk] at hf ⊢;omega) | (simp only[rk] at hf ⊢;dsimp only;omega))) fun l q g q1 F b=>?_
      replace b:=b rfl
      (try dsimp only at q1 b)
      exact Kn.up (j (.innL _) _ (Abm o i g) (by first | omega | (dsimp only;omega)) (by first | (simp only[rk] at hf ⊢;omega) | (simp only[rk] at hf ⊢;dsimp only;omega))) (by first | omega | (dsimp only;omega)) (fun _ => .inr (by first | omega | (dsimp only;omega)))
     exact Kn.ok (by first | omega | (dsimp only;omega)) (by first | omega | (dsimp only;omega)) (fun e=>by first | omega | (dsimp only;omega) | cases e) (AL.one hk)
   | mat =>
     simp only[Dn,CQ];refine Kn.bind (j .cmp _ trivial (by first | omega | (dsimp only;omega)) (by first | (simp only[rk] at hf ⊢;omega) | (simp only[rk] at hf ⊢;dsimp only;omega))) fun l q g q1 F b=>?_;replace b:=b rfl
     (try dsimp only at q1 b)
     exact Kn.up (j (.matL _) _ (Abm o i g) (by first | omega | (dsimp only;omega)) (by first | (simp only[rk] at hf ⊢;omega) | (simp only[rk] at hf ⊢;dsimp only;omega))) (by first | omega | (dsimp only;omega)) (fun _ => .inr (by first | omega | (dsimp only;omega)))
   | matL y =>
     simp only[Dn,CQ];refine Kn.peek A H (by first | omega | (dsimp only;omega)) fun z B C s=>?_
     (try dsimp only at z B C s ⊢)
     split
     ·rename_i c
      have K:=s (Aeh c);refine Kn.bind (j .cmp _ trivial (by first | omega | (dsimp only;omega)) (by first | (simp only[rk] at hf ⊢;omega) | (simp only[rk] at hf ⊢;dsimp only;omega))) fun x w G J N D=>?_;replace D:=D rfl
      (try dsimp only at J D)
      exact Kn.up (j (.matL _) _ (Tr.Ok.mk o (by first | exact t _ | assumption | exact hk.zz | exact(Abm o i g).zz | exact hk.2) (AL.cons hk G)) (by first | omega | (dsimp only;omega)) (by first | (simp only[rk] at hf ⊢;omega) | (simp only[rk] at hf ⊢;dsimp only;omega))) (by first | omega | (dsimp only;omega)) (fun _ => .inr (by first | omega | (dsimp only;omega)))
     exact Kn.ok (by first | omega | (dsimp only;omega)) (by first | omega | (dsimp only;omega)) (fun e=>by first | omega | (dsimp only;omega) | cases e) (AL.one hk)
   | cmp =>
     simp only[Dn,CQ];refine Kn.bind (j .cat _ trivial (by first | omega | (dsimp only;omega)) (by first | (simp only[rk] at hf ⊢;omega) | (simp only[rk] at hf ⊢;dsimp only;omega))) fun l q g q1 F b=>?_;replace b:=b rfl
     (try dsimp only at q1 b)
     refine Kn.peek A H (by first | omega | (dsimp only;omega)) fun z B C s=>?_
     (try dsimp only at z B C s ⊢)
     split
     ·rename_i c
      have K:=s (by rw[c.1];decide);refine Kn.bind (j .cat _ trivial (by first | omega | (dsimp only;omega)) (by first | (simp only[rk] at hf ⊢;omega) | (simp only[rk] at hf ⊢;dsimp only;omega))) fun m r V X r2 P=>?_;replace P:=P rfl
      (try dsimp only at X P)
      exact Kn.ok (by first | omega | (dsimp only;omega)) (by first | omega | (dsimp only;omega)) (fun e=>by first | omega | (dsimp only;omega) | cases e) (AL.node o (by first | exact t _ | assumption | exact hk.zz | exact(Abm o i g).zz | exact hk.2) (g.app V))
     exact Kn.ok (by first | omega | (dsimp only;omega)) (by first | omega | (dsimp only;omega)) (fun e=>by first | omega | (dsimp only;omega) | cases e) (g)
   | cat =>
     simp only[Dn,CQ];refine Kn.bind (j .sum _ trivial (by first | omega | (dsimp only;omega)) (by first | (simp only[rk] at hf ⊢;omega) | (simp only[rk] at hf ⊢;dsimp only;omega))) fun l q g q1 F b=>?_;replace b:=b rfl
     (try dsimp only at q1 b)
     exact Kn.up (j (.catL _) _ (Abm o i g) (by first | omega | (dsimp only;omega)) (by first | (simp only[rk] at hf ⊢;omega) | (simp only[rk] at hf ⊢;dsimp only;omega))) (by first | omega | (dsimp only;omega)) (fun _ => .inr (by first | omega | (dsimp only;omega)))
   | catL y =>
     simp only[Dn,CQ];refine Kn.peek A H (by first | omega | (dsimp only;omega)) fun z B C s=>?_
     (try dsimp only at z B C s ⊢)
     split
     ·refine Kn.bind (j .sum _ trivial (by first | omega | (dsimp only;omega)) (by first | (simp only[rk] at hf ⊢;omega) | (simp only[rk] at hf ⊢;dsimp only;omega))) fun x w G J N D=>?_
      replace D:=D rfl
      (try dsimp only at J D)
      exact Kn.up (j (.catL _) _ (Tr.Ok.mk o (by first | exact t _ | assumption | exact hk.zz | exact(Abm o i g).zz | exact hk.2) (AL.cons hk G)) (by first | omega | (dsimp only;omega)) (by first | (simp only[rk] at hf ⊢;omega) | (simp only[rk] at hf ⊢;dsimp only;omega))) (by first | omega | (dsimp only;omega)) (fun _ => .inr (by first | omega | (dsimp only;omega)))
     exact Kn.ok (by first | omega | (dsimp only;omega)) (by first | omega | (dsimp only;omega)) (fun e=>by first | omega | (dsimp only;omega) | cases e) (AL.one hk)
   | sum =>
     simp only[Dn,CQ];refine Kn.bind (j .prod _ trivial (by first | omega | (dsimp only;omega)) (by first | (simp only[rk] at hf ⊢;omega) | (simp only[rk] at hf ⊢;dsimp only;omega))) fun l q g q1 F b=>?_;replace b:=b rfl
     (try dsimp only at q1 b)
     exact Kn.up (j (.sumL _) _ (Abm o i g) (by first | omega | (dsimp only;omega)) (by first | (simp only[rk] at hf ⊢;omega) | (simp only[rk] at hf ⊢;dsimp only;omega))) (by first | omega | (dsimp only;omega)) (fun _ => .inr (by first | omega | (dsimp only;omega)))
   | sumL y =>
     simp only[Dn,CQ];refine Kn.peek A H (by first | omega | (dsimp only;omega)) fun z B C s=>?_
     (try dsimp only at z B C s ⊢)
     split
     ·rename_i c
      have K:=s (Aeh c);refine Kn.bind (j .prod _ trivial (by first | omega | (dsimp only;omega)) (by first | (simp only[rk] at hf ⊢;omega) | (simp only[rk] at hf ⊢;dsimp only;omega))) fun x w G J N D=>?_;replace D:=D rfl
      (try dsimp only at J D)
      exact Kn.up (j (.sumL _) _ (Tr.Ok.mk o (by first | exact t _ | assumption | exact hk.zz | exact(Abm o i g).zz | exact hk.2) (AL.cons hk G)) (by first | omega | (dsimp only;omega)) (by first | (simp only[rk] at hf ⊢;omega) | (simp only[rk] at hf ⊢;dsimp only;omega))) (by first | omega | (dsimp only;omega)) (fun _ => .inr (by first | omega | (dsimp only;omega)))
     exact Kn.ok (by first | omega | (dsimp only;omega)) (by first | omega | (dsimp only;omega)) (fun e=>by first | omega | (dsimp only;omega) | cases e) (AL.one hk)
   | prod =>
     simp only[Dn,CQ];refine Kn.bind (j .unary _ trivial (by first | omega | (dsimp only;omega)) (by first | (simp only[rk] at hf ⊢;omega) | (simp only[rk] at hf ⊢;dsimp only;omega))) fun l q g q1 F b=>?_;replace b:=b rfl
     (try dsimp only at q1 b)
     exact Kn.up (j (.prodL _) _ (Abm o i g) (by first | omega | (dsimp only;omega)) (by first | (simp only[rk] at hf ⊢;omega) | (simp only[rk] at hf ⊢;dsimp only;omega))) (by first | omega | (dsimp only;omega)) (fun _ => .inr (by first | omega | (dsimp only;omega)))
   | prodL y =>
     simp only[Dn,CQ];refine Kn.peek A H (by first | omega | (dsimp only;omega)) fun z B C s=>?_
     (try dsimp only at z B C s ⊢)
     split
     ·rename_i c
      have K:=s (Ags c);refine Kn.bind (j .unary _ trivial (by first | omega | (dsimp only;omega)) (by first | (simp only[rk] at hf ⊢;omega) | (simp only[rk] at hf ⊢;dsimp only;omega))) fun x w G J N D=>?_;replace D:=D rfl
      (try dsimp only at J D)
      exact Kn.up (j (.prodL _) _ (Tr.Ok.mk o (by first | exact t _ | assumption | exact hk.zz | exact(Abm o i g).zz | exact hk.2) (AL.cons hk G)) (by first | omega | (dsimp only;omega)) (by first | (simp only[rk] at hf ⊢;omega) | (simp only[rk] at hf ⊢;dsimp only;omega))) (by first | omega | (dsimp only;omega)) (fun _ => .inr (by first | omega | (dsimp only;omega)))
     exact Kn.ok (by first | omega | (dsimp only;omega)) (by first | omega | (dsimp only;omega)) (fun e=>by first | omega | (dsimp only;omega) | cases e) (AL.one hk)
   | unary =>
     simp only[Dn,CQ];refine Kn.peek A H (by first | omega | (dsimp only;omega)) fun z B C s=>?_
     (try dsimp only at z B C s ⊢)
     split
     ·rename_i c
      have K:=s (Ags c);refine Kn.bind (j .unary _ trivial (by first | omega | (dsimp only;omega)) (by first | (simp only[rk] at hf ⊢;omega) | (simp only[rk] at hf ⊢;dsimp only;omega))) fun x q G q1 F b=>?_;replace b:=b rfl
      (try dsimp only at q1 b)
      exact Kn.ok (by first | omega | (dsimp only;omega)) (by first | omega | (dsimp only;omega)) (fun e=>by first | omega | (dsimp only;omega) | cases e) (AL.node o (by first | exact t _ | assumption | exact hk.zz | exact(Abm o i g).zz | exact hk.2) (G))
     exact Kn.up (j .power _ trivial (by first | omega | (dsimp only;omega)) (by first | (simp only[rk] at hf ⊢;omega) | (simp only[rk] at hf ⊢;dsimp only;omega))) (by first | omega | (dsimp only;omega)) (fun _ => .inl rfl)
   | power =>
     simp only[Dn,CQ];refine Kn.bind (j .post _ trivial (by first | omega | (dsimp only;omega)) (by first | (simp only[rk] at hf ⊢;omega) | (simp only[rk] at hf ⊢;dsimp only;omega))) fun l q g q1 F b=>?_;replace b:=b rfl
     (try dsimp only at q1 b)
     rw[Abp];refine Kn.peek A H (by first | omega | (dsimp only;omega)) fun z B C s=>?_
     (try dsimp only at z B C s ⊢)
     split
     ·refine Kn.bind (Abk A H t _ _ (by first | omega | (dsimp only;omega))) fun O u L u1 u2 u3=>?_
      replace u3:=u3 rfl
      (try dsimp only at u1 u3)
      refine Kn.bind (j .unary _ trivial (by first | omega | (dsimp only;omega)) (by first | (simp only[rk] at hf ⊢;omega) | (simp only[rk] at hf ⊢;dsimp only;omega))) fun x w G J N D=>?_;replace D:=D rfl
      (try dsimp only at J D)
      exact Kn.ok (by first | omega | (dsimp only;omega)) (by first | omega | (dsimp only;omega)) (fun e=>by first | omega | (dsimp only;omega) | cases e) (AL.node o (by first | exact t _ | assumption | exact hk.zz | exact(Abm o i g).zz | exact hk.2) (g.app G))
     exact Kn.ok (by first | omega | (dsimp only;omega)) (by first | omega | (dsimp only;omega)) (fun e=>by first | omega | (dsimp only;omega) | cases e) (g)
   | post =>
     simp only[Dn,CQ];refine Kn.bind (j .primary _ trivial (by first | omega | (dsimp only;omega)) (by first | (simp only[rk] at hf ⊢;omega) | (simp only[rk] at hf ⊢;dsimp only;omega))) fun l q g q1 F b=>?_;replace b:=b rfl
     (try dsimp only at q1 b)
     refine Kn.peek A H (by first | omega | (dsimp only;omega)) fun z B C s=>?_
     (try dsimp only at z B C s ⊢)
     split
     ·rename_i c
      have K:=s (Aeh c.2);exact Kn.ok (by first | omega | (dsimp only;omega)) (by first | omega | (dsimp only;omega)) (fun e=>by first | omega | (dsimp only;omega) | cases e) (AL.node o (by first | exact t _ | assumption | exact hk.zz | exact(Abm o i g).zz | exact hk.2) (g))
     exact Kn.ok (by first | omega | (dsimp only;omega)) (by first | omega | (dsimp only;omega)) (fun e=>by first | omega | (dsimp only;omega) | cases e) (g)
   | primary =>
     simp only[Dn,CQ];refine Kn.peek A H (by first | omega | (dsimp only;omega)) fun z B C s=>?_
     (try dsimp only at z B C s ⊢)
     split
     ·refine Kn.bind (Abk A H t _ _ (by first | omega | (dsimp only;omega))) fun O u L u1 u2 u3=>?_
      replace u3:=u3 rfl
      (try dsimp only at u1 u3)
      refine Kn.bind (j .list _ trivial (by first | omega | (dsimp only;omega)) (by first | (simp only[rk] at hf ⊢;omega) | (simp only[rk] at hf ⊢;dsimp only;omega))) fun l q g q1 F b=>?_;replace b:=b rfl
      (try dsimp only at q1 b)
      refine Kn.bind (Abk A H t _ _ (by first | omega | (dsimp only;omega))) fun U v T I M E=>?_;replace E:=E rfl
      (try dsimp only at I E)
      split
      ·exact Kn.ok (by first | omega | (dsimp only;omega)) (by first | omega | (dsimp only;omega)) (fun e=>by first | omega | (dsimp only;omega) | cases e) (g)
      exact Kn.up (j (.has _) _ g (by first | omega | (dsimp only;omega)) (by first | (simp only[rk] at hf ⊢;omega) | (simp only[rk] at hf ⊢;dsimp only;omega))) (by first | omega | (dsimp only;omega)) (fun _ => .inr (by first | omega | (dsimp only;omega)))
     exact Kn.up (j .operand _ trivial (by first | omega | (dsimp only;omega)) (by first | (simp only[rk] at hf ⊢;omega) | (simp only[rk] at hf ⊢;dsimp only;omega))) (by first | omega | (dsimp only;omega)) (fun _ => .inl rfl)
   | operand =>
     simp only[Dn,CQ];refine Kn.peek A H (by first | omega | (dsimp only;omega)) fun z B C s=>?_
     (try dsimp only at z B C s ⊢)
     split
     ·rename_i c
      have K:=s (by rw[c];decide);exact Kn.ok (by first | omega | (dsimp only;omega)) (by first | omega | (dsimp only;omega)) (fun e=>by first | omega | (dsimp only;omega) | cases e) (AL.node (Y _ c) (by first | exact t _ | assumption | exact hk.zz | exact(Abm o i g).zz | exact hk.2) AL.nil)
     split
     ·rename_i c
      have K:=s (by rw[c];decide);split
      ·exact Kn.bad (A.1 _ (by first | omega | (dsimp only;omega)))
      exact Kn.ok (by first | omega | (dsimp only;omega)) (by first | omega | (dsimp only;omega)) (fun e=>by first | omega | (dsimp only;omega) | cases e) (AL.node o (by first | exact t _ | assumption | exact hk.zz | exact(Abm o i g).zz | exact hk.2) AL.nil)
     split
     ·rename_i c
      exact absurd c (H.re _)
     split
     ·rename_i c
      have K:=s (by rw[c];decide);split
      ·exact Kn.bad (A.1 _ (by first | omega | (dsimp only;omega)))
      refine Kn.bind (j .args _ trivial (by first | omega | (dsimp only;omega)) (by first | (simp only[rk] at hf ⊢;omega) | (simp only[rk] at hf ⊢;dsimp only;omega))) fun l q g q1 F b=>?_;replace b:=b rfl
      (try dsimp only at q1 b)
      exact Kn.ok (by first | omega | (dsimp only;omega)) (by first | omega | (dsimp only;omega)) (fun e=>by first | omega | (dsimp only;omega) | cases e) (AL.node o (by first | exact t _ | assumption | exact hk.zz | exact(Abm o i g).zz | exact hk.2) (g))
     split
     ·rename_i c
      have K:=s (by rw[c];decide);split
      ·rw[Abp]
       refine Kn.peek A H (by first | omega | (dsimp only;omega)) fun u0 u1 u2 u3=>?_
       (try dsimp only at u0 u1 u2 u3 ⊢)
       split
       ·refine Kn.bind (j .args _ trivial (by first | omega | (dsimp only;omega)) (by first | (simp only[rk] at hf ⊢;omega) | (simp only[rk] at hf ⊢;dsimp only;omega))) fun l q g q1 F b=>?_
        replace b:=b rfl
        (try dsimp only at q1 b)
        exact Kn.ok (by first | omega | (dsimp only;omega)) (by first | omega | (dsimp only;omega)) (fun e=>by first | omega | (dsimp only;omega) | cases e) (AL.node o (by first | exact t _ | assumption | exact hk.zz | exact(Abm o i g).zz | exact hk.2) (g))
       exact Kn.ok (by first | omega | (dsimp only;omega)) (by first | omega | (dsimp only;omega)) (fun e=>by first | omega | (dsimp only;omega) | cases e) (AL.node o (by first | exact t _ | assumption | exact hk.zz | exact(Abm o i g).zz | exact hk.2) AL.nil)
      refine Kn.bind (j .args _ trivial (by first | omega | (dsimp only;omega)) (by first | (simp only[rk] at hf ⊢;omega) | (simp only[rk] at hf ⊢;dsimp only;omega))) fun l q g q1 F b=>?_;replace b:=b rfl
      (try dsimp only at q1 b)
      exact Kn.ok (by first | omega | (dsimp only;omega)) (by first | omega | (dsimp only;omega)) (fun e=>by first | omega | (dsimp only;omega) | cases e) (AL.node o (by first | exact t _ | assumption | exact hk.zz | exact(Abm o i g).zz | exact hk.2) (g))
     split
     ·rename_i c
      have K:=s (Aeh c);refine Kn.bind (j .target _ trivial (by first | omega | (dsimp only;omega)) (by first | (simp only[rk] at hf ⊢;omega) | (simp only[rk] at hf ⊢;dsimp only;omega))) fun l q g q1 F b=>?_;replace b:=b rfl
      (try dsimp only at q1 b)
      exact Kn.ok (by first | omega | (dsimp only;omega)) (by first | omega | (dsimp only;omega)) (fun e=>by first | omega | (dsimp only;omega) | cases e) (AL.node o (by first | exact t _ | assumption | exact hk.zz | exact(Abm o i g).zz | exact hk.2) (g))
     exact Kn.up (j .target _ trivial (by first | omega | (dsimp only;omega)) (by first | (simp only[rk] at hf ⊢;omega) | (simp only[rk] at hf ⊢;dsimp only;omega))) (by first | omega | (dsimp only;omega)) (fun _ => .inl rfl)
   | target =>
     simp only[Dn,CQ];refine Kn.peek A H (by first | omega | (dsimp only;omega)) fun z B C s=>?_
     (try dsimp only at z B C s ⊢)
     split
     ·rename_i c
      have K:=s (by rw[c];decide);rw[Abp];refine Kn.peek A H (by first | omega | (dsimp only;omega)) fun u0 u1 u2 u3=>?_
      (try dsimp only at u0 u1 u2 u3 ⊢)
      split
      ·refine Kn.bind (j .index _ trivial (by first | omega | (dsimp only;omega)) (by first | (simp only[rk] at hf ⊢;omega) | (simp only[rk] at hf ⊢;dsimp only;omega))) fun l q g q1 F b=>?_
       replace b:=b rfl
       (try dsimp only at q1 b)
       exact Kn.ok (by first | omega | (dsimp only;omega)) (by first | omega | (dsimp only;omega)) (fun e=>by first | omega | (dsimp only;omega) | cases e) (AL.node o (by first | exact t _ | assumption | exact hk.zz | exact(Abm o i g).zz | exact hk.2) (g))
      exact Kn.ok (by first | omega | (dsimp only;omega)) (by first | omega | (dsimp only;omega)) (fun e=>by first | omega | (dsimp only;omega) | cases e) (AL.node o (by first | exact t _ | assumption | exact hk.zz | exact(Abm o i g).zz | exact hk.2) AL.nil)
     split
     ·rename_i c
      have K:=s (AcU c);refine Kn.bind (j .dollar _ trivial (by first | omega | (dsimp only;omega)) (by first | (simp only[rk] at hf ⊢;omega) | (simp only[rk] at hf ⊢;dsimp only;omega))) fun l q g q1 F b=>?_;replace b:=b rfl
      (try dsimp only at q1 b)
      exact Kn.ok (by first | omega | (dsimp only;omega)) (by first | omega | (dsimp only;omega)) (fun e=>by first | omega | (dsimp only;omega) | cases e) (AL.node o (by first | exact t _ | assumption | exact hk.zz | exact(Abm o i g).zz | exact hk.2) (g))
     exact Kn.refuse (A.1 _ (by first | omega | (dsimp only;omega)))
   | dollar =>
     simp only[Dn,CQ];refine Kn.peek A H (by first | omega | (dsimp only;omega)) fun z B C s=>?_
     (try dsimp only at z B C s ⊢)
     split
     ·exact Kn.up (j .cond1 _ trivial (by first | omega | (dsimp only;omega)) (by first | (simp only[rk] at hf ⊢;omega) | (simp only[rk] at hf ⊢;dsimp only;omega))) (by first | omega | (dsimp only;omega)) (fun _ => .inl rfl)
     exact Kn.up (j .operand _ trivial (by first | omega | (dsimp only;omega)) (by first | (simp only[rk] at hf ⊢;omega) | (simp only[rk] at hf ⊢;dsimp only;omega))) (by first | omega | (dsimp only;omega)) (fun _ => .inl rfl)
   | cond1 =>
     simp only[Dn,CQ];refine Kn.bind (Abk A H t _ _ (by first | omega | (dsimp only;omega))) fun O u L u1 u2 u3=>?_;replace u3:=u3 rfl
     (try dsimp only at u1 u3)
     refine Kn.bind (j .expr _ trivial (by first | omega | (dsimp only;omega)) (by first | (simp only[rk] at hf ⊢;omega) | (simp only[rk] at hf ⊢;dsimp only;omega))) fun l q g q1 F b=>?_;replace b:=b rfl
     (try dsimp only at q1 b)
     refine Kn.bind (Abk A H t _ _ (by first | omega | (dsimp only;omega))) fun U v T I M E=>?_;replace E:=E rfl
     (try dsimp only at I E)
     exact Kn.ok (by first | omega | (dsimp only;omega)) (by first | omega | (dsimp only;omega)) (fun e=>by first | omega | (dsimp only;omega) | cases e) (g)
   | list =>
     simp only[Dn,CQ];refine Kn.bind (j .expr _ trivial (by first | omega | (dsimp only;omega)) (by first | (simp only[rk] at hf ⊢;omega) | (simp only[rk] at hf ⊢;dsimp only;omega))) fun l q g q1 F b=>?_;replace b:=b rfl
     (try dsimp only at q1 b)
     exact Kn.up (j (.listL _) _ g (by first | omega | (dsimp only;omega)) (by first | (simp only[rk] at hf ⊢;omega) | (simp only[rk] at hf ⊢;dsimp only;omega))) (by first | omega | (dsimp only;omega)) (fun _ => .inr (by first | omega | (dsimp only;omega)))
   | listL y =>
     simp only[Dn,CQ];rw[Abp];refine Kn.peek A H (by first | omega | (dsimp only;omega)) fun z B C s=>?_
     (try dsimp only at z B C s ⊢)
     split
     ·refine Kn.bind (Abk A H t _ _ (by first | omega | (dsimp only;omega))) fun O u L u1 u2 u3=>?_
      replace u3:=u3 rfl
      (try dsimp only at u1 u3)
      refine Kn.bind (Abq A H true _ _ (by first | omega | (dsimp only;omega)) (by first | (simp only[rk] at hf ⊢;omega) | (simp only[rk] at hf ⊢;dsimp only;omega))) fun _ v _ I M E=>?_;clear E
      (try dsimp only at I)
      refine Kn.bind (j .expr _ trivial (by first | omega | (dsimp only;omega)) (by first | (simp only[rk] at hf ⊢;omega) | (simp only[rk] at hf ⊢;dsimp only;omega))) fun x w G J N D=>?_;replace D:=D rfl
      (try dsimp only at J D)
      exact Kn.up (j (.listL _) _ (hk.app G) (by first | omega | (dsimp only;omega)) (by first | (simp only[rk] at hf ⊢;omega) | (simp only[rk] at hf ⊢;dsimp only;omega))) (by first | omega | (dsimp only;omega)) (fun _ => .inr (by first | omega | (dsimp only;omega)))
     exact Kn.ok (by first | omega | (dsimp only;omega)) (by first | omega | (dsimp only;omega)) (fun e=>by first | omega | (dsimp only;omega) | cases e) (hk)
   | args =>
     simp only[Dn,CQ];refine Kn.bind (Abk A H t _ _ (by first | omega | (dsimp only;omega))) fun O u L u1 u2 u3=>?_;replace u3:=u3 rfl
     (try dsimp only at u1 u3)
     refine Kn.peek A H (by first | omega | (dsimp only;omega)) fun z B C s=>?_
     (try dsimp only at z B C s ⊢)
     split
     ·refine Kn.bind (Abk A H t _ _ (by first | omega | (dsimp only;omega))) fun U v T I M E=>?_
      replace E:=E rfl
      (try dsimp only at I E)
      exact Kn.ok (by first | omega | (dsimp only;omega)) (by first | omega | (dsimp only;omega)) (fun e=>by first | omega | (dsimp only;omega) | cases e) (AL.nil)
     refine Kn.bind (j .list _ trivial (by first | omega | (dsimp only;omega)) (by first | (simp only[rk] at hf ⊢;omega) | (simp only[rk] at hf ⊢;dsimp only;omega))) fun l q g q1 F b=>?_;replace b:=b rfl
     (try dsimp only at q1 b)
     refine Kn.bind (Abk A H t _ _ (by first | omega | (dsimp only;omega))) fun U v T I M E=>?_;replace E:=E rfl
     (try dsimp only at I E)
     exact Kn.ok (by first | omega | (dsimp only;omega)) (by first | omega | (dsimp only;omega)) (fun e=>by first | omega | (dsimp only;omega) | cases e) (g)
   | index =>
     simp only[Dn,CQ];refine Kn.bind (Abk A H t _ _ (by first | omega | (dsimp only;omega))) fun O u L u1 u2 u3=>?_;replace u3:=u3 rfl
     (try dsimp only at u1 u3)
     refine Kn.bind (j .list _ trivial (by first | omega | (dsimp only;omega)) (by first | (simp only[rk] at hf ⊢;omega) | (simp only[rk] at hf ⊢;dsimp only;omega))) fun l q g q1 F b=>?_;replace b:=b rfl
     (try dsimp only at q1 b)
     refine Kn.bind (Abk A H t _ _ (by first | omega | (dsimp only;omega))) fun U v T I M E=>?_;replace E:=E rfl
     (try dsimp only at I E)
     exact Kn.ok (by first | omega | (dsimp only;omega)) (by first | omega | (dsimp only;omega)) (fun e=>by first | omega | (dsimp only;omega) | cases e) (g)
   | has y =>
     simp only[Dn,CQ];refine Kn.peek A H (by first | omega | (dsimp only;omega)) fun z B C s=>?_
     (try dsimp only at z B C s ⊢)
     split
     ·rename_i c
      have K:=s (Adl c);refine Kn.peek A H (by first | omega | (dsimp only;omega)) fun u0 u1 u2 u3=>?_
      (try dsimp only at u0 u1 u2 u3 ⊢)
      split
      ·rename_i d
       have u4:=u3 (by rw[d];decide);exact Kn.ok (by first | omega | (dsimp only;omega)) (by first | omega | (dsimp only;omega)) (fun e=>by first | omega | (dsimp only;omega) | cases e) (AL.node o (by first | exact t _ | assumption | exact hk.zz | exact(Abm o i g).zz | exact hk.2) (hk))
      exact Kn.refuse (A.1 _ (by first | omega | (dsimp only;omega)))
     exact Kn.refuse (A.1 _ (by first | omega | (dsimp only;omega)))
open Go.Proofs.Tryz
open Go.RowKit
def QS (x:Nat):Prop:=∀w,Sem.run prog (binOp .eql 39 (.float .f64 x) (.float .f64 x)) w = .ok (.bool true) w
def RS2 (z:Nat×Nat):Prop:=∀w,Sem.run prog (binOp .neq 40 (.complex .f64 z.1 z.2) (.complex .f64 z.1 z.2)) w = .ok (.bool false) w
theorem AdC {T:TypeId} {w:World} {S:Nat->Prop} {ks:List Tr} {v:Value} (h:Am T w S ks v):ks.length<=maxLen:=by
 cases h with
 | nil=>exact Nat.zero_le _
 | row _ L b a c d f i e j k g=>rw[List.length_map];omega
theorem AiQ {a b:Nat} (ha:FloatKind.f64.format.order a a=some .eq) (c:FloatKind.f64.format.order b b=some .eq):RS2 (a,b):=by
 intro w;simp[binOp,Op.complexOp,Op.Complex.cmp,Op.floatCmp,ha,c,go_sem]
theorem qs0:QS 0:=fun w=>by kernel_rfl
theorem AiZ:RS2 (0,0):=fun w=>by kernel_rfl
def SNC (n:Nat):Prop:=∀(t:Tr) (W:World) (a b:Value),t.wt<=n->Tr.Ok QS RS2 t->Am 42 W (fun _=>True) t.ks a->Am 42 W (fun _=>True) t.ks b ->
 Calls prog 56 #[CJ t a,CJ t b] W fun e c=>e = .returned (.bool true)/\Below W.heap.size W c
def SLC (n:Nat):Prop:=∀(ks:List Tr) (W:World) (a b:Value),DN ks<=n->(∀t∈ks,Tr.Ok QS RS2 t)->Am 42 W (fun _=>True) ks a->Am 42 W (fun _=>True) ks b ->
 Calls prog 55 #[a,b] W fun e c=>e = .returned (.bool true)/\Below W.heap.size W c
set_option linter.unusedSimpArgs false in
theorem AgG (n:Nat) (Z:SNC n):SLC n:=by
 intro ks W va vb hn hq f m;have E:=aA f;have F:=aA m;have HE:=aA Z;have HQ:=aA hq;have D:=aA (aB W.heap.size W);obtain⟨a1,c1,rfl⟩:=f.slice;obtain⟨a2,c2,rfl⟩:=m.slice;have G:=aA (AdC f);clear f m Z hq
 go_in
 go_wp2
 go_loopg [5] ks.length (fun g i wr=>∃(k:Nat),i = .int .i64 k/\k+g=ks.length/\Hid (Below W.heap.size W wr))
 case atStart=>exact⟨0,rfl,by omega,D⟩
 obtain⟨k,rfl,b0,c⟩:=hrel;by_cases A:k<ks.length
 ·obtain⟨b1,d1,r,U,t,T,j,H,I,J,L,M⟩:=(E.out.bel c.out).cells k A
  injection U with q _ V;subst q;obtain⟨b2,d2,s,U,t',B,l,N,O,P,Q,R⟩:=(F.out.bel c.out).cells k A;injection U with q _ X;subst q;obtain rfl:t=t':=Option.some.inj (T.symm.trans B);have p:t∈ks:=List.mem_of_getElem? T;have C:t.wt<=n:=Nat.le_trans (A9 p) hn;have HC:=aA (fun Y (y:Below wr.heap.size wr Y)=>HE.out t Y r s C (HQ.out t p) (j.bel y) (l.bel y));clear V X p C j l T B;rw[Nat.mul_comm 5 k] at H I J L M N O P Q R;have a0:(k:Int)<ks.length:=(by omega);go_wp2;refine wp_region_held_drew (S:=(fun o=>o.cell? ⟨b1,k*5,none⟩=some (.int .i64 t.kd)/\o.cell? ⟨b1,k*5+1,none⟩=some (.string ⟨t.nm.toArray⟩)/\o.cell? ⟨b1,k*5+2,none⟩=some (.float .f64 t.x)/\o.cell? ⟨b1,k*5+3,none⟩=some (r)/\o.cell? ⟨b1,k*5+4,none⟩=some (.complex .f64 t.z.1 t.z.2)/\o.cell? ⟨b2,k*5,none⟩=some (.int .i64 t.kd)/\o.cell? ⟨b2,k*5+1,none⟩=some (.string ⟨t.nm.toArray⟩)/\o.cell? ⟨b2,k*5+2,none⟩=some (.float .f64 t.x)/\o.cell? ⟨b2,k*5+3,none⟩=some (s)/\o.cell? ⟨b2,k*5+4,none⟩=some (.complex .f64 t.z.1 t.z.2))) (by kernel_rfl) ⟨H,I,J,L,M,N,O,P,Q,R⟩ (fun b=>?_)
  refine wpAnyH_take (i:=0) (v:=.slice (some ⟨b1,0,none⟩) ks.length c1) rfl (by kernel_rfl) (by kernel_rfl) (by kernel_rfl) (fun _ _ _ h=>h) (Or.inl ⟨by rfl,fun w d=>by go_simp⟩) b ?_
  try simp only[Act.put,sP]
  refine wpAnyH_take (i:=1) (v:=.int .i64 k) rfl (by kernel_rfl) (by kernel_rfl) (by kernel_rfl) (fun _ _ _ h=>h) (Or.inl ⟨by rfl,fun w d=>by go_simp⟩) b ?_
  try simp only[Act.put,sP]
  refine wpAnyH_take (i:=2) (v:=.pointer (some ⟨b1,k*5,none⟩)) rfl (by kernel_rfl) (by kernel_rfl) (by kernel_rfl) (fun _ _ _ h=>h) (Or.inl ⟨by rfl,fun w d=>by go_simp⟩) b ?_
  try simp only[Act.put,sP]
  refine wpAnyH_take (i:=3) (v:=.agg #[.int .i64 t.kd,.string ⟨t.nm.toArray⟩,.float .f64 t.x,r,.complex .f64 t.z.1 t.z.2]) rfl (by kernel_rfl) (by kernel_rfl) (by kernel_rfl) (fun _ _ _ h=>h) (Or.inl ⟨by rfl,fun w d=>by obtain⟨s0,s1,s2,s3,s4,s5,s6,s7,s8,s9⟩:=d;go_simp⟩) b ?_
  try simp only[Act.put,sP]
  refine wpAnyH_take (i:=4) (v:=.slice (some ⟨b2,0,none⟩) ks.length c2) rfl (by kernel_rfl) (by kernel_rfl) (by kernel_rfl) (fun _ _ _ h=>h) (Or.inl ⟨by rfl,fun w d=>by go_simp⟩) b ?_
  try simp only[Act.put,sP]
  refine wpAnyH_take (i:=5) (v:=.int .i64 k) rfl (by kernel_rfl) (by kernel_rfl) (by kernel_rfl) (fun _ _ _ h=>h) (Or.inl ⟨by rfl,fun w d=>by go_simp⟩) b ?_
  try simp only[Act.put,sP]
  refine wpAnyH_take (i:=6) (v:=.pointer (some ⟨b2,k*5,none⟩)) rfl (by kernel_rfl) (by kernel_rfl) (by kernel_rfl) (fun _ _ _ h=>h) (Or.inl ⟨by rfl,fun w d=>by go_simp⟩) b ?_
  try simp only[Act.put,sP]
  refine wpAnyH_take (i:=7) (v:=.agg #[.int .i64 t.kd,.string ⟨t.nm.toArray⟩,.float .f64 t.x,s,.complex .f64 t.z.1 t.z.2]) rfl (by kernel_rfl) (by kernel_rfl) (by kernel_rfl) (fun _ _ _ h=>h) (Or.inl ⟨by rfl,fun w d=>by obtain⟨s0,s1,s2,s3,s4,s5,s6,s7,s8,s9⟩:=d;go_simp⟩) b ?_
  try simp only[Act.put,sP]
  refine wpAnyH_ready (rs:=[8]) (by kernel_rfl) (by simp) (AllReadyH.cons rfl (fun K hK=>?_) AllReadyH.nil);rw[if_pos (by rfl)]
  try go_simp
  go_at_call 56
  refine(HC.out _ (aB _ _).drew).mono ?_;rintro e w8 ⟨rfl,hb⟩;have a:Below wr.heap.size wr w8:=(aB _ _).drew.trans hb;have u:=aA (c.out.trans (a.mono c.out.size));refine hK.out _ _ ⟨Aa H a,Aa I a,Aa J a,Aa L a,Aa M a,Aa N a,Aa O a,Aa P a,Aa Q a,Aa R a⟩ (fun b=>?_)
  try simp only[Act.put,sP]
  refine wpAnyH_take (i:=9) (v:=.bool false) rfl (by kernel_rfl) (by kernel_rfl) (by kernel_rfl) (fun _ _ _ h=>h) (Or.inl ⟨by rfl,fun w d=>by go_simp⟩) b ?_
  try simp only[Act.put,sP]
  refine wpAnyH_done (by kernel_rfl) ?_ _;clear b hb a HC;go_wp2
  go_roundg (gk-1)
  case measure=>omega
  exact⟨k+1,congrArg (Value.int .i64) (by have:=G.out;unfold maxLen at this;unfold RowKit.wrap64;omega),by omega,u⟩
 obtain rfl:k=ks.length:=(by omega);go_wp2;go_ret;exact⟨rfl,c.out⟩
set_option linter.unusedSimpArgs false in
theorem Aie (n:Nat) (h:SLC n):SNC (n+1):=by
 intro t W q r j a ha f;have b1:(t.kd==t.kd)=true:=beq_iff_eq.2 rfl;have b2:(t.nm==t.nm)=true:=beq_iff_eq.2 rfl;have b3:∀w,Sem.run prog (binOp .eql 39 (.float .f64 t.x) (.float .f64 t.x)) w = .ok (.bool true) w:=a.xx
 have s:(FloatKind.f64.format.order t.x t.x==some .eq)=true:=by
  have h:=b3 W;simp[binOp,Op.floatCmp,go_sem] at h;simp[h]
 have HC:=aA (fun g (i:Below W.heap.size W g)=>h t.ks g q r (by cases t;rw[Tr.wt_mk] at j;show DN _<=n;dsimp only[Tr.ks];omega) (fun u p=>a.kid p) (ha.bel i) (f.bel i));obtain⟨k,m,rfl⟩:=ha.slice;obtain⟨l,o,rfl⟩:=f.slice;have c:=aA (show Below W.heap.size W ((W.alloc (.cells #[.int .i64 t.kd,.string ⟨t.nm.toArray⟩,.float .f64 t.x,.slice k t.ks.length m,.complex .f64 t.z.1 t.z.2] 42)).alloc (.cells #[.int .i64 t.kd,.string ⟨t.nm.toArray⟩,.float .f64 t.x,.slice l t.ks.length o,.complex .f64 t.z.1 t.z.2] 42)) from (Ad W _).trans ((Ad _ _).mono (Ad W _).size));clear ha f a h j;unfold CJ
 go_in
 go_wp2_with (go_at_call 55;refine(HC.out _ c.out).mono ?_;rintro e v ⟨rfl,b⟩;have d:=aA (c.out.trans (b.mono c.out.size));clear b)
 go_ret;exact⟨rfl,d.out⟩
theorem Adh:∀n,SNC n/\SLC n
 | 0=>have a:SNC 0:=fun t W d e c=>absurd c (by cases t;rw[Tr.wt_mk];omega)
   ⟨a,AgG 0 a⟩
 | n+1=>have I:=Adh n
   have b:=Aie n I.2
   ⟨b,AgG (n+1) b⟩
def PLC (n:Nat):Prop:=∀(t:Tr) (W:World) (a b:Value),t.wt<=n->Tr.Ok QS RS2 t->Am 42 W (fun _=>True) t.ks a->Am 42 W (fun _=>True) t.ks b ->
 Calls prog 32 #[CJ t a,CJ t b] W fun e c=>e = .returned (.bool true)/\Below W.heap.size W c
set_option linter.unusedSimpArgs false in
theorem Aic (n:Nat) (hE:PLC n):PLC (n+1):=by
 intro t W va vb hn A m y;have a0:DN t.ks<=n:=by cases t;rw[Tr.wt_mk] at hn;show DN _<=n;dsimp only[Tr.ks];omega
 obtain⟨p,f,rfl⟩:=m.slice;obtain⟨s,j,rfl⟩:=y.slice;have l:Below W.heap.size W ((W.alloc (.cells #[.int .i64 t.kd,.string ⟨t.nm.toArray⟩,.float .f64 t.x,.slice p t.ks.length f,.complex .f64 t.z.1 t.z.2] 42)).alloc (.cells #[.int .i64 t.kd,.string ⟨t.nm.toArray⟩,.float .f64 t.x,.slice s t.ks.length j,.complex .f64 t.z.1 t.z.2] 42)):=(Ad W _).trans ((Ad _ _).mono (Ad W _).size);have H:=aA l;have P:=aA (m.bel l);have Q:=aA (y.bel l);have R:=aA (AdC m);have HE:=aA hE;have HQ:=aA (fun u (hu:u∈t.ks)=>A.kid hu);have hz:∀w,Sem.run prog (binOp .neq 40 (.complex .f64 t.z.1 t.z.2) (.complex .f64 t.z.1 t.z.2)) w = .ok (.bool false) w:=A.zz
 have H1:=aA (Aa ((C5.new W (.int .i64 t.kd) (.string ⟨t.nm.toArray⟩) (.float .f64 t.x) (.slice p t.ks.length f) (.complex .f64 t.z.1 t.z.2) 42).c3) (Ad _ (.cells #[.int .i64 t.kd,.string ⟨t.nm.toArray⟩,.float .f64 t.x,.slice s t.ks.length j,.complex .f64 t.z.1 t.z.2] 42)));have h2:=(C5.new (W.alloc (.cells #[.int .i64 t.kd,.string ⟨t.nm.toArray⟩,.float .f64 t.x,.slice p t.ks.length f,.complex .f64 t.z.1 t.z.2] 42)) (.int .i64 t.kd) (.string ⟨t.nm.toArray⟩) (.float .f64 t.x) (.slice s t.ks.length j) (.complex .f64 t.z.1 t.z.2) 42).c3;rw[show (W.alloc (.cells #[.int .i64 t.kd,.string ⟨t.nm.toArray⟩,.float .f64 t.x,.slice p t.ks.length f,.complex .f64 t.z.1 t.z.2] 42)).heap.size=W.heap.size+1 by simp] at h2
 have H2:=aA h2;have O:=aA (aB ((W.alloc (.cells #[.int .i64 t.kd,.string ⟨t.nm.toArray⟩,.float .f64 t.x,.slice p t.ks.length f,.complex .f64 t.z.1 t.z.2] 42)).alloc (.cells #[.int .i64 t.kd,.string ⟨t.nm.toArray⟩,.float .f64 t.x,.slice s t.ks.length j,.complex .f64 t.z.1 t.z.2] 42)).heap.size ((W.alloc (.cells #[.int .i64 t.kd,.string ⟨t.nm.toArray⟩,.float .f64 t.x,.slice p t.ks.length f,.complex .f64 t.z.1 t.z.2] 42)).alloc (.cells #[.int .i64 t.kd,.string ⟨t.nm.toArray⟩,.float .f64 t.x,.slice s t.ks.length j,.complex .f64 t.z.1 t.z.2] 42)));clear m y hE A l hn h2;unfold CJ
 go_in
 go_wp2
 go_loopg [5] t.ks.length (fun g i wr=>∃(k:Nat),i = .int .i64 k/\k+g=t.ks.length/\Hid (Below ((W.alloc (.cells #[.int .i64 t.kd,.string ⟨t.nm.toArray⟩,.float .f64 t.x,.slice p t.ks.length f,.complex .f64 t.z.1 t.z.2] 42)).alloc (.cells #[.int .i64 t.kd,.string ⟨t.nm.toArray⟩,.float .f64 t.x,.slice s t.ks.length j,.complex .f64 t.z.1 t.z.2] 42)).heap.size ((W.alloc (.cells #[.int .i64 t.kd,.string ⟨t.nm.toArray⟩,.float .f64 t.x,.slice p t.ks.length f,.complex .f64 t.z.1 t.z.2] 42)).alloc (.cells #[.int .i64 t.kd,.string ⟨t.nm.toArray⟩,.float .f64 t.x,.slice s t.ks.length j,.complex .f64 t.z.1 t.z.2] 42)) wr))
 case atStart=>exact⟨0,rfl,by omega,O⟩
 obtain⟨k,rfl,g0,c⟩:=hrel;have g1:=Aa H1.out c.out;have g2:=Aa H2.out c.out;by_cases L:k<t.ks.length
 ·obtain⟨b1,d1,D,hv,u,ht,q,T,U,V,X,Y⟩:=(P.out.bel c.out).cells k L
  injection hv with C _ b0;subst C;obtain⟨b2,d2,E,hv,u',M,r,Z,f1,f2,f3,f4⟩:=(Q.out.bel c.out).cells k L;injection hv with C _ c0;subst C;obtain rfl:u=u':=Option.some.inj (ht.symm.trans M);have B:u∈t.ks:=List.mem_of_getElem? ht;have N:u.wt<=n:=Nat.le_trans (A9 B) a0;have HC:=aA (fun W' (J:Below wr.heap.size wr W')=>HE.out u W' D E N (HQ.out u B) (q.bel J) (r.bel J));clear b0 c0 B N q r ht M;rw[Nat.mul_comm 5 k] at T U V X Y Z f1 f2 f3 f4;have d0:(k:Int)<t.ks.length:=(by omega);go_wp2;refine wp_region_held_drew (S:=(fun o=>o.cell? ⟨W.heap.size,3,none⟩=some (.slice (some ⟨b1,0,none⟩) t.ks.length f)/\o.cell? ⟨W.heap.size+1,3,none⟩=some (.slice (some ⟨b2,0,none⟩) t.ks.length j)/\o.cell? ⟨b1,k*5,none⟩=some (.int .i64 u.kd)/\o.cell? ⟨b1,k*5+1,none⟩=some (.string ⟨u.nm.toArray⟩)/\o.cell? ⟨b1,k*5+2,none⟩=some (.float .f64 u.x)/\o.cell? ⟨b1,k*5+3,none⟩=some (D)/\o.cell? ⟨b1,k*5+4,none⟩=some (.complex .f64 u.z.1 u.z.2)/\o.cell? ⟨b2,k*5,none⟩=some (.int .i64 u.kd)/\o.cell? ⟨b2,k*5+1,none⟩=some (.string ⟨u.nm.toArray⟩)/\o.cell? ⟨b2,k*5+2,none⟩=some (.float .f64 u.x)/\o.cell? ⟨b2,k*5+3,none⟩=some (E)/\o.cell? ⟨b2,k*5+4,none⟩=some (.complex .f64 u.z.1 u.z.2))) (by kernel_rfl) ⟨g1,g2,T,U,V,X,Y,Z,f1,f2,f3,f4⟩ (fun b=>?_)
  refine wpAnyH_take (i:=0) (v:=.pointer (some ⟨W.heap.size,3,none⟩)) rfl (by kernel_rfl) (by kernel_rfl) (by kernel_rfl) (fun _ _ _ h=>h) (Or.inl ⟨by rfl,fun w d=>by go_simp⟩) b ?_
  try simp only[Act.put,sP]
  refine wpAnyH_take (i:=1) (v:=.slice (some ⟨b1,0,none⟩) t.ks.length f) rfl (by kernel_rfl) (by kernel_rfl) (by kernel_rfl) (fun _ _ _ h=>h) (Or.inl ⟨by rfl,fun w d=>by obtain⟨s0,s1,s2,s3,s4,s5,s6,s7,s8,s9,F,G⟩:=d;go_simp⟩) b ?_
  try simp only[Act.put,sP]
  refine wpAnyH_take (i:=2) (v:=.int .i64 k) rfl (by kernel_rfl) (by kernel_rfl) (by kernel_rfl) (fun _ _ _ h=>h) (Or.inl ⟨by rfl,fun w d=>by go_simp⟩) b ?_
  try simp only[Act.put,sP]
  refine wpAnyH_take (i:=3) (v:=.pointer (some ⟨b1,k*5,none⟩)) rfl (by kernel_rfl) (by kernel_rfl) (by kernel_rfl) (fun _ _ _ h=>h) (Or.inl ⟨by rfl,fun w d=>by go_simp⟩) b ?_
  try simp only[Act.put,sP]
  refine wpAnyH_take (i:=4) (v:=.agg #[.int .i64 u.kd,.string ⟨u.nm.toArray⟩,.float .f64 u.x,D,.complex .f64 u.z.1 u.z.2]) rfl (by kernel_rfl) (by kernel_rfl) (by kernel_rfl) (fun _ _ _ h=>h) (Or.inl ⟨by rfl,fun w d=>by obtain⟨s0,s1,s2,s3,s4,s5,s6,s7,s8,s9,F,G⟩:=d;go_simp⟩) b ?_
  try simp only[Act.put,sP]
  refine wpAnyH_take (i:=5) (v:=.pointer (some ⟨W.heap.size+1,3,none⟩)) rfl (by kernel_rfl) (by kernel_rfl) (by kernel_rfl) (fun _ _ _ h=>h) (Or.inl ⟨by rfl,fun w d=>by go_simp⟩) b ?_
  try simp only[Act.put,sP]
  refine wpAnyH_take (i:=6) (v:=.slice (some ⟨b2,0,none⟩) t.ks.length j) rfl (by kernel_rfl) (by kernel_rfl) (by kernel_rfl) (fun _ _ _ h=>h) (Or.inl ⟨by rfl,fun w d=>by obtain⟨s0,s1,s2,s3,s4,s5,s6,s7,s8,s9,F,G⟩:=d;go_simp⟩) b ?_
  try simp only[Act.put,sP]
  refine wpAnyH_take (i:=7) (v:=.int .i64 k) rfl (by kernel_rfl) (by kernel_rfl) (by kernel_rfl) (fun _ _ _ h=>h) (Or.inl ⟨by rfl,fun w d=>by go_simp⟩) b ?_
  try simp only[Act.put,sP]
  refine wpAnyH_take (i:=8) (v:=.pointer (some ⟨b2,k*5,none⟩)) rfl (by kernel_rfl) (by kernel_rfl) (by kernel_rfl) (fun _ _ _ h=>h) (Or.inl ⟨by rfl,fun w d=>by go_simp⟩) b ?_
  try simp only[Act.put,sP]
  refine wpAnyH_take (i:=9) (v:=.agg #[.int .i64 u.kd,.string ⟨u.nm.toArray⟩,.float .f64 u.x,E,.complex .f64 u.z.1 u.z.2]) rfl (by kernel_rfl) (by kernel_rfl) (by kernel_rfl) (fun _ _ _ h=>h) (Or.inl ⟨by rfl,fun w d=>by obtain⟨s0,s1,s2,s3,s4,s5,s6,s7,s8,s9,F,G⟩:=d;go_simp⟩) b ?_
  try simp only[Act.put,sP]
  refine wpAnyH_ready (rs:=[10]) (by kernel_rfl) (by simp) (AllReadyH.cons rfl (fun K hK=>?_) AllReadyH.nil);rw[if_pos (by rfl)]
  try go_simp
  go_at_call 32
  refine(HC.out _ (aB _ _).drew).mono ?_;rintro e w8 ⟨rfl,hb⟩;have a:Below wr.heap.size wr w8:=(aB _ _).drew.trans hb;have I:=aA (c.out.trans (a.mono c.out.size));refine hK.out _ _ ⟨Aa g1 a,Aa g2 a,Aa T a,Aa U a,Aa V a,Aa X a,Aa Y a,Aa Z a,Aa f1 a,Aa f2 a,Aa f3 a,Aa f4 a⟩ (fun b=>?_)
  try simp only[Act.put,sP]
  refine wpAnyH_take (i:=11) (v:=.bool false) rfl (by kernel_rfl) (by kernel_rfl) (by kernel_rfl) (fun _ _ _ h=>h) (Or.inl ⟨by rfl,fun w d=>by go_simp⟩) b ?_
  try simp only[Act.put,sP]
  refine wpAnyH_done (by kernel_rfl) ?_ _;clear b hb a HC;go_wp2
  go_roundg (gk-1)
  case measure=>omega
  exact⟨k+1,congrArg (Value.int .i64) (by have:=R.out;unfold maxLen at this;unfold RowKit.wrap64;omega),by omega,I⟩
 obtain hke:k=t.ks.length:=(by omega);subst hke;go_wp2;go_ret;exact⟨rfl,H.out.trans (c.out.mono H.out.size)⟩
theorem Afi:∀n,PLC n
 | 0=>fun t W b c a=>absurd a (by cases t;rw[Tr.wt_mk];omega)
 | n+1=>Aic n (Afi n)
end Go.Proofs.YtfblenhlildnaaaGreatDoor
