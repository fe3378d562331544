/- Gr -/
import Derived.Orders
open Array renaming getElem?_setIfInBounds_ne->aA,getD_eq_getD_getElem?->aC,getElem?_setIfInBounds_self_of_lt->aD,getD->aF,getElem?_eq_some_iff->aG,getElem?_eq_getElem->aI,replicate->aM
open List renaming mem_cons->aB,countP_cons->aE,pairwise_cons->aH,mem_range->aJ,mem_cons_self->aL,range->aN
namespace Go
section
variable {P:Program} {ops:Array Oper} {Q:Exit->Act->World->Prop}
theorem LG {b:Type} (p q:b->Bool) (l:List b) (h:∀x,q x=true->p x=true) (x:b) (e:x∈l) (i:p x=true) (j:q x=false):l.countP q<l.countP p:=by
 have k:∀l:List b,l.countP q<=l.countP p:=fun l=>by
  induction l with
  | nil=>simp
  | cons a l f=>rw[aE,aE];have:=h a;cases d:q a<;>cases c:p a<;>simp_all<;>omega
 induction l with
 | nil=>cases e
 | cons a l f =>
   rw[aE,aE];rcases aB.1 e with rfl | g
   ·have:=k l;simp[i,j];omega
   have:=f g;have:=h a;cases d:q a<;>cases c:p a<;>simp_all<;>omega
def DU (ops:Array Oper):Bool:=(aN ops.size).all fun i=>((ops[i]?).map fun o=>o.after.all fun e => !Region.binds .any e||decide (e.on<i)).getD true
theorem NO {id:Nat} {J:Act} {V:World} (hm:P.follows .mixedOrders=true) (hb:DU ops=true) (l:(Nat->Bool)->Act->World->Prop) (h0:l (fun _=>false) J { V with drawn:=V.drawn+1 })
  (y:∀(L:Nat->Bool) (i:Nat) (o:Oper) (a:Act) (w:World),(∀(j:Nat) (o:Oper),ops[j]?=some o->L j=true->∀e∈o.after,Region.binds .any e=true->L e.on=true)->l L a w->ops[i]?=some o->L i=false->(∀e∈o.after,Region.binds .any e=true->L e.on=true) ->
    wpOp P ops Q i (fun I U=>l (fun k=>k==i||L k) I U) a w)
  (p:∀(L:Nat->Bool) (a:Act) (w:World),l L a w->(∀i,i<ops.size->L i=true)->Q .normal a w):(Code.region id ops true).wp P Q J V:=by
 refine wp_region_any hm ?_
 have T:∀(c:Nat) (b:Array Bool) (a:Act) (w:World),b.size=ops.size->(aN ops.size).countP (fun k => !b.getD k false)<=c->(∀(j:Nat) (o:Oper),ops[j]?=some o->b.getD j false=true->∀e∈o.after,Region.binds .any e=true->b.getD e.on false=true)->l (fun k=>b.getD k false) a w->wpAny P .any ops Q c b a w:=by
  intro c
  have s:∀(b:Array Bool),b.size=ops.size->Region.ready .any ops b=[]->∀i,i<ops.size->b.getD i false=true:=by
   intro b u F i
   induction i using Nat.strongRecOn with
   | ind i R =>
     intro B;refine Decidable.byContradiction fun Y=>?_
     have q:i∈Region.ready .any ops b:=by
      refine mem_ready.2 ⟨?_,ops[i],aI B,fun e H n=>?_⟩
      ·have:i<b.size:=by omega
       simp only[aF,this,dif_pos] at Y ⊢;simpa using Y
      have m:=List.all_eq_true.1 hb i (aJ.2 B);rw[aI B,Option.map_some,Option.getD_some,Array.all_eq_true_iff_forall_mem] at m;have W:=m e H;rw[n] at W;have h3:e.on<i:=(by simpa using W);exact R e.on h3 (by omega)
     rw[F] at q;cases q
  induction c with
  | zero =>
    intro b a w u X _ G
    have d:∀i,i<ops.size->b.getD i false=true:=fun i B=>by
     have:=List.countP_eq_zero.1 (Nat.le_zero.1 X) i (aJ.2 B);simpa using this
    refine⟨?_,p _ a w G d⟩
    cases F:Region.ready .any ops b with
    | nil=>rfl
    | cons j r =>
      have K:j∈Region.ready .any ops b:=by rw[F];exact aL
      obtain⟨g,o,z,_⟩:=mem_ready.1 K;have t:=(aG.1 z).1;have m:=d j t;have:j<b.size:=(by omega);simp only[aF,this,dif_pos] at m g;rw[m] at g;cases g
  | succ c R =>
    intro b a w u X A G;refine⟨fun F=>p _ a w G (s b u F),fun j K=>?_⟩;obtain⟨g,o,z,d⟩:=mem_ready.1 K;have t:=(aG.1 z).1;have D:j<b.size:=by omega
    have C:b.getD j false=false:=by
     simp only[aF,D,dif_pos] at g ⊢;exact g
    refine wpOp_mono (fun I U h=>?_) (y _ j o a w A G z C d)
    have f:(fun k=>(b.setIfInBounds j true).getD k false)=(fun k=>k==j||b.getD k false):=by
     funext k;by_cases M:k=j
     ·subst M;simp[aF,D]
     have N:(k==j)=false:=beq_eq_false_iff_ne.2 M;rw[N,Bool.false_or];simp only[aF,Array.size_setIfInBounds];split
     ·rename_i O
      simp only[Array.getInternal_eq_getElem];rw[Array.getElem_setIfInBounds_ne O (fun e=>M e.symm)]
     rfl
    refine R (b.setIfInBounds j true) I U (by simpa using u) ?_ (fun S o2 v E e H n=>?_) (by rw[f];exact h)
    rotate_left
    ·have Z:=congrFun f S
     have e2:=congrFun f e.on;rw[Z] at E;rw[e2];rcases Bool.or_eq_true _ _▸E with m | m
     ·have:S=j:=by simpa using m
      subst this;rw[z] at v;cases v;rw[d e H n,Bool.or_true]
     rw[A S o2 v m e H n,Bool.or_true]
    have b0:=LG (fun k => !b.getD k false) (fun k => !(b.setIfInBounds j true).getD k false) (aN ops.size) (fun x hx=>by
     have:=congrFun f x;rw[this] at hx
     cases m:b.getD x false<;>simp_all) j (aJ.2 t) (by simp[C]) (by
     have:=congrFun f j
     rw[this];simp)
    omega
 refine T ops.size _ J _ (by simp) ?_ (fun j o z u=>?_) ?_
 ·exact Nat.le_trans (List.countP_le_length) (by simp)
 ·exfalso
  have:(aM ops.size false).getD j false=false:=by
   simp only[aF];split
   ·simp
   rfl
  rw[this] at u;cases u
 have:(fun k=>(aM ops.size false).getD k false)=fun _=>false:=by
  funext k;simp only[aF];split
  ·simp
  rfl
 rw[this];exact h0
def Act.all (a:Act) (V:Nat->Value):List (Nat×Nat)->Act
 | []=>a
 | p::r=>(Act.all a V r).put (some p.2) (V p.1)
theorem Act.all_size (a:Act) (V:Nat->Value) (ds:List (Nat×Nat)):(a.all V ds).tmps.size=a.tmps.size:=by
 induction ds with
 | nil=>rfl
 | cons p r b=>simp[Act.all,Act.put,b]
theorem Act.all_defers (a:Act) (V:Nat->Value) (ds:List (Nat×Nat)):(a.all V ds).defers=a.defers:=by
 induction ds with
 | nil=>rfl
 | cons p r b=>simp[Act.all,Act.put,b]
theorem Act.all_out (a:Act) (V:Nat->Value) (ds:List (Nat×Nat)) (t:Nat) (h:∀p∈ds,p.2≠t):(a.all V ds).tmps[t]?=a.tmps[t]?:=by
 induction ds with
 | nil=>rfl
 | cons p r c =>
   simp only[Act.all,Act.put];rw[aA (h p aL)];exact c fun q b=>h q (List.mem_cons_of_mem _ b)
theorem Act.all_in (a:Act) (V:Nat->Value) (ds:List (Nat×Nat)) (b:ds.Pairwise fun p q=>p.2≠q.2) (p:Nat×Nat) (d:p∈ds) (e:p.2<a.tmps.size):(a.all V ds).tmps[p.2]?=some (V p.1):=by
 induction ds with
 | nil=>cases d
 | cons q r f =>
   simp only[Act.all,Act.put];rw[aH] at b;rcases aB.1 d with rfl | c
   ·rw[aD (by rw[Act.all_size];exact e)]
   rw[aA (b.1 p c)];exact f b.2 c
theorem Act.eval_of {a:Act} {t:Nat} {v:Value} (h:a.tmps[t]?=some v):a.eval (.tmp t)=v:=by
 show a.tmps.getD t undef=v;rw[aC,h];rfl
theorem D3 {id:Nat} {g:Act} {w0:World} (hm:P.follows .mixedOrders=true) (hb:DU ops=true) (ds:List (Nat×Nat)) (hd:ds.Pairwise fun p q=>p.2≠q.2) (c0:ds.Pairwise fun p q=>p.1≠q.1) (U:∀p∈ds,p.2<g.tmps.size) (f0:∀p∈ds,p.1<ops.size)
  (R:∀(i:Nat) (o:Oper),ops[i]?=some o->(∀d,o.dst=some d->(i,d)∈ds)/\(o.dst=none->∀p∈ds,p.1≠i)) (W:(Nat->Bool)->(Nat->Value)->World->Prop) (h0:W (fun _=>false) (fun _=>undef) { w0 with drawn:=w0.drawn+1 })
  (I:∀(L:Nat->Bool) (V:Nat->Value) (i:Nat) (o:Oper) (a:Act) (w:World),(∀(j:Nat) (o:Oper),ops[j]?=some o->L j=true->∀e∈o.after,Region.binds .any e=true->L e.on=true)->W L V w->ops[i]?=some o->L i=false->(∀e∈o.after,Region.binds .any e=true->L e.on=true) ->
    (∀p∈ds,L p.1=true->a.eval (.tmp p.2)=V p.1)->(∀t,(∀p∈ds,p.2≠t)->a.eval (.tmp t)=g.eval (.tmp t)) ->
    ∀K:Act->World->Prop,(∀v w',W (fun k=>k==i||L k) (fun k=>if k=i then v else V k) w'->K (a.put o.dst v) w')->(if Region.wanted o (yielded ops a.tmps)=true then Oper.wp P o a w K Q else K (a.put o.dst undef) w))
  (S:∀(L:Nat->Bool) (V:Nat->Value) (w:World),(∀i,i<ops.size->L i=true)->W L V w->Q .normal (g.all V ds) w):(Code.region id ops true).wp P Q g w0:=by
 refine NO hm hb (fun L a w=>a.tmps.size=g.tmps.size/\a.defers=g.defers/\(∀t,(∀p∈ds,p.2≠t)->a.tmps[t]?=g.tmps[t]?)/\∃V,(∀p∈ds,L p.1=true->a.tmps[p.2]?=some (V p.1))/\W L V w) ⟨rfl,rfl,fun _ _=>rfl,fun _=>undef,fun p _ h=>Bool.noConfusion (h:false=true),h0⟩ ?_ ?_
 ·rintro L i o a w b0 ⟨X,J,M,V,N,Y⟩ ho hL O
  have hs:=I L V i o a w b0 Y ho hL O (fun p c n=>Act.eval_of (N p c n)) (fun t D=>by
   show a.tmps.getD t undef=g.tmps.getD t undef
   rw[aC,aC,M t D])
  unfold wpOp;simp only[ho]
  have hK:∀v w',W (fun k=>k==i||L k) (fun k=>if k=i then v else V k) w'->(fun(A:Act) (w':World)=>A.tmps.size=g.tmps.size/\A.defers=g.defers/\(∀t,(∀p∈ds,p.2≠t)->A.tmps[t]?=g.tmps[t]?)/\∃V,(∀p∈ds,(p.1==i||L p.1)=true->A.tmps[p.2]?=some (V p.1))/\W (fun k=>k==i||L k) V w') (a.put o.dst v) w':=by
   intro v w' hW;obtain⟨d0,e0⟩:=R i o ho
   cases T:o.dst with
   | none =>
     refine⟨X,J,M,_,fun p c n=>?_,hW⟩;have y:p.1≠i:=e0 T p c;have E:(p.1==i)=false:=beq_eq_false_iff_ne.2 y;rw[E,Bool.false_or] at n;rw[if_neg y];exact N p c n
   | some d =>
     have s:=d0 d T;refine⟨by simpa[Act.put] using X,J,fun t D=>?_,_,fun p c n=>?_,hW⟩
     ·simp only[Act.put]
      rw[aA (D (i,d) s)];exact M t D
     simp only[Act.put];by_cases u:p.1=i
     ·have G:p.2=d:=by
       refine Decidable.byContradiction fun y=>?_;have m:p≠(i,d):=fun e=>y (by rw[e])
       have z:∀(l:List (Nat×Nat)),l.Pairwise (fun p q=>p.1≠q.1)->∀p∈l,∀q∈l,p≠q->p.1≠q.1:=by
        intro l n
        induction l with
        | nil=>intro p c;cases c
        | cons x r ih =>
          rw[aH] at n;intro p c q H m;rcases aB.1 c with f | f
          ·rcases aB.1 H with b | b
           ·exact absurd (f.trans b.symm) m
           rw[f];exact n.1 q b
          rcases aB.1 H with b | b
          ·rw[b];exact fun e=>n.1 p f e.symm
          exact ih n.2 p f q b m
       exact z ds c0 p c (i,d) s m u
      rw[G,if_pos u,aD (by rw[X];exact U (i,d) s)]
     have E:(p.1==i)=false:=beq_eq_false_iff_ne.2 u;rw[E,Bool.false_or] at n;rw[if_neg u]
     have G:d≠p.2:=by
      refine fun e=>u ?_;refine Decidable.byContradiction fun y=>?_;have m:p≠(i,d):=fun e=>u (by rw[e])
      have z:∀(l:List (Nat×Nat)),l.Pairwise (fun p q=>p.2≠q.2)->∀p∈l,∀q∈l,p≠q->p.2≠q.2:=by
       intro l n
       induction l with
       | nil=>intro p c;cases c
       | cons x r ih =>
         rw[aH] at n;intro p c q H m;rcases aB.1 c with f | f
         ·rcases aB.1 H with b | b
          ·exact absurd (f.trans b.symm) m
          rw[f];exact n.1 q b
         rcases aB.1 H with b | b
         ·rw[b];exact fun e=>n.1 p f e.symm
         exact ih n.2 p f q b m
      exact z ds hd p c (i,d) s m e.symm
     rw[aA G];exact N p c n
  have B:=hs (fun(A:Act) (w':World)=>A.tmps.size=g.tmps.size/\A.defers=g.defers/\(∀t,(∀p∈ds,p.2≠t)->A.tmps[t]?=g.tmps[t]?)/\∃V,(∀p∈ds,(p.1==i||L p.1)=true->A.tmps[p.2]?=some (V p.1))/\W (fun k=>k==i||L k) V w') hK;by_cases hw:Region.wanted o (yielded ops a.tmps)=true
  ·rw[if_pos hw] at B ⊢;exact .inl B
  rw[if_neg hw] at B ⊢;exact B
 rintro L a w ⟨X,J,M,V,N,Y⟩ C
 have Z:a=g.all V ds:=by
  have D:a.tmps=(g.all V ds).tmps:=by
   refine Array.ext_getElem? fun t=>?_;by_cases hx:∃p∈ds,p.2=t
   ·obtain⟨p,c,rfl⟩:=hx
    rw[N p c (C _ (f0 p c)),Act.all_in g V ds hd p c (U p c)]
   rw[M t fun p c e=>hx ⟨p,c,e⟩,Act.all_out g V ds t fun p c e=>hx ⟨p,c,e⟩]
  obtain⟨g0,i0⟩:=a;have F:=Act.all_defers g V ds
  cases H:g.all V ds with
  | mk q1 q2 =>
    rw[H] at D F;simp only at D F J;rw[D,J,F]
 rw[Z];exact S L V w C Y
end
end Go
