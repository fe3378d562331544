/- Ca Db -/
import Derived.Deep.RegionHeld
import Derived.OrdersHeld
open Array renaming getElem?_eq_none->aA,setIfInBounds_comm->aC,any_eq_true'->aE,replicate->aG
open Bool renaming and_eq_true->aB
open Nat renaming lt_or_ge->aD
namespace Go
section
variable {P:Program} {ops:Array Oper} {Q:Exit->Act->World->Prop} {md:Region.Mode} {S:World->Prop} {k:Nat}
def Kp (P:Program) (md:Region.Mode) (ops:Array Oper) (Q:Exit->Act->World->Prop) (S:World->Prop) (k:Nat):Nat->Array Bool->Act->World->Prop
 | 0,listed,a,w=>Region.ready md ops listed=[]/\Q .normal a w
 | fuel+1,listed,a,w =>
   (Region.ready md ops listed=[]->Q .normal a w) /\
   ∀i∈Region.ready md ops listed,wpOp P ops Q i (fun c b=>(i=k\/S b)/\Kp P md ops Q S k fuel (listed.setIfInBounds i true) c b) a w
theorem TR:∀(b:Nat) (c:Array Bool) (a:Act) (w:World),Kp P md ops Q S k b c a w->wpAny P md ops Q b c a w
 | 0,_,_,_,h=>h
 | b+1,_,_,_,h=>⟨h.1,fun i f=>wpOp_mono (fun d g e=>TR b _ d g e.2) (h.2 i f)⟩
def PG (md:Region.Mode) (ops:Array Oper) (k i:Nat):Bool:=(ops[k]?).any fun o=>o.after.any fun e=>Region.binds md e&&e.on==i
theorem XB {i:Nat} {y:Oper} {v:Value} (L:ops[i]?=some y) (t:∀(j:Nat) (o:Oper) A b,ops[j]?=some o->o.op ≠ .select A b)
  (D:PG md ops k i=true) (U:∀c a w,Q (.panic c) (a.put y.dst v) w->Q (.panic c) a w) :
  ∀(f:Nat) (d:Array Bool) (a:Act) (w:World),
   (∀j z,ops[j]?=some z->j≠i->d.getD j true=false->(∀e∈z.after,Region.binds md e=true->e.on≠i)->y.apart ops z=true) ->
   i∈Region.ready md ops d->YieldsIf P ops S y v a->S w ->
   Kp P md ops Q S k f (d.setIfInBounds i true) (a.put y.dst v) w->Kp P md ops Q S k (f+1) d a w:=by
 intro f
 induction f with
 | zero =>
   intro d a w _ x G B H;refine⟨fun h=>(by rw[h] at x;cases x),fun j F=>?_⟩;by_cases g:j=i
   ·subst g;exact G.wpOp L B ⟨.inr B,H⟩
   have:=ready_mono F g;rw[H.1] at this;cases this
 | succ f W =>
   intro d a w l x G B H;refine⟨fun h=>(by rw[h] at x;cases x),fun j F=>?_⟩;by_cases g:j=i
   ·subst g;exact G.wpOp L B ⟨.inr B,H⟩
   have u:=H.2 j (ready_mono F g);obtain⟨r,z,p,C⟩:=mem_ready.1 F
   have s:∀e∈z.after,Region.binds md e=true->e.on≠i:=fun e J V K=>by
    have u:=C e J V;have O:=(mem_ready.1 x).1;rw[K] at u;rcases aD i d.size with I | I
    ·simp[I] at O u;rw[O] at u;cases u
    simp[aA I] at u
   have n:j≠k:=fun e=>by
    subst e;unfold PG at D;rw[p,Option.any_some,aE] at D;obtain⟨e,J,q⟩:=D;simp only[aB,beq_iff_eq] at q;exact s e J q.1 q.2
   have T:=wpOp_putIf p (l j z p g r s) (fun A b=>t i y A b L) (fun A b=>t j z A b p) U G u
   have m:∀k ok,ops[k]?=some ok->k≠i->(d.setIfInBounds j true).getD k true=false ->
     (∀e∈ok.after,Region.binds md e=true->e.on≠i)->y.apart ops ok=true:=fun k ok D M E N=>by
    refine l k ok D M ?_ N;by_cases n:j=k
    ·subst n;exact r
    rw[getD_set_ne true n] at E;exact E
   refine wpOp_mono (fun R X q=>⟨q.2.1,W (d.setIfInBounds j true) R X m (ready_mono x (Ne.symm g)) q.1 (q.2.1.resolve_left n) ?_⟩) T;rw[aC _ _ g];exact q.2.2
theorem BT {i:Nat} {f:Oper} {v:Value} {d:Nat} {b:Array Bool} {a:Act} {w:World} (g:ops[i]?=some f)
  (e:(Region.noSelect ops&&Region.free md ops b i&&(Region.ready md ops b).contains i&&PG md ops k i)=true)
  (j:∀c a w,Q (.panic c) (a.put f.dst v) w->Q (.panic c) a w) (m:YieldsIf P ops S f v a) (l:S w)
  (h:Kp P md ops Q S k d (b.setIfInBounds i true) (a.put f.dst v) w):Kp P md ops Q S k (d+1) b a w:=by
 simp only[aB] at e;exact XB g (Region.noSelect_spec e.1.1.1) e.2 j d b a w (Region.free_spec g e.1.1.2) (by simpa using e.1.2) m l h
def BS (P:Program) (md:Region.Mode) (ops:Array Oper) (Q:Exit->Act->World->Prop) (S:World->Prop) (k c:Nat) (b:Array Bool) (a:Act) (w:World) (rs:List Nat):Prop :=
 ∀i∈rs,wpOp P ops Q i (fun e d=>(i=k\/S d)/\Kp P md ops Q S k c (b.setIfInBounds i true) e d) a w
theorem BS.nil {c:Nat} {b:Array Bool} {a:Act} {w:World}:BS P md ops Q S k c b a w []:=fun _ h=>by cases h
theorem BS.cons {c:Nat} {b:Array Bool} {a:Act} {w:World} {i:Nat} {o:Oper} {rs:List Nat} (m:ops[i]?=some o) (p:Region.wanted o (yielded ops a.tmps)=true)
  (h:∀d:Act->World->Prop,Shut (∀a w,(i=k\/S w)->Kp P md ops Q S k c (b.setIfInBounds i true) a w->d a w)->Oper.wp P o a w d Q)
  (n:BS P md ops Q S k c b a w rs):BS P md ops Q S k c b a w (i::rs):=fun j e=>by
 rcases List.mem_cons.1 e with rfl | e
 ·exact wpOp_step m (fun d f=>by rw[if_pos p];exact h d (fun a w g l=>f a w ⟨g,l⟩))
 exact n j e
theorem BW {rs:List Nat} {c:Nat} {b:Array Bool} {a:Act} {w:World} (e:Region.ready md ops b=rs) (d:(rs==[])=false)
  (h:BS P md ops Q S k c b a w rs):Kp P md ops Q S k (c+1) b a w :=
 ⟨fun f=>(by rw[<- e,f] at d;cases d),e▸h⟩
theorem Aal {b:Array Bool} {a:Act} {w:World} (d:Region.ready md ops b=[]) (h:Q .normal a w):∀c,Kp P md ops Q S k c b a w
 | 0=>⟨d,h⟩
 | _+1=>⟨fun _=>h,by rw[d];simp⟩
theorem E1 {id:Nat} {a:Act} {w:World} (S:World->Prop) (k:Nat) (b:P.follows .mixedOrders=true)
 (h:Kp P .any ops Q S k ops.size (aG ops.size false) a w.drew):(Code.region id ops true).wp P Q a w:=wp_region_any b (TR _ _ _ _ h)
end
section
variable {P:Program} {ops:Array Oper} {Q:Exit->Act->World->Prop} {md:Region.Mode} {S:World->Prop} {k:Nat}
def Hn (P:Program) (md:Region.Mode) (ops:Array Oper) (Q:Exit->Act->World->Prop) (S:World->Prop) (k:Nat):Nat->Array Bool->Act->World->Prop
 | 0,listed,a,w=>Region.ready md ops listed=[]/\Q .normal a w
 | fuel+1,listed,a,w =>
   (Region.ready md ops listed=[]->Q .normal a w) /\
   ∀i∈Region.ready md ops listed,wpOp P ops Q i (fun c b=>(k<=i\/S b)/\Hn P md ops Q S k fuel (listed.setIfInBounds i true) c b) a w
theorem TS:∀(b:Nat) (c:Array Bool) (a:Act) (w:World),Hn P md ops Q S k b c a w->wpAny P md ops Q b c a w
 | 0,_,_,_,h=>h
 | b+1,_,_,_,h=>⟨h.1,fun i f=>wpOp_mono (fun d g e=>TS b _ d g e.2) (h.2 i f)⟩
theorem XC {i:Nat} {A:Oper} {v:Value} (L:ops[i]?=some A) (u:∀(j:Nat) (o:Oper) B b,ops[j]?=some o->o.op ≠ .select B b)
  (y:∀j n,ops[j]?=some n->k<=j->PG md ops j i=true) (U:∀c a w,Q (.panic c) (a.put A.dst v) w->Q (.panic c) a w) :
  ∀(f:Nat) (d:Array Bool) (a:Act) (w:World),
   (∀j n,ops[j]?=some n->j≠i->d.getD j true=false->(∀e∈n.after,Region.binds md e=true->e.on≠i)->A.apart ops n=true) ->
   i∈Region.ready md ops d->YieldsIf P ops S A v a->S w ->
   Hn P md ops Q S k f (d.setIfInBounds i true) (a.put A.dst v) w->Hn P md ops Q S k (f+1) d a w:=by
 intro f
 induction f with
 | zero =>
   intro d a w _ z G C H;refine⟨fun h=>(by rw[h] at z;cases z),fun j F=>?_⟩;by_cases g:j=i
   ·subst g;exact G.wpOp L C ⟨.inr C,H⟩
   have:=ready_mono F g;rw[H.1] at this;cases this
 | succ f W =>
   intro d a w l z G C H;refine⟨fun h=>(by rw[h] at z;cases z),fun j F=>?_⟩;by_cases g:j=i
   ·subst g;exact G.wpOp L C ⟨.inr C,H⟩
   have x:=H.2 j (ready_mono F g);obtain⟨s,n,m,D⟩:=mem_ready.1 F
   have t:∀e∈n.after,Region.binds md e=true->e.on≠i:=fun e J V K=>by
    have x:=D e J V;have O:=(mem_ready.1 z).1;rw[K] at x;rcases aD i d.size with I | I
    ·simp[I] at O x;rw[O] at x;cases x
    simp[aA I] at x
   have q:¬ k<=j:=fun e=>by
    have y:=y j n m e;unfold PG at y;rw[m,Option.any_some,aE] at y;obtain⟨e,J,r⟩:=y;simp only[aB,beq_iff_eq] at r;exact t e J r.1 r.2
   have T:=wpOp_putIf m (l j n m g s t) (fun B b=>u i A B b L) (fun B b=>u j n B b m) U G x
   have p:∀k ok,ops[k]?=some ok->k≠i->(d.setIfInBounds j true).getD k true=false ->
     (∀e∈ok.after,Region.binds md e=true->e.on≠i)->A.apart ops ok=true:=fun k ok y M E N=>by
    refine l k ok y M ?_ N;by_cases q:j=k
    ·subst q;exact s
    rw[getD_set_ne true q] at E;exact E
   refine wpOp_mono (fun R X r=>⟨r.2.1,W (d.setIfInBounds j true) R X p (ready_mono z (Ne.symm g)) r.1 (r.2.1.resolve_left q) ?_⟩) T;rw[aC _ _ g];exact r.2.2
theorem Hv {i:Nat} {g:Oper} {v:Value} {d:Nat} {b:Array Bool} {a:Act} {w:World} (l:ops[i]?=some g)
  (f:(Region.noSelect ops&&Region.free md ops b i&&(Region.ready md ops b).contains i&&(List.range ops.size).all fun j=>decide (j<k)||PG md ops j i)=true)
  (n:∀c a w,Q (.panic c) (a.put g.dst v) w->Q (.panic c) a w) (r:YieldsIf P ops S g v a) (o:S w)
  (h:Hn P md ops Q S k d (b.setIfInBounds i true) (a.put g.dst v) w):Hn P md ops Q S k (d+1) b a w:=by
 simp only[aB] at f
 exact XC l (Region.noSelect_spec f.1.1.1) (fun j s m p=>by
  have q:j<ops.size:=by
   rcases aD j ops.size with h | h
   ·exact h
   rw[aA h] at m;cases m
  have e:=List.all_eq_true.1 f.2 j (List.mem_range.2 q);simp only[Bool.or_eq_true,decide_eq_true_eq] at e;rcases e with e | e
  ·omega
  exact e) n d b a w (Region.free_spec l f.1.1.2) (by simpa using f.1.2) r o h
theorem U2 {i:Nat} {u:Oper} {v:Value} (J:ops[i]?=some u) (q:∀(j:Nat) (o:Oper) y b,ops[j]?=some o->o.op ≠ .select y b)
  (n:k<=i) (O:∀c a w,Q (.panic c) (a.put u.dst v) w->Q (.panic c) a w) :
  ∀(f:Nat) (d:Array Bool) (a:Act) (w:World),
   (∀j x,ops[j]?=some x->j≠i->d.getD j true=false->(∀e∈x.after,Region.binds md e=true->e.on≠i)->u.apart ops x=true) ->
   i∈Region.ready md ops d->YieldsIf P ops (fun _=>True) u v a ->
   Hn P md ops Q S k f (d.setIfInBounds i true) (a.put u.dst v) w->Hn P md ops Q S k (f+1) d a w:=by
 intro f
 induction f with
 | zero =>
   intro d a w _ t E H;refine⟨fun h=>(by rw[h] at t;cases t),fun j D=>?_⟩;by_cases g:j=i
   ·subst g;exact E.wpOp J trivial ⟨.inl n,H⟩
   have:=ready_mono D g;rw[H.1] at this;cases this
 | succ f V =>
   intro d a w l t E H;refine⟨fun h=>(by rw[h] at t;cases t),fun j D=>?_⟩;by_cases g:j=i
   ·subst g;exact E.wpOp J trivial ⟨.inl n,H⟩
   have r:=H.2 j (ready_mono D g);obtain⟨p,x,s,z⟩:=mem_ready.1 D
   have B:∀e∈x.after,Region.binds md e=true->e.on≠i:=fun e T R I=>by
    have r:=z e T R;have L:=(mem_ready.1 t).1;rw[I] at r;rcases aD i d.size with F | F
    ·simp[F] at L r;rw[L] at r;cases r
    simp[aA F] at r
   have N:=wpOp_putIf s (l j x s g p B) (fun y b=>q i u y b J) (fun y b=>q j x y b s) O E r
   have m:∀k ok,ops[k]?=some ok->k≠i->(d.setIfInBounds j true).getD k true=false ->
     (∀e∈ok.after,Region.binds md e=true->e.on≠i)->u.apart ops ok=true:=fun k ok U n C K=>by
    refine l k ok U n ?_ K;by_cases A:j=k
    ·subst A;exact p
    rw[getD_set_ne true A] at C;exact C
   refine wpOp_mono (fun M W G=>⟨G.2.1,V (d.setIfInBounds j true) M W m (ready_mono t (Ne.symm g)) G.1 ?_⟩) N;rw[aC _ _ g];exact G.2.2
theorem F4 {i:Nat} {f:Oper} {v:Value} {d:Nat} {b:Array Bool} {a:Act} {w:World} (g:ops[i]?=some f)
  (e:(Region.noSelect ops&&Region.free md ops b i&&(Region.ready md ops b).contains i&&decide (k<=i))=true)
  (j:∀c a w,Q (.panic c) (a.put f.dst v) w->Q (.panic c) a w) (l:YieldsIf P ops (fun _=>True) f v a)
  (h:Hn P md ops Q S k d (b.setIfInBounds i true) (a.put f.dst v) w):Hn P md ops Q S k (d+1) b a w:=by
 simp only[aB,decide_eq_true_eq] at e;exact U2 g (Region.noSelect_spec e.1.1.1) e.2 j d b a w (Region.free_spec g e.1.1.2) (by simpa using e.1.2) l h
def CB (P:Program) (md:Region.Mode) (ops:Array Oper) (Q:Exit->Act->World->Prop) (S:World->Prop) (k c:Nat) (b:Array Bool) (a:Act) (w:World) (rs:List Nat):Prop :=
 ∀i∈rs,wpOp P ops Q i (fun e d=>(k<=i\/S d)/\Hn P md ops Q S k c (b.setIfInBounds i true) e d) a w
theorem CB.nil {c:Nat} {b:Array Bool} {a:Act} {w:World}:CB P md ops Q S k c b a w []:=fun _ h=>by cases h
theorem CB.cons {c:Nat} {b:Array Bool} {a:Act} {w:World} {i:Nat} {o:Oper} {rs:List Nat} (m:ops[i]?=some o) (p:Region.wanted o (yielded ops a.tmps)=true)
  (h:∀d:Act->World->Prop,Shut (∀a w,(k<=i\/S w)->Hn P md ops Q S k c (b.setIfInBounds i true) a w->d a w)->Oper.wp P o a w d Q)
  (n:CB P md ops Q S k c b a w rs):CB P md ops Q S k c b a w (i::rs):=fun j e=>by
 rcases List.mem_cons.1 e with rfl | e
 ·exact wpOp_step m (fun d f=>by rw[if_pos p];exact h d (fun a w g l=>f a w ⟨g,l⟩))
 exact n j e
theorem EJ {rs:List Nat} {c:Nat} {b:Array Bool} {a:Act} {w:World} (e:Region.ready md ops b=rs) (d:(rs==[])=false)
  (h:CB P md ops Q S k c b a w rs):Hn P md ops Q S k (c+1) b a w :=
 ⟨fun f=>(by rw[<- e,f] at d;cases d),e▸h⟩
theorem K2 {b:Array Bool} {a:Act} {w:World} (d:Region.ready md ops b=[]) (h:Q .normal a w):∀c,Hn P md ops Q S k c b a w
 | 0=>⟨d,h⟩
 | _+1=>⟨fun _=>h,by rw[d];simp⟩
theorem XS {id:Nat} {a:Act} {w:World} (S:World->Prop) (k:Nat) (b:P.follows .mixedOrders=true)
 (h:Hn P .any ops Q S k ops.size (aG ops.size false) a w.drew):(Code.region id ops true).wp P Q a w:=wp_region_any b (TS _ _ _ _ h)
end
end Go
