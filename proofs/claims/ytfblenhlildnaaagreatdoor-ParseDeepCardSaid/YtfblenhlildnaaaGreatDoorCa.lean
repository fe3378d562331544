/- Ca Db -/
import Derived.Deep.RegionHeld
import Derived.OrdersHeld
namespace Go
theorem sP {c:Type}:(∀(l:List c) (i:Nat) (h:i<l.toArray.size),l.toArray[i]=l[i]'(by simpa using h))/\(∀(a:c) (l:List c) (h:0<(a::l).length),(a::l)[0]=a)/\(∀(a:c) (l:List c) (i:Nat) (h:i+1<(a::l).length),(a::l)[i+1]=l[i]'(by simpa using h)) /\
  (∀(l:List c) (i:Nat) (a:c),l.toArray.setIfInBounds i a=(l.set i a).toArray)/\(∀(b:c) (l:List c) (a:c),(b::l).set 0 a=a::l)/\(∀(b:c) (l:List c) (n:Nat) (a:c),(b::l).set (n+1) a=b::l.set n a) :=
 ⟨fun _ _ _=>List.getElem_toArray _,fun _ _ _=>rfl,fun _ _ _ _=>rfl,fun _ _ _=>List.setIfInBounds_toArray _ _ _,fun _ _ _=>rfl,fun _ _ _ _=>rfl⟩
section
variable {P:Program} {ops:Array Oper} {Q:Exit->Act->World->Prop} {md:Region.Mode} {S:World->Prop} {k:Nat}
def Kp (P:Program) (md:Region.Mode) (ops:Array Oper) (Q:Exit->Act->World->Prop) (S:World->Prop) (k:Nat):Nat->Array Bool->Act->World->Prop
 | 0,listed,a,w=>Region.ready md ops listed=[]/\Q .normal a w
 | fuel+1,listed,a,w =>
   (Region.ready md ops listed=[]->Q .normal a w) /\
   ∀i∈Region.ready md ops listed,wpOp P ops Q i (fun c b=>(i=k\/S b)/\Kp P md ops Q S k fuel (listed.setIfInBounds i true) c b) a w
theorem TR:∀(b:Nat) (c:Array Bool) (a:Act) (w:World),Kp P md ops Q S k b c a w->wpAny P md ops Q b c a w
 | 0,_,_,_,h=>h
 | b+1,_,_,_,h=>⟨h.1,fun i f=>wpOp_mono (fun d g e=>TR b _ d g e.2) (h.2 i f)⟩
def PG (md:Region.Mode) (ops:Array Oper) (k i:Nat):Bool:=(ops[k]?).any fun o=>o.after.any fun e=>Region.binds md e&&e.on==i
theorem XB {i:Nat} {y:Oper} {v:Value} (L:ops[i]?=some y) (t:∀(j:Nat) (o:Oper) A b,ops[j]?=some o->o.op ≠ .select A b)
  (D:PG md ops k i=true) (U:∀c a w,Q (.panic c) (a.put y.dst v) w->Q (.panic c) a w) :
  ∀(f:Nat) (d:Array Bool) (a:Act) (w:World),
   (∀j z,ops[j]?=some z->j≠i->d.getD j true=false->(∀e∈z.after,Region.binds md e=true->e.on≠i)->y.apart ops z=true) ->
   i∈Region.ready md ops d->YieldsIf P ops S y v a->S w ->
   Kp P md ops Q S k f (d.setIfInBounds i true) (a.put y.dst v) w->Kp P md ops Q S k (f+1) d a w:=by
 intro f
 induction f with
 | zero =>
   intro d a w _ x G B H;refine⟨fun h=>(by rw[h] at x;cases x),fun j F=>?_⟩;by_cases g:j=i
   ·subst g;exact G.wpOp L B ⟨.inr B,H⟩
   have:=ready_mono F g;rw[H.1] at this;cases this
 | succ f W =>
   intro d a w l x G B H;refine⟨fun h=>(by rw[h] at x;cases x),fun j F=>?_⟩;by_cases g:j=i
   ·subst g;exact G.wpOp L B ⟨.inr B,H⟩
   have u:=H.2 j (ready_mono F g);obtain⟨r,z,p,C⟩:=mem_ready.1 F
   have s:∀e∈z.after,Region.binds md e=true->e.on≠i:=fun e J V K=>by
    have u:=C e J V;have O:=(mem_ready.1 x).1;rw[K] at u;rcases Nat.lt_or_ge i d.size with I | I
    ·simp[I] at O u;rw[O] at u;cases u
    simp[Array.getElem?_eq_none I] at u
   have n:j≠k:=fun e=>by
    subst e;unfold PG at D;rw[p,Option.any_some,Array.any_eq_true'] at D;obtain⟨e,J,q⟩:=D;simp only[Bool.and_eq_true,beq_iff_eq] at q;exact s e J q.1 q.2
   have T:=wpOp_putIf p (l j z p g r s) (fun A b=>t i y A b L) (fun A b=>t j z A b p) U G u
   have m:∀k ok,ops[k]?=some ok->k≠i->(d.setIfInBounds j true).getD k true=false ->
     (∀e∈ok.after,Region.binds md e=true->e.on≠i)->y.apart ops ok=true:=fun k ok D M E N=>by
    refine l k ok D M ?_ N;by_cases n:j=k
    ·subst n;exact r
    rw[getD_set_ne true n] at E;exact E
   refine wpOp_mono (fun R X q=>⟨q.2.1,W (d.setIfInBounds j true) R X m (ready_mono x (Ne.symm g)) q.1 (q.2.1.resolve_left n) ?_⟩) T;rw[Array.setIfInBounds_comm _ _ g];exact q.2.2
theorem BT {i:Nat} {f:Oper} {v:Value} {d:Nat} {b:Array Bool} {a:Act} {w:World} (g:ops[i]?=some f)
  (e:(Region.noSelect ops&&Region.free md ops b i&&(Region.ready md ops b).contains i&&PG md ops k i)=true)
  (j:∀c a w,Q (.panic c) (a.put f.dst v) w->Q (.panic c) a w) (m:YieldsIf P ops S f v a) (l:S w)
  (h:Kp P md ops Q S k d (b.setIfInBounds i true) (a.put f.dst v) w):Kp P md ops Q S k (d+1) b a w:=by
 simp only[Bool.and_eq_true] at e;exact XB g (Region.noSelect_spec e.1.1.1) e.2 j d b a w (Region.free_spec g e.1.1.2) (by simpa using e.1.2) m l h
def BS (P:Program) (md:Region.Mode) (ops:Array Oper) (Q:Exit->Act->World->Prop) (S:World->Prop) (k c:Nat) (b:Array Bool) (a:Act) (w:World) (rs:List Nat):Prop :=
 ∀i∈rs,wpOp P ops Q i (fun e d=>(i=k\/S d)/\Kp P md ops Q S k c (b.setIfInBounds i true) e d) a w
theorem BS.nil {c:Nat} {b:Array Bool} {a:Act} {w:World}:BS P md ops Q S k c b a w []:=fun _ h=>by cases h
theorem BS.cons {c:Nat} {b:Array Bool} {a:Act} {w:World} {i:Nat} {o:Oper} {rs:List Nat} (m:ops[i]?=some o) (p:Region.wanted o (yielded ops a.tmps)=true)
  (h:∀d:Act->World->Prop,Shut (∀a w,(i=k\/S w)->Kp P md ops Q S k c (b.setIfInBounds i true) a w->d a w)->Oper.wp P o a w d Q)
  (n:BS P md ops Q S k c b a w rs):BS P md ops Q S k c b a w (i::rs):=fun j e=>by
 rcases List.mem_cons.1 e with rfl | e
 ·exact wpOp_step m (fun d f=>by rw[if_pos p];exact h d (fun a w g l=>f a w ⟨g,l⟩))
 exact n j e
theorem BW {rs:List Nat} {c:Nat} {b:Array Bool} {a:Act} {w:World} (e:Region.ready md ops b=rs) (d:(rs==[])=false)
  (h:BS P md ops Q S k c b a w rs):Kp P md ops Q S k (c+1) b a w :=
 ⟨fun f=>(by rw[<- e,f] at d;cases d),e▸h⟩
theorem AbU (i:Nat) (v:Value) {e:Oper} {d:Nat} {b:Array Bool} {a:Act} {w:World} (l:ops[i]?=some e) (n:∀w,S w->(execOp a.eval e).run P w = .ok (.value v) w) (g:S w)
  (h:Kp P md ops Q S k d (b.setIfInBounds i true) (a.put e.dst v) w) (m:Region.wanted e (yielded ops a.tmps)=true:=by rfl)
  (j:(Region.noSelect ops&&Region.free md ops b i&&(Region.ready md ops b).contains i&&PG md ops k i)=true:=by kernel_rfl) (f:∀c a w,Q (.panic c) (a.put e.dst v) w->Q (.panic c) a w:=by exact fun _ _ _ h=>h):Kp P md ops Q S k (d+1) b a w :=
 BT l j f (Or.inl ⟨m,n⟩) g h
theorem AbP (i:Nat) (v:Value) {e:Oper} {d:Nat} {b:Array Bool} {a:Act} {w:World} (l:ops[i]?=some e) (f:S w)
  (h:Kp P md ops Q S k d (b.setIfInBounds i true) (a.put e.dst v) w) (n:∀w,S w->(execOp a.eval e).run P w = .ok (.value v) w:=by intro w f;go_simp) (m:Region.wanted e (yielded ops a.tmps)=true:=by rfl)
  (j:(Region.noSelect ops&&Region.free md ops b i&&(Region.ready md ops b).contains i&&PG md ops k i)=true:=by kernel_rfl) (g:∀c a w,Q (.panic c) (a.put e.dst v) w->Q (.panic c) a w:=by exact fun _ _ _ h=>h):Kp P md ops Q S k (d+1) b a w :=
 BT l j g (Or.inl ⟨m,n⟩) f h
theorem AaC (i:Nat) {o:Oper} {c:Nat} {b:Array Bool} {a:Act} {w:World} (e:ops[i]?=some o)
  (h:∀d:Act->World->Prop,Shut (∀a w,(i=k\/S w)->Kp P md ops Q S k c (b.setIfInBounds i true) a w->d a w)->Oper.wp P o a w d Q)
  (f:Region.ready md ops b=[i]:=by kernel_rfl) (g:Region.wanted o (yielded ops a.tmps)=true:=by rfl):Kp P md ops Q S k (c+1) b a w :=
 BW f rfl (BS.cons e g h BS.nil)
theorem Aal {b:Array Bool} {a:Act} {w:World} (d:Region.ready md ops b=[]) (h:Q .normal a w):∀c,Kp P md ops Q S k c b a w
 | 0=>⟨d,h⟩
 | _+1=>⟨fun _=>h,by rw[d];simp⟩
theorem Abt {id:Nat} {a:Act} {w:World} (S:World->Prop) (k:Nat) (b:P.follows .mixedOrders=true)
 (h:Kp P .any ops Q S k ops.size (Array.replicate ops.size false) a w.drew):(Code.region id ops true).wp P Q a w:=wp_region_any b (TR _ _ _ _ h)
end
section
variable {P:Program} {ops:Array Oper} {Q:Exit->Act->World->Prop} {md:Region.Mode} {S:World->Prop} {k:Nat}
def Hn (P:Program) (md:Region.Mode) (ops:Array Oper) (Q:Exit->Act->World->Prop) (S:World->Prop) (k:Nat):Nat->Array Bool->Act->World->Prop
 | 0,listed,a,w=>Region.ready md ops listed=[]/\Q .normal a w
 | fuel+1,listed,a,w =>
   (Region.ready md ops listed=[]->Q .normal a w) /\
   ∀i∈Region.ready md ops listed,wpOp P ops Q i (fun c b=>(k<=i\/S b)/\Hn P md ops Q S k fuel (listed.setIfInBounds i true) c b) a w
def CB (P:Program) (md:Region.Mode) (ops:Array Oper) (Q:Exit->Act->World->Prop) (S:World->Prop) (k c:Nat) (b:Array Bool) (a:Act) (w:World) (rs:List Nat):Prop :=
 ∀i∈rs,wpOp P ops Q i (fun e d=>(k<=i\/S d)/\Hn P md ops Q S k c (b.setIfInBounds i true) e d) a w
theorem CB.nil {c:Nat} {b:Array Bool} {a:Act} {w:World}:CB P md ops Q S k c b a w []:=fun _ h=>by cases h
theorem CB.cons {c:Nat} {b:Array Bool} {a:Act} {w:World} {i:Nat} {o:Oper} {rs:List Nat} (m:ops[i]?=some o) (p:Region.wanted o (yielded ops a.tmps)=true)
  (h:∀d:Act->World->Prop,Shut (∀a w,(k<=i\/S w)->Hn P md ops Q S k c (b.setIfInBounds i true) a w->d a w)->Oper.wp P o a w d Q)
  (n:CB P md ops Q S k c b a w rs):CB P md ops Q S k c b a w (i::rs):=fun j e=>by
 rcases List.mem_cons.1 e with rfl | e
 ·exact wpOp_step m (fun d f=>by rw[if_pos p];exact h d (fun a w g l=>f a w ⟨g,l⟩))
 exact n j e
end
end Go
