/- Gs -/
import Derived.Test.YtipfpohlnhmlpaaGreatDoorMm
import Derived.Test.YtipfpohlnhmlpaaGreatDoorNp
import Derived.Test.YtipfpohlnhmlpaaGreatDoorGr
set_option maxRecDepth 100000
set_option maxHeartbeats 4000000
open Array renaming getElem?_eq_some_iff->aA
open Bool renaming noConfusion->aB,false_eq_true->aE,and_eq_true->aF
open Nat renaming le_trans->aC,le_refl->aH
namespace Go
open Go.RowKit
def Oper.shape (o:Oper):Option Tmp×Op×TypeId×Option (Nat×Bool):=(o.dst,o.op,o.type,o.guard)
theorem Cz {a:Array Oper} {S:Array (Option Tmp×Op×TypeId×Option (Nat×Bool))} (h:a.map Oper.shape=S) {i:Nat} {o:Oper} (b:a[i]?=some o):S[i]?=some o.shape:=by
 rw[<- h,Array.getElem?_map,b];rfl
theorem Ac {o:Oper} {d:Option Tmp} {p:Op} {t:TypeId} {g:Option (Nat×Bool)} (h:some (d,p,t,g)=some o.shape):o=⟨d,p,t,o.pos,o.after,g⟩:=by
 obtain⟨a,c,e,x,y,b⟩:=o;simp only[Oper.shape,Option.some.injEq,Prod.mk.injEq] at h;obtain⟨rfl,rfl,rfl,rfl⟩:=h;rfl
def Cc (a:Array Oper) (i k:Nat):Bool:=((a[i]?).map fun o=>o.after.any fun e=>Region.binds .any e&&e.on==k).getD false
theorem Ak {a:Array Oper} {i k:Nat} (h:Cc a i k=true) {o:Oper} (f:a[i]?=some o) {L:Nat->Bool} (c:∀e∈o.after,Region.binds .any e=true->L e.on=true):L k=true:=by
 unfold Cc at h;rw[f,Option.map_some,Option.getD_some,Array.any_eq_true] at h;obtain⟨j,d,b⟩:=h;rw[aF,beq_iff_eq] at b;have:=c o.after[j] (Array.getElem_mem d) b.1;rw[b.2] at this;exact this
theorem AB {a:Array Oper} {i k:Nat} (h:Cc a i k=true) {L:Nat->Bool} (b:∀(j:Nat) (o:Oper),a[j]?=some o->L j=true->∀e∈o.after,Region.binds .any e=true->L e.on=true) (d:L k=false):L i=false:=by
 cases f:L i with
 | false=>rfl
 | true =>
   cases c:a[i]? with
   | none=>unfold Cc at h;rw[c] at h;cases h
   | some o=>rw[Ak h c (b i o c f)] at d;cases d
def PV (a:TypeId) (n0:Nat) (w:World) (v:Value) (ps:List (List UInt8)):Prop:=∃p cs,v = .slice (some ⟨p,0,none⟩) ps.length ps.length/\n0<=p/\w.heap[p]?=some (.cells cs a (0,0))/\∀i t,ps[i]?=some t->w.cell? ⟨p,i,none⟩=some (.string ⟨t.toArray⟩)
def NV (T:TypeId) (P:Int->List UInt8->Nat->Prop) (n0 c:Nat) (w:World) (v:Value):Prop:=∃(k:Int) (nm:List UInt8) (x:Nat) (a:Option Addr) (d b:Nat) (ks:List Tr),v = .agg #[.int .i64 k,.string ⟨nm.toArray⟩,.float .f64 x,.slice a d b,.complex .f64 0 0] /\
 Am T w (n0 <= ·) ks (.slice a d b)/\Tr.All P (.mk k nm x (0,0) ks)/\(Tr.mk k nm x (0,0) ks).wt<=c
structure Dz (T:TypeId) (P:Int->List UInt8->Nat->Prop) (c:Nat) (S:Nat->Prop) (w:World) (f:Fu) (pv kv:Value):Prop where
 ps:∃p,pv = .slice (some ⟨p,0,none⟩) f.ps.length f.ps.length/\S p/\p<w.heap.size/\some p≠kv.ownBlock/\∀i t,f.ps[i]?=some t->w.cell? ⟨p,i,none⟩=some (.string ⟨t.toArray⟩)
 ks:Am T w S f.b.ks kv
 al:Tr.All P f.b
 wt:f.b.wt<=c
 nm:f.nm.length<=24/\f.ps.length<=8/\∀p∈f.ps,p.length<=24
structure GQ (T TF:TypeId) (P:Int->List UInt8->Nat->Prop) (B c:Nat) (Lf:List (Fu×Value×Value)) (fv:Value) (w:World):Prop where
 row:w.ownsRow B TF 8 fv Lf.length (AI Lf)
 k:∀p∈Lf,Dz T P c (fun j=>B<=j/\some j≠fv.ownBlock) w p.1 p.2.1 p.2.2
structure Kp (n0:Nat) (w w':World):Prop where
 size:w.heap.size<=w'.heap.size
 block:∀j,n0<=j->j<w.heap.size->w'.heap[j]?=w.heap[j]?
section
variable {T:TypeId} {P:Int->List UInt8->Nat->Prop} {n0 c:Nat} {w w':World} {v:Value} {ps:List (List UInt8)}
theorem PV.kp {b:TypeId} (h:PV b n0 w v ps) (k:Kp n0 w w'):PV b n0 w' v ps:=by
 obtain⟨p,e,rfl,a,c,f⟩:=h;have d:=(aA.1 c).1;exact⟨p,e,rfl,a,(k.block p a d).trans c,fun i t g=>by rw[World.cell?_of_block (k.block p a d)];exact f i t g⟩
theorem II {S:Nat->Prop} {ks:List Tr} {d:Value} (h:Am T w S ks d) {p:Nat} {cs:Array Value} {c:TypeId} (j:w.heap[p]?=some (.cells cs c (0,0))) (i:c≠T):some p≠d.ownBlock:=by
 cases h with
 | nil=>intro e;cases e
 | row _ L b f g k a n l o q m =>
   intro e;injection e with e;dsimp at e;subst e;rw[j] at a;injection a with a;injection a with _ a;exact i a
theorem NV.kp (h:NV T P n0 c w v) (k:Kp n0 w w'):NV T P n0 c w' v:=by
 obtain⟨kd,nm,x,g,l,i,ks,rfl,a,b,d⟩:=h;exact⟨kd,nm,x,g,l,i,ks,rfl,a.kept k.size (fun j e f=>k.block j e f),b,d⟩
theorem Kp.refl (n0:Nat) (w:World):Kp n0 w w:=⟨aH _,fun _ _ _=>rfl⟩
theorem Kp.below (h:Below w.heap.size w w'):Kp n0 w w':=⟨h.size,fun j _ a=>h.block j a⟩
theorem Kp.only {b:Nat} (h:Ae b w w') (c:b<n0):Kp n0 w w':=⟨h.size,fun j d a=>h.block j a (fun e=>by injection e with e;omega)⟩
theorem Dz.kept {S:Nat->Prop} {f:Fu} {l k:Value} (h:Dz T P c S w f l k) (g:w.heap.size<=w'.heap.size) (e:∀j,S j->j<w.heap.size->w'.heap[j]?=w.heap[j]?):Dz T P c S w' f l k:=by
 obtain⟨⟨p,m,b,d,a,n⟩,o,q,r,s⟩:=h;exact⟨⟨p,m,b,Nat.lt_of_lt_of_le d g,a,fun i t u=>by rw[World.cell?_of_block (e p b d)];exact n i t u⟩,o.kept g e,q,r,s⟩
theorem Dz.mono {S S':Nat->Prop} {f:Fu} {g e:Value} (h:Dz T P c S w f g e) (d:∀j,j<w.heap.size->S j->S' j):Dz T P c S' w f g e:=by
 obtain⟨⟨p,i,k,b,a,l⟩,m,n,o,q⟩:=h;exact⟨⟨p,i,d p b k,b,a,l⟩,m.mono fun j s r=>d j s r,n,o,q⟩
theorem GR.bel {TR:TypeId} {w0:World} {l:Cp} {rb b bg I K:Nat} {L:List (Rl×Value×Value)} {v fv:Value} (h:GR T TR P w0 l rb b bg I K L v fv w) (a:Below w.heap.size w w'):GR T TR P w0 l rb b bg I K L v fv w':=h.step (h.s.keep a) (Ae.of_below b a)
theorem GR.putF {TR:TypeId} {w0:World} {l:Cp} {rb b bg I K:Nat} {L:List (Rl×Value×Value)} {v fv fv':Value} (h:GR T TR P w0 l rb b bg I K L v fv w) (a:Ae bg w (w.setCell ⟨bg,1,none⟩ fv')):GR T TR P w0 l rb b bg I K L v fv' (w.setCell ⟨bg,1,none⟩ fv') where
 s:=h.s.only a h.hbg
 hbg:=h.hbg
 hrb:=h.hrb
 r:=h.r.only (h.r.lt _ rfl) a (by have:=h.hrb;have:=h.hbg;omega)
 g:=by simpa using h.g.set 1 fv' _ rfl
 row:=h.row.kept a (by
  cases q:v.ownBlock with
  | none=>exact .inl rfl
  | some g=>right;intro e;injection e with e;have:=h.own g q;omega)
 k:=fun p o=>by
  obtain⟨d,f,i⟩:=h.k p o;have c:∀j,(bg<j/\some j≠v.ownBlock)->j<w.heap.size->(w.setCell ⟨bg,1,none⟩ fv').heap[j]?=w.heap[j]?:=fun j m n=>a.block j n (fun e=>by injection e with e;have:=m.1;omega);exact⟨d.kept a.size c,f.kept a.size c,i⟩
structure PG (T TR:TypeId) (P:Int->List UInt8->Nat->Prop) (w0:World) (l:Cp) (rb b bg I K:Nat) (L:List (Rl×Value×Value)) (v fv:Value) (n0:Nat) (Wk:World):Prop where
 pf:GR T TR P w0 l rb b bg I K L v fv Wk
 n:∀p∈L,Am T Wk (fun j=>(bg<j/\some j≠v.ownBlock)/\j<n0) p.1.ps p.2.1/\Am T Wk (fun j=>(bg<j/\some j≠v.ownBlock)/\j<n0) p.1.b.ks p.2.2
 vn:∀q,v.ownBlock=some q->q<n0
 bn:bg<n0
section
variable {TR:TypeId} {w0:World} {l:Cp} {rb b bg I K:Nat} {L:List (Rl×Value×Value)} {u fv fv':Value}
theorem PG.g (h:PG T TR P w0 l rb b bg I K L u fv n0 w):Af w bg [u,fv]:=h.pf.g
theorem PG.s (h:PG T TR P w0 l rb b bg I K L u fv n0 w):CH w0 l b I w:=h.pf.s
theorem PG.hbg (h:PG T TR P w0 l rb b bg I K L u fv n0 w):b<bg:=h.pf.hbg
theorem PG.lt (h:PG T TR P w0 l rb b bg I K L u fv n0 w):bg<w.heap.size:=h.pf.lt
theorem PG.start (h:GR T TR P w0 l rb b bg I K L u fv w):PG T TR P w0 l rb b bg I K L u fv w.heap.size w :=
 ⟨h,fun p d=>⟨(h.k p d).1.mono fun _ c a=>⟨a,c⟩,(h.k p d).2.1.mono fun _ c a=>⟨a,c⟩⟩,fun q e=>(h.own q e).2,h.lt⟩
theorem PG.step {J:Nat} (h:PG T TR P w0 l rb b bg I K L u fv n0 w) (g:CH w0 l b J w') (a:Ae b w w'):PG T TR P w0 l rb b bg J K L u fv n0 w' :=
 ⟨h.pf.step g a,fun p f=>⟨(h.n p f).1.kept a.size fun j c d=>a.block j d (fun e=>by injection e with e;have:=c.1.1;have:=h.hbg;omega),(h.n p f).2.kept a.size fun j c d=>a.block j d (fun e=>by injection e with e;have:=c.1.1;have:=h.hbg;omega)⟩,h.vn,h.bn⟩
theorem PG.bel (h:PG T TR P w0 l rb b bg I K L u fv n0 w) (a:Below w.heap.size w w'):PG T TR P w0 l rb b bg I K L u fv n0 w':=h.step (h.s.keep a) (Ae.of_below b a)
theorem PG.putF (h:PG T TR P w0 l rb b bg I K L u fv n0 w) (a:Ae bg w (w.setCell ⟨bg,1,none⟩ fv')):PG T TR P w0 l rb b bg I K L u fv' n0 (w.setCell ⟨bg,1,none⟩ fv') :=
 ⟨h.pf.putF a,fun p f=>⟨(h.n p f).1.kept a.size fun j c d=>a.block j d (fun e=>by injection e with e;have:=c.1.1;omega),(h.n p f).2.kept a.size fun j c d=>a.block j d (fun e=>by injection e with e;have:=c.1.1;omega)⟩,h.vn,h.bn⟩
theorem PG.high (h:PG T TR P w0 l rb b bg I K L u fv n0 w) (o:w'.os=w.os/\w'.tape=w.tape/\w'.output=w.output) (D:w.heap.size<=w'.heap.size) (e:∀j,j<n0->j<w.heap.size->w'.heap[j]?=w.heap[j]?) (S:n0<=w.heap.size):PG T TR P w0 l rb b bg I K L u fv n0 w':=by
 have H:=h.bn;have Q:=h.hbg;have R:=h.pf.hrb;obtain⟨i,M,d⟩:=h.s;obtain⟨x,y,f,J⟩:=d.c;have B:w'.heap[b]?=w.heap[b]?:=e b (by omega) (by omega);have N:w0.heap.size<=b:=d.hb
 have t:w'.ownsRow (bg+1) TR 9 u L.length (AW L):=by
  rcases h.pf.row with⟨F,⟨v,E⟩ | ⟨g,z,A,v,E,G,O⟩⟩
  ·exact⟨F,.inl ⟨v,E⟩⟩
  exact⟨F,.inr ⟨g,z,A,v,E,(e g (h.vn g (by rw[v];rfl)) (aA.1 G).1).trans G,O⟩⟩
 have m:∀p∈L,Am T w' (fun j=>(bg<j/\some j≠u.ownBlock)/\j<n0) p.1.ps p.2.1/\Am T w' (fun j=>(bg<j/\some j≠u.ownBlock)/\j<n0) p.1.b.ks p.2.2:=fun p q=>⟨(h.n p q).1.kept D fun j a C=>e j a.2 C,(h.n p q).2.kept D fun j a C=>e j a.2 C⟩;refine⟨⟨⟨i,M,⟨⟨o.1.trans d.below.os,o.2.1.trans d.below.tape,o.2.2.trans d.below.output,aC d.below.size D,fun j a=>(e j (by omega) (by omega)).trans (d.below.block j a)⟩,d.hb,d.row,x,y,f,J.kept B⟩⟩,h.hbg,h.pf.hrb,h.pf.r.kept (e rb (by omega) (by omega)),h.g.kept (e bg H (by omega)),t,fun p q=>⟨(m p q).1.mono fun j _ a=>a.1,(m p q).2.mono fun j _ a=>a.1,(h.pf.k p q).2.2⟩⟩,m,h.vn,h.bn⟩
end
theorem GQ.kp {i:TypeId} {f:List (Fu×Value×Value)} {fv:Value} (h:GQ T i P n0 c f fv w) (k:Kp n0 w w'):GQ T i P n0 c f fv w':=by
 refine⟨?_,fun p r=>(h.k p r).kept k.size fun j o q=>k.block j o.1 q⟩;rcases h.row with⟨l,⟨e,a⟩ | ⟨g,b,d,e,a,m,n⟩⟩
 ·exact⟨l,.inl ⟨e,a⟩⟩
 exact⟨l,.inr ⟨g,b,d,e,a,(k.block g a (aA.1 m).1).trans m,n⟩⟩
theorem Dz.more {a:Nat} {S:Nat->Prop} {f:Fu} {d b:Value} (h:Dz T P c S w f d b) (e:c<=a):Dz T P a S w f d b:=⟨h.ps,h.ks,h.al,aC h.wt e,h.nm⟩
theorem GQ.more {b:TypeId} {d:Nat} {a:List (Fu×Value×Value)} {fv:Value} (h:GQ T b P n0 c a fv w) (e:c<=d):GQ T b P n0 d a fv w:=⟨h.row,fun p f=>(h.k p f).more e⟩
theorem AG {a:Act} {t:Nat} {u:Value} (h:a.eval (.tmp t)=u):a.tmps[t]?.getD undef=u:=by
 rw[<- Array.getD_eq_getD_getElem?];exact h
end
end Go
namespace Go.Proofs.YtipfpohlnhmlpaaGreatDoor
open Go.Proofs.Tryz
open Go.RowKit
theorem A.infoFn:(prog.info? 68).map (fun i=>(i.zero,i.size,i.bytes))=some (some (.agg #[.string ⟨#[]⟩,.slice none 0 0,.int .i64 0,.string ⟨#[]⟩,.float .f64 0,.slice none 0 0,.complex .f64 0 0,.complex .f64 0 0]),8,128):=by kernel_rfl
def U6:Array (Option Tmp×Op×TypeId×Option (Nat×Bool)) :=
 #[(some 84,.fieldAddr 37 (.tmp 4) 1,0,none),(some 85,.load 35 (.tmp 84),35,none),(some 86,.buildSlice 66 2 #[(0,.const (.string ⟨#[112]⟩)),(1,.const (.string ⟨#[113]⟩))],66,none),
   (some 87,.move (.tmp 3),69,none),(some 88,.call { callee:=.value (.func 37),args := #[.tmp 87,.const (.int .i64 2)],argTypes := #[69,3] },60,none),
   (some 89,.build 68 #[(0,.const (.string ⟨#[102]⟩)),(1,.tmp 86),(2,.tmp 88)],68,none),(some 90,.buildSlice 35 1 #[(0,.tmp 89)],35,none),
   (some 91,.call { callee:=.builtin .append,args := #[.tmp 85,.tmp 90],argTypes := #[35,35] },35,none),(some 92,.fieldAddr 37 (.tmp 4) 1,0,none),(none,.store 35 (.tmp 92) (.tmp 91),0,none)]
def Rg:List (Nat×Nat):=[(0,84),(1,85),(2,86),(3,87),(4,88),(5,89),(6,90),(7,91),(8,92)]
structure WU (n0 cb bg b:Nat) (L:Nat->Bool) (V:Nat->Value) (w:World):Prop where
 sz:bg<n0/\n0<=w.heap.size
 v0:L 0=true->V 0 = .pointer (some ⟨bg,1,none⟩)
 v1:L 1=true->V 1 = .slice none 0 0
 v2:L 2=true->PV 9 n0 w (V 2) [[112],[113]]
 v3:L 3=true->V 3 = .pointer (some ⟨b,0,none⟩)
 v4:L 4=true->NV 60 A0 n0 cb w (V 4)
 v5:L 5=true->∃f pv ka kn kc,Dz 60 A0 cb (n0 <= ·) w f pv (.slice ka kn kc)/\V 5 = .agg #[.string ⟨f.nm.toArray⟩,pv,.int .i64 f.b.kd,.string ⟨f.b.nm.toArray⟩,.float .f64 f.b.x,.slice ka kn kc,.complex .f64 f.b.z.1 f.b.z.2,.complex .f64 f.z.1 f.z.2]
 v6:L 6=true->∃p f pv ka kn kc,Dz 60 A0 cb (n0 <= ·) w f pv (.slice ka kn kc)/\V 6 = .slice (some ⟨p,0,none⟩) 1 1/\n0<=p/\w.heap[p]?=some (.cells (AI [(f,pv,.slice ka kn kc)]).toArray 68 (0,0))
 v7:L 7=true->∃f pv kv,GQ 60 68 A0 n0 cb [(f,pv,kv)] (V 7) w
 v8:L 8=true->V 8 = .pointer (some ⟨bg,1,none⟩)
theorem WU.kp {o bg b n0:Nat} {L:Nat->Bool} {V:Nat->Value} {w w':World} (h:WU n0 o bg b L V w) (k:Kp n0 w w') (s:L 7=false):WU n0 o bg b L V w' where
 sz:=⟨h.sz.1,aC h.sz.2 k.size⟩
 v0:=h.v0
 v1:=h.v1
 v2 e:=(h.v2 e).kp k
 v3:=h.v3
 v4 e:=(h.v4 e).kp k
 v5 e:=by
  obtain⟨f,n,i,m,l,a,c⟩:=h.v5 e;exact⟨f,n,i,m,l,a.kept k.size (fun j d g=>k.block j d g),c⟩
 v6 e:=by
  obtain⟨p,f,n,i,m,l,a,c,q,r⟩:=h.v6 e;exact⟨p,f,n,i,m,l,a.kept k.size (fun j d g=>k.block j d g),c,q,(k.block p q (aA.1 r).1).trans r⟩
 v7 e:=by rw[s] at e;cases e
 v8:=h.v8
theorem Wp {Q:Exit->Act->World->Prop} {id:Nat} {y:Array Oper} (I:y.map Oper.shape=U6) (hb:DU y=true) (hw:(Cc y 1 0&&(Cc y 4 3&&(Cc y 5 2&&(Cc y 5 4&&(Cc y 6 5&&(Cc y 7 1&&Cc y 7 6))))))=true) (f0:(List.range 9).all (Cc y 9)=true) (t0:Cc y 7 4=true)
  {W:Act} {T:World} (o0:W.tmps.size=154) (w0:World) (l:Cp) (rb b bg J O K n0:Nat) (U:List (Rl×Value×Value)) (v:Value) (h3:W.eval (.tmp 3) = .pointer (some ⟨b,0,none⟩)) (h4:W.eval (.tmp 4) = .pointer (some ⟨bg,0,none⟩))
  (hP:PG 60 62 A0 w0 l rb b bg J K U v (.slice none 0 0) n0 T) (i0:VV w0 l b 3 O) (hJ:J+O+10000<=1099511627776)
  (Y:∀V w f M kv,GQ 60 68 A0 T.heap.size O [(f,M,kv)] (V 7) w->PG 60 62 A0 w0 l rb b bg (J+O) K U v (V 7) n0 w->T.heap.size<=w.heap.size->Q .normal (W.all V Rg) w):(Code.region id y true).wp prog Q W T:=by
 have hn:y.size=10:=by have:=congrArg Array.size I;simpa[U6] using this
 obtain⟨j0,k0,x0,y0,z0⟩:=info_parts A.infoFn;refine D3 (by kernel_rfl) hb Rg (by decide) (by decide) (fun p hp=>?_) (fun p hp=>?_) (fun i o E=>?_) (fun L V w=>PG 60 62 A0 w0 l rb b bg (if L 4=true then J+O else J) K U v (if L 9=true then V 7 else .slice none 0 0) n0 w/\WU T.heap.size O bg b L V w) ?_ ?_ ?_
 ·rw[o0]
  have:∀p∈Rg,p.2<154:=(by decide);exact this p hp
 ·rw[hn]
  have:∀p∈Rg,p.1<10:=(by decide);exact this p hp
 ·have B:=Cz I E
  have Z:i<10:=by rw[<- hn];exact(aA.1 E).1
  rcases (by omega:i=0\/i=1\/i=2\/i=3\/i=4\/i=5\/i=6\/i=7\/i=8\/i=9) with rfl | rfl | rfl | rfl | rfl | rfl | rfl | rfl | rfl | rfl<;>(rw[Ac B];exact⟨fun d hd=>by cases hd<;>decide,fun hd=>by first | decide | cases hd⟩)
 ·exact⟨hP.bel ⟨rfl,rfl,rfl,aH _,fun _ _=>rfl⟩,⟨hP.lt,aH _⟩,aB,aB,aB,aB,aB,aB,aB,aB,aB⟩
 ·intro L V i o a w hcl ⟨hpf0,hR⟩ E hL hdep hV ha0 KK hK
  have B:=Cz I E;have Z:i<10:=by rw[<- hn];exact(aA.1 E).1
  have j1:=AG ((ha0 3 (by decide)).trans h3);have k1:=AG ((ha0 4 (by decide)).trans h4);simp only[aF] at hw;obtain⟨a1,b1,g0,c1,h0,d1,S⟩:=hw;have m1:b<bg:=hP.hbg;have l9:i<9->L 9=false:=fun h=>AB (List.all_eq_true.1 f0 i (List.mem_range.2 h)) hcl hL;rcases (by omega:i=0\/i=1\/i=2\/i=3\/i=4\/i=5\/i=6\/i=7\/i=8\/i=9) with rfl | rfl | rfl | rfl | rfl | rfl | rfl | rfl | rfl | rfl
  ·have r:o.dst=some 84:=by rw[Ac B]
   rw[r] at hK;rw[Ac B]
   go_simp
   exact hK _ _ ⟨hpf0,hR.sz,fun _=>rfl,hR.v1,hR.v2,hR.v3,hR.v4,hR.v5,hR.v6,hR.v7,hR.v8⟩
  ·have r:o.dst=some 85:=by rw[Ac B]
   rw[r] at hK;have l0:=Ak a1 E hdep;have e0:=AG ((hV (0,84) (by decide) l0).trans (hR.v0 l0));have hg:=hpf0.g.c 1 _ rfl;rw[l9 (by omega)] at hg;simp only[aE,if_false] at hg;rw[Ac B]
   go_simp
   exact hK _ _ ⟨hpf0,hR.sz,hR.v0,fun _=>rfl,hR.v2,hR.v3,hR.v4,hR.v5,hR.v6,hR.v7,hR.v8⟩
  ·have r:o.dst=some 86:=by rw[Ac B]
   rw[r] at hK;have D:=Ad w (.cells #[.string ⟨#[112]⟩,.string ⟨#[113]⟩] 9);have m:=hR.kp (Kp.below D) (AB S hcl (AB h0 hcl (AB g0 hcl hL)));rw[Ac B]
   go_simp
   refine hK _ _ ⟨hpf0.bel D,m.sz,m.v0,m.v1,fun _=>⟨w.heap.size,_,rfl,hR.sz.2,heap_alloc_new w _,fun i t Z=>?_⟩,m.v3,m.v4,m.v5,m.v6,m.v7,m.v8⟩;rw[World.cell?_alloc_at _ _ _ _ rfl];rcases (by have:=(List.getElem?_eq_some_iff.1 Z).1;simp at this;omega:i=0\/i=1) with rfl | rfl<;>(simp at Z;subst Z;rfl)
  ·have r:o.dst=some 87:=by rw[Ac B]
   rw[r] at hK;rw[Ac B]
   go_simp
   exact hK _ _ ⟨hpf0,hR.sz,hR.v0,hR.v1,hR.v2,fun _=>rfl,hR.v4,hR.v5,hR.v6,hR.v7,hR.v8⟩
  ·have r:o.dst=some 88:=by rw[Ac B]
   rw[r] at hK;have l3:=Ak b1 E hdep;have e3:=AG ((hV (3,87) (by decide) l3).trans (hR.v3 l3));have u:=hpf0;rw[hL] at u;rw[Ac B]
   go_simp
   go_at_call 37
   refine(i0 2 J w (by omega) (by omega) u.s hJ).mono ?_;rintro e w' ⟨k,nm,x,F,H,G,ks,rfl,q1,q2,q3,q4,q5⟩;have m:=hR.kp (Kp.only q5 (by have:=hR.sz.1;omega)) (AB t0 hcl hL);rw[l9 (by omega)] at u;refine hK _ _ ⟨?_,m.sz,m.v0,m.v1,m.v2,m.v3,fun _=>⟨k,nm,x,F,H,G,ks,rfl,q1.mono fun j _ P=>aC hR.sz.2 P,q2,q3⟩,m.v5,m.v6,m.v7,m.v8⟩;have X:=u.step q4 q5;show PG _ _ _ _ _ _ _ _ (J+O) K U v (if L 9=true then V 7 else .slice none 0 0) n0 w';rw[l9 (by omega)];exact X
  ·have r:o.dst=some 89:=by rw[Ac B]
   rw[r] at hK;have l2:=Ak g0 E hdep;have l4:=Ak c1 E hdep;obtain⟨p,cs,p0,p1,p2,p3⟩:=hR.v2 l2;obtain⟨k,nm,x,F,H,G,ks,q0,q1,q2,q3⟩:=hR.v4 l4;have e2:=AG ((hV (2,86) (by decide) l2).trans p0);have e4:=AG ((hV (4,88) (by decide) l4).trans q0);rw[Ac B]
   go_simp
   exact hK _ _ ⟨hpf0,hR.sz,hR.v0,hR.v1,hR.v2,hR.v3,hR.v4,fun _=>⟨⟨[102],[[112],[113]],.mk k nm x (0,0) ks,(0,0)⟩,_,F,H,G,⟨⟨p,rfl,p1,(aA.1 p2).1,II q1 p2 (by decide),p3⟩,q1,q2,q3,⟨by simp,by simp,by simp⟩⟩,rfl⟩,hR.v6,hR.v7,hR.v8⟩
  ·have r:o.dst=some 90:=by rw[Ac B]
   rw[r] at hK;have l5:=Ak h0 E hdep;obtain⟨f,M,F,H,G,h5,r0⟩:=hR.v5 l5;obtain⟨p,rfl,p1,p2,r1,p3⟩:=h5.ps;have e5:=AG ((hV (5,89) (by decide) l5).trans r0);have D:=Ad w (.cells #[.string ⟨f.nm.toArray⟩,.slice (some ⟨p,0,none⟩) f.ps.length f.ps.length,.int .i64 f.b.kd,.string ⟨f.b.nm.toArray⟩,.float .f64 f.b.x,.slice F H G,.complex .f64 f.b.z.1 f.b.z.2,.complex .f64 f.z.1 f.z.2] 68);have m:=hR.kp (Kp.below D) (AB S hcl hL);rw[Ac B]
   go_simp
   exact hK _ _ ⟨hpf0.bel D,m.sz,m.v0,m.v1,m.v2,m.v3,m.v4,m.v5,fun _=>⟨w.heap.size,f,_,F,H,G,h5.kept D.size (fun j _ R=>D.block j R),rfl,hR.sz.2,heap_alloc_new w _⟩,m.v7,m.v8⟩
  ·have r:o.dst=some 91:=by rw[Ac B]
   rw[r] at hK;have l1:=Ak d1 E hdep;have l6:=Ak S E hdep;obtain⟨p,f,M,F,H,G,h6,s0,p1,p2⟩:=hR.v6 l6;have e1:=(hV (1,85) (by decide) l1).trans (hR.v1 l1);have e6:=(hV (6,90) (by decide) l6).trans s0;obtain⟨pp,rfl,s1,t1,f1,w1⟩:=h6.ps;rw[Ac B];refine step_append_lies _ rfl (.tmp 85) (.tmp 90) 35 rfl T.heap.size 68 j0 _ 8 128 underlying35 k0 x0 y0 z0 rfl (by decide) _ 0 [] e1 (World.ownsRow_nil ..) ⟨p,0,none⟩ 1 1 (AI [(f,.slice (some ⟨pp,0,none⟩) f.ps.length f.ps.length,.slice F H G)]) e6 rfl (World.news_of_block p2) (IU _ _ _ _ _ _ _) (by decide) (by unfold maxLen;decide) (by decide) hR.sz.2 w.heap.size rfl ?_
   intro g N w' o1 o2 o3 o4;have hB:Below w.heap.size w w':=⟨o2.os,o2.tape,o2.output,o2.size,fun j P=>o2.block j P (by simp[Value.ownBlock])⟩;have hg:g=w.heap.size:=by rcases o3 with h | h;(simp[Value.ownBlock] at h);exact h
   have m:=hR.kp (Kp.below hB) hL;have b0:=hpf0.bel hB;rw[l9 (by omega)] at b0
   refine hK (.slice (some ⟨g,0,none⟩) (0+1) N) _ ⟨by show PG _ _ _ _ _ _ _ _ (if L 4=true then J+O else J) K U v (if L 9=true then Value.slice (some ⟨g,0,none⟩) (0+1) N else .slice none 0 0) n0 w';rw[l9 (by omega)];exact b0,m.sz,m.v0,m.v1,m.v2,m.v3,m.v4,m.v5,m.v6,fun _=>⟨f,_,_,o1,fun q hq=>by
    obtain rfl:=List.mem_singleton.1 hq
    exact(h6.mono (S':=fun j=>T.heap.size<=j/\some j≠(Value.slice (some ⟨g,0,none⟩) (0+1) N).ownBlock) fun j P hS=>⟨hS,fun e=>by injection e with e;dsimp at e;omega⟩).kept hB.size fun j _ R=>hB.block j R⟩,m.v8⟩
  ·have r:o.dst=some 92:=by rw[Ac B]
   rw[r] at hK;rw[Ac B]
   go_simp
   exact hK _ _ ⟨hpf0,hR.sz,hR.v0,hR.v1,hR.v2,hR.v3,hR.v4,hR.v5,hR.v6,hR.v7,fun _=>rfl⟩
  have r:o.dst=none:=(by rw[Ac B]);rw[r] at hK;have n:∀k,k<9->L k=true:=fun k hk=>Ak (List.all_eq_true.1 f0 k (List.mem_range.2 hk)) E hdep;obtain⟨f,M,kv,h7⟩:=hR.v7 (n 7 (by omega));have e7:=(hV (7,91) (by decide) (n 7 (by omega)));have e8:=AG ((hV (8,92) (by decide) (n 8 (by omega))).trans (hR.v8 (n 8 (by omega))));have u:=hpf0;rw[hL,n 4 (by omega)] at u;simp only[aE,if_false,if_true] at u;have hg:=u.g.c 1 _ rfl;have n1:=u.g.fz
  have m0:∃xa xn xc,V 7 = .slice xa xn xc:=by
   rcases h7.row.2 with⟨h,_⟩ | ⟨g,N,g1,h,_⟩
   ·exact⟨_,_,_,h⟩
   exact⟨_,_,_,h⟩
  obtain⟨xa,xn,xc,d0⟩:=m0;have i1:=AG (e7.trans d0);have C:Ae bg w (w.setCell ⟨bg,1,none⟩ (.slice xa xn xc)):=(Ae.refl _ _).set 1 _;rw[Ac B]
  go_simp
  have c0:=u.putF (fv':=.slice xa xn xc) C;refine hK undef _ ⟨?_,⟨hR.sz.1,aC hR.sz.2 C.size⟩,hR.v0,hR.v1,fun _=>(hR.v2 (n 2 (by omega))).kp (Kp.only C hR.sz.1),hR.v3,fun _=>(hR.v4 (n 4 (by omega))).kp (Kp.only C hR.sz.1),?_,?_,fun _=>⟨f,M,kv,h7.kp (Kp.only C hR.sz.1)⟩,hR.v8⟩
  ·show PG _ _ _ _ _ _ _ _ (if L 4=true then J+O else J) K U v (V 7) n0 _
   rw[n 4 (by omega),d0];exact c0
  ·intro _
   obtain⟨f,M,F,H,G,X,h2⟩:=hR.v5 (n 5 (by omega));exact⟨f,M,F,H,G,X.kept C.size (fun j P R=>(Kp.only C hR.sz.1).block j P R),h2⟩
  intro _;obtain⟨p,f,M,F,H,G,X,h2,h3,h4⟩:=hR.v6 (n 6 (by omega));exact⟨p,f,M,F,H,G,X.kept C.size (fun j P R=>(Kp.only C hR.sz.1).block j P R),h2,h3,((Kp.only C hR.sz.1).block p h3 (aA.1 h4).1).trans h4⟩
 intro L V w n ⟨u,hR⟩;rw[hn] at n;obtain⟨f,M,kv,h7⟩:=hR.v7 (n 7 (by omega));rw[n 4 (by omega),n 9 (by omega)] at u;exact Y V w f M kv h7 u hR.sz.2
end Go.Proofs.YtipfpohlnhmlpaaGreatDoor
