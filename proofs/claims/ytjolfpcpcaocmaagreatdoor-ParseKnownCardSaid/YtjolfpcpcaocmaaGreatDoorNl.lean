/- Nl Cw -/
import Derived.Test.YtjolfpcpcaocmaaGreatDoorMa
import Derived.Lib.ItoaNum
import Derived.Test.YtjolfpcpcaocmaaGreatDoorCu
open Nat renaming lt_of_lt_of_le->aA
namespace Go
open Go.RowKit
structure Rl where
 k:Int
 n:Int
 ps:List Tr
 b:Tr
 z:Nat×Nat
structure Fu where
 nm:List UInt8
 ps:List (List UInt8)
 b:Tr
 z:Nat×Nat
def AW (L:List (Rl×Value×Value)):List Value:=L.flatMap fun p=>[.int .i64 p.1.k,.int .i64 p.1.n,p.2.1,.int .i64 p.1.b.kd,.string ⟨p.1.b.nm.toArray⟩,.float .f64 p.1.b.x,p.2.2,.complex .f64 p.1.b.z.1 p.1.b.z.2,.complex .f64 p.1.z.1 p.1.z.2]
theorem I' (p:Rl×Value×Value) (L:List (Rl×Value×Value)):AW (p::L) = .int .i64 p.1.k :: .int .i64 p.1.n::p.2.1 :: .int .i64 p.1.b.kd :: .string ⟨p.1.b.nm.toArray⟩ :: .float .f64 p.1.b.x::p.2.2 :: .complex .f64 p.1.b.z.1 p.1.b.z.2 :: .complex .f64 p.1.z.1 p.1.z.2::AW L:=rfl
theorem JO (L M:List (Rl×Value×Value)):AW (L++M)=AW L++AW M:=by unfold AW;rw[List.flatMap_append]
theorem Ld (L:List (Rl×Value×Value)) (i:Nat) (p:Rl×Value×Value) (h:L[i]?=some p):(AW L)[9*i]?=some (.int .i64 p.1.k)/\(AW L)[9*i+1]?=some (.int .i64 p.1.n)/\(AW L)[9*i+2]?=some p.2.1/\(AW L)[9*i+3]?=some (.int .i64 p.1.b.kd) /\
  (AW L)[9*i+4]?=some (.string ⟨p.1.b.nm.toArray⟩)/\(AW L)[9*i+5]?=some (.float .f64 p.1.b.x)/\(AW L)[9*i+6]?=some p.2.2/\(AW L)[9*i+7]?=some (.complex .f64 p.1.b.z.1 p.1.b.z.2)/\(AW L)[9*i+8]?=some (.complex .f64 p.1.z.1 p.1.z.2):=by
 induction L generalizing i with
 | nil=>simp at h
 | cons q L a =>
   rw[I']
   cases i with
   | zero=>simp at h;subst h;simp
   | succ i =>
     rw[show 9*(i+1)=9*i+1+1+1+1+1+1+1+1+1 by omega];simp only[List.getElem?_cons_succ] at h ⊢;exact a i h
def ED (T:TypeId) (w:World) (rs:List Rl) (v:Value):Prop:=∃a c,v = .slice a rs.length c/\∀i,i<rs.length->∃b pv kv r,a=some ⟨b,0,none⟩/\rs[i]?=some r/\Am T w (fun _=>True) r.ps pv/\Am T w (fun _=>True) r.b.ks kv /\
 w.cell? ⟨b,9*i,none⟩=some (.int .i64 r.k)/\w.cell? ⟨b,9*i+1,none⟩=some (.int .i64 r.n)/\w.cell? ⟨b,9*i+2,none⟩=some pv/\w.cell? ⟨b,9*i+3,none⟩=some (.int .i64 r.b.kd)/\w.cell? ⟨b,9*i+4,none⟩=some (.string ⟨r.b.nm.toArray⟩) /\
 w.cell? ⟨b,9*i+5,none⟩=some (.float .f64 r.b.x)/\w.cell? ⟨b,9*i+6,none⟩=some kv/\w.cell? ⟨b,9*i+7,none⟩=some (.complex .f64 r.b.z.1 r.b.z.2)/\w.cell? ⟨b,9*i+8,none⟩=some (.complex .f64 r.z.1 r.z.2)
def Ii (w:World) (d:List (List UInt8)) (v:Value):Prop:=∃a c,v = .slice a d.length c/\∀i,i<d.length->∃b p,a=some ⟨b,0,none⟩/\d[i]?=some p/\w.cell? ⟨b,i,none⟩=some (.string ⟨p.toArray⟩)
def Fh (T:TypeId) (w:World) (d:List Fu) (v:Value):Prop:=∃a c,v = .slice a d.length c/\∀i,i<d.length->∃b pv kv f,a=some ⟨b,0,none⟩/\d[i]?=some f/\Ii w f.ps pv/\Am T w (fun _=>True) f.b.ks kv /\
 w.cell? ⟨b,8*i,none⟩=some (.string ⟨f.nm.toArray⟩)/\w.cell? ⟨b,8*i+1,none⟩=some pv/\w.cell? ⟨b,8*i+2,none⟩=some (.int .i64 f.b.kd)/\w.cell? ⟨b,8*i+3,none⟩=some (.string ⟨f.b.nm.toArray⟩) /\
 w.cell? ⟨b,8*i+4,none⟩=some (.float .f64 f.b.x)/\w.cell? ⟨b,8*i+5,none⟩=some kv/\w.cell? ⟨b,8*i+6,none⟩=some (.complex .f64 f.b.z.1 f.b.z.2)/\w.cell? ⟨b,8*i+7,none⟩=some (.complex .f64 f.z.1 f.z.2)
section
variable {T:TypeId} {w w':World} {v:Value}
theorem Ii.bel {d:List (List UInt8)} (h:Ii w d v) (j:Below w.heap.size w w'):Ii w' d v:=by
 obtain⟨a,c,rfl,h⟩:=h;refine⟨a,c,rfl,fun i k=>?_⟩;obtain⟨b,p,e,f,g⟩:=h i k;exact⟨b,p,e,f,Aa g j⟩
theorem ED.bel {rs:List Rl} (h:ED T w rs v) (c:Below w.heap.size w w'):ED T w' rs v:=by
 obtain⟨a,d,rfl,h⟩:=h;refine⟨a,d,rfl,fun i t=>?_⟩;obtain⟨b,x,u,r,o,p,q,s,e,f,g,j,k,c5,l,m,n⟩:=h i t;exact⟨b,x,u,r,o,p,q.bel c,s.bel c,Aa e c,Aa f c,Aa g c,Aa j c,Aa k c,Aa c5 c,Aa l c,Aa m c,Aa n c⟩
theorem Fh.bel {e:List Fu} (h:Fh T w e v) (c:Below w.heap.size w w'):Fh T w' e v:=by
 obtain⟨a,d,rfl,h⟩:=h;refine⟨a,d,rfl,fun i t=>?_⟩;obtain⟨b,x,u,f,p,q,r,s,g,j,k,l,m,c5,n,o⟩:=h i t;exact⟨b,x,u,f,p,q,r.bel c,s.bel c,Aa g c,Aa j c,Aa k c,Aa l c,Aa m c,Aa c5 c,Aa n c,Aa o c⟩
end
def Hx (k:Int):Nat:=if k=6 then 1 else if k=7 then 2 else 0
structure CN (w:World) (b:Nat) (vs:List Value):Prop where
 c:∀i v,vs[i]?=some v->w.cell? ⟨b,i,none⟩=some v
 z:∀j,w.frozen? ⟨b,j,none⟩=false
 l:b<w.heap.size
section
variable {w w':World} {b:Nat} {vs:List Value}
theorem CN.new (w:World) (vs:List Value) (T:TypeId):CN (w.alloc (.cells vs.toArray T)) w.heap.size vs :=
 ⟨fun i v h=>by rw[World.cell?_alloc_at _ _ _ _ rfl];simpa using h,fun j=>World.frozen?_alloc_at _ _ _ _ rfl,by simp⟩
theorem CN.kept (h:CN w b vs) (a:w'.heap[b]?=w.heap[b]?) (d:b<w'.heap.size):CN w' b vs :=
 ⟨fun i v e=>by rw[World.cell?_of_block a];exact h.c i v e,fun j=>by rw[World.frozen?_of_block a];exact h.z j,d⟩
theorem CN.quiet (h:CN w b vs) (a:Below w.heap.size w w'):CN w' b vs:=h.kept (a.block b h.l) (aA h.l a.size)
theorem CN.only {q:Nat} (h:CN w b vs) (a:Ae q w w') (c:b≠q):CN w' b vs:=h.kept (a.block b h.l (fun e=>by injection e with e;omega)) (aA h.l a.size)
theorem CN.alloc (h:CN w b vs) (o:Obj):CN (w.alloc o) b vs:=h.quiet ((Below.refl _ _).alloc (Nat.le_refl _) o)
theorem CN.drew (h:CN w b vs):CN w.drew b vs:=⟨h.c,h.z,h.l⟩
theorem CN.set (h:CN w b vs) (i:Nat) (u:Value) (d:i<vs.length):CN (w.setCell ⟨b,i,none⟩ u) b (vs.set i u):=by
 refine⟨fun j v e=>?_,fun j=>by rw[World.frozen?_setCell];exact h.z j,aA h.l ((Ae.refl b w).set i u).size⟩;by_cases a:i=j
 ·subst a
  rw[List.getElem?_set_self d] at e;obtain rfl:=Option.some.inj e;exact A8 (h.c i _ (List.getElem?_eq_getElem d))
 rw[List.getElem?_set_ne a] at e;rw[Ag (fun e=>a (by injection e))];exact h.c j v e
theorem CN.c5 {v0 v1 v2 v3 v4:Value} {r:List Value} (h:CN w b (v0::v1::v2::v3::v4::r)):C5 w b v0 v1 v2 v3 v4:=⟨h.c 0 _ rfl,h.c 1 _ rfl,h.c 2 _ rfl,h.c 3 _ rfl,h.c 4 _ rfl,h.z⟩
theorem CN.far (h:CN w b vs) {q i:Nat} (a:q≠b) (u:Value):CN (w.setCell ⟨q,i,none⟩ u) b vs:=h.only ((Ae.refl q w).set i u) (Ne.symm a)
end
end Go
namespace Go.Proofs.YtjolfpcpcaocmaaGreatDoor
open Go.RowKit
section
variable (nx:Nat->Bool->Tk) (pl:Nat->Nat×Nat) (ere:List UInt8->Option Bool)
def Yq (n:Nat) (z:Nat×Nat) (k:Int) (l:List Tr) (p:Ps):Hf Rl:=(Eb nx false p).bind fun t p =>
 if EP t [123]=true then (It nx pl ere n .block p).bind fun b p => .ok ⟨k,0,l,hd1 b,z⟩ p
 else if t.kd≠1/\t.kd≠0/\EP t [59]=false then JF t p
 else .ok ⟨k,0,l,.mk 30 [] 0 z [.mk 42 [] 0 z []],z⟩ p
def Hx (n:Nat) (z:Nat×Nat) (p:Ps):Hf Rl :=
 (Dn nx pl ere n .expr p).bind fun l p=>(NV nx [44] p).bind fun q p =>
   if q=true then (EQ nx pl [44] p).bind fun _ p=>(Lf nx true n p).bind fun _ p=>(Dn nx pl ere n .expr p).bind fun m p=>Yq nx pl ere n z 7 (l++m) p
   else Yq nx pl ere n z 6 l p
def Xq (n:Nat) (t:Tk) (p:Ps):Hf Rl :=
 if XI t [66,69,71,73,78]=true then (It nx pl ere n .block (CQ t p)).bind fun b p => .ok ⟨1,0,[],hd1 b,pl t.f⟩ p
 else if XI t [69,78,68]=true then (It nx pl ere n .block (CQ t p)).bind fun b p => .ok ⟨2,0,[],hd1 b,pl t.f⟩ p
 else if XI t [71,65,80]=true then (It nx pl ere n .block (CQ t p)).bind fun b p => .ok ⟨4,0,[],hd1 b,pl t.f⟩ p
 else if XI t [69,86,69,82,89]=true then (SD nx (CQ t p)).bind fun m p=>(It nx pl ere n .block p).bind fun b p => .ok ⟨3,m,[],hd1 b,pl t.f⟩ p
 else if EP t [123]=true then (It nx pl ere n .block p).bind fun b p => .ok ⟨5,0,[],hd1 b,pl t.f⟩ p
 else Hx nx pl ere n (pl t.f) p
end
end Go.Proofs.YtjolfpcpcaocmaaGreatDoor
