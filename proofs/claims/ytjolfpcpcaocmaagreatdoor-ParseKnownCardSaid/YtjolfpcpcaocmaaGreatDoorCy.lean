/- Cy Da Dc Dp Wy Dn -/
import Derived.Test.YtjolfpcpcaocmaaGreatDoorCx
import Derived.Test.YtjolfpcpcaocmaaGreatDoorCa
import Derived.Test.YtjolfpcpcaocmaaGreatDoorWo
import Derived.Test.YtjolfpcpcaocmaaGreatDoorBb
open List renaming length_drop->aA,mem_cons->aB,drop_eq_nil_of_le->aD,mem_singleton->aG,length_cons->aH,flatMap_cons->aK,flatMap_nil->aL
open Nat renaming le_refl->aC,le_trans->aF,lt_of_lt_of_le->aJ
open Option renaming some->aE,map_eq_some_iff->aI
namespace Go.Proofs.YtjolfpcpcaocmaaGreatDoor
open Go.Proofs.Tryz
open Go.RowKit
def YY {α:Type} (q:Nat) (W0:World) (r:Hf α) (good:α->Ps->World->Prop) (e:Ending) (w':World):Prop :=
 match r with
 | .ok a p'=>e = .returned (.tuple #[])/\good a p' w'
 | .bad f er=>e = .panicked (T3 f er)/\Ae q W0 w'
 | .hush=>True
section
variable {α β:Type} {q:Nat} {W0 w':World} {r:Hf β} {good:β->Ps->World->Prop}
theorem E4 {f:Nat} {a:Int} (c:Hid (r = .bad f a)) (b:Ae q W0 w'):YY q W0 r good (.panicked (T3 f a)) w':=by rw[c.out];exact⟨rfl,b⟩
theorem Hg {x:β} {p:Ps} (a:Hid (.ok x p=r)) (b:good x p w'):YY q W0 r good (.returned (.tuple #[])) w':=by rw[<- a.out];exact⟨rfl,b⟩
theorem YY.part {o:Hf α} {K:α->Ps->Hf β} {g:α->Ps->World->Prop} {e:Ending} (h:YY q W0 o g e w') (b:Hid (o.bind K=r)) (c:r ≠ .hush) :
  (∃f a,e = .panicked (T3 f a)/\Ae q W0 w'/\Hid (r = .bad f a))\/∃x p,e = .returned (.tuple #[])/\g x p w'/\Hid (K x p=r):=by
 cases o with
 | hush=>exact absurd b.out.symm c
 | bad f a=>exact .inl ⟨f,a,h.1,h.2,b.out.symm⟩
 | ok x p=>exact .inr ⟨x,p,h.1,h.2,b.out⟩
end
def ruV (r:Rl) (pv kv:Value):List Value:=[.int .i64 r.k,.int .i64 r.n,pv,.int .i64 r.b.kd,.string ⟨r.b.nm.toArray⟩,.float .f64 r.b.x,kv,.complex .f64 r.b.z.1 r.b.z.2,.complex .f64 r.z.1 r.z.2]
def Z_ (w0 W0:World) (q B:Nat) (s:ByteArray) (ub:Nat) (l:List B5) (r:Rl) (a:Ps) (w':World):Prop :=
 ∃pv kv,Fx w0 W0 q B s a (⟨ub,.int .i64 r.k,.int .i64 r.n,pv,.int .i64 r.b.kd,.string ⟨r.b.nm.toArray⟩⟩::l) [(r.ps,pv),(r.b.ks,kv)] w'/\CN w' ub (ruV r pv kv)
def ZR (nx:Nat->Bool->Tk) (pl:Nat->Nat×Nat) (a:List UInt8->Option Bool) (w0:World) (q:Nat) (s:ByteArray) (n:Nat):Prop :=
 ∀(W0 W:World) (B ub:Nat) (p:Ps) (l:List B5) (z:Nat×Nat),Fx w0 W0 q B s p (⟨ub,.int .i64 6,.int .i64 0,.slice none 0 0,.int .i64 0,.string ⟨#[]⟩⟩::l) [] W ->
  CN W ub [.int .i64 6,.int .i64 0,.slice none 0 0,.int .i64 0,.string ⟨#[]⟩,.float .f64 0,.slice none 0 0,.complex .f64 0 0,.complex .f64 z.1 z.2]->Hx nx pl a n z p ≠ .hush ->
  Calls prog 23 #[.pointer (some ⟨q,0,none⟩),.pointer (some ⟨ub,0,none⟩)] W (YY q W0 (Hx nx pl a n z p) (Z_ w0 W0 q B s ub l))
section
variable {w0 W0 w w':World} {q B ub:Nat} {s:ByteArray} {p:Ps} {l:List B5} {ks:List (List Tr×Value)} {v0 v1 v2 v3 v4:Value}
theorem Fx.uq (h:Fx w0 W0 q B s p (⟨ub,v0,v1,v2,v3,v4⟩::l) ks w):ub≠q:=by have a:=(h.b _ (.head _)).1;have:=h.hq;dsimp only at a;omega
theorem Fx.wide (h:Fx w0 W0 q B s p (⟨ub,v0,v1,v2,v3,v4⟩::l) ks w) {u0 u1 u2 u3 u4:Value} {r:List Value} (b:Ae ub w w') (a:CN w' ub (u0::u1::u2::u3::u4::r)) :
 Fx w0 W0 q B s p (⟨ub,u0,u1,u2,u3,u4⟩::l) ks w':=h.upd b a.c5
theorem Fx.wide1 {x:B5} (h:Fx w0 W0 q B s p (x::⟨ub,v0,v1,v2,v3,v4⟩::l) ks w) {u0 u1 u2 u3 u4:Value} {r:List Value} (b:Ae ub w w') (a:CN w' ub (u0::u1::u2::u3::u4::r)) :
 Fx w0 W0 q B s p (x::⟨ub,u0,u1,u2,u3,u4⟩::l) ks w':=h.upd1 b a.c5
theorem _root_.Go.CN.body {b c d a:Value} (h:CN w ub [v0,v1,v2,v3,v4,b,c,d,a]) (u3 u4 u5 u6 u7:Value) :
  CN (((((w.setCell ⟨ub,3,none⟩ u3).setCell ⟨ub,4,none⟩ u4).setCell ⟨ub,5,none⟩ u5).setCell ⟨ub,6,none⟩ u6).setCell ⟨ub,7,none⟩ u7) ub [v0,v1,v2,u3,u4,u5,u6,u7,a] :=
 ((((h.set 3 u3 (by simp)).set 4 u4 (by simp)).set 5 u5 (by simp)).set 6 u6 (by simp)).set 7 u7 (by simp)
theorem EZ (w:World) (ub:Nat) (u3 u4 u5 u6 u7:Value):Ae ub w (((((w.setCell ⟨ub,3,none⟩ u3).setCell ⟨ub,4,none⟩ u4).setCell ⟨ub,5,none⟩ u5).setCell ⟨ub,6,none⟩ u6).setCell ⟨ub,7,none⟩ u7) :=
 (((((Ae.refl ub w).set 3 u3).set 4 u4).set 5 u5).set 6 u6).set 7 u7
theorem _root_.Go.CN.kind {a b c d:Value} (h:CN w ub [v0,v1,v2,v3,v4,a,b,c,d]) (u:Value):CN (w.setCell ⟨ub,0,none⟩ u) ub [u,v1,v2,v3,v4,a,b,c,d]:=h.set 0 u (by simp)
theorem _root_.Go.CN.nn {a b c d:Value} (h:CN w ub [v0,v1,v2,v3,v4,a,b,c,d]) (u:Value):CN (w.setCell ⟨ub,1,none⟩ u) ub [v0,u,v2,v3,v4,a,b,c,d]:=h.set 1 u (by simp)
theorem _root_.Go.CN.pats {a b c d:Value} (h:CN w ub [v0,v1,v2,v3,v4,a,b,c,d]) (u:Value):CN (w.setCell ⟨ub,2,none⟩ u) ub [v0,v1,u,v3,v4,a,b,c,d]:=h.set 2 u (by simp)
theorem Fx.nilrow (h:Fx w0 W0 q B s p l ks w):Fx w0 W0 q B s p l (([],.slice none 0 0)::ks) w :=
 ⟨h.z,h.o,h.hq,h.hw,h.hB,h.b,fun x a=>by rcases aB.1 a with rfl | a;exact Am.nil _;exact h.k x a,h.d⟩
theorem Fx.rows2 {a b:List Tr×Value} (h:Fx w0 W0 q B s p l ks w) (ha:a∈ks) (e:b∈ks):Fx w0 W0 q B s p l [a,b] w :=
 ⟨h.z,h.o,h.hq,h.hw,h.hB,h.b,fun x c=>by rcases aB.1 c with rfl | c;exact h.k _ ha;obtain rfl:=aG.1 c;exact h.k _ e,h.d⟩
theorem Aam (t:Tk):(t.kd=1/\(t.kd != 1)=false)\/(¬ t.kd=1/\t.kd=0/\(t.kd != 1)=true/\(t.kd != 0)=false)\/(¬ t.kd=1/\¬ t.kd=0/\(t.kd != 1)=true/\(t.kd != 0)=true):=by
 rcases Xt t.kd 1 with⟨a,-,b1⟩ | ⟨a,-,b1⟩
 ·exact .inl ⟨a,b1⟩
 rcases Xt t.kd 0 with⟨b,-,b0⟩ | ⟨b,-,b0⟩
 ·exact .inr (.inl ⟨a,b,b1,b0⟩)
 exact .inr (.inr ⟨a,b,b1,b0⟩)
end
theorem ZG {T:TypeId} {w:World} {S:Nat->Prop} {u l y:Tr} {g i:Nat} {m:Option Addr} {n:Nat} (h:Am T w S [u,l] (.slice (some ⟨g,0,none⟩) 2 i)) (R:Am T w (fun j=>S j/\j≠g) y.ks (.slice m y.ks.length n)) :
  Am T (((((w.setCell ⟨g,5,none⟩ (.int .i64 y.kd)).setCell ⟨g,6,none⟩ (.string ⟨y.nm.toArray⟩)).setCell ⟨g,7,none⟩ (.float .f64 y.x)).setCell ⟨g,8,none⟩ (.slice m y.ks.length n)).setCell ⟨g,9,none⟩ (.complex .f64 y.z.1 y.z.2)) S [u,y] (.slice (some ⟨g,0,none⟩) 2 i):=by
 generalize f:[u,l]=ks at h;generalize B:Value.slice (some ⟨g,0,none⟩) 2 i=v at h
 cases h with
 | nil=>cases f
 | row _ L b o k P C E Q G U s =>
   have H:g=b:=by injection B with r _ _;injection r with r;injection r
   have I:i=o:=(by injection B);subst H I;clear B
   obtain⟨q,k0,rfl⟩:∃q k0,L=[(u,q),(l,k0)]:=by
    rcases L with _ | ⟨⟨a,ka⟩,_ | ⟨⟨c,X⟩,_ | ⟨d,L⟩⟩⟩
    ·cases f
    ·cases f
    ·simp only[List.map_cons,List.map_nil,List.cons.injEq,and_true] at f
     obtain⟨rfl,rfl⟩:=f;exact⟨_,_,rfl⟩
    simp at f
   clear f;have W:=C;have J:=heap_setCell_same w g 5 k T (.int .i64 y.kd) C;have K:=heap_setCell_same _ g 6 _ T (.string ⟨y.nm.toArray⟩) J;have M:=heap_setCell_same _ g 7 _ T (.float .f64 y.x) K;have N:=heap_setCell_same _ g 8 _ T (.slice m y.ks.length n) M;have O:=heap_setCell_same _ g 9 _ T (.complex .f64 y.z.1 y.z.2) N;have F:=(((((Ae.refl g w).set 5 (.int .i64 y.kd)).set 6 (.string ⟨y.nm.toArray⟩)).set 7 (.float .f64 y.x)).set 8 (.slice m y.ks.length n)).set 9 (.complex .f64 y.z.1 y.z.2);refine Am.row S [(u,q),(y,.slice m y.ks.length n)] g i _ P O E Q (by simp[G]) ?_ fun p t=>?_
   ·have D:10<=k.size:=by rw[G];simp at E;omega
    have A:k.toList.take 10=[.int .i64 u.kd,.string ⟨u.nm.toArray⟩,.float .f64 u.x,q,.complex .f64 u.z.1 u.z.2,.int .i64 l.kd,.string ⟨l.nm.toArray⟩,.float .f64 l.x,k0,.complex .f64 l.z.1 l.z.2]:=U;show List.take 10 _=[.int .i64 u.kd,.string ⟨u.nm.toArray⟩,.float .f64 u.x,q,.complex .f64 u.z.1 u.z.2,.int .i64 y.kd,.string ⟨y.nm.toArray⟩,.float .f64 y.x,.slice m y.ks.length n,.complex .f64 y.z.1 y.z.2];obtain⟨V⟩:=k;simp only[Array.toList_setIfInBounds,List.take_set,A];rfl
   rcases aB.1 t with rfl | t
   ·exact((s _ (.head _))).only F (fun e=>e.2 rfl)
   obtain rfl:p=(y,.slice m y.ks.length n):=(by simpa using t);exact R.only F (fun e=>e.2 rfl)
theorem Fx.rowput {k W w:World} {q B:Nat} {s:ByteArray} {p:Ps} {l:List B5} {ks:List (List Tr×Value)} {u t y:Tr} {g a:Nat} {c:Option Addr} {f:Nat} (h:Fx k W q B s p l (([u,t],.slice (some ⟨g,0,none⟩) 2 a)::ks) w)
  (n:Am 34 w (fun j=>Av B l j/\j≠g) y.ks (.slice c y.ks.length f)) :
  Fx k W q B s p l [([u,y],.slice (some ⟨g,0,none⟩) 2 a)] (((((w.setCell ⟨g,5,none⟩ (.int .i64 y.kd)).setCell ⟨g,6,none⟩ (.string ⟨y.nm.toArray⟩)).setCell ⟨g,7,none⟩ (.float .f64 y.x)).setCell ⟨g,8,none⟩ (.slice c y.ks.length f)).setCell ⟨g,9,none⟩ (.complex .f64 y.z.1 y.z.2)):=by
 obtain⟨L,v,i,m,-⟩:=h.ka.owns B (fun j e=>e.1);have hF:=h.norow.other ((((((Ae.refl g w).set 5 (.int .i64 y.kd)).set 6 (.string ⟨y.nm.toArray⟩)).set 7 (.float .f64 y.x)).set 8 (.slice c y.ks.length f)).set 9 (.complex .f64 y.z.1 y.z.2)) (m g rfl);exact⟨hF.z,hF.o,hF.hq,hF.hw,hF.hB,hF.b,fun x r=>by obtain rfl:=aG.1 r;exact ZG h.ka n,hF.d⟩
theorem M0 {T:TypeId} {w:World} {S:Nat->Prop} {u a:Tr} {g d:Nat} (h:Am T w S [u,a] (.slice (some ⟨g,0,none⟩) 2 d)):(∃k,w.cell? ⟨g,5,none⟩=some (.int .i64 a.kd)/\w.cell? ⟨g,6,none⟩=some (.string ⟨a.nm.toArray⟩)/\w.cell? ⟨g,7,none⟩=some (.float .f64 a.x)/\w.cell? ⟨g,8,none⟩=some k/\w.cell? ⟨g,9,none⟩=some (.complex .f64 a.z.1 a.z.2))/\∀j,w.frozen? ⟨g,j,none⟩=false:=by
 constructor
 ·obtain⟨b,f,C,e,t,s,-,n,o,p,q,r⟩:=h.cells 1 (by simp)
  obtain rfl:a=t:=(by simpa using s);have l:g=b:=by injection e with c _ _;injection c with c;injection c
  subst l;exact⟨C,n,o,p,q,r⟩
 generalize m:[u,a]=ks at h;generalize B:Value.slice (some ⟨g,0,none⟩) 2 d=v at h
 cases h with
 | nil=>cases m
 | row _ L b f i D y F E G H A =>
   have l:g=b:=by injection B with c _ _;injection c with c;injection c
   subst l;exact fun j=>frozen_of_row w g j i _ y
theorem ZS {w:World} {b:Nat} {t:Tr} {v:Value} (h:C5 w b (.int .i64 t.kd) (.string ⟨t.nm.toArray⟩) (.float .f64 t.x) v (.complex .f64 t.z.1 t.z.2)):∀j u,(Ah [(t,v)])[j]?=some u->w.cell? ((⟨b,0,none⟩:Addr).add j)=some u:=by
 intro j u e;rw[Addr.add_lit];simp only[Ah,aK,aL,List.append_nil,Nat.zero_add] at e ⊢;rcases j with _ | _ | _ | _ | _ | j
 ·obtain rfl:=aE.inj e;exact h.c0
 ·obtain rfl:=aE.inj e;exact h.c1
 ·obtain rfl:=aE.inj e;exact h.c2
 ·obtain rfl:=aE.inj e;exact h.c3
 ·obtain rfl:=aE.inj e;exact h.c4
 simp at e
theorem ZU {nx:Nat->Bool->Tk} {pl:Nat->Nat×Nat} {a:List UInt8->Option Bool} {n:Nat} {z:Nat×Nat} {k:Int} {l:List Tr} {p:Ps} {r:Hf Rl} (c:Hid (Yq nx pl a n z k l p=r)) :
 Hid (((Eb nx false p).bind fun t p=>if EP t [123]=true then (It nx pl a n .block p).bind fun b p => .ok ⟨k,0,l,hd1 b,z⟩ p
  else if t.kd≠1/\t.kd≠0/\EP t [59]=false then JF t p else .ok ⟨k,0,l,.mk 30 [] 0 z [.mk 42 [] 0 z []],z⟩ p)=r):=c
def Zh (r:Rl) (pv kv:Value):Value:=.agg #[.int .i64 r.k,.int .i64 r.n,pv,.int .i64 r.b.kd,.string ⟨r.b.nm.toArray⟩,.float .f64 r.b.x,kv,.complex .f64 r.b.z.1 r.b.z.2,.complex .f64 r.z.1 r.z.2]
def Yj (w:World) (S:Nat->Prop) (x:Rl×Value×Value):Prop:=Am 34 w S x.1.ps x.2.1/\Am 34 w S x.1.b.ks x.2.2
def ZQ (w0:World) (q:Nat) (s:ByteArray) (W:World) (r:Rl) (p':Ps) (v:Value) (w':World):Prop :=
 (∃pv kv,v=Zh r pv kv/\Yj w' (W.heap.size <= ·) (r,pv,kv))/\Pz w0 q s p' w'
def RuC (w0:World) (q:Nat) (s:ByteArray) (b:Tk->Ps->Hf Rl):Prop :=
 ∀(t:Tk) (p:Ps) (W:World),Pz w0 q s p W->(p.a<=t.f/\t.f<=t.t/\t.t<=s.size/\t.tx.length<=s.size/\(t.kd≠0->p.a<t.t))->b t p ≠ .hush ->
  Calls prog 14 #[.pointer (some ⟨q,0,none⟩),G1 t] W (HJ q W (b t p) (ZQ w0 q s W))
def M1 (nx:Nat->Bool->Tk) (a:Nat->Tk->Ps->Hf Rl):Nat->List Rl->Ps->Hf (List Rl)
 | 0,_,_ => .hush
 | n+1,l,p=>(LB nx true n p).bind fun t p =>
    if t.kd=0 then .ok l p else if XI t [102,117,110,99,116,105,111,110]=true then .hush
    else (a n t p).bind fun u p=>M1 nx a n (l++[u]) p
def Lr (w:World) (B:Nat) (rs:List Rl) (v:Value):Prop:=∃L:List (Rl×Value×Value),L.map Prod.fst=rs/\w.ownsRow B 36 9 v L.length (AW L)/\∀x∈L,Yj w (fun j=>B<=j/\some j≠v.ownBlock) x
section
variable {w w':World} {B:Nat} {rs:List Rl} {v:Value} {S S':Nat->Prop} {x:Rl×Value×Value}
theorem Yj.kept (h:Yj w S x) (b:w.heap.size<=w'.heap.size) (a:∀j,S j->j<w.heap.size->w'.heap[j]?=w.heap[j]?):Yj w' S x:=⟨h.1.kept b a,h.2.kept b a⟩
theorem Yj.mono (h:Yj w S x) (a:∀j,j<w.heap.size->S j->S' j):Yj w S' x:=⟨h.1.mono a,h.2.mono a⟩
theorem Lr.nil (w:World) (B:Nat):Lr w B [] (.slice none 0 0):=⟨[],rfl,World.ownsRow_nil ..,fun _ h=>nomatch h⟩
theorem Lr.kept {row:Option Nat} (h:Lr w B rs v) (c:w.grownBy w' row) (d:∀g,row=some g->g<B):Lr w' B rs v:=by
 obtain⟨L,i,a,l⟩:=h;refine⟨L,i,a.kept c ?_,fun x n=>(l x n).kept c.size fun j k m=>c.block j m fun e=>?_⟩
 ·by_cases e:v.ownBlock=none
  ·exact .inl e
  refine .inr fun f=>?_;obtain⟨g,b⟩:=Option.ne_none_iff_exists'.1 e;have o:=(a.lt g b).1;have p:=d g (f▸b);omega
 have:=d j e.symm;have:=k.1;omega
theorem Lr.slice (h:Lr w B rs v):∃a c,v = .slice a rs.length c:=by
 obtain⟨L,rfl,b,-⟩:=h;rcases b.2 with⟨rfl,f⟩ | ⟨g,d,e,rfl,-⟩
 ·exact⟨none,0,by rw[List.length_map,f]⟩
 exact⟨_,_,by rw[List.length_map]⟩
theorem Lr.append {L:List (Rl×Value×Value)} {u:Rl} {pv kv b:Value} (k:L.map Prod.fst=rs) (l:∀x∈L,Yj w (fun j=>B<=j/\some j≠v.ownBlock) x)
  (n:Yj w (fun j=>B<=j/\some j≠v.ownBlock) (u,pv,kv)) (o:w'.ownsRow B 36 9 b (L.length+1) (AW L++AW [(u,pv,kv)])) (i:w.grownBy w' v.ownBlock)
  (p:b.ownBlock=v.ownBlock\/b.ownBlock=some w.heap.size):Lr w' B (rs++[u]) b:=by
 refine⟨L++[(u,pv,kv)],by rw[List.map_append,k];rfl,by rw[JO,List.length_append];exact o,fun x a=>?_⟩
 have d:Yj w (fun j=>B<=j/\some j≠v.ownBlock) x:=by
  rcases List.mem_append.1 a with a | a
  ·exact l x a
  obtain rfl:=aG.1 a;exact n
 have f:=d.mono (S':=fun j=>(B<=j/\some j≠b.ownBlock)/\some j≠v.ownBlock) fun j g e=>⟨⟨e.1,by
  rcases p with c | c
  ·rw[c];exact e.2
  rw[c];intro h;injection h with h;omega⟩,e.2⟩
 exact(f.kept i.size fun j g m=>i.block j m g.2).mono fun j _ e=>e.1
end
structure XT (q P:Nat) (a w:World):Prop where
 os:w.os=a.os
 tape:w.tape=a.tape
 output:w.output=a.output
 size:a.heap.size<=w.heap.size
 block:∀k,k<a.heap.size->k≠q->k≠P->w.heap[k]?=a.heap[k]?
section
variable {q P:Nat} {a w w':World}
theorem XT.refl (q P:Nat) (w:World):XT q P w w:=⟨rfl,rfl,rfl,aC _,fun _ _ _ _=>rfl⟩
theorem XT.then {row:Option Nat} (h:XT q P a w) (b:w.grownBy w' row) (i:∀g,row=some g->g=q\/g=P\/a.heap.size<=g):XT q P a w' :=
 ⟨b.os.trans h.os,b.tape.trans h.tape,b.output.trans h.output,aF h.size b.size,fun k c d f=>(b.block k (aJ c h.size) fun e=>by rcases i k e.symm with e | e | e<;>omega).trans (h.block k c d f)⟩
theorem XT.drew (h:XT q P a w):XT q P a w.drew:=⟨h.os,h.tape,h.output,h.size,h.block⟩
end
structure Gx (w0 W:World) (q P:Nat) (s:ByteArray) (p:Ps) (c:Value) (rs:List Rl) (v:Value) (w:World):Prop where
 z:Pz w0 q s p w
 o:XT q P W w
 hq:q<W.heap.size
 hP:P<W.heap.size
 hn:P≠q
 h0:w0.heap.size<=P
 c:CN w P [c,.slice none 0 0]
 r:Lr w W.heap.size rs v
section
variable {w0 W w w':World} {q P:Nat} {s:ByteArray} {p p':Ps} {c:Value} {rs:List Rl} {v:Value}
theorem Gx.quiet (h:Gx w0 W q P s p c rs v w) (a:Below w.heap.size w w'):Gx w0 W q P s p c rs v w' :=
 have b:=Ae.of_below q a
 ⟨h.z.keep a,h.o.then b fun g e => .inl (by injection e with e;exact e.symm),h.hq,h.hP,h.hn,h.h0,h.c.quiet a,h.r.kept b fun g e=>by injection e with e;have:=h.hq;omega⟩
theorem Gx.move (h:Gx w0 W q P s p c rs v w) (b:Pz w0 q s p' w') (a:Ae q w w'):Gx w0 W q P s p' c rs v w' :=
 ⟨b,h.o.then a fun g e => .inl (by injection e with e;exact e.symm),h.hq,h.hP,h.hn,h.h0,h.c.only a h.hn,h.r.kept a fun g e=>by injection e with e;have:=h.hq;omega⟩
theorem Gx.drew (h:Gx w0 W q P s p c rs v w):Gx w0 W q P s p c rs v w.drew:=h.move h.z.drew (Ae.refl q w).drew
theorem Gx.append {L:List (Rl×Value×Value)} {u:Rl} {pv kv f:Value} (h:Gx w0 W q P s p c rs v w) (m:L.map Prod.fst=rs) (b:∀k,v.ownBlock=some k->W.heap.size<=k/\k<w.heap.size) (i:∀x∈L,Yj w (fun j=>W.heap.size<=j/\some j≠v.ownBlock) x)
  (y:Yj w (fun j=>W.heap.size<=j/\some j≠v.ownBlock) (u,pv,kv)) (A:w'.ownsRow W.heap.size 36 9 f (L.length+1) (AW L++AW [(u,pv,kv)])) (a:w.grownBy w' v.ownBlock)
  (B:f.ownBlock=v.ownBlock\/f.ownBlock=some w.heap.size):Gx w0 W q P s p c (rs++[u]) f w':=by
 have r:=h.hq;have n:=h.hP;have C:=h.z.hq;have t:=Lr.append m i y A a B;refine⟨?_,h.o.then a fun g e => .inr (.inr (b g e).1),r,n,h.hn,h.h0,h.c.kept (a.block P h.c.l fun e=>?_) (aJ h.c.l a.size),t⟩
 ·cases d:v.ownBlock with
  | none=>rw[d] at a;exact h.z.keep ⟨a.os,a.tape,a.output,a.size,fun k i=>a.block k i (by simp)⟩
  | some g=>rw[d] at a;have:=(b g d).1;exact h.z.other a (by omega) (by omega)
 have:=(b P e.symm).1;omega
theorem Gx.put (h:Gx w0 W q P s p c rs v w) (u:Value):Gx w0 W q P s p u rs v (w.setCell ⟨P,0,none⟩ u) :=
 have a:=(Ae.refl P w).set 0 u
 ⟨h.z.other a h.h0 (Ne.symm h.hn),h.o.then a fun g e => .inr (.inl (by injection e with e;exact e.symm)),h.hq,h.hP,h.hn,h.h0,h.c.set 0 u (by simp),h.r.kept a fun g e=>by injection e with e;have:=h.hP;omega⟩
theorem Gx.start (h:Pz w0 q s p W) (b:P<W.heap.size) (d:P≠q) (a:w0.heap.size<=P) (c:CN W P [.slice none 0 0,.slice none 0 0]):Gx w0 W q P s p (.slice none 0 0) [] (.slice none 0 0) W :=
 ⟨h,XT.refl q P W,h.lt,b,d,a,c,Lr.nil _ _⟩
end
def ZW (w0 W:World) (q P:Nat) (s:ByteArray) (r:Hf (List Rl)) (e:Ending) (w':World):Prop :=
 match r with
 | .ok rs p'=>e = .returned (.tuple #[])/\∃v,Gx w0 W q P s p' v rs v w'
 | .bad f er=>e = .panicked (T3 f er)/\XT q P W w'/\∃v,CN w' P [v,.slice none 0 0]
 | .hush=>True
section
variable {w0 W w w':World} {q P:Nat} {s:ByteArray} {p:Ps} {r:Hf (List Rl)} {c v:Value} {rs:List Rl}
theorem XD {f:Nat} {a:Int} (h:Gx w0 W q P s p c rs v w) (b:Ae q w w') (d:Hid (r = .bad f a)):ZW w0 W q P s r (.panicked (T3 f a)) w':=by
 rw[d.out];exact⟨rfl,h.o.then b fun g e => .inl (by injection e with e;exact e.symm),_,h.c.only b h.hn⟩
theorem Zp (h:Gx w0 W q P s p v rs v w) (a:Hid (.ok rs p=r)):ZW w0 W q P s r (.returned (.tuple #[])) w:=by
 rw[<- a.out];exact⟨rfl,_,h⟩
end
def Aar (w0:World) (q:Nat) (s:ByteArray) (R:Ps->Hf (List Rl)):Prop :=
 ∀(p:Ps) (P:Nat) (W:World),Pz w0 q s p W->P<W.heap.size->P≠q->w0.heap.size<=P->CN W P [.slice none 0 0,.slice none 0 0]->R p ≠ .hush ->
  Calls prog 10 #[.pointer (some ⟨q,0,none⟩),.pointer (some ⟨P,0,none⟩)] W (ZW w0 W q P s (R p))
theorem Aaw (W:World) (u:Rl) (pv kv:Value) (T:TypeId):∀j x,(AW [(u,pv,kv)])[j]?=some x->(W.alloc (.cells #[.int .i64 u.k,.int .i64 u.n,pv,.int .i64 u.b.kd,.string ⟨u.b.nm.toArray⟩,.float .f64 u.b.x,kv,.complex .f64 u.b.z.1 u.b.z.2,.complex .f64 u.z.1 u.z.2] T)).cell? ((⟨W.heap.size,0,none⟩:Addr).add j)=some x :=
 Z2 W (AW [(u,pv,kv)]) T
theorem Aax (u:Rl) (a b:Option Addr) (n m c d:Nat):∀x∈AW [(u,.slice a n c,.slice b m d)],x.oneCell'=true:=by
 intro x e;simp only[AW,aK,aL,List.append_nil,aB,List.not_mem_nil,or_false] at e;rcases e with rfl | rfl | rfl | rfl | rfl | rfl | rfl | rfl | rfl<;>rfl
theorem Aaj:(prog.info? 36).map (fun i=>(i.zero,i.size,i.bytes))=some (some (.agg #[.int .i64 0,.int .i64 0,.slice none 0 0,.int .i64 0,.string ⟨#[]⟩,.float .f64 0,.slice none 0 0,.complex .f64 0 0,.complex .f64 0 0]),9,128):=by kernel_rfl
section
variable {w0 W w w':World} {q B b:Nat} {s:ByteArray} {p:Ps} {l:List B5} {ks:List (List Tr×Value)} {v0 v1 v2 v3 v4 v5 v6 v7 v8:Value}
theorem Fx.box9 (h:Fx w0 W q B s p l ks w) (v0 v1 v2 v3 v4 v5 v6 v7 v8:Value) (T:TypeId):Fx w0 W q B s p (⟨w.heap.size,v0,v1,v2,v3,v4⟩::l) ks (w.alloc (.cells #[v0,v1,v2,v3,v4,v5,v6,v7,v8] T)) :=
 let g:=h.quiet (Ad w (.cells #[v0,v1,v2,v3,v4,v5,v6,v7,v8] T))
 ⟨g.z,g.o,g.hq,g.hw,g.hB,fun x a=>by rcases aB.1 a with rfl | a;exact⟨h.o.size,(CN.new w [v0,v1,v2,v3,v4,v5,v6,v7,v8] T).c5⟩;exact g.b x a,
   fun x a=>((h.k x a).mono (S':=Av B (⟨w.heap.size,v0,v1,v2,v3,v4⟩::l)) fun j f e=>⟨e.1,fun y c=>by rcases aB.1 c with rfl | c;exact Nat.ne_of_lt f;exact e.2 y c⟩).bel (Ad _ _),List.pairwise_cons.2 ⟨fun y c=>h.new y c,h.d⟩⟩
theorem _root_.Go.CN.all9 (h:CN w b [v0,v1,v2,v3,v4,v5,v6,v7,v8]) (u0 u1 u2 u3 u4 u5 u6 u7 u8:Value) :
  CN (((((((((w.setCell ⟨b,0,none⟩ u0).setCell ⟨b,1,none⟩ u1).setCell ⟨b,2,none⟩ u2).setCell ⟨b,3,none⟩ u3).setCell ⟨b,4,none⟩ u4).setCell ⟨b,5,none⟩ u5).setCell ⟨b,6,none⟩ u6).setCell ⟨b,7,none⟩ u7).setCell ⟨b,8,none⟩ u8) b [u0,u1,u2,u3,u4,u5,u6,u7,u8] :=
 ((((((((h.set 0 u0 (by simp)).set 1 u1 (by simp)).set 2 u2 (by simp)).set 3 u3 (by simp)).set 4 u4 (by simp)).set 5 u5 (by simp)).set 6 u6 (by simp)).set 7 u7 (by simp)).set 8 u8 (by simp)
theorem YG (w:World) (b:Nat) (u0 u1 u2 u3 u4 u5 u6 u7 u8:Value) :
  Ae b w (((((((((w.setCell ⟨b,0,none⟩ u0).setCell ⟨b,1,none⟩ u1).setCell ⟨b,2,none⟩ u2).setCell ⟨b,3,none⟩ u3).setCell ⟨b,4,none⟩ u4).setCell ⟨b,5,none⟩ u5).setCell ⟨b,6,none⟩ u6).setCell ⟨b,7,none⟩ u7).setCell ⟨b,8,none⟩ u8) :=
 (((((((((Ae.refl b w).set 0 u0).set 1 u1).set 2 u2).set 3 u3).set 4 u4).set 5 u5).set 6 u6).set 7 u7).set 8 u8
theorem Fx.old5 (h:Fx w0 W q B s p l ks w) (c:C5 W b v0 v1 v2 v3 v4) (a:b≠q):C5 w b v0 v1 v2 v3 v4:=c.only h.o a
theorem Fx.oldN {a:List Value} (h:Fx w0 W q B s p l ks w) (c:CN W b a) (d:b≠q):CN w b a:=c.only h.o d
structure Z' (W X:World) (q tb rb:Nat) (t:Tk):Prop where
 o:Ae q W X
 t:C5 X tb (.int .i64 t.kd) (.string ⟨t.tx.toArray⟩) (.float .f64 t.nm) (.int .i64 t.f) (.int .i64 t.t)
 r:CN X rb [.int .i64 0,.int .i64 0,.slice none 0 0,.int .i64 0,.string ⟨#[]⟩,.float .f64 0,.slice none 0 0,.complex .f64 0 0,.complex .f64 0 0]
 ht:tb≠q
 hr:rb≠q
 hW:W.heap.size<=rb
theorem Z'.start {s:ByteArray} {p:Ps} (h:Pz w0 q s p W) (t:Tk) (T U:TypeId):∃X b a,X=((W.alloc (.cells #[.int .i64 t.kd,.string ⟨t.tx.toArray⟩,.float .f64 t.nm,.int .i64 t.f,.int .i64 t.t] T)).alloc (.cells #[.int .i64 0,.int .i64 0,.slice none 0 0,.int .i64 0,.string ⟨#[]⟩,.float .f64 0,.slice none 0 0,.complex .f64 0 0,.complex .f64 0 0] U)) /\
  b=W.heap.size/\a=W.heap.size+1/\Z' W X q b a t/\Fx w0 X q X.heap.size s p [] [] X:=by
 have c:=h.lt;have b1:=Ad W (.cells #[.int .i64 t.kd,.string ⟨t.tx.toArray⟩,.float .f64 t.nm,.int .i64 t.f,.int .i64 t.t] T);have b2:=Ad (W.alloc (.cells #[.int .i64 t.kd,.string ⟨t.tx.toArray⟩,.float .f64 t.nm,.int .i64 t.f,.int .i64 t.t] T)) (.cells #[.int .i64 0,.int .i64 0,.slice none 0 0,.int .i64 0,.string ⟨#[]⟩,.float .f64 0,.slice none 0 0,.complex .f64 0 0,.complex .f64 0 0] U);refine⟨_,_,_,rfl,rfl,rfl,⟨(Ae.of_below q b1).trans (Ae.of_below q b2),(C5.new _ _ _ _ _ _ _).below b2,?_,by omega,by omega,by omega⟩,Fx.start ((h.keep b1).keep b2)⟩;have:=CN.new (W.alloc (.cells #[.int .i64 t.kd,.string ⟨t.tx.toArray⟩,.float .f64 t.nm,.int .i64 t.f,.int .i64 t.t] T)) [.int .i64 0,.int .i64 0,.slice none 0 0,.int .i64 0,.string ⟨#[]⟩,.float .f64 0,.slice none 0 0,.complex .f64 0 0,.complex .f64 0 0] U
 rw[show (W.alloc (.cells #[.int .i64 t.kd,.string ⟨t.tx.toArray⟩,.float .f64 t.nm,.int .i64 t.f,.int .i64 t.t] T)).heap.size=W.heap.size+1 by simp] at this;exact this
theorem Z'.done {X:World} {y a:Nat} {t:Tk} (g:Z' W X q y a t) (h:Fx w0 X q X.heap.size s p l ks w) (B:q<W.heap.size) (C:w0.heap.size<=W.heap.size) {r:Rl} {pv kv:Value} (i:(r.ps,pv)∈ks) (m:(r.b.ks,kv)∈ks) (u0 u1 u2 u3 u4 u5 u6 u7 u8:Value) {o:Hf Rl} (f:Hid (.ok r p=o)) :
  HJ q W o (ZQ w0 q s W) (.returned (Zh r pv kv)) (((((((((w.setCell ⟨a,0,none⟩ u0).setCell ⟨a,1,none⟩ u1).setCell ⟨a,2,none⟩ u2).setCell ⟨a,3,none⟩ u3).setCell ⟨a,4,none⟩ u4).setCell ⟨a,5,none⟩ u5).setCell ⟨a,6,none⟩ u6).setCell ⟨a,7,none⟩ u7).setCell ⟨a,8,none⟩ u8):=by
 have c:=YG w a u0 u1 u2 u3 u4 u5 u6 u7 u8;have u:=g.o.size;have A:=g.r.l;have n:=g.hW
 have d:∀x∈ks,Am 34 (((((((((w.setCell ⟨a,0,none⟩ u0).setCell ⟨a,1,none⟩ u1).setCell ⟨a,2,none⟩ u2).setCell ⟨a,3,none⟩ u3).setCell ⟨a,4,none⟩ u4).setCell ⟨a,5,none⟩ u5).setCell ⟨a,6,none⟩ u6).setCell ⟨a,7,none⟩ u7).setCell ⟨a,8,none⟩ u8) (W.heap.size <= ·) x.1 x.2:=fun x v =>
  ((h.k x v).only c (fun e=>by have:=e.1;omega)).mono fun j _ e=>aF u e.1
 exact O2 f ⟨⟨pv,kv,rfl,d _ i,d _ m⟩,h.z.other c (by omega) (by omega)⟩ ((g.o.trans h.o).under c n)
end
def KE (l:List UInt8) (k:Nat) (V:Value):Prop :=
 ∃(kd:Int) (a:List UInt8) (nm f t:Nat) (e:Int),V = .tuple #[Ap kd a nm f t,.int .i64 e]/\k<=f /\
  ((e≠0/\f<l.length/\t=0/\kd=0/\a=[])\/(e=0/\kd=0/\f=l.length/\t=l.length)\/(e=0/\kd≠0/\f<t/\t<=l.length))
theorem Mi (l:List UInt8) (q:Bool) (j:Value) (k:Nat) (r:k<=l.length) (p:CV l k->KE l k j):KE l k (AJ l q j k):=by
 unfold AJ;by_cases f:k<l.length
 ·rw[Aq l k f]
  dsimp only;have b:∀e:Int,e≠0->KE l k (.tuple #[Ap 0 [] 0 k 0,.int .i64 e]):=fun e o=>⟨0,[],0,k,0,e,rfl,aC _,.inl ⟨o,f,rfl,rfl,rfl⟩⟩;have a:∀(kd:Int) (g:List UInt8) (t:Nat),kd≠0->k<t->t<=l.length->KE l k (.tuple #[Ap kd g 0 k t,.int .i64 0]):=fun kd g t i c m=>⟨kd,g,0,k,t,0,rfl,aC _,.inr (.inr ⟨rfl,i,c,m⟩)⟩;split
  ·exact a 1 [] (k+1) (by omega) (by omega) (by omega)
  split
  ·rename_i h
   refine p ⟨f,h.elim .inl fun h => .inr ⟨h.1,?_⟩⟩;by_cases c:k+1<l.length
   ·refine⟨c,?_⟩
    have:=h.2;rw[Aq l (k+1) c] at this;exact aE.inj this
   have:=h.2;rw[aD (by omega)] at this;simp at this
  split
  ·rename_i h
   unfold DG
   have i:0<Al BI (l.drop k):=by
    rw[Aq l k f,Al,if_pos (by simp[BI,h])];omega
   have c:=Bp BI (l.drop k);rw[aA] at c;refine a _ _ _ ?_ (by unfold Co;omega) (by unfold Co;omega);unfold A6;repeat' split
   all_goals omega
  split
  ·unfold C7
   dsimp only;split
   ·exact b 21 (by omega)
   rename_i s
   obtain⟨t,d⟩:∃t:Nat,AF 34 l (k+1)=t:=⟨(AF 34 l (k+1)).toNat,by omega⟩;have n:=Cl 34 l (k+1) t d;rw[d];split
   ·exact b 22 (by omega)
   exact a 3 _ (t+1) (by omega) (by omega) (by omega)
  split
  ·unfold Cr
   dsimp only;split
   ·exact b 21 (by omega)
   obtain⟨t,d⟩:∃t:Nat,AF 47 l (k+1)=t:=⟨(AF 47 l (k+1)).toNat,by omega⟩;have n:=Cl 47 l (k+1) t d;rw[d];exact a 4 _ (t+1) (by omega) (by omega) (by omega)
  split
  ·rename_i h
   have c:=D5 (l.drop k);rw[aA,Aq l k f] at c;exact a 9 _ _ (by omega) (by omega) (by omega)
  exact b 20 (by omega)
 rw[aD (by omega)];exact⟨0,[],0,k,k,0,rfl,aC _,.inr (.inl ⟨rfl,rfl,by omega,by omega⟩)⟩
def Yr (l:List UInt8) (i:Nat):Tk :=
 if AF 34 l (i+1)<0 then ⟨0,[],0,i,0,21⟩
 else match FN (Bc l (i+1) (AF 34 l (i+1)).toNat) with
  | none=>⟨0,[],0,i,0,22⟩
  | some x=>⟨3,x,0,i,(AF 34 l (i+1)).toNat+1,0⟩
def Xx (l:List UInt8) (i:Nat):Tk :=
 if AF 47 l (i+1)<0 then ⟨0,[],0,i,0,21⟩ else ⟨4,Df (Bc l (i+1) (AF 47 l (i+1)).toNat),0,i,(AF 47 l (i+1)).toNat+1,0⟩
def Sc (l:List UInt8) (b:Bool) (a:Tk) (k:Nat):Tk :=
 match l.drop k with
 | []=>⟨0,[],0,k,k,0⟩
 | c::r =>
   if c=10 then ⟨1,[],0,k,k+1,0⟩
   else if Aj c=true\/(c=46/\(r.head?.map Aj)=some true) then a
   else if B2 c=true then ⟨A6 l k,Bc l k (Co l k),0,k,Co l k,0⟩
   else if c=34 then Yr l k
   else if c=47/\b=true then Xx l k
   else if 0<B6 (c::r) then ⟨9,Bc l k (k+B6 (c::r)),0,k,k+B6 (c::r),0⟩
   else ⟨0,[],0,k,0,20⟩
def YU (t:Tk):Value:=.tuple #[G1 t,.int .i64 t.e]
theorem ZN (l:List UInt8) (i:Nat):C7 l i=YU (Yr l i):=by
 unfold C7 Yr;dsimp only;by_cases h:AF 34 l (i+1)<0
 ·rw[if_pos h,if_pos h];rfl
 rw[if_neg h,if_neg h]
 cases FN (Bc l (i+1) (AF 34 l (i+1)).toNat) with
 | none=>rfl
 | some x=>unfold YU G1 Ap;dsimp only;rw[show (((AF 34 l (i+1)).toNat+1:Nat):Int)=AF 34 l (i+1)+1 by omega]
theorem Zg (l:List UInt8) (i:Nat):Cr l i=YU (Xx l i):=by
 unfold Cr Xx;dsimp only;by_cases h:AF 47 l (i+1)<0
 ·rw[if_pos h,if_pos h];rfl
 rw[if_neg h,if_neg h];unfold YU G1 Ap;dsimp only;rw[show (((AF 47 l (i+1)).toNat+1:Nat):Int)=AF 47 l (i+1)+1 by omega]
theorem Yn (l:List UInt8) (b:Bool) (a:Tk) (k:Nat):AJ l b (YU a) k=YU (Sc l b a k):=by
 unfold AJ Sc
 cases l.drop k with
 | nil=>rfl
 | cons c r =>
   dsimp only;split;rfl;split;rfl;split;rfl;split;exact ZN l k;split;exact Zg l k;split;rfl;rfl
theorem Rt:∀(f:Nat) (l x:List UInt8),KO f l=some x->x.length<=l.length
 | 0,_,_,h=>nomatch h
 | f+1,[],x,h=>by cases h;exact aC _
 | f+1,c::r,x,h=>by
   unfold KO at h;split at h
   ·obtain⟨y,a,rfl⟩:=aI.1 h
    have:=Rt f _ _ a;simp only[aH];omega
   split at h
   ·cases h
   obtain⟨y,a,rfl⟩:=aI.1 h;have:=Rt f _ _ a;rw[aA] at this;simp only[aH];omega
theorem TF:∀l:List UInt8,(Df l).length<=l.length
 | []=>aC _
 | [c]=>by unfold Df;split<;>simp
 | c::d::r=>by
   have b:=TF r;have a:=TF (d::r);unfold Df;split
   ·split<;>simp<;>omega
   simp only[aH] at a ⊢;omega
theorem NX (l:List UInt8) (a b:Nat):(Bc l a b).length<=l.length:=by unfold Bc;rw[List.length_take,aA];omega
theorem YE (l:List UInt8) (d:Bool) (b:Tk) (k:Nat) (c:CV l k->b.tx.length<=l.length):(Sc l d b k).tx.length<=l.length:=by
 unfold Sc;by_cases a:k<l.length
 ·rw[Aq l k a]
  dsimp only;split;simp;split
  ·rename_i h;exact c (Ft l k a h)
  split;exact NX _ _ _;split
  ·unfold Yr
   split;simp
   cases e:FN (Bc l (k+1) (AF 34 l (k+1)).toNat) with
   | none=>simp
   | some x=>exact aF (Rt _ _ _ e) (NX _ _ _)
  split
  ·unfold Xx
   split;simp;exact aF (TF _) (NX _ _ _)
  split;exact NX _ _ _;simp
 rw[aD (by omega)];simp
theorem Zz {l:List UInt8} {k:Nat} {t:Tk} (h:KE l k (YU t)) (q:t.e=0):k<=t.f/\t.f<=t.t/\t.t<=l.length/\(t.kd≠0->k<t.t):=by
 obtain⟨kd,u,nm,f,m,e,a,n,d⟩:=h;unfold YU G1 Ap at a;simp only[Value.tuple.injEq,Array.mk.injEq,List.cons.injEq,Value.agg.injEq,Value.int.injEq,true_and,and_true] at a;obtain⟨⟨b,-,-,r,s⟩,g⟩:=a;have i:t.f=f:=(by omega);have j:t.t=m:=(by omega);rcases d with⟨h,-⟩ | ⟨-,c,rfl,rfl⟩ | ⟨-,c,o,p⟩
 ·omega
 ·exact⟨by omega,by omega,by omega,fun h=>absurd (b.trans c) h⟩
 exact⟨by omega,by omega,by omega,fun _=>by omega⟩
def X8 (l:List UInt8) (b:Nat->Tk) (a:Nat) (c:Bool):Tk:=Sc l c (b (AL l a)) (AL l a)
theorem Z3 (s:ByteArray) (x:s.size<=4096) (b:Nat->Tk) (i:World) (g:∀k,CV s.data.toList k->KE s.data.toList k (YU (b k))/\(b k).tx.length<=s.size /\
  ∀W,Below i.heap.size i W->Calls prog 30 #[.string s,.int .i64 k] W fun e v=>e = .returned (YU (b k))/\Below W.heap.size W v):F2 (X8 s.data.toList b) s i:=by
 have w:s.data.toList.length=s.size:=rfl;refine⟨fun a d W ha l=>?_,fun a d ha u=>?_⟩
 ·have h:=Fs s a d W (YU (b (AL s.data.toList a))) _ _ _ _ _ _ rfl (by omega) ha fun c m t=>(g _ c).2.2 m (l.trans (t.mono l.size))
  rw[Yn] at h;exact h
 have f:a<=AL s.data.toList a/\AL s.data.toList a<=s.data.toList.length:=by
  unfold AL;have:=FC _ false (s.data.toList.drop a) (aC _);rw[aA] at this;omega
 have j:=Mi s.data.toList d (YU (b (AL s.data.toList a))) _ f.2 fun c=>(g _ c).1;rw[Yn] at j;obtain⟨n,o,p,q⟩:=Zz j u;have r:=YE s.data.toList d (b (AL s.data.toList a)) _ fun c=>(g _ c).2.1;exact⟨aF f.1 n,o,p,r,fun h=>Nat.lt_of_le_of_lt f.1 (q h)⟩
end Go.Proofs.YtjolfpcpcaocmaaGreatDoor
