/- Ma Fm Fa Fb -/
import Derived.Test.YtipfpohlnhmlpaaGreatDoorGd
import Derived.Test.YtipfpohlnhmlpaaGreatDoorGm
import Derived.Laws.AppendOwn
import Derived.OwnWalk
import Derived.Deep.Draws
import Derived.WalkKit
import Derived.Test.YtipfpohlnhmlpaaGreatDoorChecked
import Derived.Deep.DeepCutAuto
import Derived.Deep.CutBlock
import Derived.Lib.Hide
open Go.World renaming cell?_alloc_at->aA,frozen?_setCell->aD,cell?_of_block->aE,block_lt_of_cell?->aR,ownsRow_nil->aY
open Nat renaming le_refl->aB,lt_of_lt_of_le->aW
open UInt8 renaming ofNat->aC
open List renaming map_nil->aF,mem_singleton->aG,map_append->aH,map_cons->aI,append_assoc->aL,mem_append->aM,length_append->aP,getElem?_eq_getElem->aQ,length_map->aS,mem_append_right->aT,mem_append_left->aU,getElem?_take->aV,getElem?_map->aX,mem_map->aZ,size_toArray->bA,map_toArray->bB
open Array renaming getElem?_eq_some_iff->aJ
open Go.RowKit.Below renaming refl->aK
open Prod renaming fst->aN
open Go.Value renaming ownBlock->aO
namespace Go
open Go.RowKit
theorem Aa {w w':World} {a:Addr} {u:Value} (h:w.cell? a=some u) (b:Below w.heap.size w w'):w'.cell? a=some u:=(b.cell (aR w a h)).trans h
def Ah (L:List (Tr×Value)):List Value:=L.flatMap fun p=>[.int .i64 p.1.kd,.string ⟨p.1.nm.toArray⟩,.float .f64 p.1.x,p.2,.complex .f64 p.1.z.1 p.1.z.2]
theorem D0 (p:Tr×Value) (L:List (Tr×Value)):Ah (p::L) = .int .i64 p.1.kd :: .string ⟨p.1.nm.toArray⟩ :: .float .f64 p.1.x::p.2 :: .complex .f64 p.1.z.1 p.1.z.2::Ah L:=rfl
theorem K5 (L:List (Tr×Value)) (i:Nat) (p:Tr×Value) (h:L[i]?=some p):(Ah L)[5*i]?=some (.int .i64 p.1.kd)/\(Ah L)[5*i+1]?=some (.string ⟨p.1.nm.toArray⟩)/\(Ah L)[5*i+2]?=some (.float .f64 p.1.x)/\(Ah L)[5*i+3]?=some p.2/\(Ah L)[5*i+4]?=some (.complex .f64 p.1.z.1 p.1.z.2):=by
 induction L generalizing i with
 | nil=>simp at h
 | cons q L a =>
   rw[D0]
   cases i with
   | zero=>simp at h;subst h;simp
   | succ i =>
     rw[show 5*(i+1)=5*i+1+1+1+1+1 by omega];simp only[List.getElem?_cons_succ] at h ⊢;exact a i h
theorem BV (L:List (Tr×Value)):(Ah L).length=L.length*5:=by
 induction L with
 | nil=>rfl
 | cons p R a=>rw[D0];simp[a];omega
inductive Am (T:TypeId) (w:World):(Nat->Prop)->List Tr->Value->Prop
 | nil (S:Nat->Prop):Am T w S [] (.slice none 0 0)
 | row (S:Nat->Prop) (L:List (Tr×Value)) (b cap:Nat) (cur:Array Value) (hS:S b) (hg:w.heap[b]?=some (.cells cur T (0,0))) (hn:L.length<=cap) (hc:cap<=maxLen) (hs:cur.size=cap*5)
    (ht:cur.toList.take (L.length*5)=Ah L) (hk:∀p∈L,Am T w (fun j=>S j/\j≠b) p.1.ks p.2):Am T w S (L.map aN) (.slice (some ⟨b,0,none⟩) L.length cap)
section
variable {T:TypeId} {w w':World} {S S':Nat->Prop} {ks:List Tr} {v:Value}
theorem Am.mono (h:Am T w S ks v) (e:∀j,j<w.heap.size->S j->S' j):Am T w S' ks v:=by
 induction h generalizing S' with
 | nil=>exact .nil _
 | row S L b a c f d k g m n q o=>exact .row _ L b a c (e b (aJ.1 d).1 f) d k g m n fun p l=>o p l fun j i h=>⟨e j i h.1,h.2⟩
theorem Am.kept (h:Am T w S ks v) (_hs:w.heap.size<=w'.heap.size) (e:∀j,S j->j<w.heap.size->w'.heap[j]?=w.heap[j]?):Am T w' S ks v:=by
 induction h with
 | nil=>exact .nil _
 | row S L b a c d f k g m n q o=>exact .row _ L b a c d ((e b d (aJ.1 f).1).trans f) k g m n fun p l=>o p l fun j h i=>e j h.1 i
theorem Am.bel (h:Am T w S ks v) (a:Below w.heap.size w w'):Am T w' S ks v:=h.kept a.size fun j _ b=>a.block j b
theorem Am.only {b:Nat} (h:Am T w S ks v) (a:Ae b w w') (f:¬ S b):Am T w' S ks v:=h.kept a.size fun j d c=>a.block j c (fun e=>by injection e with e;subst e;exact f d)
theorem Am.slice (h:Am T w S ks v):∃a c,v = .slice a ks.length c:=by
 cases h with
 | nil=>exact⟨_,_,rfl⟩
 | row _ L b d e f i k g l m j=>exact⟨_,_,by rw[aS]⟩
theorem Am.cells (h:Am T w S ks v) (i:Nat) (e:i<ks.length):∃b cap g,v = .slice (some ⟨b,0,none⟩) ks.length cap/\∃t,ks[i]?=some t/\Am T w S t.ks g /\
  w.cell? ⟨b,5*i,none⟩=some (.int .i64 t.kd)/\w.cell? ⟨b,5*i+1,none⟩=some (.string ⟨t.nm.toArray⟩)/\w.cell? ⟨b,5*i+2,none⟩=some (.float .f64 t.x) /\
  w.cell? ⟨b,5*i+3,none⟩=some g/\w.cell? ⟨b,5*i+4,none⟩=some (.complex .f64 t.z.1 t.z.2):=by
 cases h with
 | nil=>simp at e
 | row _ L b cap d y q B A C s r =>
   rw[aS] at e;obtain⟨p,f⟩:∃p,L[i]?=some p:=⟨L[i],aQ e⟩
   have a:∀j u,(Ah L)[j]?=some u->w.cell? ⟨b,j,none⟩=some u:=by
    intro j u c;rw[cell_of_row w b j d T (0,0) q];rw[<- s,aV] at c;split at c
    ·simpa using c
    cases c
   obtain⟨k,l,m,n,o⟩:=K5 L i p f;exact⟨b,cap,p.2,by rw[aS],p.1,by rw[aX,f];rfl,(r p (List.mem_of_getElem? f)).mono fun _ _ h=>h.1,a _ _ k,a _ _ l,a _ _ m,a _ _ n,a _ _ o⟩
theorem Am.owns (h:Am T w S ks v) (B:Nat) (f:∀j,S j->B<=j):∃L:List (Tr×Value),L.map aN=ks/\w.ownsRow B T 5 v L.length (Ah L)/\(∀g,v.ownBlock=some g->S g)/\∀p∈L,Am T w (fun j=>S j/\some j≠v.ownBlock) p.1.ks p.2:=by
 cases h with
 | nil=>exact⟨[],rfl,aY ..,by simp[aO],by simp⟩
 | row _ L b a c d k m i o q l =>
   refine⟨L,rfl,⟨by rw[BV],.inr ⟨b,a,c,rfl,f b d,k,m,i,o,q⟩⟩,fun g e=>?_,fun p n=>(l p n).mono fun j _ h=>⟨h.1,?_⟩⟩
   ·simp only[aO,Option.some.injEq] at e;subst e;exact d
   simp only[aO];intro e;injection e with e;exact h.2 e
theorem Ev {B:Nat} {L:List (Tr×Value)} (h:w.ownsRow B T 5 v L.length (Ah L)) (d:∀g,v.ownBlock=some g->S g) (k:∀p∈L,Am T w (fun j=>S j/\some j≠v.ownBlock) p.1.ks p.2):Am T w S (L.map aN) v:=by
 rcases h.2 with⟨rfl,c⟩ | ⟨g,a,b,rfl,q,i,f,l,n,o⟩
 ·rw[List.eq_nil_of_length_eq_zero c];exact .nil _
 exact .row _ L g a b (d g rfl) i f l n o fun p m=>(k p m).mono fun j _ h=>⟨h.1,fun e=>h.2 (by rw[e];rfl)⟩
end
structure C5 (w:World) (b:Nat) (v0 v1 v2 v3 v4:Value):Prop where
 c0:w.cell? ⟨b,0,none⟩=some v0
 c1:w.cell? ⟨b,1,none⟩=some v1
 c2:w.cell? ⟨b,2,none⟩=some v2
 c3:w.cell? ⟨b,3,none⟩=some v3
 c4:w.cell? ⟨b,4,none⟩=some v4
 fz:∀j,w.frozen? ⟨b,j,none⟩=false
theorem C5.new (w:World) (v0 v1 v2 v3 v4:Value) (T:TypeId):C5 (w.alloc (.cells #[v0,v1,v2,v3,v4] T)) w.heap.size v0 v1 v2 v3 v4:=by
 refine⟨?_,?_,?_,?_,?_,fun j=>World.frozen?_alloc_at _ _ _ _ rfl⟩<;>(rw[aA _ _ _ _ rfl];rfl)
section
variable {w w':World} {b:Nat} {v0 v1 v2 v3 v4:Value}
theorem C5.lt (h:C5 w b v0 v1 v2 v3 v4):b<w.heap.size:=aR w _ h.c0
theorem C5.kept (h:C5 w b v0 v1 v2 v3 v4) (a:w'.heap[b]?=w.heap[b]?):C5 w' b v0 v1 v2 v3 v4 :=
 ⟨by rw[aE a];exact h.c0,by rw[aE a];exact h.c1,by rw[aE a];exact h.c2,by rw[aE a];exact h.c3,by rw[aE a];exact h.c4,fun j=>by rw[World.frozen?_of_block a];exact h.fz j⟩
theorem C5.below (h:C5 w b v0 v1 v2 v3 v4) (a:Below w.heap.size w w'):C5 w' b v0 v1 v2 v3 v4:=h.kept (a.block b h.lt)
theorem C5.alloc (h:C5 w b v0 v1 v2 v3 v4) (o:Obj):C5 (w.alloc o) b v0 v1 v2 v3 v4:=h.below ((aK _ _).alloc (aB _) o)
theorem C5.only {q:Nat} (h:C5 w b v0 v1 v2 v3 v4) (a:Ae q w w') (c:b≠q):C5 w' b v0 v1 v2 v3 v4:=h.kept (a.block b h.lt (fun e=>by injection e with e;omega))
theorem C5.set0 (h:C5 w b v0 v1 v2 v3 v4) (u:Value):C5 (w.setCell ⟨b,0,none⟩ u) b u v1 v2 v3 v4 :=
 ⟨A8 h.c0,by rw[Ag (Ai (by omega))];exact h.c1,by rw[Ag (Ai (by omega))];exact h.c2,by rw[Ag (Ai (by omega))];exact h.c3,by rw[Ag (Ai (by omega))];exact h.c4,fun j=>by rw[aD];exact h.fz j⟩
theorem C5.set1 (h:C5 w b v0 v1 v2 v3 v4) (u:Value):C5 (w.setCell ⟨b,1,none⟩ u) b v0 u v2 v3 v4 :=
 ⟨by rw[Ag (Ai (by omega))];exact h.c0,A8 h.c1,by rw[Ag (Ai (by omega))];exact h.c2,by rw[Ag (Ai (by omega))];exact h.c3,by rw[Ag (Ai (by omega))];exact h.c4,fun j=>by rw[aD];exact h.fz j⟩
theorem C5.set2 (h:C5 w b v0 v1 v2 v3 v4) (u:Value):C5 (w.setCell ⟨b,2,none⟩ u) b v0 v1 u v3 v4 :=
 ⟨by rw[Ag (Ai (by omega))];exact h.c0,by rw[Ag (Ai (by omega))];exact h.c1,A8 h.c2,by rw[Ag (Ai (by omega))];exact h.c3,by rw[Ag (Ai (by omega))];exact h.c4,fun j=>by rw[aD];exact h.fz j⟩
theorem C5.set3 (h:C5 w b v0 v1 v2 v3 v4) (u:Value):C5 (w.setCell ⟨b,3,none⟩ u) b v0 v1 v2 u v4 :=
 ⟨by rw[Ag (Ai (by omega))];exact h.c0,by rw[Ag (Ai (by omega))];exact h.c1,by rw[Ag (Ai (by omega))];exact h.c2,A8 h.c3,by rw[Ag (Ai (by omega))];exact h.c4,fun j=>by rw[aD];exact h.fz j⟩
theorem C5.set4 (h:C5 w b v0 v1 v2 v3 v4) (u:Value):C5 (w.setCell ⟨b,4,none⟩ u) b v0 v1 v2 v3 u :=
 ⟨by rw[Ag (Ai (by omega))];exact h.c0,by rw[Ag (Ai (by omega))];exact h.c1,by rw[Ag (Ai (by omega))];exact h.c2,by rw[Ag (Ai (by omega))];exact h.c3,A8 h.c4,fun j=>by rw[aD];exact h.fz j⟩
end
theorem Ae.under {b r:Nat} {a w:World} {w':World} (h:Ae b a w) (c:Ae r w w') (g:a.heap.size<=r):Ae b a w' :=
 ⟨c.os.trans h.os,c.tape.trans h.tape,c.output.trans h.output,Nat.le_trans h.size c.size,fun i f d=>(c.block i (aW f h.size) (fun e=>by injection e with e;omega)).trans (h.block i f d)⟩
theorem Ae.below_trans {b:Nat} {a w w':World} (h:Ae b a w) (c:Below w.heap.size w w'):Ae b a w':=h.trans (Ae.of_below b c)
structure Cp where
 ao:Option Addr
 n:Nat
 cap:Nat
 Z:Nat->Int
structure Ti (w0:World) (l:Cp) (b i:Nat) (W:World):Prop where
 below:Below w0.heap.size w0 W
 hb:w0.heap.size<=b
 row:l.n=0\/∃lb lo,l.ao=some ⟨lb,lo,none⟩/\∀j,j<l.n->w0.cell? ⟨lb,lo+j,none⟩=some (.int .i64 (l.Z j))
 c:∃(x y:Int) (f:Bool),C5 W b (.slice l.ao l.n l.cap) (.int .i64 i) (.int .i64 x) (.bool f) (.int .i64 y)
section
variable {w0 W W':World} {l:Cp} {b i:Nat}
theorem Ti.lt (h:Ti w0 l b i W):b<W.heap.size:=by
 obtain⟨x,y,f,a⟩:=h.c;exact a.lt
theorem Ti.keep (h:Ti w0 l b i W) (a:Below W.heap.size W W'):Ti w0 l b i W' :=
 ⟨h.below.trans (a.mono h.below.size),h.hb,h.row,by obtain⟨x,y,f,d⟩:=h.c;exact⟨x,y,f,d.below a⟩⟩
theorem Ti.only {r:Nat} (h:Ti w0 l b i W) (a:Ae r W W') (e:b<r):Ti w0 l b i W' :=
 ⟨a.below_of h.below (by have:=h.hb;omega) h.below.size,h.hb,h.row,by obtain⟨x,y,f,d⟩:=h.c;exact⟨x,y,f,d.only a (by omega)⟩⟩
end
def CH (w0:World) (l:Cp) (b I:Nat) (W:World):Prop:=∃i,i<=I/\Ti w0 l b i W
section
variable {w0 W W':World} {l:Cp} {b I:Nat}
theorem CH.lt (h:CH w0 l b I W):b<W.heap.size:=by obtain⟨i,_,h⟩:=h;exact h.lt
theorem CH.mono {J:Nat} (h:CH w0 l b I W) (a:I<=J):CH w0 l b J W:=by obtain⟨i,c,h⟩:=h;exact⟨i,by omega,h⟩
theorem CH.keep (h:CH w0 l b I W) (a:Below W.heap.size W W'):CH w0 l b I W':=by obtain⟨i,c,h⟩:=h;exact⟨i,c,h.keep a⟩
theorem CH.only {r:Nat} (h:CH w0 l b I W) (a:Ae r W W') (d:b<r):CH w0 l b I W':=by obtain⟨i,c,h⟩:=h;exact⟨i,c,h.only a d⟩
end
def Ff (T:TypeId) (P:Int->List UInt8->Nat->Prop) (w0:World) (l:Cp) (b:Nat) (W:World) (I c:Nat) (e:Ending) (w':World):Prop :=
 ∃(k:Int) (nm:List UInt8) (x:Nat) (a:Option Addr) (f d:Nat) (ks:List Tr),e = .returned (.agg #[.int .i64 k,.string ⟨nm.toArray⟩,.float .f64 x,.slice a f d,.complex .f64 0 0]) /\
  Am T w' (W.heap.size <= ·) ks (.slice a f d)/\Tr.All P (.mk k nm x (0,0) ks)/\(Tr.mk k nm x (0,0) ks).wt<=c/\CH w0 l b (I+c) w'/\Ae b W w'
structure Fr (T:TypeId) (P:Int->List UInt8->Nat->Prop) (w0:World) (l:Cp) (b:Nat) (W:World) (I c:Nat) (L:List (Tr×Value)) (Wk:World) (G:Option Nat) (k0:Int) (v3:Value):Prop where
 s:CH w0 l b (I+c) Wk
 o:Ae b W Wk
 hbW:b<W.heap.size
 r:C5 Wk W.heap.size (.int .i64 k0) (.string ⟨#[]⟩) (.float .f64 0) v3 (.complex .f64 0 0)
 k:∀p∈L,Am T Wk (fun j=>W.heap.size+1<=j/\some j≠G) p.1.ks p.2/\Tr.All P p.1
 wt:DN (L.map aN)<=c
section
variable {T:TypeId} {P:Int->List UInt8->Nat->Prop} {w0 W Wk W':World} {l:Cp} {b I c:Nat} {L:List (Tr×Value)} {G:Option Nat} {k0:Int} {v3:Value}
theorem Fr.start (a:TypeId) (h:CH w0 l b I W):Fr T P w0 l b W I 0 [] (W.alloc (.cells #[.int .i64 0,.string ⟨#[]⟩,.float .f64 0,.slice none 0 0,.complex .f64 0 0] a)) none 0 (.slice none 0 0) where
 s:=h.keep ((aK _ _).alloc (aB _) _)
 o:=Ae.of_below b ((aK _ _).alloc (aB _) _)
 hbW:=h.lt
 r:=C5.new ..
 k:=fun p c=>by cases c
 wt:=by rw[aF,AM];omega
theorem Fr.size (h:Fr T P w0 l b W I c L Wk G k0 v3):W.heap.size<Wk.heap.size:=h.r.lt
theorem Fr.below (h:Fr T P w0 l b W I c L Wk G k0 v3) (a:Below Wk.heap.size Wk W'):Fr T P w0 l b W I c L W' G k0 v3 where
 s:=h.s.keep a
 o:=h.o.below_trans a
 hbW:=h.hbW
 r:=h.r.below a
 k:=fun p d=>⟨(h.k p d).1.bel a,(h.k p d).2⟩
 wt:=h.wt
theorem Fr.alloc (h:Fr T P w0 l b W I c L Wk G k0 v3) (o:Obj):Fr T P w0 l b W I c L (Wk.alloc o) G k0 v3:=h.below ((aK _ _).alloc (aB _) o)
theorem Fr.step {d:Nat} (h:Fr T P w0 l b W I c L Wk G k0 v3) (f:CH w0 l b (I+c+d) W') (a:Ae b Wk W'):Fr T P w0 l b W I (c+d) L W' G k0 v3 where
 s:=by rw[<- Nat.add_assoc];exact f
 o:=h.o.trans a
 hbW:=h.hbW
 r:=h.r.only a (by have:=h.hbW;omega)
 k:=fun p e=>⟨(h.k p e).1.only a (by have:=h.hbW;omega),(h.k p e).2⟩
 wt:=by have:=h.wt;omega
theorem Fr.node {d:Nat} {k:Int} {nm:List UInt8} {x:Nat} {i:Value} {ks:List Tr} (h:Fr T P w0 l b W I c L Wk G k0 v3) (m:∀g,G=some g->g<Wk.heap.size) (n:Am T W' (Wk.heap.size <= ·) ks i) (t:Tr.All P (.mk k nm x (0,0) ks)) (w:(Tr.mk k nm x (0,0) ks).wt<=d) (u:CH w0 l b (I+c+d) W') (a:Ae b Wk W') :
  Fr T P w0 l b W I (c+d) (L++[(.mk k nm x (0,0) ks,i)]) W' G k0 v3 where
 s:=by rw[<- Nat.add_assoc];exact u
 o:=h.o.trans a
 hbW:=h.hbW
 r:=h.r.only a (by have:=h.hbW;omega)
 k:=fun p f=>by
  rcases aM.1 f with q | q
  ·exact⟨(h.k p q).1.only a (by have:=h.hbW;omega),(h.k p q).2⟩
  obtain rfl:=aG.1 q;exact⟨n.mono fun j _ v=>⟨by have:=h.size;omega,fun e=>by have:=m j e.symm;omega⟩,t⟩
 wt:=by
  have:=h.wt;rw[aH,B9,aI,aF,AK,AM];show DN _+((Tr.mk k nm x (0,0) ks).wt+0)<=_;omega
theorem Fr.leaf {k:Int} {nm:List UInt8} {x:Nat} (h:Fr T P w0 l b W I c L Wk G k0 v3) (e:P k nm x) (a:Below Wk.heap.size Wk W'):Fr T P w0 l b W I (c+1) (L++[(.mk k nm x (0,0) [],.slice none 0 0)]) W' G k0 v3 where
 s:=(h.s.keep a).mono (by omega)
 o:=h.o.below_trans a
 hbW:=h.hbW
 r:=h.r.below a
 k:=fun p d=>by
  rcases aM.1 d with q | q
  ·exact⟨(h.k p q).1.bel a,(h.k p q).2⟩
  obtain rfl:=aG.1 q;exact⟨.nil _,.mk _ _ _ _ _ e (by simp)⟩
 wt:=by
  have:=h.wt;rw[aH,B9,aI,aF,AK,AM,Tr.wt_mk,AM];omega
theorem Fr.kids {L1 L2:List (Tr×Value)} (h:Fr T P w0 l b W I c (L1++L2) Wk none k0 v3) (cap:Nat) (d:cap=L2.length) (e:L2.length<=maxLen) :
  Am T (Wk.alloc (.cells (Ah L2).toArray T)) (fun j=>W.heap.size+1<=j/\some j≠none) (L2.map aN) (.slice (some ⟨Wk.heap.size,0,none⟩) L2.length cap):=by
 subst d;exact .row _ L2 _ _ (Ah L2).toArray ⟨by have:=h.size;omega,by simp⟩ (heap_alloc_new Wk _) (aB _) e (by simpa using BV L2) (by rw[<- BV];simp) fun p f=>((h.k p (aT _ f)).1.mono fun j g a=>⟨a,by omega⟩).bel ((aK _ _).alloc (aB _) _)
theorem Fr.join {L1 L2:List (Tr×Value)} {cap:Nat} {k:Int} {nm:List UInt8} {x:Nat} (h:Fr T P w0 l b W I c (L1++L2) Wk none k0 v3) (g:P k nm x) (a:Below (Wk.alloc (.cells (Ah L2).toArray T)).heap.size (Wk.alloc (.cells (Ah L2).toArray T)) W') (e:cap=L2.length:=by rfl) (f:L2.length<=maxLen:=by(unfold maxLen;simp)) :
  Fr T P w0 l b W I (c+1) (L1++[(.mk k nm x (0,0) (L2.map aN),.slice (some ⟨Wk.heap.size,0,none⟩) L2.length cap)]) W' none k0 v3 where
 s:=((h.alloc _).s.keep a).mono (by omega)
 o:=(h.alloc _).o.below_trans a
 hbW:=h.hbW
 r:=(h.alloc _).r.below a
 k:=fun p d=>by
  rcases aM.1 d with q | q
  ·exact⟨((h.alloc _).k p (aU _ q)).1.bel a,(h.k p (aU _ q)).2⟩
  obtain rfl:=aG.1 q;refine⟨(h.kids cap e f).bel a,.mk _ _ _ _ _ g fun t j=>?_⟩;obtain⟨q,i,rfl⟩:=aZ.1 j;exact(h.k q (aT _ i)).2
 wt:=by
  have:=h.wt;rw[aH,B9] at this;rw[aH,B9,aI,aF,AK,AM,Tr.wt_mk];omega
theorem Fr.out {k:Int} {nm:List UInt8} {x:Nat} {a:Option Addr} {e d:Nat} {ks:List Tr} (h:Fr T P w0 l b W I c [(.mk k nm x (0,0) ks,.slice a e d)] Wk G k0 v3) :
  ∃Z,Z=((((Wk.setCell ⟨W.heap.size,0,none⟩ (.int .i64 k)).setCell ⟨W.heap.size,1,none⟩ (.string ⟨nm.toArray⟩)).setCell ⟨W.heap.size,2,none⟩ (.float .f64 x)).setCell ⟨W.heap.size,3,none⟩ (.slice a e d)).setCell ⟨W.heap.size,4,none⟩ (.complex .f64 0 0) /\
   C5 Z W.heap.size (.int .i64 k) (.string ⟨nm.toArray⟩) (.float .f64 x) (.slice a e d) (.complex .f64 0 0)/\Ff T P w0 l b W I c (.returned (.agg #[.int .i64 k,.string ⟨nm.toArray⟩,.float .f64 x,.slice a e d,.complex .f64 0 0])) Z:=by
 obtain⟨i,m⟩:=h.k _ (aG.2 rfl);have g:=h.wt;rw[aI,aF,AK,AM] at g
 have f:Ae W.heap.size Wk (((((Wk.setCell ⟨W.heap.size,0,none⟩ (.int .i64 k)).setCell ⟨W.heap.size,1,none⟩ (.string ⟨nm.toArray⟩)).setCell ⟨W.heap.size,2,none⟩ (.float .f64 x)).setCell ⟨W.heap.size,3,none⟩ (.slice a e d)).setCell ⟨W.heap.size,4,none⟩ (.complex .f64 0 0)) :=
  (((((Ae.refl _ Wk).set 0 _).set 1 _).set 2 _).set 3 _).set 4 _
 refine⟨_,rfl,((((h.r.set0 _).set1 _).set2 _).set3 _).set4 _,k,nm,x,a,e,d,ks,rfl,(i.only f (by omega)).mono (fun j _ n=>by omega),m,g,h.s.only f h.hbW,h.o.under f (aB _)⟩
theorem Fr.more {d:Nat} (h:Fr T P w0 l b W I c L Wk G k0 v3) (a:c<=d):Fr T P w0 l b W I d L Wk G k0 v3:=⟨h.s.mono (by omega),h.o,h.hbW,h.r,h.k,by have:=h.wt;omega⟩
end
theorem JP {P:Program} (w:World) (base:Nat) (t F e:TypeId) (i:TypeInfo) (z:Value) (size h:Nat) (H:P.underlying t=some (.slice e)) (G:P.info? e=some i) (L:i.zero=some z)
  (o:i.size=size) (B:i.bytes=h) (M:z.cells.size=size) (J:0<size)
  (v:Value) (n:Nat) (xs:List Value) (k:w.ownsRow base e size v n xs)
  (a:Addr) (m c:Nat) (b:List Value) (D:b.length=m*size) (f:∀j u,b[j]?=some u->w.cell? (a.add j)=some u) (N:∀u∈b,u.oneCell'=true)
  (A:n+m<=maxLen) (d:(n+m)*h<=140737488355328) (q:base<=w.heap.size) (U:0<m) :
  ∃v' w',(Builtin.append_ #[t,t] F #[v,.slice (some a) m c]).run P w = .ok v' w'/\w'.ownsRow base e size v' (n+m) (xs++b)/\w.grownBy w' v.ownBlock/\(v'.ownBlock=v.ownBlock\/v'.ownBlock=some w.heap.size):=by
 obtain⟨v',w',s,O,Q,_⟩:=run_append_own (P:=P) w base t F e i z size h H G L o B M J v n xs k a m c b D f N A d q;refine⟨v',w',s,O,Q,?_⟩;subst o B;have W:n+m<=9223372036854775807:=by simp only[maxLen] at A;omega
 rcases k.2 with⟨rfl,rfl⟩ | ⟨g,p,x,rfl,hbg,T,V,S,I,K⟩
 ·have E:=run_append_nil (P:=P) w t F e i z H G L a m c b D f (by omega) (by omega) (by have R:=d;simp only[Nat.zero_add] at R;omega)
  rw[E] at s;injection s with y _;subst y;exact .inr rfl
 by_cases l:n+m<=p
 ·have C:n*i.size+b.length<=x.size:=by rw[D,I,<- Nat.add_mul];exact Nat.mul_le_mul_right _ l
  have E:=run_append_room (P:=P) w t F e i H G g n p x T a m c b D f N l C;rw[E] at s;injection s with y _;subst y;exact .inl rfl
 have r:∀j u,xs[j]?=some u->w.cell? ((⟨g,0,none⟩:Addr).add j)=some u:=k.cells (g:=g) rfl;have E:=run_append_grow (P:=P) w t F e i z H G L ⟨g,0,none⟩ n p xs k.1 r a m c b D f (by omega) (by omega) (growslice_fits (by omega) d);rw[E] at s;injection s with y _;subst y;exact .inr rfl
theorem Bg {P:Program} (w:World) {r:Array Oper} {g:List Oper} {o:Oper} {a:Act} {Q:Exit->Act->World->Prop} (C:o.guard=none) (s x:Operand) (t:TypeId)
  (O:o.op = .call { callee:=.builtin .append,args := #[s,x],argTypes := #[t,t] })
  (base:Nat) (e:TypeId) (i:TypeInfo) (z:Value) (size d:Nat) (T:P.underlying t=some (.slice e)) (M:P.info? e=some i) (V:i.zero=some z)
  (p:i.size=size) (B:i.bytes=d) (F:z.cells.size=size) (E:0<size)
  (v:Value) (n:Nat) (xs:List Value) (S:a.eval s=v) (q:w.ownsRow base e size v n xs)
  (y:Addr) (m c:Nat) (b:List Value) (U:a.eval x = .slice (some y) m c) (N:b.length=m*size) (l:∀j u,b[j]?=some u->w.cell? (y.add j)=some u) (G:∀u∈b,u.oneCell'=true)
  (A:n+m<=maxLen) (f:(n+m)*d<=140737488355328) (k:base<=w.heap.size) (D:0<m)
  (h:∀v' w',w'.ownsRow base e size v' (n+m) (xs++b)->w.grownBy w' v.ownBlock->(v'.ownBlock=v.ownBlock\/v'.ownBlock=some w.heap.size)->wpList P r Q g (a.put o.dst v') w'):wpList P r Q (o::g) a w :=
 wpList_plain C fun K L=>by
  obtain⟨v',w',R,H,I,J⟩:=JP (P:=P) w base t o.type e i z size d T M V p B F E v n xs q y m c b N l G A f k D;unfold Oper.wp execOp;simp only[O,resolve,invoke,builtin,Sem.run_bind,Sem.run_pure,Result.andThen_ok,bB,aI,aF,S,U,R];exact L _ _ (h v' w' H I J)
structure DA (T:TypeId) (P:Int->List UInt8->Nat->Prop) (w0:World) (l:Cp) (b:Nat) (W:World) (I c:Nat) (L1 R X:List (Tr×Value)) (v:Value) (Wk:World) (k0:Int) (v3:Value):Prop where
 f:Fr T P w0 l b W I c (L1++R++X) Wk v.ownBlock k0 v3
 row:Wk.ownsRow (W.heap.size+1) T 5 v R.length (Ah R)
section
variable {P:Int->List UInt8->Nat->Prop} {w0 W Wk W':World} {l:Cp} {b I c:Nat} {T:TypeId} {L1 R X:List (Tr×Value)} {v:Value} {k0:Int} {v3:Value}
theorem DA.start (h:Fr T P w0 l b W I c L1 Wk none k0 v3):DA T P w0 l b W I c L1 [] [] (.slice none 0 0) Wk k0 v3:=⟨by simpa[aO] using h,aY ..⟩
theorem DA.lt (h:DA T P w0 l b W I c L1 R X v Wk k0 v3) (g:Nat) (a:v.ownBlock=some g):W.heap.size+1<=g/\g<Wk.heap.size:=h.row.lt g a
theorem GD {w w':World} {B:Nat} {e:TypeId} {k n:Nat} {v:Value} {x:List Value} (h:w.ownsRow B e k v n x) (a:Below w.heap.size w w'):w'.ownsRow B e k v n x :=
 h.kept (row:=none) ⟨a.os,a.tape,a.output,a.size,fun k b _=>a.block k b⟩ (by cases v.ownBlock<;>simp)
theorem DA.below (h:DA T P w0 l b W I c L1 R X v Wk k0 v3) (a:Below Wk.heap.size Wk W'):DA T P w0 l b W I c L1 R X v W' k0 v3:=⟨h.f.below a,GD h.row a⟩
theorem DA.alloc (h:DA T P w0 l b W I c L1 R X v Wk k0 v3) (o:Obj):DA T P w0 l b W I c L1 R X v (Wk.alloc o) k0 v3:=h.below ((aK _ _).alloc (aB _) o)
theorem DA.rowB (h:DA T P w0 l b W I c L1 R X v Wk k0 v3) (a:Ae b Wk W'):W'.ownsRow (W.heap.size+1) T 5 v R.length (Ah R) :=
 h.row.kept a (by
  cases d:v.ownBlock with
  | none=>exact .inl rfl
  | some g=>right;intro e;injection e with e;have:=h.lt g d;have:=h.f.hbW;omega)
theorem DA.step {d:Nat} (h:DA T P w0 l b W I c L1 R X v Wk k0 v3) (e:CH w0 l b (I+c+d) W') (a:Ae b Wk W'):DA T P w0 l b W I (c+d) L1 R X v W' k0 v3:=⟨h.f.step e a,h.rowB a⟩
theorem DA.node {d:Nat} {k:Int} {nm:List UInt8} {x:Nat} {e:Value} {ks:List Tr} (h:DA T P w0 l b W I c L1 R X v Wk k0 v3) (j:Am T W' (Wk.heap.size <= ·) ks e) (m:Tr.All P (.mk k nm x (0,0) ks)) (o:(Tr.mk k nm x (0,0) ks).wt<=d) (n:CH w0 l b (I+c+d) W') (a:Ae b Wk W') :
 DA T P w0 l b W I (c+d) L1 R (X++[(.mk k nm x (0,0) ks,e)]) v W' k0 v3:=⟨by rw[<- aL];exact h.f.node (fun g i=>(h.lt g i).2) j m o n a,h.rowB a⟩
theorem DA.more {d:Nat} (h:DA T P w0 l b W I c L1 R X v Wk k0 v3) (a:c<=d):DA T P w0 l b W I d L1 R X v Wk k0 v3:=⟨h.f.more a,h.row⟩
theorem DA.grow {t:Tr} {m v':Value} {o:Obj} (h:DA T P w0 l b W I c L1 R [(t,m)] v Wk k0 v3) (A:W'.ownsRow (W.heap.size+1) T 5 v' (R.length+1) (Ah R++Ah [(t,m)])) (a:(Wk.alloc o).grownBy W' v.ownBlock)
  (B:v'.ownBlock=v.ownBlock\/v'.ownBlock=some (Wk.alloc o).heap.size):DA T P w0 l b W I c L1 (R++[(t,m)]) [] v' W' k0 v3:=by
 have ha:=h.alloc o;have C:Ah (R++[(t,m)])=Ah R++Ah [(t,m)]:=by unfold Ah;rw[List.flatMap_append]
 refine⟨?_,by rw[C,aP];exact A⟩;rw[List.append_nil,<- aL]
 have i:Fr T P w0 l b W I c (L1++R++[(t,m)]) W' v.ownBlock k0 v3:=by
  cases u:v.ownBlock with
  | none =>
    rw[u] at a;have:=ha.f;rw[u] at this;exact this.below ⟨a.os,a.tape,a.output,a.size,fun k x=>a.block k x (by simp)⟩
  | some g =>
    rw[u] at a;have d:=ha.f;rw[u] at d;have E:=ha.lt g u;have w:=h.f.hbW;exact⟨d.s.only a (by omega),d.o.under a (by omega),w,d.r.only a (by omega),fun p q=>⟨(d.k p q).1.only a (by simp),(d.k p q).2⟩,d.wt⟩
 rcases B with e | e
 ·rw[e];exact i
 refine⟨i.s,i.o,i.hbW,i.r,fun p q=>⟨?_,(i.k p q).2⟩,i.wt⟩;have x:=(ha.f.k p q).1;have y:=x.mono (S':=fun j=>W.heap.size+1<=j/\some j≠v'.ownBlock/\some j≠v.ownBlock) fun j z n=>⟨n.1,by rw[e];intro h;injection h with h;omega,n.2⟩;exact(y.kept a.size fun j z D=>a.block j D z.2.2).mono fun j _ n=>⟨n.1,n.2.1⟩
theorem DA.kids (h:DA T P w0 l b W I c L1 R [] v Wk k0 v3):Am T Wk (fun j=>W.heap.size+1<=j/\some j≠none) (R.map aN) v :=
 Ev h.row (fun g d=>⟨(h.lt g d).1,by simp⟩) fun p e=>(h.f.k p (by simp[e])).1.mono fun j _ a=>⟨⟨a.1,by simp⟩,a.2⟩
theorem DA.join {k:Int} {nm:List UInt8} {x:Nat} (h:DA T P w0 l b W I c L1 R [] v Wk k0 v3) (g:P k nm x) (a:Below Wk.heap.size Wk W') :
  Fr T P w0 l b W I (c+1) (L1++[(.mk k nm x (0,0) (R.map aN),v)]) W' none k0 v3 where
 s:=(h.f.s.keep a).mono (by omega)
 o:=h.f.o.below_trans a
 hbW:=h.f.hbW
 r:=h.f.r.below a
 k:=fun p d=>by
  rcases aM.1 d with q | q
  ·exact⟨((h.f.k p (by simp[q])).1.bel a).mono fun j _ e=>⟨e.1,by simp⟩,(h.f.k p (by simp[q])).2⟩
  obtain rfl:=aG.1 q;refine⟨h.kids.bel a,.mk _ _ _ _ _ g fun t m=>?_⟩;obtain⟨q,i,rfl⟩:=aZ.1 m;exact(h.f.k q (by simp[i])).2
 wt:=by
  have:=h.f.wt;rw[List.append_nil,aH,B9] at this;rw[aH,B9,aI,aF,AK,AM,Tr.wt_mk];omega
theorem DA.put3 (h:DA T P w0 l b W I c L1 R X v Wk k0 v3):DA T P w0 l b W I c L1 R X v (Wk.setCell ⟨W.heap.size,3,none⟩ v) k0 v:=by
 have a:Ae W.heap.size Wk (Wk.setCell ⟨W.heap.size,3,none⟩ v):=(Ae.refl _ _).set 3 _;refine⟨⟨h.f.s.only a h.f.hbW,h.f.o.under a (aB _),h.f.hbW,h.f.r.set3 v,fun p d=>⟨(h.f.k p d).1.only a (by omega),(h.f.k p d).2⟩,h.f.wt⟩,?_⟩;refine h.row.kept a ?_
 cases i:v.ownBlock with
 | none=>exact .inl rfl
 | some g=>right;intro e;injection e with e;have:=h.lt g i;omega
end
theorem Fr.startK {T:TypeId} {P:Int->List UInt8->Nat->Prop} {w0 W:World} {l:Cp} {b I:Nat} (a:TypeId) (k0:Int) (h:CH w0 l b I W):Fr T P w0 l b W I 0 [] (W.alloc (.cells #[.int .i64 k0,.string ⟨#[]⟩,.float .f64 0,.slice none 0 0,.complex .f64 0 0] a)) none k0 (.slice none 0 0) where
 s:=h.keep ((aK _ _).alloc (aB _) _)
 o:=Ae.of_below b ((aK _ _).alloc (aB _) _)
 hbW:=h.lt
 r:=C5.new ..
 k:=fun p c=>by cases c
 wt:=by rw[aF,AM];omega
def B_ (w:World) (e:TypeId) (v:Value) (g:Nat) (xs:List Value):Prop :=
 ∃cap a,v = .slice (some ⟨g,0,none⟩) xs.length cap/\w.heap[g]?=some (.cells a e (0,0))/\xs.length<=cap/\cap<=maxLen/\a.size=cap/\a.toList.take xs.length=xs
theorem B_.own {w:World} {e:TypeId} {v:Value} {g:Nat} {xs:List Value} (h:B_ w e v g xs) (B:Nat) (k:B<=g):w.ownsRow B e 1 v xs.length xs:=by
 obtain⟨a,b,rfl,c,d,f,i,j⟩:=h;exact⟨by simp,.inr ⟨g,a,b,rfl,k,c,d,f,by simpa using i,by simpa using j⟩⟩
theorem B_.lt {w:World} {e:TypeId} {v:Value} {g:Nat} {xs:List Value} (h:B_ w e v g xs):g<w.heap.size:=by
 obtain⟨a,b,rfl,c,_⟩:=h;exact(aJ.1 c).1
theorem B_.kept {w w':World} {e:TypeId} {v:Value} {g:Nat} {xs:List Value} (h:B_ w e v g xs) (k:w'.heap[g]?=w.heap[g]?):B_ w' e v g xs:=by
 obtain⟨a,b,rfl,c,d,f,i,j⟩:=h;exact⟨a,b,rfl,k.trans c,d,f,i,j⟩
theorem Ja {P:Program} (w:World) (t H e:TypeId) (i:TypeInfo) (z:Value) (J:P.underlying t=some (.slice e)) (I:P.info? e=some i) (N:i.zero=some z)
  (d:i.size=1) (y:i.bytes=1) (G:z.cells.size=1)
  (v:Value) (g:Nat) (xs:List Value) (r:B_ w e v g xs)
  (a:Addr) (c:Nat) (b:List Value) (h:∀j u,b[j]?=some u->w.cell? (a.add j)=some u) (K:∀u∈b,u.oneCell'=true)
  (O:xs.length+b.length<=70368744177664) :
  ∃v' x w',(Builtin.append_ #[t,t] H #[v,.slice (some a) b.length c]).run P w = .ok v' w'/\B_ w' e v' x (xs++b)/\(x=g\/x=w.heap.size)/\w.grownBy w' (some g):=by
 obtain⟨f,n,rfl,B,M,A,L,m⟩:=r;by_cases l:xs.length+b.length<=f
 ·have F:=run_append_room (P:=P) w t H e i J I g xs.length f n B a b.length c b (by rw[d];simp) h K l (by rw[d];omega)
  refine⟨_,g,_,F,⟨f,_,by simp,setRow_heap w g n _ e _ B,by simpa using l,A,?_,?_⟩,.inl rfl,⟨rfl,rfl,rfl,by simp,fun k _ D=>setRow_other w g k _ (fun e=>D (by rw[e]))⟩⟩
  ·simp only[d,Nat.mul_one,bA,aP,List.length_take,List.length_drop,Array.length_toList]
   omega
  simp only[d,Nat.mul_one];rw[m];exact List.take_left
 have o:∀j u,xs[j]?=some u->w.cell? ((⟨g,0,none⟩:Addr).add j)=some u:=by
  intro j u s;have p:(⟨g,0,none⟩:Addr).add j=⟨g,j,none⟩:=by unfold Addr.add;split<;>simp_all
  rw[p,cell_of_row w g j n e (0,0) B];rw[<- m,aV] at s;split at s
  ·simpa using s
  cases s
 have E:xs.length+b.length<=maxLen:=by unfold maxLen;omega
 have F:=run_append_grow (P:=P) w t H e i z J I N ⟨g,0,none⟩ xs.length f xs (by rw[d];simp) o a b.length c b (by rw[d];simp) h (by omega) (by omega) (growslice_fits (by omega) (by rw[y];omega));have C:=grownCap_ge w (xs.length+b.length) f e;have q:grownCap w (xs.length+b.length) f e<=maxLen:=grownCap_le_maxLen w (xs.length+b.length) f e E;refine⟨_,w.heap.size,_,F,⟨_,_,by simp,Go.heap_alloc_new w.drew _,by simpa using C,q,?_,?_⟩,.inr rfl,⟨rfl,rfl,rfl,by simp,fun k D _=>Go.heap_alloc_old w.drew _ D⟩⟩
 ·simp only[Array.size_append,bA,size_zeroCells,G]
  omega
 simp only[Array.toList_append,aL];rw[<- aL];exact List.take_left
def Dy (w:World) (e:TypeId) (b:Nat) (v:Value) (wr:World) (a:List UInt8):Prop :=
 ∃g,B_ wr e v g (Ge a)/\(g=b\/w.heap.size<=g)/\w.grownBy wr (some b)
theorem Dy.start {w:World} {e:TypeId} {b:Nat} {v:Value} {a:List UInt8} (h:B_ w e v b (Ge a)):Dy w e b v w a:=⟨b,h,.inl rfl,World.grownBy.refl _ _⟩
theorem Dy.only {w wr:World} {e:TypeId} {b:Nat} {v:Value} {a:List UInt8} (h:Dy w e b v wr a):w.grownBy wr (some b):=h.choose_spec.2.2
theorem Dy.alloc {w wr:World} {e:TypeId} {d:Nat} {v:Value} {b:List UInt8} (h:Dy w e d v wr b) (o:Obj):Dy w e d v (wr.alloc o) b:=by
 obtain⟨g,f,j,a⟩:=h;exact⟨g,f.kept (Go.heap_alloc_old wr o f.lt),j,⟨a.os,a.tape,a.output,by have:=a.size;simp;omega,fun k i c=>(Go.heap_alloc_old wr o (aW i a.size)).trans (a.block k i c)⟩⟩
theorem Dy.drew {w wr:World} {e:TypeId} {c:Nat} {v:Value} {a:List UInt8} (h:Dy w e c v wr a):Dy w e c v wr.drew a:=by
 obtain⟨g,d,f,b⟩:=h;exact⟨g,d.kept rfl,f,⟨b.os,b.tape,b.output,b.size,b.block⟩⟩
theorem Dy.drewN {w wr:World} {e:TypeId} {c:Nat} {v:Value} {a:List UInt8} (h:Dy w e c v wr a) (n:Nat):Dy w e c v (wr.drewN n) a:=by
 obtain⟨g,d,f,b⟩:=h;exact⟨g,d.kept rfl,f,⟨b.os,b.tape,b.output,b.size,b.block⟩⟩
theorem AS {P:Program} (w:World) {y:Array Oper} {d:List Oper} {o:Oper} {a:Act} {Q:Exit->Act->World->Prop} (E:o.guard=none) (s x:Operand) (t:TypeId)
  (V:o.op = .call { callee:=.builtin .append,args := #[s,x],argTypes := #[t,t] })
  (e:TypeId) (i:TypeInfo) (z:Value) (X:P.underlying t=some (.slice e)) (S:P.info? e=some i) (Z:i.zero=some z)
  (m:i.size=1) (D:i.bytes=1) (F:z.cells.size=1)
  (L:World) (G:Nat) (v:Value) (b new:List UInt8) (W:a.eval s=v) (r:Dy L e G v w b)
  (B:Addr) (c n:Nat) (Y:a.eval x = .slice (some B) n c) (U:n=new.length) (l:∀j (h:j<new.length),w.cell? (B.add j)=some (.int .u8 new[j].toNat))
  (R:b.length+new.length<=70368744177664)
  (h:∀v' w',Dy L e G v' w' (b++new)->wpList P y Q d (a.put o.dst v') w'):wpList P y Q (o::d) a w :=
 wpList_plain E fun K O=>by
  subst U;obtain⟨g,N,C,f⟩:=r;have I:(Ge new).length=new.length:=E' new
  obtain⟨v',M,w',J,r1,r2,A⟩:=Ja (P:=P) w t o.type e i z X S Z m D F v g (Ge b) N B c (Ge new) (fun j u p=>by
   have H:j<new.length:=by
    have:=(List.getElem?_eq_some_iff.1 p).1
    rwa [I] at this
   rw[l j H];simp only[Ge,aX,aQ H,Option.map_some] at p
   exact p) (fun u p=>by simp only[Ge,aZ] at p;obtain⟨x,_,rfl⟩:=p;rfl) (by simpa[E'] using R)
  rw[I] at J;unfold Oper.wp;simp only[execOp,V,resolve,invoke,builtin,Sem.run_bind,Sem.run_pure,Result.andThen_ok,bB,aI,aF,W,Y,J];refine O _ _ (h v' w' ⟨M,by rw[show Ge (b++new)=Ge b++Ge new by simp[Ge]];exact r1,?_,?_⟩)
  ·rcases r2 with rfl | rfl
   ·exact C
   have:=f.size;exact .inr (by omega)
  refine⟨A.os.trans f.os,A.tape.trans f.tape,A.output.trans f.output,by have:=f.size;have:=A.size;omega,fun k T q=>?_⟩;rw[A.block k (by have:=f.size;omega) (fun e=>?_),f.block k T q];cases e;rcases C with rfl | C
  ·exact q rfl
  omega
theorem Bl {n:Nat} (h:n<256):((aC n).toNat:Int)=n:=by rw[UInt8.toNat_ofNat'];omega
theorem Bd (wr:World) (T:TypeId) (x:Int) (c:UInt8) (h:x=c.toNat):∀j (a:j<[c].length),(wr.alloc (.cells #[.int .u8 x] T)).cell? ((⟨wr.heap.size,0,none⟩:Addr).add j)=some (.int .u8 ([c][j]).toNat):=by
 intro j a;have:j=0:=(by simpa using a);subst this;rw[Addr.add_lit,aA _ _ _ _ rfl,h];rfl
theorem JW (wr:World) (T:TypeId) (x y:Int) (c d:UInt8) (h:x=c.toNat) (b:y=d.toNat):∀j (a:j<[c,d].length),(wr.alloc (.cells #[.int .u8 x,.int .u8 y] T)).cell? ((⟨wr.heap.size,0,none⟩:Addr).add j)=some (.int .u8 ([c,d][j]).toNat):=by
 intro j a;have e:j<2:=a;obtain rfl | rfl:j=0\/j=1:=by omega
 ·rw[Addr.add_lit,aA _ _ _ _ rfl,h];rfl
 rw[Addr.add_lit,aA _ _ _ _ rfl,b];rfl
theorem O9 (wr:World) (T:TypeId) (x y z:Int) (c d g:UInt8) (h:x=c.toNat) (e:y=d.toNat) (a:z=g.toNat):∀j (b:j<[c,d,g].length),(wr.alloc (.cells #[.int .u8 x,.int .u8 y,.int .u8 z] T)).cell? ((⟨wr.heap.size,0,none⟩:Addr).add j)=some (.int .u8 ([c,d,g][j]).toNat):=by
 intro j b;have f:j<3:=b;obtain rfl | rfl | rfl:j=0\/j=1\/j=2:=by omega
 ·rw[Addr.add_lit,aA _ _ _ _ rfl,h];rfl
 ·rw[Addr.add_lit,aA _ _ _ _ rfl,e];rfl
 rw[Addr.add_lit,aA _ _ _ _ rfl,a];rfl
end Go
namespace Go.Proofs.YtipfpohlnhmlpaaGreatDoor
def B5 (f:Nat->Nat) (i n:Nat):List UInt8:=(List.range n).map fun k=>aC (f (i+k))
def Bz (n:Nat):List UInt8:=List.replicate n 48
theorem Nb (f:Nat->Nat) (i:Nat):B5 f i 0=[]:=rfl
theorem IC (f:Nat->Nat) (i n:Nat):B5 f i (n+1)=B5 f i n++[aC (f (i+n))]:=by simp[B5,List.range_succ]
theorem Cm (f:Nat->Nat) (i n:Nat):(B5 f i n).length=n:=by simp[B5]
theorem Ed (n:Nat):Bz (n+1)=Bz n++[48]:=by unfold Bz;rw[<- List.replicate_succ']
theorem Dg (n:Nat):(Bz n).length=n:=by simp[Bz]
theorem Eh:(∀(a b:List UInt8),(a++b).length=a.length+b.length)/\(∀(c:UInt8) (l:List UInt8),(c::l).length=l.length+1)/\([]:List UInt8).length=0/\(∀f i n,(B5 f i n).length=n)/\(∀n,(Bz n).length=n) :=
 ⟨fun _ _=>aP,fun _ _=>rfl,rfl,Cm,Dg⟩
def JQ (a:Bool):List UInt8:=if a=true then [45] else []
theorem Sv (a:Bool):(JQ a).length<=1:=by unfold JQ;split<;>simp
def JG (e:Nat):List UInt8 :=
 if e<10 then [48,aC (e+48)] else if e<100 then [aC (e/10+48),aC (e%10+48)] else [aC (e/100+48),aC (e/10%10+48),aC (e%10+48)]
def LV (a:Nat) (e:Int):List UInt8:=[aC a,if e<0 then 45 else 43]++JG e.natAbs
def OG (f:Nat->Nat) (nd:Nat) (a:Int):List UInt8 :=
 [if nd=0 then 48 else aC (f 0)] ++
   (if 0<a then [46]++B5 f 1 (min nd (a.toNat+1)-1)++Bz (a.toNat+1-max 1 (min nd (a.toNat+1))) else [])
def Ry (c:Bool) (f:Nat->Nat) (nd:Nat) (dp a:Int) (b:Nat):List UInt8 :=
 JQ c++OG f nd a++LV b (if nd=0 then 0 else dp-1)
def Gf (f:Nat->Nat) (nd:Nat) (dp:Int):List UInt8:=if 0<dp then B5 f 0 (min nd dp.toNat)++Bz (dp.toNat-min nd dp.toNat) else [48]
def Nv (dp a:Int):Nat:=min a.toNat (-dp).toNat
def K3 (nd:Nat) (dp a:Int):Nat:=min (a.toNat-Nv dp a) (nd-(dp+Nv dp a).toNat)
def Gq (f:Nat->Nat) (nd:Nat) (dp a:Int):List UInt8 :=
 if 0<a then [46]++Bz (Nv dp a)++B5 f (dp+Nv dp a).toNat (K3 nd dp a)++Bz (a.toNat-Nv dp a-K3 nd dp a) else []
def RB (b:Bool) (f:Nat->Nat) (nd:Nat) (dp a:Int):List UInt8:=JQ b++Gf f nd dp++Gq f nd dp a
def gE (nd:Nat) (dp a:Int) (b:Bool):Bool :=
 decide (dp-1 < -4)||decide ((if b=true then 6 else if a>nd/\(nd:Int)>=dp then (nd:Int) else a)<=dp-1)
def Ic (c:Bool) (f:Nat->Nat) (nd:Nat) (dp a:Int) (b:Nat) (d:Bool):List UInt8 :=
 if b=103\/b=71 then
  (if gE nd dp a d=true then Ry c f nd dp (min a nd-1) (b-2) else RB c f nd dp (max ((if a>dp then (nd:Int) else a)-dp) 0))
 else if b=102 then RB c f nd dp a
 else Ry c f nd dp a b
open Go.Proofs.Tryz
open Go.RowKit
theorem Tryz.info_u8':(prog.info? 5).map (fun i=>(i.zero,i.size,i.bytes))=some (some (.int .u8 0),1,1):=by kernel_rfl
def M_ (w:World) (a:Nat) (c:Value) (f:Nat->Nat) (nd:Nat) (dp:Int):Prop :=
 (nd=0/\dp<=0)\/(∃b len cap:Nat,c = .slice (some ⟨b,0,none⟩) len cap/\nd<=len/\len<=cap/\cap<=1000/\0<cap/\b≠a/\∀i,i<nd->w.cell? ⟨b,i,none⟩=some (.int .u8 (f i)))
def g5 (nd:Nat) (dp a:Int) (b:Nat) (c:Bool):Int :=
 if b=103\/b=71 then (if gE nd dp a c=true then min a nd-1 else max ((if a>dp then (nd:Int) else a)-dp) 0) else a
def g6 (nd:Nat) (dp b:Int) (a:Nat) (c:Bool):Nat :=
 if a=103\/a=71 then (if gE nd dp b c=true then a-2 else 102) else a
theorem RC (d:Bool) (f:Nat->Nat) (nd:Nat) (dp b:Int) (a:Nat) (c:Bool) (_hf:a=101\/a=69\/a=102\/a=103\/a=71) :
  Ic d f nd dp b a c=if g6 nd dp b a c=102 then RB d f nd dp (g5 nd dp b a c) else Ry d f nd dp (g5 nd dp b a c) (g6 nd dp b a c):=by
 unfold Ic g5 g6;split
 ·split
  ·rw[if_neg (by omega)]
  rw[if_pos rfl]
 rfl
end Go.Proofs.YtipfpohlnhmlpaaGreatDoor
