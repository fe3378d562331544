/- Ma -/
import Derived.Test.YtfblenhlildnaaaGreatDoorMp
import Derived.Test.YtfblenhlildnaaaGreatDoorGm
import Derived.Laws.AppendOwn
import Derived.OwnWalk
import Derived.Deep.Draws
open Go.World renaming frozen?_setCell->aA,cell?_of_block->aB,block_lt_of_cell?->aF,ownsRow_nil->aL
open Nat renaming le_refl->aC
open Go.Value renaming ownBlock->aE
open List renaming map_nil->aH,length_map->aI,map_cons->aJ,mem_singleton->aK
namespace Go
open Go.RowKit
theorem Aa {w w':World} {a:Addr} {u:Value} (h:w.cell? a=some u) (b:Below w.heap.size w w'):w'.cell? a=some u:=(b.cell (aF w a h)).trans h
def Ah (L:List (Tr×Value)):List Value:=L.flatMap fun p=>[.int .i64 p.1.kd,.string ⟨p.1.nm.toArray⟩,.float .f64 p.1.x,p.2,.complex .f64 p.1.z.1 p.1.z.2]
theorem D0 (p:Tr×Value) (L:List (Tr×Value)):Ah (p::L) = .int .i64 p.1.kd :: .string ⟨p.1.nm.toArray⟩ :: .float .f64 p.1.x::p.2 :: .complex .f64 p.1.z.1 p.1.z.2::Ah L:=rfl
theorem K5 (L:List (Tr×Value)) (i:Nat) (p:Tr×Value) (h:L[i]?=some p):(Ah L)[5*i]?=some (.int .i64 p.1.kd)/\(Ah L)[5*i+1]?=some (.string ⟨p.1.nm.toArray⟩)/\(Ah L)[5*i+2]?=some (.float .f64 p.1.x)/\(Ah L)[5*i+3]?=some p.2/\(Ah L)[5*i+4]?=some (.complex .f64 p.1.z.1 p.1.z.2):=by
 induction L generalizing i with
 | nil=>simp at h
 | cons q L a =>
   rw[D0]
   cases i with
   | zero=>simp at h;subst h;simp
   | succ i =>
     rw[show 5*(i+1)=5*i+1+1+1+1+1 by omega];simp only[List.getElem?_cons_succ] at h ⊢;exact a i h
theorem BV (L:List (Tr×Value)):(Ah L).length=L.length*5:=by
 induction L with
 | nil=>rfl
 | cons p R a=>rw[D0];simp[a];omega
inductive Am (T:TypeId) (w:World):(Nat->Prop)->List Tr->Value->Prop
 | nil (S:Nat->Prop):Am T w S [] (.slice none 0 0)
 | row (S:Nat->Prop) (L:List (Tr×Value)) (b cap:Nat) (cur:Array Value) (hS:S b) (hg:w.heap[b]?=some (.cells cur T (0,0))) (hn:L.length<=cap) (hc:cap<=maxLen) (hs:cur.size=cap*5)
    (ht:cur.toList.take (L.length*5)=Ah L) (hk:∀p∈L,Am T w (fun j=>S j/\j≠b) p.1.ks p.2):Am T w S (L.map Prod.fst) (.slice (some ⟨b,0,none⟩) L.length cap)
section
variable {T:TypeId} {w w':World} {S S':Nat->Prop} {ks:List Tr} {v:Value}
theorem Am.mono (h:Am T w S ks v) (e:∀j,j<w.heap.size->S j->S' j):Am T w S' ks v:=by
 induction h generalizing S' with
 | nil=>exact .nil _
 | row S L b a c f d k g m n q o=>exact .row _ L b a c (e b (Array.getElem?_eq_some_iff.1 d).1 f) d k g m n fun p l=>o p l fun j i h=>⟨e j i h.1,h.2⟩
theorem Am.kept (h:Am T w S ks v) (_hs:w.heap.size<=w'.heap.size) (e:∀j,S j->j<w.heap.size->w'.heap[j]?=w.heap[j]?):Am T w' S ks v:=by
 induction h with
 | nil=>exact .nil _
 | row S L b a c d f k g m n q o=>exact .row _ L b a c d ((e b d (Array.getElem?_eq_some_iff.1 f).1).trans f) k g m n fun p l=>o p l fun j h i=>e j h.1 i
theorem Am.bel (h:Am T w S ks v) (a:Below w.heap.size w w'):Am T w' S ks v:=h.kept a.size fun j _ b=>a.block j b
theorem Am.only {b:Nat} (h:Am T w S ks v) (a:Ae b w w') (f:¬ S b):Am T w' S ks v:=h.kept a.size fun j d c=>a.block j c (fun e=>by injection e with e;subst e;exact f d)
theorem Am.slice (h:Am T w S ks v):∃a c,v = .slice a ks.length c:=by
 cases h with
 | nil=>exact⟨_,_,rfl⟩
 | row _ L b d e f i k g l m j=>exact⟨_,_,by rw[aI]⟩
theorem Am.cells (h:Am T w S ks v) (i:Nat) (f:i<ks.length):∃b c kv,v = .slice (some ⟨b,0,none⟩) ks.length c/\∃t,ks[i]?=some t/\Am T w S t.ks kv /\
  w.cell? ⟨b,5*i,none⟩=some (.int .i64 t.kd)/\w.cell? ⟨b,5*i+1,none⟩=some (.string ⟨t.nm.toArray⟩)/\w.cell? ⟨b,5*i+2,none⟩=some (.float .f64 t.x) /\
  w.cell? ⟨b,5*i+3,none⟩=some kv/\w.cell? ⟨b,5*i+4,none⟩=some (.complex .f64 t.z.1 t.z.2):=by
 cases h with
 | nil=>simp at f
 | row _ L b c e y q B A C s r =>
   rw[aI] at f;obtain⟨p,g⟩:∃p,L[i]?=some p:=⟨L[i],List.getElem?_eq_getElem f⟩
   have a:∀j u,(Ah L)[j]?=some u->w.cell? ⟨b,j,none⟩=some u:=by
    intro j u d;rw[cell_of_row w b j e T (0,0) q];rw[<- s,List.getElem?_take] at d;split at d
    ·simpa using d
    cases d
   obtain⟨k,l,m,n,o⟩:=K5 L i p g;exact⟨b,c,p.2,by rw[aI],p.1,by rw[List.getElem?_map,g];rfl,(r p (List.mem_of_getElem? g)).mono fun _ _ h=>h.1,a _ _ k,a _ _ l,a _ _ m,a _ _ n,a _ _ o⟩
theorem Am.owns (h:Am T w S ks v) (B:Nat) (f:∀j,S j->B<=j):∃L:List (Tr×Value),L.map Prod.fst=ks/\w.ownsRow B T 5 v L.length (Ah L)/\(∀g,v.ownBlock=some g->S g)/\∀p∈L,Am T w (fun j=>S j/\some j≠v.ownBlock) p.1.ks p.2:=by
 cases h with
 | nil=>exact⟨[],rfl,aL ..,by simp[aE],by simp⟩
 | row _ L b a c d k m i o q l =>
   refine⟨L,rfl,⟨by rw[BV],.inr ⟨b,a,c,rfl,f b d,k,m,i,o,q⟩⟩,fun g e=>?_,fun p n=>(l p n).mono fun j _ h=>⟨h.1,?_⟩⟩
   ·simp only[aE,Option.some.injEq] at e;subst e;exact d
   simp only[aE];intro e;injection e with e;exact h.2 e
theorem AdD {B:Nat} {L:List (Tr×Value)} (h:w.ownsRow B T 5 v L.length (Ah L)) (d:∀g,v.ownBlock=some g->S g) (k:∀p∈L,Am T w (fun j=>S j/\some j≠v.ownBlock) p.1.ks p.2):Am T w S (L.map Prod.fst) v:=by
 rcases h.2 with⟨rfl,c⟩ | ⟨g,a,b,rfl,q,i,f,l,n,o⟩
 ·rw[List.eq_nil_of_length_eq_zero c];exact .nil _
 exact .row _ L g a b (d g rfl) i f l n o fun p m=>(k p m).mono fun j _ h=>⟨h.1,fun e=>h.2 (by rw[e];rfl)⟩
end
structure C5 (w:World) (b:Nat) (v0 v1 v2 v3 v4:Value):Prop where
 c0:w.cell? ⟨b,0,none⟩=some v0
 c1:w.cell? ⟨b,1,none⟩=some v1
 c2:w.cell? ⟨b,2,none⟩=some v2
 c3:w.cell? ⟨b,3,none⟩=some v3
 c4:w.cell? ⟨b,4,none⟩=some v4
 fz:∀j,w.frozen? ⟨b,j,none⟩=false
theorem C5.new (w:World) (v0 v1 v2 v3 v4:Value) (T:TypeId):C5 (w.alloc (.cells #[v0,v1,v2,v3,v4] T)) w.heap.size v0 v1 v2 v3 v4:=by
 refine⟨?_,?_,?_,?_,?_,fun j=>World.frozen?_alloc_at _ _ _ _ rfl⟩<;>(rw[World.cell?_alloc_at _ _ _ _ rfl];rfl)
section
variable {w w':World} {b:Nat} {v0 v1 v2 v3 v4:Value}
theorem C5.lt (h:C5 w b v0 v1 v2 v3 v4):b<w.heap.size:=aF w _ h.c0
theorem C5.kept (h:C5 w b v0 v1 v2 v3 v4) (a:w'.heap[b]?=w.heap[b]?):C5 w' b v0 v1 v2 v3 v4 :=
 ⟨by rw[aB a];exact h.c0,by rw[aB a];exact h.c1,by rw[aB a];exact h.c2,by rw[aB a];exact h.c3,by rw[aB a];exact h.c4,fun j=>by rw[World.frozen?_of_block a];exact h.fz j⟩
theorem C5.below (h:C5 w b v0 v1 v2 v3 v4) (a:Below w.heap.size w w'):C5 w' b v0 v1 v2 v3 v4:=h.kept (a.block b h.lt)
theorem C5.alloc (h:C5 w b v0 v1 v2 v3 v4) (o:Obj):C5 (w.alloc o) b v0 v1 v2 v3 v4:=h.below ((Below.refl _ _).alloc (aC _) o)
theorem C5.only {q:Nat} (h:C5 w b v0 v1 v2 v3 v4) (a:Ae q w w') (c:b≠q):C5 w' b v0 v1 v2 v3 v4:=h.kept (a.block b h.lt (fun e=>by injection e with e;omega))
theorem C5.set0 (h:C5 w b v0 v1 v2 v3 v4) (u:Value):C5 (w.setCell ⟨b,0,none⟩ u) b u v1 v2 v3 v4 :=
 ⟨A8 h.c0,by rw[Ag (Ai (by omega))];exact h.c1,by rw[Ag (Ai (by omega))];exact h.c2,by rw[Ag (Ai (by omega))];exact h.c3,by rw[Ag (Ai (by omega))];exact h.c4,fun j=>by rw[aA];exact h.fz j⟩
theorem C5.set1 (h:C5 w b v0 v1 v2 v3 v4) (u:Value):C5 (w.setCell ⟨b,1,none⟩ u) b v0 u v2 v3 v4 :=
 ⟨by rw[Ag (Ai (by omega))];exact h.c0,A8 h.c1,by rw[Ag (Ai (by omega))];exact h.c2,by rw[Ag (Ai (by omega))];exact h.c3,by rw[Ag (Ai (by omega))];exact h.c4,fun j=>by rw[aA];exact h.fz j⟩
theorem C5.set2 (h:C5 w b v0 v1 v2 v3 v4) (u:Value):C5 (w.setCell ⟨b,2,none⟩ u) b v0 v1 u v3 v4 :=
 ⟨by rw[Ag (Ai (by omega))];exact h.c0,by rw[Ag (Ai (by omega))];exact h.c1,A8 h.c2,by rw[Ag (Ai (by omega))];exact h.c3,by rw[Ag (Ai (by omega))];exact h.c4,fun j=>by rw[aA];exact h.fz j⟩
theorem C5.set3 (h:C5 w b v0 v1 v2 v3 v4) (u:Value):C5 (w.setCell ⟨b,3,none⟩ u) b v0 v1 v2 u v4 :=
 ⟨by rw[Ag (Ai (by omega))];exact h.c0,by rw[Ag (Ai (by omega))];exact h.c1,by rw[Ag (Ai (by omega))];exact h.c2,A8 h.c3,by rw[Ag (Ai (by omega))];exact h.c4,fun j=>by rw[aA];exact h.fz j⟩
theorem C5.set4 (h:C5 w b v0 v1 v2 v3 v4) (u:Value):C5 (w.setCell ⟨b,4,none⟩ u) b v0 v1 v2 v3 u :=
 ⟨by rw[Ag (Ai (by omega))];exact h.c0,by rw[Ag (Ai (by omega))];exact h.c1,by rw[Ag (Ai (by omega))];exact h.c2,by rw[Ag (Ai (by omega))];exact h.c3,A8 h.c4,fun j=>by rw[aA];exact h.fz j⟩
end
theorem Ae.under {b r:Nat} {a w:World} {w':World} (h:Ae b a w) (c:Ae r w w') (g:a.heap.size<=r):Ae b a w' :=
 ⟨c.os.trans h.os,c.tape.trans h.tape,c.output.trans h.output,Nat.le_trans h.size c.size,fun i f d=>(c.block i (Nat.lt_of_lt_of_le f h.size) (fun e=>by injection e with e;omega)).trans (h.block i f d)⟩
theorem Ae.below_trans {b:Nat} {a w w':World} (h:Ae b a w) (c:Below w.heap.size w w'):Ae b a w':=h.trans (Ae.of_below b c)
structure Cp where
 ao:Option Addr
 n:Nat
 cap:Nat
 Z:Nat->Int
structure Ti (w0:World) (l:Cp) (b i:Nat) (W:World):Prop where
 below:Below w0.heap.size w0 W
 hb:w0.heap.size<=b
 row:l.n=0\/∃lb lo,l.ao=some ⟨lb,lo,none⟩/\∀j,j<l.n->w0.cell? ⟨lb,lo+j,none⟩=some (.int .i64 (l.Z j))
 c:∃(x y:Int) (f:Bool),C5 W b (.slice l.ao l.n l.cap) (.int .i64 i) (.int .i64 x) (.bool f) (.int .i64 y)
section
variable {w0 W W':World} {l:Cp} {b i:Nat}
theorem Ti.lt (h:Ti w0 l b i W):b<W.heap.size:=by
 obtain⟨x,y,f,a⟩:=h.c;exact a.lt
theorem Ti.keep (h:Ti w0 l b i W) (a:Below W.heap.size W W'):Ti w0 l b i W' :=
 ⟨h.below.trans (a.mono h.below.size),h.hb,h.row,by obtain⟨x,y,f,d⟩:=h.c;exact⟨x,y,f,d.below a⟩⟩
theorem Ti.only {r:Nat} (h:Ti w0 l b i W) (a:Ae r W W') (e:b<r):Ti w0 l b i W' :=
 ⟨a.below_of h.below (by have:=h.hb;omega) h.below.size,h.hb,h.row,by obtain⟨x,y,f,d⟩:=h.c;exact⟨x,y,f,d.only a (by omega)⟩⟩
end
def CH (w0:World) (l:Cp) (b I:Nat) (W:World):Prop:=∃i,i<=I/\Ti w0 l b i W
section
variable {w0 W W':World} {l:Cp} {b I:Nat}
theorem CH.lt (h:CH w0 l b I W):b<W.heap.size:=by obtain⟨i,_,h⟩:=h;exact h.lt
theorem CH.mono {J:Nat} (h:CH w0 l b I W) (a:I<=J):CH w0 l b J W:=by obtain⟨i,c,h⟩:=h;exact⟨i,by omega,h⟩
theorem CH.keep (h:CH w0 l b I W) (a:Below W.heap.size W W'):CH w0 l b I W':=by obtain⟨i,c,h⟩:=h;exact⟨i,c,h.keep a⟩
theorem CH.only {r:Nat} (h:CH w0 l b I W) (a:Ae r W W') (d:b<r):CH w0 l b I W':=by obtain⟨i,c,h⟩:=h;exact⟨i,c,h.only a d⟩
end
def Ff (T:TypeId) (P:Int->List UInt8->Nat->Prop) (w0:World) (l:Cp) (b:Nat) (W:World) (I c:Nat) (e:Ending) (w':World):Prop :=
 ∃(k:Int) (nm:List UInt8) (x:Nat) (ka:Option Addr) (d a:Nat) (ks:List Tr),e = .returned (.agg #[.int .i64 k,.string ⟨nm.toArray⟩,.float .f64 x,.slice ka d a,.complex .f64 0 0]) /\
  Am T w' (W.heap.size <= ·) ks (.slice ka d a)/\Tr.All P (.mk k nm x (0,0) ks)/\(Tr.mk k nm x (0,0) ks).wt<=c/\CH w0 l b (I+c) w'/\Ae b W w'
structure Fr (T:TypeId) (P:Int->List UInt8->Nat->Prop) (w0:World) (l:Cp) (b:Nat) (W:World) (I c:Nat) (L:List (Tr×Value)) (Wk:World) (G:Option Nat) (k0:Int) (v3:Value):Prop where
 s:CH w0 l b (I+c) Wk
 o:Ae b W Wk
 hbW:b<W.heap.size
 r:C5 Wk W.heap.size (.int .i64 k0) (.string ⟨#[]⟩) (.float .f64 0) v3 (.complex .f64 0 0)
 k:∀p∈L,Am T Wk (fun j=>W.heap.size+1<=j/\some j≠G) p.1.ks p.2/\Tr.All P p.1
 wt:DN (L.map Prod.fst)<=c
section
variable {T:TypeId} {P:Int->List UInt8->Nat->Prop} {w0 W Wk W':World} {l:Cp} {b I c:Nat} {L:List (Tr×Value)} {G:Option Nat} {k0:Int} {v3:Value}
theorem Fr.start (a:TypeId) (h:CH w0 l b I W):Fr T P w0 l b W I 0 [] (W.alloc (.cells #[.int .i64 0,.string ⟨#[]⟩,.float .f64 0,.slice none 0 0,.complex .f64 0 0] a)) none 0 (.slice none 0 0) where
 s:=h.keep ((Below.refl _ _).alloc (aC _) _)
 o:=Ae.of_below b ((Below.refl _ _).alloc (aC _) _)
 hbW:=h.lt
 r:=C5.new ..
 k:=fun p c=>by cases c
 wt:=by rw[aH,AM];omega
theorem Fr.size (h:Fr T P w0 l b W I c L Wk G k0 v3):W.heap.size<Wk.heap.size:=h.r.lt
theorem Fr.below (h:Fr T P w0 l b W I c L Wk G k0 v3) (a:Below Wk.heap.size Wk W'):Fr T P w0 l b W I c L W' G k0 v3 where
 s:=h.s.keep a
 o:=h.o.below_trans a
 hbW:=h.hbW
 r:=h.r.below a
 k:=fun p d=>⟨(h.k p d).1.bel a,(h.k p d).2⟩
 wt:=h.wt
theorem Fr.alloc (h:Fr T P w0 l b W I c L Wk G k0 v3) (o:Obj):Fr T P w0 l b W I c L (Wk.alloc o) G k0 v3:=h.below ((Below.refl _ _).alloc (aC _) o)
theorem Fr.node {d:Nat} {k:Int} {nm:List UInt8} {x:Nat} {kv:Value} {ks:List Tr} (h:Fr T P w0 l b W I c L Wk G k0 v3) (i:∀g,G=some g->g<Wk.heap.size) (m:Am T W' (Wk.heap.size <= ·) ks kv) (n:Tr.All P (.mk k nm x (0,0) ks)) (v:(Tr.mk k nm x (0,0) ks).wt<=d) (t:CH w0 l b (I+c+d) W') (a:Ae b Wk W') :
  Fr T P w0 l b W I (c+d) (L++[(.mk k nm x (0,0) ks,kv)]) W' G k0 v3 where
 s:=by rw[<- Nat.add_assoc];exact t
 o:=h.o.trans a
 hbW:=h.hbW
 r:=h.r.only a (by have:=h.hbW;omega)
 k:=fun p f=>by
  rcases List.mem_append.1 f with q | q
  ·exact⟨(h.k p q).1.only a (by have:=h.hbW;omega),(h.k p q).2⟩
  obtain rfl:=aK.1 q;exact⟨m.mono fun j _ u=>⟨by have:=h.size;omega,fun e=>by have:=i j e.symm;omega⟩,n⟩
 wt:=by
  have:=h.wt;rw[List.map_append,B9,aJ,aH,AK,AM];show DN _+((Tr.mk k nm x (0,0) ks).wt+0)<=_;omega
theorem Fr.out {k:Int} {nm:List UInt8} {x:Nat} {ka:Option Addr} {d a:Nat} {ks:List Tr} (h:Fr T P w0 l b W I c [(.mk k nm x (0,0) ks,.slice ka d a)] Wk G k0 v3) :
  ∃Z,Z=((((Wk.setCell ⟨W.heap.size,0,none⟩ (.int .i64 k)).setCell ⟨W.heap.size,1,none⟩ (.string ⟨nm.toArray⟩)).setCell ⟨W.heap.size,2,none⟩ (.float .f64 x)).setCell ⟨W.heap.size,3,none⟩ (.slice ka d a)).setCell ⟨W.heap.size,4,none⟩ (.complex .f64 0 0) /\
   C5 Z W.heap.size (.int .i64 k) (.string ⟨nm.toArray⟩) (.float .f64 x) (.slice ka d a) (.complex .f64 0 0)/\Ff T P w0 l b W I c (.returned (.agg #[.int .i64 k,.string ⟨nm.toArray⟩,.float .f64 x,.slice ka d a,.complex .f64 0 0])) Z:=by
 obtain⟨g,i⟩:=h.k _ (aK.2 rfl);have f:=h.wt;rw[aJ,aH,AK,AM] at f
 have e:Ae W.heap.size Wk (((((Wk.setCell ⟨W.heap.size,0,none⟩ (.int .i64 k)).setCell ⟨W.heap.size,1,none⟩ (.string ⟨nm.toArray⟩)).setCell ⟨W.heap.size,2,none⟩ (.float .f64 x)).setCell ⟨W.heap.size,3,none⟩ (.slice ka d a)).setCell ⟨W.heap.size,4,none⟩ (.complex .f64 0 0)) :=
  (((((Ae.refl _ Wk).set 0 _).set 1 _).set 2 _).set 3 _).set 4 _
 refine⟨_,rfl,((((h.r.set0 _).set1 _).set2 _).set3 _).set4 _,k,nm,x,ka,d,a,ks,rfl,(g.only e (by omega)).mono (fun j _ m=>by omega),i,f,h.s.only e h.hbW,h.o.under e (aC _)⟩
end
theorem JP {P:Program} (w:World) (k:Nat) (t H e:TypeId) (i:TypeInfo) (z:Value) (size h:Nat) (K:P.underlying t=some (.slice e)) (J:P.info? e=some i) (O:i.zero=some z)
  (p:i.size=size) (D:i.bytes=h) (Q:z.cells.size=size) (M:0<size)
  (v:Value) (n:Nat) (I:List Value) (l:w.ownsRow k e size v n I)
  (a:Addr) (m c:Nat) (b:List Value) (F:b.length=m*size) (f:∀j u,b[j]?=some u->w.cell? (a.add j)=some u) (R:∀u∈b,u.oneCell'=true)
  (C:n+m<=maxLen) (d:(n+m)*h<=140737488355328) (r:k<=w.heap.size) (Y:0<m) :
  ∃y w',(Builtin.append_ #[t,t] H #[v,.slice (some a) m c]).run P w = .ok y w'/\w'.ownsRow k e size y (n+m) (I++b)/\w.grownBy w' v.ownBlock/\(y.ownBlock=v.ownBlock\/y.ownBlock=some w.heap.size):=by
 obtain⟨y,w',x,S,T,_⟩:=run_append_own (P:=P) w k t H e i z size h K J O p D Q M v n I l a m c b F f R C d r;refine⟨y,w',x,S,T,?_⟩;subst p D;have a0:n+m<=9223372036854775807:=by simp only[maxLen] at C;omega
 rcases l.2 with⟨rfl,rfl⟩ | ⟨g,q,A,rfl,V,X,Z,W,L,N⟩
 ·have G:=run_append_nil (P:=P) w t H e i z K J O a m c b F f (by omega) (by omega) (by have U:=d;simp only[Nat.zero_add] at U;omega)
  rw[G] at x;injection x with B _;subst B;exact .inr rfl
 by_cases o:n+m<=q
 ·have E:n*i.size+b.length<=A.size:=by rw[F,L,<- Nat.add_mul];exact Nat.mul_le_mul_right _ o
  have G:=run_append_room (P:=P) w t H e i K J g n q A X a m c b F f R o E;rw[G] at x;injection x with B _;subst B;exact .inl rfl
 have s:∀j u,I[j]?=some u->w.cell? ((⟨g,0,none⟩:Addr).add j)=some u:=l.cells (g:=g) rfl;have G:=run_append_grow (P:=P) w t H e i z K J O ⟨g,0,none⟩ n q I l.1 s a m c b F f (by omega) (by omega) (growslice_fits (by omega) d);rw[G] at x;injection x with B _;subst B;exact .inr rfl
theorem Bg {P:Program} (w:World) {A:Array Oper} {k:List Oper} {o:Oper} {a:Act} {Q:Exit->Act->World->Prop} (E:o.guard=none) (s x:Operand) (t:TypeId)
  (T:o.op = .call { callee:=.builtin .append,args := #[s,x],argTypes := #[t,t] })
  (f:Nat) (e:TypeId) (i:TypeInfo) (z:Value) (size d:Nat) (W:P.underlying t=some (.slice e)) (R:P.info? e=some i) (Y:i.zero=some z)
  (q:i.size=size) (D:i.bytes=d) (H:z.cells.size=size) (G:0<size)
  (v:Value) (n:Nat) (I:List Value) (V:a.eval s=v) (y:w.ownsRow f e size v n I)
  (B:Addr) (m c:Nat) (b:List Value) (X:a.eval x = .slice (some B) m c) (S:b.length=m*size) (p:∀j u,b[j]?=some u->w.cell? (B.add j)=some u) (J:∀u∈b,u.oneCell'=true)
  (C:n+m<=maxLen) (g:(n+m)*d<=140737488355328) (l:f<=w.heap.size) (F:0<m)
  (h:∀r w',w'.ownsRow f e size r (n+m) (I++b)->w.grownBy w' v.ownBlock->(r.ownBlock=v.ownBlock\/r.ownBlock=some w.heap.size)->wpList P A Q k (a.put o.dst r) w'):wpList P A Q (o::k) a w :=
 wpList_plain E fun K O=>by
  obtain⟨r,w',U,L,M,N⟩:=JP (P:=P) w f t o.type e i z size d W R Y q D H G v n I y B m c b S p J C g l F;unfold Oper.wp execOp;simp only[T,resolve,invoke,builtin,Sem.run_bind,Sem.run_pure,Result.andThen_ok,List.map_toArray,aJ,aH,V,X,U];exact O _ _ (h r w' L M N)
structure DA (T:TypeId) (P:Int->List UInt8->Nat->Prop) (w0:World) (l:Cp) (b:Nat) (W:World) (I c:Nat) (L1 R X:List (Tr×Value)) (v:Value) (Wk:World) (k0:Int) (v3:Value):Prop where
 f:Fr T P w0 l b W I c (L1++R++X) Wk v.ownBlock k0 v3
 row:Wk.ownsRow (W.heap.size+1) T 5 v R.length (Ah R)
section
variable {P:Int->List UInt8->Nat->Prop} {w0 W Wk W':World} {l:Cp} {b I c:Nat} {T:TypeId} {L1 R X:List (Tr×Value)} {v:Value} {k0:Int} {v3:Value}
theorem DA.start (h:Fr T P w0 l b W I c L1 Wk none k0 v3):DA T P w0 l b W I c L1 [] [] (.slice none 0 0) Wk k0 v3:=⟨by simpa[aE] using h,aL ..⟩
theorem DA.lt (h:DA T P w0 l b W I c L1 R X v Wk k0 v3) (g:Nat) (a:v.ownBlock=some g):W.heap.size+1<=g/\g<Wk.heap.size:=h.row.lt g a
theorem GD {w w':World} {B:Nat} {e:TypeId} {k n:Nat} {v:Value} {x:List Value} (h:w.ownsRow B e k v n x) (a:Below w.heap.size w w'):w'.ownsRow B e k v n x :=
 h.kept (row:=none) ⟨a.os,a.tape,a.output,a.size,fun k b _=>a.block k b⟩ (by cases v.ownBlock<;>simp)
theorem DA.below (h:DA T P w0 l b W I c L1 R X v Wk k0 v3) (a:Below Wk.heap.size Wk W'):DA T P w0 l b W I c L1 R X v W' k0 v3:=⟨h.f.below a,GD h.row a⟩
theorem DA.alloc (h:DA T P w0 l b W I c L1 R X v Wk k0 v3) (o:Obj):DA T P w0 l b W I c L1 R X v (Wk.alloc o) k0 v3:=h.below ((Below.refl _ _).alloc (aC _) o)
theorem DA.rowB (h:DA T P w0 l b W I c L1 R X v Wk k0 v3) (a:Ae b Wk W'):W'.ownsRow (W.heap.size+1) T 5 v R.length (Ah R) :=
 h.row.kept a (by
  cases d:v.ownBlock with
  | none=>exact .inl rfl
  | some g=>right;intro e;injection e with e;have:=h.lt g d;have:=h.f.hbW;omega)
theorem DA.node {d:Nat} {k:Int} {nm:List UInt8} {x:Nat} {kv:Value} {ks:List Tr} (h:DA T P w0 l b W I c L1 R X v Wk k0 v3) (i:Am T W' (Wk.heap.size <= ·) ks kv) (j:Tr.All P (.mk k nm x (0,0) ks)) (n:(Tr.mk k nm x (0,0) ks).wt<=d) (m:CH w0 l b (I+c+d) W') (a:Ae b Wk W') :
 DA T P w0 l b W I (c+d) L1 R (X++[(.mk k nm x (0,0) ks,kv)]) v W' k0 v3:=⟨by rw[<- List.append_assoc];exact h.f.node (fun g e=>(h.lt g e).2) i j n m a,h.rowB a⟩
theorem DA.put3 (h:DA T P w0 l b W I c L1 R X v Wk k0 v3):DA T P w0 l b W I c L1 R X v (Wk.setCell ⟨W.heap.size,3,none⟩ v) k0 v:=by
 have a:Ae W.heap.size Wk (Wk.setCell ⟨W.heap.size,3,none⟩ v):=(Ae.refl _ _).set 3 _;refine⟨⟨h.f.s.only a h.f.hbW,h.f.o.under a (aC _),h.f.hbW,h.f.r.set3 v,fun p d=>⟨(h.f.k p d).1.only a (by omega),(h.f.k p d).2⟩,h.f.wt⟩,?_⟩;refine h.row.kept a ?_
 cases i:v.ownBlock with
 | none=>exact .inl rfl
 | some g=>right;intro e;injection e with e;have:=h.lt g i;omega
end
end Go
