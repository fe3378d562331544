/- Np Pf Xe Xf Xj Xk Xg Xl Xm Xn Xo -/
import Derived.Test.YtipfpohlnhmlpaaGreatDoorMa
import Derived.Test.YtipfpohlnhmlpaaGreatDoorNl
import Derived.Test.YtipfpohlnhmlpaaGreatDoorPc
import Derived.Test.YtipfpohlnhmlpaaGreatDoorGl
import Derived.Lib.Strings
import Derived.Lib.Slices
import Derived.Lib.Small
import Derived.Lib.Walk
import Derived.Lib.BitFns
import Derived.Lib.Tables
import Derived.Deep.Light
import Derived.Laws.Bits64b
import Derived.Laws.BitsAllLaws
import Derived.BigQuiet
import Derived.Deep.QuietTactic
import Derived.Test.YtipfpohlnhmlpaaGreatDoorGd
import Derived.Test.YtipfpohlnhmlpaaGreatDoorWc
import Derived.Deep.LoopGhost
import GoSem.PinnedTables
import Derived.Test.YtipfpohlnhmlpaaGreatDoorWd
import Derived.Deep.RegionHeld
import Derived.Deep.DeepCutAuto
import Derived.Deep.CutBlock
set_option maxHeartbeats 8000000
set_option maxRecDepth 100000
open Go.Lib renaming hid->aA,bitLen_le8'->aF,len8_of->aI,bitLenAux->bB,bitLen->bH
open Nat renaming le_refl->aB,div_eq_of_lt->aK,and_two_pow_sub_one_eq_mod->aU,pow_le_pow_right->aW,lt_of_lt_of_le->aX,add_sub_cancel->aZ,le_trans->bE,lt_trans->bG,sub_self->bI,sub_zero->bK,div_lt_iff_lt_mul->bL,add_assoc->bM,div_pos->bS,pow_pos->bT
open List renaming mem_singleton->aC,map_append->aH,map_nil->aJ,map_cons->aL,mem_append->aM,append_assoc->aN,drop_eq_nil_of_le->aO,mem_append_right->aQ,length_cons->aS,mem_append_left->aV,getD_eq_getElem?_getD->aY,getElem?_eq_getElem->bA,all_eq_true->bD,length_append->bN,flatMap_cons->bO,flatMap_nil->bQ,not_mem_nil->bR
open Go.Ending renaming returned->aD
open Go.World renaming block_lt_of_cell?->aE,drewN_drewN->aP,frozen?_of_block->bF
open Go.RowKit renaming wrap64->aG
open Go.RowKit.Below renaming refl->aR
open Go.Value renaming int->aT
open Prod renaming fst->bC
open Bool renaming or_true->bJ
namespace Go
open Go.RowKit
structure Hm (b q:Nat) (w w':World):Prop where
 os:w'.os=w.os
 tape:w'.tape=w.tape
 output:w'.output=w.output
 size:w.heap.size<=w'.heap.size
 block:∀i,i<w.heap.size->i≠b->i≠q->w'.heap[i]?=w.heap[i]?
section
variable {b q:Nat} {a w w' w'':World}
theorem Hm.refl (b q:Nat) (w:World):Hm b q w w:=⟨rfl,rfl,rfl,aB _,fun _ _ _ _=>rfl⟩
theorem Hm.trans (h:Hm b q w w') (a:Hm b q w' w''):Hm b q w w'':=⟨a.os.trans h.os,a.tape.trans h.tape,a.output.trans h.output,bE h.size a.size,fun i e c d=>(a.block i (aX e h.size) c d).trans (h.block i e c d)⟩
theorem Hm.left (h:Ae b w w'):Hm b q w w':=⟨h.os,h.tape,h.output,h.size,fun i c a _=>h.block i c (fun e=>by injection e with e;exact a e)⟩
theorem Hm.right (h:Ae q w w'):Hm b q w w':=⟨h.os,h.tape,h.output,h.size,fun i c _ a=>h.block i c (fun e=>by injection e with e;exact a e)⟩
theorem Hm.below (h:Below w.heap.size w w'):Hm b q w w':=⟨h.os,h.tape,h.output,h.size,fun i a _ _=>h.block i a⟩
theorem Hm.only (h:Hm b q w w') (ha:Ae b a w) (f:a.heap.size<=q):Ae b a w' :=
 ⟨h.os.trans ha.os,h.tape.trans ha.tape,h.output.trans ha.output,bE ha.size h.size,fun i d c=>(h.block i (aX d ha.size) (fun e=>c (by rw[e])) (by omega)).trans (ha.block i d c)⟩
end
structure Af (w:World) (q:Nat) (vs:List Value):Prop where
 c:∀(i:Nat) (u:Value),vs[i]?=some u->w.cell? ⟨q,i,none⟩=some u
 fz:∀j,w.frozen? ⟨q,j,none⟩=false
section
variable {w w':World} {q:Nat} {vs:List Value}
theorem Af.kept (h:Af w q vs) (a:w'.heap[q]?=w.heap[q]?):Af w' q vs :=
 ⟨fun i u b=>by rw[World.cell?_of_block a];exact h.c i u b,fun j=>by rw[bF a];exact h.fz j⟩
theorem Af.below (h:Af w q vs) (b:q<w.heap.size) (a:Below w.heap.size w w'):Af w' q vs:=h.kept (a.block q b)
theorem Af.only {p:Nat} (h:Af w q vs) (c:q<w.heap.size) (a:Ae p w w') (b:q≠p):Af w' q vs:=h.kept (a.block q c (fun e=>by injection e with e;exact b e))
theorem Af.set (h:Af w q vs) (i:Nat) (u v:Value) (b:vs[i]?=some v):Af (w.setCell ⟨q,i,none⟩ u) q (vs.set i u):=by
 refine⟨fun j x a=>?_,fun j=>by rw[World.frozen?_setCell];exact h.fz j⟩;by_cases e:j=i
 ·subst e
  rw[List.getElem?_set_self (List.getElem?_eq_some_iff.1 b).1] at a;cases a;exact A8 (h.c j v b)
 rw[List.getElem?_set_ne (fun h=>e h.symm)] at a;rw[Ag (Ai (by omega))];exact h.c j x a
theorem Af.new (w:World) (vs:List Value) (T:TypeId):Af (w.alloc (.cells vs.toArray T)) w.heap.size vs:=by
 refine⟨fun i u a=>?_,fun j=>World.frozen?_alloc_at _ _ _ _ rfl⟩;rw[World.cell?_alloc_at _ _ _ _ rfl];simpa using a
theorem Af.lt (h:Af w q vs) (v:Value) (a:vs[0]?=some v):q<w.heap.size:=aE w _ (h.c 0 v a)
end
theorem D7 {w:World} {q:Nat} {vs:List Value} {v:Value} (h:Af w q vs) (a:vs[0]?=some v:=by rfl):∀(o:Obj) (j:Nat),(w.alloc o).frozen? ⟨q,j,none⟩=false:=fun o j=>by
 rw[bF ((Ad w o).block q (h.lt v a))];exact h.fz j
structure It (T:TypeId) (P:Int->List UInt8->Nat->Prop) (w0:World) (l:Cp) (b q:Nat) (W:World) (I c:Nat) (L:List (Tr×Value)) (G:Option Nat) (Wk:World):Prop where
 s:CH w0 l b (I+c) Wk
 o:Hm b q W Wk
 hbq:b<q
 hqW:q<W.heap.size
 k:∀p∈L,Am T Wk (fun j=>W.heap.size<=j/\some j≠G) p.1.ks p.2/\Tr.All P p.1
 wt:DN (L.map bC)<=c
section
variable {T:TypeId} {P:Int->List UInt8->Nat->Prop} {w0 W Wk W':World} {l:Cp} {b q I c:Nat} {L:List (Tr×Value)} {G:Option Nat}
theorem It.start (h:CH w0 l b I W) (a:b<q) (d:q<W.heap.size):It T P w0 l b q W I 0 [] none W:=⟨h,Hm.refl _ _ _,a,d,fun p c=>(by cases c),(by rw[aJ,AM];omega)⟩
theorem It.size (h:It T P w0 l b q W I c L G Wk):W.heap.size<=Wk.heap.size:=h.o.size
theorem It.below (h:It T P w0 l b q W I c L G Wk) (a:Below Wk.heap.size Wk W'):It T P w0 l b q W I c L G W' :=
 ⟨h.s.keep a,h.o.trans (Hm.below a),h.hbq,h.hqW,fun p d=>⟨(h.k p d).1.bel a,(h.k p d).2⟩,h.wt⟩
theorem It.alloc (h:It T P w0 l b q W I c L G Wk) (o:Obj):It T P w0 l b q W I c L G (Wk.alloc o):=h.below ((aR _ _).alloc (aB _) o)
theorem It.drew (h:It T P w0 l b q W I c L G Wk):It T P w0 l b q W I c L G Wk.drew:=h.below ⟨rfl,rfl,rfl,aB _,fun _ _=>rfl⟩
theorem It.step {d:Nat} (h:It T P w0 l b q W I c L G Wk) (m:CH w0 l b (I+c+d) W') (a:Ae b Wk W'):It T P w0 l b q W I (c+d) L G W' :=
 ⟨by rw[<- bM];exact m,h.o.trans (Hm.left a),h.hbq,h.hqW,fun p f=>⟨(h.k p f).1.kept a.size fun j g i=>a.block j i (fun e=>by injection e with e;have:=g.1;have:=h.hbq;have:=h.hqW;omega),(h.k p f).2⟩,by have:=h.wt;omega⟩
theorem It.setq (h:It T P w0 l b q W I c L G Wk) (a:Ae q Wk W'):It T P w0 l b q W I c L G W' :=
 ⟨h.s.only a h.hbq,h.o.trans (Hm.right a),h.hbq,h.hqW,fun p d=>⟨(h.k p d).1.kept a.size fun j f g=>a.block j g (fun e=>by injection e with e;have:=f.1;have:=h.hqW;omega),(h.k p d).2⟩,h.wt⟩
theorem It.node {d:Nat} {k:Int} {nm:List UInt8} {x:Nat} {kv:Value} {ks:List Tr} (h:It T P w0 l b q W I c L G Wk) (n:∀g,G=some g->g<Wk.heap.size) (t:Am T W' (Wk.heap.size <= ·) ks kv) (u:Tr.All P (.mk k nm x (0,0) ks)) (v:(Tr.mk k nm x (0,0) ks).wt<=d) (i:CH w0 l b (I+c+d) W') (a:Ae b Wk W') :
  It T P w0 l b q W I (c+d) (L++[(.mk k nm x (0,0) ks,kv)]) G W' where
 s:=(h.step i a).s
 o:=(h.step i a).o
 hbq:=h.hbq
 hqW:=h.hqW
 k:=fun p f=>by
  rcases aM.1 f with m | m
  ·exact(h.step i a).k p m
  obtain rfl:=aC.1 m;exact⟨t.mono fun j _ r=>⟨bE h.size r,fun e=>by have:=n j e.symm;omega⟩,u⟩
 wt:=by
  have:=h.wt;rw[aH,B9,aL,aJ,AK,AM];dsimp only;omega
theorem It.leaf {k:Int} {nm:List UInt8} {x:Nat} (h:It T P w0 l b q W I c L G Wk) (d:P k nm x):It T P w0 l b q W I (c+1) (L++[(.mk k nm x (0,0) [],.slice none 0 0)]) G Wk where
 s:=h.s.mono (by omega)
 o:=h.o
 hbq:=h.hbq
 hqW:=h.hqW
 k:=fun p a=>by
  rcases aM.1 a with m | m
  ·exact h.k p m
  obtain rfl:=aC.1 m;exact⟨.nil _,.mk _ _ _ _ _ d (by simp)⟩
 wt:=by
  have:=h.wt;rw[aH,B9,aL,aJ,AK,AM,Tr.wt_mk,AM];omega
theorem It.kids {L1 L2:List (Tr×Value)} (h:It T P w0 l b q W I c (L1++L2) G Wk) (a:∀g,G=some g->g<Wk.heap.size) (cap:Nat) (f:cap=L2.length) (i:L2.length<=maxLen) :
  Am T (Wk.alloc (.cells (Ah L2).toArray T)) (fun j=>W.heap.size<=j/\some j≠G) (L2.map bC) (.slice (some ⟨Wk.heap.size,0,none⟩) L2.length cap):=by
 subst f;exact .row _ L2 _ _ (Ah L2).toArray ⟨h.size,fun e=>by have:=a _ e.symm;omega⟩ (heap_alloc_new Wk _) (aB _) i (by simpa using BV L2) (by rw[<- BV];simp) fun p m=>((h.k p (aQ _ m)).1.mono fun j n d=>⟨d,by omega⟩).bel ((aR _ _).alloc (aB _) _)
theorem It.join {L1 L2:List (Tr×Value)} {cap:Nat} {k:Int} {nm:List UInt8} {x:Nat} (h:It T P w0 l b q W I c (L1++L2) G Wk) (f:∀g,G=some g->g<Wk.heap.size) (d:P k nm x) (a:Below (Wk.alloc (.cells (Ah L2).toArray T)).heap.size (Wk.alloc (.cells (Ah L2).toArray T)) W') (i:cap=L2.length:=by rfl) (j:L2.length<=maxLen:=by(unfold maxLen;simp)) :
  It T P w0 l b q W I (c+1) (L1++[(.mk k nm x (0,0) (L2.map bC),.slice (some ⟨Wk.heap.size,0,none⟩) L2.length cap)]) G W' where
 s:=((h.alloc _).s.keep a).mono (by omega)
 o:=(h.alloc _).o.trans (Hm.below a)
 hbq:=h.hbq
 hqW:=h.hqW
 k:=fun p e=>by
  rcases aM.1 e with m | m
  ·exact⟨((h.alloc _).k p (aV _ m)).1.bel a,(h.k p (aV _ m)).2⟩
  obtain rfl:=aC.1 m;refine⟨(h.kids f cap i j).bel a,.mk _ _ _ _ _ d fun t n=>?_⟩;obtain⟨p,d,rfl⟩:=List.mem_map.1 n;exact(h.k p (aQ _ d)).2
 wt:=by
  have:=h.wt;rw[aH,B9] at this;rw[aH,B9,aL,aJ,AK,AM,Tr.wt_mk];omega
theorem It.more {d:Nat} (h:It T P w0 l b q W I c L G Wk) (a:c<=d):It T P w0 l b q W I d L G Wk:=⟨h.s.mono (by omega),h.o,h.hbq,h.hqW,h.k,by have:=h.wt;omega⟩
theorem It.open {k:Int} {nm:List UInt8} {x:Nat} {ks:List Tr} {kv:Value} (h:It T P w0 l b q W I c [(.mk k nm x (0,0) ks,kv)] none Wk) :
  ∃R:List (Tr×Value),R.map bC=ks/\Wk.ownsRow W.heap.size T 5 kv R.length (Ah R)/\It T P w0 l b q W I c R kv.ownBlock Wk/\P k nm x/\1+DN (R.map bC)<=c/\∀g,kv.ownBlock=some g->W.heap.size<=g/\g<Wk.heap.size:=by
 obtain⟨v,u⟩:=h.k _ (aC.2 rfl);have n:=h.wt;rw[aL,aJ,AK,AM] at n;dsimp only at n;rw[Tr.wt_mk] at n;obtain⟨R,i,a,d,f⟩:=v.owns W.heap.size fun j m=>m.1;refine⟨R,i,a,⟨h.s,h.o,h.hbq,h.hqW,fun p e=>⟨(f p e).mono fun j _ m=>⟨m.1.1,m.2⟩,?_⟩,by rw[i];show DN ks<=c;omega⟩,u.self,by rw[i];show 1+DN ks<=c;omega,fun g r=>⟨(d g r).1,(a.lt g r).2⟩⟩;exact u.kid (t:=.mk k nm x (0,0) ks) (by rw[<- i] ;exact List.mem_map_of_mem e)
theorem It.grow {R:List (Tr×Value)} {t:Tr} {y kv v':Value} {o:Obj} {k:Int} {nm:List UInt8} {x:Nat} (h:It T P w0 l b q W I c (R++[(t,y)]) kv.ownBlock Wk) (C:Wk.ownsRow W.heap.size T 5 kv R.length (Ah R)) (X:P k nm x)
  (M:W'.ownsRow W.heap.size T 5 v' (R.length+1) (Ah R++Ah [(t,y)])) (a:(Wk.alloc o).grownBy W' kv.ownBlock) (U:v'.ownBlock=kv.ownBlock\/v'.ownBlock=some (Wk.alloc o).heap.size) :
  It T P w0 l b q W I (c+1) [(.mk k nm x (0,0) (R.map bC++[t]),v')] none W':=by
 have ha:=h.alloc o;have Z:=h.size;have A:∀g,kv.ownBlock=some g->W.heap.size<=g/\g<Wk.heap.size:=fun g E=>C.lt g E;have H:Hm b q W W':=⟨a.os.trans ha.o.os,a.tape.trans ha.o.tape,a.output.trans ha.o.output,bE ha.o.size a.size,fun i N O Q=>(a.block i (aX N ha.o.size) (fun e=>by have:=(A i e.symm).1;omega)).trans (ha.o.block i N O Q)⟩
 have Y:CH w0 l b (I+c) W':=by
  cases K:kv.ownBlock with
  | none=>rw[K] at a;exact ha.s.keep ⟨a.os,a.tape,a.output,a.size,fun k D=>a.block k D (by simp)⟩
  | some g=>rw[K] at a;exact ha.s.only (r:=g) a (by have:=(A g K).1;have:=h.hbq;have:=h.hqW;omega)
 have V:Ah (R++[(t,y)])=Ah R++Ah [(t,y)]:=by unfold Ah;rw[List.flatMap_append]
 have n:∀p∈R++[(t,y)],Am T W' (fun j=>W.heap.size<=j/\some j≠v'.ownBlock) p.1.ks p.2:=fun p d=>by
  have D:=(ha.k p d).1;rcases U with e | e
  ·rw[e];exact D.kept a.size fun j f G=>a.block j G f.2
  have F:=D.mono (S':=fun j=>W.heap.size<=j/\some j≠v'.ownBlock/\some j≠kv.ownBlock) fun j f z=>⟨z.1,by rw[e];intro h;injection h with h;omega,z.2⟩;exact(F.kept a.size fun j f G=>a.block j G f.2.2).mono fun j _ z=>⟨z.1,z.2.1⟩
 refine⟨Y.mono (by omega),H,h.hbq,h.hqW,fun p d=>?_,?_⟩
 ·obtain rfl:=aC.1 d
  refine⟨?_,.mk _ _ _ _ _ X fun u hu=>?_⟩
  ·have:=Ev (T:=T) (w:=W') (v:=v') (S:=fun j=>W.heap.size<=j/\some j≠none) (L:=R++[(t,y)]) (B:=W.heap.size) (by rw[V,bN];exact M) (fun g E=>⟨(M.lt g E).1,by simp⟩) (fun p d=>(n p d).mono fun j _ f=>⟨⟨f.1,by simp⟩,f.2⟩)
   rw[aH] at this;exact this
  rcases aM.1 hu with m | m
  ·obtain⟨p,J,rfl⟩:=List.mem_map.1 m
   exact(h.k p (aV _ J)).2
  obtain rfl:=aC.1 m;exact(h.k (u,y) (aQ _ (aC.2 rfl))).2
 have:=h.wt;rw[aH,B9,aL,aJ,AK,AM] at this;dsimp only at this;rw[aL,aJ,AK,AM,Tr.wt_mk,B9,AK,AM];omega
end
theorem Io (l:List Tr):l.length<=DN l:=by
 induction l with
 | nil=>simp
 | cons t b a=>obtain⟨k,nm,x,z,ks⟩:=t;rw[AK,Tr.wt_mk,aS];omega
structure Hk (T:TypeId) (P:Int->List UInt8->Nat->Prop) (w0:World) (l:Cp) (b q:Nat) (W:World) (I c:Nat) (R X:List (Tr×Value)) (kv:Value) (Wk:World):Prop where
 f:It T P w0 l b q W I c (R++X) kv.ownBlock Wk
 row:Wk.ownsRow W.heap.size T 5 kv R.length (Ah R)
section
variable {T:TypeId} {P:Int->List UInt8->Nat->Prop} {w0 W Wk W':World} {l:Cp} {b q I c:Nat} {R X:List (Tr×Value)} {kv:Value}
theorem Hk.lt (h:Hk T P w0 l b q W I c R X kv Wk) (g:Nat) (a:kv.ownBlock=some g):g<Wk.heap.size:=(h.row.lt g a).2
theorem Hk.below (h:Hk T P w0 l b q W I c R X kv Wk) (a:Below Wk.heap.size Wk W'):Hk T P w0 l b q W I c R X kv W':=⟨h.f.below a,GD h.row a⟩
theorem Hk.alloc (h:Hk T P w0 l b q W I c R X kv Wk) (o:Obj):Hk T P w0 l b q W I c R X kv (Wk.alloc o):=h.below ((aR _ _).alloc (aB _) o)
theorem Hk.drew (h:Hk T P w0 l b q W I c R X kv Wk):Hk T P w0 l b q W I c R X kv Wk.drew:=h.below ⟨rfl,rfl,rfl,aB _,fun _ _=>rfl⟩
theorem Hk.node {d:Nat} {k:Int} {nm:List UInt8} {x:Nat} {a:Value} {ks:List Tr} (h:Hk T P w0 l b q W I c R X kv Wk) (j:Am T W' (Wk.heap.size <= ·) ks a) (m:Tr.All P (.mk k nm x (0,0) ks)) (p:(Tr.mk k nm x (0,0) ks).wt<=d) (n:CH w0 l b (I+c+d) W') (i:Ae b Wk W') :
  Hk T P w0 l b q W I (c+d) R (X++[(.mk k nm x (0,0) ks,a)]) kv W' :=
 ⟨by rw[<- aN];exact h.f.node h.lt j m p n i,h.row.kept i (by
   cases o:kv.ownBlock with
   | none=>exact .inl rfl
   | some g=>right;intro e;injection e with e;have:=(h.row.lt g o).1;have:=h.f.hbq;have:=h.f.hqW;omega)⟩
theorem Hk.leaf {k:Int} {nm:List UInt8} {x:Nat} (h:Hk T P w0 l b q W I c R X kv Wk) (a:P k nm x):Hk T P w0 l b q W I (c+1) R (X++[(.mk k nm x (0,0) [],.slice none 0 0)]) kv Wk:=⟨by rw[<- aN];exact h.f.leaf a,h.row⟩
theorem Hk.join {X1 X2:List (Tr×Value)} {cap:Nat} {k:Int} {nm:List UInt8} {x:Nat} (h:Hk T P w0 l b q W I c R (X1++X2) kv Wk) (i:P k nm x) (a:Below (Wk.alloc (.cells (Ah X2).toArray T)).heap.size (Wk.alloc (.cells (Ah X2).toArray T)) W') (e:cap=X2.length:=by rfl) (g:X2.length<=maxLen:=by(unfold maxLen;simp)) :
  Hk T P w0 l b q W I (c+1) R (X1++[(.mk k nm x (0,0) (X2.map bC),.slice (some ⟨Wk.heap.size,0,none⟩) X2.length cap)]) kv W' :=
 ⟨by have d:=h.f;rw[<- aN] at d;rw[<- aN];exact d.join h.lt i a e g,GD (h.alloc _).row a⟩
theorem EG (w:World) (o:Obj):(w.alloc o).heap.size=w.heap.size+1:=by simp
theorem Hk.next {e:List (Tr×Value)} (h:Hk T P w0 l b q W I c R e kv Wk) (d:P 38 [] 0) (a:P 30 [] 0) :
  Hk T P w0 l b q W I (c+1+1) R (e++[(.mk 30 [] 0 (0,0) [.mk 38 [] 0 (0,0) []],.slice (some ⟨Wk.heap.size,0,none⟩) 1 1)]) kv (Wk.alloc (.cells #[.int .i64 38,.string ⟨#[]⟩,.float .f64 0,.slice none 0 0,.complex .f64 0 0] T)) :=
 (h.leaf d).join (X1:=e) (X2:=[(.mk 38 [] 0 (0,0) [],.slice none 0 0)]) (cap:=1) a (aR _ _)
theorem Hk.more {d:Nat} (h:Hk T P w0 l b q W I c R X kv Wk) (a:c<=d):Hk T P w0 l b q W I d R X kv Wk:=⟨h.f.more a,h.row⟩
end
theorem NC (r:Rl) (a d:Option Addr) (n c f e:Nat):∀u∈AW [(r,.slice a n c,.slice d f e)],u.oneCell'=true:=by
 intro u b;simp only[AW,bO,bQ,List.append_nil,List.mem_cons,bR,or_false] at b;rcases b with rfl | rfl | rfl | rfl | rfl | rfl | rfl | rfl | rfl<;>rfl
theorem IU (r:Fu) (a d:Option Addr) (n c f e:Nat):∀u∈AI [(r,.slice a n c,.slice d f e)],u.oneCell'=true:=by
 intro u b;simp only[AI,bO,bQ,List.append_nil,List.mem_cons,bR,or_false] at b;rcases b with rfl | rfl | rfl | rfl | rfl | rfl | rfl | rfl<;>rfl
structure GR (T TR:TypeId) (P:Int->List UInt8->Nat->Prop) (w0:World) (l:Cp) (rb b bg I K:Nat) (L:List (Rl×Value×Value)) (v fv:Value) (Wk:World):Prop where
 s:CH w0 l b I Wk
 hbg:b<bg
 hrb:rb<b
 r:Af Wk rb [.slice none 0 0,.slice none 0 0]
 g:Af Wk bg [v,fv]
 row:Wk.ownsRow (bg+1) TR 9 v L.length (AW L)
 k:∀p∈L,Am T Wk (fun j=>bg<j/\some j≠v.ownBlock) p.1.ps p.2.1/\Am T Wk (fun j=>bg<j/\some j≠v.ownBlock) p.1.b.ks p.2.2/\(∀t∈p.1.ps,Tr.All P t)/\Tr.All P p.1.b/\DN p.1.ps+p.1.b.wt<=K
section
variable {T TR:TypeId} {P:Int->List UInt8->Nat->Prop} {w0 Wk W':World} {l:Cp} {rb b bg I K:Nat} {L:List (Rl×Value×Value)} {v fv:Value}
theorem GR.lt (h:GR T TR P w0 l rb b bg I K L v fv Wk):bg<Wk.heap.size:=h.g.lt _ rfl
theorem GR.own (h:GR T TR P w0 l rb b bg I K L v fv Wk) (g:Nat) (a:v.ownBlock=some g):bg+1<=g/\g<Wk.heap.size:=h.row.lt g a
theorem GR.step {J:Nat} (h:GR T TR P w0 l rb b bg I K L v fv Wk) (q:CH w0 l b J W') (a:Ae b Wk W'):GR T TR P w0 l rb b bg J K L v fv W' where
 s:=q
 hbg:=h.hbg
 hrb:=h.hrb
 r:=h.r.only (bG h.hrb (bG h.hbg h.lt)) a (by have:=h.hrb;omega)
 g:=h.g.only h.lt a (by have:=h.hbg;omega)
 row:=h.row.kept a (by
  cases t:v.ownBlock with
  | none=>exact .inl rfl
  | some g=>right;intro e;injection e with e;have:=h.own g t;have:=h.hbg;omega)
 k:=fun p o=>by
  obtain⟨d,f,i⟩:=h.k p o;have c:∀j,(bg<j/\some j≠v.ownBlock)->j<Wk.heap.size->W'.heap[j]?=Wk.heap[j]?:=fun j m n=>a.block j n (fun e=>by injection e with e;have:=h.hbg;have:=m.1;omega);exact⟨d.kept a.size c,f.kept a.size c,i⟩
theorem GR.more {J:Nat} (h:GR T TR P w0 l rb b bg I K L v fv Wk) (a:I<=J):GR T TR P w0 l rb b bg J K L v fv Wk:=⟨h.s.mono a,h.hbg,h.hrb,h.r,h.g,h.row,h.k⟩
theorem GR.gAt {o:Obj} (h:GR T TR P w0 l rb b bg I K L v fv Wk) (a:(Wk.alloc o).grownBy W' v.ownBlock):Af W' bg [v,fv] :=
 (h.g.below h.lt ((aR _ _).alloc (aB _) o)).kept (a.block bg (by have:=h.lt;simp;omega) (fun e=>by have:=(h.own bg e.symm).1;omega))
theorem GR.grow {r:Rl} {E kv v':Value} {o:Obj} (h:GR T TR P w0 l rb b bg I K L v fv Wk)
  (J:Am T Wk (fun j=>bg<j/\some j≠v.ownBlock) r.ps E) (i:Am T Wk (fun j=>bg<j/\some j≠v.ownBlock) r.b.ks kv) (ha:∀t∈r.ps,Tr.All P t) (H:Tr.All P r.b) (Q:DN r.ps+r.b.wt<=K)
  (F:W'.ownsRow (bg+1) TR 9 v' (L.length+1) (AW L++AW [(r,E,kv)])) (c:(Wk.alloc o).grownBy W' v.ownBlock) (G:v'.ownBlock=v.ownBlock\/v'.ownBlock=some (Wk.alloc o).heap.size) :
  GR T TR P w0 l rb b bg I K (L++[(r,E,kv)]) v' fv (W'.setCell ⟨bg,0,none⟩ v'):=by
 have d:Below Wk.heap.size Wk (Wk.alloc o):=(aR _ _).alloc (aB _) o;have w:bg<Wk.heap.size:=h.lt;have x:Ae bg W' (W'.setCell ⟨bg,0,none⟩ v'):=(Ae.refl _ _).set 0 _;have N:(Wk.alloc o).heap.size=Wk.heap.size+1:=(by simp);have z:Af W' bg [v,fv]:=(h.g.below w d).kept (c.block bg (by omega) (fun e=>by have:=(h.own bg e.symm).1;omega))
 have M:CH w0 l b I W':=by
  cases y:v.ownBlock with
  | none=>rw[y] at c;exact(h.s.keep d).keep ⟨c.os,c.tape,c.output,c.size,fun k i=>c.block k i (by simp)⟩
  | some g=>rw[y] at c;exact(h.s.keep d).only (r:=g) c (by have:=(h.own g y).1;have:=h.hbg;omega)
 have a:∀(ks:List Tr) (u:Value),Am T Wk (fun j=>bg<j/\some j≠v.ownBlock) ks u->Am T (W'.setCell ⟨bg,0,none⟩ v') (fun j=>bg<j/\some j≠v'.ownBlock) ks u:=fun ks u O=>by
  have i:=O.bel d
  have A:Am T W' (fun j=>bg<j/\some j≠v'.ownBlock) ks u:=by
   rcases G with e | e
   ·rw[e];exact i.kept c.size fun j f q=>c.block j q f.2
   have B:=i.mono (S':=fun j=>bg<j/\some j≠v'.ownBlock/\some j≠v.ownBlock) fun j f n=>⟨n.1,by rw[e];intro h;injection h with h;omega,n.2⟩;exact(B.kept c.size fun j f q=>c.block j q f.2.2).mono fun j _ n=>⟨n.1,n.2.1⟩
  exact A.kept x.size fun j f q=>x.block j q (fun e=>by injection e with e;have:=f.1;omega)
 have D:Af W' rb [.slice none 0 0,.slice none 0 0]:=(h.r.below (bG h.hrb (bG h.hbg w)) d).kept (c.block rb (by have:=h.hrb;have:=h.hbg;omega) (fun e=>by have:=(h.own rb e.symm).1;have:=h.hrb;have:=h.hbg;omega));refine⟨M.only x h.hbg,h.hbg,h.hrb,D.only (by have:=c.size;have:=h.hrb;have:=h.hbg;omega) x (by have:=h.hrb;have:=h.hbg;omega),by simpa using z.set 0 v' v rfl,?_,fun p C=>?_⟩
 ·rw[JO,bN]
  refine World.ownsRow.kept (row:=some bg) F x ?_
  cases y:v'.ownBlock with
  | none=>exact .inl rfl
  | some g=>right;intro e;injection e with e;have:=(F.lt g y).1;omega
 rcases aM.1 C with m | m
 ·obtain⟨R,S,U⟩:=h.k p m
  exact⟨a _ _ R,a _ _ S,U⟩
 obtain rfl:=aC.1 m;exact⟨a _ _ J,a _ _ i,ha,H,Q⟩
end
end Go
namespace Go.Proofs.YtipfpohlnhmlpaaGreatDoor
def C0:Bool->List UInt8->Nat
 | _,[]=>0
 | true,c::r=>if c=10 then 0 else C0 true r+1
 | false,c::r=>if c=32\/c=9\/c=13 then C0 false r+1 else if c=35 then C0 true r+1
   else if c=92 then (match r with | []=>0 | d::r'=>if d=10 then C0 false r'+2 else 0) else 0
theorem FC:∀(N:Nat) (b:Bool) (l:List UInt8),l.length<=N->C0 b l<=l.length
 | _,_,[],_=>by cases ‹Bool› <;> simp[C0]
 | 0,_,c::r,h=>by simp at h
 | N+1,true,c::r,h=>by
   simp only[aS] at h;have:=FC N true r (by omega);rw[C0];split<;>simp;exact this
 | N+1,false,c::r,h=>by
   simp only[aS] at h;have a:=FC N true r (by omega);have e:=FC N false r (by omega);rw[C0.eq_def];dsimp only;split
   ·simp;exact e
   split
   ·simp;exact a
   split
   ·cases r with
    | nil=>simp
    | cons d f =>
      dsimp only;split
      ·simp only[aS] at h ⊢
       have g:=FC N false f (by omega);omega
      simp
   simp
def AL (l:List UInt8) (k:Nat):Nat:=k+C0 false (l.drop k)
def Ec (l:List UInt8) (k:Nat):Nat:=k+C0 true (l.drop k)
theorem Kw (l:List UInt8) (k:Nat) (h:l.length<=k):AL l k=k:=by rw[AL,aO h];rfl
theorem Kv (l:List UInt8) (k:Nat) (h:l.length<=k):Ec l k=AL l k:=by rw[AL,Ec,aO h];rfl
theorem MI (l:List UInt8) (k:Nat) (h:k<l.length) (a:l[k]=10):Ec l k=AL l k:=by
 rw[AL,Ec,Aq l k h,C0.eq_def,C0.eq_def];simp[a]
theorem Jj (l:List UInt8) (k:Nat) (h:k<l.length) (a:l[k]≠10):Ec l k=Ec l (k+1):=by
 rw[Ec,Aq l k h,C0,if_neg a,Ec];omega
theorem H_ (l:List UInt8) (k:Nat) (h:k<l.length) (a:l[k]=32\/l[k]=9\/l[k]=13):AL l k=AL l (k+1):=by
 rw[AL,Aq l k h,C0.eq_def];dsimp only;rw[if_pos a,AL];omega
theorem Jk (l:List UInt8) (k:Nat) (h:k<l.length) (a:l[k]=35):AL l k=Ec l k:=by
 rw[AL,Aq l k h,C0.eq_def];dsimp only;rw[if_neg (by simp[a]),if_pos a,Ec,Aq l k h,C0,if_neg (by simp[a])]
theorem Jl (l:List UInt8) (k:Nat) (h:k+1<l.length) (a:l[k]=92) (b:l[k+1]=10):AL l k=AL l (k+2):=by
 rw[AL,Aq l k (by omega),Aq l (k+1) h,C0.eq_def];dsimp only;rw[if_neg (by simp[a]),if_neg (by simp[a]),if_pos a,if_pos b,AL];show k+(C0 false (l.drop (k+2))+2)=_;omega
theorem Jm (l:List UInt8) (k:Nat) (h:k<l.length) (c:¬ (l[k]=32\/l[k]=9\/l[k]=13)) (d:l[k]≠35) (f:¬ (l[k]=92/\l[k+1]?=some 10)):AL l k=k:=by
 rw[AL,Aq l k h,C0.eq_def];dsimp only;rw[if_neg c,if_neg d];split
 ·rename_i a
  by_cases b:k+1<l.length
  ·rw[Aq l (k+1) b];dsimp only
   rw[if_neg];· rfl
   intro e;exact f ⟨a,by rw[bA b,e]⟩
  rw[aO (by omega)];rfl
 rfl
def CV (l:List UInt8) (k:Nat):Prop:=∃h:k<l.length,Aj l[k]=true\/(l[k]=46/\∃a:k+1<l.length,Aj l[k+1]=true)
open Go.Proofs.Tryz
open Go.RowKit
theorem Dx (k a b:Nat) (d:k<=56) (ha:a<=8) (c:b=k+a):aG ((k:Int)+aG (a:Int))=(b:Int):=by
 unfold aG;omega
theorem QM (a:Nat) (ha:a<=8):aG (aG (a:Int))=(a:Int):=by
 unfold aG;omega
theorem Th (a:Nat) (ha:a<=8):aG (a:Int)=(a:Int):=by
 unfold aG;omega
theorem Dp (y:Int) (h:y.toNat<Lib.len8tab.size):((Lib.len8tab[y.toNat]'h).toNat:Int)=Lib.len8 y:=by
 unfold Lib.len8;rw[ByteArray.getElem?_lt' _ _ h];rfl
theorem PK (x:Int) (w:World) (b:0<=x) (c:x<=18446744073709551615) :
  Calls prog 117 #[.int .u64 x] w fun e a=>e = .returned (.int .i64 (bH x.toNat))/\w=a:=by
 go_in
 go_wp2
 all_goals first
  | (go_ret;refine⟨congrArg aD (congrArg (aT IntKind.i64) ?_),rfl⟩;go_light)
  | (exfalso
     go_light
     have d:=Lib.len8tab_size
     omega)
 all_goals first
  | (rw[Dp (x/4294967296/65536/256) _,aI (x/4294967296/65536/256) (by omega) (by omega)]
     have e:(x/4294967296/65536/256).toNat=x.toNat/72057594037927936:=(by omega);have l:=aF (x/4294967296/65536/256) (by omega) (by omega);have s:=Lib.bitLen_shift56 x.toNat (by omega) (by omega);rw[e] at l ⊢
     exact Dx 56 _ _ (by decide) l s)
  | (rw[Dp (x/4294967296/65536) _,aI (x/4294967296/65536) (by omega) (by omega)]
     have e:(x/4294967296/65536).toNat=x.toNat/281474976710656:=(by omega);have l:=aF (x/4294967296/65536) (by omega) (by omega);have s:=Lib.bitLen_shift48 x.toNat (by omega) (by omega);rw[e] at l ⊢
     exact Dx 48 _ _ (by decide) l s)
  | (rw[Dp (x/4294967296/256) _,aI (x/4294967296/256) (by omega) (by omega)]
     have e:(x/4294967296/256).toNat=x.toNat/1099511627776:=(by omega);have l:=aF (x/4294967296/256) (by omega) (by omega);have s:=Lib.bitLen_shift40 x.toNat (by omega) (by omega);rw[e] at l ⊢
     exact Dx 40 _ _ (by decide) l s)
  | (rw[Dp (x/4294967296) _,aI (x/4294967296) (by omega) (by omega)]
     have e:(x/4294967296).toNat=x.toNat/4294967296:=(by omega);have l:=aF (x/4294967296) (by omega) (by omega);have s:=Lib.bitLen_shift32 x.toNat (by omega) (by omega);rw[e] at l ⊢
     exact Dx 32 _ _ (by decide) l s)
  | (rw[Dp (x/65536/256) _,aI (x/65536/256) (by omega) (by omega)]
     have e:(x/65536/256).toNat=x.toNat/16777216:=(by omega);have l:=aF (x/65536/256) (by omega) (by omega);have s:=Lib.bitLen_shift24 x.toNat (by omega) (by omega);rw[e] at l ⊢
     exact Dx 24 _ _ (by decide) l s)
  | (rw[Dp (x/65536) _,aI (x/65536) (by omega) (by omega)]
     have e:(x/65536).toNat=x.toNat/65536:=(by omega);have l:=aF (x/65536) (by omega) (by omega);have s:=Lib.bitLen_shift16 x.toNat (by omega) (by omega);rw[e] at l ⊢
     exact Dx 16 _ _ (by decide) l s)
  | (rw[Dp (x/256) _,aI (x/256) (by omega) (by omega)]
     have e:(x/256).toNat=x.toNat/256:=(by omega);have l:=aF (x/256) (by omega) (by omega);have s:=Lib.bitLen_shift8 x.toNat (by omega) (by omega);rw[e] at l ⊢
     exact Dx 8 _ _ (by decide) l s)
  | (rw[Dp x _,aI x (by omega) (by omega)]
     have l:=aF x (by omega) (by omega)
     first | exact QM _ l | exact Dx 0 _ _ (by decide) l (by omega) | exact Th _ l)
theorem G2 (x:Nat) (w:World) (b:x<18446744073709551616) :
  Calls prog 117 #[.int .u64 x] w fun e a=>e = .returned (.int .i64 (bH x))/\w=a:=by
 have:=PK x w (by omega) (by omega);simpa using this
theorem QX (x:Nat) (b:x<18446744073709551616):bits .and .u64 (x:Int) 4294967295=(x:Int)%4294967296:=by
 have h:=bits_and_u64_nat x 4294967295 b (by omega);have a:x&&&4294967295=x%4294967296:=aU x 32;rw[a] at h;exact h.trans (by omega)
theorem Vg (x:Int) (a:0<=x) (b:x<18446744073709551616):bits .and .u64 x 4294967295=x%4294967296:=by
 have:=QX x.toNat (by omega);rw[show ((x.toNat:Nat):Int)=x by omega] at this;exact this
theorem PO (x y:Nat) (w:x<18446744073709551616) (z:y<18446744073709551616):∃i j l m a b c d:Int,0<=i/\i<=4294967295/\0<=j/\j<=4294967295/\0<=l/\l<=4294967295/\0<=m/\m<=4294967295 /\
  (x:Int)%4294967296=i/\(x:Int)/4294967296=j/\(y:Int)%4294967296=l/\(y:Int)/4294967296=m/\i*l=a/\j*l=b/\i*m=c/\j*m=d /\
  0<=a/\a<=18446744065119617025/\0<=b/\b<=18446744065119617025/\0<=c/\c<=18446744065119617025/\0<=d/\d<=18446744065119617025/\(x:Int)*y=d*18446744073709551616+(b+c)*4294967296+a:=by
 refine⟨((x:Int)%4294967296),((x:Int)/4294967296),((y:Int)%4294967296),((y:Int)/4294967296),((x:Int)%4294967296)*((y:Int)%4294967296),((x:Int)/4294967296)*((y:Int)%4294967296),((x:Int)%4294967296)*((y:Int)/4294967296),((x:Int)/4294967296)*((y:Int)/4294967296),?_⟩
 have k:∀u v:Int,0<=u->u<=4294967295->0<=v->v<=4294967295->0<=u*v/\u*v<=18446744065119617025:=fun u v q r n s =>
  ⟨Int.mul_nonneg q n,by
    have t:u*v<=4294967295*v:=Int.mul_le_mul_of_nonneg_right r n
    omega⟩
 have o:(x:Int)=(x:Int)/4294967296*4294967296+(x:Int)%4294967296:=(by omega);have p:(y:Int)=(y:Int)/4294967296*4294967296+(y:Int)%4294967296:=(by omega);have e:0<=(x:Int)%4294967296/\(x:Int)%4294967296<=4294967295:=(by omega);have f:0<=(x:Int)/4294967296/\(x:Int)/4294967296<=4294967295:=(by omega);have g:0<=(y:Int)%4294967296/\(y:Int)%4294967296<=4294967295:=(by omega);have h:0<=(y:Int)/4294967296/\(y:Int)/4294967296<=4294967295:=(by omega);refine⟨e.1,e.2,f.1,f.2,g.1,g.2,h.1,h.2,rfl,rfl,rfl,rfl,rfl,rfl,rfl,rfl,(k _ _ e.1 e.2 g.1 g.2).1,(k _ _ e.1 e.2 g.1 g.2).2,(k _ _ f.1 f.2 g.1 g.2).1,(k _ _ f.1 f.2 g.1 g.2).2,(k _ _ e.1 e.2 h.1 h.2).1,(k _ _ e.1 e.2 h.1 h.2).2,(k _ _ f.1 f.2 h.1 h.2).1,(k _ _ f.1 f.2 h.1 h.2).2,?_⟩
 generalize (x:Int)%4294967296=i at *;generalize (x:Int)/4294967296=j at *;generalize (y:Int)%4294967296=l at *;generalize (y:Int)/4294967296=m at *;rw[o,p]
 grind
theorem Kf (x y:Nat) (w:World) (r:x<18446744073709551616) (u:y<18446744073709551616) :
  Calls prog 152 #[.int .u64 x,.int .u64 y] w fun e P=>e = .returned (.tuple #[.int .u64 (x*y/18446744073709551616:Nat),.int .u64 (x*y%18446744073709551616:Nat)])/\w=P:=by
 obtain⟨T,U,V,W,a,b,c,d,s,i,t,j,v,m,z,n,B,F,C,G,L,M,N,O,ha,H,Q,I,R,J,S,K,k⟩:=PO x y r u;have o:=QX x r;have p:=QX y u;rw[B] at o;rw[C] at p;have D:=Vg;have f:=aA k;clear k B C;have E:∀h l:Int,h=(x*y/18446744073709551616:Nat)->l=(x*y%18446744073709551616:Nat)->Value.tuple #[.int .u64 h,.int .u64 l]=Value.tuple #[.int .u64 (x*y/18446744073709551616:Nat),.int .u64 (x*y%18446744073709551616:Nat)]:=fun h l o p=>by rw[o,p]
 have A:=aA E;clear E
 go_in
 go_wp2
 go_ret2
 refine⟨congrArg aD (A.out _ _ ?_ ?_),rfl⟩
 ·have g:((x*y/18446744073709551616:Nat):Int)=(x:Int)*y/18446744073709551616:=by rw[Int.natCast_ediv,Int.natCast_mul];rfl
  rw[D _ (by omega) (by omega),g,f.out,IntKind.wrap_u64,IntKind.wrap_u64];clear o p D f A F G L M N O r u s i t j v m z n g;omega
 have q:((x*y%18446744073709551616:Nat):Int)=(x:Int)*y%18446744073709551616:=by rw[Int.natCast_emod,Int.natCast_mul];rfl
 rw[q,IntKind.wrap_u64]
theorem EK (b:Bool) (w:World):Calls prog 118 #[.bool b] w fun e a=>e = .returned (.int .i64 (if b then 1 else 0))/\w=a:=by
 cases b<;>(go_in;go_wp2;go_ret;exact⟨rfl,rfl⟩)
theorem KC (x:Nat) (a:1<=x) (c:x<4611686018427387904) (w:World):Calls prog 131 #[.int .u64 x] w fun e b=>e = .returned (.int .u64 (4*x-2:Nat))/\w=b:=by
 go_in
 go_wp2;go_ret;refine⟨congrArg aD (congrArg (aT IntKind.u64) ?_),rfl⟩;omega
theorem Kd (x:Int) (b : -1000000<=x) (c:x<=1000000) (w:World):Calls prog 128 #[.int .i64 x] w fun e a=>e = .returned (.int .i64 (x*108853/32768))/\w=a:=by
 go_in
 go_wp2;go_ret;exact⟨rfl,rfl⟩
def Ch (u:Nat):Nat:=(u+1+u/4%2)/4
theorem G_ (u:Nat) (c:u<18446744073709551612) (w:World):Calls prog 133 #[.int .u64 u] w fun e a=>e = .returned (.int .u64 (Ch u))/\w=a:=by
 have b:bits .and .u64 ((u:Int)/4) 1=(u:Int)/4%2:=by
  have h:=bits_and_u64_nat (u/4) 1 (by omega) (by omega);rw[nat_mask1] at h;exact h.trans (by omega)
 go_in
 go_wp2;go_ret;refine⟨congrArg aD (congrArg (aT IntKind.u64) ?_),rfl⟩;unfold Ch;omega
theorem EX {P:Program} {f:FuncId} {args:Array Value} {w:World} {n:Nat} {v:Value}
  (h:Calls P f args (w.drewN n) fun e d=>e = .returned v/\w.drewN n=d):Calls P f args (w.drewN n) fun e a=>e = .returned v/\∃m,a=w.drewN m :=
 h.mono fun _ _ ⟨b,c⟩=>⟨b,n,c.symm⟩
def GO (a b:Int):Nat:=a.toNat|||b.toNat
theorem NE (a b:Int) (ha:a<18446744073709551616) (c:b<18446744073709551616):GO a b<18446744073709551616 :=
 Nat.or_lt_two_pow (n:=64) (by omega) (by omega)
theorem IV (a b:Int) (c:0<=a) (d:a<18446744073709551616) (e:0<=b) (f:b<18446744073709551616):bits .or .u64 a b=(GO a b:Nat):=u64_or a b c d e f
theorem EO (H:Int) (s:Nat) (a:0<=H) (h:H<18446744073709551616):0<=H/2^s/\H/2^s<18446744073709551616:=by
 have b:(0:Int)<2^s:=Int.pow_pos (by omega);exact⟨Int.ediv_nonneg a (by omega),Int.lt_of_le_of_lt (Int.ediv_le_self _ a) h⟩
def Fa (x a b s:Nat):Nat :=
 if (((x*a/18446744073709551616:Nat):Int)/2^s*2^s)%18446744073709551616≠(x*a/18446744073709551616:Nat) then GO (((x*a/18446744073709551616:Nat):Int)/2^s) 1
 else if x*a%18446744073709551616<x*b/18446744073709551616 then
  GO ((((x*a/18446744073709551616:Nat):Int)-1)%18446744073709551616/2^s) (if 1<(((x*a%18446744073709551616:Nat):Int)-(x*b/18446744073709551616:Nat))%18446744073709551616 then 1 else 0)
 else GO (((x*a/18446744073709551616:Nat):Int)/2^s) (if 1<(((x*a%18446744073709551616:Nat):Int)-(x*b/18446744073709551616:Nat))%18446744073709551616 then 1 else 0)
theorem Gs (x y:Nat) (a:x<18446744073709551616) (b:y<18446744073709551616):x*y/18446744073709551616<18446744073709551616:=by
 rw[bL (by omega)];exact Nat.mul_lt_mul'' a b
theorem UO (x a f s:Nat) (e:x<18446744073709551616) (b:a<18446744073709551616):Fa x a f s<18446744073709551616:=by
 have g:=Gs x a e b;unfold Fa;have c:=EO ((x*a/18446744073709551616:Nat):Int) s (by omega) (by omega);have d:=EO ((((x*a/18446744073709551616:Nat):Int)-1)%18446744073709551616) s (by omega) (by omega);split
 ·exact NE _ _ c.2 (by omega)
 split
 ·exact NE _ _ d.2 (by split<;>omega)
 exact NE _ _ c.2 (by split<;>omega)
theorem V8 (s:Nat) (a:s<=63):bits .and .i64 (s:Int) 63=s:=by
 have h:∀s:Fin 64,bits .and .i64 ((s:Nat):Int) 63=(s:Nat):=(by decide +kernel);exact h ⟨s,by omega⟩
theorem JA (x d f s b:Nat) (w:World) (B:x<18446744073709551616) (q:d<18446744073709551616) (r:f<18446744073709551616) (N:s<=63)
  (Q:w.cell? ⟨b,0,none⟩=some (.int .u64 d)) (R:w.cell? ⟨b,1,none⟩=some (.int .u64 f)) (S:w.cell? ⟨b,2,none⟩=some (.int .i64 s)) :
  Calls prog 130 #[.int .u64 x,.pointer (some ⟨b,0,none⟩)] w fun e c=>e = .returned (.int .u64 (Fa x d f s))/\∃n,c=w.drewN n:=by
 have D:=fun W=>Kf x d W B q;have E:=fun W=>Kf x f W B r;have G:=V8 s N;have I:=Gs x d B q;have J:x*d%18446744073709551616<18446744073709551616:=(by omega);have K:=Gs x f B r;obtain⟨H,y⟩:∃H,x*d/18446744073709551616=H:=⟨_,rfl⟩;obtain⟨M,z⟩:∃M,x*d%18446744073709551616=M:=⟨_,rfl⟩;obtain⟨g,j⟩:∃g,x*f/18446744073709551616=g:=⟨_,rfl⟩;obtain⟨L2,p⟩:∃L2,x*f%18446744073709551616=L2:=⟨_,rfl⟩
 have F:Fa x d f s=if ((H:Int)/2^s*2^s)%18446744073709551616≠(H:Int) then GO ((H:Int)/2^s) 1
   else if M<g then GO (((H:Int)-1)%18446744073709551616/2^s) (if 1<((M:Int)-g)%18446744073709551616 then 1 else 0)
   else GO ((H:Int)/2^s) (if 1<((M:Int)-g)%18446744073709551616 then 1 else 0):=by
  unfold Fa;rw[y,z,j]
 rw[y,z] at D;rw[j,p] at E;rw[y] at I;rw[z] at J;rw[j] at K;have m:=aA D;have o:=aA E;have h:=aA F;clear D E F y z j p;have u:=EO (H:Int) s (by omega) (by omega);have v:=EO (((H:Int)-1)%18446744073709551616) s (by omega) (by omega);have O:=IV _ 1 u.1 u.2 (by omega) (by omega);have P:=IV _ 0 u.1 u.2 (by omega) (by omega);have U:=IV _ 1 v.1 v.2 (by omega) (by omega);have V:=IV _ 0 v.1 v.2 (by omega) (by omega);have T:=IntKind.wrap_u64;by_cases l:((H:Int)/2^s*2^s)%18446744073709551616=(H:Int)
 ·have L:(((H:Int)/2^s*2^s)%18446744073709551616 != (H:Int))=false:=by simp[l]
  have t:=aA l;clear l;by_cases A:M<g
  ·by_cases k:1<((M:Int)-g)%18446744073709551616
   ·have C:decide ((1:Int)<((M:Int)-g)%18446744073709551616)=true:=by simpa using k
    have i:Hid (Fa x d f s=GO (((H:Int)-1)%18446744073709551616/2^s) 1):=by unfold Hid;rw[h.out,if_neg (by rw[t.out];simp),if_pos A,if_pos k]
    clear h
    go_in
    go_wp2_with (first | (go_at_call 152;first | (with_reducible refine(m.out _).mono ?_;rintro e c ⟨rfl,rfl⟩) | (with_reducible refine(o.out _).mono ?_;rintro e c ⟨rfl,rfl⟩)) | (go_at_call 110;refine(Bb _ _).mono ?_;rintro e c ⟨rfl,rfl⟩))
    go_quiet ((go_at_call 110;exact EX (Bb _ _)));go_wp2;go_ret;exact⟨congrArg aD (congrArg (aT IntKind.u64) (by rw[i.out])),_,rfl⟩
   have C:decide ((1:Int)<((M:Int)-g)%18446744073709551616)=false:=(by simpa using k);have i:Hid (Fa x d f s=GO (((H:Int)-1)%18446744073709551616/2^s) 0):=by unfold Hid;rw[h.out,if_neg (by rw[t.out];simp),if_pos A,if_neg k]
   clear h
   go_in
   go_wp2_with (first | (go_at_call 152;first | (with_reducible refine(m.out _).mono ?_;rintro e c ⟨rfl,rfl⟩) | (with_reducible refine(o.out _).mono ?_;rintro e c ⟨rfl,rfl⟩)) | (go_at_call 110;refine(Bb _ _).mono ?_;rintro e c ⟨rfl,rfl⟩))
   go_quiet ((go_at_call 110;exact EX (Bb _ _)));go_wp2;go_ret;exact⟨congrArg aD (congrArg (aT IntKind.u64) (by rw[i.out])),_,rfl⟩
  by_cases k:1<((M:Int)-g)%18446744073709551616
  ·have C:decide ((1:Int)<((M:Int)-g)%18446744073709551616)=true:=by simpa using k
   have i:Hid (Fa x d f s=GO ((H:Int)/2^s) 1):=by unfold Hid;rw[h.out,if_neg (by rw[t.out];simp),if_neg A,if_pos k]
   clear h
   go_in
   go_wp2_with (first | (go_at_call 152;first | (with_reducible refine(m.out _).mono ?_;rintro e c ⟨rfl,rfl⟩) | (with_reducible refine(o.out _).mono ?_;rintro e c ⟨rfl,rfl⟩)) | (go_at_call 110;refine(Bb _ _).mono ?_;rintro e c ⟨rfl,rfl⟩))
   go_quiet ((go_at_call 110;exact EX (Bb _ _)));go_wp2;go_ret;exact⟨congrArg aD (congrArg (aT IntKind.u64) (by rw[Int.emod_eq_of_lt (a:=(H:Int)) (by omega) (by omega),O,i.out])),_,rfl⟩
  have C:decide ((1:Int)<((M:Int)-g)%18446744073709551616)=false:=(by simpa using k);have i:Hid (Fa x d f s=GO ((H:Int)/2^s) 0):=by unfold Hid;rw[h.out,if_neg (by rw[t.out];simp),if_neg A,if_neg k]
  clear h
  go_in
  go_wp2_with (first | (go_at_call 152;first | (with_reducible refine(m.out _).mono ?_;rintro e c ⟨rfl,rfl⟩) | (with_reducible refine(o.out _).mono ?_;rintro e c ⟨rfl,rfl⟩)) | (go_at_call 110;refine(Bb _ _).mono ?_;rintro e c ⟨rfl,rfl⟩))
  go_quiet ((go_at_call 110;exact EX (Bb _ _)));go_wp2;go_ret;exact⟨congrArg aD (congrArg (aT IntKind.u64) (by rw[Int.emod_eq_of_lt (a:=(H:Int)) (by omega) (by omega),P,i.out])),_,rfl⟩
 have L:(((H:Int)/2^s*2^s)%18446744073709551616 != (H:Int))=true:=(by simp[l]);have i:Hid (Fa x d f s=GO ((H:Int)/2^s) 1):=by unfold Hid;rw[h.out,if_pos l]
 clear h l
 go_in
 go_wp2_with (first | (go_at_call 152;first | (with_reducible refine(m.out _).mono ?_;rintro e c ⟨rfl,rfl⟩) | (with_reducible refine(o.out _).mono ?_;rintro e c ⟨rfl,rfl⟩)) | (go_at_call 110;refine(Bb _ _).mono ?_;rintro e c ⟨rfl,rfl⟩))
 go_ret;exact⟨congrArg aD (congrArg (aT IntKind.u64) (by rw[i.out])),0,rfl⟩
def To (w:World) (b:Nat) (f:Nat->Nat) (p:Nat×Nat) (dp:Int) (a tr:Bool) (e:Ending) (w':World):Prop :=
 e = .returned (.tuple #[])/\BO w' b f p.1 (Wb p.1 dp) a tr/\MS f p.1 p.2/\Ae b w w'
theorem Jy (w:World) (b:Nat) (f:Nat->Nat) (nd M:Nat) (dp:Int) (q tr:Bool) (E:nd<=800) (u:BO w b f nd dp q tr) (v:MS f nd M) :
  Calls prog 166 #[.pointer (some ⟨b,0,none⟩)] w (To w b f (Bk nd M) dp q tr):=by
 have s:=aA u;have t:=aA v;have r:=aA (Ae.refl b w);clear u v
 go_in
 go_wp2
 go_loopg [] nd (fun n wr=>∃c,n<=nd/\Hid (BO wr b f n dp q tr)/\Hid (MS f n c)/\Hid (Bk nd M=Bk n c)/\Hid (Ae b w wr))
 case atStart=>exact⟨M,aB _,s,t,aA rfl,r⟩
 obtain⟨c,D,a,e,o,h⟩:=hrel;clear s t r;have B:=a.out.nd;have C:=a.out.fz 800
 cases gk with
 | zero =>
   have l:=a.out.dp;have y:=a.out.fz 801;have A:decide ((0:Int)<0)=false:=(by decide);go_wp2;go_quiet (fail);go_wp2
   go_end0
   have j:Bk nd M=(0,c):=o.out;refine⟨rfl,?_,?_,(h.out.drewN _).set 801 _⟩
   ·rw[j];exact(a.out.drewN _).setDp 0
   rw[j];exact e.out
 | succ n =>
   have p:=Rc e.out;have l:=a.out.d n (by omega);rw[p] at l;have y:=a.out.fz n;have A:decide ((0:Int)<((n+1:Nat):Int))=true:=decide_eq_true (by omega);by_cases i:c%10=0
   ·have g:Hid (Bk nd M=Bk n (c/10)):=by unfold Hid;rw[o.out,FU i]
    have m:=aA (Rb e.out);rw[i] at l;clear p i;go_wp2;go_quiet (fail);go_wp2
    go_roundg n
    case measure=>omega
    exact⟨c/10,by omega,aA (by have:=(a.out.drewN nq).setNd n;simpa using this),m,g,aA ((h.out.drewN _).set 800 _)⟩
   have k:Bk nd M=(n+1,c):=(by rw[o.out,GK i]);have g:=aA k;have x:((48+c%10:Nat):Int)=48+(c%10:Nat):=(by omega);rw[x] at l;have z:(48+((c%10:Nat):Int)==48)=false:=beq_eq_false_iff_ne.2 (by omega);clear p i k x;go_wp2;go_quiet (fail);go_wp2
   go_end0
   refine⟨rfl,?_,?_,h.out.drewN _⟩
   ·rw[g.out,Wb,if_neg (Nat.succ_ne_zero n)];exact a.out.drewN _
   rw[g.out];exact e.out
theorem LK (M k:Nat):48<=48+M/10^k%10/\48+M/10^k%10<=57:=by omega
theorem I2 (w:World) (b cap:Nat) (f:Nat->Nat) (nd M S:Nat) (dp:Int) (Z tr:Bool) (s:ByteArray) (hn:nd<=800) (hs:s.size<=100) (K:BO w b f nd dp Z tr) (z:MS f nd M)
  (N:∀i (h:i<s.size),s[i].toNat=48+S/10^(s.size-1-i)%10) (q:S<10^s.size) (p:s.size≠0->S%10≠0) :
  Calls prog 169 #[.slice (some ⟨b,0,none⟩) nd cap,.string s] w fun e w'=>e = .returned (.bool (decide (M*10^s.size<S*10^nd)))/\∃n,w'=w.drewN n:=by
 have O:=aA K;have V:=aA z;have W:=aA N;obtain⟨R,A⟩:∃R,decide (M*10^s.size<S*10^nd)=R:=⟨_,rfl⟩;have u:=aA A;have P:=aA (fun E C=>decide_eq_false (VG (M:=M) (S:=S) (nd:=nd) (L:=s.size) E C));have T:=aA (fun(h:nd<s.size) C=>decide_eq_true (Se (M:=M) (S:=S) (nd:=nd) (L:=s.size) h C (p (by omega))));have U:=aA (fun i (g:i<nd) (l:i<s.size) h=>decide_eq_true (Wn (M:=M) (S:=S) g l h));have Q:=aA (fun i (g:i<nd) (l:i<s.size) h=>decide_eq_false (Wm (M:=M) (S:=S) g l h))
 have G:Hid (M/10^(nd-0)=S/10^(s.size-0)):=by
  unfold Hid;rw[aK (by simpa using z.1),aK (by simpa using q)]
 rw[A];clear K z N q p A
 go_in
 go_wp2
 go_loopw [5] (fun i wr=>∃k:Nat,k<=s.size/\k<=nd/\i = .int .i64 k/\Hid (M/10^(nd-k)=S/10^(s.size-k))/\Hid (∃n,wr=w.drewN n)) (fun i _=>s.size-(intOf i).toNat)
 case atStart=>exact⟨0,by omega,by omega,rfl,G,aA ⟨0,rfl⟩⟩
 obtain⟨k,hk,Y,rfl,t,o⟩:=hrel;clear G;by_cases g:k<s.size
 ·by_cases l:k<nd
  ·have I:=V.out.2 k l
   have J:=W.out k g
   have B:wr.cell? ⟨b,k,none⟩=some (.int .u8 (f k)):=by
    obtain⟨n,r⟩:=o.out;rw[r];exact O.out.d k (by omega)
   have a:=I1 M nd k l;have c:=I1 S s.size k g;have H:=LK M (nd-1-k);by_cases j:f k=s[k].toNat
   ·have v:Hid (M/10^(nd-(k+1))=S/10^(s.size-(k+1))):=by
     have:=t.out;unfold Hid;rw[a,c];omega
    have X:((f k:Int) != (s[k].toNat:Int))=false:=(by simp[j]);clear j I J a c H;go_wp2;go_quiet (fail);go_wp2
    go_roundw
    case rel=>exact⟨k+1,by omega,by omega,by go_num,v,by obtain⟨n,r⟩:=o.out;exact⟨n+_,by rw[r,aP]⟩⟩
    simp[intOf];omega
   have X:((f k:Int) != (s[k].toNat:Int))=true:=by simp;omega
   have m:Hid (decide (f k<s[k].toNat)=R):=by
    have hK:=t.out
    have F:f k<s[k].toNat->R=true:=fun h=>by
     rw[<- u.out];refine U.out k l g ?_;have x:nd-(k+1)=nd-1-k:=(by omega);have y:s.size-(k+1)=s.size-1-k:=(by omega);rw[x] at a;rw[y] at c;rw[a,c];omega
    have D:s[k].toNat<f k->R=false:=fun h=>by
     rw[<- u.out];refine Q.out k l g ?_;have x:nd-(k+1)=nd-1-k:=(by omega);have y:s.size-(k+1)=s.size-1-k:=(by omega);rw[x] at a;rw[y] at c;rw[a,c];omega
    unfold Hid;rcases Nat.lt_or_gt_of_ne j with h | h
    ·rw[F h];exact decide_eq_true (by omega)
    rw[D h];exact decide_eq_false (by omega)
   clear j I J a c H;go_wp2;go_quiet (fail);go_wp2;go_quiet (fail);go_wp2;go_ret;obtain⟨n,r⟩:=o.out;exact⟨B3 m.out,⟨_,by rw[r,aP,aP]⟩⟩
  have m:Hid (R=true):=by
   have:k=nd:=(by omega);subst this;unfold Hid;rw[<- u.out];exact T.out g (by have:=t.out;rw[bI,Nat.pow_zero,Nat.div_one] at this;exact this)
  go_wp2;go_ret;exact⟨by rw[m.out];rfl,o.out⟩
 have m:Hid (R=false):=by
  have:k=s.size:=(by omega);unfold Hid;rw[<- u.out];exact P.out (by omega) (by have:=t.out;subst_vars;rw[bI,Nat.pow_zero,Nat.div_one] at this;exact this)
 go_wp2;go_ret;exact⟨by rw[m.out];rfl,o.out⟩
def CL (i:Nat):Nat:=(Go.Pinned.pow10Rows.getD i (0,0)).1
def Dq (i:Nat):Nat:=(Go.Pinned.pow10Rows.getD i (0,0)).2
theorem T6:(Go.Pinned.pow10Rows.all fun x=>decide (x.1<18446744073709551616)&&decide (x.2<18446744073709551616))=true:=by decide +kernel
theorem G7 (i:Nat):CL i<18446744073709551616/\Dq i<18446744073709551616:=by
 unfold CL Dq;rw[aY]
 cases h:Go.Pinned.pow10Rows[i]? with
 | none=>simp
 | some x =>
   have:=bD.1 T6 x (List.mem_of_getElem? h);simpa using this
structure Hl (w:World):Prop where
 le:JU w
 tab:∀i,i<696->w.cell? ⟨18,2*i,none⟩=some (.int .u64 (CL i))/\w.cell? ⟨18,2*i+1,none⟩=some (.int .u64 (Dq i))
theorem Hl.below {w w':World} (h:Hl w) (c:Below w.heap.size w w'):Hl w':=by
 obtain⟨d,e⟩:=h;refine⟨d.below c,fun i f=>?_⟩;obtain⟨a,b⟩:=e i f;exact⟨by rw[c.cell (aE w _ a)];exact a,by rw[c.cell (aE w _ b)];exact b⟩
theorem Ou {W:World} {a:Addr} {v:Value} (h:W.cell? a=some v) (o:Obj):(W.alloc o).cell? a=some v :=
 (((aR W.heap.size W).alloc (aB _) o).cell (aE W a h)).trans h
theorem GA (k:Nat) (e a:Int) (j l m:Value) (w:World) (h:k<696) (d:Hl w) (r : -100000<=e) (g:e<=100000) (s : -100000<=a) (i:a<=100000) :
  Calls prog 129 #[.pointer (some ⟨w.heap.size,0,none⟩),.int .i64 e,.int .i64 ((k:Int)-348),.int .i64 a] (w.alloc (.cells #[j,l,m] 170)) fun f n=>f = .returned (.tuple #[])/\w.alloc (.cells #[.int .u64 (CL k),.int .u64 (Dq k),.int .i64 (-(e+a+3))] 170)=n:=by
 obtain⟨b,c⟩:=d.tab k h;rw[Nat.mul_comm 2 k] at b c;have p:=fun o=>Ou b o;have q:=fun o=>Ou c o;clear d b c
 go_in
 go_wp2
 go_end0
 exact⟨rfl,rfl⟩
theorem Tx (c:BinOp) (a b:Int):0<=bits c .u64 a b/\bits c .u64 a b<18446744073709551616:=by
 have h:bits c .u64 a b=IntKind.u64.wrap (bits c .u64 a b):=by
  unfold bits;simp only[IntKind.wrap_u64];omega
 rw[h,IntKind.wrap_u64];omega
theorem JX (x:Nat):bH x<=64:=by
 have h:∀f x,bB f x<=f:=by
  intro f
  induction f with
  | zero=>intro x;simp[bB]
  | succ f a=>intro x;rw[bB];split;omega;have:=a (x/2);omega
 exact h 64 x
theorem M3 (x:Nat) (h:x≠0):1<=bH x:=by
 unfold bH;rw[bB,if_neg h];omega
theorem below_drewN {B:Nat} {a w:World} (h:Below B a w) (n:Nat):Below B a (w.drewN n):=⟨h.os,h.tape,h.output,h.size,h.block⟩
structure DE (w:World):Prop where
 lt:Hl w
 ch:∃B o cap,w.cell? ⟨21,0,none⟩=some (.slice (some ⟨B,o,none⟩) 61 cap)/\∀k,k<61->w.cell? ⟨B,o+2*k,none⟩=some (.int .i64 (Go.Pinned.cheatRows.getD k (0,[])).1)/\w.cell? ⟨B,o+2*k+1,none⟩=some (.string ⟨(Go.Pinned.cheatRows.getD k (0,[])).2.toArray⟩)
 pt:∃B o cap,w.cell? ⟨16,0,none⟩=some (.slice (some ⟨B,o,none⟩) 9 cap)/\∀i,i<9->w.cell? ⟨B,o+i,none⟩=some (.int .i64 (Mt.getD i 0))
 fi:w.cell? ⟨13,1,none⟩=some (.int .u64 11)/\w.cell? ⟨13,2,none⟩=some (.int .i64 (-1023))
 u10:∀i,i<20->w.cell? ⟨14,i,none⟩=some (.int .u64 (10^i:Nat))
theorem DE.below {w w':World} (h:DE w) (g:Below w.heap.size w w'):DE w':=by
 obtain⟨n,⟨B,o,c,p,e⟩,⟨m,t,b,q,r⟩,f,s⟩:=h
 have keep:∀(a:Addr) (v:Value),w.cell? a=some v->w'.cell? a=some v:=fun a v l=>by
  rw[g.cell (aE w a l)];exact l
 exact⟨n.below g,⟨B,o,c,keep _ _ p,fun k j=>⟨keep _ _ (e k j).1,keep _ _ (e k j).2⟩⟩,⟨m,t,b,keep _ _ q,fun i d=>keep _ _ (r i d)⟩,⟨keep _ _ f.1,keep _ _ f.2⟩,fun i d=>keep _ _ (s i d)⟩
def Gg (w wr:World) (b:Nat) (f:Nat->Nat) (nd P T:Nat) (dp:Int) (c tr:Bool) (q:Nat):Prop :=
 ∃a,BO wr b a nd dp c (tr||Fo P T q)/\(∀i,i+q<nd->a i=f i)/\VI a P T q/\Ae b w wr
theorem L' {w wr:World} {b:Nat} {f:Nat->Nat} {nd P T:Nat} {dp:Int} {c tr:Bool} {q:Nat} (h:Gg w wr b f nd P T dp c tr q) (t:q<T) (r:nd<=T) (a:T-(q+1)<800) :
  Gg w (wr.setCell ⟨b,T-(q+1),none⟩ (.int .u8 (48+P/10^q%10:Nat))) b f nd P T dp c tr (q+1):=by
 obtain⟨d,g,k,l,m⟩:=h;refine⟨Vb d (T-(q+1)) (48+P/10^q%10),?_,fun i s=>?_,fun j o p n=>?_,m.set _ _⟩
 ·rw[Re a];exact g.setD a _
 ·rw[DT _ _ (by omega)];exact k i (by omega)
 by_cases e:j=T-(q+1)
 ·subst e;rw[GL,show T-1-(T-(q+1))=q by omega]
 rw[DT _ _ e];exact l j o (by omega) n
theorem Ns {w wr:World} {b:Nat} {f:Nat->Nat} {nd P T:Nat} {dp:Int} {a tr:Bool} {q:Nat} (h:Gg w wr b f nd P T dp a tr q) (m:¬ T-(q+1)<800) (d:P/10^q%10=0) :
  Gg w wr b f nd P T dp a tr (q+1):=by
 obtain⟨c,e,g,n,k⟩:=h;refine⟨c,?_,fun i r=>g i (by omega),fun j l o p=>?_,k⟩
 ·rw[J1 m,d];simpa using e
 exact absurd l (by omega)
theorem Nt {w wr:World} {b:Nat} {f:Nat->Nat} {nd P T:Nat} {dp:Int} {a tr:Bool} {q:Nat} (h:Gg w wr b f nd P T dp a tr q) (m:¬ T-(q+1)<800) (d:P/10^q%10≠0) :
  Gg w (wr.setCell ⟨b,803,none⟩ (.bool true)) b f nd P T dp a tr (q+1):=by
 obtain⟨c,e,g,n,k⟩:=h;refine⟨c,?_,fun i r=>g i (by omega),fun j l o p=>?_,k.set _ _⟩
 ·rw[J1 m,decide_eq_true d,bJ,bJ];exact e.setTr true
 exact absurd l (by omega)
def Lp (w:World) (b P T:Nat) (dp:Int) (c tr:Bool) (e:Ending) (w':World):Prop :=
 e = .returned (.tuple #[])/\∃a,BO w' b a (Cb P T).1 (Wb (Cb P T).1 dp) c (tr||decide (P%10^(T-800)≠0))/\MS a (Cb P T).1 (Cb P T).2/\Ae b w w'
theorem Pi (k:Nat) (a:1<=k) (b:k<=60):KN k (Go.Pinned.cheatRows.getD k (0,[]))=true:=by
 have:=bD.1 Pk (k-1) (List.mem_range.2 (by omega))
 rwa [show k-1+1=k by omega] at this
theorem Sl {P:Program} {f:FuncId} {args:Array Value} {w:World} {n:Nat} {v:Value}
  (h:Calls P f args (w.drewN n) fun e d=>e = .returned v/\∃m,d=(w.drewN n).drewN m):Calls P f args (w.drewN n) fun e a=>e = .returned v/\∃m,a=w.drewN m :=
 h.mono fun _ _ ⟨b,m,c⟩=>⟨b,n+m,by rw[c,aP]⟩
theorem Qq (W:World) (b nd:Nat) (i:nd<=800):Sem.run prog (Instr.sliceAt 145 (.pointer (some ⟨b,0,none⟩)) (some (.int .i64 0)) (some (.int .i64 nd)) none) W = .ok (.slice (some ⟨b,0,none⟩) nd 800) W:=by
 have a:prog.arrayLen 145=800:=(by kernel_rfl);have d:prog.elem 145=5:=(by kernel_rfl);have h:=run_sliceAt_array_lh (P:=prog) W 145 ⟨b,0,none⟩ (by rw[a,d];exact underlying145) .i64 .i64 0 nd (by omega) (by omega) (by rw[a];omega);rw[h,a,d];obtain⟨j,c,e,f,g⟩:=info_parts Tryz.info_u8;simp[go_sem,slicedAt,sizeOf,typeInfo,c,Addr.add]
theorem Jz (k:Nat) (a:k<=60):2^k<=1152921504606846976:=by
 have:=aW (n:=2) (by decide) a;simpa using this
theorem RT (M k q:Nat) (e:k<=60):∃a A C N b:Nat,M/10^q%10=a/\a<=9/\a*2^k=A/\A<=10376293541461622784/\DF M k q=C/\C<1152921504606846976/\C+A=N/\M*2^k/10^q%10=b/\b<=9 /\
  (N:Int)-10*((N:Int)/10)=b/\DF M k (q+1)=N/10:=by
 have d:=Jz k e;have g:=LF M k q;have c:M/10^q%10<=9:=(by omega);have h:M/10^q%10*2^k<=9*1152921504606846976:=Nat.mul_le_mul c d;have i:=Ph M k q;have f:=Pg M k q;refine⟨_,_,_,_,_,rfl,c,rfl,by omega,rfl,by omega,rfl,rfl,by omega,?_,f.symm⟩;omega
theorem JL (w:World) (b:Nat) (f:Nat->Nat) (nd M k:Nat) (dp:Int) (F tr:Bool) (hG:DE w) (hn:nd<=800) (c1:1<=nd) (i0:1<=k) (hk:k<=60) (hD:BO w b f nd dp F tr) (hM:MS f nd M) (a0:10^(nd-1)<=M)
  (q1 : -1000000000<=dp) (s1:dp<=1000000000) :
  Calls prog 153 #[.pointer (some ⟨b,0,none⟩),.int .u64 k] w (Lp w b (M*2^k) (nD (M*2^k)) (dp+nD (M*2^k)-nd) F tr):=by
 have y:=Pi k i0 hk;obtain⟨B,o,m1,g1,g2⟩:=hG.ch;have g3:=g2 k (by omega);generalize Go.Pinned.cheatRows.getD k (0,[])=row at y g3;obtain⟨a,E⟩:=row;simp only[KN,Bool.and_eq_true,decide_eq_true_eq,bD,List.mem_range] at y;obtain⟨⟨⟨⟨⟨⟨r1,r2⟩,r3⟩,r4⟩,r5⟩,r6⟩,r7⟩:=y;have hC:QR k a E.length:=⟨r1,r2,r3,r4⟩;have u:=M9 (M:=M) (nd:=nd) hC;obtain⟨H,I,T,t4⟩:=TT hC hM.1 a0 c1;have hT:=Mg _ _ I H (by omega);have hcut:(⟨E.toArray⟩:ByteArray).size=E.length:=by simp[ByteArray.size]
 have v:=fun W (s0:BO W b f nd dp F tr)=>I2 W b 800 f nd M (5^k) dp F tr ⟨E.toArray⟩ hn (by omega) s0 hM
  (fun i h=>by
    have:=r7 i (by omega);rw[hcut]
    rw[<- this,aY,bA (by omega)];rfl)
  (by rw[hcut];exact r5) (fun _=>Sf k i0)
 rw[hcut,u] at v;have q0:a<=61:=(by omega);obtain⟨L1,L2⟩:=g3;rw[Nat.mul_comm 2 k] at L1 L2;dsimp only at L1 L2;have HP:=aA v;have HD:=aA hD;have HM:=aA hM;have c0:=hD.nd;have HB:=aA (Ae.refl b w);have I0:Hid (Gg w w b f nd (M*2^k) (nD (M*2^k)) dp F tr 0):=⟨f,by rw[Nc,Bool.or_false];exact hD,fun i _=>rfl,P6 _ _ _,Ae.refl b w⟩;clear v hG g2 r1 r3 r4 r5 r6 r7 hC hcut u hD hM a0
 have d1:∃(D:Nat) (lb:Bool),nD (M*2^k)=nd+D/\decide (M*2^k<10^(nd+a-1))=lb/\D<=61/\((lb=true/\a=D+1)\/(lb=false/\a=D)):=by
  rw[hT];unfold PL;by_cases hl:M*2^k<10^(nd+a-1)
  ·rw[if_pos hl];exact⟨a-1,true,by omega,decide_eq_true hl,by omega,.inl ⟨rfl,by omega⟩⟩
  rw[if_neg hl];exact⟨a,false,rfl,decide_eq_false hl,by omega,.inr ⟨rfl,rfl⟩⟩
 obtain⟨D,lb,O,j0,j1,Q⟩:=d1;rw[hT] at O;rw[O] at H I T t4 hT;rw[hT] at I0 ⊢;rw[j0] at HP;have L:=aA H;have Y:=aA I;clear hT O j0 H I T t4;obtain⟨P,eP⟩:∃P,M*2^k=P:=⟨_,rfl⟩;rw[eP] at I0 L Y ⊢;have EP:=aA eP;clear eP;rcases Q with⟨rfl,rfl⟩ | ⟨rfl,y0⟩
 rotate_left
 obtain rfl:D=a:=y0.symm
 rotate_left
 all_goals
  go_in
  go_wp2;have SD:=fun W=>Qq W b nd hn;go_quiet ((go_at_call 169;exact Sl (HP.out _ (HD.out.drewN _))));go_wp2
  go_loopg [5,6,7] nd (fun g r x n wr=>g<=nd/\r = .int .i64 ((g:Int)-1)/\x = .int .i64 ((g:Int)+D)/\n = .int .u64 (DF M k (nd-g))/\Hid (Gg w wr b f nd P (nd+D) dp F tr (nd-g)))
  case atStart=>exact⟨aB _,rfl,rfl,by rw[bI,M8];rfl,by rw[bI];obtain⟨m,c,h2,S,h4⟩:=I0.out;exact⟨m,c.drewN _,h2,S,h4.drewN _⟩⟩
  obtain⟨hg,rfl,rfl,rfl,s⟩:=hrel;clear I0
  cases gk with
  | zero =>
    rw[show ((0:Nat):Int)-1 = -1 from rfl,show ((0:Nat):Int)+(D:Int)=D by omega,bK];rw[bK] at s;have d0:DF M k nd=P/10^nd:=(by rw[Pf HM.out.1,EP.out]);have e0:=LF M k nd;have w0:=Jz k hk;rw[d0] at e0 ⊢;clear d0;go_wp2
    go_loopg [6,7] D (fun g x n wr=>g<=D/\x = .int .i64 (g:Int)/\n = .int .u64 (P/10^(nd+D-g):Nat)/\P/10^(nd+D-g)<1152921504606846976/\Hid (Gg w wr b f nd P (nd+D) dp F tr (nd+D-g)))
    case atStart=>exact⟨aB _,rfl,by rw[aZ],by rw[aZ];omega,by rw[aZ];exact s⟩
    obtain⟨p1,rfl,rfl,hN,l⟩:=hrel;clear s e0 w0;obtain⟨N,R⟩:∃N,P/10^(nd+D-gk)=N:=⟨_,rfl⟩;rw[R] at hN ⊢;by_cases t0:N=0
    ·have b1:P<10^(nd+D-gk):=by
      rcases Nat.lt_or_ge P (10^(nd+D-gk)) with h | h
      ·exact h
      have:=bS h (AT _);omega
     have z0:gk=0:=by
      rcases Nat.eq_zero_or_pos gk with h | h
      ·exact h
      have S:=aW (n:=10) (by decide) (show nd+D-gk<=nd+D-1 by omega);have:=Y.out;omega
     subst z0 t0;rw[bK] at l;have X:=l;obtain⟨m,c,h2,S,h4⟩:=X.out;rw[Pr (by omega)] at c;have f0:=Sj S L.out;obtain⟨p0,et⟩:∃p0,(tr||decide (P%10^(nd+D-800)≠0))=p0:=⟨_,rfl⟩;have f1:=c.nd;have i1:=c.dp;have k1:=c.fz 800;have l1:=c.fz 801;have K:=aA c;have U:=aA f0;have H4:=aA h4;clear l X c h2 S h4 f0 b1 R hN et;by_cases h8:nd+D<800
     ·have r0:(nd:Int)+D<800:=by omega
      have j:=Nat.min_eq_left (show nd+D<=800 by omega);have q:=aA (j▸U.out);have t:=aA j;clear j
      go_wp2_with (go_at_call 166;refine(Jy _ b m (nd+D) (P/10^(nd+D-800)) (dp+D) F _ (by omega) (by rw[show ((nd+D:Nat):Int)=(nd:Int)+D by omega];exact(K.out.setNd _).setDp _) q.out).mono ?_;rintro e w' ⟨rfl,H,I,T⟩)
      go_end0
      refine⟨rfl,m,?_,?_,(((H4.out.set _ _).set _ _)).trans T⟩
      ·rw[Cb,t.out,show dp+((nd+D:Nat):Int)-nd=dp+D by omega];exact H
      rw[Cb,t.out];exact I
     have r0:¬ (nd:Int)+D<800:=(by omega);have j:=Nat.min_eq_right (show 800<=nd+D by omega);have q:=aA (j▸U.out);have t:=aA j;clear j
     go_wp2_with (go_at_call 166;refine(Jy _ b m 800 (P/10^(nd+D-800)) (dp+D) F _ (by omega) (by first | exact((K.out.setNd _).setNd _).setDp _ | exact(K.out.setNd _).setDp _) q.out).mono ?_;rintro e w' ⟨rfl,H,I,T⟩)
     go_end0
     refine⟨rfl,m,?_,?_,(((H4.out.set _ _).set _ _).set _ _).trans T⟩
     ·rw[Cb,t.out,show dp+((nd+D:Nat):Int)-nd=dp+D by omega];exact H
     rw[Cb,t.out];exact I
    cases gk with
    | zero =>
      exact absurd R (by rw[bK,aK L.out];omega)
    | succ g =>
      obtain⟨p,l0⟩:∃p,N%10=p:=⟨_,rfl⟩;have v1:p<=9:=(by omega);have w1:(N:Int)-10*((N:Int)/10)=p:=(by omega);have o1:0<(N:Int):=by omega
      have k0:P/10^(nd+D-g)=N/10:=by
       rw[show nd+D-g=nd+D-(g+1)+1 by omega,Nat.pow_succ,<- Nat.div_div_eq_div_mul,R]
      have m0:P/10^(nd+D-(g+1))%10=p:=(by rw[R,l0]);have V:=aA (And.intro m0 k0);rw[show ((g+1:Nat):Int)=(g:Int)+1 by omega];clear R l0 k0 m0;have hw:g<800:=(by omega);have o0:(g:Int)<800:=(by omega);obtain⟨J,n0⟩:∃J,wr.cell? ⟨b,g,none⟩=some J:=by obtain⟨m,c,_,_,_⟩:=l.out;exact⟨_,c.d _ (by omega)⟩
      have g0:wr.frozen? ⟨b,g,none⟩=false:=by obtain⟨m,c,_,_,_⟩:=l.out;exact c.fz _
      go_wp2
      go_roundg g
      case measure=>omega
      obtain⟨z,G⟩:=V.out;refine⟨by omega,by go_num,by rw[G];go_num,by rw[G];omega,?_⟩;have h:=L' l.out (by omega) (by omega) (by omega);rw[z,show nd+D-(nd+D-(g+1)+1)=g by omega,show nd+D-(g+1)+1=nd+D-g by omega] at h;have e:((48+p:Nat):Int)=(p:Int)+48:=(by omega);rw[e] at h;exact h
  | succ g =>
    obtain⟨dq,A,C,N,p,e1,e2,e3,e4,e5,e6,e7,e8,e9,n1,Z⟩:=RT M k (nd-(g+1)) hk;rw[show ((g+1:Nat):Int)-1=g by omega,show ((g+1:Nat):Int)+(D:Int)=(g:Int)+D+1 by omega,e5]
    have x0:wr.cell? ⟨b,g,none⟩=some (.int .u8 ((dq:Int)+48)):=by
     obtain⟨m,c,h2,S,h4⟩:=s.out;have:=c.d g (by omega);rw[h2 g (by omega),HM.out.2 g (by omega),show nd-1-g=nd-(g+1) by omega,e1] at this;rw[this];congr 2;omega
    have i3:(dq:Int)*2^k=A:=by rw[<- e3];simp
    have i7:(C:Int)+A=N:=(by omega);have V:=aA (And.intro e8 Z);clear e1 e3 e5 e7 e8 Z;by_cases hw:g+D<800
    ·have o0:(g:Int)+D<800:=by omega
     obtain⟨J,n0⟩:∃J,wr.cell? ⟨b,g+D,none⟩=some J:=by obtain⟨m,c,_,_,_⟩:=s.out;exact⟨_,c.d _ (by omega)⟩
     have g0:wr.frozen? ⟨b,g+D,none⟩=false:=by obtain⟨m,c,_,_,_⟩:=s.out;exact c.fz _
     go_wp2
     go_roundg g
     case measure=>omega
     obtain⟨z,G⟩:=V.out;rw[EP.out] at z;refine⟨by omega,by go_num,by go_num,?_,?_⟩
     ·rw[show nd-g=nd-(g+1)+1 by omega,G];go_num
     have h:=L' s.out (by omega) (by omega) (by omega);rw[z,show nd+D-(nd-(g+1)+1)=g+D by omega,show nd-(g+1)+1=nd-g by omega] at h;have e:((48+p:Nat):Int)=(p:Int)+48:=(by omega);rw[e] at h;exact h
    have o0:¬ (g:Int)+D<800:=(by omega);by_cases h0:p=0
    ·subst h0
     go_wp2
     go_roundg g
     case measure=>omega
     obtain⟨z,G⟩:=V.out;rw[EP.out] at z;refine⟨by omega,by go_num,by go_num,?_,?_⟩
     ·rw[show nd-g=nd-(g+1)+1 by omega,G];go_num
     have h:=Ns s.out (by omega) z;rw[show nd-(g+1)+1=nd-g by omega] at h;exact h
    have b0:((p:Int) != 0)=true:=by simp;omega
    obtain⟨J,n0⟩:∃J,wr.cell? ⟨b,803,none⟩=some J:=by obtain⟨m,c,_,_,_⟩:=s.out;exact⟨_,c.tr⟩
    have g0:wr.frozen? ⟨b,803,none⟩=false:=by obtain⟨m,c,_,_,_⟩:=s.out;exact c.fz _
    go_wp2
    go_roundg g
    case measure=>omega
    obtain⟨z,G⟩:=V.out;rw[EP.out] at z;refine⟨by omega,by go_num,by go_num,?_,?_⟩
    ·rw[show nd-g=nd-(g+1)+1 by omega,G];go_num
    have h:=Nt s.out (by omega) (by rw[z];exact h0);rw[show nd-(g+1)+1=nd-g by omega] at h;exact h
def Eo (w wr:World) (b:Nat) (f:Nat->Nat) (nd P T r0:Nat) (dp:Int) (ng tr:Bool) (q:Nat):Prop :=
 ∃a,BO wr b a nd dp ng (tr||Hq P T q)/\(∀i,r0+q<=i->i<nd->a i=f i)/\(∀j,j<q->j<800->a j=48+P/10^(T-1-j)%10)/\Ae b w wr
section
variable {w wr:World} {b:Nat} {f:Nat->Nat} {nd P T r0:Nat} {dp:Int} {ng tr:Bool} {q:Nat}
theorem Mz (h:Eo w wr b f nd P T r0 dp ng tr q) (r:1<=r0) (n:q<800) :
  Eo w (wr.setCell ⟨b,q,none⟩ (.int .u8 (48+P/10^(T-1-q)%10:Nat))) b f nd P T r0 dp ng tr (q+1):=by
 obtain⟨d,c,g,k,l⟩:=h;refine⟨Vb d q (48+P/10^(T-1-q)%10),?_,fun i o a=>?_,fun j p m=>?_,l.set _ _⟩
 ·rw[Gm (by omega)];rw[Gm (by omega)] at c;exact c.setD n _
 ·rw[DT _ _ (by omega)];exact g i (by omega) a
 by_cases e:j=q
 ·subst e;rw[GL]
 rw[DT _ _ e];exact k j (by omega) m
theorem NY (h:Eo w wr b f nd P T r0 dp ng tr q) (p:¬ q<800) (m:q<T) (c:P/10^(T-1-q)%10=0):Eo w wr b f nd P T r0 dp ng tr (q+1):=by
 obtain⟨a,d,e,g,k⟩:=h;refine⟨a,?_,fun i n=>e i (by omega),fun j o l=>g j (by omega) l,k⟩;rw[J2 (by omega) m,c];simpa using d
theorem N0 (h:Eo w wr b f nd P T r0 dp ng tr q) (p:¬ q<800) (m:q<T) (c:P/10^(T-1-q)%10≠0):Eo w (wr.setCell ⟨b,803,none⟩ (.bool true)) b f nd P T r0 dp ng tr (q+1):=by
 obtain⟨a,d,e,g,k⟩:=h;refine⟨a,?_,fun i n=>e i (by omega),fun j o l=>g j (by omega) l,k.set _ _⟩;rw[J2 (by omega) m,decide_eq_true c,bJ,bJ];exact d.setTr true
end
theorem FG (k:Nat) (a:k<=60):2^k<=1152921504606846976:=by
 have:=aW (n:=2) (by decide) a;simpa using this
theorem Lu (n k:Nat) (a:k<=60) (b:n<18446744073709551616):bits .and .u64 (n:Int) (((2^k:Nat):Int)-1)=(n%2^k:Nat):=by
 have c:=FG k a;have d:1<=2^k:=bT (by decide);have h:=bits_and_u64_nat n (2^k-1) b (by omega);rw[aU] at h;rw[<- h];congr 1;omega
theorem MA (X k a:Nat) (c:k<=60) (b:2^k=a) (f:X<10*a):∃D R:Nat,X/a=D/\X%a=R/\D<=9/\R<a/\a<=1152921504606846976/\(X:Int)/(a:Int)=D/\bits .and .u64 (X:Int) ((a:Int)-1)=(R:Int):=by
 have d:0<a:=by rw[<- b];exact bT (by decide)
 have e:a<=1152921504606846976:=by rw[<- b];exact FG k c
 refine⟨_,_,rfl,rfl,?_,Nat.mod_lt _ d,e,by simp,?_⟩
 ·have:X/a<10:=by rw[bL d];exact f
  omega
 have h:=Lu X k c (by omega);rw[b] at h;exact h
theorem I_ (w:World) (b:Nat) (f:Nat->Nat) (nd M k:Nat) (dp:Int) (ng tr:Bool) (hn:nd<=800) (n2:1<=nd) (m2:1<=k) (hk:k<=60) (hD:BO w b f nd dp ng tr) (hM:MS f nd M) (t0:0<M)
  (o2 : -1000000000<=dp) (p2:dp<=1000000000) :
  Calls prog 154 #[.pointer (some ⟨b,0,none⟩),.int .u64 k] w (Lp w b (M*5^k) (nD (M*5^k)) (dp+nD (M*5^k)-nd-k) ng tr):=by
 obtain⟨r0,hS⟩:=S3 k hM.1 t0;obtain⟨hr,hT,f0⟩:=hS.len t0;obtain⟨T,eT⟩:∃T,nD (M*5^k)=T:=⟨_,rfl⟩;rw[eT] at hT ⊢;rw[<- hT] at f0;obtain⟨t,eK⟩:∃t:Nat,2^k=t:=⟨_,rfl⟩;have c2:t<=1152921504606846976:=eK▸FG k hk;have s0:1<=t:=by rw[<- eK];exact bT (by decide)
 have iK:(2:Int)^k=t:=by rw[<- eK];simp
 have HS:=aA hS;have HD:=aA hD;have HM:=aA hM;have HT:=aA hT;have k1:=aA f0;have E:=aA eK;have b1:=aA (G8 hM.1);have n0:=aA (fun r (h:r<nd)=>CW (M:=M) h);have c0:=aA (fun r (h:nd<=r)=>Cx (M:=M) h);have o0:=aA (T8 M nd);have i1:=aA hS.lt;have b0:=hS.pos;have J:=hD.nd;clear hS hD hM hT f0 eT eK
 go_in
 go_upto_block 0 with(fail)
 go_cut [4,6] (fun r n wx=>r = .int .i64 r0/\n = .int .u64 (Bw M nd r0)/\wx=w)
 case first =>
  go_wp2
  go_loopg [4,6] nd (fun g r n wx=>∃q:Nat,g+q=nd/\q<=r0/\r = .int .i64 q/\n = .int .u64 (Bw M nd q)/\wx=w)
  case atStart=>exact⟨0,by omega,by omega,rfl,by rw[b1.out];rfl,rfl⟩
  obtain⟨q,y1,hq,rfl,rfl,rfl⟩:=hrel;by_cases he:q=r0
  ·have u:=HS.out.at_
   rw[E.out] at u;subst he;obtain⟨A,U⟩:∃A,Bw M nd q=A:=⟨_,rfl⟩;rw[U] at u ⊢
   have bt:((A:Int)/(t:Int)==0)=false:=by
    refine beq_eq_false_iff_ne.2 ?_;have:1<=A/t:=bS u s0;have e:((A/t:Nat):Int)=(A:Int)/t:=(by simp);omega
   clear u;go_wp2;go_meet;exact⟨rfl,by rw[U],rfl⟩
  have y:=HS.out.before q (by omega);rw[E.out] at y;obtain⟨A,U⟩:∃A,Bw M nd q=A:=⟨_,rfl⟩;rw[U] at y ⊢
  have bt:((A:Int)/(t:Int)==0)=true:=by
   refine beq_iff_eq.2 ?_;have:A/t=0:=aK y;have e:((A/t:Nat):Int)=(A:Int)/t:=(by simp);omega
  by_cases z:q<nd
  ·obtain⟨d,ed⟩:∃d,M/10^(nd-1-q)%10=d:=⟨_,rfl⟩
   have w1:d<=9:=(by omega);have l:=n0.out q z;rw[U,ed] at l
   have g0:wr.cell? ⟨b,q,none⟩=some (.int .u8 ((d:Int)+48)):=by
    have c:=HD.out.d q (by omega);rw[HM.out.2 q z,ed] at c;rw[c];congr 2;omega
   have hN:(A:Int)*10+((d:Int)+48)-48=(A:Int)*10+d:=(by omega);have HE:=aA l;clear U ed l;go_wp2
   go_roundg (nd-(q+1))
   case measure=>omega
   exact⟨q+1,by omega,by omega,by go_num,by rw[HE.out];go_num,rfl⟩
  have V:q=nd:=(by omega);subst V;have hA:A=M:=by rw[<- U];exact o0.out
  subst hA;have bz:((A:Int)==0)=false:=beq_eq_false_iff_ne.2 (by omega);have g1:=aA U;clear U y1;go_wp2
  go_loopg [4,6] (r0-q) (fun g r n wx=>∃p:Nat,q<=p/\g+p=r0/\r = .int .i64 p/\n = .int .u64 (Bw A q p)/\wx=wr)
  case atStart=>exact⟨q,by omega,by omega,rfl,by rw[g1.out],rfl⟩
  obtain⟨p,a2,l2,rfl,rfl,rfl⟩:=hrel;clear bt bz y;by_cases x1:p=r0
  ·have u:=HS.out.at_
   rw[E.out] at u;subst x1;obtain⟨B,eB⟩:∃B,Bw A q p=B:=⟨_,rfl⟩;rw[eB] at u ⊢
   have bt:((B:Int)/(t:Int)==0)=false:=by
    refine beq_eq_false_iff_ne.2 ?_;have:1<=B/t:=bS u s0;have e:((B/t:Nat):Int)=(B:Int)/t:=(by simp);omega
   clear u;go_wp2;go_meet;exact⟨rfl,by rw[eB],rfl⟩
  have y:=HS.out.before p (by omega);rw[E.out] at y;obtain⟨B,eB⟩:∃B,Bw A q p=B:=⟨_,rfl⟩;have l:=c0.out p a2;rw[eB] at y l ⊢
  have bt:((B:Int)/(t:Int)==0)=true:=by
   refine beq_iff_eq.2 ?_;have:B/t=0:=aK y;have e:((B/t:Nat):Int)=(B:Int)/t:=(by simp);omega
  have HE:=aA l;clear eB l;go_wp2
  go_roundg (r0-(p+1))
  case measure=>omega
  exact⟨p+1,by omega,by omega,by go_num,by rw[HE.out];go_num,rfl⟩
 obtain⟨rfl,rfl,rfl⟩:=hcut;obtain⟨N,eN⟩:∃N,Bw M nd r0=N:=⟨_,rfl⟩;have F:=i1.out;rw[E.out,eN] at F;have L:T=nd+k-r0+1:=HT.out;have b2:=HD.out.dp;have g2:=HD.out.fz 801;have k0:=Lu;have K:M*5^k<10^T:=k1.out;obtain⟨P,eP⟩:∃P,M*5^k=P:=⟨_,rfl⟩;rw[eP] at K;have EP:=aA eP;have j0:=fun q (h:q<T)=>P7 (M:=M) (q:=q) L hr h;have y0:=fun q (h:T<=q)=>Sq (M:=M) (q:=q) L hr h;have l0:=fun q (c:q<=T) Y h3=>P' (M:=M) (q:=q) L hr c Y h3;rw[eP] at j0 l0;have p0:=aA j0;have l1:=aA y0;have o1:=aA l0
 have m1:=aA (fun r (h:r<nd)=>T_ (M:=M) (k:=k) h);have n1:=aA (fun r (h:nd<=r)=>Sr (M:=M) (k:=k) h);have j1:=aA K;have HN:=aA eN;have HB:=aA (Ae.refl b wc);have q0:=aA L;obtain⟨s,q1⟩:∃s,dp-((r0:Int)-1)=s:=⟨_,rfl⟩;have Z:dp+(T:Int)-nd-k=s:=(by omega);have I0:Hid (Eo wc (wc.setCell ⟨b,801,none⟩ (.int .i64 s)) b f nd P T r0 s ng tr 0):=⟨f,by rw[Gm (by omega),Bool.or_false];exact HD.out.setDp s,fun i _ _=>rfl,fun j hj=>absurd hj (by omega),HB.out.set _ _⟩;have f1:=aA Z;rw[eN];clear j0 y0 l0 K eP eN L k0 Z
 go_wp2;clear q1
 go_loopg [4,5,6] (nd-r0) (fun g r x n wr=>∃q X:Nat,g=nd-(r0+q)/\(q=0\/r0+q<=nd)/\r = .int .i64 ((r0+q:Nat):Int)/\x = .int .i64 q/\n = .int .u64 X/\X<10*t/\Hid (Bw M nd (r0+q)%(10*2^k)=X)/\Hid (Eo wc wr b f nd P T r0 s ng tr q))
 case atStart=>exact⟨0,N,by omega,.inl rfl,rfl,rfl,rfl,F,by unfold Hid;rw[Nat.add_zero,HN.out,E.out,Nat.mod_eq_of_lt F],I0⟩
 obtain⟨q,X,hg,hq,rfl,rfl,rfl,hX,HX,W⟩:=hrel;clear I0 F;have J:wr.cell? ⟨b,800,none⟩=some (.int .i64 nd):=by obtain⟨H,c,_,_,_⟩:=W.out;exact c.nd
 by_cases z:r0+q<nd
 ·have C:q<800:=by omega
  have S:q<T:=by have:=q0.out;omega
  obtain⟨D,R,e1,e2,r1,hR,s1,iD,iR⟩:=MA X k t hk E.out hX;obtain⟨d,ed⟩:∃d,M/10^(nd-1-(r0+q))%10=d:=⟨_,rfl⟩;have w1:d<=9:=by omega
  have g0:wr.cell? ⟨b,r0+q,none⟩=some (.int .u8 ((d:Int)+48)):=by
   obtain⟨H,c,Y,_,_⟩:=W.out;have c:=c.d (r0+q) (by omega);rw[Y (r0+q) (aB _) z,HM.out.2 (r0+q) z,ed] at c;rw[c];congr 2;omega
  obtain⟨v0,z0⟩:∃v0,wr.cell? ⟨b,q,none⟩=some v0:=by obtain⟨H,c,_,_,_⟩:=W.out;exact⟨_,c.d _ C⟩
  have w0:wr.frozen? ⟨b,q,none⟩=false:=by obtain⟨H,c,_,_,_⟩:=W.out;exact c.fz _
  have hN:(R:Int)*10+((d:Int)+48)-48=(R:Int)*10+d:=by omega
  have v:Hid (Bw M nd (r0+(q+1))%(10*2^k)=R*10+d):=by
   have h:=m1.out (r0+q) z;rw[HX.out,ed,E.out,e2] at h;unfold Hid;rw[<- bM,E.out];exact h
  have a:Hid (Eo wc (wr.setCell ⟨b,q,none⟩ (.int .u8 ((D:Int)+48))) b f nd P T r0 s ng tr (q+1)):=by
   have h:=Mz W.out b0 C;have Y:=p0.out q S;rw[HX.out,E.out,e1] at Y;rw[<- Y,show ((48+D:Nat):Int)=(D:Int)+48 by omega] at h;exact h
  rw[show ((r0+q:Nat):Int)=(r0:Int)+q by omega];clear e1 e2 ed HX W;go_wp2
  go_roundg (nd-(r0+(q+1)))
  case measure=>omega
  exact⟨q+1,R*10+d,rfl,.inr (by omega),by go_num,by go_num,by go_num,by omega,v,a⟩
 have x0:q<=T:=by have:=q0.out;omega
 rw[show ((r0+q:Nat):Int)=(r0:Int)+q by omega];have Q:q<=800:=(by omega);have V:nd<=r0+q:=(by omega);go_wp2
 go_loopg [5,6] (T-q) (fun g x n wr=>∃q X:Nat,g+q=T/\nd<=r0+q/\x = .int .i64 ((min q 800:Nat):Int)/\n = .int .u64 X/\X<10*t/\Hid (Bw M nd (r0+q)%(10*2^k)=X)/\Hid (Eo wc wr b f nd P T r0 s ng tr q))
 case atStart=>exact⟨q,X,by omega,V,by rw[Nat.min_eq_left Q],rfl,hX,HX,W⟩
 clear hq z x0 Q V W HX hX J;obtain⟨o,X2,k2,a0,rfl,rfl,v1,v,a⟩:=hrel;have J:wr.cell? ⟨b,800,none⟩=some (.int .i64 nd):=by obtain⟨H,c,_,_,_⟩:=a.out;exact c.nd
 have f2:wr.frozen? ⟨b,800,none⟩=false:=by obtain⟨H,c,_,_,_⟩:=a.out;exact c.fz _
 by_cases a1:X2=0
 ·subst a1
  have h0:=o1.out o (by omega) a0 v.out;obtain⟨H,c,Y,h3,h4⟩:=a.out;rw[Ps (by omega) h0] at c;have i0:=T9 h3 j1.out (by omega);have m0:=Sz (by omega) h0;obtain⟨m,em⟩:∃m,min o 800=m:=⟨_,rfl⟩;have z1:m<=800:=(by omega);rw[em] at i0 m0 ⊢;have c1:=aA c;have d1:=aA i0;have p1:=aA m0;have H4:=aA h4;clear h0 c Y h3 h4 i0 m0 em v a
  go_wp2_with (go_at_call 166;refine(Jy _ b H m (P/10^(T-m)) s ng _ z1 (c1.out.setNd _) d1.out).mono ?_;rintro e w' ⟨rfl,t1,t2,t3⟩)
  go_end0
  rw[p1.out] at t1 t2;refine⟨rfl,H,?_,?_,(H4.out.set _ _).trans t3⟩
  ·rw[EP.out,f1.out];exact t1
  rw[EP.out];exact t2
 have S:o<T:=by
  rcases Nat.lt_or_ge o T with h | h
  ·exact h
  have:=l1.out o h;rw[v.out] at this;exact absurd this a1
 obtain⟨D,R,e1,e2,r1,hR,s1,iD,iR⟩:=MA X2 k t hk E.out v1;have j2:0<(X2:Int):=(by omega);have O:=p0.out o S;rw[v.out,E.out,e1] at O
 have d0:Hid (Bw M nd (r0+(o+1))%(10*2^k)=R*10):=by
  have h:=n1.out (r0+o) a0;rw[v.out,E.out,e2] at h;unfold Hid;rw[<- bM,E.out];exact h
 have G:=aA O;clear e1 e2 v O;by_cases C:o<800
 ·obtain⟨v0,z0⟩:∃v0,wr.cell? ⟨b,o,none⟩=some v0:=by obtain⟨H,c,_,_,_⟩:=a.out;exact⟨_,c.d _ C⟩
  have w0:wr.frozen? ⟨b,o,none⟩=false:=by obtain⟨H,c,_,_,_⟩:=a.out;exact c.fz _
  have I:Hid (Eo wc (wr.setCell ⟨b,o,none⟩ (.int .u8 ((D:Int)+48))) b f nd P T r0 s ng tr (o+1)):=by
   have h:=Mz a.out b0 C;rw[<- G.out,show ((48+D:Nat):Int)=(D:Int)+48 by omega] at h;exact h
  rw[show ((min o 800:Nat):Int)=o by omega];have d2:(o:Int)<800:=(by omega);clear a G;go_wp2
  go_roundg (T-(o+1))
  case measure=>omega
  exact⟨o+1,R*10,by omega,by omega,by rw[show min (o+1) 800=o+1 by omega];go_num,by go_num,by omega,d0,I⟩
 rw[show ((min o 800:Nat):Int)=800 by omega];by_cases e0:D=0
 ·have I:Hid (Eo wc wr b f nd P T r0 s ng tr (o+1)):=NY a.out C S (by rw[<- G.out];exact e0)
  subst e0;clear a G;go_wp2
  go_roundg (T-(o+1))
  case measure=>omega
  exact⟨o+1,R*10,by omega,by omega,by rw[show min (o+1) 800=800 by omega];rfl,by go_num,by omega,d0,I⟩
 have I:Hid (Eo wc (wr.setCell ⟨b,803,none⟩ (.bool true)) b f nd P T r0 s ng tr (o+1)):=N0 a.out C S (by rw[<- G.out];exact e0);obtain⟨v0,z0⟩:∃v0,wr.cell? ⟨b,803,none⟩=some v0:=by obtain⟨H,c,_,_,_⟩:=a.out;exact⟨_,c.tr⟩
 have w0:wr.frozen? ⟨b,803,none⟩=false:=by obtain⟨H,c,_,_,_⟩:=a.out;exact c.fz _
 have i2:0<(D:Int):=(by omega);clear a G;go_wp2
 go_roundg (T-(o+1))
 case measure=>omega
 exact⟨o+1,R*10,by omega,by omega,by rw[show min (o+1) 800=800 by omega];rfl,by go_num,by omega,d0,I⟩
def C8 (w:World) (b:Nat) (a:Bool) (s:DS):Prop:=∃f,BO w b f s.nd s.dp a s.tr/\MS f s.nd s.M
def KD (w:World) (b:Nat) (a:Bool) (c:DS) (e:Ending) (w':World):Prop:=e = .returned (.tuple #[])/\C8 w' b a c/\Ae b w w'
theorem Ht (w:World) (b k:Nat) (j:Bool) (s:DS) (p:DE w) (i:s.ok) (d:1<=k) (r:k<=60) (o:C8 w b j s) (g : -1000000000<=s.dp) (h:s.dp<=1000000000) :
  Calls prog 153 #[.pointer (some ⟨b,0,none⟩),.int .u64 k] w (KD w b j (Dd s k)):=by
 obtain⟨f,m,n⟩:=o;exact(JL w b f s.nd s.M k s.dp j s.tr p i.2.1 i.1 d r m n i.2.2.1 g h).mono fun e t ⟨q,l,a,b,c⟩=>⟨q,⟨l,a,b⟩,c⟩
theorem GC (w:World) (b k:Nat) (j:Bool) (s:DS) (i:s.ok) (d:1<=k) (q:k<=60) (o:C8 w b j s) (g : -1000000000<=s.dp) (h:s.dp<=1000000000) :
  Calls prog 154 #[.pointer (some ⟨b,0,none⟩),.int .u64 k] w (KD w b j (E6 s k)):=by
 obtain⟨f,m,n⟩:=o;exact(I_ w b f s.nd s.M k s.dp j s.tr i.2.1 i.1 d q m n i.pos g h).mono fun e r ⟨p,l,a,b,c⟩=>⟨p,⟨l,a,b⟩,c⟩
def Ho (w:World) (b:Nat):Prop:=∃a,DE a/\Below a.heap.size a w/\a.heap.size<=b
theorem Ho.laid {w:World} {b:Nat} (h:Ho w b):DE w:=by
 obtain⟨d,a,c,_⟩:=h;exact a.below c
theorem Ho.on {w w':World} {b:Nat} (h:Ho w b) (e:Ae b w w'):Ho w' b:=by
 obtain⟨f,d,a,c⟩:=h;exact⟨f,d,e.below_of a c a.size,c⟩
theorem Cj (w:World) (b k:Nat) (p:Bool) (s:DS) (A:Ho w b) (v:s.ok) (t:1<=k) (S:k<=400000) (z:C8 w b p s) (L : -500000000<=s.dp) (M:s.dp<=500000000) :
  Calls prog 134 #[.pointer (some ⟨b,0,none⟩),.int .i64 k] w (KD w b p (DD s k)):=by
 have u:=v.1;have C:=aA z;obtain⟨R,o,_⟩:=z;have y:=o.nd;have Q:((s.nd:Int)==0)=false:=beq_eq_false_iff_ne.2 (by omega);have F:decide (0<k)=true:=decide_eq_true (by omega);have G:decide ((k:Int)<0)=false:=decide_eq_false (by omega);have E:=aA A;have D:=aA v;have B:=aA (Ae.refl b w);clear o A v u
 go_in
 go_wp2
 go_loopg [1] k (fun g O wr=>∃a:DS,1<=g/\g<=k/\O = .int .i64 g/\Hid (DD s k=DD a g)/\Hid a.ok/\s.dp-500000000<=a.dp/\a.dp<=500000000+((k:Int)-g)/\Hid (C8 wr b p a)/\Hid (Ae b w wr))
 case atStart=>exact⟨s,t,aB _,rfl,rfl,D,by omega,by omega,C,B⟩
 obtain⟨a,J,K,rfl,x,c,H,I,j,d⟩:=hrel;have l:=aA (E.out.on d.out);by_cases m:60<gk
 ·have N:=Im c.out 60
  have f:Hid (DD s k=DD (Dd a 60) (gk-60)):=by unfold Hid;rw[x.out,DD,if_pos m]
  have r:=aA (D' c.out 60).1;have n:=Ht wr b 60 p a l.out.laid c.out (by omega) (by omega) j.out (by omega) (by omega);have q:=aA n;clear n
  go_wp2_with (go_at_call 153;refine q.out.mono ?_;rintro e P ⟨rfl,i,h⟩)
  go_roundg (gk-60)
  case measure=>omega
  exact⟨Dd a 60,by omega,by omega,by go_num,f,r,by omega,by omega,i,d.out.trans h⟩
 have f:Hid (DD s k=Dd a gk):=by unfold Hid;rw[x.out,DD,if_neg m]
 have n:=Ht wr b gk p a l.out.laid c.out (by omega) (by omega) j.out (by omega) (by omega);have q:=aA n;clear n
 go_wp2_with (go_at_call 153;refine q.out.mono ?_;rintro e P ⟨rfl,i,h⟩)
 go_end0
 rw[f.out];exact⟨rfl,i,d.out.trans h⟩
theorem Jh (w:World) (b k:Nat) (o:Bool) (s:DS) (u:s.ok) (r:1<=k) (P:k<=400000) (y:C8 w b o s) (I : -500000000<=s.dp) (J:s.dp<=500000000) :
  Calls prog 134 #[.pointer (some ⟨b,0,none⟩),.int .i64 (-(k:Int))] w (KD w b o (FX s k)):=by
 have t:=u.1;have A:=aA y;obtain⟨O,n,_⟩:=y;have x:=n.nd;have N:((s.nd:Int)==0)=false:=beq_eq_false_iff_ne.2 (by omega);have C:decide (0<k)=true:=decide_eq_true (by omega);have D:decide ((k:Int)<0)=false:=decide_eq_false (by omega);have B:=aA u;have z:=aA (Ae.refl b w);clear n u t
 go_in
 go_wp2
 go_loopg [1] k (fun g L wr=>∃a:DS,1<=g/\g<=k/\L = .int .i64 (-(g:Int))/\Hid (FX s k=FX a g)/\Hid a.ok /\ -500000000-((k:Int)-g)<=a.dp/\a.dp<=500000000/\Hid (C8 wr b o a)/\Hid (Ae b w wr))
 case atStart=>exact⟨s,r,aB _,rfl,rfl,B,by omega,by omega,A,z⟩
 obtain⟨a,G,H,rfl,v,c,E,F,j,i⟩:=hrel;by_cases l:60<gk
 ·have K:=GH c.out 60
  have d:Hid (FX s k=FX (E6 a 60) (gk-60)):=by unfold Hid;rw[v.out,FX,if_pos l]
  have q:=aA (E7 c.out 60).1;have m:=GC wr b 60 o a c.out (by omega) (by omega) j.out (by omega) (by omega);have p:=aA m;clear m
  go_wp2_with (go_at_call 154;refine p.out.mono ?_;rintro e M ⟨rfl,h,f⟩)
  go_roundg (gk-60)
  case measure=>omega
  exact⟨E6 a 60,by omega,by omega,by go_num,d,q,by omega,by omega,h,i.out.trans f⟩
 have d:Hid (FX s k=E6 a gk):=by unfold Hid;rw[v.out,FX,if_neg l]
 have m:=GC wr b gk o a c.out (by omega) (by omega) j.out (by omega) (by omega);have p:=aA m;clear m
 go_wp2_with (go_at_call 154;refine p.out.mono ?_;rintro e M ⟨rfl,h,f⟩)
 go_end0
 rw[d.out];exact⟨rfl,h,i.out.trans f⟩
end Go.Proofs.YtipfpohlnhmlpaaGreatDoor
