/- Am Ig Ih Ii Ij -/
import Derived.Test.YtfblenhlildnaaaGreatDoorNl
import Derived.Test.YtfblenhlildnaaaGreatDoorCa
import Derived.Deep.RegionHeld3
import Derived.Deep.DeepCutAuto
set_option maxRecDepth 100000
set_option maxHeartbeats 1000000
open List renaming mem_cons->aA,pairwise_cons->aB,mem_singleton->aF
open Go.Lib renaming hid->aC
open Nat renaming le_trans->aD,ne_of_lt->aE,le_refl->aG,ne_of_gt->aH
namespace Go.Proofs.YtfblenhlildnaaaGreatDoor
open Go.RowKit
structure Fr (w0 W:World) (q B:Nat) (s:ByteArray) (p:Rs) (l:List B5) (ks:List (List Tr×Value)) (w:World):Prop where
 z:Rz w0 q s p w
 o:Ae q W w
 hq:q<W.heap.size
 hw:w0.heap.size<=W.heap.size
 hB:W.heap.size<=B/\B<=w.heap.size
 b:∀x∈l,W.heap.size<=x.b/\C5 w x.b x.v0 x.v1 x.v2 x.v3 x.v4
 k:∀x∈ks,Am 42 w (Av B l) x.1 x.2
 d:l.Pairwise fun x y=>y.b<x.b
section
variable {w0 W w w':World} {q B:Nat} {s:ByteArray} {p p':Rs} {l:List B5} {ks:List (List Tr×Value)} {v0 v1 v2 v3 v4:Value} {b:Nat}
theorem Fr.start (h:Rz w0 q s p W):Fr w0 W q W.heap.size s p [] [] W :=
 ⟨h,Ae.refl q W,h.lt,h.below.size,⟨aG _,aG _⟩,fun _ h=>(nomatch h),fun _ h=>(nomatch h),.nil⟩
theorem Fr.start1 (h:Rz w0 q s p W) (v0 v1 v2 v3 v4:Value) (T:TypeId):Fr w0 W q (W.heap.size+1) s p [⟨W.heap.size,v0,v1,v2,v3,v4⟩] [] (W.alloc (.cells #[v0,v1,v2,v3,v4] T)) :=
 ⟨h.keep (Ad _ _),Ae.of_below q (Ad _ _),h.lt,h.below.size,⟨by omega,by simp⟩,fun x h=>by obtain rfl:=aF.1 h;exact⟨aG _,C5.new _ _ _ _ _ _ _⟩,fun _ h=>(nomatch h),List.pairwise_singleton _ _⟩
theorem Fr.quiet (h:Fr w0 W q B s p l ks w) (a:Below w.heap.size w w'):Fr w0 W q B s p l ks w' :=
 ⟨h.z.keep a,h.o.trans (Ae.of_below q a),h.hq,h.hw,⟨h.hB.1,aD h.hB.2 a.size⟩,fun x c=>⟨(h.b x c).1,(h.b x c).2.below a⟩,fun x c=>(h.k x c).bel a,h.d⟩
theorem Fr.move (h:Fr w0 W q B s p l ks w) (f:Rz w0 q s p' w') (c:Ae q w w'):Fr w0 W q B s p' l ks w' :=
 ⟨f,h.o.trans c,h.hq,h.hw,⟨h.hB.1,aD h.hB.2 c.size⟩,fun x a=>⟨(h.b x a).1,(h.b x a).2.only c (by have:=(h.b x a).1;have:=h.hq;omega)⟩,fun x a=>(h.k x a).only c (fun e=>by have:=h.hB.1;have:=h.hq;have:=e.1;omega),h.d⟩
theorem Fr.new (h:Fr w0 W q B s p l ks w):∀x∈l,x.b<w.heap.size:=fun x a=>(h.b x a).2.lt
theorem Fr.box (h:Fr w0 W q B s p l ks w) (v0 v1 v2 v3 v4:Value) (T:TypeId):Fr w0 W q B s p (⟨w.heap.size,v0,v1,v2,v3,v4⟩::l) ks (w.alloc (.cells #[v0,v1,v2,v3,v4] T)) :=
 let g:=h.quiet (Ad w (.cells #[v0,v1,v2,v3,v4] T))
 ⟨g.z,g.o,g.hq,g.hw,g.hB,fun x a=>by rcases aA.1 a with rfl | a;exact⟨h.o.size,C5.new _ _ _ _ _ _ _⟩;exact g.b x a,
   fun x a=>((h.k x a).mono (S':=Av B (⟨w.heap.size,v0,v1,v2,v3,v4⟩::l)) fun j f e=>⟨e.1,fun y c=>by rcases aA.1 c with rfl | c;exact aE f;exact e.2 y c⟩).bel (Ad _ _),aB.2 ⟨fun y c=>h.new y c,h.d⟩⟩
theorem Fr.read (h:Fr w0 W q B s p l ks w) {k:List Tr} {kv:Value} (e:Am 42 w' (w.heap.size <= ·) k kv) (m:Rz w0 q s p' w') (f:Ae q w w'):Fr w0 W q B s p' l ((k,kv)::ks) w' :=
 let g:=h.move m f
 ⟨g.z,g.o,g.hq,g.hw,g.hB,g.b,fun x a=>by rcases aA.1 a with rfl | a;exact e.mono fun j _ c=>⟨aD h.hB.2 c,fun y i=>by have:=h.new y i;omega⟩;exact g.k x a,g.d⟩
theorem Fr.drew (h:Fr w0 W q B s p l ks w):Fr w0 W q B s p l ks w.drew:=h.move h.z.drew ((Ae.refl q w).drew)
theorem Fr.b0 (h:Fr w0 W q B s p (⟨b,v0,v1,v2,v3,v4⟩::l) ks w):C5 w b v0 v1 v2 v3 v4:=(h.b _ (.head _)).2
theorem Fr.b1 {x:B5} (h:Fr w0 W q B s p (x::⟨b,v0,v1,v2,v3,v4⟩::l) ks w):C5 w b v0 v1 v2 v3 v4:=(h.b _ (.tail _ (.head _))).2
theorem Fr.b2 {x y:B5} (h:Fr w0 W q B s p (x::y::⟨b,v0,v1,v2,v3,v4⟩::l) ks w):C5 w b v0 v1 v2 v3 v4:=(h.b _ (.tail _ (.tail _ (.head _)))).2
theorem Fr.b3 {x y z:B5} (h:Fr w0 W q B s p (x::y::z::⟨b,v0,v1,v2,v3,v4⟩::l) ks w):C5 w b v0 v1 v2 v3 v4:=(h.b _ (.tail _ (.tail _ (.tail _ (.head _))))).2
theorem Fr.ne02 {x y z:B5} (h:Fr w0 W q B s p (x::y::z::l) ks w):x.b≠z.b:=by have a:=(aB.1 h.d).1 z (.tail _ (.head _));omega
theorem Fr.ne12 {x y z:B5} (h:Fr w0 W q B s p (x::y::z::l) ks w):y.b≠z.b:=by have a:=(aB.1 (aB.1 h.d).2).1 z (.head _);omega
theorem Fr.k0 {k:List Tr} {kv:Value} (h:Fr w0 W q B s p l ((k,kv)::ks) w):Am 42 w (B <= ·) k kv:=(h.k _ (.head _)).mono fun _ _ e=>e.1
theorem Fr.k1 {x:List Tr×Value} {k:List Tr} {kv:Value} (h:Fr w0 W q B s p l (x::(k,kv)::ks) w):Am 42 w (B <= ·) k kv:=(h.k _ (.tail _ (.head _))).mono fun _ _ e=>e.1
theorem Fr.bs (h:Fr w0 W q B s p l ks w):Bs l w:=fun x a=>(h.b x a).2
theorem Fr.region {P:Program} {b:Array Oper} {Q:Exit->Act->World->Prop} (h:Fr w0 W q B s p l ks w) (k:Nat) {id:Nat} {a:Act} (d:P.follows .mixedOrders=true)
 (c:Bs l w.drew->Kp P .any b Q (Bs l) k b.size (Array.replicate b.size false) a w.drew):(Code.region id b true).wp P Q a w:=Abt (Bs l) k d (c h.drew.bs)
theorem Fr.drop {x:B5} (h:Fr w0 W q B s p (x::l) ks w):Fr w0 W q B s p l ks w :=
 ⟨h.z,h.o,h.hq,h.hw,h.hB,fun x a=>h.b x (.tail _ a),fun x a=>(h.k x a).mono fun _ _ e=>⟨e.1,fun y c=>e.2 y (.tail _ c)⟩,(aB.1 h.d).2⟩
theorem Fr.rows {k c:List (List Tr×Value)} (h:Fr w0 W q B s p l (k++c) w):Fr w0 W q B s p l k w :=
 ⟨h.z,h.o,h.hq,h.hw,h.hB,h.b,fun x a=>h.k x (List.mem_append_left _ a),h.d⟩
theorem Fr.row1 {x:List Tr×Value} (h:Fr w0 W q B s p l (x::ks) w):Fr w0 W q B s p l [x] w:=h.rows (k:=[x])
theorem Fr.store (h:Fr w0 W q B s p (⟨b,v0,v1,v2,v3,v4⟩::l) ks w) (u0 u1 u2 u3 u4:Value) :
  Fr w0 W q B s p (⟨b,u0,u1,u2,u3,u4⟩::l) ks (((((w.setCell ⟨b,0,none⟩ u0).setCell ⟨b,1,none⟩ u1).setCell ⟨b,2,none⟩ u2).setCell ⟨b,3,none⟩ u3).setCell ⟨b,4,none⟩ u4):=by
 have i:=(((((Ae.refl b w).set 0 u0).set 1 u1).set 2 u2).set 3 u3).set 4 u4;have a:=(h.b _ (.head _)).1;have m:=h.hq;have f:=aB.1 h.d;dsimp only at a f;refine⟨h.z.far5 (aD h.hw a) (by omega) _ _ _ _ _,LI h.o a _ _ _ _ _,h.hq,h.hw,⟨h.hB.1,aD h.hB.2 i.size⟩,fun x c=>?_,fun x c=>?_,aB.2 f⟩
 ·rcases aA.1 c with rfl | c
  ·exact⟨a,((((h.b0.set0 u0).set1 u1).set2 u2).set3 u3).set4 u4⟩
  have:=f.1 x c;exact⟨(h.b x (.tail _ c)).1,(h.b x (.tail _ c)).2.far5 (by omega)⟩
 exact((h.k x c).only i (fun e=>e.2 _ (.head _) rfl)).mono fun j _ e=>⟨e.1,fun y g=>by rcases aA.1 g with rfl | g;exact e.2 ⟨b,v0,v1,v2,v3,v4⟩ (.head _);exact e.2 _ (.tail _ g)⟩
theorem Fr.kid1 {u:Tr} {kv:Value} (h:Fr w0 W q B s p l ((u.ks,kv)::ks) w):Fr w0 W q B s p l (([u],.slice (some ⟨w.heap.size,0,none⟩) 1 1)::(u.ks,kv)::ks) (w.alloc (.cells #[.int .i64 u.kd,.string ⟨u.nm.toArray⟩,.float .f64 u.x,kv,.complex .f64 u.z.1 u.z.2] 42)) :=
 let g:=h.quiet (Ad w (.cells #[.int .i64 u.kd,.string ⟨u.nm.toArray⟩,.float .f64 u.x,kv,.complex .f64 u.z.1 u.z.2] 42))
 ⟨g.z,g.o,g.hq,g.hw,g.hB,g.b,fun x a=>by
   rcases aA.1 a with rfl | a
   ·have f:=h.k _ (.head _)
    refine Am.row _ [(u,kv)] w.heap.size 1 _ ⟨h.hB.2,fun y m=>aH (h.new y m)⟩ (heap_alloc_new _ _) (by simp) (by decide) rfl rfl fun p i=>?_;obtain rfl:p=(u,kv):=(by simpa using i);exact(f.mono fun j c e=>⟨e,aE c⟩).bel (Ad _ _)
   exact g.k x a,g.d⟩
theorem Fr.kid2 {u v:Tr} {a kv:Value} (h:Fr w0 W q B s p l ((v.ks,kv)::(u.ks,a)::ks) w):Fr w0 W q B s p l (([u,v],.slice (some ⟨w.heap.size,0,none⟩) 2 2)::(v.ks,kv)::(u.ks,a)::ks) (w.alloc (.cells #[.int .i64 u.kd,.string ⟨u.nm.toArray⟩,.float .f64 u.x,a,.complex .f64 u.z.1 u.z.2,.int .i64 v.kd,.string ⟨v.nm.toArray⟩,.float .f64 v.x,kv,.complex .f64 v.z.1 v.z.2] 42)) :=
 let g:=h.quiet (Ad w (.cells #[.int .i64 u.kd,.string ⟨u.nm.toArray⟩,.float .f64 u.x,a,.complex .f64 u.z.1 u.z.2,.int .i64 v.kd,.string ⟨v.nm.toArray⟩,.float .f64 v.x,kv,.complex .f64 v.z.1 v.z.2] 42))
 ⟨g.z,g.o,g.hq,g.hw,g.hB,g.b,fun x i=>by
   rcases aA.1 i with rfl | i
   ·refine Am.row _ [(u,a),(v,kv)] w.heap.size 2 _ ⟨h.hB.2,fun y m=>aH (h.new y m)⟩ (heap_alloc_new _ _) (by simp) (by decide) rfl rfl fun p f=>?_
    rcases aA.1 f with rfl | f
    ·exact((h.k _ (.tail _ (.head _))).mono fun j c e=>⟨e,aE c⟩).bel (Ad _ _)
    obtain rfl:p=(v,kv):=(by simpa using f);exact((h.k _ (.head _)).mono fun j c e=>⟨e,aE c⟩).bel (Ad _ _)
   exact g.k x i,g.d⟩
theorem Fr.kid3 {u v y:Tr} {i kv a:Value} (h:Fr w0 W q B s p l ((y.ks,a)::(v.ks,kv)::(u.ks,i)::ks) w):Fr w0 W q B s p l (([u,v,y],.slice (some ⟨w.heap.size,0,none⟩) 3 3)::(y.ks,a)::(v.ks,kv)::(u.ks,i)::ks) (w.alloc (.cells #[.int .i64 u.kd,.string ⟨u.nm.toArray⟩,.float .f64 u.x,i,.complex .f64 u.z.1 u.z.2,.int .i64 v.kd,.string ⟨v.nm.toArray⟩,.float .f64 v.x,kv,.complex .f64 v.z.1 v.z.2,.int .i64 y.kd,.string ⟨y.nm.toArray⟩,.float .f64 y.x,a,.complex .f64 y.z.1 y.z.2] 42)) :=
 let g:=h.quiet (Ad w (.cells #[.int .i64 u.kd,.string ⟨u.nm.toArray⟩,.float .f64 u.x,i,.complex .f64 u.z.1 u.z.2,.int .i64 v.kd,.string ⟨v.nm.toArray⟩,.float .f64 v.x,kv,.complex .f64 v.z.1 v.z.2,.int .i64 y.kd,.string ⟨y.nm.toArray⟩,.float .f64 y.x,a,.complex .f64 y.z.1 y.z.2] 42))
 ⟨g.z,g.o,g.hq,g.hw,g.hB,g.b,fun x m=>by
   rcases aA.1 m with rfl | m
   ·refine Am.row _ [(u,i),(v,kv),(y,a)] w.heap.size 3 _ ⟨h.hB.2,fun y n=>aH (h.new y n)⟩ (heap_alloc_new _ _) (by simp) (by decide) rfl rfl fun p f=>?_
    rcases aA.1 f with rfl | f
    ·exact((h.k _ (.tail _ (.tail _ (.head _)))).mono fun j c e=>⟨e,aE c⟩).bel (Ad _ _)
    rcases aA.1 f with rfl | f
    ·exact((h.k _ (.tail _ (.head _))).mono fun j c e=>⟨e,aE c⟩).bel (Ad _ _)
    obtain rfl:p=(y,a):=(by simpa using f);exact((h.k _ (.head _)).mono fun j c e=>⟨e,aE c⟩).bel (Ad _ _)
   exact g.k x m,g.d⟩
theorem Fr.done (h:Fr w0 W q (W.heap.size+1) s p l ks w) {t:Tr} {kv:Value} (b:Am 42 w (W.heap.size+1 <= ·) t.ks kv) (u0 u1 u2 u3 u4:Value) {r:RO (List Tr)} (a:Hid (.ok [t] p=r)) :
  AbJ q W r (Acl w0 q s W) (.returned (CJ t kv)) (((((w.setCell ⟨W.heap.size,0,none⟩ u0).setCell ⟨W.heap.size,1,none⟩ u1).setCell ⟨W.heap.size,2,none⟩ u2).setCell ⟨W.heap.size,3,none⟩ u3).setCell ⟨W.heap.size,4,none⟩ u4):=by
 have c:=(((((Ae.refl W.heap.size w).set 0 u0).set 1 u1).set 2 u2).set 3 u3).set 4 u4;have d:=h.hq;exact Abx a ⟨⟨t,kv,rfl,rfl,(b.only c (by omega)).mono fun j _ h=>by omega⟩,h.z.far5 h.hw (by omega) _ _ _ _ _⟩ (LI h.o (aG _) _ _ _ _ _)
theorem Fr.other {g:Nat} (h:Fr w0 W q B s p l ks w) (a:Ae g w w') (i:Av B l g):Fr w0 W q B s p l [] w':=by
 have k:=h.hq;have m:=h.hw;have f:=h.hB;have j:=i.1;exact⟨h.z.other a (by omega) (by omega),h.o.under a (by omega),k,m,⟨f.1,aD f.2 a.size⟩,fun x c=>⟨(h.b x c).1,(h.b x c).2.only a (Ne.symm (i.2 x c))⟩,fun _ e=>(nomatch e),h.d⟩
theorem Fr.nq (h:Fr w0 W q B s p l ks w):¬ Av B l q:=fun e=>by have:=e.1;have:=h.hB.1;have:=h.hq;omega
theorem Fr.readS (h:Fr w0 W q B s p l ks w) {k:List Tr} {kv:Value} (c:Am 42 w' (Av B l) k kv) (f:Rz w0 q s p' w') (e:Ae q w w'):Fr w0 W q B s p' l ((k,kv)::ks) w' :=
 let g:=h.move f e
 ⟨g.z,g.o,g.hq,g.hw,g.hB,g.b,fun x a=>by rcases aA.1 a with rfl | a;exact c;exact g.k x a,g.d⟩
theorem Fr.ka {k:List Tr} {kv:Value} (h:Fr w0 W q B s p l ((k,kv)::ks) w):Am 42 w (Av B l) k kv:=h.k _ (.head _)
theorem Fr.norow (h:Fr w0 W q B s p l ks w):Fr w0 W q B s p l [] w:=h.rows (k:=[])
theorem Fr.append {k:List Tr} {t:Tr} {kv v m:Value} {L:List (Tr×Value)} (h:Fr w0 W q B s p l ((k,v)::ks) w) (H:L.map Prod.fst=k) (F:∀g,v.ownBlock=some g->Av B l g/\g<w.heap.size)
  (C:∀p∈L,Am 42 w (fun j=>Av B l j/\some j≠v.ownBlock) p.1.ks p.2) (D:Am 42 w (fun j=>Av B l j/\some j≠v.ownBlock) t.ks kv)
  (P:w'.ownsRow B 42 5 m (L.length+1) (Ah L++Ah [(t,kv)])) (a:w.grownBy w' v.ownBlock) (G:m.ownBlock=v.ownBlock\/m.ownBlock=some w.heap.size) :
  Fr w0 W q B s p l [(k++[t],m)] w':=by
 have M:Av B l w.heap.size:=⟨h.hB.2,fun y O=>aH (h.new y O)⟩
 have hF:Fr w0 W q B s p l [] w':=by
  cases i:v.ownBlock with
  | none=>rw[i] at a;exact h.norow.quiet ⟨a.os,a.tape,a.output,a.size,fun k J=>a.block k J (by simp)⟩
  | some g=>rw[i] at a;exact h.norow.other a (F g i).1
 have I:Ah (L++[(t,kv)])=Ah L++Ah [(t,kv)]:=by unfold Ah;rw[List.flatMap_append]
 have n:∀p∈L++[(t,kv)],Am 42 w (fun j=>Av B l j/\some j≠v.ownBlock) p.1.ks p.2:=fun p f=>by
  rcases List.mem_append.1 f with f | f
  ·exact C p f
  obtain rfl:=aF.1 f;exact D
 have c:Am 42 w' (Av B l) ((L++[(t,kv)]).map Prod.fst) m:=by
  refine AdD (by rw[I,List.length_append];exact P) (fun g r=>?_) fun p f=>?_
  ·rcases G with e | e
   ·exact(F g (e▸r)).1
   rw[e] at r;injection r with r;rw[<- r];exact M
  have A:=(n p f).mono (S':=fun j=>Av B l j/\some j≠m.ownBlock/\some j≠v.ownBlock) fun j E e=>⟨e.1,by
   rcases G with u | u
   ·rw[u];exact e.2
   rw[u];intro h;injection h with h;omega,e.2⟩
  exact(A.kept a.size fun j E K=>a.block j K E.2.2).mono fun j _ e=>⟨e.1,e.2.1⟩
 rw[List.map_append,H] at c;exact⟨hF.z,hF.o,hF.hq,hF.hw,hF.hB,hF.b,fun x N=>by obtain rfl:=aF.1 N;exact c,hF.d⟩
theorem Fr.apart {w1:World} {k:List Tr} {v:Value} {t:Tr} {kv:Value} (h:Fr w0 W q B s p l ((k,v)::ks) w) (c:Am 42 w1 (w.heap.size <= ·) t.ks kv):Am 42 w1 (fun j=>Av B l j/\some j≠v.ownBlock) t.ks kv:=by
 obtain⟨L,f,a,-,-⟩:=(h.k _ (.head _)).owns B (fun j e=>e.1);refine c.mono fun j _ b=>⟨⟨aD h.hB.2 b,fun y d=>by have:=h.new y d;omega⟩,fun e=>?_⟩;have:=(a.lt j e.symm).2;omega
theorem Fr.upd {b:Nat} {v0 v1 v2 v3 v4 u0 u1 u2 u3 u4:Value} (h:Fr w0 W q B s p (⟨b,v0,v1,v2,v3,v4⟩::l) ks w) (f:Ae b w w') (m:C5 w' b u0 u1 u2 u3 u4):Fr w0 W q B s p (⟨b,u0,u1,u2,u3,u4⟩::l) ks w':=by
 have a:=(h.b _ (.head _)).1;have n:=h.hq;have g:=aB.1 h.d;dsimp only at a g;refine⟨h.z.other f (aD h.hw a) (by omega),h.o.under f a,h.hq,h.hw,⟨h.hB.1,aD h.hB.2 f.size⟩,fun x c=>?_,fun x c=>?_,aB.2 g⟩
 ·rcases aA.1 c with rfl | c
  ·exact⟨a,m⟩
  have:=g.1 x c;exact⟨(h.b x (.tail _ c)).1,(h.b x (.tail _ c)).2.only f (by omega)⟩
 exact((h.k x c).only f (fun e=>e.2 _ (.head _) rfl)).mono fun j _ e=>⟨e.1,fun y i=>by rcases aA.1 i with rfl | i;exact e.2 ⟨b,v0,v1,v2,v3,v4⟩ (.head _);exact e.2 _ (.tail _ i)⟩
theorem Fr.put0 {b:Nat} {v0 v1 v2 v3 v4:Value} (h:Fr w0 W q B s p (⟨b,v0,v1,v2,v3,v4⟩::l) ks w) (u:Value):Fr w0 W q B s p (⟨b,u,v1,v2,v3,v4⟩::l) ks (w.setCell ⟨b,0,none⟩ u):=h.upd ((Ae.refl b w).set 0 u) (h.b0.set0 u)
theorem Fr.put3 {b:Nat} {v0 v1 v2 v3 v4:Value} (h:Fr w0 W q B s p (⟨b,v0,v1,v2,v3,v4⟩::l) ks w) (u:Value):Fr w0 W q B s p (⟨b,v0,v1,v2,u,v4⟩::l) ks (w.setCell ⟨b,3,none⟩ u):=h.upd ((Ae.refl b w).set 3 u) (h.b0.set3 u)
theorem Fr.put1 {b:Nat} {v0 v1 v2 v3 v4:Value} (h:Fr w0 W q B s p (⟨b,v0,v1,v2,v3,v4⟩::l) ks w) (u:Value):Fr w0 W q B s p (⟨b,v0,u,v2,v3,v4⟩::l) ks (w.setCell ⟨b,1,none⟩ u):=h.upd ((Ae.refl b w).set 1 u) (h.b0.set1 u)
theorem Fr.put4 {b:Nat} {v0 v1 v2 v3 v4:Value} (h:Fr w0 W q B s p (⟨b,v0,v1,v2,v3,v4⟩::l) ks w) (u:Value):Fr w0 W q B s p (⟨b,v0,v1,v2,v3,u⟩::l) ks (w.setCell ⟨b,4,none⟩ u):=h.upd ((Ae.refl b w).set 4 u) (h.b0.set4 u)
theorem Fr.upd1 {x:B5} {b:Nat} {v0 v1 v2 v3 v4 u0 u1 u2 u3 u4:Value} (h:Fr w0 W q B s p (x::⟨b,v0,v1,v2,v3,v4⟩::l) ks w) (g:Ae b w w') (r:C5 w' b u0 u1 u2 u3 u4):Fr w0 W q B s p (x::⟨b,u0,u1,u2,u3,u4⟩::l) ks w':=by
 have c:=(h.b _ (.tail _ (.head _))).1;have t:=h.hq;have f:=aB.1 h.d;have n:=aB.1 f.2;have i:=f.1 ⟨b,v0,v1,v2,v3,v4⟩ (.head _);dsimp only at c n i;refine⟨h.z.other g (aD h.hw c) (by omega),h.o.under g c,h.hq,h.hw,⟨h.hB.1,aD h.hB.2 g.size⟩,fun y a=>?_,fun y a=>?_,aB.2 ⟨fun y a=>?_,aB.2 n⟩⟩
 ·rcases aA.1 a with rfl | a
  ·exact⟨(h.b _ (.head _)).1,(h.b _ (.head _)).2.only g (by omega)⟩
  rcases aA.1 a with rfl | a
  ·exact⟨c,r⟩
  have:=n.1 y a;exact⟨(h.b y (.tail _ (.tail _ a))).1,(h.b y (.tail _ (.tail _ a))).2.only g (by omega)⟩
 ·refine((h.k y a).only g (fun e=>e.2 _ (.tail _ (.head _)) rfl)).mono fun j _ e=>⟨e.1,fun z m=>?_⟩
  rcases aA.1 m with rfl | m
  ·exact e.2 _ (.head _)
  rcases aA.1 m with rfl | m
  ·exact e.2 ⟨b,v0,v1,v2,v3,v4⟩ (.tail _ (.head _))
  exact e.2 _ (.tail _ (.tail _ m))
 rcases aA.1 a with rfl | a
 ·exact i
 exact f.1 y (.tail _ a)
theorem Fr.store1 {x:B5} {b:Nat} {v0 v1 v2 v3 v4:Value} (h:Fr w0 W q B s p (x::⟨b,v0,v1,v2,v3,v4⟩::l) ks w) (u0 u1 u2 u3 u4:Value) :
  Fr w0 W q B s p (x::⟨b,u0,u1,u2,u3,u4⟩::l) ks (((((w.setCell ⟨b,0,none⟩ u0).setCell ⟨b,1,none⟩ u1).setCell ⟨b,2,none⟩ u2).setCell ⟨b,3,none⟩ u3).setCell ⟨b,4,none⟩ u4) :=
 h.upd1 ((((((Ae.refl b w).set 0 u0).set 1 u1).set 2 u2).set 3 u3).set 4 u4) (((((h.b1.set0 u0).set1 u1).set2 u2).set3 u3).set4 u4)
theorem Fr.zz {x:B5} {b r:Nat} {v0 v1 v2 v3 v4 u0 u1 u2 u3 u4:Value} (h:Fr w0 W q B s p (⟨b,v0,v1,v2,v3,v4⟩::x::⟨r,u0,u1,u2,u3,u4⟩::l) ks w) :
 C5 (((((w.setCell ⟨r,0,none⟩ v0).setCell ⟨r,1,none⟩ v1).setCell ⟨r,2,none⟩ v2).setCell ⟨r,3,none⟩ v3).setCell ⟨r,4,none⟩ v4) r v0 v1 v2 v3 v4:=((((h.b2.set0 v0).set1 v1).set2 v2).set3 v3).set4 v4
theorem Fr.addnil {w0 W w:World} {q B:Nat} {s:ByteArray} {p:Rs} {l:List B5} (h:Fr w0 W q B s p l [] w):Fr w0 W q B s p l [([],.slice none 0 0)] w :=
 ⟨h.z,h.o,h.hq,h.hw,h.hB,h.b,fun x a=>by obtain rfl:=aF.1 a;exact Am.nil _,h.d⟩
end
section
variable {w0 W0 w w':World} {q B ub:Nat} {s:ByteArray} {p:Rs} {l:List B5} {ks:List (List Tr×Value)} {v0 v1 v2 v3 v4:Value}
theorem Fr.wide (h:Fr w0 W0 q B s p (⟨ub,v0,v1,v2,v3,v4⟩::l) ks w) {u0 u1 u2 u3 u4:Value} {r:List Value} (b:Ae ub w w') (a:CN w' ub (u0::u1::u2::u3::u4::r)) :
 Fr w0 W0 q B s p (⟨ub,u0,u1,u2,u3,u4⟩::l) ks w':=h.upd b a.c5
theorem Fr.nilrow (h:Fr w0 W0 q B s p l ks w):Fr w0 W0 q B s p l (([],.slice none 0 0)::ks) w :=
 ⟨h.z,h.o,h.hq,h.hw,h.hB,h.b,fun x a=>by rcases aA.1 a with rfl | a;exact Am.nil _;exact h.k x a,h.d⟩
end
open Go.Proofs.Tryz
theorem Rz.c6 {b W:World} {q:Nat} {s:ByteArray} {p:Rs} (h:Rz b q s p W):W.cell? ⟨q,0,none⟩=some (.string s)/\W.cell? ⟨q,1,none⟩=some (.int .i64 p.a)/\W.cell? ⟨q,2,none⟩=some (.int .i64 p.o)/\W.cell? ⟨q,3,none⟩=some (.bool p.g)/\W.cell? ⟨q,4,none⟩=some (.int .i64 p.e) /\
 W.cell? ⟨q,5,none⟩=some (.complex .f64 p.z.1 p.z.2)/\∀j,W.frozen? ⟨q,j,none⟩=false:=⟨h.c.c 0 _ rfl,h.c.c 1 _ rfl,h.c.c 2 _ rfl,h.c.c 3 _ rfl,h.c.c 4 _ rfl,h.c.c 5 _ rfl,h.c.z⟩
theorem Ad1 {d W:World} {q:Nat} {s:ByteArray} {p:Rs} (h:Rz d q s p W) :
  Calls prog 27 #[.pointer (some ⟨q,0,none⟩)] W fun e c=>e = .returned (.bool (decide (p.e=0)))/\W=c:=by
 obtain⟨f,g,i,j,k,c5,l⟩:=h.c6;have a:(p.e==0)=decide (p.e=0):=rfl;generalize decide (p.e=0)=b at a ⊢
 go_in
 go_wp2;go_ret;exact⟨rfl,rfl⟩
theorem AbX {pl:Nat->Nat×Nat} {d W:World} {q:Nat} {s:ByteArray} {p:Rs} (b:RlC pl s) (h:Rz d q s p W) (e:Int) (f:Nat) (k:f<=s.size) :
  Calls prog 50 #[.pointer (some ⟨q,0,none⟩),.int .i64 e,.int .i64 f] W fun r c=>r = .returned (.tuple #[])/\Rz d q s (Abl pl e f p) c/\Ae q W c:=by
 obtain⟨l,m,n,o,t,c5,u⟩:=h.c6;have g:=aC (fun w=>b f w k);have j:=aC h;unfold Abl;by_cases a:p.e=0
 ·have b0:(p.e==0)=true:=beq_iff_eq.2 a
  rw[if_pos a];have i:=aC (h.setE e (pl f));clear h b
  go_in
  go_wp2_with (first | (go_at_call 86;refine(g.out _).mono ?_;rintro e v ⟨rfl,rfl⟩))
  refine bodyPost_end (results_none rfl _ _ _) rfl ?_;exact⟨rfl,i.out,((Ae.refl q W).set 4 _).set 5 _⟩
 have b0:(p.e==0)=false:=beq_eq_false_iff_ne.2 a;rw[if_neg a];clear h b
 go_in
 go_wp2;refine bodyPost_end (results_none rfl _ _ _) rfl ?_;exact⟨rfl,j.out,Ae.refl q W⟩
def AbL (pl:Nat->Nat×Nat) (t:Tk) (s:Rs):Rs:=if t.e=0 then s else Abl pl t.e t.f s
theorem Abr {nx:Nat->Bool->Tk} {pl:Nat->Nat×Nat} {Q W:World} {q:Nat} {s:ByteArray} {p:Rs} (S:RxC nx s Q) (X:RlC pl s) (h:Rz Q q s p W) (E:Bool) :
  Calls prog 29 #[.pointer (some ⟨q,0,none⟩),.bool E] W fun e w'=>e = .returned (G1 (nx p.a E))/\Rz Q q s (AbL pl (nx p.a E) p) w'/\Ae q W w':=by
 have O:=aC (S.call p.a E);have ha:=h.ha;obtain⟨Y,ht⟩:=S.lim p.a E ha;obtain⟨t,V⟩:∃t,nx p.a E=t:=⟨_,rfl⟩;rw[V] at O Y ht ⊢;clear V S;have U:=aC (fun W' (h':Rz Q q s p W')=>AbX X h' t.e t.f Y);have b:=aC (Fr.start1 h (.int .i64 0) (.string ⟨#[]⟩) (.float .f64 0) (.int .i64 0) (.int .i64 0) 70);have R:=aC b.out.drew;have F:=aC (b.out.box (.int .i64 0) (.string ⟨#[]⟩) (.float .f64 0) (.int .i64 0) (.int .i64 0) 70).drew;obtain⟨k0,k1,-⟩:=R.out.z.c6;obtain⟨G,H,-⟩:=F.out.z.c6;have k:=aC R.out.z.below;have l:=aC F.out.z.below;have P:=aC F.out.b0;have Z:q≠W.heap.size+1:=by have:=h.lt;omega
 have hz:=aC (show (W.alloc (.cells #[.int .i64 0,.string ⟨#[]⟩,.float .f64 0,.int .i64 0,.int .i64 0] 70)).heap.size=W.heap.size+1 by simp);rw[hz.out] at P F;clear h X b;unfold G1 at O ⊢
 go_in
 go_wp2_with fail
 go_region_held3 (fun o=>o.cell? ⟨q,0,none⟩=some (.string s)/\o.cell? ⟨q,1,none⟩=some (.int .i64 p.a))
  (first | with_reducible exact⟨k0,k1⟩ | with_reducible exact⟨G,H⟩ | with_reducible exact⟨Aa k0 d,Aa k1 d⟩ | with_reducible exact⟨Az (Aa k0 d) _,Az (Aa k1 d) _⟩ | with_reducible exact⟨Em (Aa G c) Z,Em (Aa H c) Z⟩ | with_reducible exact⟨Aa G c,Aa H c⟩)
  (first | (go_at_call 49;refine(O.out _ ha k.out).mono ?_;rintro e w1 ⟨rfl,d⟩) | (go_at_call 49;refine(O.out _ ha l.out).mono ?_;rintro e w2 ⟨rfl,c⟩;obtain⟨m,n,r,u,w,x⟩:=P.out.below c))
 ·have b:=aC ((R.out.quiet d).box (.int .i64 t.kd) (.string ⟨t.tx.toArray⟩) (.float .f64 t.nm) (.int .i64 t.f) (.int .i64 t.t) 70)
  clear k0 k1 G H k l P;obtain⟨m,n,r,u,w,x⟩:=b.out.b0;obtain⟨I,J,K,L,M,N⟩:=b.out.b1;by_cases j:t.e=0
  ·have b1:(t.e != 0)=false:=by simp[j]
   go_wp2;obtain⟨y,A,B,C,D,T⟩:=((((b.out.b1.set0 (.int .i64 t.kd)).set1 (.string ⟨t.tx.toArray⟩)).set2 (.float .f64 t.nm)).set3 (.int .i64 t.f)).set4 (.int .i64 t.t);replace b:=aC (b.out.store1 (.int .i64 t.kd) (.string ⟨t.tx.toArray⟩) (.float .f64 t.nm) (.int .i64 t.f) (.int .i64 t.t));exact bodyPost_ret (v:=.agg #[.int .i64 t.kd,.string ⟨t.tx.toArray⟩,.float .f64 t.nm,.int .i64 t.f,.int .i64 t.t]) (by simp[results,results29,go_sem,y,A,B,C,D]<;>exact rfl) rfl ⟨rfl,by rw[AbL,if_pos j];exact b.out.z,b.out.o⟩
  have b1:(t.e != 0)=true:=by simp[j]
  go_wp2_with (first | (go_at_call 50;(with_reducible refine(U.out _ b.out.z).mono ?_);rintro e w3 ⟨rfl,i,g⟩;replace b:=aC (b.out.move i g);clear i g;clear m n r u w x I J K L M N;obtain⟨m,n,r,u,w,x⟩:=b.out.b0;obtain⟨I,J,K,L,M,N⟩:=b.out.b1))
  obtain⟨y,A,B,C,D,T⟩:=((((b.out.b1.set0 (.int .i64 t.kd)).set1 (.string ⟨t.tx.toArray⟩)).set2 (.float .f64 t.nm)).set3 (.int .i64 t.f)).set4 (.int .i64 t.t);replace b:=aC (b.out.store1 (.int .i64 t.kd) (.string ⟨t.tx.toArray⟩) (.float .f64 t.nm) (.int .i64 t.f) (.int .i64 t.t));exact bodyPost_ret (v:=.agg #[.int .i64 t.kd,.string ⟨t.tx.toArray⟩,.float .f64 t.nm,.int .i64 t.f,.int .i64 t.t]) (by simp[results,results29,go_sem,y,A,B,C,D]<;>exact rfl) rfl ⟨rfl,by rw[AbL,if_neg j];exact b.out.z,b.out.o⟩
 have b:=aC ((F.out.quiet c).store (.int .i64 t.kd) (.string ⟨t.tx.toArray⟩) (.float .f64 t.nm) (.int .i64 t.f) (.int .i64 t.t));clear m n r u w x;clear k0 k1 G H k l P;obtain⟨m,n,r,u,w,x⟩:=b.out.b0;obtain⟨I,J,K,L,M,N⟩:=b.out.b1;by_cases j:t.e=0
 ·have b1:(t.e != 0)=false:=by simp[j]
  go_wp2;obtain⟨y,A,B,C,D,T⟩:=((((b.out.b1.set0 (.int .i64 t.kd)).set1 (.string ⟨t.tx.toArray⟩)).set2 (.float .f64 t.nm)).set3 (.int .i64 t.f)).set4 (.int .i64 t.t);replace b:=aC (b.out.store1 (.int .i64 t.kd) (.string ⟨t.tx.toArray⟩) (.float .f64 t.nm) (.int .i64 t.f) (.int .i64 t.t));exact bodyPost_ret (v:=.agg #[.int .i64 t.kd,.string ⟨t.tx.toArray⟩,.float .f64 t.nm,.int .i64 t.f,.int .i64 t.t]) (by simp[results,results29,go_sem,y,A,B,C,D]<;>exact rfl) rfl ⟨rfl,by rw[AbL,if_pos j];exact b.out.z,b.out.o⟩
 have b1:(t.e != 0)=true:=by simp[j]
 go_wp2_with (first | (go_at_call 50;(with_reducible refine(U.out _ b.out.z).mono ?_);rintro e w3 ⟨rfl,i,g⟩;replace b:=aC (b.out.move i g);clear i g;clear m n r u w x I J K L M N;obtain⟨m,n,r,u,w,x⟩:=b.out.b0;obtain⟨I,J,K,L,M,N⟩:=b.out.b1))
 obtain⟨y,A,B,C,D,T⟩:=((((b.out.b1.set0 (.int .i64 t.kd)).set1 (.string ⟨t.tx.toArray⟩)).set2 (.float .f64 t.nm)).set3 (.int .i64 t.f)).set4 (.int .i64 t.t);replace b:=aC (b.out.store1 (.int .i64 t.kd) (.string ⟨t.tx.toArray⟩) (.float .f64 t.nm) (.int .i64 t.f) (.int .i64 t.t));exact bodyPost_ret (v:=.agg #[.int .i64 t.kd,.string ⟨t.tx.toArray⟩,.float .f64 t.nm,.int .i64 t.f,.int .i64 t.t]) (by simp[results,results29,go_sem,y,A,B,C,D]<;>exact rfl) rfl ⟨rfl,by rw[AbL,if_neg j];exact b.out.z,b.out.o⟩
theorem AbF {nx:Nat->Bool->Tk} {l W:World} {q:Nat} {s:ByteArray} {p:Rs} (k:RxC nx s l) (h:Rz l q s p W) (a:Nat) (ha:a<=s.size) :
  Calls prog 48 #[.pointer (some ⟨q,0,none⟩),.int .i64 a] W fun e n=>e = .returned (.tuple #[G1 (nx a false),.bool (decide ((nx a false).e=0))])/\Below W.heap.size W n:=by
 have i:=aC (k.call a false);obtain⟨t,j⟩:∃t,nx a false=t:=⟨_,rfl⟩;rw[j] at i ⊢;clear j k;have c:=aC (Fr.start1 h (.int .i64 0) (.string ⟨#[]⟩) (.float .f64 0) (.int .i64 0) (.int .i64 0) 70);have g:=aC (Ad W (.cells #[.int .i64 0,.string ⟨#[]⟩,.float .f64 0,.int .i64 0,.int .i64 0] 70));obtain⟨y,A,B,C,D,c5,E⟩:=c.out.z.c6;have m:(t.e==0)=decide (t.e=0):=rfl;generalize decide (t.e=0)=b at m ⊢;clear h;unfold G1 at i ⊢
 go_in
 go_wp2_with (first | (go_at_call 49;(with_reducible refine(i.out _ ha c.out.z.below).mono ?_);rintro e R ⟨rfl,d⟩;replace c:=aC ((c.out.quiet d).box (.int .i64 t.kd) (.string ⟨t.tx.toArray⟩) (.float .f64 t.nm) (.int .i64 t.f) (.int .i64 t.t) 70);replace g:=aC (g.out.trans ((d.mono g.out.size).trans ((Ad _ (.cells #[.int .i64 t.kd,.string ⟨t.tx.toArray⟩,.float .f64 t.nm,.int .i64 t.f,.int .i64 t.t] 70)).mono (aD g.out.size d.size))));obtain⟨F,G,H,I,J,K⟩:=c.out.b0;obtain⟨L,M,N,O,P,Q⟩:=c.out.b1))
 obtain⟨o,r,u,w,x,S⟩:=((((c.out.b1.set0 (.int .i64 t.kd)).set1 (.string ⟨t.tx.toArray⟩)).set2 (.float .f64 t.nm)).set3 (.int .i64 t.f)).set4 (.int .i64 t.t);exact bodyPost_ret (v:=.tuple #[.agg #[.int .i64 t.kd,.string ⟨t.tx.toArray⟩,.float .f64 t.nm,.int .i64 t.f,.int .i64 t.t],.bool b]) (by simp[results,results48,go_sem,o,r,u,w,x]<;>exact rfl) rfl ⟨rfl,Zq g.out (aG _) _ _ _ _ _⟩
set_option linter.unusedSimpArgs false in
theorem AeW {pl:Nat->Nat×Nat} {y W:World} {q:Nat} {s:ByteArray} {p:Rs} (E:RlC pl s) (h:Rz y q s p W) (t:Tk) (G:t.f<=s.size) :
  Calls prog 54 #[.pointer (some ⟨q,0,none⟩),G1 t] W fun e H=>e = .returned (.tuple #[])/\Rz y q s (Abj pl t p) H/\Ae q W H:=by
 have r:=aC (fun A (D:Rz y q s p A)=>AbX E D 27 t.f G);have n:=aC (fun A (D:Rz y q s p A)=>AbX E D 25 t.f G);have d:=aC (Fr.start1 h (.int .i64 t.kd) (.string ⟨t.tx.toArray⟩) (.float .f64 t.nm) (.int .i64 t.f) (.int .i64 t.t) 70);obtain⟨L,M,N,F,O,c5,P⟩:=d.out.z.c6;obtain⟨Q,R,S,T,U,V⟩:=d.out.b0;obtain⟨m,l⟩:∃m,Abj pl t p=m:=⟨_,rfl⟩;rw[l];replace l:=aC l;clear h E;unfold G1;rcases Xt t.kd 8 with⟨i,I,-⟩ | ⟨i,I,-⟩
 ·have B:(t.kd==9)=false:=by rw[i];rfl
  rcases J0 t.tx [103,101,116,108,105,110,101] with⟨j,C⟩ | ⟨j,C⟩
  ·clear B
   have a:Abl pl 27 t.f p=m:=by rw[<- l.out];unfold Abj XI isS;rw[if_pos (by simp[i,j])]
   clear i j
   go_in
   go_wp2_with (first | (go_at_call 50;(with_reducible refine(r.out _ d.out.z).mono ?_);rintro e v ⟨rfl,c,b⟩))
   refine bodyPost_ret (results_none rfl _ _ _) rfl ?_;exact⟨rfl,a▸c,d.out.o.trans b⟩
  skip
  have a:Abl pl 25 t.f p=m:=by rw[<- l.out];unfold Abj XI isS;rw[if_neg (by simp[i,j])]
  clear i j
  go_in
  go_wp2_with (first | (go_at_call 50;(with_reducible refine(n.out _ d.out.z).mono ?_);rintro e v ⟨rfl,c,b⟩))
  refine bodyPost_end (results_none rfl _ _ _) rfl ?_;exact⟨rfl,a▸c,d.out.o.trans b⟩
 rcases Xt t.kd 9 with⟨k,B,-⟩ | ⟨k,B,-⟩
 ·rcases J0 t.tx [124] with⟨j,C⟩ | ⟨j,C⟩
  ·skip
   have a:Abl pl 27 t.f p=m:=by rw[<- l.out];unfold Abj XI isS;rw[if_pos (by simp[i,k,j])]
   clear i k j
   go_in
   go_wp2_with (first | (go_at_call 50;(with_reducible refine(r.out _ d.out.z).mono ?_);rintro e v ⟨rfl,c,b⟩))
   refine bodyPost_ret (results_none rfl _ _ _) rfl ?_;exact⟨rfl,a▸c,d.out.o.trans b⟩
  rcases J0 t.tx [62,62] with⟨u,J⟩ | ⟨u,J⟩
  ·skip
   have a:Abl pl 27 t.f p=m:=by rw[<- l.out];unfold Abj XI isS;rw[if_pos (by simp[i,k,j,u])]
   clear i k j u
   go_in
   go_wp2_with (first | (go_at_call 50;(with_reducible refine(r.out _ d.out.z).mono ?_);rintro e v ⟨rfl,c,b⟩))
   refine bodyPost_ret (results_none rfl _ _ _) rfl ?_;exact⟨rfl,a▸c,d.out.o.trans b⟩
  rcases J0 t.tx [62] with⟨w,K⟩ | ⟨w,K⟩
  ·cases x:p.g
   ·rw[x] at F
    have a:Abl pl 25 t.f p=m:=by rw[<- l.out];unfold Abj XI isS;rw[if_neg (by simp[i,k,j,u,w,x])]
    clear i k j u w x
    go_in
    go_wp2_with (first | (go_at_call 50;(with_reducible refine(n.out _ d.out.z).mono ?_);rintro e v ⟨rfl,c,b⟩))
    refine bodyPost_end (results_none rfl _ _ _) rfl ?_;exact⟨rfl,a▸c,d.out.o.trans b⟩
   rw[x] at F;have a:Abl pl 27 t.f p=m:=by rw[<- l.out];unfold Abj XI isS;rw[if_pos (by simp[i,k,j,u,w,x])]
   clear i k j u w x
   go_in
   go_wp2_with (first | (go_at_call 50;(with_reducible refine(r.out _ d.out.z).mono ?_);rintro e v ⟨rfl,c,b⟩))
   refine bodyPost_ret (results_none rfl _ _ _) rfl ?_;exact⟨rfl,a▸c,d.out.o.trans b⟩
  skip
  have a:Abl pl 25 t.f p=m:=by rw[<- l.out];unfold Abj XI isS;rw[if_neg (by simp[i,k,j,u,w])]
  clear i k j u w
  go_in
  go_wp2_with (first | (go_at_call 50;(with_reducible refine(n.out _ d.out.z).mono ?_);rintro e v ⟨rfl,c,b⟩))
  refine bodyPost_end (results_none rfl _ _ _) rfl ?_;exact⟨rfl,a▸c,d.out.o.trans b⟩
 skip
 have a:Abl pl 25 t.f p=m:=by rw[<- l.out];unfold Abj XI isS;rw[if_neg (by simp[i,k])]
 clear i k
 go_in
 go_wp2_with (first | (go_at_call 50;(with_reducible refine(n.out _ d.out.z).mono ?_);rintro e v ⟨rfl,c,b⟩))
 refine bodyPost_end (results_none rfl _ _ _) rfl ?_;exact⟨rfl,a▸c,d.out.o.trans b⟩
section
variable {nx:Nat->Bool->Tk} {pl:Nat->Nat×Nat} {w0 W:World} {q:Nat} {s:ByteArray} {p:Rs}
theorem Abw (h:Rz w0 q s p W) (a:p.e=0):Calls prog 27 #[.pointer (some ⟨q,0,none⟩)] W fun e b=>e = .returned (.bool true)/\W=b:=by
 have:=Ad1 h;rw[decide_eq_true a] at this;exact this
theorem Acj (h:Rz w0 q s p W) (a:¬ p.e=0):Calls prog 27 #[.pointer (some ⟨q,0,none⟩)] W fun e b=>e = .returned (.bool false)/\W=b:=by
 have:=Ad1 h;rw[decide_eq_false a] at this;exact this
theorem Abz (c:RxC nx s w0) (h:Rz w0 q s p W) (a:Nat) (ha:a<=s.size) (b:(nx a false).e=0) :
  Calls prog 48 #[.pointer (some ⟨q,0,none⟩),.int .i64 a] W fun e d=>e = .returned (.tuple #[G1 (nx a false),.bool true])/\Below W.heap.size W d:=by
 have:=AbF c h a ha;rw[decide_eq_true b] at this;exact this
theorem Ac6 (c:RxC nx s w0) (h:Rz w0 q s p W) (a:Nat) (ha:a<=s.size) (b:¬ (nx a false).e=0) :
  Calls prog 48 #[.pointer (some ⟨q,0,none⟩),.int .i64 a] W fun e d=>e = .returned (.tuple #[G1 (nx a false),.bool false])/\Below W.heap.size W d:=by
 have:=AbF c h a ha;rw[decide_eq_false b] at this;exact this
def isV (nx:Nat->Bool->Tk) (x:List UInt8) (p:Rs):Bool:=decide (p.e=0)&&(decide ((nx p.a false).e=0)&&AbN x (nx p.a false))
set_option linter.unusedSimpArgs false in
theorem Acg (r:RxC nx s w0) (h:Rz w0 q s p W) (x:List UInt8) :
  Calls prog 51 #[.pointer (some ⟨q,0,none⟩),.string ⟨x.toArray⟩] W fun e F=>e = .returned (.bool (isV nx x p))/\Below W.heap.size W F:=by
 obtain⟨G,H,I,J,K,c5,L⟩:=h.c6;have M:=aC h;have ha:=h.ha;obtain⟨b,d⟩:∃b,isV nx x p=b:=⟨_,rfl⟩;rw[d];unfold isV AbN at d;by_cases B:p.e=0
 ·rw[decide_eq_true B,Bool.true_and] at d
  have l:=aC (Abw h B);by_cases n:(nx p.a false).e=0
  ·rw[decide_eq_true n,Bool.true_and] at d
   have i:=aC (Abz r h p.a ha n);generalize nx p.a false=t at i d;clear h r n;rcases Xt t.kd 9 with⟨j,E,-⟩ | ⟨j,E,-⟩
   ·rcases J0 t.tx x with⟨k,C⟩ | ⟨k,C⟩
    ·skip
     obtain rfl:b=true:=by rw[<- d];simp[j,k]
     clear d j k;unfold G1 at i
     go_in
     go_wp2_with (first | (go_at_call 27;(with_reducible refine l.out.mono ?_);rintro e o ⟨rfl,rfl⟩) | (go_at_call 48;(with_reducible refine i.out.mono ?_);rintro e g ⟨rfl,c⟩;obtain⟨u,v,w,y,z,A⟩:=C5.new g (.int .i64 t.kd) (.string ⟨t.tx.toArray⟩) (.float .f64 t.nm) (.int .i64 t.f) (.int .i64 t.t) 70))
     go_ret;exact⟨rfl,c.trans ((Ad g _).mono c.size)⟩
    skip
    obtain rfl:b=false:=by rw[<- d];simp[j,k]
    clear d j k;unfold G1 at i
    go_in
    go_wp2_with (first | (go_at_call 27;(with_reducible refine l.out.mono ?_);rintro e o ⟨rfl,rfl⟩) | (go_at_call 48;(with_reducible refine i.out.mono ?_);rintro e g ⟨rfl,c⟩;obtain⟨u,v,w,y,z,A⟩:=C5.new g (.int .i64 t.kd) (.string ⟨t.tx.toArray⟩) (.float .f64 t.nm) (.int .i64 t.f) (.int .i64 t.t) 70))
    go_ret;exact⟨rfl,c.trans ((Ad g _).mono c.size)⟩
   rcases Xt t.kd 8 with⟨m,D,-⟩ | ⟨m,D,-⟩
   ·rcases J0 t.tx x with⟨k,C⟩ | ⟨k,C⟩
    ·skip
     obtain rfl:b=true:=by rw[<- d];simp[m,j,k]
     clear d m j k;unfold G1 at i
     go_in
     go_wp2_with (first | (go_at_call 27;(with_reducible refine l.out.mono ?_);rintro e o ⟨rfl,rfl⟩) | (go_at_call 48;(with_reducible refine i.out.mono ?_);rintro e g ⟨rfl,c⟩;obtain⟨u,v,w,y,z,A⟩:=C5.new g (.int .i64 t.kd) (.string ⟨t.tx.toArray⟩) (.float .f64 t.nm) (.int .i64 t.f) (.int .i64 t.t) 70))
     go_ret;exact⟨rfl,c.trans ((Ad g _).mono c.size)⟩
    skip
    obtain rfl:b=false:=by rw[<- d];simp[m,j,k]
    clear d m j k;unfold G1 at i
    go_in
    go_wp2_with (first | (go_at_call 27;(with_reducible refine l.out.mono ?_);rintro e o ⟨rfl,rfl⟩) | (go_at_call 48;(with_reducible refine i.out.mono ?_);rintro e g ⟨rfl,c⟩;obtain⟨u,v,w,y,z,A⟩:=C5.new g (.int .i64 t.kd) (.string ⟨t.tx.toArray⟩) (.float .f64 t.nm) (.int .i64 t.f) (.int .i64 t.t) 70))
    go_ret;exact⟨rfl,c.trans ((Ad g _).mono c.size)⟩
   skip
   obtain rfl:b=false:=by rw[<- d];simp[m,j]
   clear d m j;unfold G1 at i
   go_in
   go_wp2_with (first | (go_at_call 27;(with_reducible refine l.out.mono ?_);rintro e o ⟨rfl,rfl⟩) | (go_at_call 48;(with_reducible refine i.out.mono ?_);rintro e g ⟨rfl,c⟩;obtain⟨u,v,w,y,z,A⟩:=C5.new g (.int .i64 t.kd) (.string ⟨t.tx.toArray⟩) (.float .f64 t.nm) (.int .i64 t.f) (.int .i64 t.t) 70))
   go_ret;exact⟨rfl,c.trans ((Ad g _).mono c.size)⟩
  rw[decide_eq_false n,Bool.false_and] at d;have i:=aC (Ac6 r h p.a ha n);generalize nx p.a false=t at i d;clear h r n;obtain rfl:b=false:=(by rw[<- d]);clear d;unfold G1 at i
  go_in
  go_wp2_with (first | (go_at_call 27;(with_reducible refine l.out.mono ?_);rintro e o ⟨rfl,rfl⟩) | (go_at_call 48;(with_reducible refine i.out.mono ?_);rintro e g ⟨rfl,c⟩;obtain⟨u,v,w,y,z,A⟩:=C5.new g (.int .i64 t.kd) (.string ⟨t.tx.toArray⟩) (.float .f64 t.nm) (.int .i64 t.f) (.int .i64 t.t) 70))
  go_ret;exact⟨rfl,c.trans ((Ad g _).mono c.size)⟩
 rw[decide_eq_false B,Bool.false_and] at d;have l:=aC (Acj h B);clear h r;obtain rfl:b=false:=(by rw[<- d]);clear d
 go_in
 go_wp2_with (first | (go_at_call 27;(with_reducible refine l.out.mono ?_);rintro e o ⟨rfl,rfl⟩))
 go_ret;exact⟨rfl,Below.refl _ _⟩
end
end Go.Proofs.YtfblenhlildnaaaGreatDoor
