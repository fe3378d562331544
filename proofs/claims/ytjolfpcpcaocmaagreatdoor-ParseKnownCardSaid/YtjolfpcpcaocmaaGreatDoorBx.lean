/- Bx -/
import Derived.Test.YtjolfpcpcaocmaaGreatDoorBu
import Derived.Test.YtjolfpcpcaocmaaGreatDoorCa
open List renaming mem_cons->aA,pairwise_cons->aB
open Nat renaming ne_of_lt->aC,le_trans->aD,le_refl->aE,ne_of_gt->aF
namespace Go.Proofs.YtjolfpcpcaocmaaGreatDoor
open Go.Proofs.Tryz
open Go.RowKit
theorem CA {α β:Type} {o:Hf α} {K:α->Ps->Hf β} {r:Hf β} (a:Hid (o.bind K=r)) (b:r ≠ .hush):o ≠ .hush:=fun e=>b (by rw[<- a.out,e];rfl)
section
variable {α β:Type} {q:Nat} {W W' w':World} {r:Hf β} {good:β->Ps->Value->World->Prop}
theorem HJ.part {o:Hf α} {K:α->Ps->Hf β} {g:α->Ps->Value->World->Prop} {e:Ending} (h:HJ q W' o g e w') (b:Hid (o.bind K=r)) (j:r ≠ .hush) :
  (∃f a,e = .panicked (T3 f a)/\Ae q W' w'/\Hid (r = .bad f a))\/∃x p v,e = .returned v/\g x p v w'/\Ae q W' w'/\Hid (K x p=r):=by
 cases o with
 | hush=>exact absurd b.out.symm j
 | bad f a=>exact .inl ⟨f,a,h.1,h.2,b.out.symm⟩
 | ok x p=>obtain⟨v,c,d,i⟩:=h;exact .inr ⟨x,p,v,c,d,i,b.out⟩
theorem BX {f:Nat} {a:Int} (c:Hid (r = .bad f a)) (b:Ae q W w'):HJ q W r good (.panicked (T3 f a)) w':=by rw[c.out];exact⟨rfl,b⟩
theorem O2 {x:β} {p:Ps} {v:Value} (a:Hid (.ok x p=r)) (b:good x p v w') (c:Ae q W w'):HJ q W r good (.returned v) w':=by rw[<- a.out];exact⟨v,rfl,b,c⟩
end
theorem DS {nx:Nat->Bool->Tk} {w0 W:World} {q:Nat} {s:ByteArray} {p:Ps} (g:F2 nx s w0) (h:Pz w0 q s p W) (c:Bool) :
  Calls prog 15 #[.pointer (some ⟨q,0,none⟩),.bool c] W (HJ q W (Eb nx c p) fun t p' v w'=>v=G1 t/\p'=p/\t.e=0/\nx p.a c=t/\(p.a<=t.f/\t.f<=t.t/\t.t<=s.size/\t.tx.length<=s.size/\(t.kd≠0->p.a<t.t))/\Below W.heap.size W w'):=by
 refine(Ea g h c).mono fun e w' i=>?_;unfold Eb;rcases i with⟨d,⟨b,rfl⟩ | ⟨b,rfl⟩⟩
 ·rw[if_pos b];exact⟨_,rfl,⟨rfl,rfl,b,rfl,g.ok p.a c h.ha b,d⟩,Ae.of_below q d⟩
 rw[if_neg b];exact⟨rfl,Ae.of_below q d⟩
theorem F1 {nx:Nat->Bool->Tk} {w0 W:World} {q:Nat} {s:ByteArray} {p:Ps} (d:F2 nx s w0) (h:Pz w0 q s p W) (x:List UInt8) :
  Calls prog 19 #[.pointer (some ⟨q,0,none⟩),.string ⟨x.toArray⟩] W (HJ q W (NV nx x p) fun b p' v w'=>v = .bool b/\p'=p/\Below W.heap.size W w'):=by
 refine(NW d h x).mono fun e w' f=>?_;unfold NV Eb;rcases f with⟨c,⟨a,rfl⟩ | ⟨a,rfl⟩⟩
 ·rw[if_pos a];exact⟨_,rfl,⟨rfl,rfl,c⟩,Ae.of_below q c⟩
 rw[if_neg a];exact⟨rfl,Ae.of_below q c⟩
theorem EE (t:Tk) (x:List UInt8) (w:World) :
 Calls prog 12 #[.agg #[.int .i64 t.kd,.string ⟨t.tx.toArray⟩,.float .f64 t.nm,.int .i64 t.f,.int .i64 t.t],.int .i64 9,.string ⟨x.toArray⟩] w fun e w'=>e = .returned (.bool (EP t x))/\Below w.heap.size w w':=AaD t 9 x w
theorem L0 (t:Tk) (x:List UInt8) (w:World) :
 Calls prog 12 #[.agg #[.int .i64 t.kd,.string ⟨t.tx.toArray⟩,.float .f64 t.nm,.int .i64 t.f,.int .i64 t.t],.int .i64 8,.string ⟨x.toArray⟩] w fun e w'=>e = .returned (.bool (XI t x))/\Below w.heap.size w w':=AaD t 8 x w
theorem C2 {pl:Nat->Nat×Nat} {w0 W:World} {q:Nat} {s:ByteArray} {p:Ps} (b:PlC pl s) (h:Pz w0 q s p W) (t:Tk) (c:p.a<=t.f/\t.f<=t.t/\t.t<=s.size/\t.tx.length<=s.size/\(t.kd≠0->p.a<t.t)) :
  Calls prog 16 #[.pointer (some ⟨q,0,none⟩),.agg #[.int .i64 t.kd,.string ⟨t.tx.toArray⟩,.float .f64 t.nm,.int .i64 t.f,.int .i64 t.t]] W fun e w'=>e = .returned (.complex .f64 (pl t.f).1 (pl t.f).2)/\Pz w0 q s (CQ t p) w'/\Ae q W w' :=
 E2 b h.y t (by omega) (by omega) (by have:=h.d1;omega)
theorem E3 {w0 W:World} {q:Nat} {s:ByteArray} {p:Ps} (h:Pz w0 q s p W) (t:Tk) :
  Calls prog 17 #[.pointer (some ⟨q,0,none⟩),.agg #[.int .i64 t.kd,.string ⟨t.tx.toArray⟩,.float .f64 t.nm,.int .i64 t.f,.int .i64 t.t]] W fun e w'=>e = .panicked (T3 t.f (Yd t p))/\Ae q W w' :=
 (SX h t).mono fun _ _ ⟨a,b⟩=>⟨b,Ae.of_below q a⟩
theorem R' (t:Tr) (a:Option Addr) (n c:Nat) (w:World):Calls prog 44 #[.agg #[.int .i64 t.kd,.string ⟨t.nm.toArray⟩,.float .f64 t.x,.slice a n c,.complex .f64 t.z.1 t.z.2]] w fun e w'=>e = .returned (.bool (Z1 t))/\Below w.heap.size w w':=Nu t _ w
theorem Yz (t:Tk) (w:World):Calls prog 124 #[.agg #[.int .i64 t.kd,.string ⟨t.tx.toArray⟩,.float .f64 t.nm,.int .i64 t.f,.int .i64 t.t]] w fun e w'=>e = .returned (.bool (O3 t))/\Below w.heap.size w w':=YA t w
theorem XU (t:Tk) (w:World):Calls prog 56 #[.agg #[.int .i64 t.kd,.string ⟨t.tx.toArray⟩,.float .f64 t.nm,.int .i64 t.f,.int .i64 t.t]] w fun e w'=>e = .returned (.bool (I0 t))/\Below w.heap.size w w':=PV t w
structure B5 where
 b:Nat
 v0:Value
 v1:Value
 v2:Value
 v3:Value
 v4:Value
def Av (B:Nat) (l:List B5) (j:Nat):Prop:=B<=j/\∀x∈l,j≠x.b
structure Fx (w0 W:World) (q B:Nat) (s:ByteArray) (p:Ps) (l:List B5) (ks:List (List Tr×Value)) (w:World):Prop where
 z:Pz w0 q s p w
 o:Ae q W w
 hq:q<W.heap.size
 hw:w0.heap.size<=W.heap.size
 hB:W.heap.size<=B/\B<=w.heap.size
 b:∀x∈l,W.heap.size<=x.b/\C5 w x.b x.v0 x.v1 x.v2 x.v3 x.v4
 k:∀x∈ks,Am 34 w (Av B l) x.1 x.2
 d:l.Pairwise fun x y=>y.b<x.b
section
variable {w0 W w w':World} {q B:Nat} {s:ByteArray} {p p':Ps} {l:List B5} {ks:List (List Tr×Value)} {v0 v1 v2 v3 v4:Value} {b:Nat}
theorem Fx.start (h:Pz w0 q s p W):Fx w0 W q W.heap.size s p [] [] W :=
 ⟨h,Ae.refl q W,h.lt,h.below.size,⟨aE _,aE _⟩,fun _ h=>(nomatch h),fun _ h=>(nomatch h),.nil⟩
theorem Fx.start1 (h:Pz w0 q s p W) (v0 v1 v2 v3 v4:Value) (T:TypeId):Fx w0 W q (W.heap.size+1) s p [⟨W.heap.size,v0,v1,v2,v3,v4⟩] [] (W.alloc (.cells #[v0,v1,v2,v3,v4] T)) :=
 ⟨h.keep (Ad _ _),Ae.of_below q (Ad _ _),h.lt,h.below.size,⟨by omega,by simp⟩,fun x h=>by obtain rfl:=List.mem_singleton.1 h;exact⟨aE _,C5.new _ _ _ _ _ _ _⟩,fun _ h=>(nomatch h),List.pairwise_singleton _ _⟩
theorem Fx.quiet (h:Fx w0 W q B s p l ks w) (a:Below w.heap.size w w'):Fx w0 W q B s p l ks w' :=
 ⟨h.z.keep a,h.o.trans (Ae.of_below q a),h.hq,h.hw,⟨h.hB.1,aD h.hB.2 a.size⟩,fun x c=>⟨(h.b x c).1,(h.b x c).2.below a⟩,fun x c=>(h.k x c).bel a,h.d⟩
theorem Fx.move (h:Fx w0 W q B s p l ks w) (f:Pz w0 q s p' w') (c:Ae q w w'):Fx w0 W q B s p' l ks w' :=
 ⟨f,h.o.trans c,h.hq,h.hw,⟨h.hB.1,aD h.hB.2 c.size⟩,fun x a=>⟨(h.b x a).1,(h.b x a).2.only c (by have:=(h.b x a).1;have:=h.hq;omega)⟩,fun x a=>(h.k x a).only c (fun e=>by have:=h.hB.1;have:=h.hq;have:=e.1;omega),h.d⟩
theorem Fx.new (h:Fx w0 W q B s p l ks w):∀x∈l,x.b<w.heap.size:=fun x a=>(h.b x a).2.lt
theorem Fx.box (h:Fx w0 W q B s p l ks w) (v0 v1 v2 v3 v4:Value) (T:TypeId):Fx w0 W q B s p (⟨w.heap.size,v0,v1,v2,v3,v4⟩::l) ks (w.alloc (.cells #[v0,v1,v2,v3,v4] T)) :=
 let g:=h.quiet (Ad w (.cells #[v0,v1,v2,v3,v4] T))
 ⟨g.z,g.o,g.hq,g.hw,g.hB,fun x a=>by rcases aA.1 a with rfl | a;exact⟨h.o.size,C5.new _ _ _ _ _ _ _⟩;exact g.b x a,
   fun x a=>((h.k x a).mono (S':=Av B (⟨w.heap.size,v0,v1,v2,v3,v4⟩::l)) fun j f e=>⟨e.1,fun y c=>by rcases aA.1 c with rfl | c;exact aC f;exact e.2 y c⟩).bel (Ad _ _),aB.2 ⟨fun y c=>h.new y c,h.d⟩⟩
theorem Fx.read (h:Fx w0 W q B s p l ks w) {k:List Tr} {kv:Value} (e:Am 34 w' (w.heap.size <= ·) k kv) (m:Pz w0 q s p' w') (f:Ae q w w'):Fx w0 W q B s p' l ((k,kv)::ks) w' :=
 let g:=h.move m f
 ⟨g.z,g.o,g.hq,g.hw,g.hB,g.b,fun x a=>by rcases aA.1 a with rfl | a;exact e.mono fun j _ c=>⟨aD h.hB.2 c,fun y i=>by have:=h.new y i;omega⟩;exact g.k x a,g.d⟩
theorem Fx.drew (h:Fx w0 W q B s p l ks w):Fx w0 W q B s p l ks w.drew:=h.move h.z.drew ((Ae.refl q w).drew)
theorem Fx.b0 (h:Fx w0 W q B s p (⟨b,v0,v1,v2,v3,v4⟩::l) ks w):C5 w b v0 v1 v2 v3 v4:=(h.b _ (.head _)).2
theorem Fx.b1 {x:B5} (h:Fx w0 W q B s p (x::⟨b,v0,v1,v2,v3,v4⟩::l) ks w):C5 w b v0 v1 v2 v3 v4:=(h.b _ (.tail _ (.head _))).2
theorem Fx.b2 {x y:B5} (h:Fx w0 W q B s p (x::y::⟨b,v0,v1,v2,v3,v4⟩::l) ks w):C5 w b v0 v1 v2 v3 v4:=(h.b _ (.tail _ (.tail _ (.head _)))).2
theorem Fx.b3 {x y z:B5} (h:Fx w0 W q B s p (x::y::z::⟨b,v0,v1,v2,v3,v4⟩::l) ks w):C5 w b v0 v1 v2 v3 v4:=(h.b _ (.tail _ (.tail _ (.tail _ (.head _))))).2
theorem Fx.ne02 {x y z:B5} (h:Fx w0 W q B s p (x::y::z::l) ks w):x.b≠z.b:=by have a:=(aB.1 h.d).1 z (.tail _ (.head _));omega
theorem Fx.ne12 {x y z:B5} (h:Fx w0 W q B s p (x::y::z::l) ks w):y.b≠z.b:=by have a:=(aB.1 (aB.1 h.d).2).1 z (.head _);omega
theorem Fx.k0 {k:List Tr} {kv:Value} (h:Fx w0 W q B s p l ((k,kv)::ks) w):Am 34 w (B <= ·) k kv:=(h.k _ (.head _)).mono fun _ _ e=>e.1
theorem Fx.k1 {x:List Tr×Value} {k:List Tr} {kv:Value} (h:Fx w0 W q B s p l (x::(k,kv)::ks) w):Am 34 w (B <= ·) k kv:=(h.k _ (.tail _ (.head _))).mono fun _ _ e=>e.1
def Bs (l:List B5) (o:World):Prop:=∀x∈l,C5 o x.b x.v0 x.v1 x.v2 x.v3 x.v4
theorem Fx.bs (h:Fx w0 W q B s p l ks w):Bs l w:=fun x a=>(h.b x a).2
theorem Bs.b0 (h:Bs (⟨b,v0,v1,v2,v3,v4⟩::l) w):C5 w b v0 v1 v2 v3 v4:=h _ (.head _)
theorem Bs.b1 {x:B5} (h:Bs (x::⟨b,v0,v1,v2,v3,v4⟩::l) w):C5 w b v0 v1 v2 v3 v4:=h _ (.tail _ (.head _))
theorem Bs.b2 {x y:B5} (h:Bs (x::y::⟨b,v0,v1,v2,v3,v4⟩::l) w):C5 w b v0 v1 v2 v3 v4:=h _ (.tail _ (.tail _ (.head _)))
theorem Fx.region {P:Program} {b:Array Oper} {Q:Exit->Act->World->Prop} (h:Fx w0 W q B s p l ks w) (k:Nat) {id:Nat} {a:Act} (d:P.follows .mixedOrders=true)
 (c:Bs l w.drew->Kp P .any b Q (Bs l) k b.size (Array.replicate b.size false) a w.drew):(Code.region id b true).wp P Q a w:=E1 (Bs l) k d (c h.drew.bs)
theorem Fx.drop {x:B5} (h:Fx w0 W q B s p (x::l) ks w):Fx w0 W q B s p l ks w :=
 ⟨h.z,h.o,h.hq,h.hw,h.hB,fun x a=>h.b x (.tail _ a),fun x a=>(h.k x a).mono fun _ _ e=>⟨e.1,fun y c=>e.2 y (.tail _ c)⟩,(aB.1 h.d).2⟩
theorem Fx.rows {k c:List (List Tr×Value)} (h:Fx w0 W q B s p l (k++c) w):Fx w0 W q B s p l k w :=
 ⟨h.z,h.o,h.hq,h.hw,h.hB,h.b,fun x a=>h.k x (List.mem_append_left _ a),h.d⟩
theorem Fx.row1 {x:List Tr×Value} (h:Fx w0 W q B s p l (x::ks) w):Fx w0 W q B s p l [x] w:=h.rows (k:=[x])
theorem Fx.store (h:Fx w0 W q B s p (⟨b,v0,v1,v2,v3,v4⟩::l) ks w) (u0 u1 u2 u3 u4:Value) :
  Fx w0 W q B s p (⟨b,u0,u1,u2,u3,u4⟩::l) ks (((((w.setCell ⟨b,0,none⟩ u0).setCell ⟨b,1,none⟩ u1).setCell ⟨b,2,none⟩ u2).setCell ⟨b,3,none⟩ u3).setCell ⟨b,4,none⟩ u4):=by
 have i:=(((((Ae.refl b w).set 0 u0).set 1 u1).set 2 u2).set 3 u3).set 4 u4;have a:=(h.b _ (.head _)).1;have m:=h.hq;have f:=aB.1 h.d;dsimp only at a f;refine⟨h.z.far5 (aD h.hw a) (by omega) _ _ _ _ _,LI h.o a _ _ _ _ _,h.hq,h.hw,⟨h.hB.1,aD h.hB.2 i.size⟩,fun x c=>?_,fun x c=>?_,aB.2 f⟩
 ·rcases aA.1 c with rfl | c
  ·exact⟨a,((((h.b0.set0 u0).set1 u1).set2 u2).set3 u3).set4 u4⟩
  have:=f.1 x c;exact⟨(h.b x (.tail _ c)).1,(h.b x (.tail _ c)).2.far5 (by omega)⟩
 exact((h.k x c).only i (fun e=>e.2 _ (.head _) rfl)).mono fun j _ e=>⟨e.1,fun y g=>by rcases aA.1 g with rfl | g;exact e.2 ⟨b,v0,v1,v2,v3,v4⟩ (.head _);exact e.2 _ (.tail _ g)⟩
theorem Fx.kid1 {u:Tr} {kv:Value} (h:Fx w0 W q B s p l ((u.ks,kv)::ks) w):Fx w0 W q B s p l (([u],.slice (some ⟨w.heap.size,0,none⟩) 1 1)::(u.ks,kv)::ks) (w.alloc (.cells #[.int .i64 u.kd,.string ⟨u.nm.toArray⟩,.float .f64 u.x,kv,.complex .f64 u.z.1 u.z.2] 34)) :=
 let g:=h.quiet (Ad w (.cells #[.int .i64 u.kd,.string ⟨u.nm.toArray⟩,.float .f64 u.x,kv,.complex .f64 u.z.1 u.z.2] 34))
 ⟨g.z,g.o,g.hq,g.hw,g.hB,g.b,fun x a=>by
   rcases aA.1 a with rfl | a
   ·have f:=h.k _ (.head _)
    refine Am.row _ [(u,kv)] w.heap.size 1 _ ⟨h.hB.2,fun y m=>aF (h.new y m)⟩ (heap_alloc_new _ _) (by simp) (by decide) rfl rfl fun p i=>?_;obtain rfl:p=(u,kv):=(by simpa using i);exact(f.mono fun j c e=>⟨e,aC c⟩).bel (Ad _ _)
   exact g.k x a,g.d⟩
theorem Fx.kid2 {u v:Tr} {a kv:Value} (h:Fx w0 W q B s p l ((v.ks,kv)::(u.ks,a)::ks) w):Fx w0 W q B s p l (([u,v],.slice (some ⟨w.heap.size,0,none⟩) 2 2)::(v.ks,kv)::(u.ks,a)::ks) (w.alloc (.cells #[.int .i64 u.kd,.string ⟨u.nm.toArray⟩,.float .f64 u.x,a,.complex .f64 u.z.1 u.z.2,.int .i64 v.kd,.string ⟨v.nm.toArray⟩,.float .f64 v.x,kv,.complex .f64 v.z.1 v.z.2] 34)) :=
 let g:=h.quiet (Ad w (.cells #[.int .i64 u.kd,.string ⟨u.nm.toArray⟩,.float .f64 u.x,a,.complex .f64 u.z.1 u.z.2,.int .i64 v.kd,.string ⟨v.nm.toArray⟩,.float .f64 v.x,kv,.complex .f64 v.z.1 v.z.2] 34))
 ⟨g.z,g.o,g.hq,g.hw,g.hB,g.b,fun x i=>by
   rcases aA.1 i with rfl | i
   ·refine Am.row _ [(u,a),(v,kv)] w.heap.size 2 _ ⟨h.hB.2,fun y m=>aF (h.new y m)⟩ (heap_alloc_new _ _) (by simp) (by decide) rfl rfl fun p f=>?_
    rcases aA.1 f with rfl | f
    ·exact((h.k _ (.tail _ (.head _))).mono fun j c e=>⟨e,aC c⟩).bel (Ad _ _)
    obtain rfl:p=(v,kv):=(by simpa using f);exact((h.k _ (.head _)).mono fun j c e=>⟨e,aC c⟩).bel (Ad _ _)
   exact g.k x i,g.d⟩
theorem Fx.kid3 {u v y:Tr} {i kv a:Value} (h:Fx w0 W q B s p l ((y.ks,a)::(v.ks,kv)::(u.ks,i)::ks) w):Fx w0 W q B s p l (([u,v,y],.slice (some ⟨w.heap.size,0,none⟩) 3 3)::(y.ks,a)::(v.ks,kv)::(u.ks,i)::ks) (w.alloc (.cells #[.int .i64 u.kd,.string ⟨u.nm.toArray⟩,.float .f64 u.x,i,.complex .f64 u.z.1 u.z.2,.int .i64 v.kd,.string ⟨v.nm.toArray⟩,.float .f64 v.x,kv,.complex .f64 v.z.1 v.z.2,.int .i64 y.kd,.string ⟨y.nm.toArray⟩,.float .f64 y.x,a,.complex .f64 y.z.1 y.z.2] 34)) :=
 let g:=h.quiet (Ad w (.cells #[.int .i64 u.kd,.string ⟨u.nm.toArray⟩,.float .f64 u.x,i,.complex .f64 u.z.1 u.z.2,.int .i64 v.kd,.string ⟨v.nm.toArray⟩,.float .f64 v.x,kv,.complex .f64 v.z.1 v.z.2,.int .i64 y.kd,.string ⟨y.nm.toArray⟩,.float .f64 y.x,a,.complex .f64 y.z.1 y.z.2] 34))
 ⟨g.z,g.o,g.hq,g.hw,g.hB,g.b,fun x m=>by
   rcases aA.1 m with rfl | m
   ·refine Am.row _ [(u,i),(v,kv),(y,a)] w.heap.size 3 _ ⟨h.hB.2,fun y n=>aF (h.new y n)⟩ (heap_alloc_new _ _) (by simp) (by decide) rfl rfl fun p f=>?_
    rcases aA.1 f with rfl | f
    ·exact((h.k _ (.tail _ (.tail _ (.head _)))).mono fun j c e=>⟨e,aC c⟩).bel (Ad _ _)
    rcases aA.1 f with rfl | f
    ·exact((h.k _ (.tail _ (.head _))).mono fun j c e=>⟨e,aC c⟩).bel (Ad _ _)
    obtain rfl:p=(y,a):=(by simpa using f);exact((h.k _ (.head _)).mono fun j c e=>⟨e,aC c⟩).bel (Ad _ _)
   exact g.k x m,g.d⟩
theorem Fx.done (h:Fx w0 W q (W.heap.size+1) s p l ks w) {t:Tr} {kv:Value} (b:Am 34 w (W.heap.size+1 <= ·) t.ks kv) (u0 u1 u2 u3 u4:Value) {r:Hf (List Tr)} (a:Hid (.ok [t] p=r)) :
  HJ q W r (NM w0 q s W) (.returned (CJ t kv)) (((((w.setCell ⟨W.heap.size,0,none⟩ u0).setCell ⟨W.heap.size,1,none⟩ u1).setCell ⟨W.heap.size,2,none⟩ u2).setCell ⟨W.heap.size,3,none⟩ u3).setCell ⟨W.heap.size,4,none⟩ u4):=by
 have c:=(((((Ae.refl W.heap.size w).set 0 u0).set 1 u1).set 2 u2).set 3 u3).set 4 u4;have d:=h.hq;exact O2 a ⟨⟨t,kv,rfl,rfl,(b.only c (by omega)).mono fun j _ h=>by omega⟩,h.z.far5 h.hw (by omega) _ _ _ _ _⟩ (LI h.o (aE _) _ _ _ _ _)
end
end Go.Proofs.YtjolfpcpcaocmaaGreatDoor
