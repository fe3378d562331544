/- Ev Em En Eo Ep -/
import Derived.Test.YtipfpohlnhmlpaaGreatDoorEl
import Derived.Test.YtipfpohlnhmlpaaGreatDoorEg
set_option maxRecDepth 100000
set_option maxHeartbeats 4000000
open Go.Lib renaming hid->aA
open Option renaming bind_eq_some_iff->aB
open Nat renaming le_refl->aC
open Go.Calls renaming quiet_of->aD
open Prod renaming fst->aE
namespace Go.Proofs.YtipfpohlnhmlpaaGreatDoor
open Go.Proofs.Tryz
open Go.RowKit
theorem Mq (s:ByteArray) (b:s=Tz) (k:Nat) (f:k=1\/k=3) (W:World):Calls prog 188 #[.string s,.int .i64 k] W fun e n=>e = .returned (.bool false)/\n=W:=by
 have d:s.size=6:=by rw[b];rfl
 obtain⟨c,j,o,a⟩:∃c:Nat,∃h:k<s.size,s[k].toNat=c/\c≠91:=by
  rcases f with rfl | rfl
  ·exact⟨48,by omega,by subst b;rfl,by omega⟩
  exact⟨57,by omega,by subst b;rfl,by omega⟩
 have g:(k:Int)+1<(s.size:Int):=(by omega);have i:(k:Int)<(s.size:Int):=(by omega);have l:(k:Int)<=10:=(by omega);have m:((c:Int)==91)=false:=beq_eq_false_iff_ne.2 (by omega);clear f b d a
 go_in
 go_wp2;go_ret;exact⟨rfl,rfl⟩
theorem R7 (s:ByteArray) (d:s=Tz) (k:Nat) (j:k=1\/k=3) (W:World):Calls prog 190 #[.string s,.int .i64 k] W fun e r=>e = .returned (.tuple #[.int .u8 (Cf s k:Nat),.int .i64 ((k+1:Nat):Int),.bool true])/\r=W:=by
 have g:s.size=6:=by rw[d];rfl
 obtain⟨c,f,l,i⟩:∃c:Nat,∃h:k<s.size,s[k].toNat=c/\c≠92:=by
  rcases j with rfl | rfl
  ·exact⟨48,by omega,by subst d;rfl,by omega⟩
  exact⟨57,by omega,by subst d;rfl,by omega⟩
 rw[F6 f,l];obtain⟨b,a⟩:∃b,b=k+1:=⟨_,rfl⟩;rw[<- a];have o:(k:Int)+1=(b:Int):=(by omega);have m:decide ((s.size:Int)<=(k:Int))=false:=decide_eq_false (by omega);have n:(k:Int)<(s.size:Int):=(by omega);have p:(b:Int)<=10:=(by omega);have q:((c:Int) != 92)=true:=by simp[bne];omega
 clear j d g a
 go_in
 go_wp2;exact bodyPost_ret (v:=.tuple #[.int .u8 (c:Int),.int .i64 (b:Int),.bool true]) (by simp[results,results190,go_sem]<;>exact rfl) rfl ⟨rfl,rfl⟩
theorem W8 (arr:Array Value) (d:arr.size=256) (a:∀i,i<256->∃b,arr[i]?=some (.bool b)) (j:Nat) (x:Bool) :
  (arr.setIfInBounds j (.bool x)).size=256/\∀i,i<256->∃b,(arr.setIfInBounds j (.bool x))[i]?=some (.bool b):=by
 refine⟨by simpa using d,fun i c=>?_⟩;by_cases h:j=i
 ·subst h;exact⟨x,by rw[Array.getElem?_setIfInBounds_self_of_lt (by omega)]⟩
 rw[Array.getElem?_setIfInBounds_ne h];exact a i c
structure Lo (w:World) (p:Nat) (arr:Array Value):Prop where
 hs:arr.size=256
 hb:∀i,i<256->∃b,arr[i]?=some (.bool b)
 row:w.heap[p]?=some (.cells arr 230 (0,0))
theorem Lo.cell {w:World} {p:Nat} {arr:Array Value} (h:Lo w p arr) (i:Nat) (a:i<256):∃b,w.cell? ⟨p,i,none⟩=some (.bool b):=by
 obtain⟨b,e⟩:=h.hb i a;exact⟨b,by rw[cell_of_row w p i arr _ (0,0) h.row];exact e⟩
theorem Lo.fz {w:World} {p:Nat} {arr:Array Value} (h:Lo w p arr) (j:Nat):w.frozen? ⟨p,j,none⟩=false:=frozen_of_row w p j arr _ h.row
theorem Lo.set {w:World} {p:Nat} {arr:Array Value} (h:Lo w p arr) (j:Nat) (x:Bool):Lo (w.setCell ⟨p,j,none⟩ (.bool x)) p (arr.setIfInBounds j (.bool x)):=by
 obtain⟨a,b⟩:=W8 arr h.hs h.hb j x;exact⟨a,b,heap_setCell_same w p j arr _ _ h.row⟩
structure Vc (W:World) (arr:Array Value) (w:World):Prop where
 res:w.heap[W.heap.size]?=some (.cells Tryz.zeroCells230 230 (0,0))
 set:Lo w (W.heap.size+1) arr
 bel:Below W.heap.size W w
theorem Vc.put {W w:World} {arr:Array Value} (h:Vc W arr w) (j:Nat) (x:Bool):Vc W (arr.setIfInBounds j (.bool x)) (w.setCell ⟨W.heap.size+1,j,none⟩ (.bool x)):=by
 have a:Ae (W.heap.size+1) w (w.setCell ⟨W.heap.size+1,j,none⟩ (.bool x)):=(Ae.refl _ w).set j _;exact⟨(a.block W.heap.size (Array.getElem?_eq_some_iff.1 h.res).1 (fun e=>by injection e with e;omega)).trans h.res,h.set.set j x,a.below_of h.bel (by omega) h.bel.size⟩
theorem M6:WY:=by
 intro W;obtain⟨s,h⟩:∃s,s=Tz:=⟨_,rfl⟩;obtain⟨d,n⟩:∃k:Nat,k=1:=⟨_,rfl⟩;obtain⟨p,w⟩:∃k:Nat,k=2:=⟨_,rfl⟩;obtain⟨l,o⟩:∃k:Nat,k=3:=⟨_,rfl⟩;obtain⟨m,x⟩:∃k:Nat,k=4:=⟨_,rfl⟩;obtain⟨A,G⟩:∃k:Nat,k=5:=⟨_,rfl⟩;have H:s.size=6:=by rw[h];rfl
 rw[<- h,show (1:Int)=(d:Int) by omega,show (5:Int)=(A:Int) by omega];have l1:d<s.size:=(by omega);have l2:p<s.size:=(by omega);have l3:l<s.size:=(by omega);have l4:m<s.size:=(by omega);have b1:((s[d]'l1).toNat:Int)=48:=by subst h;subst n;rfl
 have b2:((s[p]'l2).toNat:Int)=45:=by subst h;subst w;rfl
 have b3:((s[l]'l3).toNat:Int)=57:=by subst h;subst o;rfl
 have b4:((s[m]'l4).toNat:Int)=93:=by subst h;subst x;rfl
 have i1:(d:Int)<(s.size:Int):=(by omega);have i2:(p:Int)<(s.size:Int):=(by omega);have i3:(l:Int)<(s.size:Int):=(by omega);have i4:(m:Int)<(s.size:Int):=(by omega);have a1:(d:Int)+1=(p:Int):=(by omega);have a2:(p:Int)+1=(l:Int):=(by omega);have a4:(m:Int)+1=(A:Int):=(by omega);have u5:(A:Int)<=10:=(by omega);have u4:(m:Int)<=10:=(by omega);have u3:(l:Int)<=10:=(by omega);have u2:(p:Int)<=10:=(by omega);have u1:(d:Int)<=10:=(by omega);have n1:decide (s.size<d)=false:=decide_eq_false (by omega);have n0:decide ((d:Int)<0)=false:=decide_eq_false (by omega)
 have n4:decide (s.size<=m)=false:=decide_eq_false (by omega);have g4:decide ((s.size:Int)<=(m:Int))=false:=decide_eq_false (by omega);have D:Hid (∀W,Calls prog 188 #[.string s,.int .i64 d] W fun e q=>e = .returned (.bool false)/\q=W):=fun W=>Mq s h d (.inl n) W;have E:Hid (∀W,Calls prog 188 #[.string s,.int .i64 l] W fun e q=>e = .returned (.bool false)/\q=W):=fun W=>Mq s h l (.inr o) W
 have B:Hid (∀W,Calls prog 190 #[.string s,.int .i64 d] W fun e q=>e = .returned (.tuple #[.int .u8 48,.int .i64 p,.bool true])/\q=W):=fun W=>by
  have:=R7 s h d (.inl n) W;rw[show d+1=p by omega,show Cf s d=48 by rw[F6 l1];omega] at this;exact this
 have C:Hid (∀W,Calls prog 190 #[.string s,.int .i64 l] W fun e q=>e = .returned (.tuple #[.int .u8 57,.int .i64 m,.bool true])/\q=W):=fun W=>by
  have:=R7 s h l (.inr o) W;rw[show l+1=m by omega,show Cf s l=57 by rw[F6 l3];omega] at this;exact this
 have Q:Vc W Tryz.zeroCells230 ((W.alloc (.cells Tryz.zeroCells230 230)).alloc (.cells Tryz.zeroCells230 230)):=by
  have X:=heap_alloc_last W (.cells Tryz.zeroCells230 230);have O:=heap_alloc_last (W.alloc (.cells Tryz.zeroCells230 230)) (.cells Tryz.zeroCells230 230);rw[EG] at O;exact⟨((Ad _ _).block W.heap.size (by simp)).trans X,⟨by rw[Dv];simp,fun i Y=>⟨false,by rw[Dv];simp[Y]⟩,O⟩,(Ad W _).trans ((Ad _ _).mono (by simp))⟩
 have N:=aA Q;clear h H n w o x G Q
 go_in
 go_upto_region 2 with fail
 rw[show W.heap.size+1=W.heap.size+1 from rfl];generalize ((W.alloc (.cells Tryz.zeroCells230 230)).alloc (.cells Tryz.zeroCells230 230))=V at N ⊢
 go_wp2_with fail
 go_loopg [1,9] 1 (fun g i f wr=>∃arr,(g=1/\i = .int .i64 d/\f = .bool true\/g=0/\i = .int .i64 m/\f = .bool false)/\Hid (Vc W arr wr))
 case atStart=>exact⟨_,.inl ⟨rfl,rfl,rfl⟩,N⟩
 obtain⟨arr,⟨rfl,rfl,rfl⟩ | ⟨rfl,rfl,rfl⟩,M⟩:=hrel
 ·go_wp2_with (first
   | (go_at_call 188;with_reducible refine(D.out _).mono ?_;rintro e K ⟨rfl,rfl⟩)
   | (go_at_call 188;with_reducible refine(E.out _).mono ?_;rintro e K ⟨rfl,rfl⟩)
   | (go_at_call 190;with_reducible refine(B.out _).mono ?_;rintro e K ⟨rfl,rfl⟩)
   | (go_at_call 190;with_reducible refine(C.out _).mono ?_;rintro e K ⟨rfl,rfl⟩))
  go_loopg [17] 10 (fun g i L=>∃(j:Nat) (c:Array Value),i = .int .i64 j/\j+g=58/\Hid (Vc W c L))
  case atStart=>exact⟨48,arr,rfl,rfl,M⟩
  obtain⟨j,c,rfl,hj,a⟩:=hrel;by_cases u:j<=57
  ·have a0:(j:Int)<=57:=by omega
   have F:(j:Int)<256:=(by omega);obtain⟨S,T⟩:=a.out.set.cell j (by omega);have U:=a.out.set.fz;go_wp2
   go_roundg (gk-1)
   case measure=>omega
   exact⟨j+1,_,congrArg (Value.int .i64) (by omega),by omega,aA (a.out.put j true)⟩
  obtain rfl:j=58:=(by omega);go_wp2
  go_roundg 0
  case measure=>omega
  exact⟨c,.inr ⟨rfl,rfl,rfl⟩,a⟩
 have R:((93:Int) != 93)=false:=rfl
 go_wp2_with fail
 go_loopg [18] 256 (fun g i L=>∃(j:Nat) (c:Array Value),i = .int .i64 j/\j+g=256/\Hid (Vc W c L))
 case atStart=>exact⟨0,arr,rfl,rfl,M⟩
 obtain⟨j,c,rfl,hj,a⟩:=hrel;by_cases u:j<256
 ·have F:(j:Int)<256:=by omega
  obtain⟨S,T⟩:=a.out.set.cell j u;have U:=a.out.set.fz
  cases S with
  | true =>
    go_wp2
    go_roundg (gk-1)
    case measure=>omega
    exact⟨j+1,_,congrArg (Value.int .i64) (by omega),by omega,aA (a.out.put j true)⟩
  | false =>
    go_wp2
    go_roundg (gk-1)
    case measure=>omega
    exact⟨j+1,_,congrArg (Value.int .i64) (by omega),by omega,aA (a.out.put j false)⟩
 obtain rfl:j=256:=(by omega);have b:=aA a.out.set.hs;have r:=aA a.out.set.hb;have I:=FD (P:=prog) wr W.heap.size 230 _ _ c a.out.res (by rw[EB,b.out]) (by rw[Dv,b.out];simp) (LD b.out r.out);have J:=b.out
 go_wp2_with fail
 refine Hh (.agg c) (by
  have:=IJ (P:=prog) _ (W.heap.size+1) 230 _ c 256 4 a.out.set.row underlying230 (by rw[EB,b.out])
  simp[execOp,Act.eval,this,Result.andThen]) ?_
 go_wp2;obtain⟨y,z⟩:=GE (arr:=c) a.out.res;have t:Below W.heap.size W (wr.setRow W.heap.size c):=z.below_of a.out.bel (aC _) a.out.bel.size;generalize wr.setRow W.heap.size c=Z at y z t ⊢;clear I J;have hl:=run_loadVar_row (P:=prog) Z W.heap.size _ 230 c (0,0) _ y underlying230 rfl (by rw[EB,b.out]);exact bodyPost_ret (v:=.tuple #[.agg c,.int .i64 (A:Int),.bool true]) (by simp[results,results184,asAddr,Result.andThen,hl]) rfl ⟨c,rfl,b.out,r.out,t⟩
def QT (s:ByteArray) (F:Nat->Nat->Option (Rt×Nat)):Prop:=∀(o k:Nat) (t:Rt) (a b:Nat) (W:World),F o k=some (t,a)->Af W b (FR s k o)->Calls prog 177 #[.pointer (some ⟨b,0,none⟩)] W (Dk b s o t a W)
structure UW (s:ByteArray) (o b p:Nat) (W:World) (u:Rt) (y:Rw) (a:Option Addr) (c k:Nat) (w:World):Prop where
 rd:Af w b (FR s k o)
 res:Af w W.heap.size [.int .i64 0,.int .u64 0,.int .u64 0,.int .u64 0,.int .u64 0,.slice none 0 0]
 box:Af w p [.int .i64 u.kd,.int .u64 y.a,.int .u64 y.b,.int .u64 y.c,.int .u64 y.d,.slice a u.ks.length c]
 tr:Cs w (fun j=>W.heap.size<j/\j≠p) u.ks (.slice a u.ks.length c)
 z:u.kd≠1->y=⟨0,0,0,0⟩
 on:Ae b W w
 bW:b<W.heap.size
 pW:W.heap.size<p
section
variable {s:ByteArray} {o b p c k:Nat} {W w w':World} {u:Rt} {y:Rw} {a:Option Addr}
theorem UW.below (h:UW s o b p W u y a c k w) (d:Below w.heap.size w w'):UW s o b p W u y a c k w' :=
 ⟨h.rd.below (h.rd.lt _ rfl) d,h.res.below (h.res.lt _ rfl) d,h.box.below (h.box.lt _ rfl) d,h.tr.bel d,h.z,Cw h.on (d.mono h.on.size),h.bW,h.pW⟩
theorem UW.over (h:UW s o b p W u y a c k w) (q:Int) (x:Nat) :
  UW s o b p W (.mk q [u]) ⟨0,0,0,0⟩ (some ⟨w.heap.size,0,none⟩) 1 x
   (((((((w.alloc (.cells #[.int .i64 u.kd,.int .u64 y.a,.int .u64 y.b,.int .u64 y.c,.int .u64 y.d,.slice a u.ks.length c] 186)).setCell ⟨p,0,none⟩ (.int .i64 q)).setCell ⟨p,1,none⟩ (.int .u64 0)).setCell ⟨p,2,none⟩ (.int .u64 0)).setCell ⟨p,3,none⟩ (.int .u64 0)).setCell ⟨p,4,none⟩ (.int .u64 0)).setCell ⟨p,5,none⟩ (.slice (some ⟨w.heap.size,0,none⟩) 1 1) |>.setCell ⟨b,1,none⟩ (.int .i64 (x:Int))):=by
 have A:p<w.heap.size:=h.box.lt _ rfl;have e:=h.below (Ad w (.cells #[.int .i64 u.kd,.int .u64 y.a,.int .u64 y.b,.int .u64 y.c,.int .u64 y.d,.slice a u.ks.length c] 186))
 have t:Cs (w.alloc (.cells #[.int .i64 u.kd,.int .u64 y.a,.int .u64 y.b,.int .u64 y.c,.int .u64 y.d,.slice a u.ks.length c] 186)) (fun j=>W.heap.size<j/\j≠p) [u] (.slice (some ⟨w.heap.size,0,none⟩) 1 1) :=
  Cs.one u y _ _ ⟨by have:=h.pW;omega,by omega⟩ h.tr h.z
 generalize w.alloc (.cells #[.int .i64 u.kd,.int .u64 y.a,.int .u64 y.b,.int .u64 y.c,.int .u64 y.d,.slice a u.ks.length c] 186)=V at e t ⊢;generalize w.heap.size=n at t ⊢;have g:=Ae.set6 V p (.int .i64 q) (.int .u64 0) (.int .u64 0) (.int .u64 0) (.int .u64 0) (.slice (some ⟨n,0,none⟩) 1 1);have v:=e.box.set6 (.int .i64 q) (.int .u64 0) (.int .u64 0) (.int .u64 0) (.int .u64 0) (.slice (some ⟨n,0,none⟩) 1 1);generalize (((((V.setCell ⟨p,0,none⟩ (.int .i64 q)).setCell ⟨p,1,none⟩ (.int .u64 0)).setCell ⟨p,2,none⟩ (.int .u64 0)).setCell ⟨p,3,none⟩ (.int .u64 0)).setCell ⟨p,4,none⟩ (.int .u64 0)).setCell ⟨p,5,none⟩ (.slice (some ⟨n,0,none⟩) 1 1)=X at g v ⊢
 have l:=e.bW;have m:=e.pW;have f:Ae b X (X.setCell ⟨b,1,none⟩ (.int .i64 (x:Int))):=(Ae.refl b X).set 1 _;have r:=e.rd.only (e.rd.lt _ rfl) g (by omega);have i:=e.res.only (e.res.lt _ rfl) g (by omega);refine⟨r.set 1 _ _ rfl,i.only (i.lt _ rfl) f (by omega),v.only (v.lt _ rfl) f (by omega),(t.only g (fun h=>h.2 rfl)).only f (fun h=>by have:=h.1;omega),fun _=>rfl,?_,l,m⟩;exact DJ (Mp e.on g (by omega)) f
end
theorem P0 (s:ByteArray) (F:Nat->Nat->Option (Rt×Nat)) (hs:s.size<=100000) (hA:UU s F) (n:Nat):QT s (fun o k=>(F o k).bind fun p=>C6 s n p.1 p.2):=by
 intro o k t J b W hf hc;obtain⟨⟨B,k0⟩,h1,h2⟩:=aB.1 hf;dsimp only at h2;have d0:b<W.heap.size:=hc.lt _ rfl;obtain⟨V,hV⟩:∃V,V=W.alloc (.cells #[.int .i64 0,.int .u64 0,.int .u64 0,.int .u64 0,.int .u64 0,.slice none 0 0] 186):=⟨_,rfl⟩;have c0:Below W.heap.size W V:=by rw[hV];exact Ad W _
 have l0:Af V b (FR s k o):=hc.below d0 c0;have m0:Af V W.heap.size [.int .i64 0,.int .u64 0,.int .u64 0,.int .u64 0,.int .u64 0,.slice none 0 0]:=by rw[hV];exact Af.new W _ _
 have j1:Hid (Calls prog 180 #[.pointer (some ⟨b,0,none⟩)] V (Dk b s o B k0 V)):=hA o k B k0 b V h1 l0;have m1:=aA hV;have l1:=aA c0;have b0:=aA m0;have L:=aA d0;have j0:=aA h2;clear hf h1 h2 hA hc hV c0 l0 m0 d0
 go_in
 go_upto_region 1 with fail
 rw[<- m1.out]
 go_wp2_with fail
 (go_at_call 180;refine j1.out.mono ?_;rintro e w5 ⟨x,a,c,rfl,s0,v0,g0,e0⟩)
 have i0:=b0.out.only (b0.out.lt _ rfl) g0 (by have:=L.out;omega);have h0:W.heap.size<w5.heap.size:=i0.lt _ rfl;have E:=Ad w5 (.cells #[.int .i64 B.kd,.int .u64 x.a,.int .u64 x.b,.int .u64 x.c,.int .u64 x.d,.slice a B.ks.length c] 186);have a0:=Af.new w5 [.int .i64 B.kd,.int .u64 x.a,.int .u64 x.b,.int .u64 x.c,.int .u64 x.d,.slice a B.ks.length c] 186
 have M:Hid (UW s o b w5.heap.size W B x a c k0 (w5.alloc (.cells #[.int .i64 B.kd,.int .u64 x.a,.int .u64 x.b,.int .u64 x.c,.int .u64 x.d,.slice a B.ks.length c] 186))) :=
  ⟨e0.below (e0.lt _ rfl) E,i0.below h0 E,a0,(s0.mono (S':=fun j=>W.heap.size<j/\j≠w5.heap.size) fun j hj h=>⟨by have:=b0.out.lt _ rfl;omega,by omega⟩).bel E,v0,Cw (DJ (Ae.of_below b l1.out) g0) (E.mono (by omega)),L.out,h0⟩
 clear s0 v0 g0 e0 i0 h0 E a0
 go_upto_region 2 with fail
 generalize w5.alloc (.cells #[.int .i64 B.kd,.int .u64 x.a,.int .u64 x.b,.int .u64 x.c,.int .u64 x.d,.slice a B.ks.length c] 186)=X at M ⊢;generalize w5.heap.size=p at M ⊢
 go_loopg [] n (fun g wr=>∃(n2:Nat) (u:Rt) (y:Rw) (a:Option Addr) (c k:Nat),n2=g/\Hid (C6 s n2 u k=some (t,J))/\Hid (UW s o b p W u y a c k wr))
 case atStart=>exact⟨n,B,x,a,c,k0,rfl,j0,M⟩
 obtain⟨n2,u,y,a,c,k,rfl,HP,HQ⟩:=hrel;clear j0 M
 cases n2 with
 | zero=>have:=HP.out;unfold C6 at this;cases this
 | succ A =>
 have r0:=HQ.out.rd.c 0 _ rfl;have K:=HQ.out.rd.c 1 _ rfl;have r3:=HQ.out.rd.c 3 _ rfl;by_cases hk:k<s.size
 ·obtain⟨m,n0⟩:∃m,s[k].toNat=m:=⟨_,rfl⟩
  obtain⟨q,o0⟩:∃q,q=k+1:=⟨_,rfl⟩
  have l:Hid ((if m=42 then C6 s A (.mk 4 [u]) q else if m=43 then C6 s A (.mk 5 [u]) q else if m=63 then C6 s A (.mk 6 [u]) q else if m=123 then none else some (u,k))=some (t,J)):=by
   have:=HP.out;unfold C6 at this;rw[if_pos hk,F6 hk,n0,<- o0] at this;exact this
  have f0:(k:Int)<(s.size:Int):=(by omega);have w1:(k:Int)+1=(q:Int):=(by omega);have s1:(q:Int)<=100000:=(by omega);clear o0 HP
  go_upto_region 2 with fail
  go_quiet (fail)
  go_upto_region 3 with fail
  have r:Below wr.heap.size wr (wr.drewN nq):=⟨rfl,rfl,rfl,aC _,fun _ _=>rfl⟩;have I:=HQ.out.below r;generalize wr.drewN nq=U at I ⊢;clear r0 K r3 r HQ;have r0:=I.rd.c 0 _ rfl;have K:=I.rd.c 1 _ rfl;go_quiet (fail);have r:Below U.heap.size U (U.drewN nq):=⟨rfl,rfl,rfl,aC _,fun _ _=>rfl⟩;have f:=aA (I.below r);generalize U.drewN nq=Y at f ⊢;clear r0 K r I;by_cases N:m=42
  ·have C:Hid (C6 s A (.mk 4 [u]) q=some (t,J)):=by
    have:=l.out;rw[if_pos N] at this;exact this
   have H:=aA (f.out.over 4 q);subst N;have K:=f.out.rd.c 1 _ rfl;have Q:=f.out.box.c 0 _ rfl;have q1:=f.out.box.c 1 _ rfl;have R:=f.out.box.c 2 _ rfl;have S:=f.out.box.c 3 _ rfl;have T:=f.out.box.c 4 _ rfl;have Z:=f.out.box.c 5 _ rfl;have g1:=fun i=>A2 K i;have x0:=fun i=>A2 Q i;have a1:=fun i=>A2 q1 i;have b1:=fun i=>A2 R i;have c1:=fun i=>A2 S i;have d1:=fun i=>A2 T i;have e1:=fun i=>A2 Z i;have i1:=D7 f.out.rd;have f1:=D7 f.out.box;have G:b≠p:=by have:=f.out.bW;have:=f.out.pW;omega
   have p0:p≠b:=fun h=>G h.symm;go_wp2
   go_roundg A
   case measure=>omega
   exact⟨A,.mk 4 [u],⟨0,0,0,0⟩,_,1,q,rfl,C,H⟩
  have l:Hid ((if m=43 then C6 s A (.mk 5 [u]) q else if m=63 then C6 s A (.mk 6 [u]) q else if m=123 then none else some (u,k))=some (t,J)):=by
   have:=l.out;rw[if_neg N] at this;exact this
  by_cases O:m=43
  ·have C:Hid (C6 s A (.mk 5 [u]) q=some (t,J)):=by
    have:=l.out;rw[if_pos O] at this;exact this
   have H:=aA (f.out.over 5 q);subst O;have K:=f.out.rd.c 1 _ rfl;have Q:=f.out.box.c 0 _ rfl;have q1:=f.out.box.c 1 _ rfl;have R:=f.out.box.c 2 _ rfl;have S:=f.out.box.c 3 _ rfl;have T:=f.out.box.c 4 _ rfl;have Z:=f.out.box.c 5 _ rfl;have g1:=fun i=>A2 K i;have x0:=fun i=>A2 Q i;have a1:=fun i=>A2 q1 i;have b1:=fun i=>A2 R i;have c1:=fun i=>A2 S i;have d1:=fun i=>A2 T i;have e1:=fun i=>A2 Z i;have i1:=D7 f.out.rd;have f1:=D7 f.out.box;have G:b≠p:=by have:=f.out.bW;have:=f.out.pW;omega
   have p0:p≠b:=fun h=>G h.symm;go_wp2
   go_roundg A
   case measure=>omega
   exact⟨A,.mk 5 [u],⟨0,0,0,0⟩,_,1,q,rfl,C,H⟩
  have l:Hid ((if m=63 then C6 s A (.mk 6 [u]) q else if m=123 then none else some (u,k))=some (t,J)):=by
   have:=l.out;rw[if_neg O] at this;exact this
  by_cases P:m=63
  ·have C:Hid (C6 s A (.mk 6 [u]) q=some (t,J)):=by
    have:=l.out;rw[if_pos P] at this;exact this
   have H:=aA (f.out.over 6 q);subst P;have K:=f.out.rd.c 1 _ rfl;have Q:=f.out.box.c 0 _ rfl;have q1:=f.out.box.c 1 _ rfl;have R:=f.out.box.c 2 _ rfl;have S:=f.out.box.c 3 _ rfl;have T:=f.out.box.c 4 _ rfl;have Z:=f.out.box.c 5 _ rfl;have g1:=fun i=>A2 K i;have x0:=fun i=>A2 Q i;have a1:=fun i=>A2 q1 i;have b1:=fun i=>A2 R i;have c1:=fun i=>A2 S i;have d1:=fun i=>A2 T i;have e1:=fun i=>A2 Z i;have i1:=D7 f.out.rd;have f1:=D7 f.out.box;have G:b≠p:=by have:=f.out.bW;have:=f.out.pW;omega
   have p0:p≠b:=fun h=>G h.symm;go_wp2
   go_roundg A
   case measure=>omega
   exact⟨A,.mk 6 [u],⟨0,0,0,0⟩,_,1,q,rfl,C,H⟩
  have l:Hid ((if m=123 then none else some (u,k))=some (t,J)):=by
   have:=l.out;rw[if_neg P] at this;exact this
  by_cases D:m=123
  ·have:=l.out
   rw[if_pos D] at this;cases this
  have HE:Hid ((u,k)=(t,J)):=by
   have:=l.out;rw[if_neg D] at this;exact Option.some.inj this
  have n1:¬ (m:Int)=42:=(by omega);have o1:¬ (m:Int)=43:=(by omega);have p1:¬ (m:Int)=63:=(by omega);have w0:¬ (m:Int)=123:=(by omega);clear n0 N O P D l;generalize (m:Int)=ci at n1 o1 p1 w0 ⊢;obtain⟨rfl,rfl⟩:u=t/\k=J:=by have:=HE.out;injection this with h1 h2;exact⟨h1,h2⟩
  have Q:=f.out.box.c 0 _ rfl;have q1:=f.out.box.c 1 _ rfl;have R:=f.out.box.c 2 _ rfl;have S:=f.out.box.c 3 _ rfl;have T:=f.out.box.c 4 _ rfl;have Z:=f.out.box.c 5 _ rfl;have z0:=f.out.res.c 0 _ rfl;have z1:=f.out.res.c 1 _ rfl;have z2:=f.out.res.c 2 _ rfl;have z3:=f.out.res.c 3 _ rfl;have z4:=f.out.res.c 4 _ rfl;have z5:=f.out.res.c 5 _ rfl;have zf:=f.out.res.fz;go_wp2;have w:=f.out.res.set6 (.int .i64 u.kd) (.int .u64 y.a) (.int .u64 y.b) (.int .u64 y.c) (.int .u64 y.d) (.slice a u.ks.length c);have ho:=Ae.set6 Y W.heap.size (.int .i64 u.kd) (.int .u64 y.a) (.int .u64 y.b) (.int .u64 y.c) (.int .u64 y.d) (.slice a u.ks.length c)
  generalize ((((((Y.setCell ⟨W.heap.size,0,none⟩ (.int .i64 u.kd)).setCell ⟨W.heap.size,1,none⟩ (.int .u64 y.a)).setCell ⟨W.heap.size,2,none⟩ (.int .u64 y.b)).setCell ⟨W.heap.size,3,none⟩ (.int .u64 y.c)).setCell ⟨W.heap.size,4,none⟩ (.int .u64 y.d)).setCell ⟨W.heap.size,5,none⟩ (.slice a u.ks.length c))=Z2 at w ho ⊢;have y0:=w.c 0 _ rfl;have y1:=w.c 1 _ rfl;have y2:=w.c 2 _ rfl;have y3:=w.c 3 _ rfl;have y4:=w.c 4 _ rfl;have y5:=w.c 5 _ rfl;clear w Q q1 R S T Z z0 z1 z2 z3 z4 z5 zf;exact bodyPost_ret (v:=.agg #[.int .i64 u.kd,.int .u64 y.a,.int .u64 y.b,.int .u64 y.c,.int .u64 y.d,.slice a u.ks.length c]) (by simp[results,results177,go_sem,y0,y1,y2,y3,y4,y5]<;>exact rfl) rfl (Ej f.out.rd f.out.on L.out rfl u y a c (f.out.tr.mono fun j _ h=>h.1) f.out.z ho)
 have f0:¬ (k:Int)<(s.size:Int):=(by omega);have v1:decide ((k:Int)<(s.size:Int))=false:=decide_eq_false f0;have t1:decide (k<s.size)=false:=decide_eq_false hk
 have HE:Hid (u=t/\k=J):=by
  have:=HP.out;unfold C6 at this;rw[if_neg hk] at this;injection this with h;injection h with h1 h2;exact⟨h1,h2⟩
 obtain⟨rfl,rfl⟩:=HE.out;clear HP HE f0
 go_upto_region 2 with fail
 go_quiet (fail);have r:Below wr.heap.size wr (wr.drewN nq):=⟨rfl,rfl,rfl,aC _,fun _ _=>rfl⟩;have f:=aA (HQ.out.below r);generalize wr.drewN nq=Y at f ⊢;clear r0 K r3 r HQ;have Q:=f.out.box.c 0 _ rfl;have q1:=f.out.box.c 1 _ rfl;have R:=f.out.box.c 2 _ rfl;have S:=f.out.box.c 3 _ rfl;have T:=f.out.box.c 4 _ rfl;have Z:=f.out.box.c 5 _ rfl;have z0:=f.out.res.c 0 _ rfl;have z1:=f.out.res.c 1 _ rfl;have z2:=f.out.res.c 2 _ rfl;have z3:=f.out.res.c 3 _ rfl;have z4:=f.out.res.c 4 _ rfl;have z5:=f.out.res.c 5 _ rfl;have zf:=f.out.res.fz;go_wp2;have w:=f.out.res.set6 (.int .i64 u.kd) (.int .u64 y.a) (.int .u64 y.b) (.int .u64 y.c) (.int .u64 y.d) (.slice a u.ks.length c)
 have ho:=Ae.set6 Y W.heap.size (.int .i64 u.kd) (.int .u64 y.a) (.int .u64 y.b) (.int .u64 y.c) (.int .u64 y.d) (.slice a u.ks.length c);generalize ((((((Y.setCell ⟨W.heap.size,0,none⟩ (.int .i64 u.kd)).setCell ⟨W.heap.size,1,none⟩ (.int .u64 y.a)).setCell ⟨W.heap.size,2,none⟩ (.int .u64 y.b)).setCell ⟨W.heap.size,3,none⟩ (.int .u64 y.c)).setCell ⟨W.heap.size,4,none⟩ (.int .u64 y.d)).setCell ⟨W.heap.size,5,none⟩ (.slice a u.ks.length c))=Z2 at w ho ⊢;have y0:=w.c 0 _ rfl;have y1:=w.c 1 _ rfl;have y2:=w.c 2 _ rfl;have y3:=w.c 3 _ rfl;have y4:=w.c 4 _ rfl;have y5:=w.c 5 _ rfl;clear w Q q1 R S T Z z0 z1 z2 z3 z4 z5 zf;exact bodyPost_ret (v:=.agg #[.int .i64 u.kd,.int .u64 y.a,.int .u64 y.b,.int .u64 y.c,.int .u64 y.d,.slice a u.ks.length c]) (by simp[results,results177,go_sem,y0,y1,y2,y3,y4,y5]<;>exact rfl) rfl (Ej f.out.rd f.out.on L.out rfl u y a c (f.out.tr.mono fun j _ h=>h.1) f.out.z ho)
theorem A.infoRe:(prog.info? 186).map (fun i=>(i.zero,i.size,i.bytes))=some (some (.agg #[.int .i64 0,.int .u64 0,.int .u64 0,.int .u64 0,.int .u64 0,.slice none 0 0]),6,64):=by kernel_rfl
theorem KX (s:ByteArray) (k c:Nat) (a:c<256):TL s k c=decide (Cf s k=c):=by
 unfold TL Cf;by_cases h:k<s.size
 ·rw[dif_pos h,dif_pos h]
  by_cases e:s[k].toNat=c
  ·simp[e]
  rw[decide_eq_false e];exact beq_eq_false_iff_ne.2 (by omega)
 rw[dif_neg h,dif_neg h];exact(decide_eq_false (by omega)).symm
structure JC (s:ByteArray) (o b:Nat) (W:World) (L:List (Rt×Rw×Value)) (v:Value) (k:Nat) (w:World):Prop where
 rd:Af w b (FR s k o)
 res:Af w W.heap.size [.int .i64 0,.int .u64 0,.int .u64 0,.int .u64 0,.int .u64 0,.slice none 0 0]
 row:Ln 186 (W.heap.size+1) L v w
 on:Ae b W w
 bW:b<W.heap.size
section
variable {s:ByteArray} {o b k:Nat} {W w w':World} {L:List (Rt×Rw×Value)} {v v':Value}
theorem JC.below (h:JC s o b W L v k w) (a:Below w.heap.size w w'):JC s o b W L v k w' :=
 ⟨h.rd.below (h.rd.lt _ rfl) a,h.res.below (h.res.lt _ rfl) a,h.row.below a,Cw h.on (a.mono h.on.size),h.bW⟩
theorem JC.at (h:JC s o b W L v k w) (c:Nat):JC s o b W L v c (w.setCell ⟨b,1,none⟩ (.int .i64 (c:Int))):=by
 have a:Ae b w (w.setCell ⟨b,1,none⟩ (.int .i64 (c:Int))):=(Ae.refl b w).set 1 _;exact⟨h.rd.set 1 _ _ rfl,h.res.only (h.res.lt _ rfl) a (by have:=h.bW;omega),h.row.only a (by have:=h.bW;omega),DJ h.on a,h.bW⟩
theorem JC.size (h:JC s o b W L v k w):W.heap.size+1<=w.heap.size:=h.res.lt _ rfl
theorem JC.step {c:Nat} (h:JC s o b W L v k w) (a:Ae b w w') (d:Af w' b (FR s c o)):JC s o b W L v c w' :=
 ⟨d,h.res.only (h.res.lt _ rfl) a (by have:=h.bW;omega),h.row.only a (by have:=h.bW;omega),DJ h.on a,h.bW⟩
theorem JC.add {p:Rt×Rw×Value} {f:Nat} (h:JC s o b W L v k w) (l:W.heap.size+1<=f) (z:∀g,v.ownBlock=some g->g<f) (x:Cs w (fun j=>f<=j) p.1.ks p.2.2) (A:p.1.kd≠1->p.2.1=⟨0,0,0,0⟩) {d:Obj}
  (n:w'.ownsRow (W.heap.size+1) 186 6 v' (L.length+1) (Bm L++Bm [p])) (c:(w.alloc d).grownBy w' v.ownBlock) (r:v'.ownBlock=v.ownBlock\/v'.ownBlock=some (w.alloc d).heap.size) :
  JC s o b W (L++[p]) v' k w':=by
 have y:(w.alloc d).heap.size=w.heap.size+1:=(by simp);have ha:=h.below (Ad w d);have a:∀q,q<W.heap.size+1->w'.heap[q]?=(w.alloc d).heap[q]?:=fun q B=>c.block q (by have:=h.size;omega) (fun e=>by have:=(h.row.lt q e.symm).1;omega);refine⟨ha.rd.kept (a b (by have:=h.bW;omega)),ha.res.kept (a _ (by omega)),h.row.add (x.mono fun j _ u=>⟨Nat.le_trans l u,fun e=>by have:=z j e.symm;omega⟩) A n c r,?_,h.bW⟩;refine⟨c.os.trans ha.on.os,c.tape.trans ha.on.tape,c.output.trans ha.on.output,Nat.le_trans ha.on.size c.size,fun i t m=>?_⟩;exact(a i (by omega)).trans (ha.on.block i t m)
theorem JC.one {V:World} {t:Rt} {x:Rw} {a:Option Addr} {c n:Nat} (g:b<W.heap.size) (q:V.heap.size=W.heap.size+1) (p:Below W.heap.size W V) (e:Af V W.heap.size [.int .i64 0,.int .u64 0,.int .u64 0,.int .u64 0,.int .u64 0,.slice none 0 0])
  (r:Cs w (fun j=>V.heap.size<=j) t.ks (.slice a t.ks.length c)) (u:t.kd≠1->x=⟨0,0,0,0⟩) (i:Ae b V w) (m:Af w b (FR s n o)) :
  JC s o b W [(t,x,.slice a t.ks.length c)] (.slice (some ⟨w.heap.size,0,none⟩) 1 1) n (w.alloc (.cells #[.int .i64 t.kd,.int .u64 x.a,.int .u64 x.b,.int .u64 x.c,.int .u64 x.d,.slice a t.ks.length c] 186)):=by
 have k:W.heap.size+1<=w.heap.size:=by have:=i.size;omega
 have f:=Ad w (.cells #[.int .i64 t.kd,.int .u64 x.a,.int .u64 x.b,.int .u64 x.c,.int .u64 x.d,.slice a t.ks.length c] 186);have l:=e.only (e.lt _ rfl) i (by omega);refine⟨m.below (m.lt _ rfl) f,l.below (l.lt _ rfl) f,Ln.one t x _ (r.mono fun j _ h=>by omega) u k,Cw (DJ (Ae.of_below b p) i) (f.mono (by omega)),g⟩
theorem JC.rowC (h:JC s o b W L v k w) (n:0<L.length) (F:L.length<=1000000) (q:Int) (f:World) (I:Below w.heap.size w f):∃g cap,v = .slice (some ⟨g,0,none⟩) L.length cap /\
  Calls prog 172 #[.int .i64 q,.slice (some ⟨g,0,none⟩) L.length cap] f fun e w'=>∃(x:Rw) (a:Option Addr) (c:Nat),e = .returned (.agg #[.int .i64 (DL q (L.map aE)).kd,.int .u64 x.a,.int .u64 x.b,.int .u64 x.c,.int .u64 x.d,.slice a (DL q (L.map aE)).ks.length c]) /\
   Cs w' (fun j=>W.heap.size<j) (DL q (L.map aE)).ks (.slice a (DL q (L.map aE)).ks.length c)/\((DL q (L.map aE)).kd≠1->x=⟨0,0,0,0⟩)/\Below f.heap.size f w':=by
 have i:=h.below I;obtain⟨g,cap,H,N,_,D,E⟩:=i.row.cells n;refine⟨g,cap,H,(Ub q L g cap f n F D i.row.z (fun j=>W.heap.size+1<=j/\j<f.heap.size) (fun j l=>l.2) (fun p G=>(E p G).mono fun j l B=>⟨B,l⟩)).mono ?_⟩;rintro e w' ⟨x,a,m,c,rfl,r,J,C⟩;obtain⟨K,M,t⟩:=r.slice;injection t with u y A;subst u y A;exact⟨x,a,c,rfl,r.mono fun j _ h=>h.elim (fun h=>by omega) (fun h=>by have:=i.size;omega),J,C⟩
end
def VW (s:ByteArray) (F:Nat->Nat->Option (Rt×Nat)):Prop:=∀(o k:Nat) (t:Rt) (a b:Nat) (W:World),F o k=some (t,a)->Af W b (FR s k o)->Calls prog 170 #[.pointer (some ⟨b,0,none⟩)] W (Dk b s o t a W)
theorem TA (s:ByteArray) (F:Nat->Nat->Option (Rt×Nat)) (hA:QT s F) (n:Nat) (hn:n<=1000) :
  VW s (fun o k=>(F o k).bind fun p=>(I5 (F o) s n [p.1] p.2).bind fun q=>some (DL 2 q.1,q.2)):=by
 intro o k t U b W hf hc;obtain⟨⟨t0,k0⟩,Z,h2⟩:=aB.1 hf;obtain⟨⟨M,kM⟩,h3,h4⟩:=aB.1 h2;dsimp only at h3 h4;have S:b<W.heap.size:=hc.lt _ rfl;obtain⟨V,hV⟩:∃V,V=W.alloc (.cells #[.int .i64 0,.int .u64 0,.int .u64 0,.int .u64 0,.int .u64 0,.slice none 0 0] 186):=⟨_,rfl⟩;have Q:Below W.heap.size W V:=by rw[hV];exact Ad W _
 have n0:V.heap.size=W.heap.size+1:=by rw[hV];simp
 have h0:Af V b (FR s k o):=hc.below S Q;have j0:Af V W.heap.size [.int .i64 0,.int .u64 0,.int .u64 0,.int .u64 0,.int .u64 0,.slice none 0 0]:=by rw[hV];exact Af.new W _ _
 have a0:Hid (Calls prog 177 #[.pointer (some ⟨b,0,none⟩)] V (Dk b s o t0 k0 V)):=hA o k t0 k0 b V Z h0;have b1:Hid (∀k t U W,F o k=some (t,U)->Af W b (FR s k o)->Calls prog 177 #[.pointer (some ⟨b,0,none⟩)] W (Dk b s o t U W)):=fun k t U W=>hA o k t U b W;obtain⟨i0,m1,n1,p1,q1⟩:=info_parts A.infoRe;have g1:=aA hV;have i1:=aA n0;have c1:=aA Q;have d1:=aA j0;have b0:=aA S;have c0:=aA h3;have HM:Hid (some (DL 2 M,kM)=some (t,U)):=h4;clear hf Z h2 h3 h4 hA hc hV Q h0 j0 S n0
 go_in
 go_upto_region 1 with fail
 rw[<- g1.out]
 go_wp2_with fail
 (go_at_call 177;refine a0.out.mono ?_;rintro e w5 ⟨x,a,c,rfl,x0,a1,v0,q0⟩)
 have G:=aA (JC.one b0.out i1.out c1.out d1.out x0 a1 v0 q0);clear x0 a1 v0 q0
 go_upto_region 2 with fail
 generalize w5.alloc (.cells #[.int .i64 t0.kd,.int .u64 x.a,.int .u64 x.b,.int .u64 x.c,.int .u64 x.d,.slice a t0.ks.length c] 186)=X at G ⊢;generalize w5.heap.size=p at G ⊢
 go_loopg [3] n (fun g v wr=>∃(n2:Nat) (L:List (Rt×Rw×Value)) (ga:Nat) (cap k:Nat),n2=g/\v = .slice (some ⟨ga,0,none⟩) L.length cap/\L.length+n2=n+1/\0<L.length/\Hid (I5 (F o) s n2 (L.map aE) k=some (M,kM))/\Hid (JC s o b W L (.slice (some ⟨ga,0,none⟩) L.length cap) k wr))
 case atStart=>exact⟨n,[(t0,x,.slice a t0.ks.length c)],p,1,k0,rfl,rfl,by simp;omega,by simp,c0,G⟩
 obtain⟨n2,L,ga,cap,k,rfl,rfl,w1,j1,HP,HQ⟩:=hrel;clear c0 G a0
 cases n2 with
 | zero=>have:=HP.out;unfold I5 at this;cases this
 | succ n' =>
 have r0:=HQ.out.rd.c 0 _ rfl;have r1:=HQ.out.rd.c 1 _ rfl;have r3:=HQ.out.rd.c 3 _ rfl;obtain⟨J,p0⟩:∃J:Bool,J=decide (k<s.size/\Cf s k≠124/\Cf s k≠41):=⟨_,rfl⟩
 have i:Hid (∀m,Calls prog 171 #[.pointer (some ⟨b,0,none⟩),.int .u8 124] (wr.drewN m) fun e w'=>e = .returned (.bool (decide (Cf s k=124)))/\∃n,w'=(wr.drewN m).drewN n):=fun m=>by
  have w:Below wr.heap.size wr (wr.drewN m):=⟨rfl,rfl,rfl,aC _,fun _ _=>rfl⟩;have:=K0 s k 124 b (wr.drewN m) (Aa r0 w) (Aa r1 w);rw[KX s k 124 (by omega)] at this;exact this
 have B:Hid (∀m,Calls prog 171 #[.pointer (some ⟨b,0,none⟩),.int .u8 41] (wr.drewN m) fun e w'=>e = .returned (.bool (decide (Cf s k=41)))/\∃n,w'=(wr.drewN m).drewN n):=fun m=>by
  have w:Below wr.heap.size wr (wr.drewN m):=⟨rfl,rfl,rfl,aC _,fun _ _=>rfl⟩;have:=K0 s k 41 b (wr.drewN m) (Aa r0 w) (Aa r1 w);rw[KX s k 41 (by omega)] at this;exact this
 have j:=aA p0;clear p0
 go_upto_region 2 with fail
 go_cut [33] (fun v wx=>v = .bool J/\∃m,wx=wr.drewN m)
 case first =>
  by_cases hk:k<s.size
  ·have a2:(k:Int)<(s.size:Int):=by omega
   by_cases z:Cf s k=124
   ·have y:J=false:=by rw[j.out];exact decide_eq_false (fun h=>h.2.1 z)
    subst y;rw[decide_eq_true z] at i
    go_quiet (first
     | (go_at_call 171;with_reducible exact aD (i.out _))
     | (go_at_call 171;with_reducible exact aD (B.out _)))
    go_wp2;go_meet;exact⟨rfl,_,rfl⟩
   rw[decide_eq_false z] at i;by_cases H:Cf s k=41
   ·have y:J=false:=by rw[j.out];exact decide_eq_false (fun h=>h.2.2 H)
    subst y;rw[decide_eq_true H] at B
    go_quiet (first
     | (go_at_call 171;with_reducible exact aD (i.out _))
     | (go_at_call 171;with_reducible exact aD (B.out _)))
    go_wp2;go_meet;exact⟨rfl,_,rfl⟩
   have y:J=true:=by rw[j.out];exact decide_eq_true ⟨hk,z,H⟩
   subst y;rw[decide_eq_false H] at B
   go_quiet (first
    | (go_at_call 171;with_reducible exact aD (i.out _))
    | (go_at_call 171;with_reducible exact aD (B.out _)))
   go_wp2;go_meet;exact⟨rfl,_,rfl⟩
  have x1:decide ((k:Int)<(s.size:Int))=false:=decide_eq_false (by omega);have t1:decide (k<s.size)=false:=decide_eq_false hk;have y:J=false:=by rw[j.out];exact decide_eq_false (fun h=>hk h.1)
  subst y;go_quiet (fail);go_wp2;go_meet;exact⟨rfl,_,rfl⟩
 obtain⟨rfl,m,rfl⟩:=hcut
 apply_assumption
 have w:Below wr.heap.size wr (wr.drewN m):=⟨rfl,rfl,rfl,aC _,fun _ _=>rfl⟩;have r:=aA (HQ.out.below w);clear HQ i B r0 r1 r3 w;generalize wr.drewN m=Y at r ⊢
 cases J with
 | true =>
   have f:k<s.size/\Cf s k≠124/\Cf s k≠41:=of_decide_eq_true j.out.symm;have l:=HP.out;unfold I5 at l;rw[if_pos f] at l;obtain⟨⟨u,k1⟩,hu,hM⟩:=aB.1 l;dsimp only at hM;have d0:Hid (Calls prog 177 #[.pointer (some ⟨b,0,none⟩)] Y (Dk b s o u k1 Y)):=b1.out k u k1 Y hu r.out.rd;have f1:=aA hM;clear l hu hM HP f
   go_wp2_with fail
   (go_at_call 177;refine d0.out.mono ?_;rintro e w6 ⟨x,a,c,rfl,D,E,w0,s0⟩)
   have N:=aA (r.out.step w0 s0);have O:=aA D;have P:=aA E;have f0:Hid (W.heap.size+1<=Y.heap.size/\∀g,(Value.slice (some ⟨ga,0,none⟩) L.length cap).ownBlock=some g->g<Y.heap.size):=⟨r.out.size,fun g hg=>(r.out.row.lt g hg).2⟩;clear D E w0 s0 d0 r;have v1:L.length<=1001:=by omega
   go_wp2_with (at_builtin;refine Bg _ rfl (.tmp 34) (.tmp 37) 184 rfl (W.heap.size+1) 186 i0 _ 6 64 underlying184 m1 n1 p1 q1 rfl (by decide) _ _ _ rfl (N.out.below (Ad w6 _)).row.row ⟨w6.heap.size,0,none⟩ 1 1 (Bm [(u,x,.slice a u.ks.length c)]) rfl rfl (IR _ _ _ _ _) (IT _ _ _ _ _) (by unfold maxLen;omega) (by omega) (by have:=N.out.size;simp;omega) (by decide) ?_;intro v5 w7 o1 o2 o3;have T:=N.out.add (p:=(u,x,.slice a u.ks.length c)) f0.out.1 f0.out.2 O.out P.out o1 o2 o3;obtain⟨g7,g0,rfl,_⟩:=T.row.cells (by simp);have HG:=aA T;clear o1 o2 o3 T)
   go_roundg n'
   case measure=>omega
   exact⟨n',L++[(u,x,.slice a u.ks.length c)],g7,g0,k1,rfl,by rw[List.length_append];rfl,by simp;omega,by simp,(show Hid _ from by have:=f1.out;unfold Hid;rw[List.map_append];exact this),HG⟩
 | false =>
   have f:¬ (k<s.size/\Cf s k≠124/\Cf s k≠41):=of_decide_eq_false j.out.symm;have l:=HP.out;unfold I5 at l;rw[if_neg f] at l;obtain⟨l0,m0⟩:L.map aE=M/\k=kM:=by injection l with h;injection h with Z h2;exact⟨Z,h2⟩
   have R:=HM.out;rw[<- l0,<- m0] at R;obtain⟨hT,hK⟩:DL 2 (L.map aE)=t/\k=U:=by injection R with h;injection h with Z h2;exact⟨Z,h2⟩
   obtain⟨g2,s1,l1,C⟩:=r.out.rowC j1 (by omega) 2 Y (Below.refl _ _);injection l1 with e1 e2 e3;injection e1 with e1;injection e1 with e1;subst e1 e3;rw[hT] at C;subst hK;have e0:=aA C;clear l l0 m0 R HP f C HM e2 hT
   go_wp2_with fail
   (go_at_call 172;refine e0.out.mono ?_;rintro e w6 ⟨x,a,c,rfl,D,E,o0⟩)
   have I:=r.out.below o0;have z0:=I.res.c 0 _ rfl;have z1:=I.res.c 1 _ rfl;have z2:=I.res.c 2 _ rfl;have z3:=I.res.c 3 _ rfl;have z4:=I.res.c 4 _ rfl;have z5:=I.res.c 5 _ rfl;have zf:=I.res.fz;have H6:=aA I;have O:=aA D;have P:=aA E;clear I D E o0;go_wp2;have K:=H6.out.res.set6 (.int .i64 t.kd) (.int .u64 x.a) (.int .u64 x.b) (.int .u64 x.c) (.int .u64 x.d) (.slice a t.ks.length c);have ho:=Ae.set6 w6 W.heap.size (.int .i64 t.kd) (.int .u64 x.a) (.int .u64 x.b) (.int .u64 x.c) (.int .u64 x.d) (.slice a t.ks.length c);generalize ((((((w6.setCell ⟨W.heap.size,0,none⟩ (.int .i64 t.kd)).setCell ⟨W.heap.size,1,none⟩ (.int .u64 x.a)).setCell ⟨W.heap.size,2,none⟩ (.int .u64 x.b)).setCell ⟨W.heap.size,3,none⟩ (.int .u64 x.c)).setCell ⟨W.heap.size,4,none⟩ (.int .u64 x.d)).setCell ⟨W.heap.size,5,none⟩ (.slice a t.ks.length c))=Z2 at K ho ⊢
   have y0:=K.c 0 _ rfl;have y1:=K.c 1 _ rfl;have y2:=K.c 2 _ rfl;have y3:=K.c 3 _ rfl;have y4:=K.c 4 _ rfl;have y5:=K.c 5 _ rfl;clear K z0 z1 z2 z3 z4 z5 zf;exact bodyPost_ret (v:=.agg #[.int .i64 t.kd,.int .u64 x.a,.int .u64 x.b,.int .u64 x.c,.int .u64 x.d,.slice a t.ks.length c]) (by simp[results,results170,go_sem,y0,y1,y2,y3,y4,y5]<;>exact rfl) rfl (Ej H6.out.rd H6.out.on b0.out rfl t x a c O.out P.out ho)
theorem Tq (s:ByteArray) (F:Nat->Nat->Option (Rt×Nat)) (hs:s.size<=100000) (hA:VW s F) (n:Nat) (hn:n<=1000) :
  Tm s (fun o k=>(F o k).bind fun p=>(I4 (F o) s n [p.1] p.2).bind fun q=>some (DL 3 q.1,q.2)):=by
 intro o k t Q b W hf hc;obtain⟨⟨U,k0⟩,S,T⟩:=aB.1 hf;obtain⟨⟨M,kM⟩,h3,h4⟩:=aB.1 T;dsimp only at h3 h4;have N:b<W.heap.size:=hc.lt _ rfl;obtain⟨V,hV⟩:∃V,V=W.alloc (.cells #[.int .i64 0,.int .u64 0,.int .u64 0,.int .u64 0,.int .u64 0,.slice none 0 0] 186):=⟨_,rfl⟩;have J:Below W.heap.size W V:=by rw[hV];exact Ad W _
 have m0:V.heap.size=W.heap.size+1:=by rw[hV];simp
 have g0:Af V b (FR s k o):=hc.below N J;have h0:Af V W.heap.size [.int .i64 0,.int .u64 0,.int .u64 0,.int .u64 0,.int .u64 0,.slice none 0 0]:=by rw[hV];exact Af.new W _ _
 have Z:Hid (Calls prog 170 #[.pointer (some ⟨b,0,none⟩)] V (Dk b s o U k0 V)):=hA o k U k0 b V S g0;have b1:Hid (∀k t Q W,F o k=some (t,Q)->Af W b (FR s k o)->Calls prog 170 #[.pointer (some ⟨b,0,none⟩)] W (Dk b s o t Q W)):=fun k t Q W=>hA o k t Q b W;obtain⟨i0,m1,p1,q1,s1⟩:=info_parts A.infoRe;have g1:=aA hV;have i1:=aA m0;have c1:=aA J;have d1:=aA h0;have a0:=aA N;have b0:=aA h3;have HM:Hid (some (DL 3 M,kM)=some (t,Q)):=h4;clear hf S T h3 h4 hA hc hV J g0 h0 N m0
 go_in
 go_upto_region 1 with fail
 rw[<- g1.out]
 go_wp2_with fail
 (go_at_call 170;refine Z.out.mono ?_;rintro e w5 ⟨x,a,c,rfl,x0,a1,v0,p0⟩)
 have z:=aA (JC.one a0.out i1.out c1.out d1.out x0 a1 v0 p0);clear x0 a1 v0 p0
 go_upto_region 2 with fail
 generalize w5.alloc (.cells #[.int .i64 U.kd,.int .u64 x.a,.int .u64 x.b,.int .u64 x.c,.int .u64 x.d,.slice a U.ks.length c] 186)=X at z ⊢;generalize w5.heap.size=p at z ⊢
 go_loopg [3] n (fun g v wr=>∃(n2:Nat) (L:List (Rt×Rw×Value)) (ga:Nat) (cap k:Nat),n2=g/\v = .slice (some ⟨ga,0,none⟩) L.length cap/\L.length+n2=n+1/\0<L.length/\Hid (I4 (F o) s n2 (L.map aE) k=some (M,kM))/\Hid (JC s o b W L (.slice (some ⟨ga,0,none⟩) L.length cap) k wr))
 case atStart=>exact⟨n,[(U,x,.slice a U.ks.length c)],p,1,k0,rfl,rfl,by simp;omega,by simp,b0,z⟩
 obtain⟨n2,L,ga,cap,k,rfl,rfl,x1,j1,HP,HQ⟩:=hrel;clear b0 z Z
 cases n2 with
 | zero=>have:=HP.out;unfold I4 at this;cases this
 | succ n' =>
 have r0:=HQ.out.rd.c 0 _ rfl;have r1:=HQ.out.rd.c 1 _ rfl;have r3:=HQ.out.rd.c 3 _ rfl;obtain⟨bb,O⟩:∃bb:Bool,bb=decide (Cf s k=124):=⟨_,rfl⟩
 have C:Hid (Calls prog 171 #[.pointer (some ⟨b,0,none⟩),.int .u8 124] wr fun e w'=>e = .returned (.bool bb)/\∃n,w'=wr.drewN n):=by
  have:=K0 s k 124 b wr r0 r1;rw[KX s k 124 (by omega),<- O] at this;exact this
 have D:=aA O;clear O
 go_wp2_with fail
 (go_at_call 171;refine C.out.mono ?_;rintro e w9 ⟨rfl,m,rfl⟩)
 have o0:Below wr.heap.size wr (wr.drewN m):=⟨rfl,rfl,rfl,aC _,fun _ _=>rfl⟩;have j:=aA (HQ.out.below o0);clear HQ C r0 r1 r3 o0;generalize wr.drewN m=Y at j ⊢
 cases bb with
 | true =>
   have f:Cf s k=124:=of_decide_eq_true D.out.symm;have n1:k<s.size:=Ot (by omega);obtain⟨R,s0⟩:∃R,R=k+1:=⟨_,rfl⟩;have a2:(k:Int)+1=(R:Int):=(by omega);have v1:(R:Int)<=100000:=(by omega);have i:=HP.out;unfold I4 at i;rw[if_pos f,<- s0] at i;obtain⟨⟨u,k1⟩,hu,hM⟩:=aB.1 i;dsimp only at hM;have l:=aA (j.out.at R);have r1:=j.out.rd.c 1 _ rfl;have rf:=j.out.rd.fz;clear j s0 n1
   go_upto_region 4 with fail
   clear r1 rf;generalize Y.setCell ⟨b,1,none⟩ (.int .i64 (R:Int))=Y9 at l ⊢;have c0:Hid (Calls prog 170 #[.pointer (some ⟨b,0,none⟩)] Y9 (Dk b s o u k1 Y9)):=b1.out R u k1 Y9 hu l.out.rd;have f1:=aA hM;clear i hu hM HP f
   go_wp2_with fail
   (go_at_call 170;refine c0.out.mono ?_;rintro e w6 ⟨x,a,c,rfl,w,y,w0,q0⟩)
   have G:=aA (l.out.step w0 q0);have H:=aA w;have I:=aA y;have e0:Hid (W.heap.size+1<=Y9.heap.size/\∀g,(Value.slice (some ⟨ga,0,none⟩) L.length cap).ownBlock=some g->g<Y9.heap.size):=⟨l.out.size,fun g hg=>(l.out.row.lt g hg).2⟩;clear w y w0 q0 c0 l;have w1:L.length<=1001:=by omega
   go_wp2_with (at_builtin;refine Bg _ rfl (.tmp 23) (.tmp 26) 184 rfl (W.heap.size+1) 186 i0 _ 6 64 underlying184 m1 p1 q1 s1 rfl (by decide) _ _ _ rfl (G.out.below (Ad w6 _)).row.row ⟨w6.heap.size,0,none⟩ 1 1 (Bm [(u,x,.slice a u.ks.length c)]) rfl rfl (IR _ _ _ _ _) (IT _ _ _ _ _) (by unfold maxLen;omega) (by omega) (by have:=G.out.size;simp;omega) (by decide) ?_;intro v5 w7 o1 o2 o3;have P:=G.out.add (p:=(u,x,.slice a u.ks.length c)) e0.out.1 e0.out.2 H.out I.out o1 o2 o3;obtain⟨g7,f0,rfl,_⟩:=P.row.cells (by simp);have HG:=aA P;clear o1 o2 o3 P)
   go_roundg n'
   case measure=>omega
   exact⟨n',L++[(u,x,.slice a u.ks.length c)],g7,f0,k1,rfl,by rw[List.length_append];rfl,by simp;omega,by simp,(show Hid _ from by have:=f1.out;unfold Hid;rw[List.map_append];exact this),HG⟩
 | false =>
   have f:¬ Cf s k=124:=of_decide_eq_false D.out.symm;have i:=HP.out;unfold I4 at i;rw[if_neg f] at i;obtain⟨j0,l0⟩:L.map aE=M/\k=kM:=by injection i with h;injection h with S T;exact⟨S,T⟩
   have K:=HM.out;rw[<- j0,<- l0] at K;obtain⟨hT,hK⟩:DL 3 (L.map aE)=t/\k=Q:=by injection K with h;injection h with S T;exact⟨S,T⟩
   obtain⟨g2,t1,l1,r⟩:=j.out.rowC j1 (by omega) 3 Y (Below.refl _ _);injection l1 with e1 e2 e3;injection e1 with e1;injection e1 with e1;subst e1 e3;rw[hT] at r;subst hK;have d0:=aA r;clear i j0 l0 K HP f r HM e2 hT
   go_wp2_with fail
   (go_at_call 172;refine d0.out.mono ?_;rintro e w6 ⟨x,a,c,rfl,w,y,n0⟩)
   have B:=j.out.below n0;have z0:=B.res.c 0 _ rfl;have z1:=B.res.c 1 _ rfl;have z2:=B.res.c 2 _ rfl;have z3:=B.res.c 3 _ rfl;have z4:=B.res.c 4 _ rfl;have z5:=B.res.c 5 _ rfl;have zf:=B.res.fz;have H6:=aA B;have H:=aA w;have I:=aA y;clear B w y n0;go_wp2;have E:=H6.out.res.set6 (.int .i64 t.kd) (.int .u64 x.a) (.int .u64 x.b) (.int .u64 x.c) (.int .u64 x.d) (.slice a t.ks.length c);have ho:=Ae.set6 w6 W.heap.size (.int .i64 t.kd) (.int .u64 x.a) (.int .u64 x.b) (.int .u64 x.c) (.int .u64 x.d) (.slice a t.ks.length c);generalize ((((((w6.setCell ⟨W.heap.size,0,none⟩ (.int .i64 t.kd)).setCell ⟨W.heap.size,1,none⟩ (.int .u64 x.a)).setCell ⟨W.heap.size,2,none⟩ (.int .u64 x.b)).setCell ⟨W.heap.size,3,none⟩ (.int .u64 x.c)).setCell ⟨W.heap.size,4,none⟩ (.int .u64 x.d)).setCell ⟨W.heap.size,5,none⟩ (.slice a t.ks.length c))=Z2 at E ho ⊢
   have y0:=E.c 0 _ rfl;have y1:=E.c 1 _ rfl;have y2:=E.c 2 _ rfl;have y3:=E.c 3 _ rfl;have y4:=E.c 4 _ rfl;have y5:=E.c 5 _ rfl;clear E z0 z1 z2 z3 z4 z5 zf;exact bodyPost_ret (v:=.agg #[.int .i64 t.kd,.int .u64 x.a,.int .u64 x.b,.int .u64 x.c,.int .u64 x.d,.slice a t.ks.length c]) (by simp[results,results156,go_sem,y0,y1,y2,y3,y4,y5]<;>exact rfl) rfl (Ej H6.out.rd H6.out.on a0.out rfl t x a c H.out I.out ho)
end Go.Proofs.YtipfpohlnhmlpaaGreatDoor
