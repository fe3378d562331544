/- Bc Lx Bd Be Gv -/
import Derived.Test.YtfblenhlildnaaaGreatDoorBb
import Derived.Test.YtfblenhlildnaaaGreatDoorMa
import Derived.Test.YtfblenhlildnaaaGreatDoorChecked
import Derived.WalkKit
import Derived.Deep.DeepCutAuto
import Derived.Deep.CutBlock
import Derived.Lib.Hide
import Derived.Deep.RegionHeld3
set_option maxRecDepth 100000
set_option maxHeartbeats 1000000
open Go.World renaming frozen?_setCell->aA,cell?_of_block->aB,block_lt_of_cell?->aD,cell?_alloc_at->aE
open Go.Lib renaming hid->aC
namespace Go
open Go.RowKit
structure C4 (w:World) (b:Nat) (v0 v1 v2 v3:Value):Prop where
 c0:w.cell? ⟨b,0,none⟩=some v0
 c1:w.cell? ⟨b,1,none⟩=some v1
 c2:w.cell? ⟨b,2,none⟩=some v2
 c3:w.cell? ⟨b,3,none⟩=some v3
 fz:∀j,w.frozen? ⟨b,j,none⟩=false
theorem C4.new (w:World) (v0 v1 v2 v3:Value) (T:TypeId):C4 (w.alloc (.cells #[v0,v1,v2,v3] T)) w.heap.size v0 v1 v2 v3:=by
 refine⟨?_,?_,?_,?_,fun j=>World.frozen?_alloc_at _ _ _ _ rfl⟩<;>(rw[aE _ _ _ _ rfl];rfl)
section
variable {w w':World} {b:Nat} {v0 v1 v2 v3:Value}
theorem C4.lt (h:C4 w b v0 v1 v2 v3):b<w.heap.size:=aD w _ h.c0
theorem C4.kept (h:C4 w b v0 v1 v2 v3) (a:w'.heap[b]?=w.heap[b]?):C4 w' b v0 v1 v2 v3 :=
 ⟨by rw[aB a];exact h.c0,by rw[aB a];exact h.c1,by rw[aB a];exact h.c2,by rw[aB a];exact h.c3,fun j=>by rw[World.frozen?_of_block a];exact h.fz j⟩
theorem C4.below (h:C4 w b v0 v1 v2 v3) (a:Below w.heap.size w w'):C4 w' b v0 v1 v2 v3:=h.kept (a.block b h.lt)
theorem C4.set1 (h:C4 w b v0 v1 v2 v3) (u:Value):C4 (w.setCell ⟨b,1,none⟩ u) b v0 u v2 v3 :=
 ⟨by rw[Ag (Ai (by omega))];exact h.c0,A8 h.c1,by rw[Ag (Ai (by omega))];exact h.c2,by rw[Ag (Ai (by omega))];exact h.c3,fun j=>by rw[aA];exact h.fz j⟩
theorem C4.set2 (h:C4 w b v0 v1 v2 v3) (u:Value):C4 (w.setCell ⟨b,2,none⟩ u) b v0 v1 u v3 :=
 ⟨by rw[Ag (Ai (by omega))];exact h.c0,by rw[Ag (Ai (by omega))];exact h.c1,A8 h.c2,by rw[Ag (Ai (by omega))];exact h.c3,fun j=>by rw[aA];exact h.fz j⟩
theorem C4.set3 (h:C4 w b v0 v1 v2 v3) (u:Value):C4 (w.setCell ⟨b,3,none⟩ u) b v0 v1 v2 u :=
 ⟨by rw[Ag (Ai (by omega))];exact h.c0,by rw[Ag (Ai (by omega))];exact h.c1,by rw[Ag (Ai (by omega))];exact h.c2,A8 h.c3,fun j=>by rw[aA];exact h.fz j⟩
end
end Go
namespace Go.Proofs.YtfblenhlildnaaaGreatDoor
open Go.Proofs.Tryz
open Go.RowKit
def G1 (t:Tk):Value:=.agg #[.int .i64 t.kd,.string ⟨t.tx.toArray⟩,.float .f64 t.nm,.int .i64 t.f,.int .i64 t.t]
def T3 (f:Nat) (e:Int):List PanicEntry:=[{ v:=.iface 61 (.agg #[.int .i64 f,.int .i64 e]),recovered:=false }]
structure F2 (nx:Nat->Bool->Tk) (s:ByteArray) (w0:World):Prop where
 call:∀a op W,a<=s.size->Below w0.heap.size w0 W ->
  Calls prog 101 #[.string s,.int .i64 a,.bool op] W fun e w'=>e = .returned (.tuple #[G1 (nx a op),.int .i64 (nx a op).e])/\Below W.heap.size W w'
 ok:∀a op,a<=s.size->(nx a op).e=0->a<=(nx a op).f/\(nx a op).f<=(nx a op).t/\(nx a op).t<=s.size/\(nx a op).tx.length<=s.size/\((nx a op).kd≠0->a<(nx a op).t)
structure Pz (w0:World) (q:Nat) (s:ByteArray) (p:Ps) (W:World):Prop where
 below:Below w0.heap.size w0 W
 hq:w0.heap.size<=q
 c:C4 W q (.string s) (.int .i64 p.a) (.int .i64 p.deep) (.int .i64 p.outs)
 ha:p.a<=s.size
 hs:s.size<=4096
 d1 : -(p.a:Int)<=p.deep
 d2:p.deep<=40
section
variable {w0 W W':World} {q:Nat} {s:ByteArray} {p:Ps}
theorem Pz.keep (h:Pz w0 q s p W) (a:Below W.heap.size W W'):Pz w0 q s p W' :=
 ⟨h.below.trans (a.mono h.below.size),h.hq,h.c.below a,h.ha,h.hs,h.d1,h.d2⟩
theorem Pz.lt (h:Pz w0 q s p W):q<W.heap.size:=h.c.lt
structure Py (w0:World) (q:Nat) (s:ByteArray) (p:Ps) (W:World):Prop where
 below:Below w0.heap.size w0 W
 hq:w0.heap.size<=q
 c:C4 W q (.string s) (.int .i64 p.a) (.int .i64 p.deep) (.int .i64 p.outs)
 hs:s.size<=4096
 d2:p.deep<=40
theorem Pz.y (h:Pz w0 q s p W):Py w0 q s p W:=⟨h.below,h.hq,h.c,h.hs,h.d2⟩
theorem Py.lt (h:Py w0 q s p W):q<W.heap.size:=h.c.lt
theorem Py.deeper (h:Py w0 q s p W) (d:Int) (a:d<=40):Py w0 q s { p with deep:=d } (W.setCell ⟨q,2,none⟩ (.int .i64 d)) :=
 ⟨h.below.setCell (p:=⟨q,2,none⟩) h.hq _,h.hq,h.c.set2 _,h.hs,a⟩
end
end Go.Proofs.YtfblenhlildnaaaGreatDoor
namespace Go
open Go.RowKit
theorem Ad (W:World) (o:Obj):Below W.heap.size W (W.alloc o):=(Below.refl _ _).alloc (Nat.le_refl _) _
theorem AC (W:World) (o:Obj):Below W.heap.size W (W.alloc o).drew:=⟨rfl,rfl,rfl,(Ad W o).size,(Ad W o).block⟩
theorem Az {W:World} {a:Addr} {v:Value} (h:W.cell? a=some v) (o:Obj):(W.alloc o).cell? a=some v:=((Ad W o).cell (aD W a h)).trans h
theorem Ab {W:World} {a:Addr} {v:Value} (h:W.cell? a=some v) (o:Obj):(W.alloc o).drew.cell? a=some v:=Az h o
end Go
namespace Go.Proofs.YtfblenhlildnaaaGreatDoor
open Go.Proofs.Tryz
open Go.RowKit
theorem Z7 (x y:List UInt8):((⟨x.toArray⟩:ByteArray)=⟨y.toArray⟩)↔x=y:=by
 constructor
 ·intro h
  injection h with h;simpa using congrArg Array.toList h
 intro h;rw[h]
theorem AaD (t:Tk) (k:Int) (x:List UInt8) (w:World) :
  Calls prog 45 #[G1 t,.int .i64 k,.string ⟨x.toArray⟩] w fun e d=>e = .returned (.bool (decide (t.kd=k)&&decide (t.tx=x)))/\Below w.heap.size w d:=by
 have c:=Z7 t.tx x;by_cases a:t.kd=k
 ·by_cases b:t.tx=x
  ·have b1:(t.kd==k)=true:=beq_iff_eq.2 a
   have b2:=c.2 b;unfold G1
   go_in
   go_wp2;go_ret;exact⟨by simp[a,b],Ad w _⟩
  have b1:(t.kd==k)=true:=beq_iff_eq.2 a;have b2:¬ ((⟨t.tx.toArray⟩:ByteArray)=⟨x.toArray⟩):=fun e=>b (c.1 e);unfold G1
  go_in
  go_wp2;go_ret;exact⟨by simp[a,b],Ad w _⟩
 have b1:(t.kd==k)=false:=beq_eq_false_iff_ne.2 a;unfold G1
 go_in
 go_wp2;go_ret;exact⟨by simp[a],Ad w _⟩
theorem Em {w:World} {q b i:Nat} {u v0 v1 v2 v3 v4:Value} (h:w.cell? ⟨q,i,none⟩=some u) (a:q≠b) :
  (((((w.setCell ⟨b,0,none⟩ v0).setCell ⟨b,1,none⟩ v1).setCell ⟨b,2,none⟩ v2).setCell ⟨b,3,none⟩ v3).setCell ⟨b,4,none⟩ v4).cell? ⟨q,i,none⟩=some u:=by
 have e:∀j,(⟨b,j,none⟩:Addr)≠⟨q,i,none⟩:=fun j e=>a (by injection e with e;exact e.symm);rw[Ag (e 4),Ag (e 3),Ag (e 2),Ag (e 1),Ag (e 0)];exact h
theorem _root_.Go.C5.far5 {w:World} {q b:Nat} {u0 u1 u2 u3 u4 v0 v1 v2 v3 v4:Value} (h:C5 w q u0 u1 u2 u3 u4) (a:q≠b) :
  C5 (((((w.setCell ⟨b,0,none⟩ v0).setCell ⟨b,1,none⟩ v1).setCell ⟨b,2,none⟩ v2).setCell ⟨b,3,none⟩ v3).setCell ⟨b,4,none⟩ v4) q u0 u1 u2 u3 u4 :=
 ⟨Em h.c0 a,Em h.c1 a,Em h.c2 a,Em h.c3 a,Em h.c4 a,fun j=>by simp only[aA];exact h.fz j⟩
theorem Zq {b w:World} {r:Nat} (c:Below b.heap.size b w) (a:b.heap.size<=r) (v0 v1 v2 v3 v4:Value):Below b.heap.size b (((((w.setCell ⟨r,0,none⟩ v0).setCell ⟨r,1,none⟩ v1).setCell ⟨r,2,none⟩ v2).setCell ⟨r,3,none⟩ v3).setCell ⟨r,4,none⟩ v4) :=
 ((((c.setCell (p:=⟨r,0,none⟩) a _).setCell (p:=⟨r,1,none⟩) a _).setCell (p:=⟨r,2,none⟩) a _).setCell (p:=⟨r,3,none⟩) a _).setCell (p:=⟨r,4,none⟩) a _
theorem Ea {nx:Nat->Bool->Tk} {R W:World} {q:Nat} {s:ByteArray} {p:Ps} (M:F2 nx s R) (h:Pz R q s p W) (k:Bool) :
  Calls prog 65 #[.pointer (some ⟨q,0,none⟩),.bool k] W fun e w'=>Below W.heap.size W w' /\
   ((nx p.a k).e=0/\e = .returned (G1 (nx p.a k))\/(nx p.a k).e≠0/\e = .panicked (T3 (nx p.a k).f (nx p.a k).e)):=by
 have m:=aC (M.call p.a k);have A:=h.c.c0;have B:=h.c.c1;have z:=aC h.below;have ha:=h.ha;obtain⟨t,C⟩:∃t,nx p.a k=t:=⟨_,rfl⟩;rw[C] at m;simp only[C];clear C M;obtain⟨kd,j,nm,f,i,u⟩:=t;unfold G1 at m ⊢;dsimp only at m ⊢;obtain⟨o,n⟩:∃o:Obj,o = .cells #[.int .i64 0,.string ⟨#[]⟩,.float .f64 0,.int .i64 0,.int .i64 0] 70:=⟨_,rfl⟩;have k0:=Ab A o;have k1:=Ab B o;have E:=Ab (Az A o) o;have F:=Ab (Az B o) o;have S:=aC (z.out.trans (Below.mono (AC W o) z.out.size));have T:=aC (z.out.trans (Below.mono (((Ad W o).trans (Below.mono (AC (W.alloc o) o) (Ad W o).size))) z.out.size))
 have y:=aC (AC W o);have L:=aC ((Ad W o).trans (Below.mono (AC (W.alloc o) o) (Ad W o).size))
 have N:Hid (C5 ((W.alloc o).alloc o).drew (W.heap.size+1) (.int .i64 0) (.string ⟨#[]⟩) (.float .f64 0) (.int .i64 0) (.int .i64 0)):=by
  have:=C5.new (W.alloc o) (.int .i64 0) (.string ⟨#[]⟩) (.float .f64 0) (.int .i64 0) (.int .i64 0) 70;rw[<- n,show (W.alloc o).heap.size=W.heap.size+1 by simp] at this;exact this.kept rfl
 have O:Hid (C5 (W.alloc o).drew W.heap.size (.int .i64 0) (.string ⟨#[]⟩) (.float .f64 0) (.int .i64 0) (.int .i64 0)):=by
  have:=C5.new W (.int .i64 0) (.string ⟨#[]⟩) (.float .f64 0) (.int .i64 0) (.int .i64 0) 70;rw[<- n] at this;exact this.kept rfl
 have P:Hid (C5 ((W.alloc o).alloc o).drew W.heap.size (.int .i64 0) (.string ⟨#[]⟩) (.float .f64 0) (.int .i64 0) (.int .i64 0)):=by
  have:=C5.new W (.int .i64 0) (.string ⟨#[]⟩) (.float .f64 0) (.int .i64 0) (.int .i64 0) 70;rw[<- n] at this;exact(this.alloc o).kept rfl
 have Q:q≠W.heap.size+1:=by have:=h.c.lt;omega
 subst n;clear A B h;have U:∀(x:Value) (w:World),Sem.run prog (Instr.panic (.iface 61 x)) w = .halt (.panic (.iface 61 x)) w:=fun _ _=>rfl
 go_in
 go_wp2_with fail
 go_region_held3 (fun o=>o.cell? ⟨q,0,none⟩=some (.string s)/\o.cell? ⟨q,1,none⟩=some (.int .i64 p.a))
  (first | with_reducible exact⟨k0,k1⟩ | with_reducible exact⟨E,F⟩ | with_reducible exact⟨Aa k0 g,Aa k1 g⟩ | with_reducible exact⟨Az (Aa k0 g) _,Az (Aa k1 g) _⟩ | with_reducible exact⟨Em (Aa E d) Q,Em (Aa F d) Q⟩ | with_reducible exact⟨Aa E d,Aa F d⟩)
  (first | (go_at_call 101;refine(m.out _ ha S.out).mono ?_;rintro e w1 ⟨rfl,g⟩) | (go_at_call 101;refine(m.out _ ha T.out).mono ?_;rintro e w2 ⟨rfl,d⟩;obtain⟨V,Y,Z,m3,m4,mf⟩:=N.out.below d))
 ·have D:=aC ((O.out.below g).alloc (.cells #[.int .i64 kd,.string ⟨j.toArray⟩,.float .f64 nm,.int .i64 f,.int .i64 i] 70))
  obtain⟨n0,n1,n2,n3,n4,nf⟩:=(O.out.below g).alloc (.cells #[.int .i64 kd,.string ⟨j.toArray⟩,.float .f64 nm,.int .i64 f,.int .i64 i] 70);have hF:=aC ((y.out.trans (g.mono y.out.size)).alloc (y.out.trans (g.mono y.out.size)).size (.cells #[.int .i64 kd,.string ⟨j.toArray⟩,.float .f64 nm,.int .i64 f,.int .i64 i] 70));by_cases l:u=0
  ·subst l
   go_wp2;obtain⟨G,H,I,J,K,zf⟩:=((((D.out.set0 (.int .i64 kd)).set1 (.string ⟨j.toArray⟩)).set2 (.float .f64 nm)).set3 (.int .i64 f)).set4 (.int .i64 i);exact bodyPost_ret (v:=.agg #[.int .i64 kd,.string ⟨j.toArray⟩,.float .f64 nm,.int .i64 f,.int .i64 i]) (by simp[results,results65,go_sem,G,H,I,J,K]<;>exact rfl) rfl ⟨Zq hF.out (Nat.le_refl _) _ _ _ _ _,by simp⟩
  have b1:(u==0)=false:=beq_eq_false_iff_ne.2 l;go_wp2;exact⟨rfl,hF.out,.inr ⟨l,rfl⟩⟩
 have D:=aC ((P.out.below d).far5 (v0:=.int .i64 kd) (v1:=.string ⟨j.toArray⟩) (v2:=.float .f64 nm) (v3:=.int .i64 f) (v4:=.int .i64 i) (b:=W.heap.size+1) (by omega));obtain⟨n0,n1,n2,n3,n4,nf⟩:=(P.out.below d).far5 (v0:=.int .i64 kd) (v1:=.string ⟨j.toArray⟩) (v2:=.float .f64 nm) (v3:=.int .i64 f) (v4:=.int .i64 i) (b:=W.heap.size+1) (by omega);obtain⟨y0,y1,y2,y3,y4,yf⟩:=(((((N.out.below d).set0 (.int .i64 kd)).set1 (.string ⟨j.toArray⟩)).set2 (.float .f64 nm)).set3 (.int .i64 f)).set4 (.int .i64 i);clear V Y Z m3 m4 mf;have hF:=aC (Zq (L.out.trans (d.mono L.out.size)) (r:=W.heap.size+1) (by omega) (.int .i64 kd) (.string ⟨j.toArray⟩) (.float .f64 nm) (.int .i64 f) (.int .i64 i))
 generalize (((((w2.setCell ⟨W.heap.size+1,0,none⟩ (.int .i64 kd)).setCell ⟨W.heap.size+1,1,none⟩ (.string ⟨j.toArray⟩)).setCell ⟨W.heap.size+1,2,none⟩ (.float .f64 nm)).setCell ⟨W.heap.size+1,3,none⟩ (.int .i64 f)).setCell ⟨W.heap.size+1,4,none⟩ (.int .i64 i))=X at *;by_cases l:u=0
 ·subst l
  go_wp2;obtain⟨G,H,I,J,K,zf⟩:=((((D.out.set0 (.int .i64 kd)).set1 (.string ⟨j.toArray⟩)).set2 (.float .f64 nm)).set3 (.int .i64 f)).set4 (.int .i64 i);exact bodyPost_ret (v:=.agg #[.int .i64 kd,.string ⟨j.toArray⟩,.float .f64 nm,.int .i64 f,.int .i64 i]) (by simp[results,results65,go_sem,G,H,I,J,K]<;>exact rfl) rfl ⟨Zq hF.out (Nat.le_refl _) _ _ _ _ _,by simp⟩
 have b1:(u==0)=false:=beq_eq_false_iff_ne.2 l;go_wp2;exact⟨rfl,hF.out,.inr ⟨l,rfl⟩⟩
def H6 (pl:Nat->Nat×Nat) (s:ByteArray):Prop:=∀f w,f<=s.size->Calls prog 25 #[.string s,.int .i64 f] w fun e a=>e = .returned (.complex .f64 (pl f).1 (pl f).2)/\w=a
theorem AbD {pl:Nat->Nat×Nat} {j W:World} {q:Nat} {s:ByteArray} {p:Ps} (l:H6 pl s) (h:Py j q s p W) (t:Tk) (E:t.f<=s.size) (F:t.t<=s.size) (D : -(t.t:Int)<=p.deep) :
  Calls prog 66 #[.pointer (some ⟨q,0,none⟩),G1 t] W fun e m=>e = .returned (.complex .f64 (pl t.f).1 (pl t.f).2)/\Pz j q s (CQ t p) m/\Ae q W m:=by
 have n:=aC (fun w=>l t.f w E);obtain⟨o,k⟩:∃o:Obj,o = .cells #[.int .i64 t.kd,.string ⟨t.tx.toArray⟩,.float .f64 t.nm,.int .i64 t.f,.int .i64 t.t] 70:=⟨_,rfl⟩;have C:=aC (Ad W o);have g:=aC (h.c.below (Ad W o));obtain⟨r,u,v,x,y⟩:=h.c.below (Ad W o);have i:q≠W.heap.size:=by have:=h.lt;omega
 obtain⟨X,b⟩:∃X,X=(W.alloc o).setCell ⟨q,1,none⟩ (.int .i64 t.t):=⟨_,rfl⟩;have z:X.drew.cell? ⟨q,0,none⟩=some (.string s):=by rw[b];exact(g.out.set1 _).c0
 have A:X.drew.cell? ⟨W.heap.size,3,none⟩=some (.int .i64 t.f):=by
  rw[b];show ((W.alloc o).setCell _ _).cell? _=_;rw[Ag (fun e=>i (by injection e)),k,aE _ _ _ _ rfl];rfl
 have B:Hid (Pz j q s (CQ t p) X.drew/\Ae q W X.drew):=by
  refine⟨⟨?_,h.hq,?_,F,h.hs,D,h.d2⟩,?_⟩
  ·rw[b]
   have a:=Below.setCell (h.below.trans ((Ad W o).mono h.below.size)) (p:=⟨q,1,none⟩) h.hq (.int .i64 t.t);exact⟨a.os,a.tape,a.output,a.size,a.block⟩
  ·rw[b]
   exact(g.out.set1 _).kept rfl
  rw[b];exact((Ae.of_below q (Ad W o)).set 1 _).drew
 subst k;have d:=aC b;clear h l b g C;unfold G1
 go_in
 go_wp2_with fail
 rw[<- d.out];clear r u v x y
 go_region_held3 (fun o=>o.cell? ⟨q,0,none⟩=some (.string s)/\o.cell? ⟨W.heap.size,3,none⟩=some (.int .i64 t.f)) (first | with_reducible exact⟨z,A⟩)
  (first | (go_at_call 25;refine(n.out _).mono ?_;rintro e G ⟨rfl,rfl⟩))
 go_wp2;go_ret;exact⟨rfl,B.out⟩
end Go.Proofs.YtfblenhlildnaaaGreatDoor
namespace Go
structure Xc where
 a:Value
 b:Value
 c:Value
 d:Value
 e:Value
 f:Value
 g:Value
 h:Value
 i:Value
 j:Value
 k:Value
 l:Value
 m:Value
 n:Value
 o:Value
 p:Value
 q:Value
 r:Value
 s:Value
 t:Value
end Go
