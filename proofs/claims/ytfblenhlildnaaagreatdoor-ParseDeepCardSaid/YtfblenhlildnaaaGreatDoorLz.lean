/- Lz Oc -/
import Derived.Test.YtfblenhlildnaaaGreatDoorLv
import Derived.Test.YtfblenhlildnaaaGreatDoorCa
import Derived.Test.YtfblenhlildnaaaGreatDoorBu
import Derived.Deep.AppendLies
set_option maxRecDepth 100000
set_option maxHeartbeats 4000000
open Go.Lib renaming hid->aA
open List renaming singleton_append->aB,cons_append->aC,nil_append->aD,length_singleton->aE,length_append->aG,headD->aH
namespace Go.Proofs.YtfblenhlildnaaaGreatDoor
open Go.Proofs.Tryz
open Go.RowKit
def SR (nx:Nat->Bool->Tk) (pl:Nat->Nat×Nat) (ere:List UInt8->Option Bool) (a:World) (q:Nat) (s:ByteArray) (n:Nat) (k:RS) (f:FuncId):Prop :=
 ∀(p:Rs) (W:World),Rz a q s p W->Aaq nx pl ere n k p ≠ .hush->Calls prog f #[.pointer (some ⟨q,0,none⟩)] W (AbJ q W (Aaq nx pl ere n k p) (Acl a q s W))
theorem Aca {nx:Nat->Bool->Tk} {pl:Nat->Nat×Nat} {b W:World} {q:Nat} {s:ByteArray} {p:Rs} (k:NoW nx) (i:RxC nx s b) (j:RlC pl s) (h:Rz b q s p W) (x:List UInt8) (l:x∈[[105,102],[119,104,105,108,101],[100,111],[102,111,114],[98,114,101,97,107],[99,111,110,116,105,110,117,101],[110,101,120,116],[101,120,105,116],[114,101,116,117,114,110],[100,101,108,101,116,101],[112,114,105,110,116],[112,114,105,110,116,102],[66,69,71,73,78],[69,78,68],[71,65,80],[69,86,69,82,89],[102,117,110,99,116,105,111,110]]) :
  Calls prog 88 #[.pointer (some ⟨q,0,none⟩),.string ⟨x.toArray⟩] W fun e a=>e = .returned (.bool false)/\Rz b q s p a/\Ae q W a :=
 (AbQ i j h x).mono fun e a ha=>by
   rw[AbI k x l p] at ha;obtain⟨v,c,⟨d,f⟩,g⟩:=ha;exact⟨by rw[c,d],f,g⟩
set_option linter.unusedSimpArgs false in
theorem AeT {nx:Nat->Bool->Tk} {pl:Nat->Nat×Nat} {ere:List UInt8->Option Bool} {T:World} {q:Nat} {s:ByteArray} (hN:RxC nx s T) (hP:RlC pl s) (n:Nat)
  (hE:NR nx pl ere T q s n .expr 93)
  (X:NoW nx):SR nx pl ere T q s (n+1) .simple 148:=by
 intro p W h N;obtain⟨r,M⟩:∃r,Aaq nx pl ere (n+1) .simple p=r:=⟨_,rfl⟩;rw[M] at N ⊢;rw[AdK X] at M;have c:=aA M;have a:=aA (Fr.start1 h (.int .i64 0) (.string ⟨#[]⟩) (.float .f64 0) (.slice none 0 0) (.complex .f64 0 0) 42);have Z:=aA hN;have HP:=aA hP;have HE:=aA (fun(p:Rs) (W:World) (h:Rz T q s p W) (g:B0 nx pl ere n .expr p ≠ .hush)=>hE p W h g);have HW:=aA (X);clear M h hN hP hE X
 (try clear j k l m w c5 y);(try clear A B C D E F);(try clear G H I J K L);(try clear O P Q R S of);(try clear k0 k1 k2 k3 k4 kf);obtain⟨j,k,l,m,w,c5,y⟩:=a.out.z.c6;obtain⟨A,B,C,D,E,F⟩:=a.out.b0
 go_in
 go_wp2_with (first | (go_at_call 87;(with_reducible refine(Ab4 Z.out HP.out a.out.z true).mono ?_);intro e w1 ha;obtain⟨⟨t,z⟩,p1,v,rfl,⟨⟨rfl,rfl,-⟩,i⟩,d,b⟩:=ha.part c N;replace c:=b;clear b ha;(try dsimp only at c);replace a:=aA ((a.out.move i d).box (.int .i64 t.kd) (.string ⟨t.tx.toArray⟩) (.float .f64 t.nm) (.int .i64 t.f) (.int .i64 t.t) 70);clear i d;(try dsimp only at c);(try dsimp only);(try clear j k l m w c5 y);(try clear A B C D E F);(try clear G H I J K L);(try clear O P Q R S of);(try clear k0 k1 k2 k3 k4 kf);obtain⟨j,k,l,m,w,c5,y⟩:=a.out.z.c6;obtain⟨A,B,C,D,E,F⟩:=a.out.b0;obtain⟨G,H,I,J,K,L⟩:=a.out.b1;unfold G1) | (go_at_call 88;(with_reducible refine(Aca HW.out Z.out HP.out a.out.z _ (by decide)).mono ?_);rintro e w9 ⟨rfl,i,d⟩;replace a:=aA (a.out.move i d);clear i d;(try clear j k l m w c5 y);(try clear A B C D E F);(try clear G H I J K L);(try clear O P Q R S of);(try clear k0 k1 k2 k3 k4 kf);obtain⟨j,k,l,m,w,c5,y⟩:=a.out.z.c6;obtain⟨A,B,C,D,E,F⟩:=a.out.b0;obtain⟨G,H,I,J,K,L⟩:=a.out.b1) | (go_at_call 93;(with_reducible refine(HE.out _ _ a.out.z (K0 c N)).mono ?_);intro e U ha;obtain⟨_,p2,v,rfl,⟨⟨u,kv,rfl,rfl,Y⟩,i⟩,d,b⟩:=ha.part c N;replace c:=b;clear b ha;(try dsimp only at c);obtain⟨au,cu,rfl⟩:=Y.slice;replace a:=aA ((a.out.read Y i d).box (.int .i64 u.kd) (.string ⟨u.nm.toArray⟩) (.float .f64 u.x) (.slice au u.ks.length cu) (.complex .f64 u.z.1 u.z.2) 42);clear Y i d;(try dsimp only[hd1,aH,aB,aC,aD] at c);(try clear j k l m w c5 y);(try clear A B C D E F);(try clear G H I J K L);(try clear O P Q R S of);(try clear k0 k1 k2 k3 k4 kf);obtain⟨j,k,l,m,w,c5,y⟩:=a.out.z.c6;obtain⟨A,B,C,D,E,F⟩:=a.out.b0;obtain⟨G,H,I,J,K,L⟩:=a.out.b1;obtain⟨O,P,Q,R,S,of⟩:=a.out.b2;unfold CJ;obtain⟨j0,j1,j2,j3,j4,jf⟩:=a.out.kid1.b2;obtain⟨x0,x1,x2,x3,x4,xf⟩:=a.out.kid1.b0))
 have V:=a.out.kid1;rw[show ∀o,(U.alloc o).heap.size=U.heap.size+1 from fun o=>by simp] at V;replace a:=aA V;clear V;obtain⟨z0,z1,z2,z3,z4,zf⟩:=((((a.out.b2.set0 (.int .i64 44)).set1 (.string ⟨#[]⟩)).set2 (.float .f64 0)).set3 (.slice (some ⟨U.heap.size+1,0,none⟩) 1 1)).set4 (.complex .f64 u.z.1 u.z.2);exact bodyPost_ret (v:=.agg #[.int .i64 44,.string ⟨#[]⟩,.float .f64 0,.slice (some ⟨U.heap.size+1,0,none⟩) 1 1,.complex .f64 u.z.1 u.z.2]) (by simp[results,results148,go_sem,z0,z1,z2,z3,z4]<;>exact rfl) rfl (a.out.done (t:=.mk 44 [] 0 u.z [u]) a.out.k0 _ _ _ _ _ c)
set_option linter.unusedSimpArgs false in
theorem AgD {nx:Nat->Bool->Tk} {pl:Nat->Nat×Nat} {ere:List UInt8->Option Bool} {U:World} {q:Nat} {s:ByteArray} (hN:RxC nx s U) (hP:RlC pl s) (n:Nat)
  (hB:SR nx pl ere U q s n .block 91)
  (hS:SR nx pl ere U q s n .simple 148)
  (hW:NoW nx):SR nx pl ere U q s (n+1) .stmt 110:=by
 intro p W h N;obtain⟨r,X⟩:∃r,Aaq nx pl ere (n+1) .stmt p=r:=⟨_,rfl⟩;rw[X] at N ⊢;rw[Afk hW] at X;have d:=aA X;have a:=aA (Fr.start1 h (.int .i64 0) (.string ⟨#[]⟩) (.float .f64 0) (.slice none 0 0) (.complex .f64 0 0) 42);have V:=aA hN;have Y:=aA hP;have HB:=aA (fun(p:Rs) (W:World) (h:Rz U q s p W) (g:Aaq nx pl ere n .block p ≠ .hush)=>hB p W h g);have HS:=aA (fun(p:Rs) (W:World) (h:Rz U q s p W) (g:Aaq nx pl ere n .simple p ≠ .hush)=>hS p W h g);have HW:=aA (hW);clear X h hN hP hB hS hW
 (try clear k l m o w c5 A);(try clear B C D E F G);(try clear H I J K L M);(try clear O P Q R S of);(try clear k0 k1 k2 k3 k4 kf);obtain⟨k,l,m,o,w,c5,A⟩:=a.out.z.c6;obtain⟨B,C,D,E,F,G⟩:=a.out.b0
 go_in
 go_wp2_with (first | (go_at_call 87;(with_reducible refine(Ab4 V.out Y.out a.out.z true).mono ?_);intro e w1 ha;obtain⟨⟨t,z⟩,p1,v,rfl,⟨⟨rfl,rfl,-⟩,j⟩,i,c⟩:=ha.part d N;replace d:=c;clear c ha;(try dsimp only at d);replace a:=aA ((a.out.move j i).box (.int .i64 t.kd) (.string ⟨t.tx.toArray⟩) (.float .f64 t.nm) (.int .i64 t.f) (.int .i64 t.t) 70);clear j i;(try dsimp only at d);(try dsimp only);(try clear k l m o w c5 A);(try clear B C D E F G);(try clear H I J K L M);(try clear O P Q R S of);(try clear k0 k1 k2 k3 k4 kf);obtain⟨k,l,m,o,w,c5,A⟩:=a.out.z.c6;obtain⟨B,C,D,E,F,G⟩:=a.out.b0;obtain⟨H,I,J,K,L,M⟩:=a.out.b1;unfold G1) | (go_at_call 51;(with_reducible refine(AbB V.out a.out.z [123]).mono ?_);intro e w2 ha;obtain⟨b,p2,v,rfl,⟨⟨rfl,rfl,-⟩,j⟩,i,c⟩:=ha.part d N;replace d:=c;clear c ha;(try dsimp only at d);replace a:=aA (a.out.move j i);clear j i;cases b<;>(simp only[if_true,if_false,Bool.false_eq_true,reduceIte] at d);all_goals ((try clear k l m o w c5 A);(try clear B C D E F G);(try clear H I J K L M);(try clear O P Q R S of);(try clear k0 k1 k2 k3 k4 kf);obtain⟨k,l,m,o,w,c5,A⟩:=a.out.z.c6;obtain⟨B,C,D,E,F,G⟩:=a.out.b0;obtain⟨H,I,J,K,L,M⟩:=a.out.b1)) | (go_at_call 88;(with_reducible refine(Aca HW.out V.out Y.out a.out.z _ (by decide)).mono ?_);rintro e w9 ⟨rfl,j,i⟩;replace a:=aA (a.out.move j i);clear j i;(try clear k l m o w c5 A);(try clear B C D E F G);(try clear H I J K L M);(try clear O P Q R S of);(try clear k0 k1 k2 k3 k4 kf);obtain⟨k,l,m,o,w,c5,A⟩:=a.out.z.c6;obtain⟨B,C,D,E,F,G⟩:=a.out.b0;obtain⟨H,I,J,K,L,M⟩:=a.out.b1) | (go_at_call 91;(with_reducible refine(HB.out _ _ a.out.z (K0 (Ab1 d) N)).mono ?_);intro e w3 ha;obtain⟨_,p3,v,rfl,⟨⟨y,kv,rfl,rfl,T⟩,j⟩,i,c⟩:=ha.part (Ab1 d) N;replace d:=c;clear c ha;(try dsimp only at d);obtain⟨ay,cy,rfl⟩:=T.slice;replace a:=aA ((a.out.read T j i));clear T j i;(try dsimp only[hd1,aH,aB,aC,aD] at d);(try clear k l m o w c5 A);(try clear B C D E F G);(try clear H I J K L M);(try clear O P Q R S of);(try clear k0 k1 k2 k3 k4 kf);obtain⟨k,l,m,o,w,c5,A⟩:=a.out.z.c6;obtain⟨B,C,D,E,F,G⟩:=a.out.b0;obtain⟨H,I,J,K,L,M⟩:=a.out.b1;unfold CJ) | (go_at_call 148;(with_reducible refine(HS.out _ _ a.out.z (K0 d N)).mono ?_);intro e w4 ha;obtain⟨_,p4,v,rfl,⟨⟨u,kv,rfl,rfl,T⟩,j⟩,i,c⟩:=ha.part d N;replace d:=c;clear c ha;(try dsimp only at d);obtain⟨Z,cu,rfl⟩:=T.slice;replace a:=aA ((a.out.read T j i).box (.int .i64 u.kd) (.string ⟨u.nm.toArray⟩) (.float .f64 u.x) (.slice Z u.ks.length cu) (.complex .f64 u.z.1 u.z.2) 42);clear T j i;(try dsimp only[hd1,aH,aB,aC,aD] at d);(try clear k l m o w c5 A);(try clear B C D E F G);(try clear H I J K L M);(try clear O P Q R S of);(try clear k0 k1 k2 k3 k4 kf);obtain⟨k,l,m,o,w,c5,A⟩:=a.out.z.c6;obtain⟨B,C,D,E,F,G⟩:=a.out.b0;obtain⟨H,I,J,K,L,M⟩:=a.out.b1;obtain⟨O,P,Q,R,S,of⟩:=a.out.b2;unfold CJ) | (go_at_call 146;(with_reducible refine(Agv V.out Y.out a.out.z).mono ?_);intro e w5 ha;obtain⟨_,p5,v,rfl,⟨rfl,j⟩,i,c⟩:=ha.part d N;replace d:=c;clear c ha;(try dsimp only at d);replace a:=aA (a.out.move j i);clear j i;(try clear k l m o w c5 A);(try clear B C D E F G);(try clear H I J K L M);(try clear O P Q R S of);(try clear k0 k1 k2 k3 k4 kf);obtain⟨k,l,m,o,w,c5,A⟩:=a.out.z.c6;obtain⟨B,C,D,E,F,G⟩:=a.out.b0;obtain⟨H,I,J,K,L,M⟩:=a.out.b1;obtain⟨O,P,Q,R,S,of⟩:=a.out.b2))
 ·obtain⟨z0,z1,z2,z3,z4,zf⟩:=((((a.out.b2.set0 (.int .i64 u.kd)).set1 (.string ⟨u.nm.toArray⟩)).set2 (.float .f64 u.x)).set3 (.slice Z u.ks.length cu)).set4 (.complex .f64 u.z.1 u.z.2)
  exact bodyPost_ret (v:=CJ u (.slice Z u.ks.length cu)) (by simp[CJ,results,results110,go_sem,z0,z1,z2,z3,z4]<;>exact rfl) rfl (a.out.done a.out.k0 _ _ _ _ _ d)
 obtain⟨z0,z1,z2,z3,z4,zf⟩:=((((a.out.b1.set0 (.int .i64 y.kd)).set1 (.string ⟨y.nm.toArray⟩)).set2 (.float .f64 y.x)).set3 (.slice ay y.ks.length cy)).set4 (.complex .f64 y.z.1 y.z.2);exact bodyPost_ret (v:=CJ y (.slice ay y.ks.length cy)) (by simp[CJ,results,results110,go_sem,z0,z1,z2,z3,z4]<;>exact rfl) rfl (a.out.done a.out.k0 _ _ _ _ _ d)
theorem AgH {nx:Nat->Bool->Tk} {pl:Nat->Nat×Nat} {ere:List UInt8->Option Bool} {d W:World} {q n:Nat} {s:ByteArray} {p b:Rs} {x:List Tr} (H:NoW nx) (f:RxC nx s d) (h:Rz d q s p W) (e:Aaq nx pl ere n .stmt p = .ok x b):p.a<=b.a/\b.a<=4096/\(b.e=0->p.a<b.a):=by
 have g:St s.size p.a p.e True b:=by have:=AdW (pl:=pl) (ere:=ere) H (AcV f) n .stmt p trivial h.ha;rw[e] at this;exact this
 have:=g.r;have:=h.hs;exact⟨g.l,by omega,fun e=>(g.c e).2 trivial⟩
theorem AfG {nx:Nat->Bool->Tk} {d W:World} {q n:Nat} {s:ByteArray} {p b:Rs} {x:List UInt8} {u:Unit} (f:RxC nx s d) (h:Rz d q s p W) (e:linesR nx x n p = .ok u b):p.a<=b.a/\(b.e=0->p.e=0):=by
 have g:St s.size p.a p.e False b:=by have:=Ab0 (AcV f) x n p h.ha;rw[e] at this;exact this
 exact⟨g.l,fun e=>(g.c e).1⟩
set_option linter.unusedSimpArgs false in
theorem AfL {nx:Nat->Bool->Tk} {pl:Nat->Nat×Nat} {ere:List UInt8->Option Bool} {w0:World} {q:Nat} {s:ByteArray} (hN:RxC nx s w0) (hP:RlC pl s) (n:Nat)
  (hS:∀m,m<=n->SR nx pl ere w0 q s m .stmt 110)
  (hW:NoW nx):SR nx pl ere w0 q s (n+1) .block 91:=by
 intro p W h hh;obtain⟨r,er⟩:∃r,Aaq nx pl ere (n+1) .block p=r:=⟨_,rfl⟩;rw[er] at hh ⊢;rw[Aaq] at er;have k:=aA er;have d:=aA (Fr.start1 h (.int .i64 0) (.string ⟨#[]⟩) (.float .f64 0) (.slice none 0 0) (.complex .f64 0 0) 42);have HN:=aA hN;have HP:=aA hP;have HS:=aA (fun m (hm:m<=n) (p:Rs) (W:World) (h:Rz w0 q s p W) (g:Aaq nx pl ere m .stmt p ≠ .hush)=>hS m hm p W h g);have HW:=aA (hW);clear er h hN hP hS hW
 (try clear E F G H I c5 J);(try clear M N O P Q R);(try clear S T U V X Y);(try clear o0 B C D Z of);(try clear k0 k1 k2 k3 k4 kf);obtain⟨E,F,G,H,I,c5,J⟩:=d.out.z.c6;obtain⟨M,N,O,P,Q,R⟩:=d.out.b0
 obtain⟨i0,t0,x0,y0,a1⟩:=info_parts Y8
 go_in
 go_wp2_with (first | (go_at_call 87;(with_reducible refine(Ab4 HN.out HP.out d.out.z false).mono ?_);intro e w1 ha;obtain⟨⟨t,z⟩,p1,v,rfl,⟨⟨rfl,rfl,-⟩,A⟩,u,i⟩:=ha.part k hh;replace k:=i;clear i ha;(try dsimp only at k);replace d:=aA ((d.out.move A u).box (.int .i64 t.kd) (.string ⟨t.tx.toArray⟩) (.float .f64 t.nm) (.int .i64 t.f) (.int .i64 t.t) 70);clear A u;(try dsimp only at k);(try dsimp only);(try clear E F G H I c5 J);(try clear M N O P Q R);(try clear S T U V X Y);(try clear o0 B C D Z of);(try clear k0 k1 k2 k3 k4 kf);obtain⟨E,F,G,H,I,c5,J⟩:=d.out.z.c6;obtain⟨M,N,O,P,Q,R⟩:=d.out.b0;obtain⟨S,T,U,V,X,Y⟩:=d.out.b1;unfold G1;have HK:=d.out.box (.int .i64 30) (.string ⟨#[]⟩) (.float .f64 0) (.slice none 0 0) (.complex .f64 z.1 z.2) 42;rw[show ∀o,(w1.alloc o).heap.size=w1.heap.size+1 from fun o=>by simp] at HK;have HX:=aA HK;clear HK) | (go_at_call 89;(with_reducible refine(Abn HN.out HP.out HX.out.z [123]).mono ?_);intro e w2 ha;obtain⟨_,p2,v,rfl,⟨rfl,A⟩,u,i⟩:=ha.part k hh;replace k:=i;clear i ha;(try dsimp only at k);replace d:=aA (HX.out.move A u);clear A u HX;(try clear E F G H I c5 J);(try clear M N O P Q R);(try clear S T U V X Y);(try clear o0 B C D Z of);(try clear k0 k1 k2 k3 k4 kf);obtain⟨E,F,G,H,I,c5,J⟩:=d.out.z.c6;obtain⟨M,N,O,P,Q,R⟩:=d.out.b0;obtain⟨S,T,U,V,X,Y⟩:=d.out.b1;obtain⟨o0,B,C,D,Z,of⟩:=d.out.b2) | (go_at_call 28;(with_reducible refine(AbE HN.out d.out.z [59] _ (K0 k hh)).mono ?_);intro e w3 ha;obtain⟨_,p3,v,rfl,⟨rfl,A⟩,u,i⟩:=ha.part k hh;replace k:=i;clear i ha;(try dsimp only at k);replace d:=aA (d.out.move A u);clear A u;(try clear E F G H I c5 J);(try clear M N O P Q R);(try clear S T U V X Y);(try clear o0 B C D Z of);(try clear k0 k1 k2 k3 k4 kf);obtain⟨E,F,G,H,I,c5,J⟩:=d.out.z.c6;obtain⟨M,N,O,P,Q,R⟩:=d.out.b0;obtain⟨S,T,U,V,X,Y⟩:=d.out.b1;obtain⟨o0,B,C,D,Z,of⟩:=d.out.b2))
 (try clear E F G H I c5 J);(try clear M N O P Q R);(try clear S T U V X Y);(try clear o0 B C D Z of);(try clear k0 k1 k2 k3 k4 kf)
 go_loopg [] n (fun g wr=>∃(m:Nat) (l:List Tr) (a:Option Addr) (c:Nat) (pr:Rs),m=g/\m<=n/\((pr.e=0->l.length<=pr.a)/\l.length<=pr.a+1)/\Hid (Aaq nx pl ere m (.blockL z l) pr=r)/\Hid (Fr w0 W q (W.heap.size+1) s pr [⟨w1.heap.size+1,.int .i64 30,.string ⟨#[]⟩,.float .f64 0,.slice a l.length c,.complex .f64 z.1 z.2⟩,⟨w1.heap.size,.int .i64 t.kd,.string ⟨t.tx.toArray⟩,.float .f64 t.nm,.int .i64 t.f,.int .i64 t.t⟩,⟨W.heap.size,.int .i64 0,.string ⟨#[]⟩,.float .f64 0,.slice none 0 0,.complex .f64 0 0⟩] [(l,.slice a l.length c)] wr))
 case atStart=>exact⟨n,[],none,0,p3,rfl,Nat.le_refl _,⟨fun _=>Nat.zero_le _,Nat.zero_le _⟩,k,aA (d.out.norow.addnil)⟩
 clear d k;obtain⟨m,l,a,c,pr,rfl,d1,p0,k,d⟩:=hrel;have g0:=aA p0;clear p0
 cases m with
 | zero=>exact absurd k.out.symm hh
 | succ m =>
 replace k:=aA (by have:=k.out;rw[Aaq] at this;exact this)
 (try clear E F G H I c5 J);(try clear M N O P Q R);(try clear S T U V X Y);(try clear o0 B C D Z of);(try clear k0 k1 k2 k3 k4 kf);obtain⟨E,F,G,H,I,c5,J⟩:=d.out.z.c6;obtain⟨M,N,O,P,Q,R⟩:=d.out.b0;obtain⟨S,T,U,V,X,Y⟩:=d.out.b1;obtain⟨o0,B,C,D,Z,of⟩:=d.out.b2
 go_wp2_with (first | (go_at_call 27;(with_reducible refine(Abv d.out.z).mono ?_);rintro e w4 ⟨rfl,rfl⟩;rcases okC pr with⟨he,hb⟩ | ⟨he,hb⟩<;>rw[hb]<;>clear hb<;>(first | (replace k:=Ym he k;have f0:=aA he;clear he) | (replace k:=XY he k;clear he))) | (go_at_call 51;(with_reducible refine(AbB HN.out d.out.z [125]).mono ?_);intro e w5 ha;obtain⟨b,p5,v,rfl,⟨⟨rfl,rfl,-⟩,A⟩,u,i⟩:=ha.part k hh;replace k:=i;clear i ha;(try dsimp only at k);replace d:=aA (d.out.move A u);clear A u;cases b<;>(simp only[if_true,if_false,Bool.false_eq_true,reduceIte] at k);all_goals ((try clear E F G H I c5 J);(try clear M N O P Q R);(try clear S T U V X Y);(try clear o0 B C D Z of);(try clear k0 k1 k2 k3 k4 kf);obtain⟨E,F,G,H,I,c5,J⟩:=d.out.z.c6;obtain⟨M,N,O,P,Q,R⟩:=d.out.b0;obtain⟨S,T,U,V,X,Y⟩:=d.out.b1;obtain⟨o0,B,C,D,Z,of⟩:=d.out.b2)) | (go_at_call 89;(with_reducible refine(Abn HN.out HP.out d.out.z [125]).mono ?_);intro e w7 ha;obtain⟨_,p7,v,rfl,⟨rfl,A⟩,u,i⟩:=ha.part k hh;replace k:=i;clear i ha;(try dsimp only at k);replace d:=aA (d.out.move A u);clear A u;(try clear E F G H I c5 J);(try clear M N O P Q R);(try clear S T U V X Y);(try clear o0 B C D Z of);(try clear k0 k1 k2 k3 k4 kf);obtain⟨E,F,G,H,I,c5,J⟩:=d.out.z.c6;obtain⟨M,N,O,P,Q,R⟩:=d.out.b0;obtain⟨S,T,U,V,X,Y⟩:=d.out.b1;obtain⟨o0,B,C,D,Z,of⟩:=d.out.b2))
 ·skip
  (try clear E F G H I c5 J);(try clear M N O P Q R);(try clear S T U V X Y);(try clear o0 B C D Z of);(try clear k0 k1 k2 k3 k4 kf)
  refine d.out.region 7 (by kernel_rfl) (fun e0=>?_);refine AbP 0 (.pointer (some ⟨w1.heap.size+1,3,none⟩)) rfl e0 ?_
  try simp only[Act.put,sP]
  refine AbU 1 (.slice a l.length c) rfl (fun w hS=>by obtain⟨s0,s1,s2,s3,s4,-⟩:=hS.b0;go_simp) e0 ?_
  try simp only[Act.put,sP]
  refine AbP 2 (.pointer (some ⟨q,0,none⟩)) rfl e0 ?_
  try simp only[Act.put,sP]
  refine AaC 3 rfl (fun K hK=>?_)
  try go_simp
  go_at_call 110
  refine(HS.out _ (by omega) _ _ d.out.drew.z (K0 k hh)).mono ?_;intro e w8 ha;obtain⟨_,p8,v,rfl,⟨⟨y,kv,rfl,rfl,hk⟩,A⟩,u,i,he⟩:=ha.partE k hh;replace k:=i;have HQ:=aA (AgH HW.out HN.out d.out.z he.out);clear i ha he
  (try dsimp only at k)
  obtain⟨ay,cy,rfl⟩:=hk.slice;have HA:=aA (d.out.drew.apart hk);replace d:=aA (d.out.drew.move A u);clear hk A u e0;unfold CJ;refine hK.out _ _ (.inr d.out.bs) ?_
  try simp only[Act.put,sP]
  refine AaC 4 rfl (fun K hK=>?_)
  try go_simp
  replace d:=aA (d.out.quiet (Ad _ (.cells #[.int .i64 y.kd,.string ⟨y.nm.toArray⟩,.float .f64 y.x,.slice ay y.ks.length cy,.complex .f64 y.z.1 y.z.2] 42)));refine hK.out _ _ (.inr d.out.bs) ?_
  try simp only[Act.put,sP]
  obtain⟨L,hL,d0,j0,l0⟩:=d.out.ka.owns (W.heap.size+1) (fun j e=>e.1);have a0:L.length=l.length:=(by rw[<- hL,List.length_map]);have q0:=d.out.hB.2;have hq:=HQ.out;have v0:=g0.out.1 f0.out;refine AaC 5 rfl (fun K hK=>?_);refine wp_append_lies _ (.tmp 25) (.tmp 28) 38 rfl (W.heap.size+1) 42 i0 _ 5 72 underlying38 t0 x0 y0 a1 rfl (by decide) _ L.length (Ah L) rfl d0 ⟨w8.heap.size,0,none⟩ 1 1 (Ah [(y,.slice ay y.ks.length cy)]) rfl rfl (Z2 _ _ _) (ZB _ _ _ _) (by decide) (by unfold maxLen;omega) (by omega) q0 _ rfl ?_;intro g h0 w9 B C D Z;have hF:=d.out.append hL (fun g e=>⟨j0 g e,(d0.lt g e).2⟩) l0 (HA.out.bel (Ad _ _)) B C (by rcases D with e | e;exact .inl e.symm;exact .inr (by rw[e];rfl))
  replace d:=aA hF;rw[a0] at d;rw[a0];have r0:=aA (show l.length+1=(l++[y]).length by rw[aG,aE]);clear hF B C D Z hL d0 j0 l0 q0 HA a0 hq v0;refine hK.out _ _ (.inr d.out.bs) ?_
  try simp only[Act.put,sP]
  refine AaC 6 rfl (fun K hK=>?_)
  try go_simp
  refine hK.out _ _ (.inr d.out.bs) ?_
  try simp only[Act.put,sP]
  obtain⟨S,T,U,V,X,Y⟩:=d.out.b0;refine AaC 7 rfl (fun K hK=>?_)
  try go_simp
  replace d:=aA (d.out.put3 (.slice (some ⟨g,0,none⟩) (l.length+1) h0));refine hK.out _ _ (.inl rfl) ?_
  try simp only[Act.put,sP]
  refine Aal (by kernel_rfl) ?_ _
  go_wp2_with (first | (go_at_call 28;(with_reducible refine(AbE HN.out d.out.z [59] _ (K0 k hh)).mono ?_);intro e w9 ha;obtain⟨_,p9,v,rfl,⟨rfl,A⟩,u,i,he⟩:=ha.partE k hh;replace k:=i;have HM:=aA (AfG HN.out d.out.z he.out);clear i ha he;(try dsimp only at k);replace d:=aA (d.out.move A u);clear A u;(try clear E F G H I c5 J);(try clear M N O P Q R);(try clear S T U V X Y);(try clear o0 B C D Z of);(try clear k0 k1 k2 k3 k4 kf);obtain⟨E,F,G,H,I,c5,J⟩:=d.out.z.c6;obtain⟨M,N,O,P,Q,R⟩:=d.out.b0;obtain⟨S,T,U,V,X,Y⟩:=d.out.b1;obtain⟨o0,B,C,D,Z,of⟩:=d.out.b2))
  go_roundg m
  case rel=>exact⟨m,l++[y],some ⟨g,0,none⟩,h0,p9,rfl,by omega,by have h1:=HQ.out;have h2:=HM.out;have h3:=g0.out.1 f0.out;rw[aG,aE];exact⟨fun e=>(by have:=h1.2.2 (h2.2 e);omega),by omega⟩,k,by rw[<- r0.out];exact d⟩
  all_goals omega
 iterate 2
  focus
   obtain⟨z0,z1,z2,z3,z4,zf⟩:=((((d.out.b2.set0 (.int .i64 30)).set1 (.string ⟨#[]⟩)).set2 (.float .f64 0)).set3 (.slice a l.length c)).set4 (.complex .f64 z.1 z.2);exact bodyPost_ret (v:=.agg #[.int .i64 30,.string ⟨#[]⟩,.float .f64 0,.slice a l.length c,.complex .f64 z.1 z.2]) (by simp[results,results91,go_sem,z0,z1,z2,z3,z4]<;>exact rfl) rfl (d.out.done (t:=.mk 30 [] 0 z l) d.out.k0 _ _ _ _ _ k)
end Go.Proofs.YtfblenhlildnaaaGreatDoor
