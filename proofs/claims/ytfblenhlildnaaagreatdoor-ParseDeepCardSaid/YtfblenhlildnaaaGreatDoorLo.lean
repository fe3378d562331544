/- Lo Lp Lq Lu -/
import Derived.Test.YtfblenhlildnaaaGreatDoorIr
set_option maxRecDepth 100000
set_option maxHeartbeats 4000000
open Go.Lib renaming hid->aA
open Go.World renaming setCell->aB
open List renaming singleton_append->aC,length_singleton->aD,cons_append->aE,nil_append->aF,length_append->aH,headD->aI
open Bool renaming false_eq_true->aG,and_eq_true->aK
open Nat renaming le_refl->aJ
namespace Go.Proofs.YtfblenhlildnaaaGreatDoor
open Go.Proofs.Tryz
open Go.RowKit
set_option linter.unusedSimpArgs false in
theorem Aeq {nx:Nat->Bool->Tk} {pl:Nat->Nat×Nat} {ere:List UInt8->Option Bool} {L:World} {q:Nat} {s:ByteArray} (S:RxC nx s L) (T:RlC pl s) (n:Nat)
  (R:NR nx pl ere L q s n .expr 93):NR nx pl ere L q s (n+1) .round 143:=by
 intro p W h D;obtain⟨r,K⟩:∃r,B0 nx pl ere (n+1) .round p=r:=⟨_,rfl⟩;rw[K] at D ⊢;rw[B0] at K;have c:=aA K;have a:=aA (Fr.start1 h (.int .i64 0) (.string ⟨#[]⟩) (.float .f64 0) (.slice none 0 0) (.complex .f64 0 0) 42);have P:=aA S;have Q:=aA T;have U:=aA (fun(p:Rs) (W:World) (h:Rz L q s p W) (g:B0 nx pl ere n .expr p ≠ .hush)=>R p W h g);clear K h S T R
 (try clear i j k l m c5 o);(try clear t w y A B C);(try clear E F G H I J);(try clear o0 o1 o2 o3 o4 of);(try clear k0 k1 k2 k3 k4 kf);obtain⟨i,j,k,l,m,c5,o⟩:=a.out.z.c6;obtain⟨t,w,y,A,B,C⟩:=a.out.b0
 go_in
 go_wp2_with (first | (go_at_call 89;(with_reducible refine(Abn P.out Q.out a.out.z [40]).mono ?_);intro e w1 ha;obtain⟨_,p1,v,rfl,⟨rfl,f⟩,d,b⟩:=ha.part c D;replace c:=b;clear b ha;(try dsimp only at c);replace a:=aA (a.out.move f d);clear f d;(try clear i j k l m c5 o);(try clear t w y A B C);(try clear E F G H I J);(try clear o0 o1 o2 o3 o4 of);(try clear k0 k1 k2 k3 k4 kf);obtain⟨i,j,k,l,m,c5,o⟩:=a.out.z.c6;obtain⟨t,w,y,A,B,C⟩:=a.out.b0) | (go_at_call 93;(with_reducible refine(U.out _ _ a.out.z (K0 c D)).mono ?_);intro e w2 ha;obtain⟨_,p2,v,rfl,⟨⟨u,kv,rfl,rfl,O⟩,f⟩,d,b⟩:=ha.part c D;replace c:=b;clear b ha;(try dsimp only at c);obtain⟨M,N,rfl⟩:=O.slice;replace a:=aA ((a.out.read O f d).box (.int .i64 u.kd) (.string ⟨u.nm.toArray⟩) (.float .f64 u.x) (.slice M u.ks.length N) (.complex .f64 u.z.1 u.z.2) 42);clear O f d;(try dsimp only[hd1,aI,aC,aE,aF] at c);(try clear i j k l m c5 o);(try clear t w y A B C);(try clear E F G H I J);(try clear o0 o1 o2 o3 o4 of);(try clear k0 k1 k2 k3 k4 kf);obtain⟨i,j,k,l,m,c5,o⟩:=a.out.z.c6;obtain⟨t,w,y,A,B,C⟩:=a.out.b0;obtain⟨E,F,G,H,I,J⟩:=a.out.b1;unfold CJ) | (go_at_call 89;(with_reducible refine(Abn P.out Q.out a.out.z [41]).mono ?_);intro e w3 ha;obtain⟨_,p3,v,rfl,⟨rfl,f⟩,d,b⟩:=ha.part c D;replace c:=b;clear b ha;(try dsimp only at c);replace a:=aA (a.out.move f d);clear f d;(try clear i j k l m c5 o);(try clear t w y A B C);(try clear E F G H I J);(try clear o0 o1 o2 o3 o4 of);(try clear k0 k1 k2 k3 k4 kf);obtain⟨i,j,k,l,m,c5,o⟩:=a.out.z.c6;obtain⟨t,w,y,A,B,C⟩:=a.out.b0;obtain⟨E,F,G,H,I,J⟩:=a.out.b1))
 obtain⟨V,X,Y,Z,z4,zf⟩:=((((a.out.b1.set0 (.int .i64 u.kd)).set1 (.string ⟨u.nm.toArray⟩)).set2 (.float .f64 u.x)).set3 (.slice M u.ks.length N)).set4 (.complex .f64 u.z.1 u.z.2);exact bodyPost_ret (v:=CJ u (.slice M u.ks.length N)) (by simp[CJ,results,results143,go_sem,V,X,Y,Z,z4]<;>exact rfl) rfl (a.out.done a.out.k0 _ _ _ _ _ c)
set_option linter.unusedSimpArgs false in
theorem AdY {nx:Nat->Bool->Tk} {pl:Nat->Nat×Nat} {ere:List UInt8->Option Bool} {I:World} {q:Nat} {s:ByteArray} (hN:RxC nx s I) (hP:RlC pl s) (n:Nat)
  (hV:NR nx pl ere I q s n .lval 301)
  (hO:NR nx pl ere I q s n .operand 302)
  (hD:NR nx pl ere I q s n .round 143):NR nx pl ere I q s (n+1) .dollar 306:=by
 intro p W h H;obtain⟨r,Y⟩:∃r,B0 nx pl ere (n+1) .dollar p=r:=⟨_,rfl⟩;rw[Y] at H ⊢;rw[B0] at Y;have d:=aA Y;have a:=aA (Fr.start1 h (.int .i64 0) (.string ⟨#[]⟩) (.float .f64 0) (.slice none 0 0) (.complex .f64 0 0) 42);have HN:=aA hN;have HP:=aA hP;have HV:=aA (fun(p:Rs) (W:World) (h:Rz I q s p W) (g:B0 nx pl ere n .lval p ≠ .hush)=>hV p W h g);have HO:=aA (fun(p:Rs) (W:World) (h:Rz I q s p W) (g:B0 nx pl ere n .operand p ≠ .hush)=>hO p W h g);have HD:=aA (fun(p:Rs) (W:World) (h:Rz I q s p W) (g:B0 nx pl ere n .round p ≠ .hush)=>hD p W h g);clear Y h hN hP hV hO hD
 (try clear j k l m u c5 w);(try clear B C D E F G);(try clear L M N O P Q);(try clear o0 o1 o2 o3 o4 of);(try clear k0 k1 k2 k3 k4 kf);obtain⟨j,k,l,m,u,c5,w⟩:=a.out.z.c6;obtain⟨B,C,D,E,F,G⟩:=a.out.b0
 go_in
 go_wp2_with (first | (go_at_call 115;(with_reducible refine(Aby HN.out HP.out a.out.z [43,43,32,45,45] [[43,43],[45,45]] (by kernel_rfl) (by decide)).mono ?_);intro e w1 ha;obtain⟨o,p1,v,rfl,⟨rfl,i⟩,f,c⟩:=ha.part d H;replace d:=c;clear c ha;(try dsimp only at d);replace a:=aA (a.out.move i f);clear i f;rcases o with _ | ⟨sx,R⟩<;>dsimp only at d<;>unfold Acy<;>dsimp only;all_goals ((try clear j k l m u c5 w);(try clear B C D E F G);(try clear L M N O P Q);(try clear o0 o1 o2 o3 o4 of);(try clear k0 k1 k2 k3 k4 kf);obtain⟨j,k,l,m,u,c5,w⟩:=a.out.z.c6;obtain⟨B,C,D,E,F,G⟩:=a.out.b0)) | (go_at_call 301;(with_reducible refine(HV.out _ _ a.out.z (K0 d H)).mono ?_);intro e w2 ha;obtain⟨_,p2,v,rfl,⟨⟨y,kv,rfl,rfl,A⟩,i⟩,f,c⟩:=ha.part d H;replace d:=c;clear c ha;(try dsimp only at d);obtain⟨J,K,rfl⟩:=A.slice;replace a:=aA ((a.out.read A i f));clear A i f;(try dsimp only[hd1,aI,aC,aE,aF] at d);(try clear j k l m u c5 w);(try clear B C D E F G);(try clear L M N O P Q);(try clear o0 o1 o2 o3 o4 of);(try clear k0 k1 k2 k3 k4 kf);obtain⟨j,k,l,m,u,c5,w⟩:=a.out.z.c6;obtain⟨B,C,D,E,F,G⟩:=a.out.b0;unfold CJ;obtain⟨j0,j1,j2,j3,j4,jf⟩:=a.out.kid1.b0) | (go_at_call 51;(with_reducible refine(AbB HN.out a.out.z [40]).mono ?_);intro e w3 ha;obtain⟨b,p3,v,rfl,⟨⟨rfl,rfl,-⟩,i⟩,f,c⟩:=ha.part d H;replace d:=c;clear c ha;(try dsimp only at d);replace a:=aA (a.out.move i f);clear i f;cases b<;>(simp only[if_true,if_false,aG,reduceIte] at d);all_goals ((try clear j k l m u c5 w);(try clear B C D E F G);(try clear L M N O P Q);(try clear o0 o1 o2 o3 o4 of);(try clear k0 k1 k2 k3 k4 kf);obtain⟨j,k,l,m,u,c5,w⟩:=a.out.z.c6;obtain⟨B,C,D,E,F,G⟩:=a.out.b0);all_goals (have HX:=aA (a.out.setG false))) | (go_at_call 302;(with_reducible refine(HO.out _ _ a.out.z (K0 (Ab1 d) H)).mono ?_);intro e w4 ha;obtain⟨_,p4,v,rfl,⟨⟨y,kv,rfl,rfl,A⟩,i⟩,f,c⟩:=ha.part (Ab1 d) H;replace d:=c;clear c ha;(try dsimp only at d);obtain⟨J,K,rfl⟩:=A.slice;replace a:=aA ((a.out.read A i f));clear A i f;(try dsimp only[hd1,aI,aC,aE,aF] at d);(try clear j k l m u c5 w);(try clear B C D E F G);(try clear L M N O P Q);(try clear o0 o1 o2 o3 o4 of);(try clear k0 k1 k2 k3 k4 kf);obtain⟨j,k,l,m,u,c5,w⟩:=a.out.z.c6;obtain⟨B,C,D,E,F,G⟩:=a.out.b0;unfold CJ) | (go_at_call 143;(with_reducible refine(HD.out _ _ HX.out.z (K0 d H)).mono ?_);intro e w5 ha;obtain⟨_,p5,v,rfl,⟨⟨y,kv,rfl,rfl,A⟩,i⟩,f,c⟩:=ha.part d H;replace d:=c;clear c ha;(try dsimp only at d);obtain⟨J,K,rfl⟩:=A.slice;replace a:=aA ((HX.out.read A i f).box (.int .i64 y.kd) (.string ⟨y.nm.toArray⟩) (.float .f64 y.x) (.slice J y.ks.length K) (.complex .f64 y.z.1 y.z.2) 42);clear A i f;(try dsimp only[hd1,aI,aC,aE,aF] at d);(try clear j k l m u c5 w);(try clear B C D E F G);(try clear L M N O P Q);(try clear o0 o1 o2 o3 o4 of);(try clear k0 k1 k2 k3 k4 kf);obtain⟨j,k,l,m,u,c5,w⟩:=a.out.z.c6;obtain⟨B,C,D,E,F,G⟩:=a.out.b0;obtain⟨L,M,N,O,P,Q⟩:=a.out.b1;unfold CJ;have Z:=aA (a.out.setG p3.g);obtain⟨j0,j1,j2,j3,j4,jf⟩:=Z.out.b0;obtain⟨i0,i1,i2,i3,i4,a0⟩:=Z.out.b1))
 ·obtain⟨S,T,U,V,X,zf⟩:=((((a.out.b0.set0 (.int .i64 y.kd)).set1 (.string ⟨y.nm.toArray⟩)).set2 (.float .f64 y.x)).set3 (.slice J y.ks.length K)).set4 (.complex .f64 y.z.1 y.z.2)
  exact bodyPost_ret (v:=CJ y (.slice J y.ks.length K)) (by simp[CJ,results,results306,go_sem,S,T,U,V,X]<;>exact rfl) rfl (a.out.done a.out.k0 _ _ _ _ _ d)
 ·replace a:=Z
  obtain⟨S,T,U,V,X,zf⟩:=((((a.out.b1.set0 (.int .i64 y.kd)).set1 (.string ⟨y.nm.toArray⟩)).set2 (.float .f64 y.x)).set3 (.slice J y.ks.length K)).set4 (.complex .f64 y.z.1 y.z.2);exact bodyPost_ret (v:=CJ y (.slice J y.ks.length K)) (by simp[CJ,results,results306,go_sem,S,T,U,V,X]<;>exact rfl) rfl (a.out.done a.out.k0 _ _ _ _ _ d)
 replace a:=aA a.out.kid1;obtain⟨S,T,U,V,X,zf⟩:=((((a.out.b0.set0 (.int .i64 17)).set1 (.string ⟨sx.toArray⟩)).set2 (.float .f64 0)).set3 (.slice (some ⟨w2.heap.size,0,none⟩) 1 1)).set4 (.complex .f64 R.1 R.2);exact bodyPost_ret (v:=.agg #[.int .i64 17,.string ⟨sx.toArray⟩,.float .f64 0,.slice (some ⟨w2.heap.size,0,none⟩) 1 1,.complex .f64 R.1 R.2]) (by simp[results,results306,go_sem,S,T,U,V,X]<;>exact rfl) rfl (a.out.done (t:=.mk 17 sx 0 R [y]) a.out.k0 _ _ _ _ _ d)
set_option linter.unusedSimpArgs false in
theorem Ad0 {nx:Nat->Bool->Tk} {pl:Nat->Nat×Nat} {ere:List UInt8->Option Bool} {A:World} {q:Nat} {s:ByteArray} (D:RxC nx s A) (E:RlC pl s) (n:Nat)
  (C:LR nx pl ere A q s n):IR nx pl ere A q s (n+1):=by
 intro x p W h y;obtain⟨r,w⟩:∃r,B0 nx pl ere (n+1) (.inside x) p=r:=⟨_,rfl⟩;rw[w] at y ⊢;rw[B0] at w;have c:=aA w;have a:=aA (Fr.start h);have G:=aA D;have H:=aA E;have F:=aA (fun u p W (h:Rz A q s p W) (g:B0 nx pl ere n (.list u) p ≠ .hush)=>C u p W h g);clear w h D E C
 (try clear d f i j k c5 l);(try clear m0 m1 m2 m3 m4 mf);(try clear n0 n1 n2 n3 n4 nf);(try clear o0 o1 o2 o3 o4 of);(try clear k0 k1 k2 k3 k4 kf);obtain⟨d,f,i,j,k,c5,l⟩:=a.out.z.c6
 go_in
 go_wp2_with (first | (go_at_call 238;(with_reducible refine(F.out false _ _ a.out.z (K0 c y)).mono ?_);intro e N ha;obtain⟨K,L,v,rfl,⟨B,t⟩,m,b⟩:=ha.part c y;replace c:=b;clear b ha;(try dsimp only at c);obtain⟨I,J,rfl⟩:=B.slice;replace a:=aA (a.out.read B t m);clear B t m;(try clear d f i j k c5 l);(try clear m0 m1 m2 m3 m4 mf);(try clear n0 n1 n2 n3 n4 nf);(try clear o0 o1 o2 o3 o4 of);(try clear k0 k1 k2 k3 k4 kf);obtain⟨d,f,i,j,k,c5,l⟩:=a.out.z.c6) | (go_at_call 89;(with_reducible refine(Abn G.out H.out a.out.z x).mono ?_);intro e O ha;obtain⟨_,M,v,rfl,⟨rfl,t⟩,m,b⟩:=ha.part c y;replace c:=b;clear b ha;(try dsimp only at c);replace a:=aA (a.out.move t m);clear t m;(try clear d f i j k c5 l);(try clear m0 m1 m2 m3 m4 mf);(try clear n0 n1 n2 n3 n4 nf);(try clear o0 o1 o2 o3 o4 of);(try clear k0 k1 k2 k3 k4 kf);obtain⟨d,f,i,j,k,c5,l⟩:=a.out.z.c6))
 go_ret;exact Abx c ⟨a.out.k0,a.out.z⟩ a.out.o
set_option linter.unusedSimpArgs false in
theorem AeN {nx:Nat->Bool->Tk} {pl:Nat->Nat×Nat} {ere:List UInt8->Option Bool} {w0:World} {q:Nat} {s:ByteArray} (hN:RxC nx s w0) (hP:RlC pl s) (n:Nat)
  (hO:∀m,m<=n->NR nx pl ere w0 q s m .expr 93):LR nx pl ere w0 q s (n+1):=by
 intro f0 p W h I;obtain⟨r,er⟩:∃r,B0 nx pl ere (n+1) (.list f0) p=r:=⟨_,rfl⟩;rw[er] at I ⊢;rw[B0] at er;have f:=aA er;have d:=aA (Fr.start h);have HN:=aA hN;have HP:=aA hP;have HO:=aA (fun m (hm:m<=n) (p:Rs) (W:World) (h:Rz w0 q s p W) (g:B0 nx pl ere m .expr p ≠ .hush)=>hO m hm p W h g);clear er h hN hP hO
 (try clear C D E t F c5 G);(try clear m0 m1 m2 m3 m4 mf);(try clear n0 n1 n2 n3 n4 nf);(try clear o0 J M N o4 of);(try clear k0 k1 k2 k3 k4 kf);obtain⟨C,D,E,t,F,c5,G⟩:=d.out.z.c6
 obtain⟨i0,a0,b0,d0,e0⟩:=info_parts Y8;cases hg:p.g
 ·rw[hg] at f t
  replace d:=aA (d.out.setG false);clear hg
  (try simp only[Bool.false_and,Bool.true_and] at f)
  go_in
  go_wp2_with (first | (go_at_call 93;(with_reducible refine(HO.out _ (aJ _) _ _ d.out.z (K0 f I)).mono ?_);intro e w1 ha;obtain⟨_,p1,v,rfl,⟨⟨u,kv,rfl,rfl,O⟩,B⟩,w,i⟩:=ha.part f I;replace f:=i;clear i ha;(try dsimp only at f);obtain⟨au,cu,rfl⟩:=O.slice;replace d:=aA (d.out.read O B w).kid1;clear O B w;(try dsimp only[hd1,aI,aC,aE,aF] at f);(try clear C D E t F c5 G);(try clear m0 m1 m2 m3 m4 mf);(try clear n0 n1 n2 n3 n4 nf);(try clear o0 J M N o4 of);(try clear k0 k1 k2 k3 k4 kf);obtain⟨C,D,E,t,F,c5,G⟩:=d.out.z.c6;unfold CJ))
  obtain⟨K,HK,i⟩:=Af3 f;replace f:=i;clear i
  go_loopg [6] n (fun g v6 wr=>∃(m:Nat) (l:List Tr) (a:Option Addr) (c:Nat) (X:Rs),m=g/\v6 = .slice a l.length c/\(m<=n/\l.length<=X.a+1)/\Hid ((B0 nx pl ere m (.listL l) X).bind K=r)/\Hid (Fr w0 W q W.heap.size s X [] [(l,.slice a l.length c)] wr))
  case atStart=>exact⟨n,[u],some ⟨w1.heap.size,0,none⟩,1,p1,rfl,rfl,⟨aJ _,by simp only[aD];omega⟩,f,aA d.out.row1⟩
  clear d f;obtain⟨m,l,a,c,X,rfl,rfl,⟨h0,H⟩,f,d⟩:=hrel;have R:=aA H;clear H
  cases m with
  | zero=>exact absurd f.out.symm I
  | succ m =>
  replace f:=aA (Acw f.out)
  (try clear C D E t F c5 G);(try clear m0 m1 m2 m3 m4 mf);(try clear n0 n1 n2 n3 n4 nf);(try clear o0 J M N o4 of);(try clear k0 k1 k2 k3 k4 kf);obtain⟨C,D,E,t,F,c5,G⟩:=d.out.z.c6
  go_wp2_with (first | (at_builtin;have Y:=aA (d.out.quiet (Ad _ (.cells #[.int .i64 y.kd,.string ⟨y.nm.toArray⟩,.float .f64 y.x,.slice ay y.ks.length cy,.complex .f64 y.z.1 y.z.2] 42)));obtain⟨L,Z,A,hS,T⟩:=Y.out.ka.owns W.heap.size (fun j e=>e.1);have U:L.length=l.length:=(by rw[<- Z,List.length_map]);have V:=Y.out.hB.2;have hq:=HQ.out;have H:=R.out;refine Bg _ rfl (.tmp 29) (.tmp 32) 38 rfl W.heap.size 42 i0 _ 5 72 underlying38 a0 b0 d0 e0 rfl (by decide) _ _ _ rfl A ⟨w5.heap.size,0,none⟩ 1 1 (Ah [(y,.slice ay y.ks.length cy)]) rfl rfl (Z2 _ _ _) (ZB _ _ _ _) (by unfold maxLen;omega) (by omega) V (by decide) ?_;intro v6 w6 J M N;have hF:=Y.out.append Z (fun g e=>⟨hS g e,(A.lt g e).2⟩) T (HA.out.bel (Ad _ _)) J M N;obtain⟨a6,c6,rfl⟩:=hF.ka.slice;replace d:=aA hF;clear hF J M N Z A hS T U V hq H Y HA) | (go_at_call 27;(with_reducible refine(Abv d.out.z).mono ?_);rintro e w2 ⟨rfl,rfl⟩;rcases okC X with⟨k,hb⟩ | ⟨k,hb⟩<;>rw[hb]<;>clear hb<;>(first | replace f:=Ym (k) f | (replace f:=XY (fun e=>e k) f;have g0:=aA k))<;>clear k) | (go_at_call 88;(with_reducible refine(AbQ HN.out HP.out d.out.z [44]).mono ?_);intro e w3 ha;obtain⟨b,p3,v,rfl,⟨rfl,B⟩,w,i,k⟩:=ha.partE f I;replace f:=i;clear i ha;(try dsimp only at f);have S:=aA d.out.z;replace d:=aA (d.out.move B w);clear B w;cases b<;>(simp only[if_true,if_false,aG,reduceIte] at f);all_goals ((try clear C D E t F c5 G);(try clear m0 m1 m2 m3 m4 mf);(try clear n0 n1 n2 n3 n4 nf);(try clear o0 J M N o4 of);(try clear k0 k1 k2 k3 k4 kf);obtain⟨C,D,E,t,F,c5,G⟩:=d.out.z.c6);all_goals (have P:=k;clear k)) | (go_at_call 28;(with_reducible refine(AbE HN.out d.out.z [] _ (K0 f I)).mono ?_);intro e w4 ha;obtain⟨_,p4,v,rfl,⟨rfl,B⟩,w,i,k⟩:=ha.partE f I;replace f:=i;clear i ha;(try dsimp only at f);replace d:=aA (d.out.move B w);clear B w;(try clear C D E t F c5 G);(try clear m0 m1 m2 m3 m4 mf);(try clear n0 n1 n2 n3 n4 nf);(try clear o0 J M N o4 of);(try clear k0 k1 k2 k3 k4 kf);obtain⟨C,D,E,t,F,c5,G⟩:=d.out.z.c6;have Q:=k;clear k) | (go_at_call 93;(with_reducible refine(HO.out _ (by omega) _ _ d.out.z (K0 f I)).mono ?_);intro e w5 ha;obtain⟨_,p5,v,rfl,⟨⟨y,kv,rfl,rfl,O⟩,B⟩,w,i,k⟩:=ha.partE f I;replace f:=i;clear i ha;have HQ:=aA (AcH HN.out S.out P.out Q.out k.out);clear k P Q S;(try dsimp only at f);obtain⟨ay,cy,rfl⟩:=O.slice;have HA:=aA (d.out.apart O);replace d:=aA (d.out.move B w);clear O B w;(try clear C D E t F c5 G);(try clear m0 m1 m2 m3 m4 mf);(try clear n0 n1 n2 n3 n4 nf);(try clear o0 J M N o4 of);(try clear k0 k1 k2 k3 k4 kf);obtain⟨C,D,E,t,F,c5,G⟩:=d.out.z.c6;unfold CJ))
  ·rw[HK.out] at f
   (try dsimp only at f)
   replace d:=aA (d.out.setG false);go_ret;exact Abx f ⟨d.out.k0,d.out.z⟩ d.out.o
  ·go_roundg m
   case rel=>exact⟨m,l++[y],a6,c6,p5,rfl,by rw[aH,aD],⟨by omega,by have:=R.out;have:=HQ.out;rw[aH,aD];omega⟩,f,d⟩
   all_goals omega
  rw[HK.out] at f
  (try dsimp only at f)
  replace d:=aA (d.out.setG false);go_ret;exact Abx f ⟨d.out.k0,d.out.z⟩ d.out.o
 rw[hg] at f t;replace d:=aA (d.out.setG f0);clear hg
 (try simp only[Bool.false_and,Bool.true_and] at f)
 go_in
 go_wp2_with (first | (go_at_call 93;(with_reducible refine(HO.out _ (aJ _) _ _ d.out.z (K0 f I)).mono ?_);intro e w1 ha;obtain⟨_,p1,v,rfl,⟨⟨u,kv,rfl,rfl,O⟩,B⟩,w,i⟩:=ha.part f I;replace f:=i;clear i ha;(try dsimp only at f);obtain⟨au,cu,rfl⟩:=O.slice;replace d:=aA (d.out.read O B w).kid1;clear O B w;(try dsimp only[hd1,aI,aC,aE,aF] at f);(try clear C D E t F c5 G);(try clear m0 m1 m2 m3 m4 mf);(try clear n0 n1 n2 n3 n4 nf);(try clear o0 J M N o4 of);(try clear k0 k1 k2 k3 k4 kf);obtain⟨C,D,E,t,F,c5,G⟩:=d.out.z.c6;unfold CJ))
 obtain⟨K,HK,i⟩:=Af3 f;replace f:=i;clear i
 go_loopg [6] n (fun g v6 wr=>∃(m:Nat) (l:List Tr) (a:Option Addr) (c:Nat) (X:Rs),m=g/\v6 = .slice a l.length c/\(m<=n/\l.length<=X.a+1)/\Hid ((B0 nx pl ere m (.listL l) X).bind K=r)/\Hid (Fr w0 W q W.heap.size s X [] [(l,.slice a l.length c)] wr))
 case atStart=>exact⟨n,[u],some ⟨w1.heap.size,0,none⟩,1,p1,rfl,rfl,⟨aJ _,by simp only[aD];omega⟩,f,aA d.out.row1⟩
 clear d f;obtain⟨m,l,a,c,X,rfl,rfl,⟨h0,H⟩,f,d⟩:=hrel;have R:=aA H;clear H
 cases m with
 | zero=>exact absurd f.out.symm I
 | succ m =>
 replace f:=aA (Acw f.out)
 (try clear C D E t F c5 G);(try clear m0 m1 m2 m3 m4 mf);(try clear n0 n1 n2 n3 n4 nf);(try clear o0 J M N o4 of);(try clear k0 k1 k2 k3 k4 kf);obtain⟨C,D,E,t,F,c5,G⟩:=d.out.z.c6
 go_wp2_with (first | (at_builtin;have Y:=aA (d.out.quiet (Ad _ (.cells #[.int .i64 y.kd,.string ⟨y.nm.toArray⟩,.float .f64 y.x,.slice ay y.ks.length cy,.complex .f64 y.z.1 y.z.2] 42)));obtain⟨L,Z,A,hS,T⟩:=Y.out.ka.owns W.heap.size (fun j e=>e.1);have U:L.length=l.length:=(by rw[<- Z,List.length_map]);have V:=Y.out.hB.2;have hq:=HQ.out;have H:=R.out;refine Bg _ rfl (.tmp 29) (.tmp 32) 38 rfl W.heap.size 42 i0 _ 5 72 underlying38 a0 b0 d0 e0 rfl (by decide) _ _ _ rfl A ⟨w5.heap.size,0,none⟩ 1 1 (Ah [(y,.slice ay y.ks.length cy)]) rfl rfl (Z2 _ _ _) (ZB _ _ _ _) (by unfold maxLen;omega) (by omega) V (by decide) ?_;intro v6 w6 J M N;have hF:=Y.out.append Z (fun g e=>⟨hS g e,(A.lt g e).2⟩) T (HA.out.bel (Ad _ _)) J M N;obtain⟨a6,c6,rfl⟩:=hF.ka.slice;replace d:=aA hF;clear hF J M N Z A hS T U V hq H Y HA) | (go_at_call 27;(with_reducible refine(Abv d.out.z).mono ?_);rintro e w2 ⟨rfl,rfl⟩;rcases okC X with⟨k,hb⟩ | ⟨k,hb⟩<;>rw[hb]<;>clear hb<;>(first | replace f:=Ym (k) f | (replace f:=XY (fun e=>e k) f;have g0:=aA k))<;>clear k) | (go_at_call 88;(with_reducible refine(AbQ HN.out HP.out d.out.z [44]).mono ?_);intro e w3 ha;obtain⟨b,p3,v,rfl,⟨rfl,B⟩,w,i,k⟩:=ha.partE f I;replace f:=i;clear i ha;(try dsimp only at f);have S:=aA d.out.z;replace d:=aA (d.out.move B w);clear B w;cases b<;>(simp only[if_true,if_false,aG,reduceIte] at f);all_goals ((try clear C D E t F c5 G);(try clear m0 m1 m2 m3 m4 mf);(try clear n0 n1 n2 n3 n4 nf);(try clear o0 J M N o4 of);(try clear k0 k1 k2 k3 k4 kf);obtain⟨C,D,E,t,F,c5,G⟩:=d.out.z.c6);all_goals (have P:=k;clear k)) | (go_at_call 28;(with_reducible refine(AbE HN.out d.out.z [] _ (K0 f I)).mono ?_);intro e w4 ha;obtain⟨_,p4,v,rfl,⟨rfl,B⟩,w,i,k⟩:=ha.partE f I;replace f:=i;clear i ha;(try dsimp only at f);replace d:=aA (d.out.move B w);clear B w;(try clear C D E t F c5 G);(try clear m0 m1 m2 m3 m4 mf);(try clear n0 n1 n2 n3 n4 nf);(try clear o0 J M N o4 of);(try clear k0 k1 k2 k3 k4 kf);obtain⟨C,D,E,t,F,c5,G⟩:=d.out.z.c6;have Q:=k;clear k) | (go_at_call 93;(with_reducible refine(HO.out _ (by omega) _ _ d.out.z (K0 f I)).mono ?_);intro e w5 ha;obtain⟨_,p5,v,rfl,⟨⟨y,kv,rfl,rfl,O⟩,B⟩,w,i,k⟩:=ha.partE f I;replace f:=i;clear i ha;have HQ:=aA (AcH HN.out S.out P.out Q.out k.out);clear k P Q S;(try dsimp only at f);obtain⟨ay,cy,rfl⟩:=O.slice;have HA:=aA (d.out.apart O);replace d:=aA (d.out.move B w);clear O B w;(try clear C D E t F c5 G);(try clear m0 m1 m2 m3 m4 mf);(try clear n0 n1 n2 n3 n4 nf);(try clear o0 J M N o4 of);(try clear k0 k1 k2 k3 k4 kf);obtain⟨C,D,E,t,F,c5,G⟩:=d.out.z.c6;unfold CJ))
 ·rw[HK.out] at f
  (try dsimp only at f)
  replace d:=aA (d.out.setG true);go_ret;exact Abx f ⟨d.out.k0,d.out.z⟩ d.out.o
 ·go_roundg m
  case rel=>exact⟨m,l++[y],a6,c6,p5,rfl,by rw[aH,aD],⟨by omega,by have:=R.out;have:=HQ.out;rw[aH,aD];omega⟩,f,d⟩
  all_goals omega
 rw[HK.out] at f
 (try dsimp only at f)
 replace d:=aA (d.out.setG true);go_ret;exact Abx f ⟨d.out.k0,d.out.z⟩ d.out.o
theorem lvC (t:Tk) :
  (¬ (t.e=0/\(t.kd=5\/isS t [36]=true))/\decide (t.e=0)=false/\True) \/
  ((t.e=0/\(t.kd=5\/isS t [36]=true))/\decide (t.e=0)=true/\(t.kd==5)=true) \/
  ((t.e=0/\(t.kd=5\/isS t [36]=true))/\decide (t.e=0)=true/\(t.kd==5)=false/\(t.kd==9)=true/\(t.tx==[36])=true) \/
  (¬ (t.e=0/\(t.kd=5\/isS t [36]=true))/\decide (t.e=0)=true/\(t.kd==5)=false/\(t.kd==9)=true/\(t.tx==[36])=false) \/
  (¬ (t.e=0/\(t.kd=5\/isS t [36]=true))/\decide (t.e=0)=true/\(t.kd==5)=false/\(t.kd==9)=false):=by
 by_cases b:t.e=0
 rotate_left
 ·exact .inl ⟨fun d=>b d.1,decide_eq_false b,trivial⟩
 have g:=decide_eq_true b;rcases Xt t.kd 5 with⟨f,a,-⟩ | ⟨f,a,-⟩
 ·exact .inr (.inl ⟨⟨b,.inl f⟩,g,a⟩)
 rcases Xt t.kd 9 with⟨i,c,-⟩ | ⟨i,c,-⟩
 ·rcases J0 t.tx [36] with⟨j,h⟩ | ⟨j,h⟩
  ·exact .inr (.inr (.inl ⟨⟨b,.inr (by unfold isS;rw[i,j];rfl)⟩,g,a,c,h⟩))
  exact .inr (.inr (.inr (.inl ⟨fun d=>d.2.elim f fun e=>(by unfold isS at e;simp only[aK,decide_eq_true_eq] at e;exact j e.2),g,a,c,h⟩)))
 exact .inr (.inr (.inr (.inr ⟨fun d=>d.2.elim f fun e=>(by unfold isS at e;simp only[aK,decide_eq_true_eq] at e;exact i e.1),g,a,c⟩)))
set_option linter.unusedSimpArgs false in
theorem AeO {nx:Nat->Bool->Tk} {pl:Nat->Nat×Nat} {ere:List UInt8->Option Bool} {Z:World} {q:Nat} {s:ByteArray} (hN:RxC nx s Z) (hP:RlC pl s) (n:Nat)
  (hO:NR nx pl ere Z q s n .operand 302):NR nx pl ere Z q s (n+1) .lval 301:=by
 intro p W h hh;obtain⟨r,er⟩:∃r,B0 nx pl ere (n+1) .lval p=r:=⟨_,rfl⟩;rw[er] at hh ⊢;rw[B0] at er;have c:=aA er;have b:=aA (Fr.start1 h (.int .i64 0) (.string ⟨#[]⟩) (.float .f64 0) (.slice none 0 0) (.complex .f64 0 0) 42);have HN:=aA hN;have HP:=aA hP;have HO:=aA (fun(p:Rs) (W:World) (h:Rz Z q s p W) (g:B0 nx pl ere n .operand p ≠ .hush)=>hO p W h g);clear er h hN hP hO
 (try clear m o w A B c5 C);(try clear D E F G H I);(try clear J K L M N O);(try clear o0 o1 o2 o3 o4 of);(try clear k0 k1 k2 k3 k4 kf);obtain⟨m,o,w,A,B,c5,C⟩:=b.out.z.c6;obtain⟨D,E,F,G,H,I⟩:=b.out.b0
 obtain⟨t,et⟩:∃t,nx p.a false=t:=⟨_,rfl⟩;rw[et] at c;have a0:=aA (fun W' (h':Rz Z q s p W')=>et▸AbF HN.out h' p.a h'.ha);clear et
 go_in
 go_wp2_with (first | (go_at_call 27;(with_reducible refine(Abv b.out.z).mono ?_);rintro e w5 ⟨rfl,rfl⟩;rcases okC p4 with⟨R,Q⟩ | ⟨R,Q⟩<;>rw[Q]<;>clear Q<;>(first | rw[if_pos R] at c | rw[if_neg R] at c)<;>clear R) | (go_at_call 27;(with_reducible refine(Abv b.out.z).mono ?_);rintro e w1 ⟨rfl,rfl⟩;rcases okC p with⟨R,Q⟩ | ⟨R,Q⟩<;>rw[Q]<;>clear Q<;>(first | replace c:=Ym (R) c | (replace c:=XY (fun e=>e R) c;have f0:=aA R))<;>clear R) | (go_at_call 48;(with_reducible refine(a0.out _ b.out.z).mono ?_);rintro e w2 ⟨rfl,Q⟩;replace b:=aA ((b.out.quiet Q).box (.int .i64 t.kd) (.string ⟨t.tx.toArray⟩) (.float .f64 t.nm) (.int .i64 t.f) (.int .i64 t.t) 70);clear Q;(try clear m o w A B c5 C);(try clear D E F G H I);(try clear J K L M N O);(try clear o0 o1 o2 o3 o4 of);(try clear k0 k1 k2 k3 k4 kf);obtain⟨m,o,w,A,B,c5,C⟩:=b.out.z.c6;obtain⟨D,E,F,G,H,I⟩:=b.out.b0;obtain⟨J,K,L,M,N,O⟩:=b.out.b1;unfold G1;rcases lvC t with⟨U,Y,bx⟩ | ⟨U,Y,b5⟩ | ⟨U,Y,b5,b9,e0⟩ | ⟨U,Y,b5,b9,e0⟩ | ⟨U,Y,b5,b9⟩<;>rw[Y]<;>(first | replace c:=Ym U c | replace c:=XY U c)<;>clear U Y) | (go_at_call 302;(with_reducible refine(HO.out _ _ b.out.z (K0 (Ab1 c) hh)).mono ?_);intro e w3 ha;obtain⟨_,p3,v,rfl,⟨⟨y,kv,rfl,rfl,hk⟩,T⟩,S,P⟩:=ha.part (Ab1 c) hh;replace c:=P;clear P ha;(try dsimp only at c);obtain⟨ay,cy,rfl⟩:=hk.slice;replace b:=aA ((b.out.read hk T S));clear hk T S;(try dsimp only[hd1,aI,aC,aE,aF] at c);(try clear m o w A B c5 C);(try clear D E F G H I);(try clear J K L M N O);(try clear o0 o1 o2 o3 o4 of);(try clear k0 k1 k2 k3 k4 kf);obtain⟨m,o,w,A,B,c5,C⟩:=b.out.z.c6;obtain⟨D,E,F,G,H,I⟩:=b.out.b0;obtain⟨J,K,L,M,N,O⟩:=b.out.b1;unfold CJ) | (go_at_call 29;(with_reducible refine(Afj HN.out HP.out b.out.z true).mono ?_);intro e w4 ha;obtain⟨u,p4,v,rfl,⟨⟨rfl,hf,-⟩,T⟩,S,P⟩:=ha.part c hh;replace c:=P;clear P ha;(try dsimp only at c);have d0:=aA hf;clear hf;replace b:=aA (b.out.move T S);clear T S;(try clear m o w A B c5 C);(try clear D E F G H I);(try clear J K L M N O);(try clear o0 o1 o2 o3 o4 of);(try clear k0 k1 k2 k3 k4 kf);obtain⟨m,o,w,A,B,c5,C⟩:=b.out.z.c6;obtain⟨D,E,F,G,H,I⟩:=b.out.b0;obtain⟨J,K,L,M,N,O⟩:=b.out.b1;replace b:=aA (b.out.store (.int .i64 u.kd) (.string ⟨u.tx.toArray⟩) (.float .f64 u.nm) (.int .i64 u.f) (.int .i64 u.t));obtain⟨x0,x1,x2,x3,x4,xf⟩:=b.out.b0;obtain⟨i0,i1,i2,i3,i4,ig⟩:=b.out.b1;unfold G1) | (go_at_call 54;(with_reducible refine(Acb HP.out b.out.z u d0.out).mono ?_);rintro e w6 ⟨rfl,T,S⟩;replace b:=aA (b.out.move T S);clear T S;(try clear m o w A B c5 C);(try clear D E F G H I);(try clear J K L M N O);(try clear o0 o1 o2 o3 o4 of);(try clear k0 k1 k2 k3 k4 kf);obtain⟨m,o,w,A,B,c5,C⟩:=b.out.z.c6;obtain⟨D,E,F,G,H,I⟩:=b.out.b0;obtain⟨J,K,L,M,N,O⟩:=b.out.b1))
 ·obtain⟨d,i,j,k,l,V⟩:=((((b.out.b1.set0 (.int .i64 0)).set1 (.string ⟨#[]⟩)).set2 (.float .f64 0)).set3 (.slice none 0 0)).set4 (.complex .f64 0 0)
  exact bodyPost_ret (v:=.agg #[.int .i64 0,.string ⟨#[]⟩,.float .f64 0,.slice none 0 0,.complex .f64 0 0]) (by simp[results,results301,go_sem,d,i,j,k,l]<;>exact rfl) rfl (b.out.done (t:=.mk 0 [] 0 (0,0) []) (Am.nil _) _ _ _ _ _ c)
 ·(try clear m o w A B c5 C);(try clear D E F G H I);(try clear J K L M N O);(try clear o0 o1 o2 o3 o4 of);(try clear k0 k1 k2 k3 k4 kf)
  clear x0 x1 x2 x3 x4 xf i0 i1 i2 i3 i4 ig
  revert b
  generalize aB (aB (aB (aB (aB w4 _ _) _ _) _ _) _ _) _ _=X;intro b;obtain⟨d,i,j,k,l,V⟩:=((((b.out.b1.set0 (.int .i64 0)).set1 (.string ⟨#[]⟩)).set2 (.float .f64 0)).set3 (.slice none 0 0)).set4 (.complex .f64 0 0);exact bodyPost_ret (v:=.agg #[.int .i64 0,.string ⟨#[]⟩,.float .f64 0,.slice none 0 0,.complex .f64 0 0]) (by simp[results,results301,go_sem,d,i,j,k,l]<;>exact rfl) rfl (b.out.done (t:=.mk 0 [] 0 (0,0) []) (Am.nil _) _ _ _ _ _ c)
 iterate 2
  focus
   obtain⟨d,i,j,k,l,V⟩:=((((b.out.b1.set0 (.int .i64 y.kd)).set1 (.string ⟨y.nm.toArray⟩)).set2 (.float .f64 y.x)).set3 (.slice ay y.ks.length cy)).set4 (.complex .f64 y.z.1 y.z.2);exact bodyPost_ret (v:=CJ y (.slice ay y.ks.length cy)) (by simp[CJ,results,results301,go_sem,d,i,j,k,l]<;>exact rfl) rfl (b.out.done b.out.k0 _ _ _ _ _ c)
 ·obtain⟨d,i,j,k,l,V⟩:=((((b.out.b1.set0 (.int .i64 0)).set1 (.string ⟨#[]⟩)).set2 (.float .f64 0)).set3 (.slice none 0 0)).set4 (.complex .f64 0 0)
  exact bodyPost_ret (v:=.agg #[.int .i64 0,.string ⟨#[]⟩,.float .f64 0,.slice none 0 0,.complex .f64 0 0]) (by simp[results,results301,go_sem,d,i,j,k,l]<;>exact rfl) rfl (b.out.done (t:=.mk 0 [] 0 (0,0) []) (Am.nil _) _ _ _ _ _ c)
 ·(try clear m o w A B c5 C);(try clear D E F G H I);(try clear J K L M N O);(try clear o0 o1 o2 o3 o4 of);(try clear k0 k1 k2 k3 k4 kf)
  clear x0 x1 x2 x3 x4 xf i0 i1 i2 i3 i4 ig
  revert b
  generalize aB (aB (aB (aB (aB w4 _ _) _ _) _ _) _ _) _ _=X;intro b;obtain⟨d,i,j,k,l,V⟩:=((((b.out.b1.set0 (.int .i64 0)).set1 (.string ⟨#[]⟩)).set2 (.float .f64 0)).set3 (.slice none 0 0)).set4 (.complex .f64 0 0);exact bodyPost_ret (v:=.agg #[.int .i64 0,.string ⟨#[]⟩,.float .f64 0,.slice none 0 0,.complex .f64 0 0]) (by simp[results,results301,go_sem,d,i,j,k,l]<;>exact rfl) rfl (b.out.done (t:=.mk 0 [] 0 (0,0) []) (Am.nil _) _ _ _ _ _ c)
 ·obtain⟨d,i,j,k,l,V⟩:=((((b.out.b1.set0 (.int .i64 0)).set1 (.string ⟨#[]⟩)).set2 (.float .f64 0)).set3 (.slice none 0 0)).set4 (.complex .f64 0 0)
  exact bodyPost_ret (v:=.agg #[.int .i64 0,.string ⟨#[]⟩,.float .f64 0,.slice none 0 0,.complex .f64 0 0]) (by simp[results,results301,go_sem,d,i,j,k,l]<;>exact rfl) rfl (b.out.done (t:=.mk 0 [] 0 (0,0) []) (Am.nil _) _ _ _ _ _ c)
 ·(try clear m o w A B c5 C);(try clear D E F G H I);(try clear J K L M N O);(try clear o0 o1 o2 o3 o4 of);(try clear k0 k1 k2 k3 k4 kf)
  clear x0 x1 x2 x3 x4 xf i0 i1 i2 i3 i4 ig
  revert b
  generalize aB (aB (aB (aB (aB w4 _ _) _ _) _ _) _ _) _ _=X;intro b;obtain⟨d,i,j,k,l,V⟩:=((((b.out.b1.set0 (.int .i64 0)).set1 (.string ⟨#[]⟩)).set2 (.float .f64 0)).set3 (.slice none 0 0)).set4 (.complex .f64 0 0);exact bodyPost_ret (v:=.agg #[.int .i64 0,.string ⟨#[]⟩,.float .f64 0,.slice none 0 0,.complex .f64 0 0]) (by simp[results,results301,go_sem,d,i,j,k,l]<;>exact rfl) rfl (b.out.done (t:=.mk 0 [] 0 (0,0) []) (Am.nil _) _ _ _ _ _ c)
 (try clear m o w A B c5 C);(try clear D E F G H I);(try clear J K L M N O);(try clear o0 o1 o2 o3 o4 of);(try clear k0 k1 k2 k3 k4 kf)
 revert b
 generalize World.alloc W _=X;intro b;obtain⟨d,i,j,k,l,V⟩:=b.out.b0;exact bodyPost_ret (v:=.agg #[.int .i64 0,.string ⟨#[]⟩,.float .f64 0,.slice none 0 0,.complex .f64 0 0]) (by simp[results,results301,go_sem,d,i,j,k,l]<;>exact rfl) rfl (b.out.here (t:=.mk 0 [] 0 (0,0) []) (Am.nil _) c)
theorem cn6 {w:World} {b:Nat} {s:ByteArray} {p:Rs} (h:CN w b (rsV s p)):w.cell? ⟨b,0,none⟩=some (.string s)/\w.cell? ⟨b,1,none⟩=some (.int .i64 p.a)/\w.cell? ⟨b,2,none⟩=some (.int .i64 p.o)/\w.cell? ⟨b,3,none⟩=some (.bool p.g)/\w.cell? ⟨b,4,none⟩=some (.int .i64 p.e) /\
 w.cell? ⟨b,5,none⟩=some (.complex .f64 p.z.1 p.z.2):=⟨h.c 0 _ rfl,h.c 1 _ rfl,h.c 2 _ rfl,h.c 3 _ rfl,h.c 4 _ rfl,h.c 5 _ rfl⟩
section
variable {nx:Nat->Bool->Tk} {pl:Nat->Nat×Nat} {w0 W V w w':World} {q B:Nat} {s:ByteArray} {p p':Rs} {l:List B5} {ks:List (List Tr×Value)}
theorem AgE (i:RxC nx s w0) (j:RlC pl s) (h:Rz w0 q s p W) (x:List UInt8) :
  Calls prog 88 #[.pointer (some ⟨q,0,none⟩),.string ⟨x.toArray⟩] W (AbJ q W (takeR nx pl x p) fun b p' v w'=>(v = .bool b/\(b=false->p'=p))/\Rz w0 q s p' w'):=by
 refine(AbQ i j h x).mono fun e w' ha=>?_
 cases a:takeR nx pl x p with
 | hush=>trivial
 | ok b p' =>
   rw[a] at ha;obtain⟨v,c,⟨d,f⟩,g⟩:=ha;refine⟨v,c,⟨⟨d,fun e=>?_⟩,f⟩,g⟩;subst e;unfold takeR isR at a;simp only[RO.bind] at a;split at a
   ·injection a with h _;cases h
   injection a with _ h;exact h.symm
theorem Fr.reset (h:Fr w0 V q B s p' l ks w) (b:Rz w0 q s p W):Fr w0 V q B s p l ks ((((((w.setCell ⟨q,0,none⟩ (.string s)).setCell ⟨q,1,none⟩ (.int .i64 p.a)).setCell ⟨q,2,none⟩ (.int .i64 p.o)).setCell ⟨q,3,none⟩ (.bool p.g)).setCell ⟨q,4,none⟩ (.int .i64 p.e)).setCell ⟨q,5,none⟩ (.complex .f64 p.z.1 p.z.2)):=by
 have d:=((((((Ae.refl q w).set 0 (.string s)).set 1 (.int .i64 p.a)).set 2 (.int .i64 p.o)).set 3 (.bool p.g)).set 4 (.int .i64 p.e)).set 5 (.complex .f64 p.z.1 p.z.2);refine h.move ⟨d.below_of h.z.below h.z.hq h.z.below.size,h.z.hq,?_,b.ha,b.hs,b.d1,b.d2⟩ d;exact(((((h.z.c.set 0 (.string s) (by simp[rsV])).set 1 (.int .i64 p.a) (by simp[rsV])).set 2 (.int .i64 p.o) (by simp[rsV])).set 3 (.bool p.g) (by simp[rsV])).set 4 (.int .i64 p.e) (by simp[rsV])).set 5 (.complex .f64 p.z.1 p.z.2) (by simp[rsV])
theorem Acm {r:RO (List Tr)} {e:Ending} (a:Below W.heap.size W V) (h:AbJ q V r (Ac7 w0 q s V) e w'):AbJ q W r (Ac7 w0 q s W) e w':=by
 cases r with
 | hush=>trivial
 | ok x p =>
   obtain⟨v,b,⟨c,d⟩,f⟩:=h;exact⟨v,b,⟨c.mono fun j _ g=>Nat.le_trans a.size g,d⟩,(Ae.of_below q a).trans f⟩
theorem okB {a b:Type} {x:a} {p:Rs} {k:a->Rs->RO b} {r:RO b} (c:Hid ((RO.ok x p).bind k=r)):Hid (k x p=r):=c
theorem Aiz {c:Type} {a b:Prop} {i:Decidable (a/\b/\false=true)} {x y r:c} (e:Hid (@ite c (a/\b/\false=true) i x y=r)):Hid (y=r):=XY (fun d=>absurd d.2.2 Bool.false_ne_true) e
theorem AiB {b:Type} {a:Prop} {n m:Nat} {i:Decidable (a/\n<m/\true=true)} {x y r:b} (ha:a) (d:(n:Int)<m) (c:Hid (@ite b (a/\n<m/\true=true) i x y=r)):Hid (x=r):=Ym ⟨ha,Int.ofNat_lt.1 d,rfl⟩ c
theorem AiA {b:Type} {a c:Prop} {n m:Nat} {i:Decidable (a/\n<m/\c)} {x y r:b} (f:(m:Int)<=n) (e:Hid (@ite b (a/\n<m/\c) i x y=r)):Hid (y=r):=XY (fun d=>absurd (Int.ofNat_lt.2 d.2.1) (Int.not_lt.2 f)) e
theorem Aiy {b:Type} {a c:Prop} {i:Decidable (a/\c)} {x y r:b} (ha:¬ a) (e:Hid (@ite b (a/\c) i x y=r)):Hid (y=r):=XY (fun d=>ha d.1) e
theorem Ahy (nx:Nat->Bool->Tk) (p:Rs):∃c,Ach nx p = .ok c p:=⟨_,rfl⟩
end
set_option linter.unusedSimpArgs false in
theorem AeP {nx:Nat->Bool->Tk} {pl:Nat->Nat×Nat} {ere:List UInt8->Option Bool} {w0:World} {q:Nat} {s:ByteArray} (hN:RxC nx s w0) (hP:RlC pl s) (n:Nat)
  (Z:LR nx pl ere w0 q s n):UR nx pl ere w0 q s (n+1):=by
 intro p W h I;obtain⟨r,P⟩:∃r,B0 nx pl ere (n+1) .outs p=r:=⟨_,rfl⟩;rw[P] at I ⊢;rw[B0] at P;have f:=aA P;have N:W.heap.size≠q:=by have:=h.lt;omega
 have K:=aA (Ad W (.cells #[.string s,.int .i64 p.a,.int .i64 p.o,.bool p.g,.int .i64 p.e,.complex .f64 p.z.1 p.z.2] 67));have l:=aA (fun w (j:Ae q (W.alloc (.cells #[.string s,.int .i64 p.a,.int .i64 p.o,.bool p.g,.int .i64 p.e,.complex .f64 p.z.1 p.z.2] 67)) w)=>(CN.new W (rsV s p) 67).only j N);have d:=aA (Fr.start (h.keep (Ad W (.cells #[.string s,.int .i64 p.a,.int .i64 p.o,.bool p.g,.int .i64 p.e,.complex .f64 p.z.1 p.z.2] 67))));have R:=aA hN;have X:=aA hP;have Y:=aA h;have Q:=aA (fun O p W (h:Rz w0 q s p W) (g:B0 nx pl ere n (.list O) p ≠ .hush)=>Z O p W h g);obtain⟨d0,d1,d2,d3,d4,d5,df⟩:=h.c6
 clear P h hN hP Z N
 go_in
 go_wp2_with (first | (go_at_call 88;(with_reducible refine(AgE R.out X.out d.out.z [40]).mono ?_);intro e w1 ha;obtain⟨b,p1,v,rfl,⟨⟨rfl,L⟩,k⟩,j,i⟩:=ha.part f I;replace f:=i;clear i ha;(try dsimp only at f);replace d:=aA (d.out.move k j);clear k j;(try clear m t u x y c5 A);(try clear m0 m1 m2 m3 m4 mf);(try clear n0 n1 n2 n3 n4 nf);(try clear o0 o1 o2 o3 o4 of);(try clear k0 k1 k2 k3 k4 kf);obtain⟨m,t,u,x,y,c5,A⟩:=d.out.z.c6;cases b<;>(simp only[if_true,if_false,aG,reduceIte] at f);all_goals (first | (rw[L rfl] at d;have J:=aA (d.out.setG true);clear L) | clear L);all_goals ((try clear C D E F G H);obtain⟨C,D,E,F,G,H⟩:=cn6 (l.out _ d.out.o))) | (go_at_call 238;(with_reducible refine(Q.out false _ _ d.out.z (K0 f I)).mono ?_);intro e w2 ha;obtain⟨l2,p2,v,rfl,⟨B,k⟩,j,i⟩:=ha.part f I;replace f:=i;clear i ha;(try dsimp only at f);obtain⟨a0,b0,rfl⟩:=B.slice;replace d:=aA (d.out.read B k j);clear B k j;(try clear m t u x y c5 A);(try clear m0 m1 m2 m3 m4 mf);(try clear n0 n1 n2 n3 n4 nf);(try clear o0 o1 o2 o3 o4 of);(try clear k0 k1 k2 k3 k4 kf);obtain⟨m,t,u,x,y,c5,A⟩:=d.out.z.c6) | (go_at_call 89;(with_reducible refine(Abn R.out X.out d.out.z [41]).mono ?_);intro e w3 ha;obtain⟨_,p3,v,rfl,⟨rfl,k⟩,j,i⟩:=ha.part f I;replace f:=i;clear i ha;(try dsimp only at f);replace d:=aA (d.out.move k j);clear k j;(try clear m t u x y c5 A);(try clear m0 m1 m2 m3 m4 mf);(try clear n0 n1 n2 n3 n4 nf);(try clear o0 o1 o2 o3 o4 of);(try clear k0 k1 k2 k3 k4 kf);obtain⟨m,t,u,x,y,c5,A⟩:=d.out.z.c6;(try clear C D E F G H);obtain⟨C,D,E,F,G,H⟩:=cn6 (l.out _ d.out.o);obtain⟨c,V⟩:=Ahy nx p3;rw[V] at f;replace f:=okB f;(try dsimp only at f);have HC:=aA V;clear V;have J:=aA ((d.out.reset Y.out).setG true)) | (go_at_call 27;(with_reducible refine(Abv d.out.z).mono ?_);rintro e w4 ⟨rfl,rfl⟩;rcases okC p3 with⟨M,U⟩ | ⟨M,U⟩<;>rw[U]<;>clear U<;>(first | (replace f:=Aiy M f;clear M) | (have HE:=aA M;clear M))) | (go_at_call 239;(refine(AeU R.out d.out.z).mono ?_);intro e w5 ha;rw[HC.out] at ha;obtain⟨v,rfl,⟨rfl,k⟩,j⟩:=ha;replace d:=aA (d.out.move k j);clear k j;(try clear m t u x y c5 A);(try clear m0 m1 m2 m3 m4 mf);(try clear n0 n1 n2 n3 n4 nf);(try clear o0 o1 o2 o3 o4 of);(try clear k0 k1 k2 k3 k4 kf);obtain⟨m,t,u,x,y,c5,A⟩:=d.out.z.c6;(try clear C D E F G H);obtain⟨C,D,E,F,G,H⟩:=cn6 (l.out _ d.out.o);cases c<;>(first | replace f:=Aiz f | replace f:=AiB HE.out ‹(1:Int)<(l2.length:Int)› f);all_goals (have J:=aA ((d.out.reset Y.out).setG true))) | (go_at_call 238;replace f:=AiA ‹(l2.length:Int)<=(1:Int)› f;(with_reducible refine(Q.out true _ _ J.out.z (K0 f I)).mono ?_);intro e w6 ha;obtain⟨l6,p6,v,rfl,⟨B,k⟩,j,i⟩:=ha.part f I;replace f:=i;clear i ha;(try dsimp only at f);obtain⟨S,T,rfl⟩:=B.slice;replace d:=aA (J.out.read B k j);clear B k j J;(try clear m t u x y c5 A);(try clear m0 m1 m2 m3 m4 mf);(try clear n0 n1 n2 n3 n4 nf);(try clear o0 o1 o2 o3 o4 of);(try clear k0 k1 k2 k3 k4 kf);obtain⟨m,t,u,x,y,c5,A⟩:=d.out.z.c6;(try clear C D E F G H);obtain⟨C,D,E,F,G,H⟩:=cn6 (l.out _ d.out.o)) | (go_at_call 238;(with_reducible refine(Q.out true _ _ J.out.z (K0 f I)).mono ?_);intro e w6 ha;obtain⟨l6,p6,v,rfl,⟨B,k⟩,j,i⟩:=ha.part f I;replace f:=i;clear i ha;(try dsimp only at f);obtain⟨S,T,rfl⟩:=B.slice;replace d:=aA (J.out.read B k j);clear B k j J;(try clear m t u x y c5 A);(try clear m0 m1 m2 m3 m4 mf);(try clear n0 n1 n2 n3 n4 nf);(try clear o0 o1 o2 o3 o4 of);(try clear k0 k1 k2 k3 k4 kf);obtain⟨m,t,u,x,y,c5,A⟩:=d.out.z.c6;(try clear C D E F G H);obtain⟨C,D,E,F,G,H⟩:=cn6 (l.out _ d.out.o)))
 iterate 2
  focus
   replace d:=aA (d.out.setG p.g);go_ret;exact Acm K.out (Abx f ⟨d.out.k0,d.out.z⟩ d.out.o)
 ·go_ret
  exact Acm K.out (Abx f ⟨d.out.k0,d.out.z⟩ d.out.o)
 iterate 2
  focus
   replace d:=aA (d.out.setG p.g);go_ret;exact Acm K.out (Abx f ⟨d.out.k0,d.out.z⟩ d.out.o)
end Go.Proofs.YtfblenhlildnaaaGreatDoor
