/- Lk Ll Lm Cy Dc -/
import Derived.Test.YtfblenhlildnaaaGreatDoorIr
import Derived.Test.YtfblenhlildnaaaGreatDoorCa
import Derived.Test.YtfblenhlildnaaaGreatDoorBu
import Derived.Test.YtfblenhlildnaaaGreatDoorCx
set_option maxRecDepth 100000
set_option maxHeartbeats 4000000
open Go.Lib renaming hid->aA
open List renaming singleton_append->aB,cons_append->aC,nil_append->aD,headD->aE
open Nat renaming lt_of_lt_of_le->aF,le_refl->aG
namespace Go.Proofs.YtfblenhlildnaaaGreatDoor
open Go.Proofs.Tryz
open Go.RowKit
set_option linter.unusedSimpArgs false in
theorem Agx {nx:Nat->Bool->Tk} {pl:Nat->Nat×Nat} {ere:List UInt8->Option Bool} {w0:World} {q:Nat} {s:ByteArray} (hN:RxC nx s w0) (hP:RlC pl s) (n:Nat)
  (hO:∀m,m<=n->NR nx pl ere w0 q s m .mat 258):NR nx pl ere w0 q s (n+1) .inn 240:=by
 intro p W h T;obtain⟨r,er⟩:∃r,B0 nx pl ere (n+1) .inn p=r:=⟨_,rfl⟩;rw[er] at T ⊢;rw[B0] at er;have d:=aA er;have a:=aA (Fr.start1 h (.int .i64 0) (.string ⟨#[]⟩) (.float .f64 0) (.slice none 0 0) (.complex .f64 0 0) 42);have HN:=aA hN;have HP:=aA hP;have HO:=aA (fun m (hm:m<=n) (p:Rs) (W:World) (h:Rz w0 q s p W) (g:B0 nx pl ere m .mat p ≠ .hush)=>hO m hm p W h g);clear er h hN hP hO
 (try clear i j k l w c5 y);(try clear C D E F G H);(try clear I J K L M N);(try clear O P Q R S of);(try clear k0 k1 U V X Y);obtain⟨i,j,k,l,w,c5,y⟩:=a.out.z.c6;obtain⟨C,D,E,F,G,H⟩:=a.out.b0
 go_in
 go_wp2_with (first | (go_at_call 258;(with_reducible refine(HO.out _ (aG _) _ _ a.out.z (K0 d T)).mono ?_);intro e w1 ha;obtain⟨_,p1,v,rfl,⟨⟨u,kv,rfl,rfl,hk⟩,B⟩,A,c⟩:=ha.part d T;replace d:=c;clear c ha;(try dsimp only at d);obtain⟨au,cu,rfl⟩:=hk.slice;replace a:=aA ((a.out.read hk B A).box (.int .i64 u.kd) (.string ⟨u.nm.toArray⟩) (.float .f64 u.x) (.slice au u.ks.length cu) (.complex .f64 u.z.1 u.z.2) 42);clear hk B A;(try dsimp only[hd1,aE,aB,aC,aD] at d);(try clear i j k l w c5 y);(try clear C D E F G H);(try clear I J K L M N);(try clear O P Q R S of);(try clear k0 k1 U V X Y);obtain⟨i,j,k,l,w,c5,y⟩:=a.out.z.c6;obtain⟨C,D,E,F,G,H⟩:=a.out.b0;obtain⟨I,J,K,L,M,N⟩:=a.out.b1;unfold CJ))
 (try clear i j k l w c5 y);(try clear C D E F G H);(try clear I J K L M N);(try clear O P Q R S of);(try clear k0 k1 U V X Y)
 go_loopg [] n (fun g wr=>∃(m:Nat) (x:Tr) (ax:Option Addr) (cx:Nat) (pr:Rs),m=g/\m<=n/\Hid (B0 nx pl ere m (.innL x) pr=r)/\Hid (Fr w0 W q (W.heap.size+1) s pr [⟨w1.heap.size,.int .i64 x.kd,.string ⟨x.nm.toArray⟩,.float .f64 x.x,.slice ax x.ks.length cx,.complex .f64 x.z.1 x.z.2⟩,⟨W.heap.size,.int .i64 0,.string ⟨#[]⟩,.float .f64 0,.slice none 0 0,.complex .f64 0 0⟩] [(x.ks,.slice ax x.ks.length cx)] wr))
 case atStart=>exact⟨n,u,au,cu,p1,rfl,aG _,d,a⟩
 clear a d;obtain⟨m,x,ax,cx,pr,rfl,a0,d,a⟩:=hrel
 cases m with
 | zero=>exact absurd d.out.symm T
 | succ m =>
 replace d:=aA (by have:=d.out;rw[B0] at this;exact this)
 (try clear i j k l w c5 y);(try clear C D E F G H);(try clear I J K L M N);(try clear O P Q R S of);(try clear k0 k1 U V X Y);obtain⟨i,j,k,l,w,c5,y⟩:=a.out.z.c6;obtain⟨C,D,E,F,G,H⟩:=a.out.b0;obtain⟨I,J,K,L,M,N⟩:=a.out.b1
 go_wp2_with (first | (go_at_call 51;(with_reducible refine(AbB HN.out a.out.z [105,110]).mono ?_);intro e w2 ha;obtain⟨b,p2,v,rfl,⟨⟨rfl,rfl,-⟩,B⟩,A,c⟩:=ha.part d T;replace d:=c;clear c ha;(try dsimp only at d);replace a:=aA (a.out.move B A);clear B A;cases b<;>(simp only[if_true,if_false,Bool.false_eq_true,reduceIte] at d);all_goals ((try clear i j k l w c5 y);(try clear C D E F G H);(try clear I J K L M N);(try clear O P Q R S of);(try clear k0 k1 U V X Y);obtain⟨i,j,k,l,w,c5,y⟩:=a.out.z.c6;obtain⟨C,D,E,F,G,H⟩:=a.out.b0;obtain⟨I,J,K,L,M,N⟩:=a.out.b1)) | (go_at_call 87;(with_reducible refine(Ab4 HN.out HP.out a.out.z false).mono ?_);intro e w3 ha;obtain⟨⟨t,z⟩,p3,v,rfl,⟨⟨rfl,rfl,-⟩,B⟩,A,c⟩:=ha.part d T;replace d:=c;clear c ha;(try dsimp only at d);replace a:=aA ((a.out.move B A).box (.int .i64 t.kd) (.string ⟨t.tx.toArray⟩) (.float .f64 t.nm) (.int .i64 t.f) (.int .i64 t.t) 70);clear B A;(try dsimp only at d);(try dsimp only);(try clear i j k l w c5 y);(try clear C D E F G H);(try clear I J K L M N);(try clear O P Q R S of);(try clear k0 k1 U V X Y);obtain⟨i,j,k,l,w,c5,y⟩:=a.out.z.c6;obtain⟨C,D,E,F,G,H⟩:=a.out.b0;obtain⟨I,J,K,L,M,N⟩:=a.out.b1;obtain⟨O,P,Q,R,S,of⟩:=a.out.b2;unfold G1) | (go_at_call 88;(with_reducible refine(AbQ HN.out HP.out a.out.z [105,110]).mono ?_);intro e w4 ha;obtain⟨_,p4,v,rfl,⟨rfl,B⟩,A,c⟩:=ha.part d T;replace d:=c;clear c ha;(try dsimp only at d);replace a:=aA (a.out.move B A);clear B A;(try clear i j k l w c5 y);(try clear C D E F G H);(try clear I J K L M N);(try clear O P Q R S of);(try clear k0 k1 U V X Y);obtain⟨i,j,k,l,w,c5,y⟩:=a.out.z.c6;obtain⟨C,D,E,F,G,H⟩:=a.out.b0;obtain⟨I,J,K,L,M,N⟩:=a.out.b1;obtain⟨O,P,Q,R,S,of⟩:=a.out.b2) | (go_at_call 90;(with_reducible refine(AdG HN.out HP.out a.out.z).mono ?_);intro e w5 ha;obtain⟨Z,p5,v,rfl,⟨rfl,B⟩,A,c⟩:=ha.part d T;replace d:=c;clear c ha;(try dsimp only at d);replace a:=aA ((a.out.move B A).box (.int .i64 Z.kd) (.string ⟨Z.tx.toArray⟩) (.float .f64 Z.nm) (.int .i64 Z.f) (.int .i64 Z.t) 70);clear B A;(try clear i j k l w c5 y);(try clear C D E F G H);(try clear I J K L M N);(try clear O P Q R S of);(try clear k0 k1 U V X Y);obtain⟨i,j,k,l,w,c5,y⟩:=a.out.z.c6;obtain⟨C,D,E,F,G,H⟩:=a.out.b0;obtain⟨I,J,K,L,M,N⟩:=a.out.b1;obtain⟨O,P,Q,R,S,of⟩:=a.out.b2;obtain⟨k0,k1,U,V,X,Y⟩:=a.out.b3;unfold G1;obtain⟨j0,j1,j2,j3,j4,jf⟩:=a.out.kid1.b2))
 ·obtain⟨z0,z1,z2,z3,z4,zf⟩:=((((a.out.b1.set0 (.int .i64 x.kd)).set1 (.string ⟨x.nm.toArray⟩)).set2 (.float .f64 x.x)).set3 (.slice ax x.ks.length cx)).set4 (.complex .f64 x.z.1 x.z.2)
  exact bodyPost_ret (v:=CJ x (.slice ax x.ks.length cx)) (by simp[CJ,results,results240,go_sem,z0,z1,z2,z3,z4]<;>exact rfl) rfl (a.out.done a.out.k0 _ _ _ _ _ d)
 have HK:=a.out.drop.drop.kid1;rw[show ∀o,(w5.alloc o).heap.size=w5.heap.size+1 from fun o=>by simp] at HK;replace a:=aA (HK.store (.int .i64 11) (.string ⟨Z.tx.toArray⟩) (.float .f64 0) (.slice (some ⟨w5.heap.size+1,0,none⟩) 1 1) (.complex .f64 z.1 z.2));clear HK
 go_roundg m
 case rel=>exact⟨m,.mk 11 Z.tx 0 z [x],some ⟨w5.heap.size+1,0,none⟩,1,p5,rfl,by omega,d,aA a.out.row1⟩
 all_goals omega
set_option linter.unusedSimpArgs false in
theorem Aes {nx:Nat->Bool->Tk} {pl:Nat->Nat×Nat} {ere:List UInt8->Option Bool} {H:World} {q:Nat} {s:ByteArray} (S:RxC nx s H) (U:RlC pl s) (n:Nat)
  (T:NR nx pl ere H q s n .power 295)
  (V:NR nx pl ere H q s n .unary 293):NR nx pl ere H q s (n+1) .unary 293:=by
 intro p W h G;obtain⟨r,J⟩:∃r,B0 nx pl ere (n+1) .unary p=r:=⟨_,rfl⟩;rw[J] at G ⊢;rw[B0] at J;have c:=aA J;have a:=aA (Fr.start1 h (.int .i64 0) (.string ⟨#[]⟩) (.float .f64 0) (.slice none 0 0) (.complex .f64 0 0) 42);have Y:=aA S;have HP:=aA U;have Z:=aA (fun(p:Rs) (W:World) (h:Rz H q s p W) (g:B0 nx pl ere n .power p ≠ .hush)=>T p W h g);have HU:=aA (fun(p:Rs) (W:World) (h:Rz H q s p W) (g:B0 nx pl ere n .unary p ≠ .hush)=>V p W h g);clear J h S U T V
 (try clear i j k l m c5 u);(try clear A B C D E F);(try clear n0 n1 n2 n3 n4 nf);(try clear o0 o1 o2 o3 o4 of);(try clear k0 k1 k2 k3 k4 kf);obtain⟨i,j,k,l,m,c5,u⟩:=a.out.z.c6;obtain⟨A,B,C,D,E,F⟩:=a.out.b0
 go_in
 go_wp2_with (first | (go_at_call 115;(with_reducible refine(Aby Y.out HP.out a.out.z [33,32,45,32,43] [[33],[45],[43]] (by kernel_rfl) (by decide)).mono ?_);intro e w1 ha;obtain⟨o,p1,v,rfl,⟨rfl,f⟩,d,b⟩:=ha.part c G;replace c:=b;clear b ha;(try dsimp only at c);replace a:=aA (a.out.move f d);clear f d;rcases o with _ | ⟨M,I⟩<;>dsimp only at c<;>unfold Acy<;>dsimp only;all_goals ((try clear i j k l m c5 u);(try clear A B C D E F);(try clear n0 n1 n2 n3 n4 nf);(try clear o0 o1 o2 o3 o4 of);(try clear k0 k1 k2 k3 k4 kf);obtain⟨i,j,k,l,m,c5,u⟩:=a.out.z.c6;obtain⟨A,B,C,D,E,F⟩:=a.out.b0)) | (go_at_call 293;(with_reducible refine(HU.out _ _ a.out.z (K0 c G)).mono ?_);intro e X ha;obtain⟨_,p2,v,rfl,⟨⟨y,kv,rfl,rfl,w⟩,f⟩,d,b⟩:=ha.part c G;replace c:=b;clear b ha;(try dsimp only at c);obtain⟨K,L,rfl⟩:=w.slice;replace a:=aA ((a.out.read w f d));clear w f d;(try dsimp only[hd1,aE,aB,aC,aD] at c);(try clear i j k l m c5 u);(try clear A B C D E F);(try clear n0 n1 n2 n3 n4 nf);(try clear o0 o1 o2 o3 o4 of);(try clear k0 k1 k2 k3 k4 kf);obtain⟨i,j,k,l,m,c5,u⟩:=a.out.z.c6;obtain⟨A,B,C,D,E,F⟩:=a.out.b0;unfold CJ;obtain⟨j0,j1,j2,j3,j4,jf⟩:=a.out.kid1.b0) | (go_at_call 295;(with_reducible refine(Z.out _ _ a.out.z (K0 (Ab1 c) G)).mono ?_);intro e w3 ha;obtain⟨_,p3,v,rfl,⟨⟨y,kv,rfl,rfl,w⟩,f⟩,d,b⟩:=ha.part (Ab1 c) G;replace c:=b;clear b ha;(try dsimp only at c);obtain⟨K,L,rfl⟩:=w.slice;replace a:=aA ((a.out.read w f d));clear w f d;(try dsimp only[hd1,aE,aB,aC,aD] at c);(try clear i j k l m c5 u);(try clear A B C D E F);(try clear n0 n1 n2 n3 n4 nf);(try clear o0 o1 o2 o3 o4 of);(try clear k0 k1 k2 k3 k4 kf);obtain⟨i,j,k,l,m,c5,u⟩:=a.out.z.c6;obtain⟨A,B,C,D,E,F⟩:=a.out.b0;unfold CJ))
 ·obtain⟨N,O,P,Q,R,zf⟩:=((((a.out.b0.set0 (.int .i64 y.kd)).set1 (.string ⟨y.nm.toArray⟩)).set2 (.float .f64 y.x)).set3 (.slice K y.ks.length L)).set4 (.complex .f64 y.z.1 y.z.2)
  exact bodyPost_ret (v:=CJ y (.slice K y.ks.length L)) (by simp[CJ,results,results293,go_sem,N,O,P,Q,R]<;>exact rfl) rfl (a.out.done a.out.k0 _ _ _ _ _ c)
 replace a:=aA a.out.kid1;obtain⟨N,O,P,Q,R,zf⟩:=((((a.out.b0.set0 (.int .i64 16)).set1 (.string ⟨M.toArray⟩)).set2 (.float .f64 0)).set3 (.slice (some ⟨X.heap.size,0,none⟩) 1 1)).set4 (.complex .f64 I.1 I.2);exact bodyPost_ret (v:=.agg #[.int .i64 16,.string ⟨M.toArray⟩,.float .f64 0,.slice (some ⟨X.heap.size,0,none⟩) 1 1,.complex .f64 I.1 I.2]) (by simp[results,results293,go_sem,N,O,P,Q,R]<;>exact rfl) rfl (a.out.done (t:=.mk 16 M 0 I [y]) a.out.k0 _ _ _ _ _ c)
set_option linter.unusedSimpArgs false in
theorem Aep {nx:Nat->Bool->Tk} {pl:Nat->Nat×Nat} {ere:List UInt8->Option Bool} {T:World} {q:Nat} {s:ByteArray} (hN:RxC nx s T) (hP:RlC pl s) (n:Nat)
  (hO:NR nx pl ere T q s n .post 297)
  (hU:NR nx pl ere T q s n .unary 293):NR nx pl ere T q s (n+1) .power 295:=by
 intro p W h F;obtain⟨r,X⟩:∃r,B0 nx pl ere (n+1) .power p=r:=⟨_,rfl⟩;rw[X] at F ⊢;rw[B0] at X;have c:=aA X;have a:=aA (Fr.start1 h (.int .i64 0) (.string ⟨#[]⟩) (.float .f64 0) (.slice none 0 0) (.complex .f64 0 0) 42);have HN:=aA hN;have HP:=aA hP;have HO:=aA (fun(p:Rs) (W:World) (h:Rz T q s p W) (g:B0 nx pl ere n .post p ≠ .hush)=>hO p W h g);have HU:=aA (fun(p:Rs) (W:World) (h:Rz T q s p W) (g:B0 nx pl ere n .unary p ≠ .hush)=>hU p W h g);clear X h hN hP hO hU
 (try clear m A B C D c5 E);(try clear G H I J L M);(try clear N O P Q R S);(try clear o0 o1 o2 o3 o4 of);(try clear k0 k1 k2 k3 k4 kf);obtain⟨m,A,B,C,D,c5,E⟩:=a.out.z.c6;obtain⟨G,H,I,J,L,M⟩:=a.out.b0
 go_in
 go_wp2_with (first | (go_at_call 297;(with_reducible refine(HO.out _ _ a.out.z (K0 c F)).mono ?_);intro e w1 ha;obtain⟨_,p1,v,rfl,⟨⟨u,kv,rfl,rfl,k⟩,i⟩,f,b⟩:=ha.part c F;replace c:=b;clear b ha;(try dsimp only at c);obtain⟨U,V,rfl⟩:=k.slice;replace a:=aA ((a.out.read k i f).box (.int .i64 u.kd) (.string ⟨u.nm.toArray⟩) (.float .f64 u.x) (.slice U u.ks.length V) (.complex .f64 u.z.1 u.z.2) 42);clear k i f;(try dsimp only[hd1,aE,aB,aC,aD] at c);(try clear m A B C D c5 E);(try clear G H I J L M);(try clear N O P Q R S);(try clear o0 o1 o2 o3 o4 of);(try clear k0 k1 k2 k3 k4 kf);obtain⟨m,A,B,C,D,c5,E⟩:=a.out.z.c6;obtain⟨G,H,I,J,L,M⟩:=a.out.b0;obtain⟨N,O,P,Q,R,S⟩:=a.out.b1;unfold CJ) | (go_at_call 115;(with_reducible refine(Aby HN.out HP.out a.out.z [94] [[94]] (by kernel_rfl) (by decide)).mono ?_);intro e w2 ha;obtain⟨o,p2,v,rfl,⟨rfl,i⟩,f,b⟩:=ha.part c F;replace c:=b;clear b ha;(try dsimp only at c);replace a:=aA (a.out.move i f);clear i f;rcases o with _ | ⟨Y,l⟩<;>dsimp only at c<;>unfold Acy<;>dsimp only;all_goals ((try clear m A B C D c5 E);(try clear G H I J L M);(try clear N O P Q R S);(try clear o0 o1 o2 o3 o4 of);(try clear k0 k1 k2 k3 k4 kf);obtain⟨m,A,B,C,D,c5,E⟩:=a.out.z.c6;obtain⟨G,H,I,J,L,M⟩:=a.out.b0;obtain⟨N,O,P,Q,R,S⟩:=a.out.b1)))
 ·obtain⟨Z,z1,z2,z3,z4,zf⟩:=((((a.out.b1.set0 (.int .i64 u.kd)).set1 (.string ⟨u.nm.toArray⟩)).set2 (.float .f64 u.x)).set3 (.slice U u.ks.length V)).set4 (.complex .f64 u.z.1 u.z.2)
  exact bodyPost_ret (v:=CJ u (.slice U u.ks.length V)) (by simp[CJ,results,results295,go_sem,Z,z1,z2,z3,z4]<;>exact rfl) rfl (a.out.done a.out.k0 _ _ _ _ _ c)
 skip
 (try clear m A B C D c5 E);(try clear G H I J L M);(try clear N O P Q R S);(try clear o0 o1 o2 o3 o4 of);(try clear k0 k1 k2 k3 k4 kf)
 refine a.out.region 7 (by kernel_rfl) (fun d=>?_);refine AbP 0 (.string ⟨Y.toArray⟩) rfl d ?_
 try simp only[Act.put,sP]
 refine AbP 1 (.complex .f64 l.1 l.2) rfl d ?_
 try simp only[Act.put,sP]
 refine AbU 2 ((.agg #[.int .i64 u.kd,.string ⟨u.nm.toArray⟩,.float .f64 u.x,.slice U u.ks.length V,.complex .f64 u.z.1 u.z.2])) rfl (fun w hS=>by obtain⟨s0,s1,s2,s3,s4,-⟩:=hS.b0;go_simp) d ?_
 try simp only[Act.put,sP]
 refine AbP 3 (.pointer (some ⟨q,0,none⟩)) rfl d ?_
 try simp only[Act.put,sP]
 refine AaC 4 rfl (fun K j=>?_)
 try go_simp
 go_at_call 293
 refine(HU.out _ _ a.out.drew.z (K0 c F)).mono ?_;intro e w8 ha;obtain⟨_,p8,v,rfl,⟨⟨y,kv,rfl,rfl,k⟩,i⟩,f,b⟩:=ha.part c F;replace c:=b;clear b ha
 (try dsimp only[hd1,aE,aB,aC,aD] at c)
 obtain⟨ay,cy,rfl⟩:=k.slice;replace a:=aA (a.out.drew.read k i f);clear k i f d;unfold CJ;refine j.out _ _ (.inr a.out.bs) ?_
 try simp only[Act.put,sP]
 refine AaC 5 rfl (fun K j=>?_)
 try go_simp
 replace a:=aA a.out.kid2;refine j.out _ _ (.inr a.out.bs) ?_
 try simp only[Act.put,sP]
 refine AaC 6 rfl (fun K j=>?_)
 try go_simp
 refine j.out _ _ (.inr a.out.bs) ?_
 try simp only[Act.put,sP]
 obtain⟨N,O,P,Q,R,S⟩:=a.out.b1;refine AaC 7 rfl (fun K j=>?_)
 try go_simp
 refine j.out _ _ (.inl rfl) ?_
 try simp only[Act.put,sP]
 refine Aal (by kernel_rfl) ?_ _;go_wp2;obtain⟨Z,z1,z2,z3,z4,zf⟩:=((((a.out.b1.set0 (.int .i64 15)).set1 (.string ⟨Y.toArray⟩)).set2 (.float .f64 0)).set3 (.slice (some ⟨w8.heap.size,0,none⟩) 2 2)).set4 (.complex .f64 l.1 l.2);exact bodyPost_ret (v:=.agg #[.int .i64 15,.string ⟨Y.toArray⟩,.float .f64 0,.slice (some ⟨w8.heap.size,0,none⟩) 2 2,.complex .f64 l.1 l.2]) (by simp[results,results295,go_sem,Z,z1,z2,z3,z4]<;>exact rfl) rfl (a.out.done (t:=.mk 15 Y 0 l [u,y]) a.out.k0 _ _ _ _ _ c)
set_option linter.unusedSimpArgs false in
theorem AeK {nx:Nat->Bool->Tk} {pl:Nat->Nat×Nat} {ere:List UInt8->Option Bool} {Z:World} {q:Nat} {s:ByteArray} (hN:RxC nx s Z) (hP:RlC pl s) (n:Nat)
  (hO:NR nx pl ere Z q s n .or 152)
  (hE:NR nx pl ere Z q s n .expr 93):NR nx pl ere Z q s (n+1) .cond 113:=by
 intro p W h Q;obtain⟨r,er⟩:∃r,B0 nx pl ere (n+1) .cond p=r:=⟨_,rfl⟩;rw[er] at Q ⊢;rw[B0] at er;have c:=aA er;have a:=aA (Fr.start1 h (.int .i64 0) (.string ⟨#[]⟩) (.float .f64 0) (.slice none 0 0) (.complex .f64 0 0) 42);have HN:=aA hN;have HP:=aA hP;have HO:=aA (fun(p:Rs) (W:World) (h:Rz Z q s p W) (g:B0 nx pl ere n .or p ≠ .hush)=>hO p W h g);have HE:=aA (fun(p:Rs) (W:World) (h:Rz Z q s p W) (g:B0 nx pl ere n .expr p ≠ .hush)=>hE p W h g);clear er h hN hP hO hE
 (try clear k l m A B c5 C);(try clear D E F G H I);(try clear J L M N O P);(try clear S T U V X of);(try clear k0 k1 k2 k3 k4 kf);obtain⟨k,l,m,A,B,c5,C⟩:=a.out.z.c6;obtain⟨D,E,F,G,H,I⟩:=a.out.b0
 go_in
 go_wp2_with (first | (go_at_call 152;(with_reducible refine(HO.out _ _ a.out.z (K0 c Q)).mono ?_);intro e w1 ha;obtain⟨_,p1,v,rfl,⟨⟨u,kv,rfl,rfl,j⟩,f⟩,d,b⟩:=ha.part c Q;replace c:=b;clear b ha;(try dsimp only at c);obtain⟨au,cu,rfl⟩:=j.slice;replace a:=aA ((a.out.read j f d).box (.int .i64 u.kd) (.string ⟨u.nm.toArray⟩) (.float .f64 u.x) (.slice au u.ks.length cu) (.complex .f64 u.z.1 u.z.2) 42);clear j f d;(try dsimp only[hd1,aE,aB,aC,aD] at c);(try clear k l m A B c5 C);(try clear D E F G H I);(try clear J L M N O P);(try clear S T U V X of);(try clear k0 k1 k2 k3 k4 kf);obtain⟨k,l,m,A,B,c5,C⟩:=a.out.z.c6;obtain⟨D,E,F,G,H,I⟩:=a.out.b0;obtain⟨J,L,M,N,O,P⟩:=a.out.b1;unfold CJ) | (go_at_call 115;(with_reducible refine(Aby HN.out HP.out a.out.z [63] [[63]] (by kernel_rfl) (by decide)).mono ?_);intro e w2 ha;obtain⟨o,p2,v,rfl,⟨rfl,f⟩,d,b⟩:=ha.part c Q;replace c:=b;clear b ha;(try dsimp only at c);replace a:=aA (a.out.move f d);clear f d;rcases o with _ | ⟨sx,Y⟩<;>dsimp only at c<;>unfold Acy<;>dsimp only;all_goals ((try clear k l m A B c5 C);(try clear D E F G H I);(try clear J L M N O P);(try clear S T U V X of);(try clear k0 k1 k2 k3 k4 kf);obtain⟨k,l,m,A,B,c5,C⟩:=a.out.z.c6;obtain⟨D,E,F,G,H,I⟩:=a.out.b0;obtain⟨J,L,M,N,O,P⟩:=a.out.b1)) | (go_at_call 93;(with_reducible refine(HE.out _ _ a.out.z (K0 c Q)).mono ?_);intro e w3 ha;obtain⟨_,p3,v,rfl,⟨⟨x,kv,rfl,rfl,j⟩,f⟩,d,b⟩:=ha.part c Q;replace c:=b;clear b ha;(try dsimp only at c);obtain⟨ax,cx,rfl⟩:=j.slice;replace a:=aA ((a.out.read j f d).box (.int .i64 x.kd) (.string ⟨x.nm.toArray⟩) (.float .f64 x.x) (.slice ax x.ks.length cx) (.complex .f64 x.z.1 x.z.2) 42);clear j f d;(try dsimp only[hd1,aE,aB,aC,aD] at c);(try clear k l m A B c5 C);(try clear D E F G H I);(try clear J L M N O P);(try clear S T U V X of);(try clear k0 k1 k2 k3 k4 kf);obtain⟨k,l,m,A,B,c5,C⟩:=a.out.z.c6;obtain⟨D,E,F,G,H,I⟩:=a.out.b0;obtain⟨J,L,M,N,O,P⟩:=a.out.b1;obtain⟨S,T,U,V,X,of⟩:=a.out.b2;unfold CJ) | (go_at_call 89;(with_reducible refine(Abn HN.out HP.out a.out.z [58]).mono ?_);intro e w4 ha;obtain⟨_,p4,v,rfl,⟨rfl,f⟩,d,b⟩:=ha.part c Q;replace c:=b;clear b ha;(try dsimp only at c);replace a:=aA (a.out.move f d);clear f d;(try clear k l m A B c5 C);(try clear D E F G H I);(try clear J L M N O P);(try clear S T U V X of);(try clear k0 k1 k2 k3 k4 kf);obtain⟨k,l,m,A,B,c5,C⟩:=a.out.z.c6;obtain⟨D,E,F,G,H,I⟩:=a.out.b0;obtain⟨J,L,M,N,O,P⟩:=a.out.b1;obtain⟨S,T,U,V,X,of⟩:=a.out.b2))
 ·obtain⟨z0,z1,z2,z3,z4,zf⟩:=((((a.out.b1.set0 (.int .i64 u.kd)).set1 (.string ⟨u.nm.toArray⟩)).set2 (.float .f64 u.x)).set3 (.slice au u.ks.length cu)).set4 (.complex .f64 u.z.1 u.z.2)
  exact bodyPost_ret (v:=CJ u (.slice au u.ks.length cu)) (by simp[CJ,results,results113,go_sem,z0,z1,z2,z3,z4]<;>exact rfl) rfl (a.out.done a.out.k0 _ _ _ _ _ c)
 skip
 (try clear k l m A B c5 C);(try clear D E F G H I);(try clear J L M N O P);(try clear S T U V X of);(try clear k0 k1 k2 k3 k4 kf)
 refine a.out.region 7 (by kernel_rfl) (fun i=>?_);refine AbP 0 (.complex .f64 Y.1 Y.2) rfl i ?_
 try simp only[Act.put,sP]
 refine AbU 1 ((.agg #[.int .i64 u.kd,.string ⟨u.nm.toArray⟩,.float .f64 u.x,.slice au u.ks.length cu,.complex .f64 u.z.1 u.z.2])) rfl (fun w hS=>by obtain⟨s0,s1,s2,s3,s4,-⟩:=hS.b1;go_simp) i ?_
 try simp only[Act.put,sP]
 refine AbU 2 ((.agg #[.int .i64 x.kd,.string ⟨x.nm.toArray⟩,.float .f64 x.x,.slice ax x.ks.length cx,.complex .f64 x.z.1 x.z.2])) rfl (fun w hS=>by obtain⟨s0,s1,s2,s3,s4,-⟩:=hS.b0;go_simp) i ?_
 try simp only[Act.put,sP]
 refine AbP 3 (.pointer (some ⟨q,0,none⟩)) rfl i ?_
 try simp only[Act.put,sP]
 refine AaC 4 rfl (fun K R=>?_)
 try go_simp
 go_at_call 93
 refine(HE.out _ _ a.out.drew.z (K0 c Q)).mono ?_;intro e w8 ha;obtain⟨_,p8,v,rfl,⟨⟨y,kv,rfl,rfl,j⟩,f⟩,d,b⟩:=ha.part c Q;replace c:=b;clear b ha
 (try dsimp only[hd1,aE,aB,aC,aD] at c)
 obtain⟨ay,cy,rfl⟩:=j.slice;replace a:=aA (a.out.drew.read j f d);clear j f d i;unfold CJ;refine R.out _ _ (.inr a.out.bs) ?_
 try simp only[Act.put,sP]
 refine AaC 5 rfl (fun K R=>?_)
 try go_simp
 replace a:=aA a.out.kid3;refine R.out _ _ (.inr a.out.bs) ?_
 try simp only[Act.put,sP]
 refine AaC 6 rfl (fun K R=>?_)
 try go_simp
 refine R.out _ _ (.inr a.out.bs) ?_
 try simp only[Act.put,sP]
 obtain⟨J,L,M,N,O,P⟩:=a.out.b2;refine AaC 7 rfl (fun K R=>?_)
 try go_simp
 refine R.out _ _ (.inl rfl) ?_
 try simp only[Act.put,sP]
 refine Aal (by kernel_rfl) ?_ _;go_wp2;obtain⟨z0,z1,z2,z3,z4,zf⟩:=((((a.out.b2.set0 (.int .i64 8)).set1 (.string ⟨#[]⟩)).set2 (.float .f64 0)).set3 (.slice (some ⟨w8.heap.size,0,none⟩) 3 3)).set4 (.complex .f64 Y.1 Y.2);exact bodyPost_ret (v:=.agg #[.int .i64 8,.string ⟨#[]⟩,.float .f64 0,.slice (some ⟨w8.heap.size,0,none⟩) 3 3,.complex .f64 Y.1 Y.2]) (by simp[results,results113,go_sem,z0,z1,z2,z3,z4]<;>exact rfl) rfl (a.out.done (t:=.mk 8 [] 0 Y [u,x,y]) a.out.k0 _ _ _ _ _ c)
set_option linter.unusedSimpArgs false in
theorem Adq {nx:Nat->Bool->Tk} {pl:Nat->Nat×Nat} {ere:List UInt8->Option Bool} {w0:World} {q:Nat} {s:ByteArray} (hN:RxC nx s w0) (hP:RlC pl s) (n:Nat)
  (hO:NR nx pl ere w0 q s n .cat 276):NR nx pl ere w0 q s (n+1) .cmp 266:=by
 intro p W h M;obtain⟨r,er⟩:∃r,B0 nx pl ere (n+1) .cmp p=r:=⟨_,rfl⟩;rw[er] at M ⊢;rw[B0] at er;have c:=aA er;have a:=aA (Fr.start1 h (.int .i64 0) (.string ⟨#[]⟩) (.float .f64 0) (.slice none 0 0) (.complex .f64 0 0) 42);have HN:=aA hN;have HP:=aA hP;have HO:=aA (fun(p:Rs) (W:World) (h:Rz w0 q s p W) (g:B0 nx pl ere n .cat p ≠ .hush)=>hO p W h g);clear er h hN hP hO
 (try clear G H I m J c5 L);(try clear N O P Q R S);(try clear A B C D E F);(try clear o0 o1 o2 o3 o4 of);(try clear k0 k1 k2 k3 k4 kf);obtain⟨G,H,I,m,J,c5,L⟩:=a.out.z.c6;obtain⟨N,O,P,Q,R,S⟩:=a.out.b0
 go_in
 go_wp2_with (first | (go_at_call 276;(with_reducible refine(HO.out _ _ a.out.z (K0 c M)).mono ?_);intro e w1 ha;obtain⟨_,p1,v,rfl,⟨⟨u,kv,rfl,rfl,l⟩,k⟩,j,b⟩:=ha.part c M;replace c:=b;clear b ha;(try dsimp only at c);obtain⟨U,V,rfl⟩:=l.slice;replace a:=aA ((a.out.read l k j).box (.int .i64 u.kd) (.string ⟨u.nm.toArray⟩) (.float .f64 u.x) (.slice U u.ks.length V) (.complex .f64 u.z.1 u.z.2) 42);clear l k j;(try dsimp only[hd1,aE,aB,aC,aD] at c);(try clear G H I m J c5 L);(try clear N O P Q R S);(try clear A B C D E F);(try clear o0 o1 o2 o3 o4 of);(try clear k0 k1 k2 k3 k4 kf);obtain⟨G,H,I,m,J,c5,L⟩:=a.out.z.c6;obtain⟨N,O,P,Q,R,S⟩:=a.out.b0;obtain⟨A,B,C,D,E,F⟩:=a.out.b1;unfold CJ;cases hg:p1.g<;>rw[hg] at c m<;>(first | rw[show AdM true=[[60],[60,61],[61,61],[33,61],[62,61]] from rfl] at c | rw[show AdM false=[[60],[60,61],[61,61],[33,61],[62,61],[62]] from rfl] at c)<;>clear hg) | (go_at_call 115;(with_reducible refine(Aby HN.out HP.out a.out.z [60,32,60,61,32,61,61,32,33,61,32,62,61] [[60],[60,61],[61,61],[33,61],[62,61]] (by kernel_rfl) (by decide)).mono ?_);intro e w2 ha;obtain⟨o,p2,v,rfl,⟨rfl,k⟩,j,b⟩:=ha.part c M;replace c:=b;clear b ha;(try dsimp only at c);replace a:=aA (a.out.move k j);clear k j;rcases o with _ | ⟨T,i⟩<;>dsimp only at c<;>unfold Acy<;>dsimp only;all_goals ((try clear G H I m J c5 L);(try clear N O P Q R S);(try clear A B C D E F);(try clear o0 o1 o2 o3 o4 of);(try clear k0 k1 k2 k3 k4 kf);obtain⟨G,H,I,m,J,c5,L⟩:=a.out.z.c6;obtain⟨N,O,P,Q,R,S⟩:=a.out.b0;obtain⟨A,B,C,D,E,F⟩:=a.out.b1)) | (go_at_call 115;(with_reducible refine(Aby HN.out HP.out a.out.z [60,32,60,61,32,61,61,32,33,61,32,62,61,32,62] [[60],[60,61],[61,61],[33,61],[62,61],[62]] (by kernel_rfl) (by decide)).mono ?_);intro e w2 ha;obtain⟨o,p2,v,rfl,⟨rfl,k⟩,j,b⟩:=ha.part c M;replace c:=b;clear b ha;(try dsimp only at c);replace a:=aA (a.out.move k j);clear k j;rcases o with _ | ⟨T,i⟩<;>dsimp only at c<;>unfold Acy<;>dsimp only;all_goals ((try clear G H I m J c5 L);(try clear N O P Q R S);(try clear A B C D E F);(try clear o0 o1 o2 o3 o4 of);(try clear k0 k1 k2 k3 k4 kf);obtain⟨G,H,I,m,J,c5,L⟩:=a.out.z.c6;obtain⟨N,O,P,Q,R,S⟩:=a.out.b0;obtain⟨A,B,C,D,E,F⟩:=a.out.b1)))
 ·obtain⟨X,Y,Z,z3,z4,zf⟩:=((((a.out.b1.set0 (.int .i64 u.kd)).set1 (.string ⟨u.nm.toArray⟩)).set2 (.float .f64 u.x)).set3 (.slice U u.ks.length V)).set4 (.complex .f64 u.z.1 u.z.2)
  exact bodyPost_ret (v:=CJ u (.slice U u.ks.length V)) (by simp[CJ,results,results266,go_sem,X,Y,Z,z3,z4]<;>exact rfl) rfl (a.out.done a.out.k0 _ _ _ _ _ c)
 ·skip
  (try clear G H I m J c5 L);(try clear N O P Q R S);(try clear A B C D E F);(try clear o0 o1 o2 o3 o4 of);(try clear k0 k1 k2 k3 k4 kf)
  refine a.out.region 7 (by kernel_rfl) (fun d=>?_);refine AbP 0 (.string ⟨T.toArray⟩) rfl d ?_
  try simp only[Act.put,sP]
  refine AbP 1 (.complex .f64 i.1 i.2) rfl d ?_
  try simp only[Act.put,sP]
  refine AbU 2 ((.agg #[.int .i64 u.kd,.string ⟨u.nm.toArray⟩,.float .f64 u.x,.slice U u.ks.length V,.complex .f64 u.z.1 u.z.2])) rfl (fun w hS=>by obtain⟨s0,s1,s2,s3,s4,-⟩:=hS.b0;go_simp) d ?_
  try simp only[Act.put,sP]
  refine AbP 3 (.pointer (some ⟨q,0,none⟩)) rfl d ?_
  try simp only[Act.put,sP]
  refine AaC 4 rfl (fun K f=>?_)
  try go_simp
  go_at_call 276
  refine(HO.out _ _ a.out.drew.z (K0 c M)).mono ?_;intro e w8 ha;obtain⟨_,p8,v,rfl,⟨⟨y,kv,rfl,rfl,l⟩,k⟩,j,b⟩:=ha.part c M;replace c:=b;clear b ha
  (try dsimp only[hd1,aE,aB,aC,aD] at c)
  obtain⟨ay,cy,rfl⟩:=l.slice;replace a:=aA (a.out.drew.read l k j);clear l k j d;unfold CJ;refine f.out _ _ (.inr a.out.bs) ?_
  try simp only[Act.put,sP]
  refine AaC 5 rfl (fun K f=>?_)
  try go_simp
  replace a:=aA a.out.kid2;refine f.out _ _ (.inr a.out.bs) ?_
  try simp only[Act.put,sP]
  refine AaC 6 rfl (fun K f=>?_)
  try go_simp
  refine f.out _ _ (.inr a.out.bs) ?_
  try simp only[Act.put,sP]
  obtain⟨A,B,C,D,E,F⟩:=a.out.b1;refine AaC 7 rfl (fun K f=>?_)
  try go_simp
  refine f.out _ _ (.inl rfl) ?_
  try simp only[Act.put,sP]
  refine Aal (by kernel_rfl) ?_ _;go_wp2;obtain⟨X,Y,Z,z3,z4,zf⟩:=((((a.out.b1.set0 (.int .i64 13)).set1 (.string ⟨T.toArray⟩)).set2 (.float .f64 0)).set3 (.slice (some ⟨w8.heap.size,0,none⟩) 2 2)).set4 (.complex .f64 i.1 i.2);exact bodyPost_ret (v:=.agg #[.int .i64 13,.string ⟨T.toArray⟩,.float .f64 0,.slice (some ⟨w8.heap.size,0,none⟩) 2 2,.complex .f64 i.1 i.2]) (by simp[results,results266,go_sem,X,Y,Z,z3,z4]<;>exact rfl) rfl (a.out.done (t:=.mk 13 T 0 i [u,y]) a.out.k0 _ _ _ _ _ c)
 ·obtain⟨X,Y,Z,z3,z4,zf⟩:=((((a.out.b1.set0 (.int .i64 u.kd)).set1 (.string ⟨u.nm.toArray⟩)).set2 (.float .f64 u.x)).set3 (.slice U u.ks.length V)).set4 (.complex .f64 u.z.1 u.z.2)
  exact bodyPost_ret (v:=CJ u (.slice U u.ks.length V)) (by simp[CJ,results,results266,go_sem,X,Y,Z,z3,z4]<;>exact rfl) rfl (a.out.done a.out.k0 _ _ _ _ _ c)
 skip
 (try clear G H I m J c5 L);(try clear N O P Q R S);(try clear A B C D E F);(try clear o0 o1 o2 o3 o4 of);(try clear k0 k1 k2 k3 k4 kf)
 refine a.out.region 7 (by kernel_rfl) (fun d=>?_);refine AbP 0 (.string ⟨T.toArray⟩) rfl d ?_
 try simp only[Act.put,sP]
 refine AbP 1 (.complex .f64 i.1 i.2) rfl d ?_
 try simp only[Act.put,sP]
 refine AbU 2 ((.agg #[.int .i64 u.kd,.string ⟨u.nm.toArray⟩,.float .f64 u.x,.slice U u.ks.length V,.complex .f64 u.z.1 u.z.2])) rfl (fun w hS=>by obtain⟨s0,s1,s2,s3,s4,-⟩:=hS.b0;go_simp) d ?_
 try simp only[Act.put,sP]
 refine AbP 3 (.pointer (some ⟨q,0,none⟩)) rfl d ?_
 try simp only[Act.put,sP]
 refine AaC 4 rfl (fun K f=>?_)
 try go_simp
 go_at_call 276
 refine(HO.out _ _ a.out.drew.z (K0 c M)).mono ?_;intro e w8 ha;obtain⟨_,p8,v,rfl,⟨⟨y,kv,rfl,rfl,l⟩,k⟩,j,b⟩:=ha.part c M;replace c:=b;clear b ha
 (try dsimp only[hd1,aE,aB,aC,aD] at c)
 obtain⟨ay,cy,rfl⟩:=l.slice;replace a:=aA (a.out.drew.read l k j);clear l k j d;unfold CJ;refine f.out _ _ (.inr a.out.bs) ?_
 try simp only[Act.put,sP]
 refine AaC 5 rfl (fun K f=>?_)
 try go_simp
 replace a:=aA a.out.kid2;refine f.out _ _ (.inr a.out.bs) ?_
 try simp only[Act.put,sP]
 refine AaC 6 rfl (fun K f=>?_)
 try go_simp
 refine f.out _ _ (.inr a.out.bs) ?_
 try simp only[Act.put,sP]
 obtain⟨A,B,C,D,E,F⟩:=a.out.b1;refine AaC 7 rfl (fun K f=>?_)
 try go_simp
 refine f.out _ _ (.inl rfl) ?_
 try simp only[Act.put,sP]
 refine Aal (by kernel_rfl) ?_ _;go_wp2;obtain⟨X,Y,Z,z3,z4,zf⟩:=((((a.out.b1.set0 (.int .i64 13)).set1 (.string ⟨T.toArray⟩)).set2 (.float .f64 0)).set3 (.slice (some ⟨w8.heap.size,0,none⟩) 2 2)).set4 (.complex .f64 i.1 i.2);exact bodyPost_ret (v:=.agg #[.int .i64 13,.string ⟨T.toArray⟩,.float .f64 0,.slice (some ⟨w8.heap.size,0,none⟩) 2 2,.complex .f64 i.1 i.2]) (by simp[results,results266,go_sem,X,Y,Z,z3,z4]<;>exact rfl) rfl (a.out.done (t:=.mk 13 T 0 i [u,y]) a.out.k0 _ _ _ _ _ c)
set_option linter.unusedSimpArgs false in
theorem AeL {nx:Nat->Bool->Tk} {pl:Nat->Nat×Nat} {ere:List UInt8->Option Bool} {Y:World} {q:Nat} {s:ByteArray} (hN:RxC nx s Y) (hP:RlC pl s) (n:Nat)
  (hO:NR nx pl ere Y q s n .cond 113)
  (hE:NR nx pl ere Y q s n .expr 93):NR nx pl ere Y q s (n+1) .expr 93:=by
 intro p W h X;obtain⟨r,er⟩:∃r,B0 nx pl ere (n+1) .expr p=r:=⟨_,rfl⟩;rw[er] at X ⊢;rw[B0] at er;have b:=aA er;have a:=aA (Fr.start1 h (.int .i64 0) (.string ⟨#[]⟩) (.float .f64 0) (.slice none 0 0) (.complex .f64 0 0) 42);have HN:=aA hN;have HP:=aA hP;have HO:=aA (fun(p:Rs) (W:World) (h:Rz Y q s p W) (g:B0 nx pl ere n .cond p ≠ .hush)=>hO p W h g);have HE:=aA (fun(p:Rs) (W:World) (h:Rz Y q s p W) (g:B0 nx pl ere n .expr p ≠ .hush)=>hE p W h g);clear er h hN hP hO hE
 (try clear i j k l m c5 A);(try clear D E F G H I);(try clear J L M N O P);(try clear o0 o1 o2 o3 o4 of);(try clear k0 k1 k2 k3 k4 kf);obtain⟨i,j,k,l,m,c5,A⟩:=a.out.z.c6;obtain⟨D,E,F,G,H,I⟩:=a.out.b0
 go_in
 go_wp2_with (first | (go_at_call 113;(with_reducible refine(HO.out _ _ a.out.z (K0 b X)).mono ?_);intro e w1 ha;obtain⟨_,p1,v,rfl,⟨⟨u,kv,rfl,rfl,T⟩,C⟩,B,c⟩:=ha.part b X;replace b:=c;clear c ha;(try dsimp only at b);obtain⟨Q,R,rfl⟩:=T.slice;replace a:=aA ((a.out.read T C B).box (.int .i64 u.kd) (.string ⟨u.nm.toArray⟩) (.float .f64 u.x) (.slice Q u.ks.length R) (.complex .f64 u.z.1 u.z.2) 42);clear T C B;(try dsimp only[hd1,aE,aB,aC,aD] at b);(try clear i j k l m c5 A);(try clear D E F G H I);(try clear J L M N O P);(try clear o0 o1 o2 o3 o4 of);(try clear k0 k1 k2 k3 k4 kf);obtain⟨i,j,k,l,m,c5,A⟩:=a.out.z.c6;obtain⟨D,E,F,G,H,I⟩:=a.out.b0;obtain⟨J,L,M,N,O,P⟩:=a.out.b1;unfold CJ) | (go_at_call 27;(with_reducible refine(Abv a.out.z).mono ?_);rintro e w2 ⟨rfl,rfl⟩;rcases okC p1 with⟨he,V⟩ | ⟨he,V⟩<;>rw[V]<;>clear V<;>(first | replace b:=Ym (Or.inl he) b | have a0:=aA he)<;>clear he) | (go_at_call 114;(with_reducible refine(AcS u Q u.ks.length R _).mono ?_);rintro e w3 ⟨rfl,V⟩;replace a:=aA (a.out.quiet V);clear V;(try clear i j k l m c5 A);(try clear D E F G H I);(try clear J L M N O P);(try clear o0 o1 o2 o3 o4 of);(try clear k0 k1 k2 k3 k4 kf);obtain⟨i,j,k,l,m,c5,A⟩:=a.out.z.c6;obtain⟨D,E,F,G,H,I⟩:=a.out.b0;obtain⟨J,L,M,N,O,P⟩:=a.out.b1;cases hl:Z1 u<;>(first | replace b:=Ym (Or.inr hl) b | replace b:=XY (fun d=>d.elim (fun e=>e a0.out) (fun e=>by rw[hl] at e;cases e)) b)<;>clear hl) | (go_at_call 115;(with_reducible refine(Aby HN.out HP.out a.out.z [61,32,43,61,32,45,61,32,42,61,32,47,61,32,37,61,32,94,61] [[61],[43,61],[45,61],[42,61],[47,61],[37,61],[94,61]] (by kernel_rfl) (by decide)).mono ?_);intro e w4 ha;obtain⟨o,p4,v,rfl,⟨rfl,C⟩,B,c⟩:=ha.part b X;replace b:=c;clear c ha;(try dsimp only at b);replace a:=aA (a.out.move C B);clear C B;rcases o with _ | ⟨sx,U⟩<;>dsimp only at b<;>unfold Acy<;>dsimp only;all_goals ((try clear i j k l m c5 A);(try clear D E F G H I);(try clear J L M N O P);(try clear o0 o1 o2 o3 o4 of);(try clear k0 k1 k2 k3 k4 kf);obtain⟨i,j,k,l,m,c5,A⟩:=a.out.z.c6;obtain⟨D,E,F,G,H,I⟩:=a.out.b0;obtain⟨J,L,M,N,O,P⟩:=a.out.b1)))
 iterate 2
  focus
   obtain⟨Z,z1,z2,z3,z4,zf⟩:=((((a.out.b1.set0 (.int .i64 u.kd)).set1 (.string ⟨u.nm.toArray⟩)).set2 (.float .f64 u.x)).set3 (.slice Q u.ks.length R)).set4 (.complex .f64 u.z.1 u.z.2);exact bodyPost_ret (v:=CJ u (.slice Q u.ks.length R)) (by simp[CJ,results,results93,go_sem,Z,z1,z2,z3,z4]<;>exact rfl) rfl (a.out.done a.out.k0 _ _ _ _ _ b)
 ·skip
  (try clear i j k l m c5 A);(try clear D E F G H I);(try clear J L M N O P);(try clear o0 o1 o2 o3 o4 of);(try clear k0 k1 k2 k3 k4 kf)
  refine a.out.region 7 (by kernel_rfl) (fun f=>?_);refine AbP 0 (.string ⟨sx.toArray⟩) rfl f ?_
  try simp only[Act.put,sP]
  refine AbP 1 (.complex .f64 U.1 U.2) rfl f ?_
  try simp only[Act.put,sP]
  refine AbU 2 ((.agg #[.int .i64 u.kd,.string ⟨u.nm.toArray⟩,.float .f64 u.x,.slice Q u.ks.length R,.complex .f64 u.z.1 u.z.2])) rfl (fun w hS=>by obtain⟨s0,s1,s2,s3,s4,-⟩:=hS.b0;go_simp) f ?_
  try simp only[Act.put,sP]
  refine AbP 3 (.pointer (some ⟨q,0,none⟩)) rfl f ?_
  try simp only[Act.put,sP]
  refine AaC 4 rfl (fun K S=>?_)
  try go_simp
  go_at_call 93
  refine(HE.out _ _ a.out.drew.z (K0 b X)).mono ?_;intro e w8 ha;obtain⟨_,p8,v,rfl,⟨⟨y,kv,rfl,rfl,T⟩,C⟩,B,c⟩:=ha.part b X;replace b:=c;clear c ha
  (try dsimp only[hd1,aE,aB,aC,aD] at b)
  obtain⟨ay,cy,rfl⟩:=T.slice;replace a:=aA (a.out.drew.read T C B);clear T C B f;unfold CJ;refine S.out _ _ (.inr a.out.bs) ?_
  try simp only[Act.put,sP]
  refine AaC 5 rfl (fun K S=>?_)
  try go_simp
  replace a:=aA a.out.kid2;refine S.out _ _ (.inr a.out.bs) ?_
  try simp only[Act.put,sP]
  refine AaC 6 rfl (fun K S=>?_)
  try go_simp
  refine S.out _ _ (.inr a.out.bs) ?_
  try simp only[Act.put,sP]
  obtain⟨J,L,M,N,O,P⟩:=a.out.b1;refine AaC 7 rfl (fun K S=>?_)
  try go_simp
  refine S.out _ _ (.inl rfl) ?_
  try simp only[Act.put,sP]
  refine Aal (by kernel_rfl) ?_ _;go_wp2;obtain⟨Z,z1,z2,z3,z4,zf⟩:=((((a.out.b1.set0 (.int .i64 7)).set1 (.string ⟨sx.toArray⟩)).set2 (.float .f64 0)).set3 (.slice (some ⟨w8.heap.size,0,none⟩) 2 2)).set4 (.complex .f64 U.1 U.2);exact bodyPost_ret (v:=.agg #[.int .i64 7,.string ⟨sx.toArray⟩,.float .f64 0,.slice (some ⟨w8.heap.size,0,none⟩) 2 2,.complex .f64 U.1 U.2]) (by simp[results,results93,go_sem,Z,z1,z2,z3,z4]<;>exact rfl) rfl (a.out.done (t:=.mk 7 sx 0 U [u,y]) a.out.k0 _ _ _ _ _ b)
 obtain⟨Z,z1,z2,z3,z4,zf⟩:=((((a.out.b1.set0 (.int .i64 u.kd)).set1 (.string ⟨u.nm.toArray⟩)).set2 (.float .f64 u.x)).set3 (.slice Q u.ks.length R)).set4 (.complex .f64 u.z.1 u.z.2);exact bodyPost_ret (v:=CJ u (.slice Q u.ks.length R)) (by simp[CJ,results,results93,go_sem,Z,z1,z2,z3,z4]<;>exact rfl) rfl (a.out.done a.out.k0 _ _ _ _ _ b)
set_option linter.unusedSimpArgs false in
theorem AeQ {nx:Nat->Bool->Tk} {pl:Nat->Nat×Nat} {ere:List UInt8->Option Bool} {Z:World} {q:Nat} {s:ByteArray} (hN:RxC nx s Z) (hP:RlC pl s) (n:Nat)
  (hO:NR nx pl ere Z q s n .primary 299):NR nx pl ere Z q s (n+1) .post 297:=by
 intro p W h Y;obtain⟨r,V⟩:∃r,B0 nx pl ere (n+1) .post p=r:=⟨_,rfl⟩;rw[V] at Y ⊢;rw[B0] at V;have b:=aA V;have a:=aA (Fr.start1 h (.int .i64 0) (.string ⟨#[]⟩) (.float .f64 0) (.slice none 0 0) (.complex .f64 0 0) 42);have HN:=aA hN;have HP:=aA hP;have HO:=aA (fun(p:Rs) (W:World) (h:Rz Z q s p W) (g:B0 nx pl ere n .primary p ≠ .hush)=>hO p W h g);clear V h hN hP hO
 (try clear f i j k l c5 m);(try clear w y A B C D);(try clear H I J K L M);(try clear o0 o1 o2 o3 o4 of);(try clear k0 k1 k2 k3 k4 kf);obtain⟨f,i,j,k,l,c5,m⟩:=a.out.z.c6;obtain⟨w,y,A,B,C,D⟩:=a.out.b0
 go_in
 go_wp2_with (first | (go_at_call 299;(with_reducible refine(HO.out _ _ a.out.z (K0 b Y)).mono ?_);intro e w1 ha;obtain⟨_,p1,v,rfl,⟨⟨u,kv,rfl,rfl,hk⟩,O⟩,N,c⟩:=ha.part b Y;replace b:=c;clear c ha;(try dsimp only at b);obtain⟨E,F,rfl⟩:=hk.slice;replace a:=aA ((a.out.read hk O N).box (.int .i64 u.kd) (.string ⟨u.nm.toArray⟩) (.float .f64 u.x) (.slice E u.ks.length F) (.complex .f64 u.z.1 u.z.2) 42);clear hk O N;(try dsimp only[hd1,aE,aB,aC,aD] at b);(try clear f i j k l c5 m);(try clear w y A B C D);(try clear H I J K L M);(try clear o0 o1 o2 o3 o4 of);(try clear k0 k1 k2 k3 k4 kf);obtain⟨f,i,j,k,l,c5,m⟩:=a.out.z.c6;obtain⟨w,y,A,B,C,D⟩:=a.out.b0;obtain⟨H,I,J,K,L,M⟩:=a.out.b1;unfold CJ) | (go_at_call 27;(with_reducible refine(Abv a.out.z).mono ?_);rintro e w2 ⟨rfl,rfl⟩;rcases okC p1 with⟨X,G⟩ | ⟨X,G⟩<;>rw[G]<;>clear G<;>(first | replace b:=Ym (Or.inl X) b | have a0:=aA X)<;>clear X) | (go_at_call 114;(with_reducible refine(AcS u E u.ks.length F _).mono ?_);rintro e w3 ⟨rfl,G⟩;replace a:=aA (a.out.quiet G);clear G;(try clear f i j k l c5 m);(try clear w y A B C D);(try clear H I J K L M);(try clear o0 o1 o2 o3 o4 of);(try clear k0 k1 k2 k3 k4 kf);obtain⟨f,i,j,k,l,c5,m⟩:=a.out.z.c6;obtain⟨w,y,A,B,C,D⟩:=a.out.b0;obtain⟨H,I,J,K,L,M⟩:=a.out.b1;cases hl:Z1 u<;>(first | replace b:=Ym (Or.inr hl) b | replace b:=XY (fun d=>d.elim (fun e=>e a0.out) (fun e=>by rw[hl] at e;cases e)) b)<;>clear hl) | (go_at_call 115;(with_reducible refine(Aby HN.out HP.out a.out.z [43,43,32,45,45] [[43,43],[45,45]] (by kernel_rfl) (by decide)).mono ?_);intro e w4 ha;obtain⟨o,p4,v,rfl,⟨rfl,O⟩,N,c⟩:=ha.part b Y;replace b:=c;clear c ha;(try dsimp only at b);replace a:=aA (a.out.move O N);clear O N;rcases o with _ | ⟨sx,P⟩<;>dsimp only at b<;>unfold Acy<;>dsimp only;all_goals ((try clear f i j k l c5 m);(try clear w y A B C D);(try clear H I J K L M);(try clear o0 o1 o2 o3 o4 of);(try clear k0 k1 k2 k3 k4 kf);obtain⟨f,i,j,k,l,c5,m⟩:=a.out.z.c6;obtain⟨w,y,A,B,C,D⟩:=a.out.b0;obtain⟨H,I,J,K,L,M⟩:=a.out.b1);all_goals (obtain⟨j0,j1,j2,j3,j4,jf⟩:=a.out.kid1.b1)))
 iterate 2
  focus
   obtain⟨Q,R,S,T,U,zf⟩:=((((a.out.b1.set0 (.int .i64 u.kd)).set1 (.string ⟨u.nm.toArray⟩)).set2 (.float .f64 u.x)).set3 (.slice E u.ks.length F)).set4 (.complex .f64 u.z.1 u.z.2);exact bodyPost_ret (v:=CJ u (.slice E u.ks.length F)) (by simp[CJ,results,results297,go_sem,Q,R,S,T,U]<;>exact rfl) rfl (a.out.done a.out.k0 _ _ _ _ _ b)
 ·replace a:=aA a.out.kid1
  obtain⟨Q,R,S,T,U,zf⟩:=((((a.out.b1.set0 (.int .i64 18)).set1 (.string ⟨sx.toArray⟩)).set2 (.float .f64 0)).set3 (.slice (some ⟨w4.heap.size,0,none⟩) 1 1)).set4 (.complex .f64 P.1 P.2);exact bodyPost_ret (v:=.agg #[.int .i64 18,.string ⟨sx.toArray⟩,.float .f64 0,.slice (some ⟨w4.heap.size,0,none⟩) 1 1,.complex .f64 P.1 P.2]) (by simp[results,results297,go_sem,Q,R,S,T,U]<;>exact rfl) rfl (a.out.done (t:=.mk 18 sx 0 P [u]) a.out.k0 _ _ _ _ _ b)
 obtain⟨Q,R,S,T,U,zf⟩:=((((a.out.b1.set0 (.int .i64 u.kd)).set1 (.string ⟨u.nm.toArray⟩)).set2 (.float .f64 u.x)).set3 (.slice E u.ks.length F)).set4 (.complex .f64 u.z.1 u.z.2);exact bodyPost_ret (v:=CJ u (.slice E u.ks.length F)) (by simp[CJ,results,results297,go_sem,Q,R,S,T,U]<;>exact rfl) rfl (a.out.done a.out.k0 _ _ _ _ _ b)
def YY {α:Type} (q:Nat) (W0:World) (r:Hf α) (good:α->Ps->World->Prop) (e:Ending) (w':World):Prop :=
 match r with
 | .ok a p'=>e = .returned (.tuple #[])/\good a p' w'
 | .bad f er=>e = .panicked (T3 f er)/\Ae q W0 w'
 | .hush=>True
section
variable {α β:Type} {q:Nat} {W0 w':World} {r:Hf β} {good:β->Ps->World->Prop}
theorem YY.part {o:Hf α} {K:α->Ps->Hf β} {g:α->Ps->World->Prop} {e:Ending} (h:YY q W0 o g e w') (b:Hid (o.bind K=r)) (c:r ≠ .hush) :
  (∃f a,e = .panicked (T3 f a)/\Ae q W0 w'/\Hid (r = .bad f a))\/∃x p,e = .returned (.tuple #[])/\g x p w'/\Hid (K x p=r):=by
 cases o with
 | hush=>exact absurd b.out.symm c
 | bad f a=>exact .inl ⟨f,a,h.1,h.2,b.out.symm⟩
 | ok x p=>exact .inr ⟨x,p,h.1,h.2,b.out⟩
end
section
variable {w0 W0 w w':World} {q B ub:Nat} {s:ByteArray} {p:Ps} {l:List B5} {ks:List (List Tr×Value)} {v0 v1 v2 v3 v4:Value}
theorem Fx.wide (h:Fx w0 W0 q B s p (⟨ub,v0,v1,v2,v3,v4⟩::l) ks w) {u0 u1 u2 u3 u4:Value} {r:List Value} (b:Ae ub w w') (a:CN w' ub (u0::u1::u2::u3::u4::r)) :
 Fx w0 W0 q B s p (⟨ub,u0,u1,u2,u3,u4⟩::l) ks w':=h.upd b a.c5
theorem _root_.Go.CN.body {b c d a:Value} (h:CN w ub [v0,v1,v2,v3,v4,b,c,d,a]) (u3 u4 u5 u6 u7:Value) :
  CN (((((w.setCell ⟨ub,3,none⟩ u3).setCell ⟨ub,4,none⟩ u4).setCell ⟨ub,5,none⟩ u5).setCell ⟨ub,6,none⟩ u6).setCell ⟨ub,7,none⟩ u7) ub [v0,v1,v2,u3,u4,u5,u6,u7,a] :=
 ((((h.set 3 u3 (by simp)).set 4 u4 (by simp)).set 5 u5 (by simp)).set 6 u6 (by simp)).set 7 u7 (by simp)
theorem EZ (w:World) (ub:Nat) (u3 u4 u5 u6 u7:Value):Ae ub w (((((w.setCell ⟨ub,3,none⟩ u3).setCell ⟨ub,4,none⟩ u4).setCell ⟨ub,5,none⟩ u5).setCell ⟨ub,6,none⟩ u6).setCell ⟨ub,7,none⟩ u7) :=
 (((((Ae.refl ub w).set 3 u3).set 4 u4).set 5 u5).set 6 u6).set 7 u7
theorem _root_.Go.CN.kind {a b c d:Value} (h:CN w ub [v0,v1,v2,v3,v4,a,b,c,d]) (u:Value):CN (w.setCell ⟨ub,0,none⟩ u) ub [u,v1,v2,v3,v4,a,b,c,d]:=h.set 0 u (by simp)
theorem Fx.nilrow (h:Fx w0 W0 q B s p l ks w):Fx w0 W0 q B s p l (([],.slice none 0 0)::ks) w :=
 ⟨h.z,h.o,h.hq,h.hw,h.hB,h.b,fun x a=>by rcases List.mem_cons.1 a with rfl | a;exact Am.nil _;exact h.k x a,h.d⟩
end
def Zh (r:Rl) (pv kv:Value):Value:=.agg #[.int .i64 r.k,.int .i64 r.n,pv,.int .i64 r.b.kd,.string ⟨r.b.nm.toArray⟩,.float .f64 r.b.x,kv,.complex .f64 r.b.z.1 r.b.z.2,.complex .f64 r.z.1 r.z.2]
def Yj (w:World) (S:Nat->Prop) (x:Rl×Value×Value):Prop:=Am 42 w S x.1.ps x.2.1/\Am 42 w S x.1.b.ks x.2.2
def ZQ (w0:World) (q:Nat) (s:ByteArray) (W:World) (r:Rl) (p':Ps) (v:Value) (w':World):Prop :=
 (∃pv kv,v=Zh r pv kv/\Yj w' (W.heap.size <= ·) (r,pv,kv))/\Pz w0 q s p' w'
def RuC (w0:World) (q:Nat) (s:ByteArray) (b:Tk->Ps->Hf Rl):Prop :=
 ∀(t:Tk) (p:Ps) (W:World),Pz w0 q s p W->(p.a<=t.f/\t.f<=t.t/\t.t<=s.size/\t.tx.length<=s.size/\(t.kd≠0->p.a<t.t))->b t p ≠ .hush ->
  Calls prog 47 #[.pointer (some ⟨q,0,none⟩),G1 t] W (AbS q W (b t p) (ZQ w0 q s W))
def M1 (nx:Nat->Bool->Tk) (a:Nat->Tk->Ps->Hf Rl):Nat->List Rl->Ps->Hf (List Rl)
 | 0,_,_ => .hush
 | n+1,l,p=>(LB nx true n p).bind fun t p =>
    if t.kd=0 then .ok l p else if XI t [102,117,110,99,116,105,111,110]=true then .hush
    else (a n t p).bind fun u p=>M1 nx a n (l++[u]) p
def Lr (w:World) (B:Nat) (rs:List Rl) (v:Value):Prop:=∃L:List (Rl×Value×Value),L.map Prod.fst=rs/\w.ownsRow B 44 9 v L.length (AW L)/\∀x∈L,Yj w (fun j=>B<=j/\some j≠v.ownBlock) x
section
variable {w w':World} {B:Nat} {rs:List Rl} {v:Value} {S S':Nat->Prop} {x:Rl×Value×Value}
theorem Yj.kept (h:Yj w S x) (b:w.heap.size<=w'.heap.size) (a:∀j,S j->j<w.heap.size->w'.heap[j]?=w.heap[j]?):Yj w' S x:=⟨h.1.kept b a,h.2.kept b a⟩
theorem Yj.mono (h:Yj w S x) (a:∀j,j<w.heap.size->S j->S' j):Yj w S' x:=⟨h.1.mono a,h.2.mono a⟩
theorem Lr.nil (w:World) (B:Nat):Lr w B [] (.slice none 0 0):=⟨[],rfl,World.ownsRow_nil ..,fun _ h=>nomatch h⟩
theorem Lr.kept {row:Option Nat} (h:Lr w B rs v) (c:w.grownBy w' row) (d:∀g,row=some g->g<B):Lr w' B rs v:=by
 obtain⟨L,i,a,l⟩:=h;refine⟨L,i,a.kept c ?_,fun x n=>(l x n).kept c.size fun j k m=>c.block j m fun e=>?_⟩
 ·by_cases e:v.ownBlock=none
  ·exact .inl e
  refine .inr fun f=>?_;obtain⟨g,b⟩:=Option.ne_none_iff_exists'.1 e;have o:=(a.lt g b).1;have p:=d g (f▸b);omega
 have:=d j e.symm;have:=k.1;omega
theorem Lr.slice (h:Lr w B rs v):∃a c,v = .slice a rs.length c:=by
 obtain⟨L,rfl,b,-⟩:=h;rcases b.2 with⟨rfl,f⟩ | ⟨g,d,e,rfl,-⟩
 ·exact⟨none,0,by rw[List.length_map,f]⟩
 exact⟨_,_,by rw[List.length_map]⟩
theorem Lr.append {L:List (Rl×Value×Value)} {u:Rl} {pv kv b:Value} (k:L.map Prod.fst=rs) (l:∀x∈L,Yj w (fun j=>B<=j/\some j≠v.ownBlock) x)
  (n:Yj w (fun j=>B<=j/\some j≠v.ownBlock) (u,pv,kv)) (o:w'.ownsRow B 44 9 b (L.length+1) (AW L++AW [(u,pv,kv)])) (i:w.grownBy w' v.ownBlock)
  (p:b.ownBlock=v.ownBlock\/b.ownBlock=some w.heap.size):Lr w' B (rs++[u]) b:=by
 refine⟨L++[(u,pv,kv)],by rw[List.map_append,k];rfl,by rw[JO,List.length_append];exact o,fun x a=>?_⟩
 have d:Yj w (fun j=>B<=j/\some j≠v.ownBlock) x:=by
  rcases List.mem_append.1 a with a | a
  ·exact l x a
  obtain rfl:=List.mem_singleton.1 a;exact n
 have f:=d.mono (S':=fun j=>(B<=j/\some j≠b.ownBlock)/\some j≠v.ownBlock) fun j g e=>⟨⟨e.1,by
  rcases p with c | c
  ·rw[c];exact e.2
  rw[c];intro h;injection h with h;omega⟩,e.2⟩
 exact(f.kept i.size fun j g m=>i.block j m g.2).mono fun j _ e=>e.1
end
structure XT (q P:Nat) (a w:World):Prop where
 os:w.os=a.os
 tape:w.tape=a.tape
 output:w.output=a.output
 size:a.heap.size<=w.heap.size
 block:∀k,k<a.heap.size->k≠q->k≠P->w.heap[k]?=a.heap[k]?
section
variable {q P:Nat} {a w w':World}
theorem XT.refl (q P:Nat) (w:World):XT q P w w:=⟨rfl,rfl,rfl,aG _,fun _ _ _ _=>rfl⟩
theorem XT.then {row:Option Nat} (h:XT q P a w) (b:w.grownBy w' row) (i:∀g,row=some g->g=q\/g=P\/a.heap.size<=g):XT q P a w' :=
 ⟨b.os.trans h.os,b.tape.trans h.tape,b.output.trans h.output,Nat.le_trans h.size b.size,fun k c d f=>(b.block k (aF c h.size) fun e=>by rcases i k e.symm with e | e | e<;>omega).trans (h.block k c d f)⟩
theorem XT.drew (h:XT q P a w):XT q P a w.drew:=⟨h.os,h.tape,h.output,h.size,h.block⟩
end
structure Gx (w0 W:World) (q P:Nat) (s:ByteArray) (p:Ps) (c:Value) (rs:List Rl) (v:Value) (w:World):Prop where
 z:Pz w0 q s p w
 o:XT q P W w
 hq:q<W.heap.size
 hP:P<W.heap.size
 hn:P≠q
 h0:w0.heap.size<=P
 c:CN w P [c,.slice none 0 0]
 r:Lr w W.heap.size rs v
section
variable {w0 W w w':World} {q P:Nat} {s:ByteArray} {p p':Ps} {c:Value} {rs:List Rl} {v:Value}
theorem Gx.quiet (h:Gx w0 W q P s p c rs v w) (a:Below w.heap.size w w'):Gx w0 W q P s p c rs v w' :=
 have b:=Ae.of_below q a
 ⟨h.z.keep a,h.o.then b fun g e => .inl (by injection e with e;exact e.symm),h.hq,h.hP,h.hn,h.h0,h.c.quiet a,h.r.kept b fun g e=>by injection e with e;have:=h.hq;omega⟩
theorem Gx.move (h:Gx w0 W q P s p c rs v w) (b:Pz w0 q s p' w') (a:Ae q w w'):Gx w0 W q P s p' c rs v w' :=
 ⟨b,h.o.then a fun g e => .inl (by injection e with e;exact e.symm),h.hq,h.hP,h.hn,h.h0,h.c.only a h.hn,h.r.kept a fun g e=>by injection e with e;have:=h.hq;omega⟩
theorem Gx.drew (h:Gx w0 W q P s p c rs v w):Gx w0 W q P s p c rs v w.drew:=h.move h.z.drew (Ae.refl q w).drew
theorem Gx.append {L:List (Rl×Value×Value)} {u:Rl} {pv kv f:Value} (h:Gx w0 W q P s p c rs v w) (m:L.map Prod.fst=rs) (b:∀k,v.ownBlock=some k->W.heap.size<=k/\k<w.heap.size) (i:∀x∈L,Yj w (fun j=>W.heap.size<=j/\some j≠v.ownBlock) x)
  (y:Yj w (fun j=>W.heap.size<=j/\some j≠v.ownBlock) (u,pv,kv)) (A:w'.ownsRow W.heap.size 44 9 f (L.length+1) (AW L++AW [(u,pv,kv)])) (a:w.grownBy w' v.ownBlock)
  (B:f.ownBlock=v.ownBlock\/f.ownBlock=some w.heap.size):Gx w0 W q P s p c (rs++[u]) f w':=by
 have r:=h.hq;have n:=h.hP;have C:=h.z.hq;have t:=Lr.append m i y A a B;refine⟨?_,h.o.then a fun g e => .inr (.inr (b g e).1),r,n,h.hn,h.h0,h.c.kept (a.block P h.c.l fun e=>?_) (aF h.c.l a.size),t⟩
 ·cases d:v.ownBlock with
  | none=>rw[d] at a;exact h.z.keep ⟨a.os,a.tape,a.output,a.size,fun k i=>a.block k i (by simp)⟩
  | some g=>rw[d] at a;have:=(b g d).1;exact h.z.other a (by omega) (by omega)
 have:=(b P e.symm).1;omega
theorem Gx.put (h:Gx w0 W q P s p c rs v w) (u:Value):Gx w0 W q P s p u rs v (w.setCell ⟨P,0,none⟩ u) :=
 have a:=(Ae.refl P w).set 0 u
 ⟨h.z.other a h.h0 (Ne.symm h.hn),h.o.then a fun g e => .inr (.inl (by injection e with e;exact e.symm)),h.hq,h.hP,h.hn,h.h0,h.c.set 0 u (by simp),h.r.kept a fun g e=>by injection e with e;have:=h.hP;omega⟩
theorem Gx.start (h:Pz w0 q s p W) (b:P<W.heap.size) (d:P≠q) (a:w0.heap.size<=P) (c:CN W P [.slice none 0 0,.slice none 0 0]):Gx w0 W q P s p (.slice none 0 0) [] (.slice none 0 0) W :=
 ⟨h,XT.refl q P W,h.lt,b,d,a,c,Lr.nil _ _⟩
end
def ZW (w0 W:World) (q P:Nat) (s:ByteArray) (r:Hf (List Rl)) (e:Ending) (w':World):Prop :=
 match r with
 | .ok rs p'=>e = .returned (.tuple #[])/\∃v,Gx w0 W q P s p' v rs v w'
 | .bad f er=>e = .panicked (T3 f er)/\XT q P W w'/\∃v,CN w' P [v,.slice none 0 0]
 | .hush=>True
section
variable {w0 W w w':World} {q P:Nat} {s:ByteArray} {p:Ps} {r:Hf (List Rl)} {c v:Value} {rs:List Rl}
theorem XD {f:Nat} {a:Int} (h:Gx w0 W q P s p c rs v w) (b:Ae q w w') (d:Hid (r = .bad f a)):ZW w0 W q P s r (.panicked (T3 f a)) w':=by
 rw[d.out];exact⟨rfl,h.o.then b fun g e => .inl (by injection e with e;exact e.symm),_,h.c.only b h.hn⟩
theorem Zp (h:Gx w0 W q P s p v rs v w) (a:Hid (.ok rs p=r)):ZW w0 W q P s r (.returned (.tuple #[])) w:=by
 rw[<- a.out];exact⟨rfl,_,h⟩
end
def Aar (w0:World) (q:Nat) (s:ByteArray) (R:Ps->Hf (List Rl)):Prop :=
 ∀(p:Ps) (P:Nat) (W:World),Pz w0 q s p W->P<W.heap.size->P≠q->w0.heap.size<=P->CN W P [.slice none 0 0,.slice none 0 0]->R p ≠ .hush ->
  Calls prog 26 #[.pointer (some ⟨q,0,none⟩),.pointer (some ⟨P,0,none⟩)] W (ZW w0 W q P s (R p))
theorem Aaw (W:World) (u:Rl) (pv kv:Value) (T:TypeId):∀j x,(AW [(u,pv,kv)])[j]?=some x->(W.alloc (.cells #[.int .i64 u.k,.int .i64 u.n,pv,.int .i64 u.b.kd,.string ⟨u.b.nm.toArray⟩,.float .f64 u.b.x,kv,.complex .f64 u.b.z.1 u.b.z.2,.complex .f64 u.z.1 u.z.2] T)).cell? ((⟨W.heap.size,0,none⟩:Addr).add j)=some x :=
 Z2 W (AW [(u,pv,kv)]) T
theorem Agr (u:Rl) (a b:Option Addr) (n m c d:Nat):∀x∈AW [(u,.slice a n c,.slice b m d)],x.oneCell'=true:=by
 intro x e;simp only[AW,List.flatMap_cons,List.flatMap_nil,List.append_nil,List.mem_cons,List.not_mem_nil,or_false] at e;rcases e with rfl | rfl | rfl | rfl | rfl | rfl | rfl | rfl | rfl<;>rfl
theorem Aaj:(prog.info? 44).map (fun i=>(i.zero,i.size,i.bytes))=some (some (.agg #[.int .i64 0,.int .i64 0,.slice none 0 0,.int .i64 0,.string ⟨#[]⟩,.float .f64 0,.slice none 0 0,.complex .f64 0 0,.complex .f64 0 0]),9,128):=by kernel_rfl
end Go.Proofs.YtfblenhlildnaaaGreatDoor
