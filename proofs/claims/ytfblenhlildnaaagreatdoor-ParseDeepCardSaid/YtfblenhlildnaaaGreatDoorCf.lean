/- Cf Cg Ch Cd Dd De -/
import Derived.Test.YtfblenhlildnaaaGreatDoorNl
import Derived.Test.YtfblenhlildnaaaGreatDoorBu
import Derived.KernelRfl
import GoSem.Op.Complex
import Derived.Test.YtfblenhlildnaaaGreatDoorBc
set_option maxRecDepth 100000
set_option maxHeartbeats 4000000
open Go.Lib renaming hid->aA
open List renaming singleton_append->aB,cons_append->aD,nil_append->aE,length_singleton->aG,headD->aH,length_append->aK,length_cons->aL
open Bool renaming false_eq_true->aC
open Nat renaming le_refl->aF,pow_pos->aI,mul_lt_mul_right->aJ,mul_pos->aM,pow_add->aN
namespace Go.Proofs.YtfblenhlildnaaaGreatDoor
open Go.Proofs.Tryz
open Go.RowKit
set_option linter.unusedSimpArgs false in
theorem Y7 {nx:Nat->Bool->Tk} {pl:Nat->Nat×Nat} {ere:List UInt8->Option Bool} {w0:World} {q:Nat} {s:ByteArray} (X:F2 nx s w0) (Y:H6 pl s) (n:Nat):HC nx pl ere w0 q s (n+1):=by
 intro l a ln c S p W R h hS J P;subst R;obtain⟨r,K⟩:∃r,Dn nx pl ere (n+1) (.has l) p=r:=⟨_,rfl⟩;rw[K] at P ⊢;rw[Dn] at K;have C:=aA K;have b:=aA (Fx.start1 h (.int .i64 0) (.string ⟨#[]⟩) (.float .f64 0) (.slice none 0 0) (.complex .f64 0 0) 42);have U:=aA X;have V:=aA Y;have HK:=aA J;clear K h X Y J;obtain⟨d,g,i,j,k,m⟩:=b.out.b0
 go_in
 go_wp2_with (first | (go_at_call 65;have ht:=L;clear ht;(with_reducible refine(DS U.out b.out.z false).mono ?_);intro e w5 ha;rcases ha.part C P with⟨f,K,rfl,E,T⟩ | ⟨H,p5,v,rfl,⟨rfl,rfl,O,N,Q,F⟩,E,G⟩;exact⟨rfl,BX T (b.out.o.trans E)⟩;replace C:=G;clear G ha;(try dsimp only at C);replace b:=aA ((b.out.quiet F));clear O N F E;(try clear d g i j k m);(try clear u w x y A B);(try clear m20 m21 m22 m23 m24 m2f);(try clear m30 m31 m32 m33 m34 m3f);obtain⟨d,g,i,j,k,m⟩:=b.out.b0;obtain⟨u,w,x,y,A,B⟩:=b.out.b1;unfold G1;obtain⟨a0,c0,d0,e0,f0,g0⟩:=b.out.b0;obtain⟨i0,j0,k0,l0,m0,n0⟩:=b.out.b1;replace b:=aA (b.out.store (.int .i64 H.kd) (.string ⟨H.tx.toArray⟩) (.float .f64 H.nm) (.int .i64 H.f) (.int .i64 H.t));obtain⟨d,g,i,j,k,m⟩:=b.out.b0;obtain⟨u,w,x,y,A,B⟩:=b.out.b1;rcases Xt H.kd 5 with⟨I,be,bn⟩ | ⟨I,be,bn⟩<;>((first | replace C:=Ym I C | replace C:=XY I C | skip);clear I)) | (go_at_call 65;(with_reducible refine(DS U.out b.out.z false).mono ?_);intro e w2 ha;rcases ha.part C P with⟨f,K,rfl,E,T⟩ | ⟨D,p2,v,rfl,⟨rfl,rfl,O,N,L,F⟩,E,G⟩;exact⟨rfl,BX T (b.out.o.trans E)⟩;replace C:=G;clear G ha;(try dsimp only at C);replace b:=aA ((b.out.quiet F).box (.int .i64 D.kd) (.string ⟨D.tx.toArray⟩) (.float .f64 D.nm) (.int .i64 D.f) (.int .i64 D.t) 70);clear O N F E;(try clear d g i j k m);(try clear u w x y A B);(try clear m20 m21 m22 m23 m24 m2f);(try clear m30 m31 m32 m33 m34 m3f);obtain⟨d,g,i,j,k,m⟩:=b.out.b0;obtain⟨u,w,x,y,A,B⟩:=b.out.b1;unfold G1) | (go_at_call 45;(with_reducible refine(L0 D [105,110] _).mono ?_);rintro e w3 ⟨rfl,F⟩;replace b:=aA (b.out.quiet F);clear F;cases Z:XI D [105,110]<;>(simp only[Z,if_true,if_false,aC,reduceIte,or_true,true_or,or_false,false_or,and_true,true_and,and_false,false_and] at C;clear Z);all_goals ((try clear d g i j k m);(try clear u w x y A B);(try clear m20 m21 m22 m23 m24 m2f);(try clear m30 m31 m32 m33 m34 m3f);obtain⟨d,g,i,j,k,m⟩:=b.out.b0;obtain⟨u,w,x,y,A,B⟩:=b.out.b1)) | (go_at_call 67;(with_reducible refine(E3 b.out.z D).mono ?_);rintro e w9 ⟨rfl,F⟩;exact⟨rfl,BX (aA C.out.symm) (b.out.o.trans F)⟩) | (go_at_call 66;(with_reducible refine(C2 V.out b.out.z D L).mono ?_);rintro e w4 ⟨rfl,M,E⟩;replace b:=aA (b.out.move M E);clear M E;(try clear d g i j k m);(try clear u w x y A B);(try clear m20 m21 m22 m23 m24 m2f);(try clear m30 m31 m32 m33 m34 m3f);obtain⟨d,g,i,j,k,m⟩:=b.out.b0;obtain⟨u,w,x,y,A,B⟩:=b.out.b1) | (go_at_call 67;(with_reducible refine(E3 b.out.z H).mono ?_);rintro e w9 ⟨rfl,F⟩;exact⟨rfl,BX (aA C.out.symm) (b.out.o.trans F)⟩) | (go_at_call 66;(with_reducible refine(C2 V.out b.out.z H Q).mono ?_);rintro e w6 ⟨rfl,M,E⟩;replace b:=aA (b.out.move M E);clear M E;(try clear d g i j k m);(try clear u w x y A B);(try clear m20 m21 m22 m23 m24 m2f);(try clear m30 m31 m32 m33 m34 m3f);obtain⟨d,g,i,j,k,m⟩:=b.out.b0;obtain⟨u,w,x,y,A,B⟩:=b.out.b1))
 obtain⟨z0,z1,z2,z3,z4,zf⟩:=((((b.out.b1.set0 (.int .i64 11)).set1 (.string ⟨H.tx.toArray⟩)).set2 (.float .f64 0)).set3 (.slice a l.length c)).set4 (.complex .f64 (pl D.f).1 (pl D.f).2);exact bodyPost_ret (v:=.agg #[.int .i64 11,.string ⟨H.tx.toArray⟩,.float .f64 0,.slice a l.length c,.complex .f64 (pl D.f).1 (pl D.f).2]) (by simp[results,results265,go_sem,z0,z1,z2,z3,z4]<;>exact rfl) rfl (b.out.doneS (t:=.mk 11 H.tx 0 (pl D.f) l) HK.out hS _ _ _ _ _ C)
set_option linter.unusedSimpArgs false in
theorem Zu {nx:Nat->Bool->Tk} {pl:Nat->Nat×Nat} {ere:List UInt8->Option Bool} {R:World} {q:Nat} {s:ByteArray} (hN:F2 nx s R) (hP:H6 pl s) (n:Nat)
  (hO:∀m,m<=n->NC nx pl ere R q s m .mat 264)
  (hH:∀m,m<=n->HC nx pl ere R q s m):NC nx pl ere R q s (n+1) .inn 250:=by
 intro p W h K;obtain⟨r,J⟩:∃r,Dn nx pl ere (n+1) .inn p=r:=⟨_,rfl⟩;rw[J] at K ⊢;rw[Dn] at J;have d:=aA J;have b:=aA (Fx.start1 h (.int .i64 0) (.string ⟨#[]⟩) (.float .f64 0) (.slice none 0 0) (.complex .f64 0 0) 42);have HN:=aA hN;have HP:=aA hP;have HO:=aA (fun m (T:m<=n) p W h g=>hO m T p W h g);have HH:=aA (fun m (T:m<=n) l a ln c S p W h1 h2 h3 h4 g=>hH m T l a ln c S p W h1 h2 h3 h4 g);clear J h hN hP hO hH;obtain⟨i,j,k,t,w,A⟩:=b.out.b0
 go_in
 go_wp2_with (first | (go_at_call 264;(with_reducible refine(HO.out _ (aF _) _ _ b.out.z (CA d K)).mono ?_);intro e w1 ha;rcases ha.part d K with⟨f,J,rfl,I,P⟩ | ⟨_,p1,v,rfl,⟨⟨u,kv,rfl,rfl,L⟩,Q⟩,I,H⟩;exact⟨rfl,BX P (b.out.o.trans I)⟩;replace d:=H;clear H ha;(try dsimp only at d);obtain⟨V,Y,rfl⟩:=L.slice;replace b:=aA ((b.out.read L Q I).box (.int .i64 u.kd) (.string ⟨u.nm.toArray⟩) (.float .f64 u.x) (.slice V u.ks.length Y) (.complex .f64 u.z.1 u.z.2) 42);clear L Q I;(try dsimp only[hd1,aH,aB,aD,aE] at d);(try clear i j k t w A);(try clear B C D E F G);(try clear m20 m21 m22 m23 m24 m2f);(try clear m30 m31 m32 m33 m34 m3f);obtain⟨i,j,k,t,w,A⟩:=b.out.b0;obtain⟨B,C,D,E,F,G⟩:=b.out.b1;unfold CJ))
 (try clear i j k t w A);(try clear B C D E F G);(try clear m20 m21 m22 m23 m24 m2f);(try clear m30 m31 m32 m33 m34 m3f)
 go_loopg [] n (fun g wr=>∃(m:Nat) (x:Tr) (M:Option Addr) (N:Nat) (U:Ps),m=g/\m<=n/\Hid (Dn nx pl ere m (.innL x) U=r)/\Hid (Fx R W q (W.heap.size+1) s U [⟨w1.heap.size,.int .i64 x.kd,.string ⟨x.nm.toArray⟩,.float .f64 x.x,.slice M x.ks.length N,.complex .f64 x.z.1 x.z.2⟩,⟨W.heap.size,.int .i64 0,.string ⟨#[]⟩,.float .f64 0,.slice none 0 0,.complex .f64 0 0⟩] [(x.ks,.slice M x.ks.length N)] wr))
 case atStart=>exact⟨n,u,V,Y,p1,rfl,aF _,d,b⟩
 clear b d;obtain⟨m,x,M,N,U,rfl,c0,d,b⟩:=hrel
 cases m with
 | zero=>exact absurd d.out.symm K
 | succ m =>
 replace d:=aA (by have:=d.out;rw[Dn] at this;exact this);obtain⟨i,j,k,t,w,A⟩:=b.out.b0;obtain⟨B,C,D,E,F,G⟩:=b.out.b1
 go_wp2_with (first | (go_at_call 65;(with_reducible refine(DS HN.out b.out.z false).mono ?_);intro e w2 ha;rcases ha.part d K with⟨f,J,rfl,I,P⟩ | ⟨t2,p2,v,rfl,⟨rfl,rfl,h0,et,a0,O⟩,I,H⟩;exact⟨rfl,BX P (b.out.o.trans I)⟩;replace d:=H;clear H ha;(try dsimp only at d);replace b:=aA ((b.out.quiet O));clear h0 et O I;(try clear i j k t w A);(try clear B C D E F G);(try clear m20 m21 m22 m23 m24 m2f);(try clear m30 m31 m32 m33 m34 m3f);obtain⟨i,j,k,t,w,A⟩:=b.out.b0;obtain⟨B,C,D,E,F,G⟩:=b.out.b1;unfold G1) | (go_at_call 45;(with_reducible refine(L0 t2 [105,110] _).mono ?_);rintro e w3 ⟨rfl,O⟩;replace b:=aA (b.out.quiet O);clear O;cases hs:XI t2 [105,110]<;>(simp only[hs,if_true,if_false,aC,reduceIte,or_true,true_or,or_false,false_or,and_true,true_and,and_false,false_and] at d;clear hs);all_goals ((try clear i j k t w A);(try clear B C D E F G);(try clear m20 m21 m22 m23 m24 m2f);(try clear m30 m31 m32 m33 m34 m3f);obtain⟨i,j,k,t,w,A⟩:=b.out.b0;obtain⟨B,C,D,E,F,G⟩:=b.out.b1)) | (go_at_call 265;(refine(HH.out _ (by omega) [x] _ 1 1 _ _ _ rfl b.out.kid1.z b.out.nq b.out.kid1.ka (CA d K)).mono ?_);intro e w8 ha;rcases ha.part d K with⟨f,J,rfl,I,P⟩ | ⟨_,p8,v,rfl,⟨⟨y,kv,rfl,rfl,L⟩,Q⟩,I,H⟩;exact⟨rfl,BX P (b.out.kid1.o.trans I)⟩;replace d:=H;clear H ha;(try dsimp only[hd1,aH] at d);obtain⟨X,Z,rfl⟩:=L.slice;replace b:=aA (b.out.kid1.readS L Q I).row1;clear L Q I;(try clear i j k t w A);(try clear B C D E F G);(try clear m20 m21 m22 m23 m24 m2f);(try clear m30 m31 m32 m33 m34 m3f);obtain⟨i,j,k,t,w,A⟩:=b.out.b0;obtain⟨B,C,D,E,F,G⟩:=b.out.b1;unfold CJ))
 ·obtain⟨z0,z1,z2,z3,z4,zf⟩:=((((b.out.b1.set0 (.int .i64 x.kd)).set1 (.string ⟨x.nm.toArray⟩)).set2 (.float .f64 x.x)).set3 (.slice M x.ks.length N)).set4 (.complex .f64 x.z.1 x.z.2)
  exact bodyPost_ret (v:=CJ x (.slice M x.ks.length N)) (by simp[CJ,results,results250,go_sem,z0,z1,z2,z3,z4]<;>exact rfl) rfl (b.out.done b.out.k0 _ _ _ _ _ d)
 replace b:=aA (b.out.store (.int .i64 y.kd) (.string ⟨y.nm.toArray⟩) (.float .f64 y.x) (.slice X y.ks.length Z) (.complex .f64 y.z.1 y.z.2))
 go_roundg m
 case rel=>exact⟨m,y,X,Z,p8,rfl,by omega,d,b⟩
 all_goals omega
set_option linter.unusedSimpArgs false in
theorem YB {nx:Nat->Bool->Tk} {pl:Nat->Nat×Nat} {ere:List UInt8->Option Bool} {J:World} {q:Nat} {s:ByteArray} (Y:F2 nx s J) (hP:H6 pl s) (n:Nat)
  (Z:∀m,m<=n->NC nx pl ere J q s m .expr 103) (hn:n<=1000000):LC nx pl ere J q s (n+1) .list 222:=by
 intro p W h B;obtain⟨r,C⟩:∃r,Dn nx pl ere (n+1) .list p=r:=⟨_,rfl⟩;rw[C] at B ⊢;rw[Dn] at C;have k:=aA C;have d:=aA (Fx.start h);have K:=aA Y;have U:=aA hP;have T:=aA (fun m (hm:m<=n) p W h g=>Z m hm p W h g);clear C h Y hP Z;obtain⟨i0,N,O,P,Q⟩:=info_parts Y8
 go_in
 go_wp2_with (first | (go_at_call 103;(with_reducible refine(T.out _ (aF _) _ _ d.out.z (CA k B)).mono ?_);intro e w1 ha;rcases ha.part k B with⟨f,C,rfl,t,D⟩ | ⟨_,p1,v,rfl,⟨⟨u,kv,rfl,rfl,E⟩,A⟩,t,i⟩;exact⟨rfl,BX D (d.out.o.trans t)⟩;replace k:=i;clear i ha;(try dsimp only at k);obtain⟨au,cu,rfl⟩:=E.slice;replace d:=aA (d.out.read E A t).kid1;clear E A t;(try dsimp only[hd1,aH,aB,aD,aE] at k);(try clear m00 m01 m02 m03 m04 m0f);(try clear m10 m11 m12 m13 m14 m1f);(try clear m20 m21 m22 m23 m24 m2f);(try clear m30 m31 m32 m33 m34 m3f);unfold CJ))
 go_loopg [3] n (fun g v3 wr=>∃(m:Nat) (l:List Tr) (a:Option Addr) (c:Nat) (R:Ps),m=g/\v3 = .slice a l.length c/\l.length+m<=n+1/\Hid (Dn nx pl ere m (.listL l) R=r)/\Hid (Fx J W q W.heap.size s R [] [(l,.slice a l.length c)] wr))
 case atStart=>exact⟨n,[u],some ⟨w1.heap.size,0,none⟩,1,p1,rfl,rfl,by simp only[aG];omega,k,aA d.out.row1⟩
 clear d k;obtain⟨m,l,a,c,R,rfl,rfl,a0,k,d⟩:=hrel
 cases m with
 | zero=>exact absurd k.out.symm B
 | succ m =>
 replace k:=aA (by have:=k.out;rw[Dn] at this;exact this)
 go_wp2_with (first | (at_builtin;have I:=aA (d.out.quiet (Ad _ (.cells #[.int .i64 y.kd,.string ⟨y.nm.toArray⟩,.float .f64 y.x,.slice V y.ks.length X,.complex .f64 y.z.1 y.z.2] 42)));obtain⟨L,M,w,hS,F⟩:=I.out.ka.owns W.heap.size (fun j e=>e.1);have G:L.length=l.length:=(by rw[<- M,List.length_map]);have H:=I.out.hB.2;refine Bg _ rfl (.tmp 13) (.tmp 16) 38 rfl W.heap.size 42 i0 _ 5 72 underlying38 N O P Q rfl (by decide) _ _ _ rfl w ⟨w5.heap.size,0,none⟩ 1 1 (Ah [(y,.slice V y.ks.length X)]) rfl rfl (Z2 _ _ _) (ZB _ _ _ _) (by unfold maxLen;omega) (by omega) H (by decide) ?_;intro v6 w6 o1 o2 o3;have hF:=I.out.append M (fun g e=>⟨hS g e,(w.lt g e).2⟩) F (S.out.bel (Ad _ _)) o1 o2 o3;obtain⟨a6,c6,rfl⟩:=hF.ka.slice;replace d:=aA hF;clear hF o1 o2 o3 M w hS F G H I S) | (go_at_call 69;(with_reducible refine(F1 K.out d.out.z [44]).mono ?_);intro e w2 ha;rcases ha.part k B with⟨f,C,rfl,t,D⟩ | ⟨b,p2,v,rfl,⟨rfl,rfl,hb⟩,t,i⟩;exact⟨rfl,BX D (d.out.o.trans t)⟩;replace k:=i;clear i ha;(try dsimp only at k);replace d:=aA (d.out.quiet hb);clear hb t;cases b<;>(simp only[if_true,if_false,aC,reduceIte] at k);all_goals ((try clear m00 m01 m02 m03 m04 m0f);(try clear m10 m11 m12 m13 m14 m1f);(try clear m20 m21 m22 m23 m24 m2f);(try clear m30 m31 m32 m33 m34 m3f))) | (go_at_call 68;(with_reducible refine(EM K.out U.out d.out.z [44]).mono ?_);intro e w3 ha;rcases ha.part k B with⟨f,C,rfl,t,D⟩ | ⟨z3,p3,v,rfl,⟨rfl,A⟩,t,i⟩;exact⟨rfl,BX D (d.out.o.trans t)⟩;replace k:=i;clear i ha;(try dsimp only at k);replace d:=aA (d.out.move A t);clear A t;(try clear m00 m01 m02 m03 m04 m0f);(try clear m10 m11 m12 m13 m14 m1f);(try clear m20 m21 m22 m23 m24 m2f);(try clear m30 m31 m32 m33 m34 m3f)) | (go_at_call 71;(with_reducible refine(M' K.out U.out d.out.z true _ (CA k B)).mono ?_);intro e w4 ha;rcases ha.part k B with⟨f,C,rfl,t,D⟩ | ⟨_,p4,v,rfl,⟨rfl,A⟩,t,i⟩;exact⟨rfl,BX D (d.out.o.trans t)⟩;replace k:=i;clear i ha;(try dsimp only at k);replace d:=aA (d.out.move A t);clear A t;(try clear m00 m01 m02 m03 m04 m0f);(try clear m10 m11 m12 m13 m14 m1f);(try clear m20 m21 m22 m23 m24 m2f);(try clear m30 m31 m32 m33 m34 m3f)) | (go_at_call 103;(with_reducible refine(T.out _ (by omega) _ _ d.out.z (CA k B)).mono ?_);intro e w5 ha;rcases ha.part k B with⟨f,C,rfl,t,D⟩ | ⟨_,p5,v,rfl,⟨⟨y,kv,rfl,rfl,E⟩,A⟩,t,i⟩;exact⟨rfl,BX D (d.out.o.trans t)⟩;replace k:=i;clear i ha;(try dsimp only at k);obtain⟨V,X,rfl⟩:=E.slice;have S:=aA (d.out.apart E);replace d:=aA (d.out.move A t);clear E A t;unfold CJ))
 ·go_ret
  exact O2 k ⟨d.out.k0,d.out.z⟩ d.out.o
 go_roundg m
 case rel=>exact⟨m,l++[y],a6,c6,p5,rfl,by rw[aK,aG],by rw[aK,aG];omega,k,d⟩
 all_goals omega
set_option linter.unusedSimpArgs false in
theorem Xw {nx:Nat->Bool->Tk} {pl:Nat->Nat×Nat} {ere:List UInt8->Option Bool} {Q:World} {q:Nat} {s:ByteArray} (hN:F2 nx s Q) (hP:H6 pl s) (n:Nat)
  (hO:NC nx pl ere Q q s n .operand 303)
  (hL:LC nx pl ere Q q s n .list 222)
  (hH:HC nx pl ere Q q s n):NC nx pl ere Q q s (n+1) .primary 300:=by
 intro p W h M;obtain⟨r,L⟩:∃r,Dn nx pl ere (n+1) .primary p=r:=⟨_,rfl⟩;rw[L] at M ⊢;rw[Dn] at L;have B:=aA L;have b:=aA (Fx.start1 h (.int .i64 0) (.string ⟨#[]⟩) (.float .f64 0) (.slice none 0 0) (.complex .f64 0 0) 42);have T:=aA hN;have HP:=aA hP;have HO:=aA (fun p W h g=>hO p W h g);have HL:=aA (fun p W h g=>hL p W h g);have HH:=aA (fun l a ln c S p W h1 h2 h3 h4 g=>hH l a ln c S p W h1 h2 h3 h4 g);clear hH L h hN hP hO hL;obtain⟨i,j,k,m,u,w⟩:=b.out.b0
 go_in
 go_wp2_with (first | (go_at_call 65;(with_reducible refine(DS T.out b.out.z true).mono ?_);intro e w2 ha;rcases ha.part B M with⟨f,L,rfl,A,K⟩ | ⟨N,p2,v,rfl,⟨rfl,rfl,h0,et,a0,O⟩,A,d⟩;exact⟨rfl,BX K (b.out.o.trans A)⟩;replace B:=d;clear d ha;(try dsimp only at B);replace b:=aA ((b.out.quiet O).box (.int .i64 N.kd) (.string ⟨N.tx.toArray⟩) (.float .f64 N.nm) (.int .i64 N.f) (.int .i64 N.t) 70);clear h0 et O A;(try clear i j k m u w);(try clear C D E F G H);(try clear m20 m21 m22 m23 m24 m2f);(try clear m30 m31 m32 m33 m34 m3f);obtain⟨i,j,k,m,u,w⟩:=b.out.b0;obtain⟨C,D,E,F,G,H⟩:=b.out.b1;unfold G1) | (go_at_call 45;(with_reducible refine(EE N [40] _).mono ?_);rintro e w3 ⟨rfl,O⟩;replace b:=aA (b.out.quiet O);clear O;cases hs:isS N [40]<;>(simp only[hs,if_true,if_false,aC,reduceIte,or_true,true_or,or_false,false_or,and_true,true_and,and_false,false_and] at B;clear hs);all_goals ((try clear i j k m u w);(try clear C D E F G H);(try clear m20 m21 m22 m23 m24 m2f);(try clear m30 m31 m32 m33 m34 m3f);obtain⟨i,j,k,m,u,w⟩:=b.out.b0;obtain⟨C,D,E,F,G,H⟩:=b.out.b1)) | (go_at_call 68;(with_reducible refine(EM T.out HP.out b.out.z [40]).mono ?_);intro e w4 ha;rcases ha.part B M with⟨f,L,rfl,A,K⟩ | ⟨za,p4,v,rfl,⟨rfl,I⟩,A,d⟩;exact⟨rfl,BX K (b.out.o.trans A)⟩;replace B:=d;clear d ha;(try dsimp only at B);replace b:=aA (b.out.move I A);clear I A;(try clear i j k m u w);(try clear C D E F G H);(try clear m20 m21 m22 m23 m24 m2f);(try clear m30 m31 m32 m33 m34 m3f);obtain⟨i,j,k,m,u,w⟩:=b.out.b0;obtain⟨C,D,E,F,G,H⟩:=b.out.b1) | (go_at_call 222;(with_reducible refine(HL.out _ _ b.out.z (CA B M)).mono ?_);intro e w5 ha;rcases ha.part B M with⟨f,L,rfl,A,K⟩ | ⟨l5,p5,v,rfl,⟨J,I⟩,A,d⟩;exact⟨rfl,BX K (b.out.o.trans A)⟩;replace B:=d;clear d ha;(try dsimp only at B);obtain⟨U,X,rfl⟩:=J.slice;replace b:=aA (b.out.read J I A);clear J I A;(try clear i j k m u w);(try clear C D E F G H);(try clear m20 m21 m22 m23 m24 m2f);(try clear m30 m31 m32 m33 m34 m3f);obtain⟨i,j,k,m,u,w⟩:=b.out.b0;obtain⟨C,D,E,F,G,H⟩:=b.out.b1) | (go_at_call 68;(with_reducible refine(EM T.out HP.out b.out.z [41]).mono ?_);intro e w6 ha;rcases ha.part B M with⟨f,L,rfl,A,K⟩ | ⟨zb,p6,v,rfl,⟨rfl,I⟩,A,d⟩;exact⟨rfl,BX K (b.out.o.trans A)⟩;replace B:=d;clear d ha;(try dsimp only at B);replace b:=aA (b.out.move I A);clear I A;(try clear i j k m u w);(try clear C D E F G H);(try clear m20 m21 m22 m23 m24 m2f);(try clear m30 m31 m32 m33 m34 m3f);obtain⟨i,j,k,m,u,w⟩:=b.out.b0;obtain⟨C,D,E,F,G,H⟩:=b.out.b1;rcases Aav l5 with⟨x,rfl⟩ | ⟨hl,bl⟩;rw[if_pos aG] at B;obtain⟨bk,ax,cx,rfl,P,c0,c1,c2,c3,c4⟩:=ZF b.out.ka;have R:=aA P;clear P;rotate_left;rw[if_neg hl] at B;clear hl) | (go_at_call 303;(with_reducible refine(HO.out _ _ b.out.z (CA (M2 B) M)).mono ?_);intro e w7 ha;rcases ha.part (M2 B) M with⟨f,L,rfl,A,K⟩ | ⟨_,p7,v,rfl,⟨⟨y,kv,rfl,rfl,J⟩,I⟩,A,d⟩;exact⟨rfl,BX K (b.out.o.trans A)⟩;replace B:=d;clear d ha;(try dsimp only at B);obtain⟨V,Y,rfl⟩:=J.slice;replace b:=aA ((b.out.read J I A));clear J I A;(try dsimp only[hd1,aH,aB,aD,aE] at B);(try clear i j k m u w);(try clear C D E F G H);(try clear m20 m21 m22 m23 m24 m2f);(try clear m30 m31 m32 m33 m34 m3f);obtain⟨i,j,k,m,u,w⟩:=b.out.b0;obtain⟨C,D,E,F,G,H⟩:=b.out.b1;unfold CJ) | (go_at_call 265;(with_reducible refine(HH.out l5 U _ X _ _ _ rfl b.out.z b.out.nq b.out.ka (CA (M2 B) M)).mono ?_);intro e w8 ha;rcases ha.part (M2 B) M with⟨f,L,rfl,A,K⟩ | ⟨_,p8,v,rfl,⟨⟨y,kv,rfl,rfl,J⟩,I⟩,A,d⟩;exact⟨rfl,BX K (b.out.o.trans A)⟩;replace B:=d;clear d ha;(try dsimp only at B);obtain⟨V,Y,rfl⟩:=J.slice;replace b:=aA (b.out.readS J I A);clear J I A;(try clear i j k m u w);(try clear C D E F G H);(try clear m20 m21 m22 m23 m24 m2f);(try clear m30 m31 m32 m33 m34 m3f);obtain⟨i,j,k,m,u,w⟩:=b.out.b0;obtain⟨C,D,E,F,G,H⟩:=b.out.b1;unfold CJ))
 iterate 2
  focus
   obtain⟨Z,z1,z2,z3,z4,zf⟩:=((((b.out.b1.set0 (.int .i64 y.kd)).set1 (.string ⟨y.nm.toArray⟩)).set2 (.float .f64 y.x)).set3 (.slice V y.ks.length Y)).set4 (.complex .f64 y.z.1 y.z.2);exact bodyPost_ret (v:=CJ y (.slice V y.ks.length Y)) (by simp[CJ,results,results300,go_sem,Z,z1,z2,z3,z4]<;>exact rfl) rfl (b.out.done b.out.k0 _ _ _ _ _ B)
 obtain⟨Z,z1,z2,z3,z4,zf⟩:=((((b.out.b1.set0 (.int .i64 x.kd)).set1 (.string ⟨x.nm.toArray⟩)).set2 (.float .f64 x.x)).set3 (.slice ax x.ks.length cx)).set4 (.complex .f64 x.z.1 x.z.2);exact bodyPost_ret (v:=CJ x (.slice ax x.ks.length cx)) (by simp[CJ,results,results300,go_sem,Z,z1,z2,z3,z4]<;>exact rfl) rfl (b.out.done (R.out.mono fun _ _ e=>e.1) _ _ _ _ _ B)
set_option linter.unusedSimpArgs false in
theorem Yu {nx:Nat->Bool->Tk} {pl:Nat->Nat×Nat} {ere:List UInt8->Option Bool} {w0:World} {q:Nat} {s:ByteArray} (hN:F2 nx s w0) (hP:H6 pl s) (n:Nat)
  (hO:NC nx pl ere w0 q s n .or 183)
  (hE:NC nx pl ere w0 q s n .expr 103):NC nx pl ere w0 q s (n+1) .cond 136:=by
 intro p W h U;obtain⟨r,T⟩:∃r,Dn nx pl ere (n+1) .cond p=r:=⟨_,rfl⟩;rw[T] at U ⊢;rw[Dn] at T;have i:=aA T;have a:=aA (Fx.start1 h (.int .i64 0) (.string ⟨#[]⟩) (.float .f64 0) (.slice none 0 0) (.complex .f64 0 0) 42);have HN:=aA hN;have HP:=aA hP;have HO:=aA (fun p W h g=>hO p W h g);have HE:=aA (fun p W h g=>hE p W h g);clear T h hN hP hO hE;obtain⟨j,k,l,m,A,B⟩:=a.out.b0
 go_in
 go_wp2_with (first | (go_at_call 183;(with_reducible refine(HO.out _ _ a.out.z (CA i U)).mono ?_);intro e w1 ha;rcases ha.part i U with⟨f,T,rfl,d,S⟩ | ⟨_,p1,v,rfl,⟨⟨u,kv,rfl,rfl,R⟩,P⟩,d,c⟩;exact⟨rfl,BX S (a.out.o.trans d)⟩;replace i:=c;clear c ha;(try dsimp only at i);obtain⟨Y,Z,rfl⟩:=R.slice;replace a:=aA ((a.out.read R P d).box (.int .i64 u.kd) (.string ⟨u.nm.toArray⟩) (.float .f64 u.x) (.slice Y u.ks.length Z) (.complex .f64 u.z.1 u.z.2) 42);clear R P d;(try dsimp only[hd1,aH,aB,aD,aE] at i);(try clear j k l m A B);(try clear C D E F G H);(try clear I J L M N O);(try clear m30 m31 m32 m33 m34 m3f);obtain⟨j,k,l,m,A,B⟩:=a.out.b0;obtain⟨C,D,E,F,G,H⟩:=a.out.b1;unfold CJ) | (go_at_call 69;(with_reducible refine(F1 HN.out a.out.z [63]).mono ?_);intro e w2 ha;rcases ha.part i U with⟨f,T,rfl,d,S⟩ | ⟨b,p2,v,rfl,⟨rfl,rfl,hb⟩,d,c⟩;exact⟨rfl,BX S (a.out.o.trans d)⟩;replace i:=c;clear c ha;(try dsimp only at i);replace a:=aA (a.out.quiet hb);clear hb d;cases b<;>(simp only[if_true,if_false,aC,reduceIte] at i);all_goals ((try clear j k l m A B);(try clear C D E F G H);(try clear I J L M N O);(try clear m30 m31 m32 m33 m34 m3f);obtain⟨j,k,l,m,A,B⟩:=a.out.b0;obtain⟨C,D,E,F,G,H⟩:=a.out.b1)) | (go_at_call 68;(with_reducible refine(EM HN.out HP.out a.out.z [63]).mono ?_);intro e w3 ha;rcases ha.part i U with⟨f,T,rfl,d,S⟩ | ⟨X,p3,v,rfl,⟨rfl,P⟩,d,c⟩;exact⟨rfl,BX S (a.out.o.trans d)⟩;replace i:=c;clear c ha;(try dsimp only at i);replace a:=aA (a.out.move P d);clear P d;(try clear j k l m A B);(try clear C D E F G H);(try clear I J L M N O);(try clear m30 m31 m32 m33 m34 m3f);obtain⟨j,k,l,m,A,B⟩:=a.out.b0;obtain⟨C,D,E,F,G,H⟩:=a.out.b1) | (go_at_call 103;(with_reducible refine(HE.out _ _ a.out.z (CA i U)).mono ?_);intro e w4 ha;rcases ha.part i U with⟨f,T,rfl,d,S⟩ | ⟨_,p4,v,rfl,⟨⟨x,kv,rfl,rfl,R⟩,P⟩,d,c⟩;exact⟨rfl,BX S (a.out.o.trans d)⟩;replace i:=c;clear c ha;(try dsimp only at i);obtain⟨ax,cx,rfl⟩:=R.slice;replace a:=aA ((a.out.read R P d).box (.int .i64 x.kd) (.string ⟨x.nm.toArray⟩) (.float .f64 x.x) (.slice ax x.ks.length cx) (.complex .f64 x.z.1 x.z.2) 42);clear R P d;(try dsimp only[hd1,aH,aB,aD,aE] at i);(try clear j k l m A B);(try clear C D E F G H);(try clear I J L M N O);(try clear m30 m31 m32 m33 m34 m3f);obtain⟨j,k,l,m,A,B⟩:=a.out.b0;obtain⟨C,D,E,F,G,H⟩:=a.out.b1;obtain⟨I,J,L,M,N,O⟩:=a.out.b2;unfold CJ) | (go_at_call 68;(with_reducible refine(EM HN.out HP.out a.out.z [58]).mono ?_);intro e w5 ha;rcases ha.part i U with⟨f,T,rfl,d,S⟩ | ⟨zc,p5,v,rfl,⟨rfl,P⟩,d,c⟩;exact⟨rfl,BX S (a.out.o.trans d)⟩;replace i:=c;clear c ha;(try dsimp only at i);replace a:=aA (a.out.move P d);clear P d;(try clear j k l m A B);(try clear C D E F G H);(try clear I J L M N O);(try clear m30 m31 m32 m33 m34 m3f);obtain⟨j,k,l,m,A,B⟩:=a.out.b0;obtain⟨C,D,E,F,G,H⟩:=a.out.b1;obtain⟨I,J,L,M,N,O⟩:=a.out.b2))
 ·obtain⟨z0,z1,z2,z3,z4,zf⟩:=((((a.out.b1.set0 (.int .i64 u.kd)).set1 (.string ⟨u.nm.toArray⟩)).set2 (.float .f64 u.x)).set3 (.slice Y u.ks.length Z)).set4 (.complex .f64 u.z.1 u.z.2)
  exact bodyPost_ret (v:=CJ u (.slice Y u.ks.length Z)) (by simp[CJ,results,results136,go_sem,z0,z1,z2,z3,z4]<;>exact rfl) rfl (a.out.done a.out.k0 _ _ _ _ _ i)
 (try clear j k l m A B);(try clear C D E F G H);(try clear I J L M N O);(try clear m30 m31 m32 m33 m34 m3f)
 refine a.out.region 7 (by kernel_rfl) (fun Q=>?_);refine AbP 0 (.complex .f64 X.1 X.2) rfl Q ?_
 try simp only[Act.put,sP]
 refine AbU 1 ((.agg #[.int .i64 u.kd,.string ⟨u.nm.toArray⟩,.float .f64 u.x,.slice Y u.ks.length Z,.complex .f64 u.z.1 u.z.2])) rfl (fun w hS=>by obtain⟨s0,s1,s2,s3,s4,-⟩:=hS.b1;go_simp) Q ?_
 try simp only[Act.put,sP]
 refine AbU 2 ((.agg #[.int .i64 x.kd,.string ⟨x.nm.toArray⟩,.float .f64 x.x,.slice ax x.ks.length cx,.complex .f64 x.z.1 x.z.2])) rfl (fun w hS=>by obtain⟨s0,s1,s2,s3,s4,-⟩:=hS.b0;go_simp) Q ?_
 try simp only[Act.put,sP]
 refine AbP 3 (.pointer (some ⟨q,0,none⟩)) rfl Q ?_
 try simp only[Act.put,sP]
 refine AaC 4 rfl (fun K V=>?_)
 try go_simp
 go_at_call 103
 refine(HE.out _ _ a.out.drew.z (CA i U)).mono ?_;intro e w8 ha;rcases ha.part i U with⟨f,T,rfl,d,S⟩ | ⟨_,p8,v,rfl,⟨⟨y,kv,rfl,rfl,R⟩,P⟩,d,c⟩
 ·exact⟨rfl,BX S (a.out.drew.o.trans d)⟩
 replace i:=c;clear c ha
 (try dsimp only[aB,aD,aE] at i)
 obtain⟨ay,cy,rfl⟩:=R.slice;replace a:=aA (a.out.drew.read R P d);clear R P d Q;unfold CJ;refine V.out _ _ (.inr a.out.bs) ?_
 try simp only[Act.put,sP]
 refine AaC 5 rfl (fun K V=>?_)
 try go_simp
 replace a:=aA a.out.kid3;refine V.out _ _ (.inr a.out.bs) ?_
 try simp only[Act.put,sP]
 refine AaC 6 rfl (fun K V=>?_)
 try go_simp
 refine V.out _ _ (.inr a.out.bs) ?_
 try simp only[Act.put,sP]
 obtain⟨n0,n1,n2,n3,n4,nf⟩:=a.out.b2;refine AaC 7 rfl (fun K V=>?_)
 try go_simp
 refine V.out _ _ (.inl rfl) ?_
 try simp only[Act.put,sP]
 refine Aal (by kernel_rfl) ?_ _;go_wp2;obtain⟨z0,z1,z2,z3,z4,zf⟩:=((((a.out.b2.set0 (.int .i64 8)).set1 (.string ⟨#[]⟩)).set2 (.float .f64 0)).set3 (.slice (some ⟨w8.heap.size,0,none⟩) 3 3)).set4 (.complex .f64 X.1 X.2);exact bodyPost_ret (v:=.agg #[.int .i64 8,.string ⟨#[]⟩,.float .f64 0,.slice (some ⟨w8.heap.size,0,none⟩) 3 3,.complex .f64 X.1 X.2]) (by simp[results,results136,go_sem,z0,z1,z2,z3,z4]<;>exact rfl) rfl (a.out.done (t:=.mk 8 [] 0 X [u,x,y]) a.out.k0 _ _ _ _ _ i)
set_option linter.unusedSimpArgs false in
theorem ZC {nx:Nat->Bool->Tk} {pl:Nat->Nat×Nat} {ere:List UInt8->Option Bool} {T:World} {q:Nat} {s:ByteArray} (hN:F2 nx s T) (hP:H6 pl s) (n:Nat)
  (hO:∀m,m<=n->NC nx pl ere T q s m .and 224):NC nx pl ere T q s (n+1) .or 183:=by
 intro p W h J;obtain⟨r,L⟩:∃r,Dn nx pl ere (n+1) .or p=r:=⟨_,rfl⟩;rw[L] at J ⊢;rw[Dn] at L;have d:=aA L;have a:=aA (Fx.start1 h (.int .i64 0) (.string ⟨#[]⟩) (.float .f64 0) (.slice none 0 0) (.complex .f64 0 0) 42);have U:=aA hN;have Y:=aA hP;have X:=aA (fun m (hm:m<=n) p W h g=>hO m hm p W h g);clear L h hN hP hO;obtain⟨j,k,l,t,A,B⟩:=a.out.b0
 go_in
 go_wp2_with (first | (go_at_call 224;(with_reducible refine(X.out _ (aF _) _ _ a.out.z (CA d J)).mono ?_);intro e w1 ha;rcases ha.part d J with⟨f,L,rfl,i,N⟩ | ⟨_,p1,v,rfl,⟨⟨u,kv,rfl,rfl,P⟩,I⟩,i,c⟩;exact⟨rfl,BX N (a.out.o.trans i)⟩;replace d:=c;clear c ha;(try dsimp only at d);obtain⟨Z,cu,rfl⟩:=P.slice;replace a:=aA ((a.out.read P I i).box (.int .i64 u.kd) (.string ⟨u.nm.toArray⟩) (.float .f64 u.x) (.slice Z u.ks.length cu) (.complex .f64 u.z.1 u.z.2) 42);clear P I i;(try dsimp only[hd1,aH,aB,aD,aE] at d);(try clear j k l t A B);(try clear C D E F G H);(try clear m20 m21 m22 m23 m24 m2f);(try clear m30 m31 m32 m33 m34 m3f);obtain⟨j,k,l,t,A,B⟩:=a.out.b0;obtain⟨C,D,E,F,G,H⟩:=a.out.b1;unfold CJ))
 (try clear j k l t A B);(try clear C D E F G H);(try clear m20 m21 m22 m23 m24 m2f);(try clear m30 m31 m32 m33 m34 m3f)
 go_loopg [] n (fun g wr=>∃(m:Nat) (x:Tr) (R:Option Addr) (S:Nat) (V:Ps),m=g/\m<=n/\Hid (Dn nx pl ere m (.orL x) V=r)/\Hid (Fx T W q (W.heap.size+1) s V [⟨w1.heap.size,.int .i64 x.kd,.string ⟨x.nm.toArray⟩,.float .f64 x.x,.slice R x.ks.length S,.complex .f64 x.z.1 x.z.2⟩,⟨W.heap.size,.int .i64 0,.string ⟨#[]⟩,.float .f64 0,.slice none 0 0,.complex .f64 0 0⟩] [(x.ks,.slice R x.ks.length S)] wr))
 case atStart=>exact⟨n,u,Z,cu,p1,rfl,aF _,d,a⟩
 clear a d;obtain⟨m,x,R,S,V,rfl,a0,d,a⟩:=hrel
 cases m with
 | zero=>exact absurd d.out.symm J
 | succ m =>
 replace d:=aA (by have:=d.out;rw[Dn] at this;exact this);obtain⟨j,k,l,t,A,B⟩:=a.out.b0;obtain⟨C,D,E,F,G,H⟩:=a.out.b1
 go_wp2_with (first | (go_at_call 69;(with_reducible refine(F1 U.out a.out.z [124,124]).mono ?_);intro e w2 ha;rcases ha.part d J with⟨f,L,rfl,i,N⟩ | ⟨b,p2,v,rfl,⟨rfl,rfl,hb⟩,i,c⟩;exact⟨rfl,BX N (a.out.o.trans i)⟩;replace d:=c;clear c ha;(try dsimp only at d);replace a:=aA (a.out.quiet hb);clear hb i;cases b<;>(simp only[if_true,if_false,aC,reduceIte] at d);all_goals ((try clear j k l t A B);(try clear C D E F G H);(try clear m20 m21 m22 m23 m24 m2f);(try clear m30 m31 m32 m33 m34 m3f);obtain⟨j,k,l,t,A,B⟩:=a.out.b0;obtain⟨C,D,E,F,G,H⟩:=a.out.b1)) | (go_at_call 68;(with_reducible refine(EM U.out Y.out a.out.z [124,124]).mono ?_);intro e w3 ha;rcases ha.part d J with⟨f,L,rfl,i,N⟩ | ⟨Q,p3,v,rfl,⟨rfl,I⟩,i,c⟩;exact⟨rfl,BX N (a.out.o.trans i)⟩;replace d:=c;clear c ha;(try dsimp only at d);replace a:=aA (a.out.move I i);clear I i;(try clear j k l t A B);(try clear C D E F G H);(try clear m20 m21 m22 m23 m24 m2f);(try clear m30 m31 m32 m33 m34 m3f);obtain⟨j,k,l,t,A,B⟩:=a.out.b0;obtain⟨C,D,E,F,G,H⟩:=a.out.b1) | (go_at_call 71;(with_reducible refine(M' U.out Y.out a.out.z true _ (CA d J)).mono ?_);intro e w4 ha;rcases ha.part d J with⟨f,L,rfl,i,N⟩ | ⟨_,p4,v,rfl,⟨rfl,I⟩,i,c⟩;exact⟨rfl,BX N (a.out.o.trans i)⟩;replace d:=c;clear c ha;(try dsimp only at d);replace a:=aA (a.out.move I i);clear I i;(try clear j k l t A B);(try clear C D E F G H);(try clear m20 m21 m22 m23 m24 m2f);(try clear m30 m31 m32 m33 m34 m3f);obtain⟨j,k,l,t,A,B⟩:=a.out.b0;obtain⟨C,D,E,F,G,H⟩:=a.out.b1))
 ·obtain⟨z0,z1,z2,Q,z4,zf⟩:=((((a.out.b1.set0 (.int .i64 x.kd)).set1 (.string ⟨x.nm.toArray⟩)).set2 (.float .f64 x.x)).set3 (.slice R x.ks.length S)).set4 (.complex .f64 x.z.1 x.z.2)
  exact bodyPost_ret (v:=CJ x (.slice R x.ks.length S)) (by simp[CJ,results,results183,go_sem,z0,z1,z2,Q,z4]<;>exact rfl) rfl (a.out.done a.out.k0 _ _ _ _ _ d)
 (try clear j k l t A B);(try clear C D E F G H);(try clear m20 m21 m22 m23 m24 m2f);(try clear m30 m31 m32 m33 m34 m3f)
 refine a.out.region 6 (by kernel_rfl) (fun M=>?_);refine AbP 0 (.complex .f64 Q.1 Q.2) rfl M ?_
 try simp only[Act.put,sP]
 refine AbU 1 ((.agg #[.int .i64 x.kd,.string ⟨x.nm.toArray⟩,.float .f64 x.x,.slice R x.ks.length S,.complex .f64 x.z.1 x.z.2])) rfl (fun w hS=>by obtain⟨s0,s1,s2,s3,s4,-⟩:=hS.b0;go_simp) M ?_
 try simp only[Act.put,sP]
 refine AbP 2 (.pointer (some ⟨q,0,none⟩)) rfl M ?_
 try simp only[Act.put,sP]
 refine AaC 3 rfl (fun K O=>?_)
 try go_simp
 go_at_call 224
 refine(X.out _ (by omega) _ _ a.out.drew.z (CA d J)).mono ?_;intro e w8 ha;rcases ha.part d J with⟨f,L,rfl,i,N⟩ | ⟨_,p8,v,rfl,⟨⟨y,kv,rfl,rfl,P⟩,I⟩,i,c⟩
 ·exact⟨rfl,BX N (a.out.drew.o.trans i)⟩
 replace d:=c;clear c ha
 (try dsimp only at d)
 obtain⟨ay,cy,rfl⟩:=P.slice;replace a:=aA (a.out.drew.read P I i);clear P I i M;unfold CJ;refine O.out _ _ (.inr a.out.bs) ?_
 try simp only[Act.put,sP]
 refine AaC 4 rfl (fun K O=>?_)
 try go_simp
 replace a:=aA a.out.kid2;refine O.out _ _ (.inr a.out.bs) ?_
 try simp only[Act.put,sP]
 refine AaC 5 rfl (fun K O=>?_)
 try go_simp
 refine O.out _ _ (.inr a.out.bs) ?_
 try simp only[Act.put,sP]
 obtain⟨n0,n1,n2,n3,n4,nf⟩:=a.out.b0;refine AaC 6 rfl (fun K O=>?_)
 try go_simp
 replace a:=aA (a.out.store (.int .i64 9) (.string ⟨#[]⟩) (.float .f64 0) (.slice (some ⟨w8.heap.size,0,none⟩) 2 2) (.complex .f64 Q.1 Q.2));refine O.out _ _ (.inl rfl) ?_
 try simp only[Act.put,sP]
 refine Aal (by kernel_rfl) ?_ _;go_wp2
 go_roundg m
 case rel=>exact⟨m,.mk 9 [] 0 Q [x,y],some ⟨w8.heap.size,0,none⟩,2,p8,rfl,by omega,d,aA a.out.row1⟩
 all_goals omega
set_option linter.unusedSimpArgs false in
theorem YZ {nx:Nat->Bool->Tk} {pl:Nat->Nat×Nat} {ere:List UInt8->Option Bool} {T:World} {q:Nat} {s:ByteArray} (hN:F2 nx s T) (hP:H6 pl s) (n:Nat)
  (hO:∀m,m<=n->NC nx pl ere T q s m .inn 250):NC nx pl ere T q s (n+1) .and 224:=by
 intro p W h J;obtain⟨r,L⟩:∃r,Dn nx pl ere (n+1) .and p=r:=⟨_,rfl⟩;rw[L] at J ⊢;rw[Dn] at L;have d:=aA L;have a:=aA (Fx.start1 h (.int .i64 0) (.string ⟨#[]⟩) (.float .f64 0) (.slice none 0 0) (.complex .f64 0 0) 42);have U:=aA hN;have Y:=aA hP;have X:=aA (fun m (hm:m<=n) p W h g=>hO m hm p W h g);clear L h hN hP hO;obtain⟨j,k,l,t,A,B⟩:=a.out.b0
 go_in
 go_wp2_with (first | (go_at_call 250;(with_reducible refine(X.out _ (aF _) _ _ a.out.z (CA d J)).mono ?_);intro e w1 ha;rcases ha.part d J with⟨f,L,rfl,i,N⟩ | ⟨_,p1,v,rfl,⟨⟨u,kv,rfl,rfl,P⟩,I⟩,i,c⟩;exact⟨rfl,BX N (a.out.o.trans i)⟩;replace d:=c;clear c ha;(try dsimp only at d);obtain⟨Z,cu,rfl⟩:=P.slice;replace a:=aA ((a.out.read P I i).box (.int .i64 u.kd) (.string ⟨u.nm.toArray⟩) (.float .f64 u.x) (.slice Z u.ks.length cu) (.complex .f64 u.z.1 u.z.2) 42);clear P I i;(try dsimp only[hd1,aH,aB,aD,aE] at d);(try clear j k l t A B);(try clear C D E F G H);(try clear m20 m21 m22 m23 m24 m2f);(try clear m30 m31 m32 m33 m34 m3f);obtain⟨j,k,l,t,A,B⟩:=a.out.b0;obtain⟨C,D,E,F,G,H⟩:=a.out.b1;unfold CJ))
 (try clear j k l t A B);(try clear C D E F G H);(try clear m20 m21 m22 m23 m24 m2f);(try clear m30 m31 m32 m33 m34 m3f)
 go_loopg [] n (fun g wr=>∃(m:Nat) (x:Tr) (R:Option Addr) (S:Nat) (V:Ps),m=g/\m<=n/\Hid (Dn nx pl ere m (.andL x) V=r)/\Hid (Fx T W q (W.heap.size+1) s V [⟨w1.heap.size,.int .i64 x.kd,.string ⟨x.nm.toArray⟩,.float .f64 x.x,.slice R x.ks.length S,.complex .f64 x.z.1 x.z.2⟩,⟨W.heap.size,.int .i64 0,.string ⟨#[]⟩,.float .f64 0,.slice none 0 0,.complex .f64 0 0⟩] [(x.ks,.slice R x.ks.length S)] wr))
 case atStart=>exact⟨n,u,Z,cu,p1,rfl,aF _,d,a⟩
 clear a d;obtain⟨m,x,R,S,V,rfl,a0,d,a⟩:=hrel
 cases m with
 | zero=>exact absurd d.out.symm J
 | succ m =>
 replace d:=aA (by have:=d.out;rw[Dn] at this;exact this);obtain⟨j,k,l,t,A,B⟩:=a.out.b0;obtain⟨C,D,E,F,G,H⟩:=a.out.b1
 go_wp2_with (first | (go_at_call 69;(with_reducible refine(F1 U.out a.out.z [38,38]).mono ?_);intro e w2 ha;rcases ha.part d J with⟨f,L,rfl,i,N⟩ | ⟨b,p2,v,rfl,⟨rfl,rfl,hb⟩,i,c⟩;exact⟨rfl,BX N (a.out.o.trans i)⟩;replace d:=c;clear c ha;(try dsimp only at d);replace a:=aA (a.out.quiet hb);clear hb i;cases b<;>(simp only[if_true,if_false,aC,reduceIte] at d);all_goals ((try clear j k l t A B);(try clear C D E F G H);(try clear m20 m21 m22 m23 m24 m2f);(try clear m30 m31 m32 m33 m34 m3f);obtain⟨j,k,l,t,A,B⟩:=a.out.b0;obtain⟨C,D,E,F,G,H⟩:=a.out.b1)) | (go_at_call 68;(with_reducible refine(EM U.out Y.out a.out.z [38,38]).mono ?_);intro e w3 ha;rcases ha.part d J with⟨f,L,rfl,i,N⟩ | ⟨Q,p3,v,rfl,⟨rfl,I⟩,i,c⟩;exact⟨rfl,BX N (a.out.o.trans i)⟩;replace d:=c;clear c ha;(try dsimp only at d);replace a:=aA (a.out.move I i);clear I i;(try clear j k l t A B);(try clear C D E F G H);(try clear m20 m21 m22 m23 m24 m2f);(try clear m30 m31 m32 m33 m34 m3f);obtain⟨j,k,l,t,A,B⟩:=a.out.b0;obtain⟨C,D,E,F,G,H⟩:=a.out.b1) | (go_at_call 71;(with_reducible refine(M' U.out Y.out a.out.z true _ (CA d J)).mono ?_);intro e w4 ha;rcases ha.part d J with⟨f,L,rfl,i,N⟩ | ⟨_,p4,v,rfl,⟨rfl,I⟩,i,c⟩;exact⟨rfl,BX N (a.out.o.trans i)⟩;replace d:=c;clear c ha;(try dsimp only at d);replace a:=aA (a.out.move I i);clear I i;(try clear j k l t A B);(try clear C D E F G H);(try clear m20 m21 m22 m23 m24 m2f);(try clear m30 m31 m32 m33 m34 m3f);obtain⟨j,k,l,t,A,B⟩:=a.out.b0;obtain⟨C,D,E,F,G,H⟩:=a.out.b1))
 ·obtain⟨z0,z1,z2,Q,z4,zf⟩:=((((a.out.b1.set0 (.int .i64 x.kd)).set1 (.string ⟨x.nm.toArray⟩)).set2 (.float .f64 x.x)).set3 (.slice R x.ks.length S)).set4 (.complex .f64 x.z.1 x.z.2)
  exact bodyPost_ret (v:=CJ x (.slice R x.ks.length S)) (by simp[CJ,results,results224,go_sem,z0,z1,z2,Q,z4]<;>exact rfl) rfl (a.out.done a.out.k0 _ _ _ _ _ d)
 (try clear j k l t A B);(try clear C D E F G H);(try clear m20 m21 m22 m23 m24 m2f);(try clear m30 m31 m32 m33 m34 m3f)
 refine a.out.region 6 (by kernel_rfl) (fun M=>?_);refine AbP 0 (.complex .f64 Q.1 Q.2) rfl M ?_
 try simp only[Act.put,sP]
 refine AbU 1 ((.agg #[.int .i64 x.kd,.string ⟨x.nm.toArray⟩,.float .f64 x.x,.slice R x.ks.length S,.complex .f64 x.z.1 x.z.2])) rfl (fun w hS=>by obtain⟨s0,s1,s2,s3,s4,-⟩:=hS.b0;go_simp) M ?_
 try simp only[Act.put,sP]
 refine AbP 2 (.pointer (some ⟨q,0,none⟩)) rfl M ?_
 try simp only[Act.put,sP]
 refine AaC 3 rfl (fun K O=>?_)
 try go_simp
 go_at_call 250
 refine(X.out _ (by omega) _ _ a.out.drew.z (CA d J)).mono ?_;intro e w8 ha;rcases ha.part d J with⟨f,L,rfl,i,N⟩ | ⟨_,p8,v,rfl,⟨⟨y,kv,rfl,rfl,P⟩,I⟩,i,c⟩
 ·exact⟨rfl,BX N (a.out.drew.o.trans i)⟩
 replace d:=c;clear c ha
 (try dsimp only at d)
 obtain⟨ay,cy,rfl⟩:=P.slice;replace a:=aA (a.out.drew.read P I i);clear P I i M;unfold CJ;refine O.out _ _ (.inr a.out.bs) ?_
 try simp only[Act.put,sP]
 refine AaC 4 rfl (fun K O=>?_)
 try go_simp
 replace a:=aA a.out.kid2;refine O.out _ _ (.inr a.out.bs) ?_
 try simp only[Act.put,sP]
 refine AaC 5 rfl (fun K O=>?_)
 try go_simp
 refine O.out _ _ (.inr a.out.bs) ?_
 try simp only[Act.put,sP]
 obtain⟨n0,n1,n2,n3,n4,nf⟩:=a.out.b0;refine AaC 6 rfl (fun K O=>?_)
 try go_simp
 replace a:=aA (a.out.store (.int .i64 10) (.string ⟨#[]⟩) (.float .f64 0) (.slice (some ⟨w8.heap.size,0,none⟩) 2 2) (.complex .f64 Q.1 Q.2));refine O.out _ _ (.inl rfl) ?_
 try simp only[Act.put,sP]
 refine Aal (by kernel_rfl) ?_ _;go_wp2
 go_roundg m
 case rel=>exact⟨m,.mk 10 [] 0 Q [x,y],some ⟨w8.heap.size,0,none⟩,2,p8,rfl,by omega,d,aA a.out.row1⟩
 all_goals omega
end Go.Proofs.YtfblenhlildnaaaGreatDoor
namespace Go
open Ieee
def KK (n:Nat):Nat:=(1023+n.log2)*4503599627370496+(n-2^n.log2)*2^(52-n.log2)
def eqO (o:Option Nat) (y:Nat):Bool:=match o with
 | some x=>Nat.beq x y
 | none=>false
theorem ZZ:∀ {o:Option Nat} {y:Nat},eqO o y=true->o=some y
 | some _,_,h=>congrArg some (Nat.eq_of_beq_eq_true h)
 | none,_,h=>nomatch h
def okF (k n:Nat):Bool:=eqO (FloatKind.f64.format.add (KK (n+1)) k) (KK (n+2))
def Xr (k o:Nat):Nat->Bool
 | 0=>true
 | m+1=>cond (okF k (m+o)) (Xr k o m) false
theorem LO (k o:Nat):∀m:Nat,Xr k o m=true->∀j,o<=j->j<m+o->okF k j=true
 | 0,_,j,h1,h2=>by omega
 | m+1,h,j,h1,h2=>by
   unfold Xr at h
   cases e:okF k (m+o) with
   | false=>rw[e] at h;cases h
   | true =>
     rw[e] at h;by_cases a:j=m+o
     ·exact a▸e
     exact LO k o m h j h1 (by omega)
theorem Z5 {k n:Nat} (h:okF k n=true):FloatKind.f64.format.add (KK (n+1)) k=some (KK (n+2)):=ZZ h
theorem Aad:Xr 4607182418800017408 0 683=true:=by kernel_rfl
theorem Aae:Xr 4607182418800017408 683 683=true:=by kernel_rfl
theorem Aaf:Xr 4607182418800017408 1366 683=true:=by kernel_rfl
theorem Aag:Xr 4607182418800017408 2049 683=true:=by kernel_rfl
theorem Aah:Xr 4607182418800017408 2732 683=true:=by kernel_rfl
theorem Aai:Xr 4607182418800017408 3415 683=true:=by kernel_rfl
theorem V2 (n:Nat) (c:0<n) (h:n<=4097):FloatKind.f64.format.add (KK n) 4607182418800017408=some (KK (n+1)):=by
 have b:okF 4607182418800017408 (n-1)=true:=by
  have a:n-1<683\/(683<=n-1/\n-1<1366)\/(1366<=n-1/\n-1<2049)\/(2049<=n-1/\n-1<2732)\/(2732<=n-1/\n-1<3415)\/(3415<=n-1/\n-1<4098):=(by omega);rcases a with a | a | a | a | a | a
  ·exact LO _ _ _ Aad (n-1) (by omega) (by omega)
  ·exact LO _ _ _ Aae (n-1) (by omega) (by omega)
  ·exact LO _ _ _ Aaf (n-1) (by omega) (by omega)
  ·exact LO _ _ _ Aag (n-1) (by omega) (by omega)
  ·exact LO _ _ _ Aah (n-1) (by omega) (by omega)
  exact LO _ _ _ Aai (n-1) (by omega) (by omega)
 have:=Z5 b;rw[show n-1+1=n by omega,show n-1+2=n+1 by omega] at this;exact this
theorem YO (E a:Nat) (j:E<=100) (k:a<4503599627370496):FloatKind.f64.format.read ((1023+E)*4503599627370496+a) = .number false (4503599627370496+a) ((E:Int)-52):=by
 have b:FloatKind.f64.format.signWeight=9223372036854775808:=(by decide);have c:FloatKind.f64.format.binade=4503599627370496:=(by decide);have d:FloatKind.f64.format.infRung=9218868437227405312:=(by decide);have e:FloatKind.f64.format.leastPlace = -1074:=(by decide);unfold Format.read;simp only[b,c,d,e];have f:((1023+E)*4503599627370496+a)/9223372036854775808%2=0:=(by omega);have g:((1023+E)*4503599627370496+a)%9223372036854775808=(1023+E)*4503599627370496+a:=(by omega);rw[f,g,if_neg (by omega),if_pos (by omega)];have h:((1023+E)*4503599627370496+a)%4503599627370496=a:=(by omega);have i:((1023+E)*4503599627370496+a)/4503599627370496-1=1022+E:=by omega
 rw[h,i];congr 1;omega
theorem YP:FloatKind.f64.format.read 0 = .number false 0 (-1074):=by decide
theorem X5 (M K:Nat) (b:4503599627370496<=M) (c:M<9007199254740992):(M*2^K).log2=52+K:=by
 have a:0<2^K:=aI (by decide);have d:=aM (show 0<M by omega) a;rw[Nat.log2_eq_iff (by omega)];constructor
 ·rw[aN];exact Nat.mul_le_mul_right _ b
 rw[show 52+K+1=53+K by omega,aN];exact(aJ a).2 c
theorem Y' (K M E:Nat) (c:E+1022=K) (b:E<=100) (a:M<9007199254740992):FloatKind.f64.format.word false (min (K*4503599627370496+M) 9218868437227405312)=K*4503599627370496+M:=by
 have:min (K*4503599627370496+M) 9218868437227405312=K*4503599627370496+M:=(by omega);rw[this];rfl
theorem YD (E K M:Nat) (m:E+1022=K) (l:E<=100) (k:4503599627370496<=M) (d:M<9007199254740992):FloatKind.f64.format.nearest false (M<<<K) (-1074)=K*4503599627370496+M:=by
 have f:FloatKind.f64.format.binade=4503599627370496:=(by decide);have g:FloatKind.f64.format.infRung=9218868437227405312:=(by decide);have h:FloatKind.f64.format.leastPlace = -1074:=(by decide);have i:FloatKind.f64.format.fractionBits=52:=(by decide);have b:=X5 M K k d;have o:M<<<K=M*2^K:=Nat.shiftLeft_eq _ _;have c:0<2^K:=aI (by decide);have j:=aM (show 0<M by omega) c;rw[o]
 have e:Toward.even.cut false (M*2^K) K=M:=by
  unfold Toward.cut;simp only[b];rw[show min K (52+K+2)=K by omega,Nat.one_shiftLeft,Nat.mul_div_cancel _ c,Nat.mul_mod_left];have p:decide (2^K<2*0)=false:=decide_eq_false (by omega);have n:(2^K==2*0)=false:=beq_eq_false_iff_ne.2 (by omega);rw[p,n];rfl
 generalize 2^K=G at b c j e ⊢;unfold Format.nearest;simp only[f,g,h,i,b];rw[if_neg (by omega)];have a:max ((-1074:Int)+((52+K:Nat):Int)-((52:Nat):Int)) (-1074)=(E:Int)-52:=(by omega);rw[a,show ((-1074:Int)-((E:Int)-52)).toNat=0 by omega,show ((E:Int)-52-(-1074)).toNat=K by omega,Nat.shiftLeft_zero];rw[e];exact Y' K M E m l d
theorem T2 (E a:Nat) (b:E<=100) (d:a<4503599627370496):FloatKind.f64.format.add ((1023+E)*4503599627370496+a) 0=some ((1023+E)*4503599627370496+a):=by
 unfold Format.add;rw[YO E a b d,YP];unfold Datum.sum;dsimp only;rw[show min ((E:Int)-52) (-1074) = -1074 by omega,show ((E:Int)-52 - -1074).toNat=E+1022 by omega]
 have e:signed false (4503599627370496+a) (E+1022)+signed false 0 (-1074 - -1074:Int).toNat=((((4503599627370496+a)<<<(E+1022):Nat)):Int):=by
  unfold signed;simp
 rw[e];have c:0<(4503599627370496+a)<<<(E+1022):=by rw[Nat.shiftLeft_eq];exact aM (by omega) (aI (by decide))
 rw[if_neg (by omega),Option.map_some];unfold Format.write;dsimp only;rw[show decide ((((4503599627370496+a)<<<(E+1022):Nat):Int)<0)=false from decide_eq_false (by omega),Int.natAbs_natCast];rw[YD E (E+1022) (4503599627370496+a) rfl b (by omega) (by omega)];exact congrArg some (by omega)
theorem XX (n:Nat) (g:0<n) (h:n<=4097):FloatKind.f64.format.add (KK n) 0=some (KK n):=by
 have i:2^n.log2<=n:=Nat.log2_self_le (by omega);have b:n<2^(n.log2+1):=Nat.lt_log2_self
 have j:n.log2<=12:=by
  rcases Nat.lt_or_ge 12 n.log2 with a | a
  ·have:=Nat.pow_le_pow_right (show 0<2 by decide) (show 13<=n.log2 by omega)
   have e:2^13=8192:=(by decide);omega
  exact a
 have f:(n-2^n.log2)*2^(52-n.log2)<4503599627370496:=by
  have c:n-2^n.log2<2^n.log2:=by rw[Nat.pow_succ] at b;omega
  have d:2^n.log2*2^(52-n.log2)=4503599627370496:=(by rw[<- aN,show n.log2+(52-n.log2)=52 by omega]);rw[<- d];exact(aJ (aI (by decide))).2 c
 exact T2 _ _ (by omega) f
def R0:List UInt8->Nat×Nat->Nat×Nat
 | [],z=>z
 | c::r,z=>R0 r (if c=10 then (z.1+1,1) else (z.1,z.2+1))
theorem Y_ (l:List UInt8) (c:UInt8) (z:Nat×Nat):R0 (l++[c]) z=if c=10 then ((R0 l z).1+1,1) else ((R0 l z).1,(R0 l z).2+1):=by
 induction l generalizing z with
 | nil=>rfl
 | cons d r a=>exact a _
theorem Zy (l:List UInt8) (z:Nat×Nat) (a:0<z.1) (c:0<z.2):0<(R0 l z).1/\0<(R0 l z).2/\(R0 l z).1<=z.1+l.length/\(R0 l z).2<=z.2+l.length:=by
 induction l generalizing z with
 | nil=>exact⟨a,c,aF _,aF _⟩
 | cons d r b =>
   rw[R0];split
   ·have:=b (z.1+1,1) (by simp) (by simp)
    simp only[aL] at this ⊢;omega
   have:=b (z.1,z.2+1) a (by simp);simp only[aL] at this ⊢;omega
def Xv (l:List UInt8) (k:Nat):Nat×Nat:=R0 (l.take k) (1,1)
def W1 (l:List UInt8) (k:Nat):Nat×Nat:=(KK (Xv l k).1,KK (Xv l k).2)
theorem Zc (l:List UInt8) (k:Nat) (h:k<l.length):Xv l (k+1)=if l[k]=10 then ((Xv l k).1+1,1) else ((Xv l k).1,(Xv l k).2+1):=by
 unfold Xv;rw[List.take_add_one,List.getElem?_eq_getElem h];exact Y_ _ _ _
theorem Z6 (l:List UInt8) (k:Nat) (a:l.length<=4096):0<(Xv l k).1/\0<(Xv l k).2/\(Xv l k).1<=4097/\(Xv l k).2<=4097:=by
 have:=Zy (l.take k) (1,1) (by decide) (by decide);have:(l.take k).length<=4096:=by rw[List.length_take];omega
 unfold Xv;omega
theorem Yk:KK 1=4607182418800017408:=by decide +kernel
theorem Zb (l:List UInt8):W1 l 0=(4607182418800017408,4607182418800017408):=by
 unfold W1 Xv;rw[List.take_zero];show (KK 1,KK 1)=_;rw[Yk]
end Go
namespace Go.Proofs.YtfblenhlildnaaaGreatDoor
open Go.Proofs.Tryz
open Go.RowKit
theorem Aab {a b c:Nat} (d:FloatKind.f64.format.add a 0=some a) (e:FloatKind.f64.format.add b 4607182418800017408=some c) (w:World) :
  Sem.run prog (binOp .add 40 (.complex .f64 a b) (.complex .f64 0 4607182418800017408)) w = .ok (.complex .f64 a c) w:=by
 simp[binOp,Op.complexOp,Op.Complex.arith,Op.floatArith,d,e,go_sem]
theorem ZY (a b:Nat) (w:World):Sem.run prog (Builtin.real_ #[40] 39 #[.complex .f64 a b]) w = .ok (.float .f64 a) w:=by kernel_rfl
theorem Aac {a b:Nat} (h:FloatKind.f64.format.add a 4607182418800017408=some b) (w:World):Sem.run prog (binOp .add 39 (.float .f64 a) (.float .f64 4607182418800017408)) w = .ok (.float .f64 b) w:=by
 simp[binOp,Op.floatArith,h,go_sem]
theorem Aas (a b:Nat) (w:World):Sem.run prog (Builtin.complex_ #[39,39] 40 #[.float .f64 a,.float .f64 b]) w = .ok (.complex .f64 a b) w:=by kernel_rfl
theorem YL (s:ByteArray) (t:s.size<=4096):H6 (W1 s.data.toList) s:=by
 intro f w p
 go_in
 go_wp2
 go_loop [5,6] (fun z n=>∃k:Nat,k<=f/\n = .int .i64 k/\z = .complex .f64 (W1 s.data.toList k).1 (W1 s.data.toList k).2) (fun _ n=>f-(intOf n).toNat)
 case atStart=>exact⟨0,by omega,rfl,by rw[Zb]⟩
 obtain⟨k,q,rfl,rfl⟩:=hrel;have r:s.data.toList.length=s.size:=rfl;have d:=aA (Z6 s.data.toList k (by omega));by_cases j:k<f
 ·have l:k<s.size:=by omega
  have c:=Zc s.data.toList k (by omega);by_cases g:s.data.toList[k]'(by omega)=10
  ·rw[if_pos g] at c
   have h:W1 s.data.toList (k+1)=(KK ((Xv s.data.toList k).1+1),4607182418800017408):=by unfold W1;rw[c,Yk]
   clear c;have b:((s[k].toNat:Int)==10)=true:=by rw[show s[k]=10 from g];rfl
   have i:=ZY (W1 s.data.toList k).1 (W1 s.data.toList k).2;have m:=Aac (a:=(W1 s.data.toList k).1) (V2 (Xv s.data.toList k).1 d.out.1 (by have:=d.out;omega));have o:=Aas (KK ((Xv s.data.toList k).1+1)) 4607182418800017408;go_wp2;refine⟨⟨k+1,by omega,rfl,by rw[h]⟩,?_⟩;simp[intOf];omega
  rw[if_neg g] at c;have h:W1 s.data.toList (k+1)=((W1 s.data.toList k).1,KK ((Xv s.data.toList k).2+1)):=by unfold W1;rw[c]
  clear c;have b:((s[k].toNat:Int)==10)=false:=beq_eq_false_iff_ne.2 fun e=>g (UInt8.toNat_inj.1 (show s[k].toNat=10 by omega));have i:=Aab (a:=(W1 s.data.toList k).1) (b:=(W1 s.data.toList k).2) (XX (Xv s.data.toList k).1 d.out.1 (by have:=d.out;omega)) (V2 (Xv s.data.toList k).2 d.out.2.1 (by have:=d.out;omega));go_wp2;refine⟨⟨k+1,by omega,rfl,by rw[h]⟩,?_⟩;simp[intOf];omega
 obtain rfl:k=f:=(by omega);go_wp2;go_ret;exact⟨rfl,rfl⟩
end Go.Proofs.YtfblenhlildnaaaGreatDoor
