/- Cg -/
import Derived.Test.YtjolfpcpcaocmaaGreatDoorCe
set_option maxRecDepth 100000
set_option maxHeartbeats 4000000
open Go.Lib renaming hid->aA
open List renaming length_singleton->aB,singleton_append->aC,length_append->aE,cons_append->aF,headD->aH
namespace Go.Proofs.YtjolfpcpcaocmaaGreatDoor
open Go.Proofs.Tryz
open Go.RowKit
set_option linter.unusedSimpArgs false in
theorem Zu {nx:Nat->Bool->Tk} {pl:Nat->Nat×Nat} {J:List UInt8->Option Bool} {T:World} {q:Nat} {s:ByteArray} (hN:F2 nx s T) (hP:PlC pl s) (n:Nat)
  (hO:∀m,m<=n->NC nx pl J T q s m .mat 83)
  (hH:∀m,m<=n->HC nx pl J T q s m):NC nx pl J T q s (n+1) .inn 76:=by
 intro p W h L;obtain⟨r,K⟩:∃r,Dn nx pl J (n+1) .inn p=r:=⟨_,rfl⟩;rw[K] at L ⊢;rw[Dn] at K;have d:=aA K;have b:=aA (Fx.start1 h (.int .i64 0) (.string ⟨#[]⟩) (.float .f64 0) (.slice none 0 0) (.complex .f64 0 0) 34);have HN:=aA hN;have HP:=aA hP;have HO:=aA (fun m (U:m<=n) p W h g=>hO m U p W h g);have HH:=aA (fun m (U:m<=n) l a ln c S p W h1 h2 h3 h4 g=>hH m U l a ln c S p W h1 h2 h3 h4 g);clear K h hN hP hO hH;obtain⟨i,j,k,t,w,A⟩:=b.out.b0
 go_in
 go_wp2_with (first | (go_at_call 83;(with_reducible refine(HO.out _ (Nat.le_refl _) _ _ b.out.z (CA d L)).mono ?_);intro e w1 ha;rcases ha.part d L with⟨f,K,rfl,I,Q⟩ | ⟨_,p1,v,rfl,⟨⟨u,kv,rfl,rfl,M⟩,R⟩,I,H⟩;exact⟨rfl,BX Q (b.out.o.trans I)⟩;replace d:=H;clear H ha;(try dsimp only at d);obtain⟨X,Z,rfl⟩:=M.slice;replace b:=aA ((b.out.read M R I).box (.int .i64 u.kd) (.string ⟨u.nm.toArray⟩) (.float .f64 u.x) (.slice X u.ks.length Z) (.complex .f64 u.z.1 u.z.2) 34);clear M R I;(try dsimp only[hd1,aH,aC,aF,List.nil_append] at d);(try clear i j k t w A);(try clear B C D E F G);(try clear m20 m21 m22 m23 m24 m2f);(try clear m30 m31 m32 m33 m34 m3f);obtain⟨i,j,k,t,w,A⟩:=b.out.b0;obtain⟨B,C,D,E,F,G⟩:=b.out.b1;unfold CJ))
 (try clear i j k t w A);(try clear B C D E F G);(try clear m20 m21 m22 m23 m24 m2f);(try clear m30 m31 m32 m33 m34 m3f)
 go_loopg [] n (fun g wr=>∃(m:Nat) (x:Tr) (N:Option Addr) (O:Nat) (V:Ps),m=g/\m<=n/\Hid (Dn nx pl J m (.innL x) V=r)/\Hid (Fx T W q (W.heap.size+1) s V [⟨w1.heap.size,.int .i64 x.kd,.string ⟨x.nm.toArray⟩,.float .f64 x.x,.slice N x.ks.length O,.complex .f64 x.z.1 x.z.2⟩,⟨W.heap.size,.int .i64 0,.string ⟨#[]⟩,.float .f64 0,.slice none 0 0,.complex .f64 0 0⟩] [(x.ks,.slice N x.ks.length O)] wr))
 case atStart=>exact⟨n,u,X,Z,p1,rfl,Nat.le_refl _,d,b⟩
 clear b d;obtain⟨m,x,N,O,V,rfl,c0,d,b⟩:=hrel
 cases m with
 | zero=>exact absurd d.out.symm L
 | succ m =>
 replace d:=aA (by have:=d.out;rw[Dn] at this;exact this);obtain⟨i,j,k,t,w,A⟩:=b.out.b0;obtain⟨B,C,D,E,F,G⟩:=b.out.b1
 go_wp2_with (first | (go_at_call 15;(with_reducible refine(DS HN.out b.out.z false).mono ?_);intro e w2 ha;rcases ha.part d L with⟨f,K,rfl,I,Q⟩ | ⟨t2,p2,v,rfl,⟨rfl,rfl,h0,et,a0,P⟩,I,H⟩;exact⟨rfl,BX Q (b.out.o.trans I)⟩;replace d:=H;clear H ha;(try dsimp only at d);replace b:=aA ((b.out.quiet P));clear h0 et P I;(try clear i j k t w A);(try clear B C D E F G);(try clear m20 m21 m22 m23 m24 m2f);(try clear m30 m31 m32 m33 m34 m3f);obtain⟨i,j,k,t,w,A⟩:=b.out.b0;obtain⟨B,C,D,E,F,G⟩:=b.out.b1;unfold G1) | (go_at_call 12;(with_reducible refine(L0 t2 [105,110] _).mono ?_);rintro e w3 ⟨rfl,P⟩;replace b:=aA (b.out.quiet P);clear P;cases hs:XI t2 [105,110]<;>(simp only[hs,if_true,if_false,Bool.false_eq_true,reduceIte,or_true,true_or,or_false,false_or,and_true,true_and,and_false,false_and] at d;clear hs);all_goals ((try clear i j k t w A);(try clear B C D E F G);(try clear m20 m21 m22 m23 m24 m2f);(try clear m30 m31 m32 m33 m34 m3f);obtain⟨i,j,k,t,w,A⟩:=b.out.b0;obtain⟨B,C,D,E,F,G⟩:=b.out.b1)) | (go_at_call 84;(refine(HH.out _ (by omega) [x] _ 1 1 _ _ _ rfl b.out.kid1.z b.out.nq b.out.kid1.ka (CA d L)).mono ?_);intro e w8 ha;rcases ha.part d L with⟨f,K,rfl,I,Q⟩ | ⟨_,p8,v,rfl,⟨⟨y,kv,rfl,rfl,M⟩,R⟩,I,H⟩;exact⟨rfl,BX Q (b.out.kid1.o.trans I)⟩;replace d:=H;clear H ha;(try dsimp only[hd1,aH] at d);obtain⟨Y,cy,rfl⟩:=M.slice;replace b:=aA (b.out.kid1.readS M R I).row1;clear M R I;(try clear i j k t w A);(try clear B C D E F G);(try clear m20 m21 m22 m23 m24 m2f);(try clear m30 m31 m32 m33 m34 m3f);obtain⟨i,j,k,t,w,A⟩:=b.out.b0;obtain⟨B,C,D,E,F,G⟩:=b.out.b1;unfold CJ))
 ·obtain⟨z0,z1,z2,z3,z4,zf⟩:=((((b.out.b1.set0 (.int .i64 x.kd)).set1 (.string ⟨x.nm.toArray⟩)).set2 (.float .f64 x.x)).set3 (.slice N x.ks.length O)).set4 (.complex .f64 x.z.1 x.z.2)
  exact bodyPost_ret (v:=CJ x (.slice N x.ks.length O)) (by simp[CJ,results,results76,go_sem,z0,z1,z2,z3,z4]<;>exact rfl) rfl (b.out.done b.out.k0 _ _ _ _ _ d)
 replace b:=aA (b.out.store (.int .i64 y.kd) (.string ⟨y.nm.toArray⟩) (.float .f64 y.x) (.slice Y y.ks.length cy) (.complex .f64 y.z.1 y.z.2))
 go_roundg m
 case rel=>exact⟨m,y,Y,cy,p8,rfl,by omega,d,b⟩
 all_goals omega
set_option linter.unusedSimpArgs false in
theorem YB {nx:Nat->Bool->Tk} {pl:Nat->Nat×Nat} {D:List UInt8->Option Bool} {K:World} {q:Nat} {s:ByteArray} (Z:F2 nx s K) (hP:PlC pl s) (n:Nat)
  (hO:∀m,m<=n->NC nx pl D K q s m .expr 27) (hn:n<=1000000):LC nx pl D K q s (n+1) .list 68:=by
 intro p W h B;obtain⟨r,C⟩:∃r,Dn nx pl D (n+1) .list p=r:=⟨_,rfl⟩;rw[C] at B ⊢;rw[Dn] at C;have k:=aA C;have d:=aA (Fx.start h);have M:=aA Z;have V:=aA hP;have U:=aA (fun m (hm:m<=n) p W h g=>hO m hm p W h g);clear C h Z hP hO;obtain⟨i0,O,P,Q,R⟩:=info_parts Y8
 go_in
 go_wp2_with (first | (go_at_call 27;(with_reducible refine(U.out _ (Nat.le_refl _) _ _ d.out.z (CA k B)).mono ?_);intro e w1 ha;rcases ha.part k B with⟨f,C,rfl,t,E⟩ | ⟨_,p1,v,rfl,⟨⟨u,kv,rfl,rfl,F⟩,A⟩,t,i⟩;exact⟨rfl,BX E (d.out.o.trans t)⟩;replace k:=i;clear i ha;(try dsimp only at k);obtain⟨au,cu,rfl⟩:=F.slice;replace d:=aA (d.out.read F A t).kid1;clear F A t;(try dsimp only[hd1,aH,aC,aF,List.nil_append] at k);(try clear m00 m01 m02 m03 m04 m0f);(try clear m10 m11 m12 m13 m14 m1f);(try clear m20 m21 m22 m23 m24 m2f);(try clear m30 m31 m32 m33 m34 m3f);unfold CJ))
 go_loopg [3] n (fun g v3 wr=>∃(m:Nat) (l:List Tr) (a:Option Addr) (c:Nat) (S:Ps),m=g/\v3 = .slice a l.length c/\l.length+m<=n+1/\Hid (Dn nx pl D m (.listL l) S=r)/\Hid (Fx K W q W.heap.size s S [] [(l,.slice a l.length c)] wr))
 case atStart=>exact⟨n,[u],some ⟨w1.heap.size,0,none⟩,1,p1,rfl,rfl,by simp only[aB];omega,k,aA d.out.row1⟩
 clear d k;obtain⟨m,l,a,c,S,rfl,rfl,a0,k,d⟩:=hrel
 cases m with
 | zero=>exact absurd k.out.symm B
 | succ m =>
 replace k:=aA (by have:=k.out;rw[Dn] at this;exact this)
 go_wp2_with (first | (at_builtin;have J:=aA (d.out.quiet (Ad _ (.cells #[.int .i64 y.kd,.string ⟨y.nm.toArray⟩,.float .f64 y.x,.slice X y.ks.length Y,.complex .f64 y.z.1 y.z.2] 34)));obtain⟨L,N,w,hS,G⟩:=J.out.ka.owns W.heap.size (fun j e=>e.1);have H:L.length=l.length:=(by rw[<- N,List.length_map]);have I:=J.out.hB.2;refine Bg _ rfl (.tmp 13) (.tmp 16) 31 rfl W.heap.size 34 i0 _ 5 72 underlying31 O P Q R rfl (by decide) _ _ _ rfl w ⟨w5.heap.size,0,none⟩ 1 1 (Ah [(y,.slice X y.ks.length Y)]) rfl rfl (Z2 _ _ _) (ZB _ _ _ _) (by unfold maxLen;omega) (by omega) I (by decide) ?_;intro v6 w6 o1 o2 o3;have hF:=J.out.append N (fun g e=>⟨hS g e,(w.lt g e).2⟩) G (T.out.bel (Ad _ _)) o1 o2 o3;obtain⟨a6,c6,rfl⟩:=hF.ka.slice;replace d:=aA hF;clear hF o1 o2 o3 N w hS G H I J T) | (go_at_call 19;(with_reducible refine(F1 M.out d.out.z [44]).mono ?_);intro e w2 ha;rcases ha.part k B with⟨f,C,rfl,t,E⟩ | ⟨b,p2,v,rfl,⟨rfl,rfl,hb⟩,t,i⟩;exact⟨rfl,BX E (d.out.o.trans t)⟩;replace k:=i;clear i ha;(try dsimp only at k);replace d:=aA (d.out.quiet hb);clear hb t;cases b<;>(simp only[if_true,if_false,Bool.false_eq_true,reduceIte] at k);all_goals ((try clear m00 m01 m02 m03 m04 m0f);(try clear m10 m11 m12 m13 m14 m1f);(try clear m20 m21 m22 m23 m24 m2f);(try clear m30 m31 m32 m33 m34 m3f))) | (go_at_call 18;(with_reducible refine(EM M.out V.out d.out.z [44]).mono ?_);intro e w3 ha;rcases ha.part k B with⟨f,C,rfl,t,E⟩ | ⟨z3,p3,v,rfl,⟨rfl,A⟩,t,i⟩;exact⟨rfl,BX E (d.out.o.trans t)⟩;replace k:=i;clear i ha;(try dsimp only at k);replace d:=aA (d.out.move A t);clear A t;(try clear m00 m01 m02 m03 m04 m0f);(try clear m10 m11 m12 m13 m14 m1f);(try clear m20 m21 m22 m23 m24 m2f);(try clear m30 m31 m32 m33 m34 m3f)) | (go_at_call 21;(with_reducible refine(M' M.out V.out d.out.z true _ (CA k B)).mono ?_);intro e w4 ha;rcases ha.part k B with⟨f,C,rfl,t,E⟩ | ⟨_,p4,v,rfl,⟨rfl,A⟩,t,i⟩;exact⟨rfl,BX E (d.out.o.trans t)⟩;replace k:=i;clear i ha;(try dsimp only at k);replace d:=aA (d.out.move A t);clear A t;(try clear m00 m01 m02 m03 m04 m0f);(try clear m10 m11 m12 m13 m14 m1f);(try clear m20 m21 m22 m23 m24 m2f);(try clear m30 m31 m32 m33 m34 m3f)) | (go_at_call 27;(with_reducible refine(U.out _ (by omega) _ _ d.out.z (CA k B)).mono ?_);intro e w5 ha;rcases ha.part k B with⟨f,C,rfl,t,E⟩ | ⟨_,p5,v,rfl,⟨⟨y,kv,rfl,rfl,F⟩,A⟩,t,i⟩;exact⟨rfl,BX E (d.out.o.trans t)⟩;replace k:=i;clear i ha;(try dsimp only at k);obtain⟨X,Y,rfl⟩:=F.slice;have T:=aA (d.out.apart F);replace d:=aA (d.out.move A t);clear F A t;unfold CJ))
 ·go_ret
  exact O2 k ⟨d.out.k0,d.out.z⟩ d.out.o
 go_roundg m
 case rel=>exact⟨m,l++[y],a6,c6,p5,rfl,by rw[aE,aB],by rw[aE,aB];omega,k,d⟩
 all_goals omega
end Go.Proofs.YtjolfpcpcaocmaaGreatDoor
