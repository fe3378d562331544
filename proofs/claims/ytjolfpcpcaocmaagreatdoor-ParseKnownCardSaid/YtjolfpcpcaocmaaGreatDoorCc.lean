/- Cc Cd -/
import Derived.Test.YtjolfpcpcaocmaaGreatDoorBy
set_option maxRecDepth 100000
set_option maxHeartbeats 4000000
open List renaming setIfInBounds_toArray->aA,getElem_cons_zero->aB,getElem_cons_succ->aC,getElem_toArray->aD,set_cons_zero->aE,set_cons_succ->aF,singleton_append->aI,cons_append->aK,nil_append->aL,headD->aM
open Go.Lib renaming hid->aG
open Bool renaming false_eq_true->aH
open Nat renaming le_refl->aJ
namespace Go.Proofs.YtjolfpcpcaocmaaGreatDoor
open Go.Proofs.Tryz
open Go.RowKit
set_option linter.unusedSimpArgs false in
theorem YN {nx:Nat->Bool->Tk} {pl:Nat->Nat×Nat} {a0:List UInt8->Option Bool} {w0:World} {q:Nat} {s:ByteArray} (hN:F2 nx s w0) (hP:PlC pl s) (n:Nat)
  (hO:∀m,m<=n->NC nx pl a0 w0 q s m .unary 139):NC nx pl a0 w0 q s (n+1) .prod 133:=by
 intro p W h Y;obtain⟨r,Z⟩:∃r,Dn nx pl a0 (n+1) .prod p=r:=⟨_,rfl⟩;rw[Z] at Y ⊢;rw[Dn] at Z;have C:=aG Z;have a:=aG (Fx.start1 h (.int .i64 0) (.string ⟨#[]⟩) (.float .f64 0) (.slice none 0 0) (.complex .f64 0 0) 34);have HN:=aG hN;have HP:=aG hP;have HO:=aG (fun m (hm:m<=n) p W h g=>hO m hm p W h g);clear Z h hN hP hO;obtain⟨d,j,k,l,A,B⟩:=a.out.b0
 go_in
 go_wp2_with (first | (go_at_call 139;(with_reducible refine(HO.out _ (aJ _) _ _ a.out.z (CA C Y)).mono ?_);intro e w1 ha;rcases ha.part C Y with⟨f,Z,rfl,R,hr⟩ | ⟨_,p1,v,rfl,⟨⟨u,kv,rfl,rfl,U⟩,V⟩,R,J⟩;exact⟨rfl,BX hr (a.out.o.trans R)⟩;replace C:=J;clear J ha;(try dsimp only at C);obtain⟨au,cu,rfl⟩:=U.slice;replace a:=aG ((a.out.read U V R).box (.int .i64 u.kd) (.string ⟨u.nm.toArray⟩) (.float .f64 u.x) (.slice au u.ks.length cu) (.complex .f64 u.z.1 u.z.2) 34);clear U V R;(try dsimp only[hd1,aM,aI,aK,aL] at C);(try clear d j k l A B);(try clear D E F G H I);(try clear L M N O P Q);(try clear m30 m31 m32 m33 m34 m3f);obtain⟨d,j,k,l,A,B⟩:=a.out.b0;obtain⟨D,E,F,G,H,I⟩:=a.out.b1;unfold CJ))
 (try clear d j k l A B);(try clear D E F G H I);(try clear L M N O P Q);(try clear m30 m31 m32 m33 m34 m3f)
 go_loopg [] n (fun g wr=>∃(m:Nat) (x:Tr) (ax:Option Addr) (cx:Nat) (pr:Ps),m=g/\m<=n/\Hid (Dn nx pl a0 m (.prodL x) pr=r)/\Hid (Fx w0 W q (W.heap.size+1) s pr [⟨w1.heap.size,.int .i64 x.kd,.string ⟨x.nm.toArray⟩,.float .f64 x.x,.slice ax x.ks.length cx,.complex .f64 x.z.1 x.z.2⟩,⟨W.heap.size,.int .i64 0,.string ⟨#[]⟩,.float .f64 0,.slice none 0 0,.complex .f64 0 0⟩] [(x.ks,.slice ax x.ks.length cx)] wr))
 case atStart=>exact⟨n,u,au,cu,p1,rfl,aJ _,C,a⟩
 clear a C;obtain⟨m,x,ax,cx,pr,rfl,d0,C,a⟩:=hrel
 cases m with
 | zero=>exact absurd C.out.symm Y
 | succ m =>
 replace C:=aG (by have:=C.out;rw[Dn] at this;exact this);obtain⟨d,j,k,l,A,B⟩:=a.out.b0;obtain⟨D,E,F,G,H,I⟩:=a.out.b1
 go_wp2_with (first | (go_at_call 15;(with_reducible refine(DS HN.out a.out.z false).mono ?_);intro e w2 ha;rcases ha.part C Y with⟨f,Z,rfl,R,hr⟩ | ⟨c,p2,v,rfl,⟨rfl,rfl,h0,et,c0,X⟩,R,J⟩;exact⟨rfl,BX hr (a.out.o.trans R)⟩;replace C:=J;clear J ha;(try dsimp only at C);replace a:=aG ((a.out.quiet X).box (.int .i64 c.kd) (.string ⟨c.tx.toArray⟩) (.float .f64 c.nm) (.int .i64 c.f) (.int .i64 c.t) 49);clear h0 et X R;(try clear d j k l A B);(try clear D E F G H I);(try clear L M N O P Q);(try clear m30 m31 m32 m33 m34 m3f);obtain⟨d,j,k,l,A,B⟩:=a.out.b0;obtain⟨D,E,F,G,H,I⟩:=a.out.b1;obtain⟨L,M,N,O,P,Q⟩:=a.out.b2;unfold G1) | (go_at_call 12;(with_reducible refine(EE c [42] _).mono ?_);rintro e w3 ⟨rfl,X⟩;replace a:=aG (a.out.quiet X);clear X;cases hs:EP c [42]<;>(simp only[hs,if_true,if_false,aH,reduceIte,or_true,true_or,or_false,false_or,and_true,true_and,and_false,false_and] at C;clear hs);all_goals ((try clear d j k l A B);(try clear D E F G H I);(try clear L M N O P Q);(try clear m30 m31 m32 m33 m34 m3f);obtain⟨d,j,k,l,A,B⟩:=a.out.b0;obtain⟨D,E,F,G,H,I⟩:=a.out.b1;obtain⟨L,M,N,O,P,Q⟩:=a.out.b2)) | (go_at_call 12;(with_reducible refine(EE c [47] _).mono ?_);rintro e w4 ⟨rfl,X⟩;replace a:=aG (a.out.quiet X);clear X;cases hs:EP c [47]<;>(simp only[hs,if_true,if_false,aH,reduceIte,or_true,true_or,or_false,false_or,and_true,true_and,and_false,false_and] at C;clear hs);all_goals ((try clear d j k l A B);(try clear D E F G H I);(try clear L M N O P Q);(try clear m30 m31 m32 m33 m34 m3f);obtain⟨d,j,k,l,A,B⟩:=a.out.b0;obtain⟨D,E,F,G,H,I⟩:=a.out.b1;obtain⟨L,M,N,O,P,Q⟩:=a.out.b2)) | (go_at_call 12;(with_reducible refine(EE c [37] _).mono ?_);rintro e w5 ⟨rfl,X⟩;replace a:=aG (a.out.quiet X);clear X;cases hs:EP c [37]<;>(simp only[hs,if_true,if_false,aH,reduceIte,or_true,true_or,or_false,false_or,and_true,true_and,and_false,false_and] at C;clear hs);all_goals ((try clear d j k l A B);(try clear D E F G H I);(try clear L M N O P Q);(try clear m30 m31 m32 m33 m34 m3f);obtain⟨d,j,k,l,A,B⟩:=a.out.b0;obtain⟨D,E,F,G,H,I⟩:=a.out.b1;obtain⟨L,M,N,O,P,Q⟩:=a.out.b2)) | (go_at_call 16;(with_reducible refine(C2 HP.out a.out.z c c0).mono ?_);rintro e w7 ⟨rfl,V,R⟩;replace a:=aG (a.out.move V R);clear V R;(try clear d j k l A B);(try clear D E F G H I);(try clear L M N O P Q);(try clear m30 m31 m32 m33 m34 m3f);obtain⟨d,j,k,l,A,B⟩:=a.out.b0;obtain⟨D,E,F,G,H,I⟩:=a.out.b1;obtain⟨L,M,N,O,P,Q⟩:=a.out.b2))
 ·obtain⟨z0,z1,z2,z3,z4,zf⟩:=((((a.out.b2.set0 (.int .i64 x.kd)).set1 (.string ⟨x.nm.toArray⟩)).set2 (.float .f64 x.x)).set3 (.slice ax x.ks.length cx)).set4 (.complex .f64 x.z.1 x.z.2)
  exact bodyPost_ret (v:=CJ x (.slice ax x.ks.length cx)) (by simp[CJ,results,results133,go_sem,z0,z1,z2,z3,z4]<;>exact rfl) rfl (a.out.done a.out.k0 _ _ _ _ _ C)
 ·(try clear d j k l A B);(try clear D E F G H I);(try clear L M N O P Q);(try clear m30 m31 m32 m33 m34 m3f)
  refine a.out.region 8 (by kernel_rfl) (fun b=>?_);refine BT (i:=0) (v:=.pointer (some ⟨w2.heap.size,1,none⟩)) rfl (by kernel_rfl) (fun _ _ _ h=>h) (Or.inl ⟨by rfl,fun w T=>by go_simp⟩) b ?_
  (try dsimp only);try simp only[Act.put,aD,aB,aC,aA,aE,aF]
  refine BT (i:=1) (v:=.string ⟨c.tx.toArray⟩) rfl (by kernel_rfl) (fun _ _ _ h=>h) (Or.inl ⟨by rfl,fun w T=>by obtain⟨s0,s1,s2,s3,s4,-⟩:=T.b0;go_simp⟩) b ?_
  (try dsimp only);try simp only[Act.put,aD,aB,aC,aA,aE,aF]
  refine BT (i:=2) (v:=.complex .f64 (pl c.f).1 (pl c.f).2) rfl (by kernel_rfl) (fun _ _ _ h=>h) (Or.inl ⟨by rfl,fun w T=>by go_simp⟩) b ?_
  (try dsimp only);try simp only[Act.put,aD,aB,aC,aA,aE,aF]
  refine BT (i:=3) (v:=(.agg #[.int .i64 x.kd,.string ⟨x.nm.toArray⟩,.float .f64 x.x,.slice ax x.ks.length cx,.complex .f64 x.z.1 x.z.2])) rfl (by kernel_rfl) (fun _ _ _ h=>h) (Or.inl ⟨by rfl,fun w T=>by obtain⟨s0,s1,s2,s3,s4,-⟩:=T.b1;go_simp⟩) b ?_
  (try dsimp only);try simp only[Act.put,aD,aB,aC,aA,aE,aF]
  refine BT (i:=4) (v:=.pointer (some ⟨q,0,none⟩)) rfl (by kernel_rfl) (fun _ _ _ h=>h) (Or.inl ⟨by rfl,fun w T=>by go_simp⟩) b ?_
  (try dsimp only);try simp only[Act.put,aD,aB,aC,aA,aE,aF]
  refine BW (rs:=[5]) (by kernel_rfl) rfl (BS.cons rfl (by rfl) (fun K S=>?_) BS.nil)
  try go_simp
  go_at_call 139
  refine(HO.out _ (by omega) _ _ a.out.drew.z (CA C Y)).mono ?_;intro e w8 ha;rcases ha.part C Y with⟨f,Z,rfl,R,hr⟩ | ⟨_,p8,v,rfl,⟨⟨y,kv,rfl,rfl,U⟩,V⟩,R,J⟩
  ·exact⟨rfl,BX hr (a.out.drew.o.trans R)⟩
  replace C:=J;clear J ha
  (try dsimp only at C)
  obtain⟨ay,cy,rfl⟩:=U.slice;replace a:=aG (a.out.drew.read U V R);clear U V R b;unfold CJ;refine S.out _ _ (.inr a.out.bs) ?_
  (try dsimp only);try simp only[Act.put,aD,aB,aC,aA,aE,aF]
  refine BW (rs:=[6]) (by kernel_rfl) rfl (BS.cons rfl (by rfl) (fun K S=>?_) BS.nil)
  try go_simp
  replace a:=aG a.out.kid2;refine S.out _ _ (.inr a.out.bs) ?_
  (try dsimp only);try simp only[Act.put,aD,aB,aC,aA,aE,aF]
  refine BW (rs:=[7]) (by kernel_rfl) rfl (BS.cons rfl (by rfl) (fun K S=>?_) BS.nil)
  try go_simp
  refine S.out _ _ (.inr a.out.bs) ?_
  (try dsimp only);try simp only[Act.put,aD,aB,aC,aA,aE,aF]
  obtain⟨n0,n1,n2,n3,n4,nf⟩:=a.out.drop.b0;refine BW (rs:=[8]) (by kernel_rfl) rfl (BS.cons rfl (by rfl) (fun K S=>?_) BS.nil)
  try go_simp
  replace a:=aG (a.out.drop.store (.int .i64 15) (.string ⟨c.tx.toArray⟩) (.float .f64 0) (.slice (some ⟨w8.heap.size,0,none⟩) 2 2) (.complex .f64 (pl c.f).1 (pl c.f).2));refine S.out _ _ (.inl rfl) ?_
  (try dsimp only);try simp only[Act.put,aD,aB,aC,aA,aE,aF]
  refine Aal (by kernel_rfl) ?_ _;go_wp2
  go_roundg m
  case rel=>exact⟨m,.mk 15 c.tx 0 (pl c.f) [x,y],some ⟨w8.heap.size,0,none⟩,2,p8,rfl,by omega,C,aG a.out.row1⟩
  all_goals omega
 ·(try clear d j k l A B);(try clear D E F G H I);(try clear L M N O P Q);(try clear m30 m31 m32 m33 m34 m3f)
  refine a.out.region 8 (by kernel_rfl) (fun b=>?_);refine BT (i:=0) (v:=.pointer (some ⟨w2.heap.size,1,none⟩)) rfl (by kernel_rfl) (fun _ _ _ h=>h) (Or.inl ⟨by rfl,fun w T=>by go_simp⟩) b ?_
  (try dsimp only);try simp only[Act.put,aD,aB,aC,aA,aE,aF]
  refine BT (i:=1) (v:=.string ⟨c.tx.toArray⟩) rfl (by kernel_rfl) (fun _ _ _ h=>h) (Or.inl ⟨by rfl,fun w T=>by obtain⟨s0,s1,s2,s3,s4,-⟩:=T.b0;go_simp⟩) b ?_
  (try dsimp only);try simp only[Act.put,aD,aB,aC,aA,aE,aF]
  refine BT (i:=2) (v:=.complex .f64 (pl c.f).1 (pl c.f).2) rfl (by kernel_rfl) (fun _ _ _ h=>h) (Or.inl ⟨by rfl,fun w T=>by go_simp⟩) b ?_
  (try dsimp only);try simp only[Act.put,aD,aB,aC,aA,aE,aF]
  refine BT (i:=3) (v:=(.agg #[.int .i64 x.kd,.string ⟨x.nm.toArray⟩,.float .f64 x.x,.slice ax x.ks.length cx,.complex .f64 x.z.1 x.z.2])) rfl (by kernel_rfl) (fun _ _ _ h=>h) (Or.inl ⟨by rfl,fun w T=>by obtain⟨s0,s1,s2,s3,s4,-⟩:=T.b1;go_simp⟩) b ?_
  (try dsimp only);try simp only[Act.put,aD,aB,aC,aA,aE,aF]
  refine BT (i:=4) (v:=.pointer (some ⟨q,0,none⟩)) rfl (by kernel_rfl) (fun _ _ _ h=>h) (Or.inl ⟨by rfl,fun w T=>by go_simp⟩) b ?_
  (try dsimp only);try simp only[Act.put,aD,aB,aC,aA,aE,aF]
  refine BW (rs:=[5]) (by kernel_rfl) rfl (BS.cons rfl (by rfl) (fun K S=>?_) BS.nil)
  try go_simp
  go_at_call 139
  refine(HO.out _ (by omega) _ _ a.out.drew.z (CA C Y)).mono ?_;intro e w8 ha;rcases ha.part C Y with⟨f,Z,rfl,R,hr⟩ | ⟨_,p8,v,rfl,⟨⟨y,kv,rfl,rfl,U⟩,V⟩,R,J⟩
  ·exact⟨rfl,BX hr (a.out.drew.o.trans R)⟩
  replace C:=J;clear J ha
  (try dsimp only at C)
  obtain⟨ay,cy,rfl⟩:=U.slice;replace a:=aG (a.out.drew.read U V R);clear U V R b;unfold CJ;refine S.out _ _ (.inr a.out.bs) ?_
  (try dsimp only);try simp only[Act.put,aD,aB,aC,aA,aE,aF]
  refine BW (rs:=[6]) (by kernel_rfl) rfl (BS.cons rfl (by rfl) (fun K S=>?_) BS.nil)
  try go_simp
  replace a:=aG a.out.kid2;refine S.out _ _ (.inr a.out.bs) ?_
  (try dsimp only);try simp only[Act.put,aD,aB,aC,aA,aE,aF]
  refine BW (rs:=[7]) (by kernel_rfl) rfl (BS.cons rfl (by rfl) (fun K S=>?_) BS.nil)
  try go_simp
  refine S.out _ _ (.inr a.out.bs) ?_
  (try dsimp only);try simp only[Act.put,aD,aB,aC,aA,aE,aF]
  obtain⟨n0,n1,n2,n3,n4,nf⟩:=a.out.drop.b0;refine BW (rs:=[8]) (by kernel_rfl) rfl (BS.cons rfl (by rfl) (fun K S=>?_) BS.nil)
  try go_simp
  replace a:=aG (a.out.drop.store (.int .i64 15) (.string ⟨c.tx.toArray⟩) (.float .f64 0) (.slice (some ⟨w8.heap.size,0,none⟩) 2 2) (.complex .f64 (pl c.f).1 (pl c.f).2));refine S.out _ _ (.inl rfl) ?_
  (try dsimp only);try simp only[Act.put,aD,aB,aC,aA,aE,aF]
  refine Aal (by kernel_rfl) ?_ _;go_wp2
  go_roundg m
  case rel=>exact⟨m,.mk 15 c.tx 0 (pl c.f) [x,y],some ⟨w8.heap.size,0,none⟩,2,p8,rfl,by omega,C,aG a.out.row1⟩
  all_goals omega
 (try clear d j k l A B);(try clear D E F G H I);(try clear L M N O P Q);(try clear m30 m31 m32 m33 m34 m3f)
 refine a.out.region 8 (by kernel_rfl) (fun b=>?_);refine BT (i:=0) (v:=.pointer (some ⟨w2.heap.size,1,none⟩)) rfl (by kernel_rfl) (fun _ _ _ h=>h) (Or.inl ⟨by rfl,fun w T=>by go_simp⟩) b ?_
 (try dsimp only);try simp only[Act.put,aD,aB,aC,aA,aE,aF]
 refine BT (i:=1) (v:=.string ⟨c.tx.toArray⟩) rfl (by kernel_rfl) (fun _ _ _ h=>h) (Or.inl ⟨by rfl,fun w T=>by obtain⟨s0,s1,s2,s3,s4,-⟩:=T.b0;go_simp⟩) b ?_
 (try dsimp only);try simp only[Act.put,aD,aB,aC,aA,aE,aF]
 refine BT (i:=2) (v:=.complex .f64 (pl c.f).1 (pl c.f).2) rfl (by kernel_rfl) (fun _ _ _ h=>h) (Or.inl ⟨by rfl,fun w T=>by go_simp⟩) b ?_
 (try dsimp only);try simp only[Act.put,aD,aB,aC,aA,aE,aF]
 refine BT (i:=3) (v:=(.agg #[.int .i64 x.kd,.string ⟨x.nm.toArray⟩,.float .f64 x.x,.slice ax x.ks.length cx,.complex .f64 x.z.1 x.z.2])) rfl (by kernel_rfl) (fun _ _ _ h=>h) (Or.inl ⟨by rfl,fun w T=>by obtain⟨s0,s1,s2,s3,s4,-⟩:=T.b1;go_simp⟩) b ?_
 (try dsimp only);try simp only[Act.put,aD,aB,aC,aA,aE,aF]
 refine BT (i:=4) (v:=.pointer (some ⟨q,0,none⟩)) rfl (by kernel_rfl) (fun _ _ _ h=>h) (Or.inl ⟨by rfl,fun w T=>by go_simp⟩) b ?_
 (try dsimp only);try simp only[Act.put,aD,aB,aC,aA,aE,aF]
 refine BW (rs:=[5]) (by kernel_rfl) rfl (BS.cons rfl (by rfl) (fun K S=>?_) BS.nil)
 try go_simp
 go_at_call 139
 refine(HO.out _ (by omega) _ _ a.out.drew.z (CA C Y)).mono ?_;intro e w8 ha;rcases ha.part C Y with⟨f,Z,rfl,R,hr⟩ | ⟨_,p8,v,rfl,⟨⟨y,kv,rfl,rfl,U⟩,V⟩,R,J⟩
 ·exact⟨rfl,BX hr (a.out.drew.o.trans R)⟩
 replace C:=J;clear J ha
 (try dsimp only at C)
 obtain⟨ay,cy,rfl⟩:=U.slice;replace a:=aG (a.out.drew.read U V R);clear U V R b;unfold CJ;refine S.out _ _ (.inr a.out.bs) ?_
 (try dsimp only);try simp only[Act.put,aD,aB,aC,aA,aE,aF]
 refine BW (rs:=[6]) (by kernel_rfl) rfl (BS.cons rfl (by rfl) (fun K S=>?_) BS.nil)
 try go_simp
 replace a:=aG a.out.kid2;refine S.out _ _ (.inr a.out.bs) ?_
 (try dsimp only);try simp only[Act.put,aD,aB,aC,aA,aE,aF]
 refine BW (rs:=[7]) (by kernel_rfl) rfl (BS.cons rfl (by rfl) (fun K S=>?_) BS.nil)
 try go_simp
 refine S.out _ _ (.inr a.out.bs) ?_
 (try dsimp only);try simp only[Act.put,aD,aB,aC,aA,aE,aF]
 obtain⟨n0,n1,n2,n3,n4,nf⟩:=a.out.drop.b0;refine BW (rs:=[8]) (by kernel_rfl) rfl (BS.cons rfl (by rfl) (fun K S=>?_) BS.nil)
 try go_simp
 replace a:=aG (a.out.drop.store (.int .i64 15) (.string ⟨c.tx.toArray⟩) (.float .f64 0) (.slice (some ⟨w8.heap.size,0,none⟩) 2 2) (.complex .f64 (pl c.f).1 (pl c.f).2));refine S.out _ _ (.inl rfl) ?_
 (try dsimp only);try simp only[Act.put,aD,aB,aC,aA,aE,aF]
 refine Aal (by kernel_rfl) ?_ _;go_wp2
 go_roundg m
 case rel=>exact⟨m,.mk 15 c.tx 0 (pl c.f) [x,y],some ⟨w8.heap.size,0,none⟩,2,p8,rfl,by omega,C,aG a.out.row1⟩
 all_goals omega
set_option linter.unusedSimpArgs false in
theorem ZC {nx:Nat->Bool->Tk} {pl:Nat->Nat×Nat} {N:List UInt8->Option Bool} {V:World} {q:Nat} {s:ByteArray} (hN:F2 nx s V) (hP:PlC pl s) (n:Nat)
  (hO:∀m,m<=n->NC nx pl N V q s m .and 70):NC nx pl N V q s (n+1) .or 59:=by
 intro p W h L;obtain⟨r,M⟩:∃r,Dn nx pl N (n+1) .or p=r:=⟨_,rfl⟩;rw[M] at L ⊢;rw[Dn] at M;have d:=aG M;have a:=aG (Fx.start1 h (.int .i64 0) (.string ⟨#[]⟩) (.float .f64 0) (.slice none 0 0) (.complex .f64 0 0) 34);have X:=aG hN;have HP:=aG hP;have HO:=aG (fun m (hm:m<=n) p W h g=>hO m hm p W h g);clear M h hN hP hO;obtain⟨k,l,t,A,B,C⟩:=a.out.b0
 go_in
 go_wp2_with (first | (go_at_call 70;(with_reducible refine(HO.out _ (aJ _) _ _ a.out.z (CA d L)).mono ?_);intro e w1 ha;rcases ha.part d L with⟨f,M,rfl,j,P⟩ | ⟨_,p1,v,rfl,⟨⟨u,kv,rfl,rfl,R⟩,J⟩,j,c⟩;exact⟨rfl,BX P (a.out.o.trans j)⟩;replace d:=c;clear c ha;(try dsimp only at d);obtain⟨au,cu,rfl⟩:=R.slice;replace a:=aG ((a.out.read R J j).box (.int .i64 u.kd) (.string ⟨u.nm.toArray⟩) (.float .f64 u.x) (.slice au u.ks.length cu) (.complex .f64 u.z.1 u.z.2) 34);clear R J j;(try dsimp only[hd1,aM,aI,aK,aL] at d);(try clear k l t A B C);(try clear D E F G H I);(try clear m20 m21 m22 m23 m24 m2f);(try clear m30 m31 m32 m33 m34 m3f);obtain⟨k,l,t,A,B,C⟩:=a.out.b0;obtain⟨D,E,F,G,H,I⟩:=a.out.b1;unfold CJ))
 (try clear k l t A B C);(try clear D E F G H I);(try clear m20 m21 m22 m23 m24 m2f);(try clear m30 m31 m32 m33 m34 m3f)
 go_loopg [] n (fun g wr=>∃(m:Nat) (x:Tr) (T:Option Addr) (U:Nat) (Z:Ps),m=g/\m<=n/\Hid (Dn nx pl N m (.orL x) Z=r)/\Hid (Fx V W q (W.heap.size+1) s Z [⟨w1.heap.size,.int .i64 x.kd,.string ⟨x.nm.toArray⟩,.float .f64 x.x,.slice T x.ks.length U,.complex .f64 x.z.1 x.z.2⟩,⟨W.heap.size,.int .i64 0,.string ⟨#[]⟩,.float .f64 0,.slice none 0 0,.complex .f64 0 0⟩] [(x.ks,.slice T x.ks.length U)] wr))
 case atStart=>exact⟨n,u,au,cu,p1,rfl,aJ _,d,a⟩
 clear a d;obtain⟨m,x,T,U,Z,rfl,a0,d,a⟩:=hrel
 cases m with
 | zero=>exact absurd d.out.symm L
 | succ m =>
 replace d:=aG (by have:=d.out;rw[Dn] at this;exact this);obtain⟨k,l,t,A,B,C⟩:=a.out.b0;obtain⟨D,E,F,G,H,I⟩:=a.out.b1
 go_wp2_with (first | (go_at_call 19;(with_reducible refine(F1 X.out a.out.z [124,124]).mono ?_);intro e w2 ha;rcases ha.part d L with⟨f,M,rfl,j,P⟩ | ⟨b,p2,v,rfl,⟨rfl,rfl,hb⟩,j,c⟩;exact⟨rfl,BX P (a.out.o.trans j)⟩;replace d:=c;clear c ha;(try dsimp only at d);replace a:=aG (a.out.quiet hb);clear hb j;cases b<;>(simp only[if_true,if_false,aH,reduceIte] at d);all_goals ((try clear k l t A B C);(try clear D E F G H I);(try clear m20 m21 m22 m23 m24 m2f);(try clear m30 m31 m32 m33 m34 m3f);obtain⟨k,l,t,A,B,C⟩:=a.out.b0;obtain⟨D,E,F,G,H,I⟩:=a.out.b1)) | (go_at_call 18;(with_reducible refine(EM X.out HP.out a.out.z [124,124]).mono ?_);intro e w3 ha;rcases ha.part d L with⟨f,M,rfl,j,P⟩ | ⟨S,p3,v,rfl,⟨rfl,J⟩,j,c⟩;exact⟨rfl,BX P (a.out.o.trans j)⟩;replace d:=c;clear c ha;(try dsimp only at d);replace a:=aG (a.out.move J j);clear J j;(try clear k l t A B C);(try clear D E F G H I);(try clear m20 m21 m22 m23 m24 m2f);(try clear m30 m31 m32 m33 m34 m3f);obtain⟨k,l,t,A,B,C⟩:=a.out.b0;obtain⟨D,E,F,G,H,I⟩:=a.out.b1) | (go_at_call 21;(with_reducible refine(M' X.out HP.out a.out.z true _ (CA d L)).mono ?_);intro e w4 ha;rcases ha.part d L with⟨f,M,rfl,j,P⟩ | ⟨_,p4,v,rfl,⟨rfl,J⟩,j,c⟩;exact⟨rfl,BX P (a.out.o.trans j)⟩;replace d:=c;clear c ha;(try dsimp only at d);replace a:=aG (a.out.move J j);clear J j;(try clear k l t A B C);(try clear D E F G H I);(try clear m20 m21 m22 m23 m24 m2f);(try clear m30 m31 m32 m33 m34 m3f);obtain⟨k,l,t,A,B,C⟩:=a.out.b0;obtain⟨D,E,F,G,H,I⟩:=a.out.b1))
 ·obtain⟨z0,z1,z2,S,z4,zf⟩:=((((a.out.b1.set0 (.int .i64 x.kd)).set1 (.string ⟨x.nm.toArray⟩)).set2 (.float .f64 x.x)).set3 (.slice T x.ks.length U)).set4 (.complex .f64 x.z.1 x.z.2)
  exact bodyPost_ret (v:=CJ x (.slice T x.ks.length U)) (by simp[CJ,results,results59,go_sem,z0,z1,z2,S,z4]<;>exact rfl) rfl (a.out.done a.out.k0 _ _ _ _ _ d)
 (try clear k l t A B C);(try clear D E F G H I);(try clear m20 m21 m22 m23 m24 m2f);(try clear m30 m31 m32 m33 m34 m3f)
 refine a.out.region 6 (by kernel_rfl) (fun O=>?_);refine BT (i:=0) (v:=.complex .f64 S.1 S.2) rfl (by kernel_rfl) (fun _ _ _ h=>h) (Or.inl ⟨by rfl,fun w Y=>by go_simp⟩) O ?_
 (try dsimp only);try simp only[Act.put,aD,aB,aC,aA,aE,aF]
 refine BT (i:=1) (v:=(.agg #[.int .i64 x.kd,.string ⟨x.nm.toArray⟩,.float .f64 x.x,.slice T x.ks.length U,.complex .f64 x.z.1 x.z.2])) rfl (by kernel_rfl) (fun _ _ _ h=>h) (Or.inl ⟨by rfl,fun w Y=>by obtain⟨s0,s1,s2,s3,s4,-⟩:=Y.b0;go_simp⟩) O ?_
 (try dsimp only);try simp only[Act.put,aD,aB,aC,aA,aE,aF]
 refine BT (i:=2) (v:=.pointer (some ⟨q,0,none⟩)) rfl (by kernel_rfl) (fun _ _ _ h=>h) (Or.inl ⟨by rfl,fun w Y=>by go_simp⟩) O ?_
 (try dsimp only);try simp only[Act.put,aD,aB,aC,aA,aE,aF]
 refine BW (rs:=[3]) (by kernel_rfl) rfl (BS.cons rfl (by rfl) (fun K Q=>?_) BS.nil)
 try go_simp
 go_at_call 70
 refine(HO.out _ (by omega) _ _ a.out.drew.z (CA d L)).mono ?_;intro e w8 ha;rcases ha.part d L with⟨f,M,rfl,j,P⟩ | ⟨_,p8,v,rfl,⟨⟨y,kv,rfl,rfl,R⟩,J⟩,j,c⟩
 ·exact⟨rfl,BX P (a.out.drew.o.trans j)⟩
 replace d:=c;clear c ha
 (try dsimp only at d)
 obtain⟨ay,cy,rfl⟩:=R.slice;replace a:=aG (a.out.drew.read R J j);clear R J j O;unfold CJ;refine Q.out _ _ (.inr a.out.bs) ?_
 (try dsimp only);try simp only[Act.put,aD,aB,aC,aA,aE,aF]
 refine BW (rs:=[4]) (by kernel_rfl) rfl (BS.cons rfl (by rfl) (fun K Q=>?_) BS.nil)
 try go_simp
 replace a:=aG a.out.kid2;refine Q.out _ _ (.inr a.out.bs) ?_
 (try dsimp only);try simp only[Act.put,aD,aB,aC,aA,aE,aF]
 refine BW (rs:=[5]) (by kernel_rfl) rfl (BS.cons rfl (by rfl) (fun K Q=>?_) BS.nil)
 try go_simp
 refine Q.out _ _ (.inr a.out.bs) ?_
 (try dsimp only);try simp only[Act.put,aD,aB,aC,aA,aE,aF]
 obtain⟨n0,n1,n2,n3,n4,nf⟩:=a.out.b0;refine BW (rs:=[6]) (by kernel_rfl) rfl (BS.cons rfl (by rfl) (fun K Q=>?_) BS.nil)
 try go_simp
 replace a:=aG (a.out.store (.int .i64 9) (.string ⟨#[]⟩) (.float .f64 0) (.slice (some ⟨w8.heap.size,0,none⟩) 2 2) (.complex .f64 S.1 S.2));refine Q.out _ _ (.inl rfl) ?_
 (try dsimp only);try simp only[Act.put,aD,aB,aC,aA,aE,aF]
 refine Aal (by kernel_rfl) ?_ _;go_wp2
 go_roundg m
 case rel=>exact⟨m,.mk 9 [] 0 S [x,y],some ⟨w8.heap.size,0,none⟩,2,p8,rfl,by omega,d,aG a.out.row1⟩
 all_goals omega
set_option linter.unusedSimpArgs false in
theorem YZ {nx:Nat->Bool->Tk} {pl:Nat->Nat×Nat} {N:List UInt8->Option Bool} {V:World} {q:Nat} {s:ByteArray} (hN:F2 nx s V) (hP:PlC pl s) (n:Nat)
  (hO:∀m,m<=n->NC nx pl N V q s m .inn 76):NC nx pl N V q s (n+1) .and 70:=by
 intro p W h L;obtain⟨r,M⟩:∃r,Dn nx pl N (n+1) .and p=r:=⟨_,rfl⟩;rw[M] at L ⊢;rw[Dn] at M;have d:=aG M;have a:=aG (Fx.start1 h (.int .i64 0) (.string ⟨#[]⟩) (.float .f64 0) (.slice none 0 0) (.complex .f64 0 0) 34);have X:=aG hN;have HP:=aG hP;have HO:=aG (fun m (hm:m<=n) p W h g=>hO m hm p W h g);clear M h hN hP hO;obtain⟨k,l,t,A,B,C⟩:=a.out.b0
 go_in
 go_wp2_with (first | (go_at_call 76;(with_reducible refine(HO.out _ (aJ _) _ _ a.out.z (CA d L)).mono ?_);intro e w1 ha;rcases ha.part d L with⟨f,M,rfl,j,P⟩ | ⟨_,p1,v,rfl,⟨⟨u,kv,rfl,rfl,R⟩,J⟩,j,c⟩;exact⟨rfl,BX P (a.out.o.trans j)⟩;replace d:=c;clear c ha;(try dsimp only at d);obtain⟨au,cu,rfl⟩:=R.slice;replace a:=aG ((a.out.read R J j).box (.int .i64 u.kd) (.string ⟨u.nm.toArray⟩) (.float .f64 u.x) (.slice au u.ks.length cu) (.complex .f64 u.z.1 u.z.2) 34);clear R J j;(try dsimp only[hd1,aM,aI,aK,aL] at d);(try clear k l t A B C);(try clear D E F G H I);(try clear m20 m21 m22 m23 m24 m2f);(try clear m30 m31 m32 m33 m34 m3f);obtain⟨k,l,t,A,B,C⟩:=a.out.b0;obtain⟨D,E,F,G,H,I⟩:=a.out.b1;unfold CJ))
 (try clear k l t A B C);(try clear D E F G H I);(try clear m20 m21 m22 m23 m24 m2f);(try clear m30 m31 m32 m33 m34 m3f)
 go_loopg [] n (fun g wr=>∃(m:Nat) (x:Tr) (T:Option Addr) (U:Nat) (Z:Ps),m=g/\m<=n/\Hid (Dn nx pl N m (.andL x) Z=r)/\Hid (Fx V W q (W.heap.size+1) s Z [⟨w1.heap.size,.int .i64 x.kd,.string ⟨x.nm.toArray⟩,.float .f64 x.x,.slice T x.ks.length U,.complex .f64 x.z.1 x.z.2⟩,⟨W.heap.size,.int .i64 0,.string ⟨#[]⟩,.float .f64 0,.slice none 0 0,.complex .f64 0 0⟩] [(x.ks,.slice T x.ks.length U)] wr))
 case atStart=>exact⟨n,u,au,cu,p1,rfl,aJ _,d,a⟩
 clear a d;obtain⟨m,x,T,U,Z,rfl,a0,d,a⟩:=hrel
 cases m with
 | zero=>exact absurd d.out.symm L
 | succ m =>
 replace d:=aG (by have:=d.out;rw[Dn] at this;exact this);obtain⟨k,l,t,A,B,C⟩:=a.out.b0;obtain⟨D,E,F,G,H,I⟩:=a.out.b1
 go_wp2_with (first | (go_at_call 19;(with_reducible refine(F1 X.out a.out.z [38,38]).mono ?_);intro e w2 ha;rcases ha.part d L with⟨f,M,rfl,j,P⟩ | ⟨b,p2,v,rfl,⟨rfl,rfl,hb⟩,j,c⟩;exact⟨rfl,BX P (a.out.o.trans j)⟩;replace d:=c;clear c ha;(try dsimp only at d);replace a:=aG (a.out.quiet hb);clear hb j;cases b<;>(simp only[if_true,if_false,aH,reduceIte] at d);all_goals ((try clear k l t A B C);(try clear D E F G H I);(try clear m20 m21 m22 m23 m24 m2f);(try clear m30 m31 m32 m33 m34 m3f);obtain⟨k,l,t,A,B,C⟩:=a.out.b0;obtain⟨D,E,F,G,H,I⟩:=a.out.b1)) | (go_at_call 18;(with_reducible refine(EM X.out HP.out a.out.z [38,38]).mono ?_);intro e w3 ha;rcases ha.part d L with⟨f,M,rfl,j,P⟩ | ⟨S,p3,v,rfl,⟨rfl,J⟩,j,c⟩;exact⟨rfl,BX P (a.out.o.trans j)⟩;replace d:=c;clear c ha;(try dsimp only at d);replace a:=aG (a.out.move J j);clear J j;(try clear k l t A B C);(try clear D E F G H I);(try clear m20 m21 m22 m23 m24 m2f);(try clear m30 m31 m32 m33 m34 m3f);obtain⟨k,l,t,A,B,C⟩:=a.out.b0;obtain⟨D,E,F,G,H,I⟩:=a.out.b1) | (go_at_call 21;(with_reducible refine(M' X.out HP.out a.out.z true _ (CA d L)).mono ?_);intro e w4 ha;rcases ha.part d L with⟨f,M,rfl,j,P⟩ | ⟨_,p4,v,rfl,⟨rfl,J⟩,j,c⟩;exact⟨rfl,BX P (a.out.o.trans j)⟩;replace d:=c;clear c ha;(try dsimp only at d);replace a:=aG (a.out.move J j);clear J j;(try clear k l t A B C);(try clear D E F G H I);(try clear m20 m21 m22 m23 m24 m2f);(try clear m30 m31 m32 m33 m34 m3f);obtain⟨k,l,t,A,B,C⟩:=a.out.b0;obtain⟨D,E,F,G,H,I⟩:=a.out.b1))
 ·obtain⟨z0,z1,z2,S,z4,zf⟩:=((((a.out.b1.set0 (.int .i64 x.kd)).set1 (.string ⟨x.nm.toArray⟩)).set2 (.float .f64 x.x)).set3 (.slice T x.ks.length U)).set4 (.complex .f64 x.z.1 x.z.2)
  exact bodyPost_ret (v:=CJ x (.slice T x.ks.length U)) (by simp[CJ,results,results70,go_sem,z0,z1,z2,S,z4]<;>exact rfl) rfl (a.out.done a.out.k0 _ _ _ _ _ d)
 (try clear k l t A B C);(try clear D E F G H I);(try clear m20 m21 m22 m23 m24 m2f);(try clear m30 m31 m32 m33 m34 m3f)
 refine a.out.region 6 (by kernel_rfl) (fun O=>?_);refine BT (i:=0) (v:=.complex .f64 S.1 S.2) rfl (by kernel_rfl) (fun _ _ _ h=>h) (Or.inl ⟨by rfl,fun w Y=>by go_simp⟩) O ?_
 (try dsimp only);try simp only[Act.put,aD,aB,aC,aA,aE,aF]
 refine BT (i:=1) (v:=(.agg #[.int .i64 x.kd,.string ⟨x.nm.toArray⟩,.float .f64 x.x,.slice T x.ks.length U,.complex .f64 x.z.1 x.z.2])) rfl (by kernel_rfl) (fun _ _ _ h=>h) (Or.inl ⟨by rfl,fun w Y=>by obtain⟨s0,s1,s2,s3,s4,-⟩:=Y.b0;go_simp⟩) O ?_
 (try dsimp only);try simp only[Act.put,aD,aB,aC,aA,aE,aF]
 refine BT (i:=2) (v:=.pointer (some ⟨q,0,none⟩)) rfl (by kernel_rfl) (fun _ _ _ h=>h) (Or.inl ⟨by rfl,fun w Y=>by go_simp⟩) O ?_
 (try dsimp only);try simp only[Act.put,aD,aB,aC,aA,aE,aF]
 refine BW (rs:=[3]) (by kernel_rfl) rfl (BS.cons rfl (by rfl) (fun K Q=>?_) BS.nil)
 try go_simp
 go_at_call 76
 refine(HO.out _ (by omega) _ _ a.out.drew.z (CA d L)).mono ?_;intro e w8 ha;rcases ha.part d L with⟨f,M,rfl,j,P⟩ | ⟨_,p8,v,rfl,⟨⟨y,kv,rfl,rfl,R⟩,J⟩,j,c⟩
 ·exact⟨rfl,BX P (a.out.drew.o.trans j)⟩
 replace d:=c;clear c ha
 (try dsimp only at d)
 obtain⟨ay,cy,rfl⟩:=R.slice;replace a:=aG (a.out.drew.read R J j);clear R J j O;unfold CJ;refine Q.out _ _ (.inr a.out.bs) ?_
 (try dsimp only);try simp only[Act.put,aD,aB,aC,aA,aE,aF]
 refine BW (rs:=[4]) (by kernel_rfl) rfl (BS.cons rfl (by rfl) (fun K Q=>?_) BS.nil)
 try go_simp
 replace a:=aG a.out.kid2;refine Q.out _ _ (.inr a.out.bs) ?_
 (try dsimp only);try simp only[Act.put,aD,aB,aC,aA,aE,aF]
 refine BW (rs:=[5]) (by kernel_rfl) rfl (BS.cons rfl (by rfl) (fun K Q=>?_) BS.nil)
 try go_simp
 refine Q.out _ _ (.inr a.out.bs) ?_
 (try dsimp only);try simp only[Act.put,aD,aB,aC,aA,aE,aF]
 obtain⟨n0,n1,n2,n3,n4,nf⟩:=a.out.b0;refine BW (rs:=[6]) (by kernel_rfl) rfl (BS.cons rfl (by rfl) (fun K Q=>?_) BS.nil)
 try go_simp
 replace a:=aG (a.out.store (.int .i64 10) (.string ⟨#[]⟩) (.float .f64 0) (.slice (some ⟨w8.heap.size,0,none⟩) 2 2) (.complex .f64 S.1 S.2));refine Q.out _ _ (.inl rfl) ?_
 (try dsimp only);try simp only[Act.put,aD,aB,aC,aA,aE,aF]
 refine Aal (by kernel_rfl) ?_ _;go_wp2
 go_roundg m
 case rel=>exact⟨m,.mk 10 [] 0 S [x,y],some ⟨w8.heap.size,0,none⟩,2,p8,rfl,by omega,d,aG a.out.row1⟩
 all_goals omega
end Go.Proofs.YtjolfpcpcaocmaaGreatDoor
