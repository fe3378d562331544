/- Bz -/
import Derived.Test.YtjolfpcpcaocmaaGreatDoorBy
set_option maxRecDepth 100000
set_option maxHeartbeats 4000000
open List renaming setIfInBounds_toArray->aA,getElem_cons_zero->aB,getElem_cons_succ->aC,getElem_toArray->aD,set_cons_zero->aE,set_cons_succ->aF
open Go.Lib renaming hid->aG
namespace Go.Proofs.YtjolfpcpcaocmaaGreatDoor
open Go.Proofs.Tryz
open Go.RowKit
set_option linter.unusedSimpArgs false in
theorem Zn {nx:Nat->Bool->Tk} {pl:Nat->Nat×Nat} {X:List UInt8->Option Bool} {w0:World} {q:Nat} {s:ByteArray} (hN:F2 nx s w0) (hP:PlC pl s) (n:Nat)
  (hO:∀m,m<=n->NC nx pl X w0 q s m .prod 133):NC nx pl X w0 q s (n+1) .sum 123:=by
 intro p W h Y;obtain⟨r,Z⟩:∃r,Dn nx pl X (n+1) .sum p=r:=⟨_,rfl⟩;rw[Z] at Y ⊢;rw[Dn] at Z;have A:=aG Z;have a:=aG (Fx.start1 h (.int .i64 0) (.string ⟨#[]⟩) (.float .f64 0) (.slice none 0 0) (.complex .f64 0 0) 34);have HN:=aG hN;have HP:=aG hP;have HO:=aG (fun m (hm:m<=n) p W h g=>hO m hm p W h g);clear Z h hN hP hO;obtain⟨b,c,d,j,k,l⟩:=a.out.b0
 go_in
 go_wp2_with (first | (go_at_call 133;(with_reducible refine(HO.out _ (Nat.le_refl _) _ _ a.out.z (CA A Y)).mono ?_);intro e w1 ha;rcases ha.part A Y with⟨f,Z,rfl,R,hr⟩ | ⟨_,p1,v,rfl,⟨⟨u,kv,rfl,rfl,U⟩,V⟩,R,J⟩;exact⟨rfl,BX hr (a.out.o.trans R)⟩;replace A:=J;clear J ha;(try dsimp only at A);obtain⟨au,cu,rfl⟩:=U.slice;replace a:=aG ((a.out.read U V R).box (.int .i64 u.kd) (.string ⟨u.nm.toArray⟩) (.float .f64 u.x) (.slice au u.ks.length cu) (.complex .f64 u.z.1 u.z.2) 34);clear U V R;(try dsimp only[hd1,List.headD,List.singleton_append,List.cons_append,List.nil_append] at A);(try clear b c d j k l);(try clear C D E F G H);(try clear L M N O P Q);(try clear m30 m31 m32 m33 m34 m3f);obtain⟨b,c,d,j,k,l⟩:=a.out.b0;obtain⟨C,D,E,F,G,H⟩:=a.out.b1;unfold CJ))
 (try clear b c d j k l);(try clear C D E F G H);(try clear L M N O P Q);(try clear m30 m31 m32 m33 m34 m3f)
 go_loopg [] n (fun g wr=>∃(m:Nat) (x:Tr) (ax:Option Addr) (cx:Nat) (pr:Ps),m=g/\m<=n/\Hid (Dn nx pl X m (.sumL x) pr=r)/\Hid (Fx w0 W q (W.heap.size+1) s pr [⟨w1.heap.size,.int .i64 x.kd,.string ⟨x.nm.toArray⟩,.float .f64 x.x,.slice ax x.ks.length cx,.complex .f64 x.z.1 x.z.2⟩,⟨W.heap.size,.int .i64 0,.string ⟨#[]⟩,.float .f64 0,.slice none 0 0,.complex .f64 0 0⟩] [(x.ks,.slice ax x.ks.length cx)] wr))
 case atStart=>exact⟨n,u,au,cu,p1,rfl,Nat.le_refl _,A,a⟩
 clear a A;obtain⟨m,x,ax,cx,pr,rfl,c0,A,a⟩:=hrel
 cases m with
 | zero=>exact absurd A.out.symm Y
 | succ m =>
 replace A:=aG (by have:=A.out;rw[Dn] at this;exact this);obtain⟨b,c,d,j,k,l⟩:=a.out.b0;obtain⟨C,D,E,F,G,H⟩:=a.out.b1
 go_wp2_with (first | (go_at_call 15;(with_reducible refine(DS HN.out a.out.z false).mono ?_);intro e w2 ha;rcases ha.part A Y with⟨f,Z,rfl,R,hr⟩ | ⟨I,p2,v,rfl,⟨rfl,rfl,h0,et,a0,hb⟩,R,J⟩;exact⟨rfl,BX hr (a.out.o.trans R)⟩;replace A:=J;clear J ha;(try dsimp only at A);replace a:=aG ((a.out.quiet hb).box (.int .i64 I.kd) (.string ⟨I.tx.toArray⟩) (.float .f64 I.nm) (.int .i64 I.f) (.int .i64 I.t) 49);clear h0 et hb R;(try clear b c d j k l);(try clear C D E F G H);(try clear L M N O P Q);(try clear m30 m31 m32 m33 m34 m3f);obtain⟨b,c,d,j,k,l⟩:=a.out.b0;obtain⟨C,D,E,F,G,H⟩:=a.out.b1;obtain⟨L,M,N,O,P,Q⟩:=a.out.b2;unfold G1) | (go_at_call 12;(with_reducible refine(EE I [43] _).mono ?_);rintro e w3 ⟨rfl,hb⟩;replace a:=aG (a.out.quiet hb);clear hb;cases hs:EP I [43]<;>(simp only[hs,if_true,if_false,Bool.false_eq_true,reduceIte,or_true,true_or,or_false,false_or,and_true,true_and,and_false,false_and] at A;clear hs);all_goals ((try clear b c d j k l);(try clear C D E F G H);(try clear L M N O P Q);(try clear m30 m31 m32 m33 m34 m3f);obtain⟨b,c,d,j,k,l⟩:=a.out.b0;obtain⟨C,D,E,F,G,H⟩:=a.out.b1;obtain⟨L,M,N,O,P,Q⟩:=a.out.b2)) | (go_at_call 12;(with_reducible refine(EE I [45] _).mono ?_);rintro e w4 ⟨rfl,hb⟩;replace a:=aG (a.out.quiet hb);clear hb;cases hs:EP I [45]<;>(simp only[hs,if_true,if_false,Bool.false_eq_true,reduceIte,or_true,true_or,or_false,false_or,and_true,true_and,and_false,false_and] at A;clear hs);all_goals ((try clear b c d j k l);(try clear C D E F G H);(try clear L M N O P Q);(try clear m30 m31 m32 m33 m34 m3f);obtain⟨b,c,d,j,k,l⟩:=a.out.b0;obtain⟨C,D,E,F,G,H⟩:=a.out.b1;obtain⟨L,M,N,O,P,Q⟩:=a.out.b2)) | (go_at_call 16;(with_reducible refine(C2 HP.out a.out.z I a0).mono ?_);rintro e w7 ⟨rfl,V,R⟩;replace a:=aG (a.out.move V R);clear V R;(try clear b c d j k l);(try clear C D E F G H);(try clear L M N O P Q);(try clear m30 m31 m32 m33 m34 m3f);obtain⟨b,c,d,j,k,l⟩:=a.out.b0;obtain⟨C,D,E,F,G,H⟩:=a.out.b1;obtain⟨L,M,N,O,P,Q⟩:=a.out.b2))
 ·obtain⟨z0,z1,z2,z3,z4,zf⟩:=((((a.out.b2.set0 (.int .i64 x.kd)).set1 (.string ⟨x.nm.toArray⟩)).set2 (.float .f64 x.x)).set3 (.slice ax x.ks.length cx)).set4 (.complex .f64 x.z.1 x.z.2)
  exact bodyPost_ret (v:=CJ x (.slice ax x.ks.length cx)) (by simp[CJ,results,results123,go_sem,z0,z1,z2,z3,z4]<;>exact rfl) rfl (a.out.done a.out.k0 _ _ _ _ _ A)
 ·(try clear b c d j k l);(try clear C D E F G H);(try clear L M N O P Q);(try clear m30 m31 m32 m33 m34 m3f)
  refine a.out.region 8 (by kernel_rfl) (fun B=>?_);refine BT (i:=0) (v:=.pointer (some ⟨w2.heap.size,1,none⟩)) rfl (by kernel_rfl) (fun _ _ _ h=>h) (Or.inl ⟨by rfl,fun w T=>by go_simp⟩) B ?_
  (try dsimp only);try simp only[Act.put,aD,aB,aC,aA,aE,aF]
  refine BT (i:=1) (v:=.string ⟨I.tx.toArray⟩) rfl (by kernel_rfl) (fun _ _ _ h=>h) (Or.inl ⟨by rfl,fun w T=>by obtain⟨s0,s1,s2,s3,s4,-⟩:=T.b0;go_simp⟩) B ?_
  (try dsimp only);try simp only[Act.put,aD,aB,aC,aA,aE,aF]
  refine BT (i:=2) (v:=.complex .f64 (pl I.f).1 (pl I.f).2) rfl (by kernel_rfl) (fun _ _ _ h=>h) (Or.inl ⟨by rfl,fun w T=>by go_simp⟩) B ?_
  (try dsimp only);try simp only[Act.put,aD,aB,aC,aA,aE,aF]
  refine BT (i:=3) (v:=(.agg #[.int .i64 x.kd,.string ⟨x.nm.toArray⟩,.float .f64 x.x,.slice ax x.ks.length cx,.complex .f64 x.z.1 x.z.2])) rfl (by kernel_rfl) (fun _ _ _ h=>h) (Or.inl ⟨by rfl,fun w T=>by obtain⟨s0,s1,s2,s3,s4,-⟩:=T.b1;go_simp⟩) B ?_
  (try dsimp only);try simp only[Act.put,aD,aB,aC,aA,aE,aF]
  refine BT (i:=4) (v:=.pointer (some ⟨q,0,none⟩)) rfl (by kernel_rfl) (fun _ _ _ h=>h) (Or.inl ⟨by rfl,fun w T=>by go_simp⟩) B ?_
  (try dsimp only);try simp only[Act.put,aD,aB,aC,aA,aE,aF]
  refine BW (rs:=[5]) (by kernel_rfl) rfl (BS.cons rfl (by rfl) (fun K S=>?_) BS.nil)
  try go_simp
  go_at_call 133
  refine(HO.out _ (by omega) _ _ a.out.drew.z (CA A Y)).mono ?_;intro e w8 ha;rcases ha.part A Y with⟨f,Z,rfl,R,hr⟩ | ⟨_,p8,v,rfl,⟨⟨y,kv,rfl,rfl,U⟩,V⟩,R,J⟩
  ·exact⟨rfl,BX hr (a.out.drew.o.trans R)⟩
  replace A:=J;clear J ha
  (try dsimp only at A)
  obtain⟨ay,cy,rfl⟩:=U.slice;replace a:=aG (a.out.drew.read U V R);clear U V R B;unfold CJ;refine S.out _ _ (.inr a.out.bs) ?_
  (try dsimp only);try simp only[Act.put,aD,aB,aC,aA,aE,aF]
  refine BW (rs:=[6]) (by kernel_rfl) rfl (BS.cons rfl (by rfl) (fun K S=>?_) BS.nil)
  try go_simp
  replace a:=aG a.out.kid2;refine S.out _ _ (.inr a.out.bs) ?_
  (try dsimp only);try simp only[Act.put,aD,aB,aC,aA,aE,aF]
  refine BW (rs:=[7]) (by kernel_rfl) rfl (BS.cons rfl (by rfl) (fun K S=>?_) BS.nil)
  try go_simp
  refine S.out _ _ (.inr a.out.bs) ?_
  (try dsimp only);try simp only[Act.put,aD,aB,aC,aA,aE,aF]
  obtain⟨n0,n1,n2,n3,n4,nf⟩:=a.out.drop.b0;refine BW (rs:=[8]) (by kernel_rfl) rfl (BS.cons rfl (by rfl) (fun K S=>?_) BS.nil)
  try go_simp
  replace a:=aG (a.out.drop.store (.int .i64 15) (.string ⟨I.tx.toArray⟩) (.float .f64 0) (.slice (some ⟨w8.heap.size,0,none⟩) 2 2) (.complex .f64 (pl I.f).1 (pl I.f).2));refine S.out _ _ (.inl rfl) ?_
  (try dsimp only);try simp only[Act.put,aD,aB,aC,aA,aE,aF]
  refine Aal (by kernel_rfl) ?_ _;go_wp2
  go_roundg m
  case rel=>exact⟨m,.mk 15 I.tx 0 (pl I.f) [x,y],some ⟨w8.heap.size,0,none⟩,2,p8,rfl,by omega,A,aG a.out.row1⟩
  all_goals omega
 (try clear b c d j k l);(try clear C D E F G H);(try clear L M N O P Q);(try clear m30 m31 m32 m33 m34 m3f)
 refine a.out.region 8 (by kernel_rfl) (fun B=>?_);refine BT (i:=0) (v:=.pointer (some ⟨w2.heap.size,1,none⟩)) rfl (by kernel_rfl) (fun _ _ _ h=>h) (Or.inl ⟨by rfl,fun w T=>by go_simp⟩) B ?_
 (try dsimp only);try simp only[Act.put,aD,aB,aC,aA,aE,aF]
 refine BT (i:=1) (v:=.string ⟨I.tx.toArray⟩) rfl (by kernel_rfl) (fun _ _ _ h=>h) (Or.inl ⟨by rfl,fun w T=>by obtain⟨s0,s1,s2,s3,s4,-⟩:=T.b0;go_simp⟩) B ?_
 (try dsimp only);try simp only[Act.put,aD,aB,aC,aA,aE,aF]
 refine BT (i:=2) (v:=.complex .f64 (pl I.f).1 (pl I.f).2) rfl (by kernel_rfl) (fun _ _ _ h=>h) (Or.inl ⟨by rfl,fun w T=>by go_simp⟩) B ?_
 (try dsimp only);try simp only[Act.put,aD,aB,aC,aA,aE,aF]
 refine BT (i:=3) (v:=(.agg #[.int .i64 x.kd,.string ⟨x.nm.toArray⟩,.float .f64 x.x,.slice ax x.ks.length cx,.complex .f64 x.z.1 x.z.2])) rfl (by kernel_rfl) (fun _ _ _ h=>h) (Or.inl ⟨by rfl,fun w T=>by obtain⟨s0,s1,s2,s3,s4,-⟩:=T.b1;go_simp⟩) B ?_
 (try dsimp only);try simp only[Act.put,aD,aB,aC,aA,aE,aF]
 refine BT (i:=4) (v:=.pointer (some ⟨q,0,none⟩)) rfl (by kernel_rfl) (fun _ _ _ h=>h) (Or.inl ⟨by rfl,fun w T=>by go_simp⟩) B ?_
 (try dsimp only);try simp only[Act.put,aD,aB,aC,aA,aE,aF]
 refine BW (rs:=[5]) (by kernel_rfl) rfl (BS.cons rfl (by rfl) (fun K S=>?_) BS.nil)
 try go_simp
 go_at_call 133
 refine(HO.out _ (by omega) _ _ a.out.drew.z (CA A Y)).mono ?_;intro e w8 ha;rcases ha.part A Y with⟨f,Z,rfl,R,hr⟩ | ⟨_,p8,v,rfl,⟨⟨y,kv,rfl,rfl,U⟩,V⟩,R,J⟩
 ·exact⟨rfl,BX hr (a.out.drew.o.trans R)⟩
 replace A:=J;clear J ha
 (try dsimp only at A)
 obtain⟨ay,cy,rfl⟩:=U.slice;replace a:=aG (a.out.drew.read U V R);clear U V R B;unfold CJ;refine S.out _ _ (.inr a.out.bs) ?_
 (try dsimp only);try simp only[Act.put,aD,aB,aC,aA,aE,aF]
 refine BW (rs:=[6]) (by kernel_rfl) rfl (BS.cons rfl (by rfl) (fun K S=>?_) BS.nil)
 try go_simp
 replace a:=aG a.out.kid2;refine S.out _ _ (.inr a.out.bs) ?_
 (try dsimp only);try simp only[Act.put,aD,aB,aC,aA,aE,aF]
 refine BW (rs:=[7]) (by kernel_rfl) rfl (BS.cons rfl (by rfl) (fun K S=>?_) BS.nil)
 try go_simp
 refine S.out _ _ (.inr a.out.bs) ?_
 (try dsimp only);try simp only[Act.put,aD,aB,aC,aA,aE,aF]
 obtain⟨n0,n1,n2,n3,n4,nf⟩:=a.out.drop.b0;refine BW (rs:=[8]) (by kernel_rfl) rfl (BS.cons rfl (by rfl) (fun K S=>?_) BS.nil)
 try go_simp
 replace a:=aG (a.out.drop.store (.int .i64 15) (.string ⟨I.tx.toArray⟩) (.float .f64 0) (.slice (some ⟨w8.heap.size,0,none⟩) 2 2) (.complex .f64 (pl I.f).1 (pl I.f).2));refine S.out _ _ (.inl rfl) ?_
 (try dsimp only);try simp only[Act.put,aD,aB,aC,aA,aE,aF]
 refine Aal (by kernel_rfl) ?_ _;go_wp2
 go_roundg m
 case rel=>exact⟨m,.mk 15 I.tx 0 (pl I.f) [x,y],some ⟨w8.heap.size,0,none⟩,2,p8,rfl,by omega,A,aG a.out.row1⟩
 all_goals omega
end Go.Proofs.YtjolfpcpcaocmaaGreatDoor
