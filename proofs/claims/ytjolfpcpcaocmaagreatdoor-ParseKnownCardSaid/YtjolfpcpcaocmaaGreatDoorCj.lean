/- Cj -/
import Derived.Test.YtjolfpcpcaocmaaGreatDoorCi
set_option maxRecDepth 100000
set_option maxHeartbeats 4000000
open List renaming setIfInBounds_toArray->aA,getElem_cons_zero->aB,getElem_cons_succ->aC,getElem_toArray->aD,set_cons_zero->aE,set_cons_succ->aF,singleton_append->aG,cons_append->aI,nil_append->aJ
open Go.Lib renaming hid->aH
namespace Go.Proofs.YtjolfpcpcaocmaaGreatDoor
open Go.Proofs.Tryz
open Go.RowKit
theorem exC (t:Tk) (a:Bool):(¬ (t.kd=9/\a=true/\(t.tx=[61]\/t.tx=[43,61]\/t.tx=[45,61]\/t.tx=[42,61]\/t.tx=[47,61]\/t.tx=[37,61]\/t.tx=[94,61]))/\(t.kd != 9)=true)\/(¬ (t.kd=9/\a=true/\(t.tx=[61]\/t.tx=[43,61]\/t.tx=[45,61]\/t.tx=[42,61]\/t.tx=[47,61]\/t.tx=[37,61]\/t.tx=[94,61]))/\(t.kd != 9)=false/\a=false)\/((t.kd=9/\a=true/\(t.tx=[61]\/t.tx=[43,61]\/t.tx=[45,61]\/t.tx=[42,61]\/t.tx=[47,61]\/t.tx=[37,61]\/t.tx=[94,61]))/\(t.kd != 9)=false/\a=true/\(t.tx==[61])=true)\/((t.kd=9/\a=true/\(t.tx=[61]\/t.tx=[43,61]\/t.tx=[45,61]\/t.tx=[42,61]\/t.tx=[47,61]\/t.tx=[37,61]\/t.tx=[94,61]))/\(t.kd != 9)=false/\a=true/\(t.tx==[61])=false/\(t.tx==[43,61])=true)\/((t.kd=9/\a=true/\(t.tx=[61]\/t.tx=[43,61]\/t.tx=[45,61]\/t.tx=[42,61]\/t.tx=[47,61]\/t.tx=[37,61]\/t.tx=[94,61]))/\(t.kd != 9)=false/\a=true/\(t.tx==[61])=false/\(t.tx==[43,61])=false/\(t.tx==[45,61])=true)\/((t.kd=9/\a=true/\(t.tx=[61]\/t.tx=[43,61]\/t.tx=[45,61]\/t.tx=[42,61]\/t.tx=[47,61]\/t.tx=[37,61]\/t.tx=[94,61]))/\(t.kd != 9)=false/\a=true/\(t.tx==[61])=false/\(t.tx==[43,61])=false/\(t.tx==[45,61])=false/\(t.tx==[42,61])=true)\/((t.kd=9/\a=true/\(t.tx=[61]\/t.tx=[43,61]\/t.tx=[45,61]\/t.tx=[42,61]\/t.tx=[47,61]\/t.tx=[37,61]\/t.tx=[94,61]))/\(t.kd != 9)=false/\a=true/\(t.tx==[61])=false/\(t.tx==[43,61])=false/\(t.tx==[45,61])=false/\(t.tx==[42,61])=false/\(t.tx==[47,61])=true)\/((t.kd=9/\a=true/\(t.tx=[61]\/t.tx=[43,61]\/t.tx=[45,61]\/t.tx=[42,61]\/t.tx=[47,61]\/t.tx=[37,61]\/t.tx=[94,61]))/\(t.kd != 9)=false/\a=true/\(t.tx==[61])=false/\(t.tx==[43,61])=false/\(t.tx==[45,61])=false/\(t.tx==[42,61])=false/\(t.tx==[47,61])=false/\(t.tx==[37,61])=true)\/((t.kd=9/\a=true/\(t.tx=[61]\/t.tx=[43,61]\/t.tx=[45,61]\/t.tx=[42,61]\/t.tx=[47,61]\/t.tx=[37,61]\/t.tx=[94,61]))/\(t.kd != 9)=false/\a=true/\(t.tx==[61])=false/\(t.tx==[43,61])=false/\(t.tx==[45,61])=false/\(t.tx==[42,61])=false/\(t.tx==[47,61])=false/\(t.tx==[37,61])=false/\(t.tx==[94,61])=true)\/(¬ (t.kd=9/\a=true/\(t.tx=[61]\/t.tx=[43,61]\/t.tx=[45,61]\/t.tx=[42,61]\/t.tx=[47,61]\/t.tx=[37,61]\/t.tx=[94,61]))/\(t.kd != 9)=false/\a=true/\(t.tx==[61])=false/\(t.tx==[43,61])=false/\(t.tx==[45,61])=false/\(t.tx==[42,61])=false/\(t.tx==[47,61])=false/\(t.tx==[37,61])=false/\(t.tx==[94,61])=false):=by
 rcases Xt t.kd 9 with⟨j,-,h⟩ | ⟨j,-,h⟩
 rotate_left
 ·exact .inl ⟨fun e=>j e.1,h⟩
 cases a with
 | false=>exact .inr (.inl ⟨fun e=>(by cases e.2.1),h,rfl⟩)
 | true =>
 rcases J0 t.tx [61] with⟨f,b⟩ | ⟨m,b⟩
 ·exact .inr (.inr (.inl ⟨⟨j,rfl,by simp[f]⟩,h,rfl,b⟩))
 rcases J0 t.tx [43,61] with⟨f,c⟩ | ⟨n,c⟩
 ·exact .inr (.inr (.inr (.inl ⟨⟨j,rfl,by simp[f]⟩,h,rfl,b,c⟩)))
 rcases J0 t.tx [45,61] with⟨f,d⟩ | ⟨o,d⟩
 ·exact .inr (.inr (.inr (.inr (.inl ⟨⟨j,rfl,by simp[f]⟩,h,rfl,b,c,d⟩))))
 rcases J0 t.tx [42,61] with⟨f,g⟩ | ⟨p,g⟩
 ·exact .inr (.inr (.inr (.inr (.inr (.inl ⟨⟨j,rfl,by simp[f]⟩,h,rfl,b,c,d,g⟩)))))
 rcases J0 t.tx [47,61] with⟨f,i⟩ | ⟨q,i⟩
 ·exact .inr (.inr (.inr (.inr (.inr (.inr (.inl ⟨⟨j,rfl,by simp[f]⟩,h,rfl,b,c,d,g,i⟩))))))
 rcases J0 t.tx [37,61] with⟨f,k⟩ | ⟨r,k⟩
 ·exact .inr (.inr (.inr (.inr (.inr (.inr (.inr (.inl ⟨⟨j,rfl,by simp[f]⟩,h,rfl,b,c,d,g,i,k⟩)))))))
 rcases J0 t.tx [94,61] with⟨f,l⟩ | ⟨s,l⟩
 ·exact .inr (.inr (.inr (.inr (.inr (.inr (.inr (.inr (.inl ⟨⟨j,rfl,by simp[f]⟩,h,rfl,b,c,d,g,i,k,l⟩))))))))
 exact .inr (.inr (.inr (.inr (.inr (.inr (.inr (.inr (.inr ⟨fun e=>by have e:=e.2.2;simp[m,n,o,p,q,r,s] at e,h,rfl,b,c,d,g,i,k,l⟩))))))))
set_option linter.unusedSimpArgs false in
theorem Yx {nx:Nat->Bool->Tk} {pl:Nat->Nat×Nat} {e0:List UInt8->Option Bool} {w0:World} {q:Nat} {s:ByteArray} (hN:F2 nx s w0) (hP:PlC pl s) (n:Nat)
  (hO:NC nx pl e0 w0 q s n .cond 43)
  (hE:NC nx pl e0 w0 q s n .expr 27):NC nx pl e0 w0 q s (n+1) .expr 27:=by
 intro p W h hh;obtain⟨r,er⟩:∃r,Dn nx pl e0 (n+1) .expr p=r:=⟨_,rfl⟩;rw[er] at hh ⊢;rw[Dn] at er;have k:=aH er;have a:=aH (Fx.start1 h (.int .i64 0) (.string ⟨#[]⟩) (.float .f64 0) (.slice none 0 0) (.complex .f64 0 0) 34);have HN:=aH hN;have HP:=aH hP;have HO:=aH (fun p W h g=>hO p W h g);have HE:=aH (fun p W h g=>hE p W h g);clear er h hN hP hO hE;obtain⟨B,C,D,E,F,G⟩:=a.out.b0
 go_in
 go_wp2_with (first | (go_at_call 43;(with_reducible refine(HO.out _ _ a.out.z (CA k hh)).mono ?_);intro e w1 ha;rcases ha.part k hh with⟨f,er,rfl,m,hr⟩ | ⟨_,p1,v,rfl,⟨⟨u,kv,rfl,rfl,A⟩,U⟩,m,j⟩;exact⟨rfl,BX hr (a.out.o.trans m)⟩;replace k:=j;clear j ha;(try dsimp only at k);obtain⟨au,cu,rfl⟩:=A.slice;replace a:=aH ((a.out.read A U m).box (.int .i64 u.kd) (.string ⟨u.nm.toArray⟩) (.float .f64 u.x) (.slice au u.ks.length cu) (.complex .f64 u.z.1 u.z.2) 34);clear A U m;(try dsimp only[hd1,List.headD,aG,aI,aJ] at k);(try clear B C D E F G);(try clear H I J L M N);(try clear O P Q R S T);(try clear m30 m31 m32 m33 m34 m3f);obtain⟨B,C,D,E,F,G⟩:=a.out.b0;obtain⟨H,I,J,L,M,N⟩:=a.out.b1;unfold CJ) | (go_at_call 15;(with_reducible refine(DS HN.out a.out.z false).mono ?_);intro e w2 ha;rcases ha.part k hh with⟨f,er,rfl,m,hr⟩ | ⟨c,p2,v,rfl,⟨rfl,rfl,h0,et,j0,hb⟩,m,j⟩;exact⟨rfl,BX hr (a.out.o.trans m)⟩;replace k:=j;clear j ha;(try dsimp only at k);replace a:=aH ((a.out.quiet hb).box (.int .i64 c.kd) (.string ⟨c.tx.toArray⟩) (.float .f64 c.nm) (.int .i64 c.f) (.int .i64 c.t) 49);clear h0 et hb m;(try clear B C D E F G);(try clear H I J L M N);(try clear O P Q R S T);(try clear m30 m31 m32 m33 m34 m3f);obtain⟨B,C,D,E,F,G⟩:=a.out.b0;obtain⟨H,I,J,L,M,N⟩:=a.out.b1;obtain⟨O,P,Q,R,S,T⟩:=a.out.b2;unfold G1;rcases exC c (Z1 u) with⟨hc,bn⟩ | ⟨hc,bn,hl⟩ | ⟨hc,bn,hl,a0⟩ | ⟨hc,bn,hl,a0,c0⟩ | ⟨hc,bn,hl,a0,c0,d0⟩ | ⟨hc,bn,hl,a0,c0,d0,f0⟩ | ⟨hc,bn,hl,a0,c0,d0,f0,g0⟩ | ⟨hc,bn,hl,a0,c0,d0,f0,g0,i0⟩ | ⟨hc,bn,hl,a0,c0,d0,f0,g0,i0,l0⟩ | ⟨hc,bn,hl,a0,c0,d0,f0,g0,i0,l0⟩<;>((first | replace k:=Ym hc k | replace k:=XY hc k);clear hc)) | (go_at_call 44;(with_reducible refine(R' u au u.ks.length cu _).mono ?_);rintro e w7 ⟨rfl,hb⟩;rw[hl];clear hl;replace a:=aH (a.out.quiet hb);clear hb;(try clear B C D E F G);(try clear H I J L M N);(try clear O P Q R S T);(try clear m30 m31 m32 m33 m34 m3f);obtain⟨B,C,D,E,F,G⟩:=a.out.b0;obtain⟨H,I,J,L,M,N⟩:=a.out.b1;obtain⟨O,P,Q,R,S,T⟩:=a.out.b2) | (go_at_call 16;(with_reducible refine(C2 HP.out a.out.z c j0).mono ?_);rintro e w3 ⟨rfl,U,m⟩;replace a:=aH (a.out.move U m);clear U m;(try clear B C D E F G);(try clear H I J L M N);(try clear O P Q R S T);(try clear m30 m31 m32 m33 m34 m3f);obtain⟨B,C,D,E,F,G⟩:=a.out.b0;obtain⟨H,I,J,L,M,N⟩:=a.out.b1;obtain⟨O,P,Q,R,S,T⟩:=a.out.b2))
 ·obtain⟨X,Y,Z,z3,z4,zf⟩:=((((a.out.b2.set0 (.int .i64 u.kd)).set1 (.string ⟨u.nm.toArray⟩)).set2 (.float .f64 u.x)).set3 (.slice au u.ks.length cu)).set4 (.complex .f64 u.z.1 u.z.2)
  exact bodyPost_ret (v:=CJ u (.slice au u.ks.length cu)) (by simp[CJ,results,results27,go_sem,X,Y,Z,z3,z4]<;>exact rfl) rfl (a.out.done a.out.k0 _ _ _ _ _ k)
 ·obtain⟨X,Y,Z,z3,z4,zf⟩:=((((a.out.b2.set0 (.int .i64 u.kd)).set1 (.string ⟨u.nm.toArray⟩)).set2 (.float .f64 u.x)).set3 (.slice au u.ks.length cu)).set4 (.complex .f64 u.z.1 u.z.2)
  exact bodyPost_ret (v:=CJ u (.slice au u.ks.length cu)) (by simp[CJ,results,results27,go_sem,X,Y,Z,z3,z4]<;>exact rfl) rfl (a.out.done a.out.k0 _ _ _ _ _ k)
 ·(try clear B C D E F G);(try clear H I J L M N);(try clear O P Q R S T);(try clear m30 m31 m32 m33 m34 m3f)
  refine a.out.region 8 (by kernel_rfl) (fun b=>?_);refine BT (i:=0) (v:=.pointer (some ⟨w2.heap.size,1,none⟩)) rfl (by kernel_rfl) (fun _ _ _ h=>h) (Or.inl ⟨by rfl,fun w l=>by go_simp⟩) b ?_
  (try dsimp only);try simp only[Act.put,aD,aB,aC,aA,aE,aF]
  refine BT (i:=1) (v:=.string ⟨c.tx.toArray⟩) rfl (by kernel_rfl) (fun _ _ _ h=>h) (Or.inl ⟨by rfl,fun w l=>by obtain⟨s0,s1,s2,s3,s4,-⟩:=l.b0;go_simp⟩) b ?_
  (try dsimp only);try simp only[Act.put,aD,aB,aC,aA,aE,aF]
  refine BT (i:=2) (v:=.complex .f64 (pl c.f).1 (pl c.f).2) rfl (by kernel_rfl) (fun _ _ _ h=>h) (Or.inl ⟨by rfl,fun w l=>by go_simp⟩) b ?_
  (try dsimp only);try simp only[Act.put,aD,aB,aC,aA,aE,aF]
  refine BT (i:=3) (v:=(.agg #[.int .i64 u.kd,.string ⟨u.nm.toArray⟩,.float .f64 u.x,.slice au u.ks.length cu,.complex .f64 u.z.1 u.z.2])) rfl (by kernel_rfl) (fun _ _ _ h=>h) (Or.inl ⟨by rfl,fun w l=>by obtain⟨s0,s1,s2,s3,s4,-⟩:=l.b1;go_simp⟩) b ?_
  (try dsimp only);try simp only[Act.put,aD,aB,aC,aA,aE,aF]
  refine BT (i:=4) (v:=.pointer (some ⟨q,0,none⟩)) rfl (by kernel_rfl) (fun _ _ _ h=>h) (Or.inl ⟨by rfl,fun w l=>by go_simp⟩) b ?_
  (try dsimp only);try simp only[Act.put,aD,aB,aC,aA,aE,aF]
  refine BW (rs:=[5]) (by kernel_rfl) rfl (BS.cons rfl (by rfl) (fun K d=>?_) BS.nil)
  try go_simp
  go_at_call 27
  refine(HE.out _ _ a.out.drew.z (CA k hh)).mono ?_;intro e V ha;rcases ha.part k hh with⟨f,er,rfl,m,hr⟩ | ⟨_,p8,v,rfl,⟨⟨y,kv,rfl,rfl,A⟩,U⟩,m,j⟩
  ·exact⟨rfl,BX hr (a.out.drew.o.trans m)⟩
  replace k:=j;clear j ha
  (try dsimp only[aG,aI,aJ] at k)
  obtain⟨ay,cy,rfl⟩:=A.slice;replace a:=aH (a.out.drew.read A U m);clear A U m b;unfold CJ;refine d.out _ _ (.inr a.out.bs) ?_
  (try dsimp only);try simp only[Act.put,aD,aB,aC,aA,aE,aF]
  refine BW (rs:=[6]) (by kernel_rfl) rfl (BS.cons rfl (by rfl) (fun K d=>?_) BS.nil)
  try go_simp
  replace a:=aH a.out.kid2;refine d.out _ _ (.inr a.out.bs) ?_
  (try dsimp only);try simp only[Act.put,aD,aB,aC,aA,aE,aF]
  refine BW (rs:=[7]) (by kernel_rfl) rfl (BS.cons rfl (by rfl) (fun K d=>?_) BS.nil)
  try go_simp
  refine d.out _ _ (.inr a.out.bs) ?_
  (try dsimp only);try simp only[Act.put,aD,aB,aC,aA,aE,aF]
  obtain⟨n0,n1,n2,n3,n4,nf⟩:=a.out.b2;refine BW (rs:=[8]) (by kernel_rfl) rfl (BS.cons rfl (by rfl) (fun K d=>?_) BS.nil)
  try go_simp
  refine d.out _ _ (.inl rfl) ?_
  (try dsimp only);try simp only[Act.put,aD,aB,aC,aA,aE,aF]
  refine Aal (by kernel_rfl) ?_ _;go_wp2;obtain⟨X,Y,Z,z3,z4,zf⟩:=((((a.out.b2.set0 (.int .i64 7)).set1 (.string ⟨c.tx.toArray⟩)).set2 (.float .f64 0)).set3 (.slice (some ⟨V.heap.size,0,none⟩) 2 2)).set4 (.complex .f64 (pl c.f).1 (pl c.f).2);exact bodyPost_ret (v:=.agg #[.int .i64 7,.string ⟨c.tx.toArray⟩,.float .f64 0,.slice (some ⟨V.heap.size,0,none⟩) 2 2,.complex .f64 (pl c.f).1 (pl c.f).2]) (by simp[results,results27,go_sem,X,Y,Z,z3,z4]<;>exact rfl) rfl (a.out.done (t:=.mk 7 c.tx 0 (pl c.f) [u,y]) a.out.k0 _ _ _ _ _ k)
 ·(try clear B C D E F G);(try clear H I J L M N);(try clear O P Q R S T);(try clear m30 m31 m32 m33 m34 m3f)
  refine a.out.region 8 (by kernel_rfl) (fun b=>?_);refine BT (i:=0) (v:=.pointer (some ⟨w2.heap.size,1,none⟩)) rfl (by kernel_rfl) (fun _ _ _ h=>h) (Or.inl ⟨by rfl,fun w l=>by go_simp⟩) b ?_
  (try dsimp only);try simp only[Act.put,aD,aB,aC,aA,aE,aF]
  refine BT (i:=1) (v:=.string ⟨c.tx.toArray⟩) rfl (by kernel_rfl) (fun _ _ _ h=>h) (Or.inl ⟨by rfl,fun w l=>by obtain⟨s0,s1,s2,s3,s4,-⟩:=l.b0;go_simp⟩) b ?_
  (try dsimp only);try simp only[Act.put,aD,aB,aC,aA,aE,aF]
  refine BT (i:=2) (v:=.complex .f64 (pl c.f).1 (pl c.f).2) rfl (by kernel_rfl) (fun _ _ _ h=>h) (Or.inl ⟨by rfl,fun w l=>by go_simp⟩) b ?_
  (try dsimp only);try simp only[Act.put,aD,aB,aC,aA,aE,aF]
  refine BT (i:=3) (v:=(.agg #[.int .i64 u.kd,.string ⟨u.nm.toArray⟩,.float .f64 u.x,.slice au u.ks.length cu,.complex .f64 u.z.1 u.z.2])) rfl (by kernel_rfl) (fun _ _ _ h=>h) (Or.inl ⟨by rfl,fun w l=>by obtain⟨s0,s1,s2,s3,s4,-⟩:=l.b1;go_simp⟩) b ?_
  (try dsimp only);try simp only[Act.put,aD,aB,aC,aA,aE,aF]
  refine BT (i:=4) (v:=.pointer (some ⟨q,0,none⟩)) rfl (by kernel_rfl) (fun _ _ _ h=>h) (Or.inl ⟨by rfl,fun w l=>by go_simp⟩) b ?_
  (try dsimp only);try simp only[Act.put,aD,aB,aC,aA,aE,aF]
  refine BW (rs:=[5]) (by kernel_rfl) rfl (BS.cons rfl (by rfl) (fun K d=>?_) BS.nil)
  try go_simp
  go_at_call 27
  refine(HE.out _ _ a.out.drew.z (CA k hh)).mono ?_;intro e V ha;rcases ha.part k hh with⟨f,er,rfl,m,hr⟩ | ⟨_,p8,v,rfl,⟨⟨y,kv,rfl,rfl,A⟩,U⟩,m,j⟩
  ·exact⟨rfl,BX hr (a.out.drew.o.trans m)⟩
  replace k:=j;clear j ha
  (try dsimp only[aG,aI,aJ] at k)
  obtain⟨ay,cy,rfl⟩:=A.slice;replace a:=aH (a.out.drew.read A U m);clear A U m b;unfold CJ;refine d.out _ _ (.inr a.out.bs) ?_
  (try dsimp only);try simp only[Act.put,aD,aB,aC,aA,aE,aF]
  refine BW (rs:=[6]) (by kernel_rfl) rfl (BS.cons rfl (by rfl) (fun K d=>?_) BS.nil)
  try go_simp
  replace a:=aH a.out.kid2;refine d.out _ _ (.inr a.out.bs) ?_
  (try dsimp only);try simp only[Act.put,aD,aB,aC,aA,aE,aF]
  refine BW (rs:=[7]) (by kernel_rfl) rfl (BS.cons rfl (by rfl) (fun K d=>?_) BS.nil)
  try go_simp
  refine d.out _ _ (.inr a.out.bs) ?_
  (try dsimp only);try simp only[Act.put,aD,aB,aC,aA,aE,aF]
  obtain⟨n0,n1,n2,n3,n4,nf⟩:=a.out.b2;refine BW (rs:=[8]) (by kernel_rfl) rfl (BS.cons rfl (by rfl) (fun K d=>?_) BS.nil)
  try go_simp
  refine d.out _ _ (.inl rfl) ?_
  (try dsimp only);try simp only[Act.put,aD,aB,aC,aA,aE,aF]
  refine Aal (by kernel_rfl) ?_ _;go_wp2;obtain⟨X,Y,Z,z3,z4,zf⟩:=((((a.out.b2.set0 (.int .i64 7)).set1 (.string ⟨c.tx.toArray⟩)).set2 (.float .f64 0)).set3 (.slice (some ⟨V.heap.size,0,none⟩) 2 2)).set4 (.complex .f64 (pl c.f).1 (pl c.f).2);exact bodyPost_ret (v:=.agg #[.int .i64 7,.string ⟨c.tx.toArray⟩,.float .f64 0,.slice (some ⟨V.heap.size,0,none⟩) 2 2,.complex .f64 (pl c.f).1 (pl c.f).2]) (by simp[results,results27,go_sem,X,Y,Z,z3,z4]<;>exact rfl) rfl (a.out.done (t:=.mk 7 c.tx 0 (pl c.f) [u,y]) a.out.k0 _ _ _ _ _ k)
 ·(try clear B C D E F G);(try clear H I J L M N);(try clear O P Q R S T);(try clear m30 m31 m32 m33 m34 m3f)
  refine a.out.region 8 (by kernel_rfl) (fun b=>?_);refine BT (i:=0) (v:=.pointer (some ⟨w2.heap.size,1,none⟩)) rfl (by kernel_rfl) (fun _ _ _ h=>h) (Or.inl ⟨by rfl,fun w l=>by go_simp⟩) b ?_
  (try dsimp only);try simp only[Act.put,aD,aB,aC,aA,aE,aF]
  refine BT (i:=1) (v:=.string ⟨c.tx.toArray⟩) rfl (by kernel_rfl) (fun _ _ _ h=>h) (Or.inl ⟨by rfl,fun w l=>by obtain⟨s0,s1,s2,s3,s4,-⟩:=l.b0;go_simp⟩) b ?_
  (try dsimp only);try simp only[Act.put,aD,aB,aC,aA,aE,aF]
  refine BT (i:=2) (v:=.complex .f64 (pl c.f).1 (pl c.f).2) rfl (by kernel_rfl) (fun _ _ _ h=>h) (Or.inl ⟨by rfl,fun w l=>by go_simp⟩) b ?_
  (try dsimp only);try simp only[Act.put,aD,aB,aC,aA,aE,aF]
  refine BT (i:=3) (v:=(.agg #[.int .i64 u.kd,.string ⟨u.nm.toArray⟩,.float .f64 u.x,.slice au u.ks.length cu,.complex .f64 u.z.1 u.z.2])) rfl (by kernel_rfl) (fun _ _ _ h=>h) (Or.inl ⟨by rfl,fun w l=>by obtain⟨s0,s1,s2,s3,s4,-⟩:=l.b1;go_simp⟩) b ?_
  (try dsimp only);try simp only[Act.put,aD,aB,aC,aA,aE,aF]
  refine BT (i:=4) (v:=.pointer (some ⟨q,0,none⟩)) rfl (by kernel_rfl) (fun _ _ _ h=>h) (Or.inl ⟨by rfl,fun w l=>by go_simp⟩) b ?_
  (try dsimp only);try simp only[Act.put,aD,aB,aC,aA,aE,aF]
  refine BW (rs:=[5]) (by kernel_rfl) rfl (BS.cons rfl (by rfl) (fun K d=>?_) BS.nil)
  try go_simp
  go_at_call 27
  refine(HE.out _ _ a.out.drew.z (CA k hh)).mono ?_;intro e V ha;rcases ha.part k hh with⟨f,er,rfl,m,hr⟩ | ⟨_,p8,v,rfl,⟨⟨y,kv,rfl,rfl,A⟩,U⟩,m,j⟩
  ·exact⟨rfl,BX hr (a.out.drew.o.trans m)⟩
  replace k:=j;clear j ha
  (try dsimp only[aG,aI,aJ] at k)
  obtain⟨ay,cy,rfl⟩:=A.slice;replace a:=aH (a.out.drew.read A U m);clear A U m b;unfold CJ;refine d.out _ _ (.inr a.out.bs) ?_
  (try dsimp only);try simp only[Act.put,aD,aB,aC,aA,aE,aF]
  refine BW (rs:=[6]) (by kernel_rfl) rfl (BS.cons rfl (by rfl) (fun K d=>?_) BS.nil)
  try go_simp
  replace a:=aH a.out.kid2;refine d.out _ _ (.inr a.out.bs) ?_
  (try dsimp only);try simp only[Act.put,aD,aB,aC,aA,aE,aF]
  refine BW (rs:=[7]) (by kernel_rfl) rfl (BS.cons rfl (by rfl) (fun K d=>?_) BS.nil)
  try go_simp
  refine d.out _ _ (.inr a.out.bs) ?_
  (try dsimp only);try simp only[Act.put,aD,aB,aC,aA,aE,aF]
  obtain⟨n0,n1,n2,n3,n4,nf⟩:=a.out.b2;refine BW (rs:=[8]) (by kernel_rfl) rfl (BS.cons rfl (by rfl) (fun K d=>?_) BS.nil)
  try go_simp
  refine d.out _ _ (.inl rfl) ?_
  (try dsimp only);try simp only[Act.put,aD,aB,aC,aA,aE,aF]
  refine Aal (by kernel_rfl) ?_ _;go_wp2;obtain⟨X,Y,Z,z3,z4,zf⟩:=((((a.out.b2.set0 (.int .i64 7)).set1 (.string ⟨c.tx.toArray⟩)).set2 (.float .f64 0)).set3 (.slice (some ⟨V.heap.size,0,none⟩) 2 2)).set4 (.complex .f64 (pl c.f).1 (pl c.f).2);exact bodyPost_ret (v:=.agg #[.int .i64 7,.string ⟨c.tx.toArray⟩,.float .f64 0,.slice (some ⟨V.heap.size,0,none⟩) 2 2,.complex .f64 (pl c.f).1 (pl c.f).2]) (by simp[results,results27,go_sem,X,Y,Z,z3,z4]<;>exact rfl) rfl (a.out.done (t:=.mk 7 c.tx 0 (pl c.f) [u,y]) a.out.k0 _ _ _ _ _ k)
 ·(try clear B C D E F G);(try clear H I J L M N);(try clear O P Q R S T);(try clear m30 m31 m32 m33 m34 m3f)
  refine a.out.region 8 (by kernel_rfl) (fun b=>?_);refine BT (i:=0) (v:=.pointer (some ⟨w2.heap.size,1,none⟩)) rfl (by kernel_rfl) (fun _ _ _ h=>h) (Or.inl ⟨by rfl,fun w l=>by go_simp⟩) b ?_
  (try dsimp only);try simp only[Act.put,aD,aB,aC,aA,aE,aF]
  refine BT (i:=1) (v:=.string ⟨c.tx.toArray⟩) rfl (by kernel_rfl) (fun _ _ _ h=>h) (Or.inl ⟨by rfl,fun w l=>by obtain⟨s0,s1,s2,s3,s4,-⟩:=l.b0;go_simp⟩) b ?_
  (try dsimp only);try simp only[Act.put,aD,aB,aC,aA,aE,aF]
  refine BT (i:=2) (v:=.complex .f64 (pl c.f).1 (pl c.f).2) rfl (by kernel_rfl) (fun _ _ _ h=>h) (Or.inl ⟨by rfl,fun w l=>by go_simp⟩) b ?_
  (try dsimp only);try simp only[Act.put,aD,aB,aC,aA,aE,aF]
  refine BT (i:=3) (v:=(.agg #[.int .i64 u.kd,.string ⟨u.nm.toArray⟩,.float .f64 u.x,.slice au u.ks.length cu,.complex .f64 u.z.1 u.z.2])) rfl (by kernel_rfl) (fun _ _ _ h=>h) (Or.inl ⟨by rfl,fun w l=>by obtain⟨s0,s1,s2,s3,s4,-⟩:=l.b1;go_simp⟩) b ?_
  (try dsimp only);try simp only[Act.put,aD,aB,aC,aA,aE,aF]
  refine BT (i:=4) (v:=.pointer (some ⟨q,0,none⟩)) rfl (by kernel_rfl) (fun _ _ _ h=>h) (Or.inl ⟨by rfl,fun w l=>by go_simp⟩) b ?_
  (try dsimp only);try simp only[Act.put,aD,aB,aC,aA,aE,aF]
  refine BW (rs:=[5]) (by kernel_rfl) rfl (BS.cons rfl (by rfl) (fun K d=>?_) BS.nil)
  try go_simp
  go_at_call 27
  refine(HE.out _ _ a.out.drew.z (CA k hh)).mono ?_;intro e V ha;rcases ha.part k hh with⟨f,er,rfl,m,hr⟩ | ⟨_,p8,v,rfl,⟨⟨y,kv,rfl,rfl,A⟩,U⟩,m,j⟩
  ·exact⟨rfl,BX hr (a.out.drew.o.trans m)⟩
  replace k:=j;clear j ha
  (try dsimp only[aG,aI,aJ] at k)
  obtain⟨ay,cy,rfl⟩:=A.slice;replace a:=aH (a.out.drew.read A U m);clear A U m b;unfold CJ;refine d.out _ _ (.inr a.out.bs) ?_
  (try dsimp only);try simp only[Act.put,aD,aB,aC,aA,aE,aF]
  refine BW (rs:=[6]) (by kernel_rfl) rfl (BS.cons rfl (by rfl) (fun K d=>?_) BS.nil)
  try go_simp
  replace a:=aH a.out.kid2;refine d.out _ _ (.inr a.out.bs) ?_
  (try dsimp only);try simp only[Act.put,aD,aB,aC,aA,aE,aF]
  refine BW (rs:=[7]) (by kernel_rfl) rfl (BS.cons rfl (by rfl) (fun K d=>?_) BS.nil)
  try go_simp
  refine d.out _ _ (.inr a.out.bs) ?_
  (try dsimp only);try simp only[Act.put,aD,aB,aC,aA,aE,aF]
  obtain⟨n0,n1,n2,n3,n4,nf⟩:=a.out.b2;refine BW (rs:=[8]) (by kernel_rfl) rfl (BS.cons rfl (by rfl) (fun K d=>?_) BS.nil)
  try go_simp
  refine d.out _ _ (.inl rfl) ?_
  (try dsimp only);try simp only[Act.put,aD,aB,aC,aA,aE,aF]
  refine Aal (by kernel_rfl) ?_ _;go_wp2;obtain⟨X,Y,Z,z3,z4,zf⟩:=((((a.out.b2.set0 (.int .i64 7)).set1 (.string ⟨c.tx.toArray⟩)).set2 (.float .f64 0)).set3 (.slice (some ⟨V.heap.size,0,none⟩) 2 2)).set4 (.complex .f64 (pl c.f).1 (pl c.f).2);exact bodyPost_ret (v:=.agg #[.int .i64 7,.string ⟨c.tx.toArray⟩,.float .f64 0,.slice (some ⟨V.heap.size,0,none⟩) 2 2,.complex .f64 (pl c.f).1 (pl c.f).2]) (by simp[results,results27,go_sem,X,Y,Z,z3,z4]<;>exact rfl) rfl (a.out.done (t:=.mk 7 c.tx 0 (pl c.f) [u,y]) a.out.k0 _ _ _ _ _ k)
 ·(try clear B C D E F G);(try clear H I J L M N);(try clear O P Q R S T);(try clear m30 m31 m32 m33 m34 m3f)
  refine a.out.region 8 (by kernel_rfl) (fun b=>?_);refine BT (i:=0) (v:=.pointer (some ⟨w2.heap.size,1,none⟩)) rfl (by kernel_rfl) (fun _ _ _ h=>h) (Or.inl ⟨by rfl,fun w l=>by go_simp⟩) b ?_
  (try dsimp only);try simp only[Act.put,aD,aB,aC,aA,aE,aF]
  refine BT (i:=1) (v:=.string ⟨c.tx.toArray⟩) rfl (by kernel_rfl) (fun _ _ _ h=>h) (Or.inl ⟨by rfl,fun w l=>by obtain⟨s0,s1,s2,s3,s4,-⟩:=l.b0;go_simp⟩) b ?_
  (try dsimp only);try simp only[Act.put,aD,aB,aC,aA,aE,aF]
  refine BT (i:=2) (v:=.complex .f64 (pl c.f).1 (pl c.f).2) rfl (by kernel_rfl) (fun _ _ _ h=>h) (Or.inl ⟨by rfl,fun w l=>by go_simp⟩) b ?_
  (try dsimp only);try simp only[Act.put,aD,aB,aC,aA,aE,aF]
  refine BT (i:=3) (v:=(.agg #[.int .i64 u.kd,.string ⟨u.nm.toArray⟩,.float .f64 u.x,.slice au u.ks.length cu,.complex .f64 u.z.1 u.z.2])) rfl (by kernel_rfl) (fun _ _ _ h=>h) (Or.inl ⟨by rfl,fun w l=>by obtain⟨s0,s1,s2,s3,s4,-⟩:=l.b1;go_simp⟩) b ?_
  (try dsimp only);try simp only[Act.put,aD,aB,aC,aA,aE,aF]
  refine BT (i:=4) (v:=.pointer (some ⟨q,0,none⟩)) rfl (by kernel_rfl) (fun _ _ _ h=>h) (Or.inl ⟨by rfl,fun w l=>by go_simp⟩) b ?_
  (try dsimp only);try simp only[Act.put,aD,aB,aC,aA,aE,aF]
  refine BW (rs:=[5]) (by kernel_rfl) rfl (BS.cons rfl (by rfl) (fun K d=>?_) BS.nil)
  try go_simp
  go_at_call 27
  refine(HE.out _ _ a.out.drew.z (CA k hh)).mono ?_;intro e V ha;rcases ha.part k hh with⟨f,er,rfl,m,hr⟩ | ⟨_,p8,v,rfl,⟨⟨y,kv,rfl,rfl,A⟩,U⟩,m,j⟩
  ·exact⟨rfl,BX hr (a.out.drew.o.trans m)⟩
  replace k:=j;clear j ha
  (try dsimp only[aG,aI,aJ] at k)
  obtain⟨ay,cy,rfl⟩:=A.slice;replace a:=aH (a.out.drew.read A U m);clear A U m b;unfold CJ;refine d.out _ _ (.inr a.out.bs) ?_
  (try dsimp only);try simp only[Act.put,aD,aB,aC,aA,aE,aF]
  refine BW (rs:=[6]) (by kernel_rfl) rfl (BS.cons rfl (by rfl) (fun K d=>?_) BS.nil)
  try go_simp
  replace a:=aH a.out.kid2;refine d.out _ _ (.inr a.out.bs) ?_
  (try dsimp only);try simp only[Act.put,aD,aB,aC,aA,aE,aF]
  refine BW (rs:=[7]) (by kernel_rfl) rfl (BS.cons rfl (by rfl) (fun K d=>?_) BS.nil)
  try go_simp
  refine d.out _ _ (.inr a.out.bs) ?_
  (try dsimp only);try simp only[Act.put,aD,aB,aC,aA,aE,aF]
  obtain⟨n0,n1,n2,n3,n4,nf⟩:=a.out.b2;refine BW (rs:=[8]) (by kernel_rfl) rfl (BS.cons rfl (by rfl) (fun K d=>?_) BS.nil)
  try go_simp
  refine d.out _ _ (.inl rfl) ?_
  (try dsimp only);try simp only[Act.put,aD,aB,aC,aA,aE,aF]
  refine Aal (by kernel_rfl) ?_ _;go_wp2;obtain⟨X,Y,Z,z3,z4,zf⟩:=((((a.out.b2.set0 (.int .i64 7)).set1 (.string ⟨c.tx.toArray⟩)).set2 (.float .f64 0)).set3 (.slice (some ⟨V.heap.size,0,none⟩) 2 2)).set4 (.complex .f64 (pl c.f).1 (pl c.f).2);exact bodyPost_ret (v:=.agg #[.int .i64 7,.string ⟨c.tx.toArray⟩,.float .f64 0,.slice (some ⟨V.heap.size,0,none⟩) 2 2,.complex .f64 (pl c.f).1 (pl c.f).2]) (by simp[results,results27,go_sem,X,Y,Z,z3,z4]<;>exact rfl) rfl (a.out.done (t:=.mk 7 c.tx 0 (pl c.f) [u,y]) a.out.k0 _ _ _ _ _ k)
 ·(try clear B C D E F G);(try clear H I J L M N);(try clear O P Q R S T);(try clear m30 m31 m32 m33 m34 m3f)
  refine a.out.region 8 (by kernel_rfl) (fun b=>?_);refine BT (i:=0) (v:=.pointer (some ⟨w2.heap.size,1,none⟩)) rfl (by kernel_rfl) (fun _ _ _ h=>h) (Or.inl ⟨by rfl,fun w l=>by go_simp⟩) b ?_
  (try dsimp only);try simp only[Act.put,aD,aB,aC,aA,aE,aF]
  refine BT (i:=1) (v:=.string ⟨c.tx.toArray⟩) rfl (by kernel_rfl) (fun _ _ _ h=>h) (Or.inl ⟨by rfl,fun w l=>by obtain⟨s0,s1,s2,s3,s4,-⟩:=l.b0;go_simp⟩) b ?_
  (try dsimp only);try simp only[Act.put,aD,aB,aC,aA,aE,aF]
  refine BT (i:=2) (v:=.complex .f64 (pl c.f).1 (pl c.f).2) rfl (by kernel_rfl) (fun _ _ _ h=>h) (Or.inl ⟨by rfl,fun w l=>by go_simp⟩) b ?_
  (try dsimp only);try simp only[Act.put,aD,aB,aC,aA,aE,aF]
  refine BT (i:=3) (v:=(.agg #[.int .i64 u.kd,.string ⟨u.nm.toArray⟩,.float .f64 u.x,.slice au u.ks.length cu,.complex .f64 u.z.1 u.z.2])) rfl (by kernel_rfl) (fun _ _ _ h=>h) (Or.inl ⟨by rfl,fun w l=>by obtain⟨s0,s1,s2,s3,s4,-⟩:=l.b1;go_simp⟩) b ?_
  (try dsimp only);try simp only[Act.put,aD,aB,aC,aA,aE,aF]
  refine BT (i:=4) (v:=.pointer (some ⟨q,0,none⟩)) rfl (by kernel_rfl) (fun _ _ _ h=>h) (Or.inl ⟨by rfl,fun w l=>by go_simp⟩) b ?_
  (try dsimp only);try simp only[Act.put,aD,aB,aC,aA,aE,aF]
  refine BW (rs:=[5]) (by kernel_rfl) rfl (BS.cons rfl (by rfl) (fun K d=>?_) BS.nil)
  try go_simp
  go_at_call 27
  refine(HE.out _ _ a.out.drew.z (CA k hh)).mono ?_;intro e V ha;rcases ha.part k hh with⟨f,er,rfl,m,hr⟩ | ⟨_,p8,v,rfl,⟨⟨y,kv,rfl,rfl,A⟩,U⟩,m,j⟩
  ·exact⟨rfl,BX hr (a.out.drew.o.trans m)⟩
  replace k:=j;clear j ha
  (try dsimp only[aG,aI,aJ] at k)
  obtain⟨ay,cy,rfl⟩:=A.slice;replace a:=aH (a.out.drew.read A U m);clear A U m b;unfold CJ;refine d.out _ _ (.inr a.out.bs) ?_
  (try dsimp only);try simp only[Act.put,aD,aB,aC,aA,aE,aF]
  refine BW (rs:=[6]) (by kernel_rfl) rfl (BS.cons rfl (by rfl) (fun K d=>?_) BS.nil)
  try go_simp
  replace a:=aH a.out.kid2;refine d.out _ _ (.inr a.out.bs) ?_
  (try dsimp only);try simp only[Act.put,aD,aB,aC,aA,aE,aF]
  refine BW (rs:=[7]) (by kernel_rfl) rfl (BS.cons rfl (by rfl) (fun K d=>?_) BS.nil)
  try go_simp
  refine d.out _ _ (.inr a.out.bs) ?_
  (try dsimp only);try simp only[Act.put,aD,aB,aC,aA,aE,aF]
  obtain⟨n0,n1,n2,n3,n4,nf⟩:=a.out.b2;refine BW (rs:=[8]) (by kernel_rfl) rfl (BS.cons rfl (by rfl) (fun K d=>?_) BS.nil)
  try go_simp
  refine d.out _ _ (.inl rfl) ?_
  (try dsimp only);try simp only[Act.put,aD,aB,aC,aA,aE,aF]
  refine Aal (by kernel_rfl) ?_ _;go_wp2;obtain⟨X,Y,Z,z3,z4,zf⟩:=((((a.out.b2.set0 (.int .i64 7)).set1 (.string ⟨c.tx.toArray⟩)).set2 (.float .f64 0)).set3 (.slice (some ⟨V.heap.size,0,none⟩) 2 2)).set4 (.complex .f64 (pl c.f).1 (pl c.f).2);exact bodyPost_ret (v:=.agg #[.int .i64 7,.string ⟨c.tx.toArray⟩,.float .f64 0,.slice (some ⟨V.heap.size,0,none⟩) 2 2,.complex .f64 (pl c.f).1 (pl c.f).2]) (by simp[results,results27,go_sem,X,Y,Z,z3,z4]<;>exact rfl) rfl (a.out.done (t:=.mk 7 c.tx 0 (pl c.f) [u,y]) a.out.k0 _ _ _ _ _ k)
 ·(try clear B C D E F G);(try clear H I J L M N);(try clear O P Q R S T);(try clear m30 m31 m32 m33 m34 m3f)
  refine a.out.region 8 (by kernel_rfl) (fun b=>?_);refine BT (i:=0) (v:=.pointer (some ⟨w2.heap.size,1,none⟩)) rfl (by kernel_rfl) (fun _ _ _ h=>h) (Or.inl ⟨by rfl,fun w l=>by go_simp⟩) b ?_
  (try dsimp only);try simp only[Act.put,aD,aB,aC,aA,aE,aF]
  refine BT (i:=1) (v:=.string ⟨c.tx.toArray⟩) rfl (by kernel_rfl) (fun _ _ _ h=>h) (Or.inl ⟨by rfl,fun w l=>by obtain⟨s0,s1,s2,s3,s4,-⟩:=l.b0;go_simp⟩) b ?_
  (try dsimp only);try simp only[Act.put,aD,aB,aC,aA,aE,aF]
  refine BT (i:=2) (v:=.complex .f64 (pl c.f).1 (pl c.f).2) rfl (by kernel_rfl) (fun _ _ _ h=>h) (Or.inl ⟨by rfl,fun w l=>by go_simp⟩) b ?_
  (try dsimp only);try simp only[Act.put,aD,aB,aC,aA,aE,aF]
  refine BT (i:=3) (v:=(.agg #[.int .i64 u.kd,.string ⟨u.nm.toArray⟩,.float .f64 u.x,.slice au u.ks.length cu,.complex .f64 u.z.1 u.z.2])) rfl (by kernel_rfl) (fun _ _ _ h=>h) (Or.inl ⟨by rfl,fun w l=>by obtain⟨s0,s1,s2,s3,s4,-⟩:=l.b1;go_simp⟩) b ?_
  (try dsimp only);try simp only[Act.put,aD,aB,aC,aA,aE,aF]
  refine BT (i:=4) (v:=.pointer (some ⟨q,0,none⟩)) rfl (by kernel_rfl) (fun _ _ _ h=>h) (Or.inl ⟨by rfl,fun w l=>by go_simp⟩) b ?_
  (try dsimp only);try simp only[Act.put,aD,aB,aC,aA,aE,aF]
  refine BW (rs:=[5]) (by kernel_rfl) rfl (BS.cons rfl (by rfl) (fun K d=>?_) BS.nil)
  try go_simp
  go_at_call 27
  refine(HE.out _ _ a.out.drew.z (CA k hh)).mono ?_;intro e V ha;rcases ha.part k hh with⟨f,er,rfl,m,hr⟩ | ⟨_,p8,v,rfl,⟨⟨y,kv,rfl,rfl,A⟩,U⟩,m,j⟩
  ·exact⟨rfl,BX hr (a.out.drew.o.trans m)⟩
  replace k:=j;clear j ha
  (try dsimp only[aG,aI,aJ] at k)
  obtain⟨ay,cy,rfl⟩:=A.slice;replace a:=aH (a.out.drew.read A U m);clear A U m b;unfold CJ;refine d.out _ _ (.inr a.out.bs) ?_
  (try dsimp only);try simp only[Act.put,aD,aB,aC,aA,aE,aF]
  refine BW (rs:=[6]) (by kernel_rfl) rfl (BS.cons rfl (by rfl) (fun K d=>?_) BS.nil)
  try go_simp
  replace a:=aH a.out.kid2;refine d.out _ _ (.inr a.out.bs) ?_
  (try dsimp only);try simp only[Act.put,aD,aB,aC,aA,aE,aF]
  refine BW (rs:=[7]) (by kernel_rfl) rfl (BS.cons rfl (by rfl) (fun K d=>?_) BS.nil)
  try go_simp
  refine d.out _ _ (.inr a.out.bs) ?_
  (try dsimp only);try simp only[Act.put,aD,aB,aC,aA,aE,aF]
  obtain⟨n0,n1,n2,n3,n4,nf⟩:=a.out.b2;refine BW (rs:=[8]) (by kernel_rfl) rfl (BS.cons rfl (by rfl) (fun K d=>?_) BS.nil)
  try go_simp
  refine d.out _ _ (.inl rfl) ?_
  (try dsimp only);try simp only[Act.put,aD,aB,aC,aA,aE,aF]
  refine Aal (by kernel_rfl) ?_ _;go_wp2;obtain⟨X,Y,Z,z3,z4,zf⟩:=((((a.out.b2.set0 (.int .i64 7)).set1 (.string ⟨c.tx.toArray⟩)).set2 (.float .f64 0)).set3 (.slice (some ⟨V.heap.size,0,none⟩) 2 2)).set4 (.complex .f64 (pl c.f).1 (pl c.f).2);exact bodyPost_ret (v:=.agg #[.int .i64 7,.string ⟨c.tx.toArray⟩,.float .f64 0,.slice (some ⟨V.heap.size,0,none⟩) 2 2,.complex .f64 (pl c.f).1 (pl c.f).2]) (by simp[results,results27,go_sem,X,Y,Z,z3,z4]<;>exact rfl) rfl (a.out.done (t:=.mk 7 c.tx 0 (pl c.f) [u,y]) a.out.k0 _ _ _ _ _ k)
 obtain⟨X,Y,Z,z3,z4,zf⟩:=((((a.out.b2.set0 (.int .i64 u.kd)).set1 (.string ⟨u.nm.toArray⟩)).set2 (.float .f64 u.x)).set3 (.slice au u.ks.length cu)).set4 (.complex .f64 u.z.1 u.z.2);exact bodyPost_ret (v:=CJ u (.slice au u.ks.length cu)) (by simp[CJ,results,results27,go_sem,X,Y,Z,z3,z4]<;>exact rfl) rfl (a.out.done a.out.k0 _ _ _ _ _ k)
end Go.Proofs.YtjolfpcpcaocmaaGreatDoor
