/- Ci -/
import Derived.Test.YtjolfpcpcaocmaaGreatDoorCh
set_option maxRecDepth 100000
set_option maxHeartbeats 4000000
open List renaming setIfInBounds_toArray->aA,getElem_cons_zero->aB,getElem_cons_succ->aC,getElem_toArray->aD,set_cons_zero->aE,set_cons_succ->aF,singleton_append->aG,cons_append->aI,nil_append->aJ
open Go.Lib renaming hid->aH
namespace Go.Proofs.YtjolfpcpcaocmaaGreatDoor
open Go.Proofs.Tryz
open Go.RowKit
theorem Aat (t:Tk) (p:Ps):(¬ (t.kd=9/\((t.tx=[62]/\p.outs≠p.deep)\/t.tx=[60]\/t.tx=[60,61]\/t.tx=[61,61]\/t.tx=[33,61]\/t.tx=[62,61]))/\(t.kd != 9)=true)\/(¬ (t.kd=9/\((t.tx=[62]/\p.outs≠p.deep)\/t.tx=[60]\/t.tx=[60,61]\/t.tx=[61,61]\/t.tx=[33,61]\/t.tx=[62,61]))/\(t.kd != 9)=false/\(t.tx==[62])=true/\(p.outs==p.deep)=true)\/((t.kd=9/\((t.tx=[62]/\p.outs≠p.deep)\/t.tx=[60]\/t.tx=[60,61]\/t.tx=[61,61]\/t.tx=[33,61]\/t.tx=[62,61]))/\(t.kd != 9)=false/\(t.tx==[62])=true/\(p.outs==p.deep)=false)\/((t.kd=9/\((t.tx=[62]/\p.outs≠p.deep)\/t.tx=[60]\/t.tx=[60,61]\/t.tx=[61,61]\/t.tx=[33,61]\/t.tx=[62,61]))/\(t.kd != 9)=false/\(t.tx==[62])=false/\(t.tx==[60])=true)\/((t.kd=9/\((t.tx=[62]/\p.outs≠p.deep)\/t.tx=[60]\/t.tx=[60,61]\/t.tx=[61,61]\/t.tx=[33,61]\/t.tx=[62,61]))/\(t.kd != 9)=false/\(t.tx==[62])=false/\(t.tx==[60])=false/\(t.tx==[60,61])=true)\/((t.kd=9/\((t.tx=[62]/\p.outs≠p.deep)\/t.tx=[60]\/t.tx=[60,61]\/t.tx=[61,61]\/t.tx=[33,61]\/t.tx=[62,61]))/\(t.kd != 9)=false/\(t.tx==[62])=false/\(t.tx==[60])=false/\(t.tx==[60,61])=false/\(t.tx==[61,61])=true)\/((t.kd=9/\((t.tx=[62]/\p.outs≠p.deep)\/t.tx=[60]\/t.tx=[60,61]\/t.tx=[61,61]\/t.tx=[33,61]\/t.tx=[62,61]))/\(t.kd != 9)=false/\(t.tx==[62])=false/\(t.tx==[60])=false/\(t.tx==[60,61])=false/\(t.tx==[61,61])=false/\(t.tx==[33,61])=true)\/((t.kd=9/\((t.tx=[62]/\p.outs≠p.deep)\/t.tx=[60]\/t.tx=[60,61]\/t.tx=[61,61]\/t.tx=[33,61]\/t.tx=[62,61]))/\(t.kd != 9)=false/\(t.tx==[62])=false/\(t.tx==[60])=false/\(t.tx==[60,61])=false/\(t.tx==[61,61])=false/\(t.tx==[33,61])=false/\(t.tx==[62,61])=true)\/(¬ (t.kd=9/\((t.tx=[62]/\p.outs≠p.deep)\/t.tx=[60]\/t.tx=[60,61]\/t.tx=[61,61]\/t.tx=[33,61]\/t.tx=[62,61]))/\(t.kd != 9)=false/\(t.tx==[62])=false/\(t.tx==[60])=false/\(t.tx==[60,61])=false/\(t.tx==[61,61])=false/\(t.tx==[33,61])=false/\(t.tx==[62,61])=false):=by
 rcases Xt t.kd 9 with⟨i,-,g⟩ | ⟨i,-,g⟩
 rotate_left
 ·exact .inl ⟨fun e=>i e.1,g⟩
 rcases J0 t.tx [62] with⟨d,a⟩ | ⟨m,a⟩
 ·rcases Xt p.outs p.deep with⟨l,k,-⟩ | ⟨l,k,-⟩
  ·exact .inr (.inl ⟨fun e=>by simp[d,l] at e,g,a,k⟩)
  exact .inr (.inr (.inl ⟨⟨i,.inl ⟨d,l⟩⟩,g,a,k⟩))
 rcases J0 t.tx [60] with⟨d,b⟩ | ⟨n,b⟩
 ·exact .inr (.inr (.inr (.inl ⟨⟨i,by simp[d]⟩,g,a,b⟩)))
 rcases J0 t.tx [60,61] with⟨d,c⟩ | ⟨o,c⟩
 ·exact .inr (.inr (.inr (.inr (.inl ⟨⟨i,by simp[d]⟩,g,a,b,c⟩))))
 rcases J0 t.tx [61,61] with⟨d,f⟩ | ⟨q,f⟩
 ·exact .inr (.inr (.inr (.inr (.inr (.inl ⟨⟨i,by simp[d]⟩,g,a,b,c,f⟩)))))
 rcases J0 t.tx [33,61] with⟨d,h⟩ | ⟨r,h⟩
 ·exact .inr (.inr (.inr (.inr (.inr (.inr (.inl ⟨⟨i,by simp[d]⟩,g,a,b,c,f,h⟩))))))
 rcases J0 t.tx [62,61] with⟨d,j⟩ | ⟨s,j⟩
 ·exact .inr (.inr (.inr (.inr (.inr (.inr (.inr (.inl ⟨⟨i,by simp[d]⟩,g,a,b,c,f,h,j⟩)))))))
 exact .inr (.inr (.inr (.inr (.inr (.inr (.inr (.inr ⟨fun e=>by have e:=e.2;simp[m,n,o,q,r,s] at e,g,a,b,c,f,h,j⟩)))))))
set_option linter.unusedSimpArgs false in
theorem Xs {nx:Nat->Bool->Tk} {pl:Nat->Nat×Nat} {e0:List UInt8->Option Bool} {w0:World} {q:Nat} {s:ByteArray} (hN:F2 nx s w0) (hP:PlC pl s) (n:Nat)
  (hO:NC nx pl e0 w0 q s n .cat 105):NC nx pl e0 w0 q s (n+1) .cmp 90:=by
 intro p W h hh;obtain⟨r,er⟩:∃r,Dn nx pl e0 (n+1) .cmp p=r:=⟨_,rfl⟩;rw[er] at hh ⊢;rw[Dn] at er;have A:=aH er;have b:=aH (Fx.start1 h (.int .i64 0) (.string ⟨#[]⟩) (.float .f64 0) (.slice none 0 0) (.complex .f64 0 0) 34);have HN:=aH hN;have HP:=aH hP;have HO:=aH (fun p W h g=>hO p W h g);clear er h hN hP hO;obtain⟨C,D,E,F,G,H⟩:=b.out.b0
 go_in
 go_wp2_with (first | (go_at_call 105;(with_reducible refine(HO.out _ _ b.out.z (CA A hh)).mono ?_);intro e w1 ha;rcases ha.part A hh with⟨f,er,rfl,B,hr⟩ | ⟨_,p1,v,rfl,⟨⟨u,kv,rfl,rfl,Y⟩,Z⟩,B,l⟩;exact⟨rfl,BX hr (b.out.o.trans B)⟩;replace A:=l;clear l ha;(try dsimp only at A);obtain⟨au,cu,rfl⟩:=Y.slice;replace b:=aH ((b.out.read Y Z B).box (.int .i64 u.kd) (.string ⟨u.nm.toArray⟩) (.float .f64 u.x) (.slice au u.ks.length cu) (.complex .f64 u.z.1 u.z.2) 34);clear Y Z B;(try dsimp only[hd1,List.headD,aG,aI,aJ] at A);(try clear C D E F G H);(try clear I J L M N O);(try clear P Q R T U V);(try clear m30 m31 m32 m33 m34 m3f);obtain⟨C,D,E,F,G,H⟩:=b.out.b0;obtain⟨I,J,L,M,N,O⟩:=b.out.b1;unfold CJ) | (go_at_call 15;(with_reducible refine(DS HN.out b.out.z false).mono ?_);intro e w2 ha;rcases ha.part A hh with⟨f,er,rfl,B,hr⟩ | ⟨k,p2,v,rfl,⟨rfl,rfl,h0,et,g0,hb⟩,B,l⟩;exact⟨rfl,BX hr (b.out.o.trans B)⟩;replace A:=l;clear l ha;(try dsimp only at A);replace b:=aH ((b.out.quiet hb).box (.int .i64 k.kd) (.string ⟨k.tx.toArray⟩) (.float .f64 k.nm) (.int .i64 k.f) (.int .i64 k.t) 49);clear h0 et hb B;(try clear C D E F G H);(try clear I J L M N O);(try clear P Q R T U V);(try clear m30 m31 m32 m33 m34 m3f);obtain⟨C,D,E,F,G,H⟩:=b.out.b0;obtain⟨I,J,L,M,N,O⟩:=b.out.b1;obtain⟨P,Q,R,T,U,V⟩:=b.out.b2;unfold G1;rcases Aat k p2 with⟨hc,bn⟩ | ⟨hc,bn,a0,bo⟩ | ⟨hc,bn,a0,bo⟩ | ⟨hc,bn,a0,c0⟩ | ⟨hc,bn,a0,c0,d0⟩ | ⟨hc,bn,a0,c0,d0,f0⟩ | ⟨hc,bn,a0,c0,d0,f0,i0⟩ | ⟨hc,bn,a0,c0,d0,f0,i0,j0⟩ | ⟨hc,bn,a0,c0,d0,f0,i0,j0⟩<;>((first | replace A:=Ym hc A | replace A:=XY hc A);clear hc)) | (go_at_call 16;(with_reducible refine(C2 HP.out b.out.z k g0).mono ?_);rintro e w3 ⟨rfl,Z,B⟩;replace b:=aH (b.out.move Z B);clear Z B;(try clear C D E F G H);(try clear I J L M N O);(try clear P Q R T U V);(try clear m30 m31 m32 m33 m34 m3f);obtain⟨C,D,E,F,G,H⟩:=b.out.b0;obtain⟨I,J,L,M,N,O⟩:=b.out.b1;obtain⟨P,Q,R,T,U,V⟩:=b.out.b2))
 ·obtain⟨z0,z1,z2,z3,z4,zf⟩:=((((b.out.b2.set0 (.int .i64 u.kd)).set1 (.string ⟨u.nm.toArray⟩)).set2 (.float .f64 u.x)).set3 (.slice au u.ks.length cu)).set4 (.complex .f64 u.z.1 u.z.2)
  exact bodyPost_ret (v:=CJ u (.slice au u.ks.length cu)) (by simp[CJ,results,results90,go_sem,z0,z1,z2,z3,z4]<;>exact rfl) rfl (b.out.done b.out.k0 _ _ _ _ _ A)
 ·refine wp_region_held_drew (S:=fun o=>C4 o q (.string s) (.int .i64 p2.a) (.int .i64 p2.deep) (.int .i64 p2.outs)) (by kernel_rfl) b.out.drew.z.c (fun d=>?_)
  refine wpAnyH_take (i:=0) (v:=.pointer (some ⟨q,0,none⟩)) rfl (by kernel_rfl) (by kernel_rfl) (by kernel_rfl) (fun _ _ _ h=>h) (Or.inl ⟨by rfl,fun w j=>by obtain⟨q0,q1,q2,q3,-⟩:=j;go_simp⟩) d ?_
  (try dsimp only);try simp only[Act.put,aD,aB,aC,aA,aE,aF]
  refine wpAnyH_take (i:=1) (v:=.pointer (some ⟨q,0,none⟩)) rfl (by kernel_rfl) (by kernel_rfl) (by kernel_rfl) (fun _ _ _ h=>h) (Or.inl ⟨by rfl,fun w j=>by obtain⟨q0,q1,q2,q3,-⟩:=j;go_simp⟩) d ?_
  (try dsimp only);try simp only[Act.put,aD,aB,aC,aA,aE,aF]
  refine wpAnyH_take (i:=2) (v:=.pointer (some ⟨q,3,none⟩)) rfl (by kernel_rfl) (by kernel_rfl) (by kernel_rfl) (fun _ _ _ h=>h) (Or.inl ⟨by rfl,fun w j=>by obtain⟨q0,q1,q2,q3,-⟩:=j;go_simp⟩) d ?_
  (try dsimp only);try simp only[Act.put,aD,aB,aC,aA,aE,aF]
  refine wpAnyH_take (i:=3) (v:=.int .i64 p2.outs) rfl (by kernel_rfl) (by kernel_rfl) (by kernel_rfl) (fun _ _ _ h=>h) (Or.inl ⟨by rfl,fun w j=>by obtain⟨q0,q1,q2,q3,-⟩:=j;go_simp⟩) d ?_
  (try dsimp only);try simp only[Act.put,aD,aB,aC,aA,aE,aF]
  refine wpAnyH_take (i:=4) (v:=.pointer (some ⟨q,0,none⟩)) rfl (by kernel_rfl) (by kernel_rfl) (by kernel_rfl) (fun _ _ _ h=>h) (Or.inl ⟨by rfl,fun w j=>by obtain⟨q0,q1,q2,q3,-⟩:=j;go_simp⟩) d ?_
  (try dsimp only);try simp only[Act.put,aD,aB,aC,aA,aE,aF]
  refine wpAnyH_take (i:=5) (v:=.pointer (some ⟨q,0,none⟩)) rfl (by kernel_rfl) (by kernel_rfl) (by kernel_rfl) (fun _ _ _ h=>h) (Or.inl ⟨by rfl,fun w j=>by obtain⟨q0,q1,q2,q3,-⟩:=j;go_simp⟩) d ?_
  (try dsimp only);try simp only[Act.put,aD,aB,aC,aA,aE,aF]
  refine wpAnyH_take (i:=6) (v:=.pointer (some ⟨q,2,none⟩)) rfl (by kernel_rfl) (by kernel_rfl) (by kernel_rfl) (fun _ _ _ h=>h) (Or.inl ⟨by rfl,fun w j=>by obtain⟨q0,q1,q2,q3,-⟩:=j;go_simp⟩) d ?_
  (try dsimp only);try simp only[Act.put,aD,aB,aC,aA,aE,aF]
  refine wpAnyH_take (i:=7) (v:=.int .i64 p2.deep) rfl (by kernel_rfl) (by kernel_rfl) (by kernel_rfl) (fun _ _ _ h=>h) (Or.inl ⟨by rfl,fun w j=>by obtain⟨q0,q1,q2,q3,-⟩:=j;go_simp⟩) d ?_
  (try dsimp only);try simp only[Act.put,aD,aB,aC,aA,aE,aF]
  refine wpAnyH_take (i:=8) (v:=.bool true) rfl (by kernel_rfl) (by kernel_rfl) (by kernel_rfl) (fun _ _ _ h=>h) (Or.inl ⟨by rfl,fun w j=>by obtain⟨q0,q1,q2,q3,-⟩:=j;go_simp⟩) d ?_
  (try dsimp only);try simp only[Act.put,aD,aB,aC,aA,aE,aF]
  refine wpAnyH_done (by kernel_rfl) ?_ _;clear d bo;replace b:=aH b.out.drew
  revert b
  generalize World.drew _=X;intro b
  (try clear C D E F G H)
  (try clear I J L M N O)
  (try clear P Q R T U V)
  (try clear m30 m31 m32 m33 m34 m3f)
  obtain⟨C,D,E,F,G,H⟩:=b.out.b0;obtain⟨I,J,L,M,N,O⟩:=b.out.b1;obtain⟨P,Q,R,T,U,V⟩:=b.out.b2;go_wp2;obtain⟨z0,z1,z2,z3,z4,zf⟩:=((((b.out.b2.set0 (.int .i64 u.kd)).set1 (.string ⟨u.nm.toArray⟩)).set2 (.float .f64 u.x)).set3 (.slice au u.ks.length cu)).set4 (.complex .f64 u.z.1 u.z.2);exact bodyPost_ret (v:=CJ u (.slice au u.ks.length cu)) (by simp[CJ,results,results90,go_sem,z0,z1,z2,z3,z4]<;>exact rfl) rfl (b.out.done b.out.k0 _ _ _ _ _ A)
 ·refine wp_region_held_drew (S:=fun o=>C4 o q (.string s) (.int .i64 p2.a) (.int .i64 p2.deep) (.int .i64 p2.outs)) (by kernel_rfl) b.out.drew.z.c (fun d=>?_)
  refine wpAnyH_take (i:=0) (v:=.pointer (some ⟨q,0,none⟩)) rfl (by kernel_rfl) (by kernel_rfl) (by kernel_rfl) (fun _ _ _ h=>h) (Or.inl ⟨by rfl,fun w j=>by obtain⟨q0,q1,q2,q3,-⟩:=j;go_simp⟩) d ?_
  (try dsimp only);try simp only[Act.put,aD,aB,aC,aA,aE,aF]
  refine wpAnyH_take (i:=1) (v:=.pointer (some ⟨q,0,none⟩)) rfl (by kernel_rfl) (by kernel_rfl) (by kernel_rfl) (fun _ _ _ h=>h) (Or.inl ⟨by rfl,fun w j=>by obtain⟨q0,q1,q2,q3,-⟩:=j;go_simp⟩) d ?_
  (try dsimp only);try simp only[Act.put,aD,aB,aC,aA,aE,aF]
  refine wpAnyH_take (i:=2) (v:=.pointer (some ⟨q,3,none⟩)) rfl (by kernel_rfl) (by kernel_rfl) (by kernel_rfl) (fun _ _ _ h=>h) (Or.inl ⟨by rfl,fun w j=>by obtain⟨q0,q1,q2,q3,-⟩:=j;go_simp⟩) d ?_
  (try dsimp only);try simp only[Act.put,aD,aB,aC,aA,aE,aF]
  refine wpAnyH_take (i:=3) (v:=.int .i64 p2.outs) rfl (by kernel_rfl) (by kernel_rfl) (by kernel_rfl) (fun _ _ _ h=>h) (Or.inl ⟨by rfl,fun w j=>by obtain⟨q0,q1,q2,q3,-⟩:=j;go_simp⟩) d ?_
  (try dsimp only);try simp only[Act.put,aD,aB,aC,aA,aE,aF]
  refine wpAnyH_take (i:=4) (v:=.pointer (some ⟨q,0,none⟩)) rfl (by kernel_rfl) (by kernel_rfl) (by kernel_rfl) (fun _ _ _ h=>h) (Or.inl ⟨by rfl,fun w j=>by obtain⟨q0,q1,q2,q3,-⟩:=j;go_simp⟩) d ?_
  (try dsimp only);try simp only[Act.put,aD,aB,aC,aA,aE,aF]
  refine wpAnyH_take (i:=5) (v:=.pointer (some ⟨q,0,none⟩)) rfl (by kernel_rfl) (by kernel_rfl) (by kernel_rfl) (fun _ _ _ h=>h) (Or.inl ⟨by rfl,fun w j=>by obtain⟨q0,q1,q2,q3,-⟩:=j;go_simp⟩) d ?_
  (try dsimp only);try simp only[Act.put,aD,aB,aC,aA,aE,aF]
  refine wpAnyH_take (i:=6) (v:=.pointer (some ⟨q,2,none⟩)) rfl (by kernel_rfl) (by kernel_rfl) (by kernel_rfl) (fun _ _ _ h=>h) (Or.inl ⟨by rfl,fun w j=>by obtain⟨q0,q1,q2,q3,-⟩:=j;go_simp⟩) d ?_
  (try dsimp only);try simp only[Act.put,aD,aB,aC,aA,aE,aF]
  refine wpAnyH_take (i:=7) (v:=.int .i64 p2.deep) rfl (by kernel_rfl) (by kernel_rfl) (by kernel_rfl) (fun _ _ _ h=>h) (Or.inl ⟨by rfl,fun w j=>by obtain⟨q0,q1,q2,q3,-⟩:=j;go_simp⟩) d ?_
  (try dsimp only);try simp only[Act.put,aD,aB,aC,aA,aE,aF]
  refine wpAnyH_take (i:=8) (v:=.bool false) rfl (by kernel_rfl) (by kernel_rfl) (by kernel_rfl) (fun _ _ _ h=>h) (Or.inl ⟨by rfl,fun w j=>by obtain⟨q0,q1,q2,q3,-⟩:=j;go_simp⟩) d ?_
  (try dsimp only);try simp only[Act.put,aD,aB,aC,aA,aE,aF]
  refine wpAnyH_done (by kernel_rfl) ?_ _;clear d bo;replace b:=aH b.out.drew
  revert b
  generalize World.drew _=X;intro b
  (try clear C D E F G H)
  (try clear I J L M N O)
  (try clear P Q R T U V)
  (try clear m30 m31 m32 m33 m34 m3f)
  obtain⟨C,D,E,F,G,H⟩:=b.out.b0;obtain⟨I,J,L,M,N,O⟩:=b.out.b1;obtain⟨P,Q,R,T,U,V⟩:=b.out.b2
  go_wp2_with (first | (go_at_call 16;(with_reducible refine(C2 HP.out b.out.z k g0).mono ?_);rintro e w3 ⟨rfl,Z,B⟩;replace b:=aH (b.out.move Z B);clear Z B;(try clear C D E F G H);(try clear I J L M N O);(try clear P Q R T U V);(try clear m30 m31 m32 m33 m34 m3f);obtain⟨C,D,E,F,G,H⟩:=b.out.b0;obtain⟨I,J,L,M,N,O⟩:=b.out.b1;obtain⟨P,Q,R,T,U,V⟩:=b.out.b2))
  (try clear C D E F G H);(try clear I J L M N O);(try clear P Q R T U V);(try clear m30 m31 m32 m33 m34 m3f)
  refine b.out.region 8 (by kernel_rfl) (fun d=>?_);refine BT (i:=0) (v:=.pointer (some ⟨w2.heap.size,1,none⟩)) rfl (by kernel_rfl) (fun _ _ _ h=>h) (Or.inl ⟨by rfl,fun w j=>by go_simp⟩) d ?_
  (try dsimp only);try simp only[Act.put,aD,aB,aC,aA,aE,aF]
  refine BT (i:=1) (v:=.string ⟨k.tx.toArray⟩) rfl (by kernel_rfl) (fun _ _ _ h=>h) (Or.inl ⟨by rfl,fun w j=>by obtain⟨s0,s1,s2,s3,s4,-⟩:=j.b0;go_simp⟩) d ?_
  (try dsimp only);try simp only[Act.put,aD,aB,aC,aA,aE,aF]
  refine BT (i:=2) (v:=.complex .f64 (pl k.f).1 (pl k.f).2) rfl (by kernel_rfl) (fun _ _ _ h=>h) (Or.inl ⟨by rfl,fun w j=>by go_simp⟩) d ?_
  (try dsimp only);try simp only[Act.put,aD,aB,aC,aA,aE,aF]
  refine BT (i:=3) (v:=(.agg #[.int .i64 u.kd,.string ⟨u.nm.toArray⟩,.float .f64 u.x,.slice au u.ks.length cu,.complex .f64 u.z.1 u.z.2])) rfl (by kernel_rfl) (fun _ _ _ h=>h) (Or.inl ⟨by rfl,fun w j=>by obtain⟨s0,s1,s2,s3,s4,-⟩:=j.b1;go_simp⟩) d ?_
  (try dsimp only);try simp only[Act.put,aD,aB,aC,aA,aE,aF]
  refine BT (i:=4) (v:=.pointer (some ⟨q,0,none⟩)) rfl (by kernel_rfl) (fun _ _ _ h=>h) (Or.inl ⟨by rfl,fun w j=>by go_simp⟩) d ?_
  (try dsimp only);try simp only[Act.put,aD,aB,aC,aA,aE,aF]
  refine BW (rs:=[5]) (by kernel_rfl) rfl (BS.cons rfl (by rfl) (fun K m=>?_) BS.nil)
  try go_simp
  go_at_call 105
  refine(HO.out _ _ b.out.drew.z (CA A hh)).mono ?_;intro e w8 ha;rcases ha.part A hh with⟨f,er,rfl,B,hr⟩ | ⟨_,p8,v,rfl,⟨⟨y,kv,rfl,rfl,Y⟩,Z⟩,B,l⟩
  ·exact⟨rfl,BX hr (b.out.drew.o.trans B)⟩
  replace A:=l;clear l ha
  (try dsimp only[aG,aI,aJ] at A)
  obtain⟨ay,cy,rfl⟩:=Y.slice;replace b:=aH (b.out.drew.read Y Z B);clear Y Z B d;unfold CJ;refine m.out _ _ (.inr b.out.bs) ?_
  (try dsimp only);try simp only[Act.put,aD,aB,aC,aA,aE,aF]
  refine BW (rs:=[6]) (by kernel_rfl) rfl (BS.cons rfl (by rfl) (fun K m=>?_) BS.nil)
  try go_simp
  replace b:=aH b.out.kid2;refine m.out _ _ (.inr b.out.bs) ?_
  (try dsimp only);try simp only[Act.put,aD,aB,aC,aA,aE,aF]
  refine BW (rs:=[7]) (by kernel_rfl) rfl (BS.cons rfl (by rfl) (fun K m=>?_) BS.nil)
  try go_simp
  refine m.out _ _ (.inr b.out.bs) ?_
  (try dsimp only);try simp only[Act.put,aD,aB,aC,aA,aE,aF]
  obtain⟨n0,n1,n2,n3,n4,nf⟩:=b.out.b2;refine BW (rs:=[8]) (by kernel_rfl) rfl (BS.cons rfl (by rfl) (fun K m=>?_) BS.nil)
  try go_simp
  refine m.out _ _ (.inl rfl) ?_
  (try dsimp only);try simp only[Act.put,aD,aB,aC,aA,aE,aF]
  refine Aal (by kernel_rfl) ?_ _;go_wp2;obtain⟨z0,z1,z2,z3,z4,zf⟩:=((((b.out.b2.set0 (.int .i64 13)).set1 (.string ⟨k.tx.toArray⟩)).set2 (.float .f64 0)).set3 (.slice (some ⟨w8.heap.size,0,none⟩) 2 2)).set4 (.complex .f64 (pl k.f).1 (pl k.f).2);exact bodyPost_ret (v:=.agg #[.int .i64 13,.string ⟨k.tx.toArray⟩,.float .f64 0,.slice (some ⟨w8.heap.size,0,none⟩) 2 2,.complex .f64 (pl k.f).1 (pl k.f).2]) (by simp[results,results90,go_sem,z0,z1,z2,z3,z4]<;>exact rfl) rfl (b.out.done (t:=.mk 13 k.tx 0 (pl k.f) [u,y]) b.out.k0 _ _ _ _ _ A)
 ·(try clear C D E F G H);(try clear I J L M N O);(try clear P Q R T U V);(try clear m30 m31 m32 m33 m34 m3f)
  refine b.out.region 8 (by kernel_rfl) (fun d=>?_);refine BT (i:=0) (v:=.pointer (some ⟨w2.heap.size,1,none⟩)) rfl (by kernel_rfl) (fun _ _ _ h=>h) (Or.inl ⟨by rfl,fun w j=>by go_simp⟩) d ?_
  (try dsimp only);try simp only[Act.put,aD,aB,aC,aA,aE,aF]
  refine BT (i:=1) (v:=.string ⟨k.tx.toArray⟩) rfl (by kernel_rfl) (fun _ _ _ h=>h) (Or.inl ⟨by rfl,fun w j=>by obtain⟨s0,s1,s2,s3,s4,-⟩:=j.b0;go_simp⟩) d ?_
  (try dsimp only);try simp only[Act.put,aD,aB,aC,aA,aE,aF]
  refine BT (i:=2) (v:=.complex .f64 (pl k.f).1 (pl k.f).2) rfl (by kernel_rfl) (fun _ _ _ h=>h) (Or.inl ⟨by rfl,fun w j=>by go_simp⟩) d ?_
  (try dsimp only);try simp only[Act.put,aD,aB,aC,aA,aE,aF]
  refine BT (i:=3) (v:=(.agg #[.int .i64 u.kd,.string ⟨u.nm.toArray⟩,.float .f64 u.x,.slice au u.ks.length cu,.complex .f64 u.z.1 u.z.2])) rfl (by kernel_rfl) (fun _ _ _ h=>h) (Or.inl ⟨by rfl,fun w j=>by obtain⟨s0,s1,s2,s3,s4,-⟩:=j.b1;go_simp⟩) d ?_
  (try dsimp only);try simp only[Act.put,aD,aB,aC,aA,aE,aF]
  refine BT (i:=4) (v:=.pointer (some ⟨q,0,none⟩)) rfl (by kernel_rfl) (fun _ _ _ h=>h) (Or.inl ⟨by rfl,fun w j=>by go_simp⟩) d ?_
  (try dsimp only);try simp only[Act.put,aD,aB,aC,aA,aE,aF]
  refine BW (rs:=[5]) (by kernel_rfl) rfl (BS.cons rfl (by rfl) (fun K m=>?_) BS.nil)
  try go_simp
  go_at_call 105
  refine(HO.out _ _ b.out.drew.z (CA A hh)).mono ?_;intro e w8 ha;rcases ha.part A hh with⟨f,er,rfl,B,hr⟩ | ⟨_,p8,v,rfl,⟨⟨y,kv,rfl,rfl,Y⟩,Z⟩,B,l⟩
  ·exact⟨rfl,BX hr (b.out.drew.o.trans B)⟩
  replace A:=l;clear l ha
  (try dsimp only[aG,aI,aJ] at A)
  obtain⟨ay,cy,rfl⟩:=Y.slice;replace b:=aH (b.out.drew.read Y Z B);clear Y Z B d;unfold CJ;refine m.out _ _ (.inr b.out.bs) ?_
  (try dsimp only);try simp only[Act.put,aD,aB,aC,aA,aE,aF]
  refine BW (rs:=[6]) (by kernel_rfl) rfl (BS.cons rfl (by rfl) (fun K m=>?_) BS.nil)
  try go_simp
  replace b:=aH b.out.kid2;refine m.out _ _ (.inr b.out.bs) ?_
  (try dsimp only);try simp only[Act.put,aD,aB,aC,aA,aE,aF]
  refine BW (rs:=[7]) (by kernel_rfl) rfl (BS.cons rfl (by rfl) (fun K m=>?_) BS.nil)
  try go_simp
  refine m.out _ _ (.inr b.out.bs) ?_
  (try dsimp only);try simp only[Act.put,aD,aB,aC,aA,aE,aF]
  obtain⟨n0,n1,n2,n3,n4,nf⟩:=b.out.b2;refine BW (rs:=[8]) (by kernel_rfl) rfl (BS.cons rfl (by rfl) (fun K m=>?_) BS.nil)
  try go_simp
  refine m.out _ _ (.inl rfl) ?_
  (try dsimp only);try simp only[Act.put,aD,aB,aC,aA,aE,aF]
  refine Aal (by kernel_rfl) ?_ _;go_wp2;obtain⟨z0,z1,z2,z3,z4,zf⟩:=((((b.out.b2.set0 (.int .i64 13)).set1 (.string ⟨k.tx.toArray⟩)).set2 (.float .f64 0)).set3 (.slice (some ⟨w8.heap.size,0,none⟩) 2 2)).set4 (.complex .f64 (pl k.f).1 (pl k.f).2);exact bodyPost_ret (v:=.agg #[.int .i64 13,.string ⟨k.tx.toArray⟩,.float .f64 0,.slice (some ⟨w8.heap.size,0,none⟩) 2 2,.complex .f64 (pl k.f).1 (pl k.f).2]) (by simp[results,results90,go_sem,z0,z1,z2,z3,z4]<;>exact rfl) rfl (b.out.done (t:=.mk 13 k.tx 0 (pl k.f) [u,y]) b.out.k0 _ _ _ _ _ A)
 ·(try clear C D E F G H);(try clear I J L M N O);(try clear P Q R T U V);(try clear m30 m31 m32 m33 m34 m3f)
  refine b.out.region 8 (by kernel_rfl) (fun d=>?_);refine BT (i:=0) (v:=.pointer (some ⟨w2.heap.size,1,none⟩)) rfl (by kernel_rfl) (fun _ _ _ h=>h) (Or.inl ⟨by rfl,fun w j=>by go_simp⟩) d ?_
  (try dsimp only);try simp only[Act.put,aD,aB,aC,aA,aE,aF]
  refine BT (i:=1) (v:=.string ⟨k.tx.toArray⟩) rfl (by kernel_rfl) (fun _ _ _ h=>h) (Or.inl ⟨by rfl,fun w j=>by obtain⟨s0,s1,s2,s3,s4,-⟩:=j.b0;go_simp⟩) d ?_
  (try dsimp only);try simp only[Act.put,aD,aB,aC,aA,aE,aF]
  refine BT (i:=2) (v:=.complex .f64 (pl k.f).1 (pl k.f).2) rfl (by kernel_rfl) (fun _ _ _ h=>h) (Or.inl ⟨by rfl,fun w j=>by go_simp⟩) d ?_
  (try dsimp only);try simp only[Act.put,aD,aB,aC,aA,aE,aF]
  refine BT (i:=3) (v:=(.agg #[.int .i64 u.kd,.string ⟨u.nm.toArray⟩,.float .f64 u.x,.slice au u.ks.length cu,.complex .f64 u.z.1 u.z.2])) rfl (by kernel_rfl) (fun _ _ _ h=>h) (Or.inl ⟨by rfl,fun w j=>by obtain⟨s0,s1,s2,s3,s4,-⟩:=j.b1;go_simp⟩) d ?_
  (try dsimp only);try simp only[Act.put,aD,aB,aC,aA,aE,aF]
  refine BT (i:=4) (v:=.pointer (some ⟨q,0,none⟩)) rfl (by kernel_rfl) (fun _ _ _ h=>h) (Or.inl ⟨by rfl,fun w j=>by go_simp⟩) d ?_
  (try dsimp only);try simp only[Act.put,aD,aB,aC,aA,aE,aF]
  refine BW (rs:=[5]) (by kernel_rfl) rfl (BS.cons rfl (by rfl) (fun K m=>?_) BS.nil)
  try go_simp
  go_at_call 105
  refine(HO.out _ _ b.out.drew.z (CA A hh)).mono ?_;intro e w8 ha;rcases ha.part A hh with⟨f,er,rfl,B,hr⟩ | ⟨_,p8,v,rfl,⟨⟨y,kv,rfl,rfl,Y⟩,Z⟩,B,l⟩
  ·exact⟨rfl,BX hr (b.out.drew.o.trans B)⟩
  replace A:=l;clear l ha
  (try dsimp only[aG,aI,aJ] at A)
  obtain⟨ay,cy,rfl⟩:=Y.slice;replace b:=aH (b.out.drew.read Y Z B);clear Y Z B d;unfold CJ;refine m.out _ _ (.inr b.out.bs) ?_
  (try dsimp only);try simp only[Act.put,aD,aB,aC,aA,aE,aF]
  refine BW (rs:=[6]) (by kernel_rfl) rfl (BS.cons rfl (by rfl) (fun K m=>?_) BS.nil)
  try go_simp
  replace b:=aH b.out.kid2;refine m.out _ _ (.inr b.out.bs) ?_
  (try dsimp only);try simp only[Act.put,aD,aB,aC,aA,aE,aF]
  refine BW (rs:=[7]) (by kernel_rfl) rfl (BS.cons rfl (by rfl) (fun K m=>?_) BS.nil)
  try go_simp
  refine m.out _ _ (.inr b.out.bs) ?_
  (try dsimp only);try simp only[Act.put,aD,aB,aC,aA,aE,aF]
  obtain⟨n0,n1,n2,n3,n4,nf⟩:=b.out.b2;refine BW (rs:=[8]) (by kernel_rfl) rfl (BS.cons rfl (by rfl) (fun K m=>?_) BS.nil)
  try go_simp
  refine m.out _ _ (.inl rfl) ?_
  (try dsimp only);try simp only[Act.put,aD,aB,aC,aA,aE,aF]
  refine Aal (by kernel_rfl) ?_ _;go_wp2;obtain⟨z0,z1,z2,z3,z4,zf⟩:=((((b.out.b2.set0 (.int .i64 13)).set1 (.string ⟨k.tx.toArray⟩)).set2 (.float .f64 0)).set3 (.slice (some ⟨w8.heap.size,0,none⟩) 2 2)).set4 (.complex .f64 (pl k.f).1 (pl k.f).2);exact bodyPost_ret (v:=.agg #[.int .i64 13,.string ⟨k.tx.toArray⟩,.float .f64 0,.slice (some ⟨w8.heap.size,0,none⟩) 2 2,.complex .f64 (pl k.f).1 (pl k.f).2]) (by simp[results,results90,go_sem,z0,z1,z2,z3,z4]<;>exact rfl) rfl (b.out.done (t:=.mk 13 k.tx 0 (pl k.f) [u,y]) b.out.k0 _ _ _ _ _ A)
 ·(try clear C D E F G H);(try clear I J L M N O);(try clear P Q R T U V);(try clear m30 m31 m32 m33 m34 m3f)
  refine b.out.region 8 (by kernel_rfl) (fun d=>?_);refine BT (i:=0) (v:=.pointer (some ⟨w2.heap.size,1,none⟩)) rfl (by kernel_rfl) (fun _ _ _ h=>h) (Or.inl ⟨by rfl,fun w j=>by go_simp⟩) d ?_
  (try dsimp only);try simp only[Act.put,aD,aB,aC,aA,aE,aF]
  refine BT (i:=1) (v:=.string ⟨k.tx.toArray⟩) rfl (by kernel_rfl) (fun _ _ _ h=>h) (Or.inl ⟨by rfl,fun w j=>by obtain⟨s0,s1,s2,s3,s4,-⟩:=j.b0;go_simp⟩) d ?_
  (try dsimp only);try simp only[Act.put,aD,aB,aC,aA,aE,aF]
  refine BT (i:=2) (v:=.complex .f64 (pl k.f).1 (pl k.f).2) rfl (by kernel_rfl) (fun _ _ _ h=>h) (Or.inl ⟨by rfl,fun w j=>by go_simp⟩) d ?_
  (try dsimp only);try simp only[Act.put,aD,aB,aC,aA,aE,aF]
  refine BT (i:=3) (v:=(.agg #[.int .i64 u.kd,.string ⟨u.nm.toArray⟩,.float .f64 u.x,.slice au u.ks.length cu,.complex .f64 u.z.1 u.z.2])) rfl (by kernel_rfl) (fun _ _ _ h=>h) (Or.inl ⟨by rfl,fun w j=>by obtain⟨s0,s1,s2,s3,s4,-⟩:=j.b1;go_simp⟩) d ?_
  (try dsimp only);try simp only[Act.put,aD,aB,aC,aA,aE,aF]
  refine BT (i:=4) (v:=.pointer (some ⟨q,0,none⟩)) rfl (by kernel_rfl) (fun _ _ _ h=>h) (Or.inl ⟨by rfl,fun w j=>by go_simp⟩) d ?_
  (try dsimp only);try simp only[Act.put,aD,aB,aC,aA,aE,aF]
  refine BW (rs:=[5]) (by kernel_rfl) rfl (BS.cons rfl (by rfl) (fun K m=>?_) BS.nil)
  try go_simp
  go_at_call 105
  refine(HO.out _ _ b.out.drew.z (CA A hh)).mono ?_;intro e w8 ha;rcases ha.part A hh with⟨f,er,rfl,B,hr⟩ | ⟨_,p8,v,rfl,⟨⟨y,kv,rfl,rfl,Y⟩,Z⟩,B,l⟩
  ·exact⟨rfl,BX hr (b.out.drew.o.trans B)⟩
  replace A:=l;clear l ha
  (try dsimp only[aG,aI,aJ] at A)
  obtain⟨ay,cy,rfl⟩:=Y.slice;replace b:=aH (b.out.drew.read Y Z B);clear Y Z B d;unfold CJ;refine m.out _ _ (.inr b.out.bs) ?_
  (try dsimp only);try simp only[Act.put,aD,aB,aC,aA,aE,aF]
  refine BW (rs:=[6]) (by kernel_rfl) rfl (BS.cons rfl (by rfl) (fun K m=>?_) BS.nil)
  try go_simp
  replace b:=aH b.out.kid2;refine m.out _ _ (.inr b.out.bs) ?_
  (try dsimp only);try simp only[Act.put,aD,aB,aC,aA,aE,aF]
  refine BW (rs:=[7]) (by kernel_rfl) rfl (BS.cons rfl (by rfl) (fun K m=>?_) BS.nil)
  try go_simp
  refine m.out _ _ (.inr b.out.bs) ?_
  (try dsimp only);try simp only[Act.put,aD,aB,aC,aA,aE,aF]
  obtain⟨n0,n1,n2,n3,n4,nf⟩:=b.out.b2;refine BW (rs:=[8]) (by kernel_rfl) rfl (BS.cons rfl (by rfl) (fun K m=>?_) BS.nil)
  try go_simp
  refine m.out _ _ (.inl rfl) ?_
  (try dsimp only);try simp only[Act.put,aD,aB,aC,aA,aE,aF]
  refine Aal (by kernel_rfl) ?_ _;go_wp2;obtain⟨z0,z1,z2,z3,z4,zf⟩:=((((b.out.b2.set0 (.int .i64 13)).set1 (.string ⟨k.tx.toArray⟩)).set2 (.float .f64 0)).set3 (.slice (some ⟨w8.heap.size,0,none⟩) 2 2)).set4 (.complex .f64 (pl k.f).1 (pl k.f).2);exact bodyPost_ret (v:=.agg #[.int .i64 13,.string ⟨k.tx.toArray⟩,.float .f64 0,.slice (some ⟨w8.heap.size,0,none⟩) 2 2,.complex .f64 (pl k.f).1 (pl k.f).2]) (by simp[results,results90,go_sem,z0,z1,z2,z3,z4]<;>exact rfl) rfl (b.out.done (t:=.mk 13 k.tx 0 (pl k.f) [u,y]) b.out.k0 _ _ _ _ _ A)
 ·(try clear C D E F G H);(try clear I J L M N O);(try clear P Q R T U V);(try clear m30 m31 m32 m33 m34 m3f)
  refine b.out.region 8 (by kernel_rfl) (fun d=>?_);refine BT (i:=0) (v:=.pointer (some ⟨w2.heap.size,1,none⟩)) rfl (by kernel_rfl) (fun _ _ _ h=>h) (Or.inl ⟨by rfl,fun w j=>by go_simp⟩) d ?_
  (try dsimp only);try simp only[Act.put,aD,aB,aC,aA,aE,aF]
  refine BT (i:=1) (v:=.string ⟨k.tx.toArray⟩) rfl (by kernel_rfl) (fun _ _ _ h=>h) (Or.inl ⟨by rfl,fun w j=>by obtain⟨s0,s1,s2,s3,s4,-⟩:=j.b0;go_simp⟩) d ?_
  (try dsimp only);try simp only[Act.put,aD,aB,aC,aA,aE,aF]
  refine BT (i:=2) (v:=.complex .f64 (pl k.f).1 (pl k.f).2) rfl (by kernel_rfl) (fun _ _ _ h=>h) (Or.inl ⟨by rfl,fun w j=>by go_simp⟩) d ?_
  (try dsimp only);try simp only[Act.put,aD,aB,aC,aA,aE,aF]
  refine BT (i:=3) (v:=(.agg #[.int .i64 u.kd,.string ⟨u.nm.toArray⟩,.float .f64 u.x,.slice au u.ks.length cu,.complex .f64 u.z.1 u.z.2])) rfl (by kernel_rfl) (fun _ _ _ h=>h) (Or.inl ⟨by rfl,fun w j=>by obtain⟨s0,s1,s2,s3,s4,-⟩:=j.b1;go_simp⟩) d ?_
  (try dsimp only);try simp only[Act.put,aD,aB,aC,aA,aE,aF]
  refine BT (i:=4) (v:=.pointer (some ⟨q,0,none⟩)) rfl (by kernel_rfl) (fun _ _ _ h=>h) (Or.inl ⟨by rfl,fun w j=>by go_simp⟩) d ?_
  (try dsimp only);try simp only[Act.put,aD,aB,aC,aA,aE,aF]
  refine BW (rs:=[5]) (by kernel_rfl) rfl (BS.cons rfl (by rfl) (fun K m=>?_) BS.nil)
  try go_simp
  go_at_call 105
  refine(HO.out _ _ b.out.drew.z (CA A hh)).mono ?_;intro e w8 ha;rcases ha.part A hh with⟨f,er,rfl,B,hr⟩ | ⟨_,p8,v,rfl,⟨⟨y,kv,rfl,rfl,Y⟩,Z⟩,B,l⟩
  ·exact⟨rfl,BX hr (b.out.drew.o.trans B)⟩
  replace A:=l;clear l ha
  (try dsimp only[aG,aI,aJ] at A)
  obtain⟨ay,cy,rfl⟩:=Y.slice;replace b:=aH (b.out.drew.read Y Z B);clear Y Z B d;unfold CJ;refine m.out _ _ (.inr b.out.bs) ?_
  (try dsimp only);try simp only[Act.put,aD,aB,aC,aA,aE,aF]
  refine BW (rs:=[6]) (by kernel_rfl) rfl (BS.cons rfl (by rfl) (fun K m=>?_) BS.nil)
  try go_simp
  replace b:=aH b.out.kid2;refine m.out _ _ (.inr b.out.bs) ?_
  (try dsimp only);try simp only[Act.put,aD,aB,aC,aA,aE,aF]
  refine BW (rs:=[7]) (by kernel_rfl) rfl (BS.cons rfl (by rfl) (fun K m=>?_) BS.nil)
  try go_simp
  refine m.out _ _ (.inr b.out.bs) ?_
  (try dsimp only);try simp only[Act.put,aD,aB,aC,aA,aE,aF]
  obtain⟨n0,n1,n2,n3,n4,nf⟩:=b.out.b2;refine BW (rs:=[8]) (by kernel_rfl) rfl (BS.cons rfl (by rfl) (fun K m=>?_) BS.nil)
  try go_simp
  refine m.out _ _ (.inl rfl) ?_
  (try dsimp only);try simp only[Act.put,aD,aB,aC,aA,aE,aF]
  refine Aal (by kernel_rfl) ?_ _;go_wp2;obtain⟨z0,z1,z2,z3,z4,zf⟩:=((((b.out.b2.set0 (.int .i64 13)).set1 (.string ⟨k.tx.toArray⟩)).set2 (.float .f64 0)).set3 (.slice (some ⟨w8.heap.size,0,none⟩) 2 2)).set4 (.complex .f64 (pl k.f).1 (pl k.f).2);exact bodyPost_ret (v:=.agg #[.int .i64 13,.string ⟨k.tx.toArray⟩,.float .f64 0,.slice (some ⟨w8.heap.size,0,none⟩) 2 2,.complex .f64 (pl k.f).1 (pl k.f).2]) (by simp[results,results90,go_sem,z0,z1,z2,z3,z4]<;>exact rfl) rfl (b.out.done (t:=.mk 13 k.tx 0 (pl k.f) [u,y]) b.out.k0 _ _ _ _ _ A)
 ·(try clear C D E F G H);(try clear I J L M N O);(try clear P Q R T U V);(try clear m30 m31 m32 m33 m34 m3f)
  refine b.out.region 8 (by kernel_rfl) (fun d=>?_);refine BT (i:=0) (v:=.pointer (some ⟨w2.heap.size,1,none⟩)) rfl (by kernel_rfl) (fun _ _ _ h=>h) (Or.inl ⟨by rfl,fun w j=>by go_simp⟩) d ?_
  (try dsimp only);try simp only[Act.put,aD,aB,aC,aA,aE,aF]
  refine BT (i:=1) (v:=.string ⟨k.tx.toArray⟩) rfl (by kernel_rfl) (fun _ _ _ h=>h) (Or.inl ⟨by rfl,fun w j=>by obtain⟨s0,s1,s2,s3,s4,-⟩:=j.b0;go_simp⟩) d ?_
  (try dsimp only);try simp only[Act.put,aD,aB,aC,aA,aE,aF]
  refine BT (i:=2) (v:=.complex .f64 (pl k.f).1 (pl k.f).2) rfl (by kernel_rfl) (fun _ _ _ h=>h) (Or.inl ⟨by rfl,fun w j=>by go_simp⟩) d ?_
  (try dsimp only);try simp only[Act.put,aD,aB,aC,aA,aE,aF]
  refine BT (i:=3) (v:=(.agg #[.int .i64 u.kd,.string ⟨u.nm.toArray⟩,.float .f64 u.x,.slice au u.ks.length cu,.complex .f64 u.z.1 u.z.2])) rfl (by kernel_rfl) (fun _ _ _ h=>h) (Or.inl ⟨by rfl,fun w j=>by obtain⟨s0,s1,s2,s3,s4,-⟩:=j.b1;go_simp⟩) d ?_
  (try dsimp only);try simp only[Act.put,aD,aB,aC,aA,aE,aF]
  refine BT (i:=4) (v:=.pointer (some ⟨q,0,none⟩)) rfl (by kernel_rfl) (fun _ _ _ h=>h) (Or.inl ⟨by rfl,fun w j=>by go_simp⟩) d ?_
  (try dsimp only);try simp only[Act.put,aD,aB,aC,aA,aE,aF]
  refine BW (rs:=[5]) (by kernel_rfl) rfl (BS.cons rfl (by rfl) (fun K m=>?_) BS.nil)
  try go_simp
  go_at_call 105
  refine(HO.out _ _ b.out.drew.z (CA A hh)).mono ?_;intro e w8 ha;rcases ha.part A hh with⟨f,er,rfl,B,hr⟩ | ⟨_,p8,v,rfl,⟨⟨y,kv,rfl,rfl,Y⟩,Z⟩,B,l⟩
  ·exact⟨rfl,BX hr (b.out.drew.o.trans B)⟩
  replace A:=l;clear l ha
  (try dsimp only[aG,aI,aJ] at A)
  obtain⟨ay,cy,rfl⟩:=Y.slice;replace b:=aH (b.out.drew.read Y Z B);clear Y Z B d;unfold CJ;refine m.out _ _ (.inr b.out.bs) ?_
  (try dsimp only);try simp only[Act.put,aD,aB,aC,aA,aE,aF]
  refine BW (rs:=[6]) (by kernel_rfl) rfl (BS.cons rfl (by rfl) (fun K m=>?_) BS.nil)
  try go_simp
  replace b:=aH b.out.kid2;refine m.out _ _ (.inr b.out.bs) ?_
  (try dsimp only);try simp only[Act.put,aD,aB,aC,aA,aE,aF]
  refine BW (rs:=[7]) (by kernel_rfl) rfl (BS.cons rfl (by rfl) (fun K m=>?_) BS.nil)
  try go_simp
  refine m.out _ _ (.inr b.out.bs) ?_
  (try dsimp only);try simp only[Act.put,aD,aB,aC,aA,aE,aF]
  obtain⟨n0,n1,n2,n3,n4,nf⟩:=b.out.b2;refine BW (rs:=[8]) (by kernel_rfl) rfl (BS.cons rfl (by rfl) (fun K m=>?_) BS.nil)
  try go_simp
  refine m.out _ _ (.inl rfl) ?_
  (try dsimp only);try simp only[Act.put,aD,aB,aC,aA,aE,aF]
  refine Aal (by kernel_rfl) ?_ _;go_wp2;obtain⟨z0,z1,z2,z3,z4,zf⟩:=((((b.out.b2.set0 (.int .i64 13)).set1 (.string ⟨k.tx.toArray⟩)).set2 (.float .f64 0)).set3 (.slice (some ⟨w8.heap.size,0,none⟩) 2 2)).set4 (.complex .f64 (pl k.f).1 (pl k.f).2);exact bodyPost_ret (v:=.agg #[.int .i64 13,.string ⟨k.tx.toArray⟩,.float .f64 0,.slice (some ⟨w8.heap.size,0,none⟩) 2 2,.complex .f64 (pl k.f).1 (pl k.f).2]) (by simp[results,results90,go_sem,z0,z1,z2,z3,z4]<;>exact rfl) rfl (b.out.done (t:=.mk 13 k.tx 0 (pl k.f) [u,y]) b.out.k0 _ _ _ _ _ A)
 obtain⟨z0,z1,z2,z3,z4,zf⟩:=((((b.out.b2.set0 (.int .i64 u.kd)).set1 (.string ⟨u.nm.toArray⟩)).set2 (.float .f64 u.x)).set3 (.slice au u.ks.length cu)).set4 (.complex .f64 u.z.1 u.z.2);exact bodyPost_ret (v:=CJ u (.slice au u.ks.length cu)) (by simp[CJ,results,results90,go_sem,z0,z1,z2,z3,z4]<;>exact rfl) rfl (b.out.done b.out.k0 _ _ _ _ _ A)
end Go.Proofs.YtjolfpcpcaocmaaGreatDoor
