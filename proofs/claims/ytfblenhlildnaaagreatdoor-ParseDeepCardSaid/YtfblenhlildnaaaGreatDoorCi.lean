/- Ci -/
import Derived.Test.YtfblenhlildnaaaGreatDoorCf
set_option maxRecDepth 100000
set_option maxHeartbeats 4000000
open Go.Lib renaming hid->aA
open List renaming singleton_append->aB,cons_append->aC,nil_append->aD
namespace Go.Proofs.YtfblenhlildnaaaGreatDoor
open Go.Proofs.Tryz
open Go.RowKit
theorem Aat (t:Tk) (p:Ps):(¬ (t.kd=9/\((t.tx=[62]/\p.outs≠p.deep)\/t.tx=[60]\/t.tx=[60,61]\/t.tx=[61,61]\/t.tx=[33,61]\/t.tx=[62,61]))/\(t.kd != 9)=true)\/(¬ (t.kd=9/\((t.tx=[62]/\p.outs≠p.deep)\/t.tx=[60]\/t.tx=[60,61]\/t.tx=[61,61]\/t.tx=[33,61]\/t.tx=[62,61]))/\(t.kd != 9)=false/\(t.tx==[62])=true/\(p.outs==p.deep)=true)\/((t.kd=9/\((t.tx=[62]/\p.outs≠p.deep)\/t.tx=[60]\/t.tx=[60,61]\/t.tx=[61,61]\/t.tx=[33,61]\/t.tx=[62,61]))/\(t.kd != 9)=false/\(t.tx==[62])=true/\(p.outs==p.deep)=false)\/((t.kd=9/\((t.tx=[62]/\p.outs≠p.deep)\/t.tx=[60]\/t.tx=[60,61]\/t.tx=[61,61]\/t.tx=[33,61]\/t.tx=[62,61]))/\(t.kd != 9)=false/\(t.tx==[62])=false/\(t.tx==[60])=true)\/((t.kd=9/\((t.tx=[62]/\p.outs≠p.deep)\/t.tx=[60]\/t.tx=[60,61]\/t.tx=[61,61]\/t.tx=[33,61]\/t.tx=[62,61]))/\(t.kd != 9)=false/\(t.tx==[62])=false/\(t.tx==[60])=false/\(t.tx==[60,61])=true)\/((t.kd=9/\((t.tx=[62]/\p.outs≠p.deep)\/t.tx=[60]\/t.tx=[60,61]\/t.tx=[61,61]\/t.tx=[33,61]\/t.tx=[62,61]))/\(t.kd != 9)=false/\(t.tx==[62])=false/\(t.tx==[60])=false/\(t.tx==[60,61])=false/\(t.tx==[61,61])=true)\/((t.kd=9/\((t.tx=[62]/\p.outs≠p.deep)\/t.tx=[60]\/t.tx=[60,61]\/t.tx=[61,61]\/t.tx=[33,61]\/t.tx=[62,61]))/\(t.kd != 9)=false/\(t.tx==[62])=false/\(t.tx==[60])=false/\(t.tx==[60,61])=false/\(t.tx==[61,61])=false/\(t.tx==[33,61])=true)\/((t.kd=9/\((t.tx=[62]/\p.outs≠p.deep)\/t.tx=[60]\/t.tx=[60,61]\/t.tx=[61,61]\/t.tx=[33,61]\/t.tx=[62,61]))/\(t.kd != 9)=false/\(t.tx==[62])=false/\(t.tx==[60])=false/\(t.tx==[60,61])=false/\(t.tx==[61,61])=false/\(t.tx==[33,61])=false/\(t.tx==[62,61])=true)\/(¬ (t.kd=9/\((t.tx=[62]/\p.outs≠p.deep)\/t.tx=[60]\/t.tx=[60,61]\/t.tx=[61,61]\/t.tx=[33,61]\/t.tx=[62,61]))/\(t.kd != 9)=false/\(t.tx==[62])=false/\(t.tx==[60])=false/\(t.tx==[60,61])=false/\(t.tx==[61,61])=false/\(t.tx==[33,61])=false/\(t.tx==[62,61])=false):=by
 rcases Xt t.kd 9 with⟨i,-,g⟩ | ⟨i,-,g⟩
 rotate_left
 ·exact .inl ⟨fun e=>i e.1,g⟩
 rcases J0 t.tx [62] with⟨d,a⟩ | ⟨m,a⟩
 ·rcases Xt p.outs p.deep with⟨l,k,-⟩ | ⟨l,k,-⟩
  ·exact .inr (.inl ⟨fun e=>by simp[d,l] at e,g,a,k⟩)
  exact .inr (.inr (.inl ⟨⟨i,.inl ⟨d,l⟩⟩,g,a,k⟩))
 rcases J0 t.tx [60] with⟨d,b⟩ | ⟨n,b⟩
 ·exact .inr (.inr (.inr (.inl ⟨⟨i,by simp[d]⟩,g,a,b⟩)))
 rcases J0 t.tx [60,61] with⟨d,c⟩ | ⟨o,c⟩
 ·exact .inr (.inr (.inr (.inr (.inl ⟨⟨i,by simp[d]⟩,g,a,b,c⟩))))
 rcases J0 t.tx [61,61] with⟨d,f⟩ | ⟨q,f⟩
 ·exact .inr (.inr (.inr (.inr (.inr (.inl ⟨⟨i,by simp[d]⟩,g,a,b,c,f⟩)))))
 rcases J0 t.tx [33,61] with⟨d,h⟩ | ⟨r,h⟩
 ·exact .inr (.inr (.inr (.inr (.inr (.inr (.inl ⟨⟨i,by simp[d]⟩,g,a,b,c,f,h⟩))))))
 rcases J0 t.tx [62,61] with⟨d,j⟩ | ⟨s,j⟩
 ·exact .inr (.inr (.inr (.inr (.inr (.inr (.inr (.inl ⟨⟨i,by simp[d]⟩,g,a,b,c,f,h,j⟩)))))))
 exact .inr (.inr (.inr (.inr (.inr (.inr (.inr (.inr ⟨fun e=>by have e:=e.2;simp[m,n,o,q,r,s] at e,g,a,b,c,f,h,j⟩)))))))
set_option linter.unusedSimpArgs false in
theorem Xs {nx:Nat->Bool->Tk} {pl:Nat->Nat×Nat} {ere:List UInt8->Option Bool} {w0:World} {q:Nat} {s:ByteArray} (hN:F2 nx s w0) (hP:H6 pl s) (n:Nat)
  (hO:NC nx pl ere w0 q s n .cat 281):NC nx pl ere w0 q s (n+1) .cmp 275:=by
 intro p W h hh;obtain⟨r,er⟩:∃r,Dn nx pl ere (n+1) .cmp p=r:=⟨_,rfl⟩;rw[er] at hh ⊢;rw[Dn] at er;have L:=aA er;have b:=aA (Fx.start1 h (.int .i64 0) (.string ⟨#[]⟩) (.float .f64 0) (.slice none 0 0) (.complex .f64 0 0) 42);have HN:=aA hN;have HP:=aA hP;have HO:=aA (fun p W h g=>hO p W h g);clear er h hN hP hO;obtain⟨l,m,A,B,C,D⟩:=b.out.b0
 go_in
 go_wp2_with (first | (go_at_call 281;(with_reducible refine(HO.out _ _ b.out.z (CA L hh)).mono ?_);intro e w1 ha;rcases ha.part L hh with⟨f,er,rfl,T,hr⟩ | ⟨_,p1,v,rfl,⟨⟨u,kv,rfl,rfl,hk⟩,hz⟩,T,U⟩;exact⟨rfl,BX hr (b.out.o.trans T)⟩;replace L:=U;clear U ha;(try dsimp only at L);obtain⟨au,cu,rfl⟩:=hk.slice;replace b:=aA ((b.out.read hk hz T).box (.int .i64 u.kd) (.string ⟨u.nm.toArray⟩) (.float .f64 u.x) (.slice au u.ks.length cu) (.complex .f64 u.z.1 u.z.2) 42);clear hk hz T;(try dsimp only[hd1,List.headD,aB,aC,aD] at L);(try clear l m A B C D);(try clear E F G H I J);(try clear M N O P Q R);(try clear m30 m31 m32 m33 m34 m3f);obtain⟨l,m,A,B,C,D⟩:=b.out.b0;obtain⟨E,F,G,H,I,J⟩:=b.out.b1;unfold CJ) | (go_at_call 65;(with_reducible refine(DS HN.out b.out.z false).mono ?_);intro e w2 ha;rcases ha.part L hh with⟨f,er,rfl,T,hr⟩ | ⟨k,p2,v,rfl,⟨rfl,rfl,h0,et,f0,hb⟩,T,U⟩;exact⟨rfl,BX hr (b.out.o.trans T)⟩;replace L:=U;clear U ha;(try dsimp only at L);replace b:=aA ((b.out.quiet hb).box (.int .i64 k.kd) (.string ⟨k.tx.toArray⟩) (.float .f64 k.nm) (.int .i64 k.f) (.int .i64 k.t) 70);clear h0 et hb T;(try clear l m A B C D);(try clear E F G H I J);(try clear M N O P Q R);(try clear m30 m31 m32 m33 m34 m3f);obtain⟨l,m,A,B,C,D⟩:=b.out.b0;obtain⟨E,F,G,H,I,J⟩:=b.out.b1;obtain⟨M,N,O,P,Q,R⟩:=b.out.b2;unfold G1;rcases Aat k p2 with⟨hc,bn⟩ | ⟨hc,bn,a0,bo⟩ | ⟨hc,bn,a0,bo⟩ | ⟨hc,bn,a0,c0⟩ | ⟨hc,bn,a0,c0,d0⟩ | ⟨hc,bn,a0,c0,d0,e0⟩ | ⟨hc,bn,a0,c0,d0,e0,g0⟩ | ⟨hc,bn,a0,c0,d0,e0,g0,i0⟩ | ⟨hc,bn,a0,c0,d0,e0,g0,i0⟩<;>((first | replace L:=Ym hc L | replace L:=XY hc L);clear hc)) | (go_at_call 66;(with_reducible refine(C2 HP.out b.out.z k f0).mono ?_);rintro e w3 ⟨rfl,hz,T⟩;replace b:=aA (b.out.move hz T);clear hz T;(try clear l m A B C D);(try clear E F G H I J);(try clear M N O P Q R);(try clear m30 m31 m32 m33 m34 m3f);obtain⟨l,m,A,B,C,D⟩:=b.out.b0;obtain⟨E,F,G,H,I,J⟩:=b.out.b1;obtain⟨M,N,O,P,Q,R⟩:=b.out.b2))
 ·obtain⟨z0,z1,z2,z3,z4,zf⟩:=((((b.out.b2.set0 (.int .i64 u.kd)).set1 (.string ⟨u.nm.toArray⟩)).set2 (.float .f64 u.x)).set3 (.slice au u.ks.length cu)).set4 (.complex .f64 u.z.1 u.z.2)
  exact bodyPost_ret (v:=CJ u (.slice au u.ks.length cu)) (by simp[CJ,results,results275,go_sem,z0,z1,z2,z3,z4]<;>exact rfl) rfl (b.out.done b.out.k0 _ _ _ _ _ L)
 ·refine wp_region_held_drew (S:=fun o=>C4 o q (.string s) (.int .i64 p2.a) (.int .i64 p2.deep) (.int .i64 p2.outs)) (by kernel_rfl) b.out.drew.z.c (fun d=>?_)
  refine wpAnyH_take (i:=0) (v:=.pointer (some ⟨q,0,none⟩)) rfl (by kernel_rfl) (by kernel_rfl) (by kernel_rfl) (fun _ _ _ h=>h) (Or.inl ⟨by rfl,fun w j=>by obtain⟨V,q1,Y,Z,-⟩:=j;go_simp⟩) d ?_
  try simp only[Act.put,sP]
  refine wpAnyH_take (i:=1) (v:=.pointer (some ⟨q,0,none⟩)) rfl (by kernel_rfl) (by kernel_rfl) (by kernel_rfl) (fun _ _ _ h=>h) (Or.inl ⟨by rfl,fun w j=>by obtain⟨V,q1,Y,Z,-⟩:=j;go_simp⟩) d ?_
  try simp only[Act.put,sP]
  refine wpAnyH_take (i:=2) (v:=.pointer (some ⟨q,3,none⟩)) rfl (by kernel_rfl) (by kernel_rfl) (by kernel_rfl) (fun _ _ _ h=>h) (Or.inl ⟨by rfl,fun w j=>by obtain⟨V,q1,Y,Z,-⟩:=j;go_simp⟩) d ?_
  try simp only[Act.put,sP]
  refine wpAnyH_take (i:=3) (v:=.int .i64 p2.outs) rfl (by kernel_rfl) (by kernel_rfl) (by kernel_rfl) (fun _ _ _ h=>h) (Or.inl ⟨by rfl,fun w j=>by obtain⟨V,q1,Y,Z,-⟩:=j;go_simp⟩) d ?_
  try simp only[Act.put,sP]
  refine wpAnyH_take (i:=4) (v:=.pointer (some ⟨q,0,none⟩)) rfl (by kernel_rfl) (by kernel_rfl) (by kernel_rfl) (fun _ _ _ h=>h) (Or.inl ⟨by rfl,fun w j=>by obtain⟨V,q1,Y,Z,-⟩:=j;go_simp⟩) d ?_
  try simp only[Act.put,sP]
  refine wpAnyH_take (i:=5) (v:=.pointer (some ⟨q,0,none⟩)) rfl (by kernel_rfl) (by kernel_rfl) (by kernel_rfl) (fun _ _ _ h=>h) (Or.inl ⟨by rfl,fun w j=>by obtain⟨V,q1,Y,Z,-⟩:=j;go_simp⟩) d ?_
  try simp only[Act.put,sP]
  refine wpAnyH_take (i:=6) (v:=.pointer (some ⟨q,2,none⟩)) rfl (by kernel_rfl) (by kernel_rfl) (by kernel_rfl) (fun _ _ _ h=>h) (Or.inl ⟨by rfl,fun w j=>by obtain⟨V,q1,Y,Z,-⟩:=j;go_simp⟩) d ?_
  try simp only[Act.put,sP]
  refine wpAnyH_take (i:=7) (v:=.int .i64 p2.deep) rfl (by kernel_rfl) (by kernel_rfl) (by kernel_rfl) (fun _ _ _ h=>h) (Or.inl ⟨by rfl,fun w j=>by obtain⟨V,q1,Y,Z,-⟩:=j;go_simp⟩) d ?_
  try simp only[Act.put,sP]
  refine wpAnyH_take (i:=8) (v:=.bool true) rfl (by kernel_rfl) (by kernel_rfl) (by kernel_rfl) (fun _ _ _ h=>h) (Or.inl ⟨by rfl,fun w j=>by obtain⟨V,q1,Y,Z,-⟩:=j;go_simp⟩) d ?_
  try simp only[Act.put,sP]
  refine wpAnyH_done (by kernel_rfl) ?_ _;clear d bo;replace b:=aA b.out.drew
  revert b
  generalize World.drew _=X;intro b
  (try clear l m A B C D)
  (try clear E F G H I J)
  (try clear M N O P Q R)
  (try clear m30 m31 m32 m33 m34 m3f)
  obtain⟨l,m,A,B,C,D⟩:=b.out.b0;obtain⟨E,F,G,H,I,J⟩:=b.out.b1;obtain⟨M,N,O,P,Q,R⟩:=b.out.b2;go_wp2;obtain⟨z0,z1,z2,z3,z4,zf⟩:=((((b.out.b2.set0 (.int .i64 u.kd)).set1 (.string ⟨u.nm.toArray⟩)).set2 (.float .f64 u.x)).set3 (.slice au u.ks.length cu)).set4 (.complex .f64 u.z.1 u.z.2);exact bodyPost_ret (v:=CJ u (.slice au u.ks.length cu)) (by simp[CJ,results,results275,go_sem,z0,z1,z2,z3,z4]<;>exact rfl) rfl (b.out.done b.out.k0 _ _ _ _ _ L)
 ·refine wp_region_held_drew (S:=fun o=>C4 o q (.string s) (.int .i64 p2.a) (.int .i64 p2.deep) (.int .i64 p2.outs)) (by kernel_rfl) b.out.drew.z.c (fun d=>?_)
  refine wpAnyH_take (i:=0) (v:=.pointer (some ⟨q,0,none⟩)) rfl (by kernel_rfl) (by kernel_rfl) (by kernel_rfl) (fun _ _ _ h=>h) (Or.inl ⟨by rfl,fun w j=>by obtain⟨V,q1,Y,Z,-⟩:=j;go_simp⟩) d ?_
  try simp only[Act.put,sP]
  refine wpAnyH_take (i:=1) (v:=.pointer (some ⟨q,0,none⟩)) rfl (by kernel_rfl) (by kernel_rfl) (by kernel_rfl) (fun _ _ _ h=>h) (Or.inl ⟨by rfl,fun w j=>by obtain⟨V,q1,Y,Z,-⟩:=j;go_simp⟩) d ?_
  try simp only[Act.put,sP]
  refine wpAnyH_take (i:=2) (v:=.pointer (some ⟨q,3,none⟩)) rfl (by kernel_rfl) (by kernel_rfl) (by kernel_rfl) (fun _ _ _ h=>h) (Or.inl ⟨by rfl,fun w j=>by obtain⟨V,q1,Y,Z,-⟩:=j;go_simp⟩) d ?_
  try simp only[Act.put,sP]
  refine wpAnyH_take (i:=3) (v:=.int .i64 p2.outs) rfl (by kernel_rfl) (by kernel_rfl) (by kernel_rfl) (fun _ _ _ h=>h) (Or.inl ⟨by rfl,fun w j=>by obtain⟨V,q1,Y,Z,-⟩:=j;go_simp⟩) d ?_
  try simp only[Act.put,sP]
  refine wpAnyH_take (i:=4) (v:=.pointer (some ⟨q,0,none⟩)) rfl (by kernel_rfl) (by kernel_rfl) (by kernel_rfl) (fun _ _ _ h=>h) (Or.inl ⟨by rfl,fun w j=>by obtain⟨V,q1,Y,Z,-⟩:=j;go_simp⟩) d ?_
  try simp only[Act.put,sP]
  refine wpAnyH_take (i:=5) (v:=.pointer (some ⟨q,0,none⟩)) rfl (by kernel_rfl) (by kernel_rfl) (by kernel_rfl) (fun _ _ _ h=>h) (Or.inl ⟨by rfl,fun w j=>by obtain⟨V,q1,Y,Z,-⟩:=j;go_simp⟩) d ?_
  try simp only[Act.put,sP]
  refine wpAnyH_take (i:=6) (v:=.pointer (some ⟨q,2,none⟩)) rfl (by kernel_rfl) (by kernel_rfl) (by kernel_rfl) (fun _ _ _ h=>h) (Or.inl ⟨by rfl,fun w j=>by obtain⟨V,q1,Y,Z,-⟩:=j;go_simp⟩) d ?_
  try simp only[Act.put,sP]
  refine wpAnyH_take (i:=7) (v:=.int .i64 p2.deep) rfl (by kernel_rfl) (by kernel_rfl) (by kernel_rfl) (fun _ _ _ h=>h) (Or.inl ⟨by rfl,fun w j=>by obtain⟨V,q1,Y,Z,-⟩:=j;go_simp⟩) d ?_
  try simp only[Act.put,sP]
  refine wpAnyH_take (i:=8) (v:=.bool false) rfl (by kernel_rfl) (by kernel_rfl) (by kernel_rfl) (fun _ _ _ h=>h) (Or.inl ⟨by rfl,fun w j=>by obtain⟨V,q1,Y,Z,-⟩:=j;go_simp⟩) d ?_
  try simp only[Act.put,sP]
  refine wpAnyH_done (by kernel_rfl) ?_ _;clear d bo;replace b:=aA b.out.drew
  revert b
  generalize World.drew _=X;intro b
  (try clear l m A B C D)
  (try clear E F G H I J)
  (try clear M N O P Q R)
  (try clear m30 m31 m32 m33 m34 m3f)
  obtain⟨l,m,A,B,C,D⟩:=b.out.b0;obtain⟨E,F,G,H,I,J⟩:=b.out.b1;obtain⟨M,N,O,P,Q,R⟩:=b.out.b2
  go_wp2_with (first | (go_at_call 66;(with_reducible refine(C2 HP.out b.out.z k f0).mono ?_);rintro e w3 ⟨rfl,hz,T⟩;replace b:=aA (b.out.move hz T);clear hz T;(try clear l m A B C D);(try clear E F G H I J);(try clear M N O P Q R);(try clear m30 m31 m32 m33 m34 m3f);obtain⟨l,m,A,B,C,D⟩:=b.out.b0;obtain⟨E,F,G,H,I,J⟩:=b.out.b1;obtain⟨M,N,O,P,Q,R⟩:=b.out.b2))
  (try clear l m A B C D);(try clear E F G H I J);(try clear M N O P Q R);(try clear m30 m31 m32 m33 m34 m3f)
  refine b.out.region 8 (by kernel_rfl) (fun d=>?_);refine AbP 0 (.pointer (some ⟨w2.heap.size,1,none⟩)) rfl d ?_
  try simp only[Act.put,sP]
  refine AbU 1 (.string ⟨k.tx.toArray⟩) rfl (fun w j=>by obtain⟨s0,s1,s2,s3,s4,-⟩:=j.b0;go_simp) d ?_
  try simp only[Act.put,sP]
  refine AbP 2 (.complex .f64 (pl k.f).1 (pl k.f).2) rfl d ?_
  try simp only[Act.put,sP]
  refine AbU 3 ((.agg #[.int .i64 u.kd,.string ⟨u.nm.toArray⟩,.float .f64 u.x,.slice au u.ks.length cu,.complex .f64 u.z.1 u.z.2])) rfl (fun w j=>by obtain⟨s0,s1,s2,s3,s4,-⟩:=j.b1;go_simp) d ?_
  try simp only[Act.put,sP]
  refine AbP 4 (.pointer (some ⟨q,0,none⟩)) rfl d ?_
  try simp only[Act.put,sP]
  refine AaC 5 rfl (fun K hK=>?_)
  try go_simp
  go_at_call 281
  refine(HO.out _ _ b.out.drew.z (CA L hh)).mono ?_;intro e w8 ha;rcases ha.part L hh with⟨f,er,rfl,T,hr⟩ | ⟨_,p8,v,rfl,⟨⟨y,kv,rfl,rfl,hk⟩,hz⟩,T,U⟩
  ·exact⟨rfl,BX hr (b.out.drew.o.trans T)⟩
  replace L:=U;clear U ha
  (try dsimp only[aB,aC,aD] at L)
  obtain⟨ay,cy,rfl⟩:=hk.slice;replace b:=aA (b.out.drew.read hk hz T);clear hk hz T d;unfold CJ;refine hK.out _ _ (.inr b.out.bs) ?_
  try simp only[Act.put,sP]
  refine AaC 6 rfl (fun K hK=>?_)
  try go_simp
  replace b:=aA b.out.kid2;refine hK.out _ _ (.inr b.out.bs) ?_
  try simp only[Act.put,sP]
  refine AaC 7 rfl (fun K hK=>?_)
  try go_simp
  refine hK.out _ _ (.inr b.out.bs) ?_
  try simp only[Act.put,sP]
  obtain⟨n0,n1,n2,n3,n4,nf⟩:=b.out.b2;refine AaC 8 rfl (fun K hK=>?_)
  try go_simp
  refine hK.out _ _ (.inl rfl) ?_
  try simp only[Act.put,sP]
  refine Aal (by kernel_rfl) ?_ _;go_wp2;obtain⟨z0,z1,z2,z3,z4,zf⟩:=((((b.out.b2.set0 (.int .i64 13)).set1 (.string ⟨k.tx.toArray⟩)).set2 (.float .f64 0)).set3 (.slice (some ⟨w8.heap.size,0,none⟩) 2 2)).set4 (.complex .f64 (pl k.f).1 (pl k.f).2);exact bodyPost_ret (v:=.agg #[.int .i64 13,.string ⟨k.tx.toArray⟩,.float .f64 0,.slice (some ⟨w8.heap.size,0,none⟩) 2 2,.complex .f64 (pl k.f).1 (pl k.f).2]) (by simp[results,results275,go_sem,z0,z1,z2,z3,z4]<;>exact rfl) rfl (b.out.done (t:=.mk 13 k.tx 0 (pl k.f) [u,y]) b.out.k0 _ _ _ _ _ L)
 iterate 5
  focus
   (try clear l m A B C D);(try clear E F G H I J);(try clear M N O P Q R);(try clear m30 m31 m32 m33 m34 m3f)
   refine b.out.region 8 (by kernel_rfl) (fun d=>?_);refine AbP 0 (.pointer (some ⟨w2.heap.size,1,none⟩)) rfl d ?_
   try simp only[Act.put,sP]
   refine AbU 1 (.string ⟨k.tx.toArray⟩) rfl (fun w j=>by obtain⟨s0,s1,s2,s3,s4,-⟩:=j.b0;go_simp) d ?_
   try simp only[Act.put,sP]
   refine AbP 2 (.complex .f64 (pl k.f).1 (pl k.f).2) rfl d ?_
   try simp only[Act.put,sP]
   refine AbU 3 ((.agg #[.int .i64 u.kd,.string ⟨u.nm.toArray⟩,.float .f64 u.x,.slice au u.ks.length cu,.complex .f64 u.z.1 u.z.2])) rfl (fun w j=>by obtain⟨s0,s1,s2,s3,s4,-⟩:=j.b1;go_simp) d ?_
   try simp only[Act.put,sP]
   refine AbP 4 (.pointer (some ⟨q,0,none⟩)) rfl d ?_
   try simp only[Act.put,sP]
   refine AaC 5 rfl (fun K hK=>?_)
   try go_simp
   go_at_call 281
   refine(HO.out _ _ b.out.drew.z (CA L hh)).mono ?_;intro e w8 ha;rcases ha.part L hh with⟨f,er,rfl,T,hr⟩ | ⟨_,p8,v,rfl,⟨⟨y,kv,rfl,rfl,hk⟩,hz⟩,T,U⟩
   ·exact⟨rfl,BX hr (b.out.drew.o.trans T)⟩
   replace L:=U;clear U ha
   (try dsimp only[aB,aC,aD] at L)
   obtain⟨ay,cy,rfl⟩:=hk.slice;replace b:=aA (b.out.drew.read hk hz T);clear hk hz T d;unfold CJ;refine hK.out _ _ (.inr b.out.bs) ?_
   try simp only[Act.put,sP]
   refine AaC 6 rfl (fun K hK=>?_)
   try go_simp
   replace b:=aA b.out.kid2;refine hK.out _ _ (.inr b.out.bs) ?_
   try simp only[Act.put,sP]
   refine AaC 7 rfl (fun K hK=>?_)
   try go_simp
   refine hK.out _ _ (.inr b.out.bs) ?_
   try simp only[Act.put,sP]
   obtain⟨n0,n1,n2,n3,n4,nf⟩:=b.out.b2;refine AaC 8 rfl (fun K hK=>?_)
   try go_simp
   refine hK.out _ _ (.inl rfl) ?_
   try simp only[Act.put,sP]
   refine Aal (by kernel_rfl) ?_ _;go_wp2;obtain⟨z0,z1,z2,z3,z4,zf⟩:=((((b.out.b2.set0 (.int .i64 13)).set1 (.string ⟨k.tx.toArray⟩)).set2 (.float .f64 0)).set3 (.slice (some ⟨w8.heap.size,0,none⟩) 2 2)).set4 (.complex .f64 (pl k.f).1 (pl k.f).2);exact bodyPost_ret (v:=.agg #[.int .i64 13,.string ⟨k.tx.toArray⟩,.float .f64 0,.slice (some ⟨w8.heap.size,0,none⟩) 2 2,.complex .f64 (pl k.f).1 (pl k.f).2]) (by simp[results,results275,go_sem,z0,z1,z2,z3,z4]<;>exact rfl) rfl (b.out.done (t:=.mk 13 k.tx 0 (pl k.f) [u,y]) b.out.k0 _ _ _ _ _ L)
 obtain⟨z0,z1,z2,z3,z4,zf⟩:=((((b.out.b2.set0 (.int .i64 u.kd)).set1 (.string ⟨u.nm.toArray⟩)).set2 (.float .f64 u.x)).set3 (.slice au u.ks.length cu)).set4 (.complex .f64 u.z.1 u.z.2);exact bodyPost_ret (v:=CJ u (.slice au u.ks.length cu)) (by simp[CJ,results,results275,go_sem,z0,z1,z2,z3,z4]<;>exact rfl) rfl (b.out.done b.out.k0 _ _ _ _ _ L)
end Go.Proofs.YtfblenhlildnaaaGreatDoor
