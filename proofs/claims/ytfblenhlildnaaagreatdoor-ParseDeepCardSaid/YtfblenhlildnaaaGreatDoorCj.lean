/- Cj -/
import Derived.Test.YtfblenhlildnaaaGreatDoorCi
set_option maxRecDepth 100000
set_option maxHeartbeats 4000000
open Go.Lib renaming hid->aA
open List renaming singleton_append->aB,cons_append->aC
namespace Go.Proofs.YtfblenhlildnaaaGreatDoor
open Go.Proofs.Tryz
open Go.RowKit
theorem exC (t:Tk) (a:Bool):(¬ (t.kd=9/\a=true/\(t.tx=[61]\/t.tx=[43,61]\/t.tx=[45,61]\/t.tx=[42,61]\/t.tx=[47,61]\/t.tx=[37,61]\/t.tx=[94,61]))/\(t.kd != 9)=true)\/(¬ (t.kd=9/\a=true/\(t.tx=[61]\/t.tx=[43,61]\/t.tx=[45,61]\/t.tx=[42,61]\/t.tx=[47,61]\/t.tx=[37,61]\/t.tx=[94,61]))/\(t.kd != 9)=false/\a=false)\/((t.kd=9/\a=true/\(t.tx=[61]\/t.tx=[43,61]\/t.tx=[45,61]\/t.tx=[42,61]\/t.tx=[47,61]\/t.tx=[37,61]\/t.tx=[94,61]))/\(t.kd != 9)=false/\a=true/\(t.tx==[61])=true)\/((t.kd=9/\a=true/\(t.tx=[61]\/t.tx=[43,61]\/t.tx=[45,61]\/t.tx=[42,61]\/t.tx=[47,61]\/t.tx=[37,61]\/t.tx=[94,61]))/\(t.kd != 9)=false/\a=true/\(t.tx==[61])=false/\(t.tx==[43,61])=true)\/((t.kd=9/\a=true/\(t.tx=[61]\/t.tx=[43,61]\/t.tx=[45,61]\/t.tx=[42,61]\/t.tx=[47,61]\/t.tx=[37,61]\/t.tx=[94,61]))/\(t.kd != 9)=false/\a=true/\(t.tx==[61])=false/\(t.tx==[43,61])=false/\(t.tx==[45,61])=true)\/((t.kd=9/\a=true/\(t.tx=[61]\/t.tx=[43,61]\/t.tx=[45,61]\/t.tx=[42,61]\/t.tx=[47,61]\/t.tx=[37,61]\/t.tx=[94,61]))/\(t.kd != 9)=false/\a=true/\(t.tx==[61])=false/\(t.tx==[43,61])=false/\(t.tx==[45,61])=false/\(t.tx==[42,61])=true)\/((t.kd=9/\a=true/\(t.tx=[61]\/t.tx=[43,61]\/t.tx=[45,61]\/t.tx=[42,61]\/t.tx=[47,61]\/t.tx=[37,61]\/t.tx=[94,61]))/\(t.kd != 9)=false/\a=true/\(t.tx==[61])=false/\(t.tx==[43,61])=false/\(t.tx==[45,61])=false/\(t.tx==[42,61])=false/\(t.tx==[47,61])=true)\/((t.kd=9/\a=true/\(t.tx=[61]\/t.tx=[43,61]\/t.tx=[45,61]\/t.tx=[42,61]\/t.tx=[47,61]\/t.tx=[37,61]\/t.tx=[94,61]))/\(t.kd != 9)=false/\a=true/\(t.tx==[61])=false/\(t.tx==[43,61])=false/\(t.tx==[45,61])=false/\(t.tx==[42,61])=false/\(t.tx==[47,61])=false/\(t.tx==[37,61])=true)\/((t.kd=9/\a=true/\(t.tx=[61]\/t.tx=[43,61]\/t.tx=[45,61]\/t.tx=[42,61]\/t.tx=[47,61]\/t.tx=[37,61]\/t.tx=[94,61]))/\(t.kd != 9)=false/\a=true/\(t.tx==[61])=false/\(t.tx==[43,61])=false/\(t.tx==[45,61])=false/\(t.tx==[42,61])=false/\(t.tx==[47,61])=false/\(t.tx==[37,61])=false/\(t.tx==[94,61])=true)\/(¬ (t.kd=9/\a=true/\(t.tx=[61]\/t.tx=[43,61]\/t.tx=[45,61]\/t.tx=[42,61]\/t.tx=[47,61]\/t.tx=[37,61]\/t.tx=[94,61]))/\(t.kd != 9)=false/\a=true/\(t.tx==[61])=false/\(t.tx==[43,61])=false/\(t.tx==[45,61])=false/\(t.tx==[42,61])=false/\(t.tx==[47,61])=false/\(t.tx==[37,61])=false/\(t.tx==[94,61])=false):=by
 rcases Xt t.kd 9 with⟨j,-,h⟩ | ⟨j,-,h⟩
 rotate_left
 ·exact .inl ⟨fun e=>j e.1,h⟩
 cases a with
 | false=>exact .inr (.inl ⟨fun e=>(by cases e.2.1),h,rfl⟩)
 | true =>
 rcases J0 t.tx [61] with⟨f,b⟩ | ⟨m,b⟩
 ·exact .inr (.inr (.inl ⟨⟨j,rfl,by simp[f]⟩,h,rfl,b⟩))
 rcases J0 t.tx [43,61] with⟨f,c⟩ | ⟨n,c⟩
 ·exact .inr (.inr (.inr (.inl ⟨⟨j,rfl,by simp[f]⟩,h,rfl,b,c⟩)))
 rcases J0 t.tx [45,61] with⟨f,d⟩ | ⟨o,d⟩
 ·exact .inr (.inr (.inr (.inr (.inl ⟨⟨j,rfl,by simp[f]⟩,h,rfl,b,c,d⟩))))
 rcases J0 t.tx [42,61] with⟨f,g⟩ | ⟨p,g⟩
 ·exact .inr (.inr (.inr (.inr (.inr (.inl ⟨⟨j,rfl,by simp[f]⟩,h,rfl,b,c,d,g⟩)))))
 rcases J0 t.tx [47,61] with⟨f,i⟩ | ⟨q,i⟩
 ·exact .inr (.inr (.inr (.inr (.inr (.inr (.inl ⟨⟨j,rfl,by simp[f]⟩,h,rfl,b,c,d,g,i⟩))))))
 rcases J0 t.tx [37,61] with⟨f,k⟩ | ⟨r,k⟩
 ·exact .inr (.inr (.inr (.inr (.inr (.inr (.inr (.inl ⟨⟨j,rfl,by simp[f]⟩,h,rfl,b,c,d,g,i,k⟩)))))))
 rcases J0 t.tx [94,61] with⟨f,l⟩ | ⟨s,l⟩
 ·exact .inr (.inr (.inr (.inr (.inr (.inr (.inr (.inr (.inl ⟨⟨j,rfl,by simp[f]⟩,h,rfl,b,c,d,g,i,k,l⟩))))))))
 exact .inr (.inr (.inr (.inr (.inr (.inr (.inr (.inr (.inr ⟨fun e=>by have e:=e.2.2;simp[m,n,o,p,q,r,s] at e,h,rfl,b,c,d,g,i,k,l⟩))))))))
set_option linter.unusedSimpArgs false in
theorem Yx {nx:Nat->Bool->Tk} {pl:Nat->Nat×Nat} {ere:List UInt8->Option Bool} {w0:World} {q:Nat} {s:ByteArray} (hN:F2 nx s w0) (hP:H6 pl s) (n:Nat)
  (hO:NC nx pl ere w0 q s n .cond 136)
  (hE:NC nx pl ere w0 q s n .expr 103):NC nx pl ere w0 q s (n+1) .expr 103:=by
 intro p W h hh;obtain⟨r,er⟩:∃r,Dn nx pl ere (n+1) .expr p=r:=⟨_,rfl⟩;rw[er] at hh ⊢;rw[Dn] at er;have b:=aA er;have a:=aA (Fx.start1 h (.int .i64 0) (.string ⟨#[]⟩) (.float .f64 0) (.slice none 0 0) (.complex .f64 0 0) 42);have HN:=aA hN;have HP:=aA hP;have HO:=aA (fun p W h g=>hO p W h g);have HE:=aA (fun p W h g=>hE p W h g);clear er h hN hP hO hE;obtain⟨c,d,i,j,k,l⟩:=a.out.b0
 go_in
 go_wp2_with (first | (go_at_call 136;(with_reducible refine(HO.out _ _ a.out.z (CA b hh)).mono ?_);intro e w1 ha;rcases ha.part b hh with⟨f,er,rfl,H,hr⟩ | ⟨_,p1,v,rfl,⟨⟨u,kv,rfl,rfl,hk⟩,Y⟩,H,A⟩;exact⟨rfl,BX hr (a.out.o.trans H)⟩;replace b:=A;clear A ha;(try dsimp only at b);obtain⟨Z,cu,rfl⟩:=hk.slice;replace a:=aA ((a.out.read hk Y H).box (.int .i64 u.kd) (.string ⟨u.nm.toArray⟩) (.float .f64 u.x) (.slice Z u.ks.length cu) (.complex .f64 u.z.1 u.z.2) 42);clear hk Y H;(try dsimp only[hd1,List.headD,aB,aC,List.nil_append] at b);(try clear c d i j k l);(try clear B C D E F G);(try clear J L M N O P);(try clear m30 m31 m32 m33 m34 m3f);obtain⟨c,d,i,j,k,l⟩:=a.out.b0;obtain⟨B,C,D,E,F,G⟩:=a.out.b1;unfold CJ) | (go_at_call 65;(with_reducible refine(DS HN.out a.out.z false).mono ?_);intro e w2 ha;rcases ha.part b hh with⟨f,er,rfl,H,hr⟩ | ⟨m,p2,v,rfl,⟨rfl,rfl,h0,et,d0,hb⟩,H,A⟩;exact⟨rfl,BX hr (a.out.o.trans H)⟩;replace b:=A;clear A ha;(try dsimp only at b);replace a:=aA ((a.out.quiet hb).box (.int .i64 m.kd) (.string ⟨m.tx.toArray⟩) (.float .f64 m.nm) (.int .i64 m.f) (.int .i64 m.t) 70);clear h0 et hb H;(try clear c d i j k l);(try clear B C D E F G);(try clear J L M N O P);(try clear m30 m31 m32 m33 m34 m3f);obtain⟨c,d,i,j,k,l⟩:=a.out.b0;obtain⟨B,C,D,E,F,G⟩:=a.out.b1;obtain⟨J,L,M,N,O,P⟩:=a.out.b2;unfold G1;rcases exC m (Z1 u) with⟨S,V⟩ | ⟨S,V,U⟩ | ⟨S,V,U,I⟩ | ⟨S,V,U,I,R⟩ | ⟨S,V,U,I,R,T⟩ | ⟨S,V,U,I,R,T,X⟩ | ⟨S,V,U,I,R,T,X,a0⟩ | ⟨S,V,U,I,R,T,X,a0,c0⟩ | ⟨S,V,U,I,R,T,X,a0,c0,e0⟩ | ⟨S,V,U,I,R,T,X,a0,c0,e0⟩<;>((first | replace b:=Ym S b | replace b:=XY S b);clear S)) | (go_at_call 137;(with_reducible refine(R' u Z u.ks.length cu _).mono ?_);rintro e w7 ⟨rfl,hb⟩;rw[U];clear U;replace a:=aA (a.out.quiet hb);clear hb;(try clear c d i j k l);(try clear B C D E F G);(try clear J L M N O P);(try clear m30 m31 m32 m33 m34 m3f);obtain⟨c,d,i,j,k,l⟩:=a.out.b0;obtain⟨B,C,D,E,F,G⟩:=a.out.b1;obtain⟨J,L,M,N,O,P⟩:=a.out.b2) | (go_at_call 66;(with_reducible refine(C2 HP.out a.out.z m d0).mono ?_);rintro e w3 ⟨rfl,Y,H⟩;replace a:=aA (a.out.move Y H);clear Y H;(try clear c d i j k l);(try clear B C D E F G);(try clear J L M N O P);(try clear m30 m31 m32 m33 m34 m3f);obtain⟨c,d,i,j,k,l⟩:=a.out.b0;obtain⟨B,C,D,E,F,G⟩:=a.out.b1;obtain⟨J,L,M,N,O,P⟩:=a.out.b2))
 iterate 2
  focus
   obtain⟨z0,z1,z2,z3,z4,zf⟩:=((((a.out.b2.set0 (.int .i64 u.kd)).set1 (.string ⟨u.nm.toArray⟩)).set2 (.float .f64 u.x)).set3 (.slice Z u.ks.length cu)).set4 (.complex .f64 u.z.1 u.z.2);exact bodyPost_ret (v:=CJ u (.slice Z u.ks.length cu)) (by simp[CJ,results,results103,go_sem,z0,z1,z2,z3,z4]<;>exact rfl) rfl (a.out.done a.out.k0 _ _ _ _ _ b)
 iterate 7
  focus
   (try clear c d i j k l);(try clear B C D E F G);(try clear J L M N O P);(try clear m30 m31 m32 m33 m34 m3f)
   refine a.out.region 8 (by kernel_rfl) (fun Q=>?_);refine AbP 0 (.pointer (some ⟨w2.heap.size,1,none⟩)) rfl Q ?_
   try simp only[Act.put,sP]
   refine AbU 1 (.string ⟨m.tx.toArray⟩) rfl (fun w hS=>by obtain⟨s0,s1,s2,s3,s4,-⟩:=hS.b0;go_simp) Q ?_
   try simp only[Act.put,sP]
   refine AbP 2 (.complex .f64 (pl m.f).1 (pl m.f).2) rfl Q ?_
   try simp only[Act.put,sP]
   refine AbU 3 ((.agg #[.int .i64 u.kd,.string ⟨u.nm.toArray⟩,.float .f64 u.x,.slice Z u.ks.length cu,.complex .f64 u.z.1 u.z.2])) rfl (fun w hS=>by obtain⟨s0,s1,s2,s3,s4,-⟩:=hS.b1;go_simp) Q ?_
   try simp only[Act.put,sP]
   refine AbP 4 (.pointer (some ⟨q,0,none⟩)) rfl Q ?_
   try simp only[Act.put,sP]
   refine AaC 5 rfl (fun K hK=>?_)
   try go_simp
   go_at_call 103
   refine(HE.out _ _ a.out.drew.z (CA b hh)).mono ?_;intro e w8 ha;rcases ha.part b hh with⟨f,er,rfl,H,hr⟩ | ⟨_,p8,v,rfl,⟨⟨y,kv,rfl,rfl,hk⟩,Y⟩,H,A⟩
   ·exact⟨rfl,BX hr (a.out.drew.o.trans H)⟩
   replace b:=A;clear A ha
   (try dsimp only[aB,aC,List.nil_append] at b)
   obtain⟨ay,cy,rfl⟩:=hk.slice;replace a:=aA (a.out.drew.read hk Y H);clear hk Y H Q;unfold CJ;refine hK.out _ _ (.inr a.out.bs) ?_
   try simp only[Act.put,sP]
   refine AaC 6 rfl (fun K hK=>?_)
   try go_simp
   replace a:=aA a.out.kid2;refine hK.out _ _ (.inr a.out.bs) ?_
   try simp only[Act.put,sP]
   refine AaC 7 rfl (fun K hK=>?_)
   try go_simp
   refine hK.out _ _ (.inr a.out.bs) ?_
   try simp only[Act.put,sP]
   obtain⟨n0,n1,n2,n3,n4,nf⟩:=a.out.b2;refine AaC 8 rfl (fun K hK=>?_)
   try go_simp
   refine hK.out _ _ (.inl rfl) ?_
   try simp only[Act.put,sP]
   refine Aal (by kernel_rfl) ?_ _;go_wp2;obtain⟨z0,z1,z2,z3,z4,zf⟩:=((((a.out.b2.set0 (.int .i64 7)).set1 (.string ⟨m.tx.toArray⟩)).set2 (.float .f64 0)).set3 (.slice (some ⟨w8.heap.size,0,none⟩) 2 2)).set4 (.complex .f64 (pl m.f).1 (pl m.f).2);exact bodyPost_ret (v:=.agg #[.int .i64 7,.string ⟨m.tx.toArray⟩,.float .f64 0,.slice (some ⟨w8.heap.size,0,none⟩) 2 2,.complex .f64 (pl m.f).1 (pl m.f).2]) (by simp[results,results103,go_sem,z0,z1,z2,z3,z4]<;>exact rfl) rfl (a.out.done (t:=.mk 7 m.tx 0 (pl m.f) [u,y]) a.out.k0 _ _ _ _ _ b)
 obtain⟨z0,z1,z2,z3,z4,zf⟩:=((((a.out.b2.set0 (.int .i64 u.kd)).set1 (.string ⟨u.nm.toArray⟩)).set2 (.float .f64 u.x)).set3 (.slice Z u.ks.length cu)).set4 (.complex .f64 u.z.1 u.z.2);exact bodyPost_ret (v:=CJ u (.slice Z u.ks.length cu)) (by simp[CJ,results,results103,go_sem,z0,z1,z2,z3,z4]<;>exact rfl) rfl (a.out.done a.out.k0 _ _ _ _ _ b)
end Go.Proofs.YtfblenhlildnaaaGreatDoor
