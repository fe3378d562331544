/- Lr Lt -/
import Derived.Test.YtfblenhlildnaaaGreatDoorIr
import Derived.Test.YtfblenhlildnaaaGreatDoorCa
import Derived.Test.YtfblenhlildnaaaGreatDoorBu
set_option maxRecDepth 100000
set_option maxHeartbeats 4000000
open Go.Lib renaming hid->aA
open List renaming singleton_append->aB,length_singleton->aC,cons_append->aD,nil_append->aE,length_append->aG,headD->aH
open Bool renaming false_eq_true->aF,and_eq_true->aI
namespace Go.Proofs.YtfblenhlildnaaaGreatDoor
open Go.Proofs.Tryz
open Go.RowKit
theorem opR (t:Tk) :
  (t.kd=2/\(t.kd==2)=true) \/
  (¬ t.kd=2/\t.kd=3/\(t.kd==2)=false/\(t.kd==3)=true) \/
  (¬ t.kd=2/\¬ t.kd=3/\t.kd=4/\(t.kd==2)=false/\(t.kd==3)=false/\(t.kd==4)=true) \/
  (¬ t.kd=2/\¬ t.kd=3/\¬ t.kd=4/\t.kd=5/\(t.kd==2)=false/\(t.kd==3)=false/\(t.kd==4)=false/\(t.kd==5)=true) \/
  (¬ t.kd=2/\¬ t.kd=3/\¬ t.kd=4/\¬ t.kd=5/\(t.kd=6\/t.kd=7)/\(t.kd==2)=false/\(t.kd==3)=false/\(t.kd==4)=false/\(t.kd==5)=false/\(t.kd==6)=true) \/
  (¬ t.kd=2/\¬ t.kd=3/\¬ t.kd=4/\¬ t.kd=5/\(t.kd=6\/t.kd=7)/\(t.kd==2)=false/\(t.kd==3)=false/\(t.kd==4)=false/\(t.kd==5)=false/\(t.kd==6)=false/\(t.kd==7)=true) \/
  (¬ t.kd=2/\¬ t.kd=3/\¬ t.kd=4/\¬ t.kd=5/\¬ (t.kd=6\/t.kd=7)/\isS t [36]=true/\(t.kd==2)=false/\(t.kd==3)=false/\(t.kd==4)=false/\(t.kd==5)=false/\(t.kd==6)=false/\(t.kd==7)=false/\(t.kd==9)=true/\(t.tx==[36])=true) \/
  (¬ t.kd=2/\¬ t.kd=3/\¬ t.kd=4/\¬ t.kd=5/\¬ (t.kd=6\/t.kd=7)/\¬ isS t [36]=true/\(t.kd==2)=false/\(t.kd==3)=false/\(t.kd==4)=false/\(t.kd==5)=false/\(t.kd==6)=false/\(t.kd==7)=false/\(t.kd==9)=true/\(t.tx==[36])=false) \/
  (¬ t.kd=2/\¬ t.kd=3/\¬ t.kd=4/\¬ t.kd=5/\¬ (t.kd=6\/t.kd=7)/\¬ isS t [36]=true/\(t.kd==2)=false/\(t.kd==3)=false/\(t.kd==4)=false/\(t.kd==5)=false/\(t.kd==6)=false/\(t.kd==7)=false/\(t.kd==9)=false):=by
 rcases Xt t.kd 2 with⟨a,b2,-⟩ | ⟨a,b2,-⟩
 ·exact .inl ⟨a,b2⟩
 rcases Xt t.kd 3 with⟨b,b3,-⟩ | ⟨b,b3,-⟩
 ·exact .inr (.inl ⟨a,b,b2,b3⟩)
 rcases Xt t.kd 4 with⟨d,c,-⟩ | ⟨d,c,-⟩
 ·exact .inr (.inr (.inl ⟨a,b,d,b2,b3,c⟩))
 rcases Xt t.kd 5 with⟨g,f,-⟩ | ⟨g,f,-⟩
 ·exact .inr (.inr (.inr (.inl ⟨a,b,d,g,b2,b3,c,f⟩)))
 rcases Xt t.kd 6 with⟨m,i,-⟩ | ⟨m,i,-⟩
 ·exact .inr (.inr (.inr (.inr (.inl ⟨a,b,d,g,.inl m,b2,b3,c,f,i⟩))))
 rcases Xt t.kd 7 with⟨n,j,-⟩ | ⟨n,j,-⟩
 ·exact .inr (.inr (.inr (.inr (.inr (.inl ⟨a,b,d,g,.inr n,b2,b3,c,f,i,j⟩)))))
 have h:¬ (t.kd=6\/t.kd=7):=fun e=>e.elim m n;rcases Xt t.kd 9 with⟨o,k,-⟩ | ⟨o,k,-⟩
 ·rcases J0 t.tx [36] with⟨p,l⟩ | ⟨p,l⟩
  ·exact .inr (.inr (.inr (.inr (.inr (.inr (.inl ⟨a,b,d,g,h,by unfold isS;rw[o,p];rfl,b2,b3,c,f,i,j,k,l⟩))))))
  exact .inr (.inr (.inr (.inr (.inr (.inr (.inr (.inl ⟨a,b,d,g,h,fun e=>(by unfold isS at e;simp only[aI,decide_eq_true_eq] at e;exact p e.2),b2,b3,c,f,i,j,k,l⟩)))))))
 exact .inr (.inr (.inr (.inr (.inr (.inr (.inr (.inr ⟨a,b,d,g,h,fun e=>(by unfold isS at e;simp only[aI,decide_eq_true_eq] at e;exact o e.1),b2,b3,c,f,i,j,k⟩)))))))
set_option linter.unusedSimpArgs false in
theorem Adr {nx:Nat->Bool->Tk} {pl:Nat->Nat×Nat} {ere:List UInt8->Option Bool} {w0:World} {q:Nat} {s:ByteArray} (hN:RxC nx s w0) (hP:RlC pl s) (n:Nat)
  (hI:IR nx pl ere w0 q s n)
  (hC:CR nx pl ere w0 q s n)
  (hD:NR nx pl ere w0 q s n .dollar 306)
  (hE:∀x,ere x=none):NR nx pl ere w0 q s (n+1) .operand 302:=by
 intro p W h Z;obtain⟨r,er⟩:∃r,B0 nx pl ere (n+1) .operand p=r:=⟨_,rfl⟩;rw[er] at Z ⊢;rw[B0] at er;have c:=aA er;have a:=aA (Fr.start1 h (.int .i64 0) (.string ⟨#[]⟩) (.float .f64 0) (.slice none 0 0) (.complex .f64 0 0) 42);have HN:=aA hN;have HP:=aA hP;have HI:=aA (fun x p W (h:Rz w0 q s p W) (g:B0 nx pl ere n (.inside x) p ≠ .hush)=>hI x p W h g);have HC:=aA (fun t p W (h:Rz w0 q s p W) h1 U (g:B0 nx pl ere n (.call t) p ≠ .hush)=>hC t p W h h1 U g);have HD:=aA (fun(p:Rs) (W:World) (h:Rz w0 q s p W) (g:B0 nx pl ere n .dollar p ≠ .hush)=>hD p W h g);have HE:=aA (hE);clear er h hN hP hI hC hD hE
 (try clear k l m o u c5 A);(try clear B C D E F G);(try clear H I J L M N);(try clear o0 o1 o2 o3 o4 of);(try clear k0 k1 k2 k3 k4 kf);obtain⟨k,l,m,o,u,c5,A⟩:=a.out.z.c6;obtain⟨B,C,D,E,F,G⟩:=a.out.b0
 go_in
 go_wp2_with (first | (go_at_call 29;(with_reducible refine(Afj HN.out HP.out a.out.z true).mono ?_);intro e w1 ha;obtain⟨t,p1,v,rfl,⟨⟨rfl,hf,ht⟩,j⟩,i,d⟩:=ha.part c Z;replace c:=d;clear d ha;(try dsimp only at c);have a0:=aA hf;have g0:=aA ht;clear hf ht;replace a:=aA ((a.out.move j i).box (.int .i64 t.kd) (.string ⟨t.tx.toArray⟩) (.float .f64 t.nm) (.int .i64 t.f) (.int .i64 t.t) 70);clear j i;(try clear k l m o u c5 A);(try clear B C D E F G);(try clear H I J L M N);(try clear o0 o1 o2 o3 o4 of);(try clear k0 k1 k2 k3 k4 kf);obtain⟨k,l,m,o,u,c5,A⟩:=a.out.z.c6;obtain⟨B,C,D,E,F,G⟩:=a.out.b0;obtain⟨H,I,J,L,M,N⟩:=a.out.b1;unfold G1) | (go_at_call 27;(with_reducible refine(Abv a.out.z).mono ?_);rintro e w2 ⟨rfl,rfl⟩;rcases okC p1 with⟨he,hb⟩ | ⟨he,hb⟩<;>rw[hb]<;>clear hb<;>(first | replace c:=Ym he c | (replace c:=XY (fun e=>e he) c;have d0:=aA (g0.out he)))<;>clear he) | (go_at_call 109;(with_reducible refine(AbY HP.out a.out.z t a0.out).mono ?_);rintro e w3 ⟨rfl,hb⟩;replace a:=aA (a.out.quiet hb);clear hb;(try clear k l m o u c5 A);(try clear B C D E F G);(try clear H I J L M N);(try clear o0 o1 o2 o3 o4 of);(try clear k0 k1 k2 k3 k4 kf);obtain⟨k,l,m,o,u,c5,A⟩:=a.out.z.c6;obtain⟨B,C,D,E,F,G⟩:=a.out.b0;obtain⟨H,I,J,L,M,N⟩:=a.out.b1;rcases opR t with⟨U,b2⟩ | ⟨U,h3,b2,b3⟩ | ⟨U,h3,h4,b2,b3,b4⟩ | ⟨U,h3,h4,h5,b2,b3,b4,b5⟩ | ⟨U,h3,h4,h5,h6,b2,b3,b4,b5,b6⟩ | ⟨U,h3,h4,h5,h6,b2,b3,b4,b5,b6,b7⟩ | ⟨U,h3,h4,h5,h6,h7,b2,b3,b4,b5,b6,b7,b9,bx⟩ | ⟨U,h3,h4,h5,h6,h7,b2,b3,b4,b5,b6,b7,b9,bx⟩ | ⟨U,h3,h4,h5,h6,h7,b2,b3,b4,b5,b6,b7,b9⟩<;>(repeat (first | replace c:=Ym (by assumption) c | replace c:=XY (by assumption) c))<;>(try clear U);(try clear h3);(try clear h4);(try clear h5);(try clear h6);(try clear h7);rotate_left 2;(rw[HE.out] at c;exact absurd c.out.symm Z);rotate_right 2;all_goals (have T:=aA (a.out.setT d0.out);obtain⟨x0,x1,x2,x3,x4,xf⟩:=T.out.b0;obtain⟨i0,i1,i2,i3,i4,ig⟩:=T.out.b1)) | (go_at_call 50;(with_reducible refine(AbX HP.out T.out.z 12 t.f a0.out).mono ?_);rintro e w4 ⟨rfl,j,i⟩;replace a:=aA (T.out.move j i);clear j i;(try clear k l m o u c5 A);(try clear B C D E F G);(try clear H I J L M N);(try clear o0 o1 o2 o3 o4 of);(try clear k0 k1 k2 k3 k4 kf);obtain⟨k,l,m,o,u,c5,A⟩:=a.out.z.c6;obtain⟨B,C,D,E,F,G⟩:=a.out.b0;obtain⟨H,I,J,L,M,N⟩:=a.out.b1) | (go_at_call 88;(with_reducible refine(AbQ HN.out HP.out T.out.z [91]).mono ?_);intro e w5 ha;obtain⟨b,p5,v,rfl,⟨rfl,j⟩,i,d⟩:=ha.part c Z;replace c:=d;clear d ha;(try dsimp only at c);replace a:=aA (T.out.move j i);clear j i;cases b<;>(simp only[if_true,if_false,aF,reduceIte] at c);all_goals ((try clear k l m o u c5 A);(try clear B C D E F G);(try clear H I J L M N);(try clear o0 o1 o2 o3 o4 of);(try clear k0 k1 k2 k3 k4 kf);obtain⟨k,l,m,o,u,c5,A⟩:=a.out.z.c6;obtain⟨B,C,D,E,F,G⟩:=a.out.b0;obtain⟨H,I,J,L,M,N⟩:=a.out.b1)) | (go_at_call 305;(with_reducible refine(HC.out t _ _ a.out.z d0.out a0.out (K0 (Ab1 c) Z)).mono ?_);intro e w6 ha;obtain⟨_,p6,v,rfl,⟨⟨y,kv,rfl,rfl,Y⟩,j⟩,i,d⟩:=ha.part (Ab1 c) Z;replace c:=d;clear d ha;(try dsimp only at c);obtain⟨ay,cy,rfl⟩:=Y.slice;replace a:=aA (a.out.read Y j i);clear Y j i;(try dsimp only[hd1,aH,aB,aD,aE] at c);(try clear k l m o u c5 A);(try clear B C D E F G);(try clear H I J L M N);(try clear o0 o1 o2 o3 o4 of);(try clear k0 k1 k2 k3 k4 kf);obtain⟨k,l,m,o,u,c5,A⟩:=a.out.z.c6;obtain⟨B,C,D,E,F,G⟩:=a.out.b0;obtain⟨H,I,J,L,M,N⟩:=a.out.b1;unfold CJ) | (go_at_call 306;(with_reducible refine(HD.out _ _ T.out.z (K0 c Z)).mono ?_);intro e w7 ha;obtain⟨_,p7,v,rfl,⟨⟨y,kv,rfl,rfl,Y⟩,j⟩,i,d⟩:=ha.part c Z;replace c:=d;clear d ha;(try dsimp only at c);obtain⟨ay,cy,rfl⟩:=Y.slice;replace a:=aA ((T.out.read Y j i));clear Y j i;(try dsimp only[hd1,aH,aB,aD,aE] at c);(try clear k l m o u c5 A);(try clear B C D E F G);(try clear H I J L M N);(try clear o0 o1 o2 o3 o4 of);(try clear k0 k1 k2 k3 k4 kf);obtain⟨k,l,m,o,u,c5,A⟩:=a.out.z.c6;obtain⟨B,C,D,E,F,G⟩:=a.out.b0;obtain⟨H,I,J,L,M,N⟩:=a.out.b1;unfold CJ;obtain⟨j0,j1,j2,j3,j4,jf⟩:=a.out.kid1.b1) | (go_at_call 54;(with_reducible refine(Acb HP.out a.out.z t a0.out).mono ?_);rintro e w8 ⟨rfl,j,i⟩;replace a:=aA (a.out.move j i);clear j i;(try clear k l m o u c5 A);(try clear B C D E F G);(try clear H I J L M N);(try clear o0 o1 o2 o3 o4 of);(try clear k0 k1 k2 k3 k4 kf);obtain⟨k,l,m,o,u,c5,A⟩:=a.out.z.c6;obtain⟨B,C,D,E,F,G⟩:=a.out.b0;obtain⟨H,I,J,L,M,N⟩:=a.out.b1))
 ·replace a:=T
  clear T
  (try clear k l m o u c5 A);(try clear B C D E F G);(try clear H I J L M N);(try clear o0 o1 o2 o3 o4 of);(try clear k0 k1 k2 k3 k4 kf)
  (try clear x0 x1 x2 x3 x4 xf i0 i1 i2 i3 i4 ig)
  revert a
  generalize World.setCell w3 _ _=X;intro a;obtain⟨O,P,Q,R,S,zf⟩:=((((a.out.b1.set0 (.int .i64 1)).set1 (.string ⟨#[]⟩)).set2 (.float .f64 t.nm)).set3 (.slice none 0 0)).set4 (.complex .f64 (pl t.f).1 (pl t.f).2);exact bodyPost_ret (v:=.agg #[.int .i64 1,.string ⟨#[]⟩,.float .f64 t.nm,.slice none 0 0,.complex .f64 (pl t.f).1 (pl t.f).2]) (by simp[results,results302,go_sem,O,P,Q,R,S]<;>exact rfl) rfl (a.out.done (t:=.mk 1 [] t.nm (pl t.f) []) (Am.nil _) _ _ _ _ _ c)
 ·rw[if_pos (Int.ofNat_lt.1 ‹(256:Int)<(t.tx.length:Int)›)] at c
  obtain⟨O,P,Q,R,S,zf⟩:=((((a.out.b1.set0 (.int .i64 2)).set1 (.string ⟨t.tx.toArray⟩)).set2 (.float .f64 0)).set3 (.slice none 0 0)).set4 (.complex .f64 (pl t.f).1 (pl t.f).2);exact bodyPost_ret (v:=.agg #[.int .i64 2,.string ⟨t.tx.toArray⟩,.float .f64 0,.slice none 0 0,.complex .f64 (pl t.f).1 (pl t.f).2]) (by simp[results,results302,go_sem,O,P,Q,R,S]<;>exact rfl) rfl (a.out.done (t:=.mk 2 t.tx 0 (pl t.f) []) (Am.nil _) _ _ _ _ _ c)
 ·rw[if_neg (Nat.not_lt.2 (Int.ofNat_le.1 ‹(t.tx.length:Int)<=(256:Int)›))] at c
  replace a:=T;clear T
  (try clear k l m o u c5 A);(try clear B C D E F G);(try clear H I J L M N);(try clear o0 o1 o2 o3 o4 of);(try clear k0 k1 k2 k3 k4 kf)
  (try clear x0 x1 x2 x3 x4 xf i0 i1 i2 i3 i4 ig)
  revert a
  generalize World.setCell w3 _ _=X;intro a;obtain⟨O,P,Q,R,S,zf⟩:=((((a.out.b1.set0 (.int .i64 2)).set1 (.string ⟨t.tx.toArray⟩)).set2 (.float .f64 0)).set3 (.slice none 0 0)).set4 (.complex .f64 (pl t.f).1 (pl t.f).2);exact bodyPost_ret (v:=.agg #[.int .i64 2,.string ⟨t.tx.toArray⟩,.float .f64 0,.slice none 0 0,.complex .f64 (pl t.f).1 (pl t.f).2]) (by simp[results,results302,go_sem,O,P,Q,R,S]<;>exact rfl) rfl (a.out.done (t:=.mk 2 t.tx 0 (pl t.f) []) (Am.nil _) _ _ _ _ _ c)
 ·obtain⟨O,P,Q,R,S,zf⟩:=((((a.out.b1.set0 (.int .i64 4)).set1 (.string ⟨t.tx.toArray⟩)).set2 (.float .f64 0)).set3 (.slice none 0 0)).set4 (.complex .f64 (pl t.f).1 (pl t.f).2)
  exact bodyPost_ret (v:=.agg #[.int .i64 4,.string ⟨t.tx.toArray⟩,.float .f64 0,.slice none 0 0,.complex .f64 (pl t.f).1 (pl t.f).2]) (by simp[results,results302,go_sem,O,P,Q,R,S]<;>exact rfl) rfl (a.out.done (t:=.mk 4 t.tx 0 (pl t.f) []) (Am.nil _) _ _ _ _ _ c)
 ·(try clear k l m o u c5 A);(try clear B C D E F G);(try clear H I J L M N);(try clear o0 o1 o2 o3 o4 of);(try clear k0 k1 k2 k3 k4 kf)
  refine a.out.region 6 (by kernel_rfl) (fun V=>?_);refine AbP 0 (.pointer (some ⟨w1.heap.size,1,none⟩)) rfl V ?_
  try simp only[Act.put,sP]
  refine AbU 1 (.string ⟨t.tx.toArray⟩) rfl (fun w hS=>by obtain⟨s0,s1,s2,s3,s4,-⟩:=hS.b0;go_simp) V ?_
  try simp only[Act.put,sP]
  refine AbP 2 (.complex .f64 (pl t.f).1 (pl t.f).2) rfl V ?_
  try simp only[Act.put,sP]
  refine AbP 3 (.pointer (some ⟨q,0,none⟩)) rfl V ?_
  try simp only[Act.put,sP]
  refine AaC 4 rfl (fun K hK=>?_)
  try go_simp
  go_at_call 189
  refine(HI.out [93] _ _ a.out.drew.z (K0 c Z)).mono ?_;intro e w8 ha;obtain⟨l8,p8,v,rfl,⟨Y,j⟩,i,d⟩:=ha.part c Z;replace c:=d;clear d ha
  (try dsimp only at c)
  obtain⟨e0,f0,rfl⟩:=Y.slice;replace a:=aA (a.out.drew.read Y j i);clear Y j i V;refine hK.out _ _ (.inr a.out.bs) ?_
  try simp only[Act.put,sP]
  refine AaC 5 rfl (fun K hK=>?_)
  try go_simp
  refine hK.out _ _ (.inr a.out.bs) ?_
  try simp only[Act.put,sP]
  obtain⟨H,I,J,L,M,N⟩:=a.out.b1;refine AaC 6 rfl (fun K hK=>?_)
  try go_simp
  refine hK.out _ _ (.inl rfl) ?_
  try simp only[Act.put,sP]
  refine Aal (by kernel_rfl) ?_ _;go_wp2;obtain⟨O,P,Q,R,S,zf⟩:=((((a.out.b1.set0 (.int .i64 5)).set1 (.string ⟨t.tx.toArray⟩)).set2 (.float .f64 0)).set3 (.slice e0 l8.length f0)).set4 (.complex .f64 (pl t.f).1 (pl t.f).2);exact bodyPost_ret (v:=.agg #[.int .i64 5,.string ⟨t.tx.toArray⟩,.float .f64 0,.slice e0 l8.length f0,.complex .f64 (pl t.f).1 (pl t.f).2]) (by simp[results,results302,go_sem,O,P,Q,R,S]<;>exact rfl) rfl (a.out.done (t:=.mk 5 t.tx 0 (pl t.f) l8) a.out.k0 _ _ _ _ _ c)
 iterate 2
  focus
   obtain⟨O,P,Q,R,S,zf⟩:=((((a.out.b1.set0 (.int .i64 y.kd)).set1 (.string ⟨y.nm.toArray⟩)).set2 (.float .f64 y.x)).set3 (.slice ay y.ks.length cy)).set4 (.complex .f64 y.z.1 y.z.2);exact bodyPost_ret (v:=CJ y (.slice ay y.ks.length cy)) (by simp[CJ,results,results302,go_sem,O,P,Q,R,S]<;>exact rfl) rfl (a.out.done a.out.k0 _ _ _ _ _ c)
 ·replace a:=aA a.out.kid1
  obtain⟨O,P,Q,R,S,zf⟩:=((((a.out.b1.set0 (.int .i64 6)).set1 (.string ⟨#[]⟩)).set2 (.float .f64 0)).set3 (.slice (some ⟨w7.heap.size,0,none⟩) 1 1)).set4 (.complex .f64 (pl t.f).1 (pl t.f).2);exact bodyPost_ret (v:=.agg #[.int .i64 6,.string ⟨#[]⟩,.float .f64 0,.slice (some ⟨w7.heap.size,0,none⟩) 1 1,.complex .f64 (pl t.f).1 (pl t.f).2]) (by simp[results,results302,go_sem,O,P,Q,R,S]<;>exact rfl) rfl (a.out.done (t:=.mk 6 [] 0 (pl t.f) [y]) a.out.k0 _ _ _ _ _ c)
 iterate 2
  focus
   obtain⟨O,P,Q,R,S,zf⟩:=((((a.out.b1.set0 (.int .i64 0)).set1 (.string ⟨#[]⟩)).set2 (.float .f64 0)).set3 (.slice none 0 0)).set4 (.complex .f64 0 0);exact bodyPost_ret (v:=.agg #[.int .i64 0,.string ⟨#[]⟩,.float .f64 0,.slice none 0 0,.complex .f64 0 0]) (by simp[results,results302,go_sem,O,P,Q,R,S]<;>exact rfl) rfl (a.out.done (t:=.mk 0 [] 0 (0,0) []) (Am.nil _) _ _ _ _ _ c)
 (try clear k l m o u c5 A);(try clear B C D E F G);(try clear H I J L M N);(try clear o0 o1 o2 o3 o4 of);(try clear k0 k1 k2 k3 k4 kf)
 revert a
 generalize World.alloc w1 _=X;intro a;obtain⟨O,P,Q,R,S,zf⟩:=((((a.out.b1.set0 (.int .i64 0)).set1 (.string ⟨#[]⟩)).set2 (.float .f64 0)).set3 (.slice none 0 0)).set4 (.complex .f64 0 0);exact bodyPost_ret (v:=.agg #[.int .i64 0,.string ⟨#[]⟩,.float .f64 0,.slice none 0 0,.complex .f64 0 0]) (by simp[results,results302,go_sem,O,P,Q,R,S]<;>exact rfl) rfl (a.out.done (t:=.mk 0 [] 0 (0,0) []) (Am.nil _) _ _ _ _ _ c)
theorem AiY (l:List Tr):(l.length=1/\((l.length:Int)==1)=true)\/(l.length≠1/\((l.length:Int)==1)=false):=by
 by_cases h:l.length=1
 ·exact .inl ⟨h,beq_iff_eq.2 (by omega)⟩
 exact .inr ⟨h,beq_eq_false_iff_ne.2 (by omega)⟩
theorem ok3 (p:Rs) (l:List Tr):(p.e≠0/\decide (p.e=0)=false/\(l.length=l.length))\/(l.length=1/\decide (p.e=0)=true/\((l.length:Int)==1)=true)\/(¬ (p.e≠0\/l.length=1)/\decide (p.e=0)=true/\((l.length:Int)==1)=false):=by
 rcases okC p with⟨c,a⟩ | ⟨c,a⟩
 ·rcases AiY l with⟨f,b⟩ | ⟨f,b⟩
  ·exact .inr (.inl ⟨f,a,b⟩)
  exact .inr (.inr ⟨fun d=>d.elim (fun e=>e c) f,a,b⟩)
 exact .inl ⟨c,a,rfl⟩
theorem Air {l:List Tr} {t:Tr} (h:l[0]?=some t):hd1 l=t:=by
 cases l with
 | nil=>cases h
 | cons x l=>injection h
theorem AgB {y W w:World} {q B:Nat} {s:ByteArray} {p:Rs} {v:List B5} {k:List Tr} {a:Option Addr} {c:Nat} {ks:List (List Tr×Value)} (h:Fr y W q B s p v ((k,.slice a k.length c)::ks) w) (j:1<=k.length) :
  ∃b t d f,a=some ⟨b,0,none⟩/\hd1 k=t/\Am 42 w (B <= ·) t.ks (.slice d t.ks.length f) /\
   w.cell? ⟨b,0,none⟩=some (.int .i64 t.kd)/\w.cell? ⟨b,1,none⟩=some (.string ⟨t.nm.toArray⟩)/\w.cell? ⟨b,2,none⟩=some (.float .f64 t.x)/\w.cell? ⟨b,3,none⟩=some (.slice d t.ks.length f)/\w.cell? ⟨b,4,none⟩=some (.complex .f64 t.z.1 t.z.2):=by
 obtain⟨b,A,u,m,t,l,g,k0,k1,n,o,r⟩:=h.ka.cells 0 j;obtain⟨d,f,rfl⟩:=g.slice;injection m with i;exact⟨b,t,d,f,i,Air l,g.mono fun _ _ e=>e.1,k0,k1,n,o,r⟩
set_option linter.unusedSimpArgs false in
theorem Ads {nx:Nat->Bool->Tk} {pl:Nat->Nat×Nat} {ere:List UInt8->Option Bool} {w0:World} {q:Nat} {s:ByteArray} (hN:RxC nx s w0) (hP:RlC pl s) (n:Nat)
  (hV:NR nx pl ere w0 q s n .lval 301)
  (hQ:NR nx pl ere w0 q s n .operand 302)
  (hO:∀m,m<=n->NR nx pl ere w0 q s m .expr 93):NR nx pl ere w0 q s (n+1) .primary 299:=by
 intro p W h R;obtain⟨r,er⟩:∃r,B0 nx pl ere (n+1) .primary p=r:=⟨_,rfl⟩;rw[er] at R ⊢;rw[B0] at er;have d:=aA er;have c:=aA (Fr.start1 h (.int .i64 0) (.string ⟨#[]⟩) (.float .f64 0) (.slice none 0 0) (.complex .f64 0 0) 42);have HN:=aA hN;have HP:=aA hP;have HV:=aA (fun(p:Rs) (W:World) (h:Rz w0 q s p W) (g:B0 nx pl ere n .lval p ≠ .hush)=>hV p W h g);have HQ:=aA (fun(p:Rs) (W:World) (h:Rz w0 q s p W) (g:B0 nx pl ere n .operand p ≠ .hush)=>hQ p W h g);have HO:=aA (fun m (hm:m<=n) (p:Rs) (W:World) (h:Rz w0 q s p W) (g:B0 nx pl ere m .expr p ≠ .hush)=>hO m hm p W h g);clear er h hN hP hV hQ hO
 (try clear A B C D E c5 F);(try clear G H I J M N);(try clear V Y Z n3 n4 nf);(try clear o0 S T U o4 of);(try clear k0 k1 k2 k3 k4 kf);obtain⟨A,B,C,D,E,c5,F⟩:=c.out.z.c6;obtain⟨G,H,I,J,M,N⟩:=c.out.b0
 obtain⟨i0,a1,e1,f1,g1⟩:=info_parts Y8
 go_in
 go_wp2_with (first | (go_at_call 27;(with_reducible refine(Abv c.out.z).mono ?_);rintro e w1 ⟨rfl,rfl⟩;rcases okC p with⟨P,hb⟩ | ⟨P,hb⟩<;>rw[hb]<;>clear hb<;>(first | replace d:=Ym (P) d | (replace d:=XY (fun e=>e P) d;have h1:=aA P))<;>clear P) | (go_at_call 115;(with_reducible refine(Aby HN.out HP.out c.out.z [43,43,32,45,45] [[43,43],[45,45]] (by kernel_rfl) (by decide)).mono ?_);intro e w2 ha;obtain⟨o,p2,v,rfl,⟨rfl,w⟩,k,i⟩:=ha.part d R;replace d:=i;clear i ha;(try dsimp only at d);replace c:=aA (c.out.move w k);clear w k;rcases o with _ | ⟨sx,sz⟩<;>dsimp only at d<;>unfold Acy<;>dsimp only;all_goals ((try clear A B C D E c5 F);(try clear G H I J M N);(try clear V Y Z n3 n4 nf);(try clear o0 S T U o4 of);(try clear k0 k1 k2 k3 k4 kf);obtain⟨A,B,C,D,E,c5,F⟩:=c.out.z.c6;obtain⟨G,H,I,J,M,N⟩:=c.out.b0)) | (go_at_call 301;(with_reducible refine(HV.out _ _ c.out.z (K0 d R)).mono ?_);intro e w3 ha;obtain⟨_,p3,v,rfl,⟨⟨y,kv,rfl,rfl,hk⟩,w⟩,k,i⟩:=ha.part d R;replace d:=i;clear i ha;(try dsimp only at d);obtain⟨ay,cy,rfl⟩:=hk.slice;replace c:=aA ((c.out.read hk w k));clear hk w k;(try dsimp only[hd1,aH,aB,aD,aE] at d);(try clear A B C D E c5 F);(try clear G H I J M N);(try clear V Y Z n3 n4 nf);(try clear o0 S T U o4 of);(try clear k0 k1 k2 k3 k4 kf);obtain⟨A,B,C,D,E,c5,F⟩:=c.out.z.c6;obtain⟨G,H,I,J,M,N⟩:=c.out.b0;unfold CJ;obtain⟨j0,j1,j2,j3,j4,jf⟩:=c.out.kid1.b0) | (go_at_call 51;(with_reducible refine(AbB HN.out c.out.z [40]).mono ?_);intro e w4 ha;obtain⟨b,p4,v,rfl,⟨⟨rfl,rfl,-⟩,w⟩,k,i⟩:=ha.part d R;replace d:=i;clear i ha;(try dsimp only at d);replace c:=aA (c.out.move w k);clear w k;cases b<;>(simp only[if_true,if_false,aF,reduceIte] at d);all_goals ((try clear A B C D E c5 F);(try clear G H I J M N);(try clear V Y Z n3 n4 nf);(try clear o0 S T U o4 of);(try clear k0 k1 k2 k3 k4 kf);obtain⟨A,B,C,D,E,c5,F⟩:=c.out.z.c6;obtain⟨G,H,I,J,M,N⟩:=c.out.b0);all_goals (have HX:=aA (c.out.setG false))) | (go_at_call 302;(with_reducible refine(HQ.out _ _ c.out.z (K0 (Ab1 d) R)).mono ?_);intro e w5 ha;obtain⟨_,p5,v,rfl,⟨⟨y,kv,rfl,rfl,hk⟩,w⟩,k,i⟩:=ha.part (Ab1 d) R;replace d:=i;clear i ha;(try dsimp only at d);obtain⟨ay,cy,rfl⟩:=hk.slice;replace c:=aA ((c.out.read hk w k));clear hk w k;(try dsimp only[hd1,aH,aB,aD,aE] at d);(try clear A B C D E c5 F);(try clear G H I J M N);(try clear V Y Z n3 n4 nf);(try clear o0 S T U o4 of);(try clear k0 k1 k2 k3 k4 kf);obtain⟨A,B,C,D,E,c5,F⟩:=c.out.z.c6;obtain⟨G,H,I,J,M,N⟩:=c.out.b0;unfold CJ) | (go_at_call 88;(with_reducible refine(AbQ HN.out HP.out HX.out.z [40]).mono ?_);intro e w6 ha;obtain⟨_,p6,v,rfl,⟨rfl,w⟩,k,i⟩:=ha.part d R;replace d:=i;clear i ha;(try dsimp only at d);replace c:=aA (HX.out.move w k);clear w k HX;(try clear A B C D E c5 F);(try clear G H I J M N);(try clear V Y Z n3 n4 nf);(try clear o0 S T U o4 of);(try clear k0 k1 k2 k3 k4 kf);obtain⟨A,B,C,D,E,c5,F⟩:=c.out.z.c6;obtain⟨G,H,I,J,M,N⟩:=c.out.b0) | (go_at_call 93;(with_reducible refine(HO.out _ (Nat.le_refl _) _ _ c.out.z (K0 d R)).mono ?_);intro e w7 ha;obtain⟨_,p7,v,rfl,⟨⟨u,kv,rfl,rfl,hk⟩,w⟩,k,i⟩:=ha.part d R;replace d:=i;clear i ha;(try dsimp only at d);obtain⟨au,cu,rfl⟩:=hk.slice;replace c:=aA (c.out.read hk w k).kid1;clear hk w k;(try clear A B C D E c5 F);(try clear G H I J M N);(try clear V Y Z n3 n4 nf);(try clear o0 S T U o4 of);(try clear k0 k1 k2 k3 k4 kf);obtain⟨A,B,C,D,E,c5,F⟩:=c.out.z.c6;obtain⟨G,H,I,J,M,N⟩:=c.out.b0;unfold CJ))
 ·obtain⟨z0,z1,z2,z3,z4,zf⟩:=((((c.out.b0.set0 (.int .i64 y.kd)).set1 (.string ⟨y.nm.toArray⟩)).set2 (.float .f64 y.x)).set3 (.slice ay y.ks.length cy)).set4 (.complex .f64 y.z.1 y.z.2)
  exact bodyPost_ret (v:=CJ y (.slice ay y.ks.length cy)) (by simp[CJ,results,results299,go_sem,z0,z1,z2,z3,z4]<;>exact rfl) rfl (c.out.done c.out.k0 _ _ _ _ _ d)
 ·obtain⟨K,HK,i⟩:=Af3 d
  replace d:=i;clear i
  go_loopg [7] n (fun g v7 wr=>∃(m:Nat) (l:List Tr) (al:Option Addr) (cl:Nat) (pr:Rs),m=g/\v7 = .slice al l.length cl/\(1<=l.length/\m<=n/\l.length<=pr.a+1)/\Hid ((B0 nx pl ere m (.listL l) pr).bind K=r)/\Hid (Fr w0 W q (W.heap.size+1) s pr [⟨W.heap.size,.int .i64 0,.string ⟨#[]⟩,.float .f64 0,.slice none 0 0,.complex .f64 0 0⟩] [(l,.slice al l.length cl)] wr))
  case atStart=>exact⟨n,[u],some ⟨w7.heap.size,0,none⟩,1,p7,rfl,rfl,⟨Nat.le_refl _,Nat.le_refl _,by simp only[aC];omega⟩,d,aA c.out.row1⟩
  clear c d;obtain⟨m,l,al,cl,pr,rfl,rfl,g0,d,c⟩:=hrel;have q0:=aA g0.1;have r0:=aA g0.2.2;replace g0:=g0.2.1
  cases m with
  | zero=>exact absurd d.out.symm R
  | succ m =>
  replace d:=aA (Acw d.out)
  (try clear A B C D E c5 F);(try clear G H I J M N);(try clear V Y Z n3 n4 nf);(try clear o0 S T U o4 of);(try clear k0 k1 k2 k3 k4 kf);obtain⟨A,B,C,D,E,c5,F⟩:=c.out.z.c6;obtain⟨G,H,I,J,M,N⟩:=c.out.b0
  go_wp2_with (first | (go_at_call 27;have ht:=O;clear ht;(with_reducible refine(Abv O.out.z).mono ?_);rintro e w9 ⟨rfl,rfl⟩;rcases ok3 p8 l with⟨P,hb,-⟩ | ⟨hl,hb,bl⟩ | ⟨hc,hb,bl⟩<;>rw[hb]<;>clear hb<;>(first | (replace d:=XY hc d;clear hc) | (replace d:=Ym (Or.inl P) d;clear P;obtain⟨kb,t0,a0,d0,rfl,eh,e0,k0,k1,k2,k3,k4⟩:=AgB O.out q0.out;rw[eh] at d;have h0:=aA e0;clear e0 eh;obtain⟨i0,i1,i2,i3,i4,ig⟩:=O.out.b0) | (replace d:=Ym (Or.inr hl) d;clear hl;obtain⟨kb,t0,a0,d0,rfl,eh,e0,k0,k1,k2,k3,k4⟩:=AgB O.out q0.out;rw[eh] at d;have h0:=aA e0;clear e0 eh;obtain⟨i0,i1,i2,i3,i4,ig⟩:=O.out.b0))) | (at_builtin;have HG:=aA (c.out.quiet (Ad _ (.cells #[.int .i64 y.kd,.string ⟨y.nm.toArray⟩,.float .f64 y.x,.slice ay y.ks.length cy,.complex .f64 y.z.1 y.z.2] 42)));obtain⟨L,hL,f0,hS,v0⟩:=HG.out.ka.owns (W.heap.size+1) (fun j e=>e.1);have x0:L.length=l.length:=(by rw[<- hL,List.length_map]);have y0:=HG.out.hB.2;have hq:=HQ.out;have d1:=r0.out;refine Bg _ rfl (.tmp 50) (.tmp 53) 38 rfl (W.heap.size+1) 42 i0 _ 5 72 underlying38 a1 e1 f1 g1 rfl (by decide) _ _ _ rfl f0 ⟨w5.heap.size,0,none⟩ 1 1 (Ah [(y,.slice ay y.ks.length cy)]) rfl rfl (Z2 _ _ _) (ZB _ _ _ _) (by unfold maxLen;omega) (by omega) y0 (by decide) ?_;intro v6 w6 S T U;have hF:=HG.out.append hL (fun g e=>⟨hS g e,(f0.lt g e).2⟩) v0 (HA.out.bel (Ad _ _)) S T U;obtain⟨a6,c6,rfl⟩:=hF.ka.slice;replace c:=aA hF;clear hF S T U hL f0 hS v0 x0 y0 hq d1 HG HA) | (go_at_call 27;(with_reducible refine(Abv c.out.z).mono ?_);rintro e w2 ⟨rfl,rfl⟩;rcases okC pr with⟨P,hb⟩ | ⟨P,hb⟩<;>rw[hb]<;>clear hb<;>(first | replace d:=Ym (P) d | (replace d:=XY (fun e=>e P) d;have l1:=aA P))<;>clear P) | (go_at_call 88;(with_reducible refine(AbQ HN.out HP.out c.out.z [44]).mono ?_);intro e w3 ha;obtain⟨b,p3,v,rfl,⟨rfl,w⟩,k,i,P⟩:=ha.partE d R;replace d:=i;clear i ha;(try dsimp only at d);have s0:=aA c.out.z;replace c:=aA (c.out.move w k);clear w k;cases b<;>(simp only[if_true,if_false,aF,reduceIte] at d);all_goals ((try clear A B C D E c5 F);(try clear G H I J M N);(try clear V Y Z n3 n4 nf);(try clear o0 S T U o4 of);(try clear k0 k1 k2 k3 k4 kf);obtain⟨A,B,C,D,E,c5,F⟩:=c.out.z.c6;obtain⟨G,H,I,J,M,N⟩:=c.out.b0);all_goals (have l0:=P;clear P)) | (go_at_call 28;(with_reducible refine(AbE HN.out c.out.z [] _ (K0 d R)).mono ?_);intro e w4 ha;obtain⟨_,p4,v,rfl,⟨rfl,w⟩,k,i,P⟩:=ha.partE d R;replace d:=i;clear i ha;(try dsimp only at d);replace c:=aA (c.out.move w k);clear w k;(try clear A B C D E c5 F);(try clear G H I J M N);(try clear V Y Z n3 n4 nf);(try clear o0 S T U o4 of);(try clear k0 k1 k2 k3 k4 kf);obtain⟨A,B,C,D,E,c5,F⟩:=c.out.z.c6;obtain⟨G,H,I,J,M,N⟩:=c.out.b0;have p0:=P;clear P) | (go_at_call 93;(with_reducible refine(HO.out _ (by omega) _ _ c.out.z (K0 d R)).mono ?_);intro e w5 ha;obtain⟨_,p5,v,rfl,⟨⟨y,kv,rfl,rfl,hk⟩,w⟩,k,i,P⟩:=ha.partE d R;replace d:=i;clear i ha;have HQ:=aA (AcH HN.out s0.out l0.out p0.out P.out);clear P l0 p0 s0;(try dsimp only at d);obtain⟨ay,cy,rfl⟩:=hk.slice;have HA:=aA (c.out.apart hk);replace c:=aA (c.out.move w k);clear hk w k;(try clear A B C D E c5 F);(try clear G H I J M N);(try clear V Y Z n3 n4 nf);(try clear o0 S T U o4 of);(try clear k0 k1 k2 k3 k4 kf);obtain⟨A,B,C,D,E,c5,F⟩:=c.out.z.c6;obtain⟨G,H,I,J,M,N⟩:=c.out.b0;unfold CJ) | (go_at_call 87;(with_reducible refine(Ab4 HN.out HP.out O.out.z false).mono ?_);intro e s1 ha;obtain⟨⟨t,z⟩,p1,v,rfl,⟨⟨rfl,rfl,-⟩,w⟩,k,i⟩:=ha.part d R;replace d:=i;clear i ha;replace c:=aA ((O.out.move w k).box (.int .i64 t.kd) (.string ⟨t.tx.toArray⟩) (.float .f64 t.nm) (.int .i64 t.f) (.int .i64 t.t) 70);clear w k O;(try dsimp only at d);(try dsimp only);(try clear A B C D E c5 F);(try clear G H I J M N);(try clear V Y Z n3 n4 nf);(try clear o0 S T U o4 of);(try clear k0 k1 k2 k3 k4 kf);obtain⟨A,B,C,D,E,c5,F⟩:=c.out.z.c6;obtain⟨G,H,I,J,M,N⟩:=c.out.b0;obtain⟨V,Y,Z,n3,n4,nf⟩:=c.out.b1;unfold G1) | (go_at_call 89;(with_reducible refine(Abn HN.out HP.out c.out.z [105,110]).mono ?_);intro e t1 ha;obtain⟨_,q1,v,rfl,⟨rfl,w⟩,k,i⟩:=ha.part d R;replace d:=i;clear i ha;(try dsimp only at d);replace c:=aA (c.out.move w k);clear w k;(try clear A B C D E c5 F);(try clear G H I J M N);(try clear V Y Z n3 n4 nf);(try clear o0 S T U o4 of);(try clear k0 k1 k2 k3 k4 kf);obtain⟨A,B,C,D,E,c5,F⟩:=c.out.z.c6;obtain⟨G,H,I,J,M,N⟩:=c.out.b0;obtain⟨V,Y,Z,n3,n4,nf⟩:=c.out.b1) | (go_at_call 89;rw[HK.out] at d;(try dsimp only at d);(with_reducible refine(Abn HN.out HP.out c.out.z [41]).mono ?_);intro e w8 ha;obtain⟨_,p8,v,rfl,⟨rfl,w⟩,k,i⟩:=ha.part d R;replace d:=i;clear i ha;(try dsimp only at d);replace c:=aA (c.out.move w k);clear w k;(try clear A B C D E c5 F);(try clear G H I J M N);(try clear V Y Z n3 n4 nf);(try clear o0 S T U o4 of);(try clear k0 k1 k2 k3 k4 kf);obtain⟨A,B,C,D,E,c5,F⟩:=c.out.z.c6;obtain⟨G,H,I,J,M,N⟩:=c.out.b0;have O:=aA (c.out.setG p4.g)) | (go_at_call 90;(with_reducible refine(AdG HN.out HP.out c.out.z).mono ?_);intro e v1 ha;obtain⟨Q,r1,v,rfl,⟨rfl,w⟩,k,i⟩:=ha.part d R;replace d:=i;clear i ha;(try dsimp only at d);replace c:=aA ((c.out.move w k).box (.int .i64 Q.kd) (.string ⟨Q.tx.toArray⟩) (.float .f64 Q.nm) (.int .i64 Q.f) (.int .i64 Q.t) 70);clear w k;(try clear A B C D E c5 F);(try clear G H I J M N);(try clear V Y Z n3 n4 nf);(try clear o0 S T U o4 of);(try clear k0 k1 k2 k3 k4 kf);obtain⟨A,B,C,D,E,c5,F⟩:=c.out.z.c6;obtain⟨G,H,I,J,M,N⟩:=c.out.b0;obtain⟨V,Y,Z,n3,n4,nf⟩:=c.out.b1;obtain⟨o0,S,T,U,o4,of⟩:=c.out.b2;unfold G1))
  iterate 2
   focus
    replace c:=O;clear O;obtain⟨z0,z1,z2,z3,z4,zf⟩:=((((c.out.b0.set0 (.int .i64 t0.kd)).set1 (.string ⟨t0.nm.toArray⟩)).set2 (.float .f64 t0.x)).set3 (.slice a0 t0.ks.length d0)).set4 (.complex .f64 t0.z.1 t0.z.2);exact bodyPost_ret (v:=CJ t0 (.slice a0 t0.ks.length d0)) (by simp[CJ,results,results299,go_sem,z0,z1,z2,z3,z4]<;>exact rfl) rfl (c.out.done h0.out _ _ _ _ _ d)
  ·obtain⟨z0,z1,z2,z3,z4,zf⟩:=((((c.out.b2.set0 (.int .i64 11)).set1 (.string ⟨Q.tx.toArray⟩)).set2 (.float .f64 0)).set3 (.slice al l.length cl)).set4 (.complex .f64 z.1 z.2)
   exact bodyPost_ret (v:=.agg #[.int .i64 11,.string ⟨Q.tx.toArray⟩,.float .f64 0,.slice al l.length cl,.complex .f64 z.1 z.2]) (by simp[results,results299,go_sem,z0,z1,z2,z3,z4]<;>exact rfl) rfl (c.out.done (t:=.mk 11 Q.tx 0 z l) c.out.k0 _ _ _ _ _ d)
  ·go_roundg m
   case rel=>exact⟨m,l++[y],a6,c6,p5,rfl,by rw[aG,aC],⟨by rw[aG,aC];omega,by omega,by have:=r0.out;have:=HQ.out;rw[aG,aC];omega⟩,d,c⟩
   all_goals omega
  iterate 2
   focus
    replace c:=O;clear O;obtain⟨z0,z1,z2,z3,z4,zf⟩:=((((c.out.b0.set0 (.int .i64 t0.kd)).set1 (.string ⟨t0.nm.toArray⟩)).set2 (.float .f64 t0.x)).set3 (.slice a0 t0.ks.length d0)).set4 (.complex .f64 t0.z.1 t0.z.2);exact bodyPost_ret (v:=CJ t0 (.slice a0 t0.ks.length d0)) (by simp[CJ,results,results299,go_sem,z0,z1,z2,z3,z4]<;>exact rfl) rfl (c.out.done h0.out _ _ _ _ _ d)
  obtain⟨z0,z1,z2,z3,z4,zf⟩:=((((c.out.b2.set0 (.int .i64 11)).set1 (.string ⟨Q.tx.toArray⟩)).set2 (.float .f64 0)).set3 (.slice al l.length cl)).set4 (.complex .f64 z.1 z.2);exact bodyPost_ret (v:=.agg #[.int .i64 11,.string ⟨Q.tx.toArray⟩,.float .f64 0,.slice al l.length cl,.complex .f64 z.1 z.2]) (by simp[results,results299,go_sem,z0,z1,z2,z3,z4]<;>exact rfl) rfl (c.out.done (t:=.mk 11 Q.tx 0 z l) c.out.k0 _ _ _ _ _ d)
 ·replace c:=aA c.out.kid1
  obtain⟨z0,z1,z2,z3,z4,zf⟩:=((((c.out.b0.set0 (.int .i64 17)).set1 (.string ⟨sx.toArray⟩)).set2 (.float .f64 0)).set3 (.slice (some ⟨w3.heap.size,0,none⟩) 1 1)).set4 (.complex .f64 sz.1 sz.2);exact bodyPost_ret (v:=.agg #[.int .i64 17,.string ⟨sx.toArray⟩,.float .f64 0,.slice (some ⟨w3.heap.size,0,none⟩) 1 1,.complex .f64 sz.1 sz.2]) (by simp[results,results299,go_sem,z0,z1,z2,z3,z4]<;>exact rfl) rfl (c.out.done (t:=.mk 17 sx 0 sz [y]) c.out.k0 _ _ _ _ _ d)
 (try clear A B C D E c5 F);(try clear G H I J M N);(try clear V Y Z n3 n4 nf);(try clear o0 S T U o4 of);(try clear k0 k1 k2 k3 k4 kf)
 revert c
 generalize World.alloc W _=X;intro c;obtain⟨z0,z1,z2,z3,z4,zf⟩:=c.out.b0;exact bodyPost_ret (v:=.agg #[.int .i64 0,.string ⟨#[]⟩,.float .f64 0,.slice none 0 0,.complex .f64 0 0]) (by simp[results,results299,go_sem,z0,z1,z2,z3,z4]<;>exact rfl) rfl (c.out.here (t:=.mk 0 [] 0 (0,0) []) (Am.nil _) d)
end Go.Proofs.YtfblenhlildnaaaGreatDoor
