/- Cl Cb Cc Co Cp Cq -/
import Derived.Test.YtfblenhlildnaaaGreatDoorCk
import Derived.Test.YtfblenhlildnaaaGreatDoorBu
import Derived.Test.YtfblenhlildnaaaGreatDoorCn
import Derived.Test.YtfblenhlildnaaaGreatDoorCj
import Derived.Test.YtfblenhlildnaaaGreatDoorCf
import Derived.Deep.AppendLies
set_option maxRecDepth 100000
set_option maxHeartbeats 4000000
open Go.Lib renaming hid->aA
open Bool renaming false_eq_true->aB
open List renaming singleton_append->aC,pairwise_cons->aE,cons_append->aF,mem_cons->aG,nil_append->aH,headD->aI
open Nat renaming le_refl->aD
namespace Go.Proofs.YtfblenhlildnaaaGreatDoor
open Go.Proofs.Tryz
open Go.RowKit
set_option linter.unusedSimpArgs false in
theorem XQ {nx:Nat->Bool->Tk} {pl:Nat->Nat×Nat} {ere:List UInt8->Option Bool} {w0:World} {q:Nat} {s:ByteArray} (hN:F2 nx s w0) (hP:H6 pl s) (n:Nat)
  (hI:LC nx pl ere w0 q s n .index 181)
  (hD:NC nx pl ere w0 q s n .dollar 312):NC nx pl ere w0 q s (n+1) .target 308:=by
 intro p W h Y;obtain⟨r,T⟩:∃r,Dn nx pl ere (n+1) .target p=r:=⟨_,rfl⟩;rw[T] at Y ⊢;rw[Dn] at T;have M:=aA T;have a:=aA (Fx.start1 h (.int .i64 0) (.string ⟨#[]⟩) (.float .f64 0) (.slice none 0 0) (.complex .f64 0 0) 42);have HN:=aA hN;have HP:=aA hP;have HI:=aA (fun p W h g=>hI p W h g);have HD:=aA (fun p W h g=>hD p W h g);clear T h hN hP hI hD;obtain⟨d,i,j,k,l,m⟩:=a.out.b0
 go_in
 go_wp2_with (first | (go_at_call 65;(with_reducible refine(DS HN.out a.out.z true).mono ?_);intro e w2 ha;rcases ha.part M Y with⟨f,T,rfl,L,hr⟩ | ⟨c,p2,v,rfl,⟨rfl,rfl,h0,et,a0,R⟩,L,N⟩;exact⟨rfl,BX hr (a.out.o.trans L)⟩;replace M:=N;clear N ha;(try dsimp only at M);replace a:=aA ((a.out.quiet R).box (.int .i64 c.kd) (.string ⟨c.tx.toArray⟩) (.float .f64 c.nm) (.int .i64 c.f) (.int .i64 c.t) 70);clear h0 et R L;(try clear d i j k l m);(try clear u x A B C D);(try clear E F G H I J);(try clear m30 m31 m32 m33 m34 m3f);obtain⟨d,i,j,k,l,m⟩:=a.out.b0;obtain⟨u,x,A,B,C,D⟩:=a.out.b1;unfold G1;rcases Xt c.kd 5 with⟨S,be,bn⟩ | ⟨S,be,bn⟩<;>((first | replace M:=Ym S M | replace M:=XY S M | skip);clear S)) | (go_at_call 45;(with_reducible refine(EE c [36] _).mono ?_);rintro e w3 ⟨rfl,R⟩;replace a:=aA (a.out.quiet R);clear R;cases hs:isS c [36]<;>(simp only[hs,if_true,if_false,aB,reduceIte,or_true,true_or,or_false,false_or,and_true,true_and,and_false,false_and] at M;clear hs);all_goals ((try clear d i j k l m);(try clear u x A B C D);(try clear E F G H I J);(try clear m30 m31 m32 m33 m34 m3f);obtain⟨d,i,j,k,l,m⟩:=a.out.b0;obtain⟨u,x,A,B,C,D⟩:=a.out.b1)) | (go_at_call 67;(with_reducible refine(E3 a.out.z c).mono ?_);rintro e w9 ⟨rfl,R⟩;exact⟨rfl,BX (aA M.out.symm) (a.out.o.trans R)⟩) | (go_at_call 66;(with_reducible refine(C2 HP.out a.out.z c a0).mono ?_);rintro e w4 ⟨rfl,P,L⟩;replace a:=aA (a.out.move P L);clear P L;(try clear d i j k l m);(try clear u x A B C D);(try clear E F G H I J);(try clear m30 m31 m32 m33 m34 m3f);obtain⟨d,i,j,k,l,m⟩:=a.out.b0;obtain⟨u,x,A,B,C,D⟩:=a.out.b1;replace a:=aA (a.out.box (.int .i64 6) (.string ⟨#[]⟩) (.float .f64 0) (.slice none 0 0) (.complex .f64 (pl c.f).1 (pl c.f).2) 42);(try clear d i j k l m);(try clear u x A B C D);(try clear E F G H I J);(try clear m30 m31 m32 m33 m34 m3f);obtain⟨d,i,j,k,l,m⟩:=a.out.b0;obtain⟨u,x,A,B,C,D⟩:=a.out.b1;obtain⟨E,F,G,H,I,J⟩:=a.out.b2) | (go_at_call 312;(with_reducible refine(HD.out _ _ a.out.z (CA M Y)).mono ?_);intro e w5 ha;rcases ha.part M Y with⟨f,T,rfl,L,hr⟩ | ⟨_,p5,v,rfl,⟨⟨y,kv,rfl,rfl,Z⟩,P⟩,L,N⟩;exact⟨rfl,BX hr (a.out.o.trans L)⟩;replace M:=N;clear N ha;(try dsimp only at M);obtain⟨ay,cy,rfl⟩:=Z.slice;replace a:=aA (a.out.read Z P L).kid1;clear Z P L;(try dsimp only[hd1,aI,aC,aF,aH] at M);(try clear d i j k l m);(try clear u x A B C D);(try clear E F G H I J);(try clear m30 m31 m32 m33 m34 m3f);obtain⟨d,i,j,k,l,m⟩:=a.out.b0;obtain⟨u,x,A,B,C,D⟩:=a.out.b1;obtain⟨E,F,G,H,I,J⟩:=a.out.b2;replace a:=aA (a.out.put3 (.slice (some ⟨w5.heap.size,0,none⟩) 1 1));obtain⟨c0,d0,e0,f0,g0,i0⟩:=a.out.b0;obtain⟨j0,l0,m0,o0,p0,q0⟩:=a.out.b1;obtain⟨r0,t0,v0,x0,y0,a1⟩:=a.out.b2;unfold CJ))
 ·go_cut [4] (fun v wx=>∃nb,v = .pointer (some ⟨nb,0,none⟩)/\Hid (Fx w0 W q (W.heap.size+1) s (CQ c p2) [⟨nb,.int .i64 4,.string ⟨c.tx.toArray⟩,.float .f64 0,.slice none 0 0,.complex .f64 (pl c.f).1 (pl c.f).2⟩,⟨w2.heap.size,.int .i64 c.kd,.string ⟨c.tx.toArray⟩,.float .f64 c.nm,.int .i64 c.f,.int .i64 c.t⟩,⟨W.heap.size,.int .i64 0,.string ⟨#[]⟩,.float .f64 0,.slice none 0 0,.complex .f64 0 0⟩] [] wx))
  case first =>
   (try clear d i j k l m);(try clear u x A B C D);(try clear E F G H I J);(try clear m30 m31 m32 m33 m34 m3f)
   revert a
   (try generalize World.alloc _ _=X)
   intro a;refine a.out.region 7 (by kernel_rfl) (fun Q=>?_);refine AbP 0 (.pointer (some ⟨w2.heap.size,1,none⟩)) rfl Q ?_
   try simp only[Act.put,sP]
   refine AbU 1 (.string ⟨c.tx.toArray⟩) rfl (fun w hS=>by obtain⟨s0,s1,s2,s3,s4,-⟩:=hS.b0;go_simp) Q ?_
   try simp only[Act.put,sP]
   refine AbP 2 (.pointer (some ⟨q,0,none⟩)) rfl Q ?_
   try simp only[Act.put,sP]
   refine AbU 3 ((.agg #[.int .i64 c.kd,.string ⟨c.tx.toArray⟩,.float .f64 c.nm,.int .i64 c.f,.int .i64 c.t])) rfl (fun w hS=>by obtain⟨s0,s1,s2,s3,s4,-⟩:=hS.b0;go_simp) Q ?_
   try simp only[Act.put,sP]
   refine BW (rs:=[4,6]) (by kernel_rfl) rfl (BS.cons rfl (by rfl) (fun K O=>?_) (BS.cons rfl (by rfl) (fun K O=>?_) BS.nil))
   ·try go_simp
    go_at_call 66
    refine(C2 HP.out a.out.drew.z c a0).mono ?_;rintro e w8 ⟨rfl,P,L⟩;replace a:=aA (a.out.drew.move P L);clear P L Q;refine O.out _ _ (.inr a.out.bs) ?_
    try simp only[Act.put,sP]
    refine BW (rs:=[5,6]) (by kernel_rfl) rfl (BS.cons rfl (by rfl) (fun K O=>?_) (BS.cons rfl (by rfl) (fun K O=>?_) BS.nil))
    ·try go_simp
     refine O.out _ _ (.inr a.out.bs) ?_
     try simp only[Act.put,sP]
     refine AaC 6 rfl (fun K O=>?_)
     try go_simp
     have HA:=aA a.out;replace a:=aA (a.out.box (.int .i64 0) (.string ⟨#[]⟩) (.float .f64 0) (.slice none 0 0) (.complex .f64 0 0) 42);refine O.out _ _ (.inr a.out.drop.bs) ?_
     try simp only[Act.put,sP]
     refine AaC 7 rfl (fun K O=>?_);obtain⟨n0,n1,n2,n3,n4,nf⟩:=a.out.b0
     try go_simp
     refine O.out _ _ (.inl rfl) ?_
     try simp only[Act.put,sP]
     refine Aal (by kernel_rfl) ?_ _;replace a:=aA (HA.out.box (.int .i64 4) (.string ⟨c.tx.toArray⟩) (.float .f64 0) (.slice none 0 0) (.complex .f64 (pl c.f).1 (pl c.f).2) 42);go_wp2;go_meet;exact⟨_,rfl,aA a.out.norow⟩
    try go_simp
    have HA:=aA a.out;replace a:=aA (a.out.box (.int .i64 0) (.string ⟨#[]⟩) (.float .f64 0) (.slice none 0 0) (.complex .f64 0 0) 42);refine O.out _ _ (.inr a.out.drop.bs) ?_
    try simp only[Act.put,sP]
    refine AaC 5 rfl (fun K O=>?_)
    try go_simp
    refine O.out _ _ (.inr a.out.drop.bs) ?_
    try simp only[Act.put,sP]
    refine AaC 7 rfl (fun K O=>?_);obtain⟨n0,n1,n2,n3,n4,nf⟩:=a.out.b0
    try go_simp
    refine O.out _ _ (.inl rfl) ?_
    try simp only[Act.put,sP]
    refine Aal (by kernel_rfl) ?_ _;replace a:=aA (HA.out.box (.int .i64 4) (.string ⟨c.tx.toArray⟩) (.float .f64 0) (.slice none 0 0) (.complex .f64 (pl c.f).1 (pl c.f).2) 42);go_wp2;go_meet;exact⟨_,rfl,aA a.out.norow⟩
   try go_simp
   replace a:=aA (a.out.box (.int .i64 0) (.string ⟨#[]⟩) (.float .f64 0) (.slice none 0 0) (.complex .f64 0 0) 42).drew;refine O.out _ _ (.inr a.out.drop.bs) ?_
   try simp only[Act.put,sP]
   refine AaC 4 rfl (fun K O=>?_)
   try go_simp
   go_at_call 66
   refine(C2 HP.out a.out.z c a0).mono ?_;rintro e w8 ⟨rfl,P,L⟩;replace a:=aA (a.out.move P L);clear P L Q;refine O.out _ _ (.inr a.out.drop.bs) ?_
   try simp only[Act.put,sP]
   refine AaC 5 rfl (fun K O=>?_)
   try go_simp
   refine O.out _ _ (.inr a.out.drop.bs) ?_
   try simp only[Act.put,sP]
   refine AaC 7 rfl (fun K O=>?_);obtain⟨n0,n1,n2,n3,n4,nf⟩:=a.out.b0
   try go_simp
   refine O.out _ _ (.inl rfl) ?_
   try simp only[Act.put,sP]
   refine Aal (by kernel_rfl) ?_ _;replace a:=aA (a.out.store (.int .i64 4) (.string ⟨c.tx.toArray⟩) (.float .f64 0) (.slice none 0 0) (.complex .f64 (pl c.f).1 (pl c.f).2));go_wp2;go_meet;exact⟨_,rfl,aA a.out.norow⟩
  obtain⟨nb,rfl,a⟩:=hcut
  (try clear d i j k l m);(try clear u x A B C D);(try clear E F G H I J);(try clear m30 m31 m32 m33 m34 m3f);obtain⟨d,i,j,k,l,m⟩:=a.out.b0;obtain⟨u,x,A,B,C,D⟩:=a.out.b1;obtain⟨E,F,G,H,I,J⟩:=a.out.b2
  go_wp2_with (first | (go_at_call 69;(with_reducible refine(F1 HN.out a.out.z [91]).mono ?_);intro e w6 ha;rcases ha.part M Y with⟨f,T,rfl,L,hr⟩ | ⟨b,p6,v,rfl,⟨rfl,rfl,R⟩,L,N⟩;exact⟨rfl,BX hr (a.out.o.trans L)⟩;replace M:=N;clear N ha;(try dsimp only at M);replace a:=aA (a.out.quiet R);clear R L;cases b<;>(simp only[if_true,if_false,aB,reduceIte] at M);all_goals ((try clear d i j k l m);(try clear u x A B C D);(try clear E F G H I J);(try clear m30 m31 m32 m33 m34 m3f);obtain⟨d,i,j,k,l,m⟩:=a.out.b0;obtain⟨u,x,A,B,C,D⟩:=a.out.b1;obtain⟨E,F,G,H,I,J⟩:=a.out.b2);rotate_left;have HX:=aA (a.out.put0 (.int .i64 5));obtain⟨c0,d0,e0,f0,g0,i0⟩:=HX.out.b0;obtain⟨j0,l0,m0,o0,p0,q0⟩:=HX.out.b1;obtain⟨r0,t0,v0,x0,y0,a1⟩:=HX.out.b2;clear HX) | (go_at_call 181;(with_reducible refine(HI.out _ _ (a.out.put0 (.int .i64 5)).z (CA M Y)).mono ?_);intro e w7 ha;rcases ha.part M Y with⟨f,T,rfl,L,hr⟩ | ⟨l7,p7,v,rfl,⟨Z,P⟩,L,N⟩;exact⟨rfl,BX hr ((a.out.put0 (.int .i64 5)).o.trans L)⟩;replace M:=N;clear N ha;(try dsimp only at M);obtain⟨U,V,rfl⟩:=Z.slice;replace a:=aA ((a.out.put0 (.int .i64 5)).read Z P L);clear Z P L;(try clear d i j k l m);(try clear u x A B C D);(try clear E F G H I J);(try clear m30 m31 m32 m33 m34 m3f);obtain⟨d,i,j,k,l,m⟩:=a.out.b0;obtain⟨u,x,A,B,C,D⟩:=a.out.b1;obtain⟨E,F,G,H,I,J⟩:=a.out.b2;(try clear d i j k l m);(try clear u x A B C D);(try clear E F G H I J);(try clear m30 m31 m32 m33 m34 m3f);obtain⟨d,i,j,k,l,m⟩:=a.out.b0;obtain⟨u,x,A,B,C,D⟩:=a.out.b1;obtain⟨E,F,G,H,I,J⟩:=a.out.b2;replace a:=aA (a.out.put3 (.slice U l7.length V));obtain⟨c0,d0,e0,f0,g0,i0⟩:=a.out.b0;obtain⟨j0,l0,m0,o0,p0,q0⟩:=a.out.b1;obtain⟨r0,t0,v0,x0,y0,a1⟩:=a.out.b2))
  ·obtain⟨z0,z1,z2,z3,z4,zf⟩:=((((a.out.b2.set0 (.int .i64 4)).set1 (.string ⟨c.tx.toArray⟩)).set2 (.float .f64 0)).set3 (.slice none 0 0)).set4 (.complex .f64 (pl c.f).1 (pl c.f).2)
   exact bodyPost_ret (v:=.agg #[.int .i64 4,.string ⟨c.tx.toArray⟩,.float .f64 0,.slice none 0 0,.complex .f64 (pl c.f).1 (pl c.f).2]) (by simp[results,results308,go_sem,z0,z1,z2,z3,z4]<;>exact rfl) rfl (a.out.done (t:=.mk 4 c.tx 0 (pl c.f) []) (Am.nil _) _ _ _ _ _ M)
  obtain⟨z0,z1,z2,z3,z4,zf⟩:=((((a.out.b2.set0 (.int .i64 5)).set1 (.string ⟨c.tx.toArray⟩)).set2 (.float .f64 0)).set3 (.slice U l7.length V)).set4 (.complex .f64 (pl c.f).1 (pl c.f).2);exact bodyPost_ret (v:=.agg #[.int .i64 5,.string ⟨c.tx.toArray⟩,.float .f64 0,.slice U l7.length V,.complex .f64 (pl c.f).1 (pl c.f).2]) (by simp[results,results308,go_sem,z0,z1,z2,z3,z4]<;>exact rfl) rfl (a.out.done (t:=.mk 5 c.tx 0 (pl c.f) l7) a.out.k0 _ _ _ _ _ M)
 obtain⟨z0,z1,z2,z3,z4,zf⟩:=((((a.out.b2.set0 (.int .i64 6)).set1 (.string ⟨#[]⟩)).set2 (.float .f64 0)).set3 (.slice (some ⟨w5.heap.size,0,none⟩) 1 1)).set4 (.complex .f64 (pl c.f).1 (pl c.f).2);exact bodyPost_ret (v:=.agg #[.int .i64 6,.string ⟨#[]⟩,.float .f64 0,.slice (some ⟨w5.heap.size,0,none⟩) 1 1,.complex .f64 (pl c.f).1 (pl c.f).2]) (by simp[results,results308,go_sem,z0,z1,z2,z3,z4]<;>exact rfl) rfl (a.out.done (t:=.mk 6 [] 0 (pl c.f) [y]) a.out.k0 _ _ _ _ _ M)
set_option linter.unusedSimpArgs false in
theorem X6 {nx:Nat->Bool->Tk} {pl:Nat->Nat×Nat} {ere:List UInt8->Option Bool} {w0:World} {q:Nat} {s:ByteArray} (hN:F2 nx s w0) (hP:H6 pl s) (n:Nat)
  (hO:∀m,m<=n->NC nx pl ere w0 q s m .cmp 275):NC nx pl ere w0 q s (n+1) .mat 264:=by
 intro p W h V;obtain⟨r,T⟩:∃r,Dn nx pl ere (n+1) .mat p=r:=⟨_,rfl⟩;rw[T] at V ⊢;rw[Dn] at T;have F:=aA T;have a:=aA (Fx.start1 h (.int .i64 0) (.string ⟨#[]⟩) (.float .f64 0) (.slice none 0 0) (.complex .f64 0 0) 42);have HN:=aA hN;have HP:=aA hP;have HO:=aA (fun m (hm:m<=n) p W h g=>hO m hm p W h g);clear T h hN hP hO;obtain⟨b,c,d,i,j,k⟩:=a.out.b0
 go_in
 go_wp2_with (first | (go_at_call 275;(with_reducible refine(HO.out _ (aD _) _ _ a.out.z (CA F V)).mono ?_);intro e w1 ha;rcases ha.part F V with⟨f,T,rfl,P,hr⟩ | ⟨_,p1,v,rfl,⟨⟨u,kv,rfl,rfl,X⟩,S⟩,P,O⟩;exact⟨rfl,BX hr (a.out.o.trans P)⟩;replace F:=O;clear O ha;(try dsimp only at F);obtain⟨au,cu,rfl⟩:=X.slice;replace a:=aA ((a.out.read X S P).box (.int .i64 u.kd) (.string ⟨u.nm.toArray⟩) (.float .f64 u.x) (.slice au u.ks.length cu) (.complex .f64 u.z.1 u.z.2) 42);clear X S P;(try dsimp only[hd1,aI,aC,aF,aH] at F);(try clear b c d i j k);(try clear l A B C D E);(try clear G H I J L M);(try clear m30 m31 m32 m33 m34 m3f);obtain⟨b,c,d,i,j,k⟩:=a.out.b0;obtain⟨l,A,B,C,D,E⟩:=a.out.b1;unfold CJ))
 (try clear b c d i j k);(try clear l A B C D E);(try clear G H I J L M);(try clear m30 m31 m32 m33 m34 m3f)
 go_loopg [] n (fun g wr=>∃(m:Nat) (x:Tr) (Y:Option Addr) (Z:Nat) (pr:Ps),m=g/\m<=n/\Hid (Dn nx pl ere m (.matL x) pr=r)/\Hid (Fx w0 W q (W.heap.size+1) s pr [⟨w1.heap.size,.int .i64 x.kd,.string ⟨x.nm.toArray⟩,.float .f64 x.x,.slice Y x.ks.length Z,.complex .f64 x.z.1 x.z.2⟩,⟨W.heap.size,.int .i64 0,.string ⟨#[]⟩,.float .f64 0,.slice none 0 0,.complex .f64 0 0⟩] [(x.ks,.slice Y x.ks.length Z)] wr))
 case atStart=>exact⟨n,u,au,cu,p1,rfl,aD _,F,a⟩
 clear a F;obtain⟨m,x,Y,Z,pr,rfl,c0,F,a⟩:=hrel
 cases m with
 | zero=>exact absurd F.out.symm V
 | succ m =>
 replace F:=aA (by have:=F.out;rw[Dn] at this;exact this);obtain⟨b,c,d,i,j,k⟩:=a.out.b0;obtain⟨l,A,B,C,D,E⟩:=a.out.b1
 go_wp2_with (first | (go_at_call 65;(with_reducible refine(DS HN.out a.out.z false).mono ?_);intro e w2 ha;rcases ha.part F V with⟨f,T,rfl,P,hr⟩ | ⟨N,p2,v,rfl,⟨rfl,rfl,h0,et,a0,R⟩,P,O⟩;exact⟨rfl,BX hr (a.out.o.trans P)⟩;replace F:=O;clear O ha;(try dsimp only at F);replace a:=aA ((a.out.quiet R).box (.int .i64 N.kd) (.string ⟨N.tx.toArray⟩) (.float .f64 N.nm) (.int .i64 N.f) (.int .i64 N.t) 70);clear h0 et R P;(try clear b c d i j k);(try clear l A B C D E);(try clear G H I J L M);(try clear m30 m31 m32 m33 m34 m3f);obtain⟨b,c,d,i,j,k⟩:=a.out.b0;obtain⟨l,A,B,C,D,E⟩:=a.out.b1;obtain⟨G,H,I,J,L,M⟩:=a.out.b2;unfold G1) | (go_at_call 45;(with_reducible refine(EE N [126] _).mono ?_);rintro e w3 ⟨rfl,R⟩;replace a:=aA (a.out.quiet R);clear R;cases hs:isS N [126]<;>(simp only[hs,if_true,if_false,aB,reduceIte,or_true,true_or,or_false,false_or,and_true,true_and,and_false,false_and] at F;clear hs);all_goals ((try clear b c d i j k);(try clear l A B C D E);(try clear G H I J L M);(try clear m30 m31 m32 m33 m34 m3f);obtain⟨b,c,d,i,j,k⟩:=a.out.b0;obtain⟨l,A,B,C,D,E⟩:=a.out.b1;obtain⟨G,H,I,J,L,M⟩:=a.out.b2)) | (go_at_call 45;(with_reducible refine(EE N [33,126] _).mono ?_);rintro e w4 ⟨rfl,R⟩;replace a:=aA (a.out.quiet R);clear R;cases hs:isS N [33,126]<;>(simp only[hs,if_true,if_false,aB,reduceIte,or_true,true_or,or_false,false_or,and_true,true_and,and_false,false_and] at F;clear hs);all_goals ((try clear b c d i j k);(try clear l A B C D E);(try clear G H I J L M);(try clear m30 m31 m32 m33 m34 m3f);obtain⟨b,c,d,i,j,k⟩:=a.out.b0;obtain⟨l,A,B,C,D,E⟩:=a.out.b1;obtain⟨G,H,I,J,L,M⟩:=a.out.b2)) | (go_at_call 66;(with_reducible refine(C2 HP.out a.out.z N a0).mono ?_);rintro e w7 ⟨rfl,S,P⟩;replace a:=aA (a.out.move S P);clear S P;(try clear b c d i j k);(try clear l A B C D E);(try clear G H I J L M);(try clear m30 m31 m32 m33 m34 m3f);obtain⟨b,c,d,i,j,k⟩:=a.out.b0;obtain⟨l,A,B,C,D,E⟩:=a.out.b1;obtain⟨G,H,I,J,L,M⟩:=a.out.b2))
 ·obtain⟨z0,z1,z2,z3,z4,zf⟩:=((((a.out.b2.set0 (.int .i64 x.kd)).set1 (.string ⟨x.nm.toArray⟩)).set2 (.float .f64 x.x)).set3 (.slice Y x.ks.length Z)).set4 (.complex .f64 x.z.1 x.z.2)
  exact bodyPost_ret (v:=CJ x (.slice Y x.ks.length Z)) (by simp[CJ,results,results264,go_sem,z0,z1,z2,z3,z4]<;>exact rfl) rfl (a.out.done a.out.k0 _ _ _ _ _ F)
 iterate 2
  focus
   (try clear b c d i j k);(try clear l A B C D E);(try clear G H I J L M);(try clear m30 m31 m32 m33 m34 m3f)
   refine a.out.region 8 (by kernel_rfl) (fun Q=>?_);refine AbP 0 (.pointer (some ⟨w2.heap.size,1,none⟩)) rfl Q ?_
   try simp only[Act.put,sP]
   refine AbU 1 (.string ⟨N.tx.toArray⟩) rfl (fun w hS=>by obtain⟨s0,s1,s2,s3,s4,-⟩:=hS.b0;go_simp) Q ?_
   try simp only[Act.put,sP]
   refine AbP 2 (.complex .f64 (pl N.f).1 (pl N.f).2) rfl Q ?_
   try simp only[Act.put,sP]
   refine AbU 3 ((.agg #[.int .i64 x.kd,.string ⟨x.nm.toArray⟩,.float .f64 x.x,.slice Y x.ks.length Z,.complex .f64 x.z.1 x.z.2])) rfl (fun w hS=>by obtain⟨s0,s1,s2,s3,s4,-⟩:=hS.b1;go_simp) Q ?_
   try simp only[Act.put,sP]
   refine AbP 4 (.pointer (some ⟨q,0,none⟩)) rfl Q ?_
   try simp only[Act.put,sP]
   refine AaC 5 rfl (fun K U=>?_)
   try go_simp
   go_at_call 275
   refine(HO.out _ (by omega) _ _ a.out.drew.z (CA F V)).mono ?_;intro e w8 ha;rcases ha.part F V with⟨f,T,rfl,P,hr⟩ | ⟨_,p8,v,rfl,⟨⟨y,kv,rfl,rfl,X⟩,S⟩,P,O⟩
   ·exact⟨rfl,BX hr (a.out.drew.o.trans P)⟩
   replace F:=O;clear O ha
   (try dsimp only at F)
   obtain⟨ay,cy,rfl⟩:=X.slice;replace a:=aA (a.out.drew.read X S P);clear X S P Q;unfold CJ;refine U.out _ _ (.inr a.out.bs) ?_
   try simp only[Act.put,sP]
   refine AaC 6 rfl (fun K U=>?_)
   try go_simp
   replace a:=aA a.out.kid2;refine U.out _ _ (.inr a.out.bs) ?_
   try simp only[Act.put,sP]
   refine AaC 7 rfl (fun K U=>?_)
   try go_simp
   refine U.out _ _ (.inr a.out.bs) ?_
   try simp only[Act.put,sP]
   obtain⟨n0,n1,n2,n3,n4,nf⟩:=a.out.drop.b0;refine AaC 8 rfl (fun K U=>?_)
   try go_simp
   replace a:=aA (a.out.drop.store (.int .i64 12) (.string ⟨N.tx.toArray⟩) (.float .f64 0) (.slice (some ⟨w8.heap.size,0,none⟩) 2 2) (.complex .f64 (pl N.f).1 (pl N.f).2));refine U.out _ _ (.inl rfl) ?_
   try simp only[Act.put,sP]
   refine Aal (by kernel_rfl) ?_ _;go_wp2
   go_roundg m
   case rel=>exact⟨m,.mk 12 N.tx 0 (pl N.f) [x,y],some ⟨w8.heap.size,0,none⟩,2,p8,rfl,by omega,F,aA a.out.row1⟩
   all_goals omega
set_option linter.unusedSimpArgs false in
theorem Y3 {nx:Nat->Bool->Tk} {pl:Nat->Nat×Nat} {ere:List UInt8->Option Bool} {S:World} {q:Nat} {s:ByteArray} (Z:F2 nx s S) (hP:H6 pl s) (n:Nat)
  (hO:∀m,m<=n->NC nx pl ere S q s m .sum 288):NC nx pl ere S q s (n+1) .cat 281:=by
 intro p W h L;obtain⟨r,I⟩:∃r,Dn nx pl ere (n+1) .cat p=r:=⟨_,rfl⟩;rw[I] at L ⊢;rw[Dn] at I;have b:=aA I;have a:=aA (Fx.start1 h (.int .i64 0) (.string ⟨#[]⟩) (.float .f64 0) (.slice none 0 0) (.complex .f64 0 0) 42);have HN:=aA Z;have HP:=aA hP;have V:=aA (fun m (hm:m<=n) p W h g=>hO m hm p W h g);clear I h Z hP hO;obtain⟨c,d,i,j,k,l⟩:=a.out.b0
 go_in
 go_wp2_with (first | (go_at_call 288;(with_reducible refine(V.out _ (aD _) _ _ a.out.z (CA b L)).mono ?_);intro e w1 ha;rcases ha.part b L with⟨f,I,rfl,G,Q⟩ | ⟨_,p1,v,rfl,⟨⟨u,kv,rfl,rfl,M⟩,R⟩,G,t⟩;exact⟨rfl,BX Q (a.out.o.trans G)⟩;replace b:=t;clear t ha;(try dsimp only at b);obtain⟨X,Y,rfl⟩:=M.slice;replace a:=aA ((a.out.read M R G).box (.int .i64 u.kd) (.string ⟨u.nm.toArray⟩) (.float .f64 u.x) (.slice X u.ks.length Y) (.complex .f64 u.z.1 u.z.2) 42);clear M R G;(try dsimp only[hd1,aI,aC,aF,aH] at b);(try clear c d i j k l);(try clear A B C D E F);(try clear m20 m21 m22 m23 m24 m2f);(try clear m30 m31 m32 m33 m34 m3f);obtain⟨c,d,i,j,k,l⟩:=a.out.b0;obtain⟨A,B,C,D,E,F⟩:=a.out.b1;unfold CJ))
 (try clear c d i j k l);(try clear A B C D E F);(try clear m20 m21 m22 m23 m24 m2f);(try clear m30 m31 m32 m33 m34 m3f)
 go_loopg [] n (fun g wr=>∃(m:Nat) (x:Tr) (N:Option Addr) (O:Nat) (U:Ps),m=g/\m<=n/\Hid (Dn nx pl ere m (.catL x) U=r)/\Hid (Fx S W q (W.heap.size+1) s U [⟨w1.heap.size,.int .i64 x.kd,.string ⟨x.nm.toArray⟩,.float .f64 x.x,.slice N x.ks.length O,.complex .f64 x.z.1 x.z.2⟩,⟨W.heap.size,.int .i64 0,.string ⟨#[]⟩,.float .f64 0,.slice none 0 0,.complex .f64 0 0⟩] [(x.ks,.slice N x.ks.length O)] wr))
 case atStart=>exact⟨n,u,X,Y,p1,rfl,aD _,b,a⟩
 clear a b;obtain⟨m,x,N,O,U,rfl,c0,b,a⟩:=hrel
 cases m with
 | zero=>exact absurd b.out.symm L
 | succ m =>
 replace b:=aA (by have:=b.out;rw[Dn] at this;exact this);obtain⟨c,d,i,j,k,l⟩:=a.out.b0;obtain⟨A,B,C,D,E,F⟩:=a.out.b1
 go_wp2_with (first | (go_at_call 65;(with_reducible refine(DS HN.out a.out.z false).mono ?_);intro e w2 ha;rcases ha.part b L with⟨f,I,rfl,G,Q⟩ | ⟨t2,p2,v,rfl,⟨rfl,rfl,h0,et,a0,P⟩,G,t⟩;exact⟨rfl,BX Q (a.out.o.trans G)⟩;replace b:=t;clear t ha;(try dsimp only at b);replace a:=aA ((a.out.quiet P));clear h0 et P G;(try clear c d i j k l);(try clear A B C D E F);(try clear m20 m21 m22 m23 m24 m2f);(try clear m30 m31 m32 m33 m34 m3f);obtain⟨c,d,i,j,k,l⟩:=a.out.b0;obtain⟨A,B,C,D,E,F⟩:=a.out.b1;unfold G1) | (go_at_call 289;(with_reducible refine(Yz t2 _).mono ?_);rintro e w3 ⟨rfl,P⟩;replace a:=aA (a.out.quiet P);clear P;cases hs:O3 t2<;>(simp only[hs,if_true,if_false,aB,reduceIte,and_true,true_and,and_false,false_and] at b;clear hs);all_goals ((try clear c d i j k l);(try clear A B C D E F);(try clear m20 m21 m22 m23 m24 m2f);(try clear m30 m31 m32 m33 m34 m3f);obtain⟨c,d,i,j,k,l⟩:=a.out.b0;obtain⟨A,B,C,D,E,F⟩:=a.out.b1)))
 ·obtain⟨z0,z1,z2,z3,z4,zf⟩:=((((a.out.b1.set0 (.int .i64 x.kd)).set1 (.string ⟨x.nm.toArray⟩)).set2 (.float .f64 x.x)).set3 (.slice N x.ks.length O)).set4 (.complex .f64 x.z.1 x.z.2)
  exact bodyPost_ret (v:=CJ x (.slice N x.ks.length O)) (by simp[CJ,results,results281,go_sem,z0,z1,z2,z3,z4]<;>exact rfl) rfl (a.out.done a.out.k0 _ _ _ _ _ b)
 (try clear c d i j k l);(try clear A B C D E F);(try clear m20 m21 m22 m23 m24 m2f);(try clear m30 m31 m32 m33 m34 m3f)
 refine a.out.region 7 (by kernel_rfl) (fun H=>?_);refine AbP 0 (.pointer (some ⟨w1.heap.size,4,none⟩)) rfl H ?_
 try simp only[Act.put,sP]
 refine AbU 1 (.complex .f64 x.z.1 x.z.2) rfl (fun w T=>by obtain⟨s0,s1,s2,s3,s4,-⟩:=T.b0;go_simp) H ?_
 try simp only[Act.put,sP]
 refine AbU 2 ((.agg #[.int .i64 x.kd,.string ⟨x.nm.toArray⟩,.float .f64 x.x,.slice N x.ks.length O,.complex .f64 x.z.1 x.z.2])) rfl (fun w T=>by obtain⟨s0,s1,s2,s3,s4,-⟩:=T.b0;go_simp) H ?_
 try simp only[Act.put,sP]
 refine AbP 3 (.pointer (some ⟨q,0,none⟩)) rfl H ?_
 try simp only[Act.put,sP]
 refine AaC 4 rfl (fun K J=>?_)
 try go_simp
 go_at_call 288
 refine(V.out _ (by omega) _ _ a.out.drew.z (CA b L)).mono ?_;intro e w8 ha;rcases ha.part b L with⟨f,I,rfl,G,Q⟩ | ⟨_,p8,v,rfl,⟨⟨y,kv,rfl,rfl,M⟩,R⟩,G,t⟩
 ·exact⟨rfl,BX Q (a.out.drew.o.trans G)⟩
 replace b:=t;clear t ha
 (try dsimp only at b)
 obtain⟨ay,cy,rfl⟩:=M.slice;replace a:=aA (a.out.drew.read M R G);clear M R G H;unfold CJ;refine J.out _ _ (.inr a.out.bs) ?_
 try simp only[Act.put,sP]
 refine AaC 5 rfl (fun K J=>?_)
 try go_simp
 replace a:=aA a.out.kid2;refine J.out _ _ (.inr a.out.bs) ?_
 try simp only[Act.put,sP]
 refine AaC 6 rfl (fun K J=>?_)
 try go_simp
 refine J.out _ _ (.inr a.out.bs) ?_
 try simp only[Act.put,sP]
 obtain⟨n0,n1,n2,n3,n4,nf⟩:=a.out.b0;refine AaC 7 rfl (fun K J=>?_)
 try go_simp
 replace a:=aA (a.out.store (.int .i64 14) (.string ⟨#[]⟩) (.float .f64 0) (.slice (some ⟨w8.heap.size,0,none⟩) 2 2) (.complex .f64 x.z.1 x.z.2));refine J.out _ _ (.inl rfl) ?_
 try simp only[Act.put,sP]
 refine Aal (by kernel_rfl) ?_ _;go_wp2
 go_roundg m
 case rel=>exact⟨m,.mk 14 [] 0 x.z [x,y],some ⟨w8.heap.size,0,none⟩,2,p8,rfl,by omega,b,aA a.out.row1⟩
 all_goals omega
set_option linter.unusedSimpArgs false in
theorem YN {nx:Nat->Bool->Tk} {pl:Nat->Nat×Nat} {ere:List UInt8->Option Bool} {w0:World} {q:Nat} {s:ByteArray} (hN:F2 nx s w0) (hP:H6 pl s) (n:Nat)
  (hO:∀m,m<=n->NC nx pl ere w0 q s m .unary 294):NC nx pl ere w0 q s (n+1) .prod 292:=by
 intro p W h X;obtain⟨r,U⟩:∃r,Dn nx pl ere (n+1) .prod p=r:=⟨_,rfl⟩;rw[U] at X ⊢;rw[Dn] at U;have M:=aA U;have a:=aA (Fx.start1 h (.int .i64 0) (.string ⟨#[]⟩) (.float .f64 0) (.slice none 0 0) (.complex .f64 0 0) 42);have HN:=aA hN;have HP:=aA hP;have HO:=aA (fun m (hm:m<=n) p W h g=>hO m hm p W h g);clear U h hN hP hO;obtain⟨b,c,d,i,j,k⟩:=a.out.b0
 go_in
 go_wp2_with (first | (go_at_call 294;(with_reducible refine(HO.out _ (aD _) _ _ a.out.z (CA M X)).mono ?_);intro e w1 ha;rcases ha.part M X with⟨f,U,rfl,P,hr⟩ | ⟨_,p1,v,rfl,⟨⟨u,kv,rfl,rfl,Y⟩,T⟩,P,O⟩;exact⟨rfl,BX hr (a.out.o.trans P)⟩;replace M:=O;clear O ha;(try dsimp only at M);obtain⟨au,cu,rfl⟩:=Y.slice;replace a:=aA ((a.out.read Y T P).box (.int .i64 u.kd) (.string ⟨u.nm.toArray⟩) (.float .f64 u.x) (.slice au u.ks.length cu) (.complex .f64 u.z.1 u.z.2) 42);clear Y T P;(try dsimp only[hd1,aI,aC,aF,aH] at M);(try clear b c d i j k);(try clear l A B C D E);(try clear F G H I J L);(try clear m30 m31 m32 m33 m34 m3f);obtain⟨b,c,d,i,j,k⟩:=a.out.b0;obtain⟨l,A,B,C,D,E⟩:=a.out.b1;unfold CJ))
 (try clear b c d i j k);(try clear l A B C D E);(try clear F G H I J L);(try clear m30 m31 m32 m33 m34 m3f)
 go_loopg [] n (fun g wr=>∃(m:Nat) (x:Tr) (Z:Option Addr) (cx:Nat) (pr:Ps),m=g/\m<=n/\Hid (Dn nx pl ere m (.prodL x) pr=r)/\Hid (Fx w0 W q (W.heap.size+1) s pr [⟨w1.heap.size,.int .i64 x.kd,.string ⟨x.nm.toArray⟩,.float .f64 x.x,.slice Z x.ks.length cx,.complex .f64 x.z.1 x.z.2⟩,⟨W.heap.size,.int .i64 0,.string ⟨#[]⟩,.float .f64 0,.slice none 0 0,.complex .f64 0 0⟩] [(x.ks,.slice Z x.ks.length cx)] wr))
 case atStart=>exact⟨n,u,au,cu,p1,rfl,aD _,M,a⟩
 clear a M;obtain⟨m,x,Z,cx,pr,rfl,c0,M,a⟩:=hrel
 cases m with
 | zero=>exact absurd M.out.symm X
 | succ m =>
 replace M:=aA (by have:=M.out;rw[Dn] at this;exact this);obtain⟨b,c,d,i,j,k⟩:=a.out.b0;obtain⟨l,A,B,C,D,E⟩:=a.out.b1
 go_wp2_with (first | (go_at_call 65;(with_reducible refine(DS HN.out a.out.z false).mono ?_);intro e w2 ha;rcases ha.part M X with⟨f,U,rfl,P,hr⟩ | ⟨N,p2,v,rfl,⟨rfl,rfl,h0,et,a0,R⟩,P,O⟩;exact⟨rfl,BX hr (a.out.o.trans P)⟩;replace M:=O;clear O ha;(try dsimp only at M);replace a:=aA ((a.out.quiet R).box (.int .i64 N.kd) (.string ⟨N.tx.toArray⟩) (.float .f64 N.nm) (.int .i64 N.f) (.int .i64 N.t) 70);clear h0 et R P;(try clear b c d i j k);(try clear l A B C D E);(try clear F G H I J L);(try clear m30 m31 m32 m33 m34 m3f);obtain⟨b,c,d,i,j,k⟩:=a.out.b0;obtain⟨l,A,B,C,D,E⟩:=a.out.b1;obtain⟨F,G,H,I,J,L⟩:=a.out.b2;unfold G1) | (go_at_call 45;(with_reducible refine(EE N [42] _).mono ?_);rintro e w3 ⟨rfl,R⟩;replace a:=aA (a.out.quiet R);clear R;cases S:isS N [42]<;>(simp only[S,if_true,if_false,aB,reduceIte,or_true,true_or,or_false,false_or,and_true,true_and,and_false,false_and] at M;clear S);all_goals ((try clear b c d i j k);(try clear l A B C D E);(try clear F G H I J L);(try clear m30 m31 m32 m33 m34 m3f);obtain⟨b,c,d,i,j,k⟩:=a.out.b0;obtain⟨l,A,B,C,D,E⟩:=a.out.b1;obtain⟨F,G,H,I,J,L⟩:=a.out.b2)) | (go_at_call 45;(with_reducible refine(EE N [47] _).mono ?_);rintro e w4 ⟨rfl,R⟩;replace a:=aA (a.out.quiet R);clear R;cases S:isS N [47]<;>(simp only[S,if_true,if_false,aB,reduceIte,or_true,true_or,or_false,false_or,and_true,true_and,and_false,false_and] at M;clear S);all_goals ((try clear b c d i j k);(try clear l A B C D E);(try clear F G H I J L);(try clear m30 m31 m32 m33 m34 m3f);obtain⟨b,c,d,i,j,k⟩:=a.out.b0;obtain⟨l,A,B,C,D,E⟩:=a.out.b1;obtain⟨F,G,H,I,J,L⟩:=a.out.b2)) | (go_at_call 45;(with_reducible refine(EE N [37] _).mono ?_);rintro e w5 ⟨rfl,R⟩;replace a:=aA (a.out.quiet R);clear R;cases S:isS N [37]<;>(simp only[S,if_true,if_false,aB,reduceIte,or_true,true_or,or_false,false_or,and_true,true_and,and_false,false_and] at M;clear S);all_goals ((try clear b c d i j k);(try clear l A B C D E);(try clear F G H I J L);(try clear m30 m31 m32 m33 m34 m3f);obtain⟨b,c,d,i,j,k⟩:=a.out.b0;obtain⟨l,A,B,C,D,E⟩:=a.out.b1;obtain⟨F,G,H,I,J,L⟩:=a.out.b2)) | (go_at_call 66;(with_reducible refine(C2 HP.out a.out.z N a0).mono ?_);rintro e w7 ⟨rfl,T,P⟩;replace a:=aA (a.out.move T P);clear T P;(try clear b c d i j k);(try clear l A B C D E);(try clear F G H I J L);(try clear m30 m31 m32 m33 m34 m3f);obtain⟨b,c,d,i,j,k⟩:=a.out.b0;obtain⟨l,A,B,C,D,E⟩:=a.out.b1;obtain⟨F,G,H,I,J,L⟩:=a.out.b2))
 ·obtain⟨z0,z1,z2,z3,z4,zf⟩:=((((a.out.b2.set0 (.int .i64 x.kd)).set1 (.string ⟨x.nm.toArray⟩)).set2 (.float .f64 x.x)).set3 (.slice Z x.ks.length cx)).set4 (.complex .f64 x.z.1 x.z.2)
  exact bodyPost_ret (v:=CJ x (.slice Z x.ks.length cx)) (by simp[CJ,results,results292,go_sem,z0,z1,z2,z3,z4]<;>exact rfl) rfl (a.out.done a.out.k0 _ _ _ _ _ M)
 iterate 3
  focus
   (try clear b c d i j k);(try clear l A B C D E);(try clear F G H I J L);(try clear m30 m31 m32 m33 m34 m3f)
   refine a.out.region 8 (by kernel_rfl) (fun Q=>?_);refine AbP 0 (.pointer (some ⟨w2.heap.size,1,none⟩)) rfl Q ?_
   try simp only[Act.put,sP]
   refine AbU 1 (.string ⟨N.tx.toArray⟩) rfl (fun w hS=>by obtain⟨s0,s1,s2,s3,s4,-⟩:=hS.b0;go_simp) Q ?_
   try simp only[Act.put,sP]
   refine AbP 2 (.complex .f64 (pl N.f).1 (pl N.f).2) rfl Q ?_
   try simp only[Act.put,sP]
   refine AbU 3 ((.agg #[.int .i64 x.kd,.string ⟨x.nm.toArray⟩,.float .f64 x.x,.slice Z x.ks.length cx,.complex .f64 x.z.1 x.z.2])) rfl (fun w hS=>by obtain⟨s0,s1,s2,s3,s4,-⟩:=hS.b1;go_simp) Q ?_
   try simp only[Act.put,sP]
   refine AbP 4 (.pointer (some ⟨q,0,none⟩)) rfl Q ?_
   try simp only[Act.put,sP]
   refine AaC 5 rfl (fun K V=>?_)
   try go_simp
   go_at_call 294
   refine(HO.out _ (by omega) _ _ a.out.drew.z (CA M X)).mono ?_;intro e w8 ha;rcases ha.part M X with⟨f,U,rfl,P,hr⟩ | ⟨_,p8,v,rfl,⟨⟨y,kv,rfl,rfl,Y⟩,T⟩,P,O⟩
   ·exact⟨rfl,BX hr (a.out.drew.o.trans P)⟩
   replace M:=O;clear O ha
   (try dsimp only at M)
   obtain⟨ay,cy,rfl⟩:=Y.slice;replace a:=aA (a.out.drew.read Y T P);clear Y T P Q;unfold CJ;refine V.out _ _ (.inr a.out.bs) ?_
   try simp only[Act.put,sP]
   refine AaC 6 rfl (fun K V=>?_)
   try go_simp
   replace a:=aA a.out.kid2;refine V.out _ _ (.inr a.out.bs) ?_
   try simp only[Act.put,sP]
   refine AaC 7 rfl (fun K V=>?_)
   try go_simp
   refine V.out _ _ (.inr a.out.bs) ?_
   try simp only[Act.put,sP]
   obtain⟨n0,n1,n2,n3,n4,nf⟩:=a.out.drop.b0;refine AaC 8 rfl (fun K V=>?_)
   try go_simp
   replace a:=aA (a.out.drop.store (.int .i64 15) (.string ⟨N.tx.toArray⟩) (.float .f64 0) (.slice (some ⟨w8.heap.size,0,none⟩) 2 2) (.complex .f64 (pl N.f).1 (pl N.f).2));refine V.out _ _ (.inl rfl) ?_
   try simp only[Act.put,sP]
   refine Aal (by kernel_rfl) ?_ _;go_wp2
   go_roundg m
   case rel=>exact⟨m,.mk 15 N.tx 0 (pl N.f) [x,y],some ⟨w8.heap.size,0,none⟩,2,p8,rfl,by omega,M,aA a.out.row1⟩
   all_goals omega
structure YW (nx:Nat->Bool->Tk) (pl:Nat->Nat×Nat) (ere:List UInt8->Option Bool) (w0:World) (q:Nat) (s:ByteArray) (n:Nat):Prop where
 expr:NC nx pl ere w0 q s n .expr 103
 cond:NC nx pl ere w0 q s n .cond 136
 or:NC nx pl ere w0 q s n .or 183
 and:NC nx pl ere w0 q s n .and 224
 inn:NC nx pl ere w0 q s n .inn 250
 mat:NC nx pl ere w0 q s n .mat 264
 cmp:NC nx pl ere w0 q s n .cmp 275
 cat:NC nx pl ere w0 q s n .cat 281
 sum:NC nx pl ere w0 q s n .sum 288
 prod:NC nx pl ere w0 q s n .prod 292
 unary:NC nx pl ere w0 q s n .unary 294
 power:NC nx pl ere w0 q s n .power 296
 post:NC nx pl ere w0 q s n .post 298
 primary:NC nx pl ere w0 q s n .primary 300
 operand:NC nx pl ere w0 q s n .operand 303
 target:NC nx pl ere w0 q s n .target 308
 dollar:NC nx pl ere w0 q s n .dollar 312
 cond1:NC nx pl ere w0 q s n .cond1 130
 list:LC nx pl ere w0 q s n .list 222
 args:LC nx pl ere w0 q s n .args 307
 index:LC nx pl ere w0 q s n .index 181
 has:HC nx pl ere w0 q s n
variable {nx:Nat->Bool->Tk} {pl:Nat->Nat×Nat} {ere:List UInt8->Option Bool} {w0:World} {q:Nat} {s:ByteArray}
theorem YW.zero:YW nx pl ere w0 q s 0:=by
 constructor<;>first | exact fun p W h b=>absurd rfl b | exact fun l a d c S p W _ h _ _ b=>absurd rfl b
theorem Yy (a:F2 nx s w0) (b:H6 pl s) (d:TZ ere s w0):∀n,n<=1000000->∀m,m<=n->YW nx pl ere w0 q s m:=by
 intro n
 induction n with
 | zero=>intro _ m c;obtain rfl:m=0:=by omega
         exact YW.zero
 | succ n f =>
   intro g m c;have H:=f (by omega);rcases Nat.lt_or_ge m (n+1) with e | e
   ·exact H m (by omega)
   obtain rfl:m=n+1:=(by omega);have h:=H n (aD _)
   exact {
    expr:=Yx a b n h.cond h.expr
    cond:=Yu a b n h.or h.expr
    or:=ZC a b n fun m c=>(H m c).and
    and:=YZ a b n fun m c=>(H m c).inn
    inn:=Zu a b n (fun m c=>(H m c).mat) fun m c=>(H m c).has
    mat:=X6 a b n fun m c=>(H m c).cmp
    cmp:=Xs a b n h.cat
    cat:=Y3 a b n fun m c=>(H m c).sum
    sum:=Zn a b n fun m c=>(H m c).prod
    prod:=YN a b n fun m c=>(H m c).unary
    unary:=Yi a b n h.unary h.power
    power:=Yc a b n h.post h.unary
    post:=YM a b n h.primary
    primary:=Xw a b n h.operand h.list h.has
    operand:=Xu a b n h.args h.target d
    target:=XQ a b n h.index h.dollar
    dollar:=XF a n h.cond1 h.operand
    cond1:=XW a b n h.expr
    list:=YB a b n (fun m c=>(H m c).expr) (by omega)
    args:=Yt a b n h.list
    index:=XZ a b n h.list
    has:=Y7 a b n }
theorem IE (b:F2 nx s w0) (c:H6 pl s) (a:TZ ere s w0) (n:Nat) (d:n<=1000000):YW nx pl ere w0 q s n:=Yy b c a n d n (aD _)
def SC (nx:Nat->Bool->Tk) (pl:Nat->Nat×Nat) (ere:List UInt8->Option Bool) (w0:World) (q:Nat) (s:ByteArray) (n:Nat) (k:NS) (f:FuncId):Prop :=
 ∀(p:Ps) (W:World),Pz w0 q s p W->It nx pl ere n k p ≠ .hush->Calls prog f #[.pointer (some ⟨q,0,none⟩)] W (AbS q W (It nx pl ere n k p) (NM w0 q s W))
def MC (nx:Nat->Bool->Tk) (pl:Nat->Nat×Nat) (ere:List UInt8->Option Bool) (w0:World) (q:Nat) (s:ByteArray) (n:Nat) (k:NS) (f:FuncId):Prop :=
 ∀(p:Ps) (W:World),Pz w0 q s p W->It nx pl ere n k p ≠ .hush->Calls prog f #[.pointer (some ⟨q,0,none⟩)] W (AbS q W (It nx pl ere n k p) (ZO w0 q s W))
section
variable {w0 W w w':World} {q B:Nat} {s:ByteArray} {p p':Ps} {l:List B5} {ks:List (List Tr×Value)}
theorem Pz.outs (h:Pz w0 q s p w) (v:Int):Pz w0 q s { p with outs:=v } (w.setCell ⟨q,3,none⟩ (.int .i64 v)) :=
 ⟨h.below.setCell (p:=⟨q,3,none⟩) h.hq _,h.hq,h.c.set3 _,h.ha,h.hs,h.d1,h.d2⟩
theorem Fx.outs (h:Fx w0 W q B s p l ks w) (v:Int):Fx w0 W q B s { p with outs:=v } l ks (w.setCell ⟨q,3,none⟩ (.int .i64 v)):=h.move (h.z.outs v) ((Ae.refl q w).set 3 _)
theorem Fx.upd1 {x:B5} {b:Nat} {v0 v1 v2 v3 v4 u0 u1 u2 u3 u4:Value} (h:Fx w0 W q B s p (x::⟨b,v0,v1,v2,v3,v4⟩::l) ks w) (g:Ae b w w') (r:C5 w' b u0 u1 u2 u3 u4):Fx w0 W q B s p (x::⟨b,u0,u1,u2,u3,u4⟩::l) ks w':=by
 have c:=(h.b _ (.tail _ (.head _))).1;have t:=h.hq;have f:=aE.1 h.d;have n:=aE.1 f.2;have i:=f.1 ⟨b,v0,v1,v2,v3,v4⟩ (.head _);dsimp only at c n i;refine⟨h.z.other g (Nat.le_trans h.hw c) (by omega),h.o.under g c,h.hq,h.hw,⟨h.hB.1,Nat.le_trans h.hB.2 g.size⟩,fun y a=>?_,fun y a=>?_,aE.2 ⟨fun y a=>?_,aE.2 n⟩⟩
 ·rcases aG.1 a with rfl | a
  ·exact⟨(h.b _ (.head _)).1,(h.b _ (.head _)).2.only g (by omega)⟩
  rcases aG.1 a with rfl | a
  ·exact⟨c,r⟩
  have:=n.1 y a;exact⟨(h.b y (.tail _ (.tail _ a))).1,(h.b y (.tail _ (.tail _ a))).2.only g (by omega)⟩
 ·refine((h.k y a).only g (fun e=>e.2 _ (.tail _ (.head _)) rfl)).mono fun j _ e=>⟨e.1,fun z m=>?_⟩
  rcases aG.1 m with rfl | m
  ·exact e.2 _ (.head _)
  rcases aG.1 m with rfl | m
  ·exact e.2 ⟨b,v0,v1,v2,v3,v4⟩ (.tail _ (.head _))
  exact e.2 _ (.tail _ (.tail _ m))
 rcases aG.1 a with rfl | a
 ·exact i
 exact f.1 y (.tail _ a)
theorem Fx.store1 {x:B5} {b:Nat} {v0 v1 v2 v3 v4:Value} (h:Fx w0 W q B s p (x::⟨b,v0,v1,v2,v3,v4⟩::l) ks w) (u0 u1 u2 u3 u4:Value) :
  Fx w0 W q B s p (x::⟨b,u0,u1,u2,u3,u4⟩::l) ks (((((w.setCell ⟨b,0,none⟩ u0).setCell ⟨b,1,none⟩ u1).setCell ⟨b,2,none⟩ u2).setCell ⟨b,3,none⟩ u3).setCell ⟨b,4,none⟩ u4) :=
 h.upd1 ((((((Ae.refl b w).set 0 u0).set 1 u1).set 2 u2).set 3 u3).set 4 u4) (((((h.b1.set0 u0).set1 u1).set2 u2).set3 u3).set4 u4)
theorem Fx.zz {x:B5} {b r:Nat} {v0 v1 v2 v3 v4 u0 u1 u2 u3 u4:Value} (h:Fx w0 W q B s p (⟨b,v0,v1,v2,v3,v4⟩::x::⟨r,u0,u1,u2,u3,u4⟩::l) ks w) :
 C5 (((((w.setCell ⟨r,0,none⟩ v0).setCell ⟨r,1,none⟩ v1).setCell ⟨r,2,none⟩ v2).setCell ⟨r,3,none⟩ v3).setCell ⟨r,4,none⟩ v4) r v0 v1 v2 v3 v4:=((((h.b2.set0 v0).set1 v1).set2 v2).set3 v3).set4 v4
end
theorem Aau (t:Tk):(t.kd=1/\(t.kd==1)=true)\/(¬ t.kd=1/\t.kd=0/\(t.kd==1)=false/\(t.kd==0)=true)\/(¬ t.kd=1/\¬ t.kd=0/\(t.kd==1)=false/\(t.kd==0)=false):=by
 rcases Xt t.kd 1 with⟨a,b1,-⟩ | ⟨a,b1,-⟩
 ·exact .inl ⟨a,b1⟩
 rcases Xt t.kd 0 with⟨b,b0,-⟩ | ⟨b,b0,-⟩
 ·exact .inr (.inl ⟨a,b,b1,b0⟩)
 exact .inr (.inr ⟨a,b,b1,b0⟩)
set_option linter.unusedSimpArgs false in
theorem Zt {nx:Nat->Bool->Tk} {pl:Nat->Nat×Nat} {C:World} {q:Nat} {s:ByteArray} (D:F2 nx s C) (E:H6 pl s):∀(p:Ps) (W:World),Pz C q s p W->Y4 nx p ≠ .hush->Calls prog 135 #[.pointer (some ⟨q,0,none⟩)] W (AbS q W (Y4 nx p) fun _ L v M=>v = .tuple #[]/\Pz C q s L M):=by
 intro p W h F;obtain⟨r,x⟩:∃r,Y4 nx p=r:=⟨_,rfl⟩;rw[x] at F ⊢;rw[Y4] at x;have l:=aA x;have a:=aA (Fx.start h);have H:=aA D;have I:=aA E;clear x h D E
 go_in
 go_wp2_with (first | (go_at_call 65;(with_reducible refine(DS H.out a.out.z false).mono ?_);intro e O ha;rcases ha.part l F with⟨f,x,rfl,u,K⟩ | ⟨k,N,v,rfl,⟨rfl,rfl,y,J,B,m⟩,u,w⟩;exact⟨rfl,BX K (a.out.o.trans u)⟩;replace l:=w;clear w ha;(try dsimp only at l);replace a:=aA ((a.out.quiet m).box (.int .i64 k.kd) (.string ⟨k.tx.toArray⟩) (.float .f64 k.nm) (.int .i64 k.f) (.int .i64 k.t) 70);clear y J m u;(try clear b c d g i j);(try clear m10 m11 m12 m13 m14 m1f);(try clear m20 m21 m22 m23 m24 m2f);(try clear m30 m31 m32 m33 m34 m3f);obtain⟨b,c,d,g,i,j⟩:=a.out.b0;unfold G1;rcases Aau k with⟨n,b1⟩ | ⟨n,y,b1,b0⟩ | ⟨n,y,b1,b0⟩;replace l:=Ym (.inl n) l;clear n;rotate_left;all_goals (try (simp only[n,y,false_or,true_or,if_true,if_false] at l;clear n y))) | (go_at_call 45;(with_reducible refine(EE k [59] _).mono ?_);rintro e P ⟨rfl,m⟩;replace a:=aA (a.out.quiet m);clear m;cases A:isS k [59]<;>(simp only[A,if_true,if_false,aB,reduceIte,or_true,true_or,or_false,false_or,and_true,true_and,and_false,false_and] at l;clear A);all_goals ((try clear b c d g i j);(try clear m10 m11 m12 m13 m14 m1f);(try clear m20 m21 m22 m23 m24 m2f);(try clear m30 m31 m32 m33 m34 m3f);obtain⟨b,c,d,g,i,j⟩:=a.out.b0)) | (go_at_call 45;(with_reducible refine(EE k [125] _).mono ?_);rintro e Q ⟨rfl,m⟩;replace a:=aA (a.out.quiet m);clear m;cases A:isS k [125]<;>(simp only[A,if_true,if_false,aB,reduceIte,or_true,true_or,or_false,false_or,and_true,true_and,and_false,false_and] at l;clear A);all_goals ((try clear b c d g i j);(try clear m10 m11 m12 m13 m14 m1f);(try clear m20 m21 m22 m23 m24 m2f);(try clear m30 m31 m32 m33 m34 m3f);obtain⟨b,c,d,g,i,j⟩:=a.out.b0)) | (go_at_call 66;(with_reducible refine(C2 I.out a.out.z k B).mono ?_);rintro e R ⟨rfl,G,u⟩;replace a:=aA (a.out.move G u);clear G u;(try clear b c d g i j);(try clear m10 m11 m12 m13 m14 m1f);(try clear m20 m21 m22 m23 m24 m2f);(try clear m30 m31 m32 m33 m34 m3f);obtain⟨b,c,d,g,i,j⟩:=a.out.b0) | (go_at_call 67;(with_reducible refine(E3 a.out.z k).mono ?_);rintro e S ⟨rfl,m⟩;exact⟨rfl,BX (aA l.out.symm) (a.out.o.trans m)⟩))
 all_goals exact bodyPost_ret (results_none rfl _ _ _) rfl (O2 l ⟨rfl,a.out.z⟩ a.out.o)
set_option linter.unusedSimpArgs false in
theorem YC {nx:Nat->Bool->Tk} {pl:Nat->Nat×Nat} {ere:List UInt8->Option Bool} {t:World} {q:Nat} {s:ByteArray} (w:F2 nx s t) (x:H6 pl s) (n:Nat)
  (u:LC nx pl ere t q s n .list 222):MC nx pl ere t q s (n+1) .many 182:=by
 intro p W h k;obtain⟨r,i⟩:∃r,It nx pl ere (n+1) .many p=r:=⟨_,rfl⟩;rw[i] at k ⊢;rw[It] at i;have c:=aA i;have a:=aA (Fx.start h);have D:=aA w;have J:=aA x;have C:=aA (fun p W h g=>u p W h g);clear i h w x u
 go_in
 go_wp2_with (first | (go_at_call 65;(with_reducible refine(DS D.out a.out.z true).mono ?_);intro e N ha;rcases ha.part c k with⟨f,i,rfl,d,m⟩ | ⟨B,L,v,rfl,⟨rfl,rfl,H,G,I,j⟩,d,b⟩;exact⟨rfl,BX m (a.out.o.trans d)⟩;replace c:=b;clear b ha;(try dsimp only at c);replace a:=aA ((a.out.quiet j));clear H G j d;(try clear m00 m01 m02 m03 m04 m0f);(try clear m10 m11 m12 m13 m14 m1f);(try clear m20 m21 m22 m23 m24 m2f);(try clear m30 m31 m32 m33 m34 m3f);unfold G1) | (go_at_call 45;(with_reducible refine(EE B [40] _).mono ?_);rintro e O ⟨rfl,j⟩;replace a:=aA (a.out.quiet j);clear j;cases y:isS B [40]<;>(simp only[y,if_true,if_false,aB,reduceIte,or_true,true_or,or_false,false_or,and_true,true_and,and_false,false_and] at c;clear y);all_goals ((try clear m00 m01 m02 m03 m04 m0f);(try clear m10 m11 m12 m13 m14 m1f);(try clear m20 m21 m22 m23 m24 m2f);(try clear m30 m31 m32 m33 m34 m3f));all_goals (first | (exact absurd c.out.symm k) | skip)) | (go_at_call 222;(with_reducible refine(C.out _ _ a.out.z (CA (M2 c) k)).mono ?_);intro e P ha;rcases ha.part (M2 c) k with⟨f,i,rfl,d,m⟩ | ⟨K,M,v,rfl,⟨l,A⟩,d,b⟩;exact⟨rfl,BX m (a.out.o.trans d)⟩;replace c:=b;clear b ha;(try dsimp only at c);obtain⟨E,F,rfl⟩:=l.slice;replace a:=aA (a.out.read l A d);clear l A d;(try clear m00 m01 m02 m03 m04 m0f);(try clear m10 m11 m12 m13 m14 m1f);(try clear m20 m21 m22 m23 m24 m2f);(try clear m30 m31 m32 m33 m34 m3f)))
 go_ret;exact O2 c ⟨a.out.k0,a.out.z⟩ a.out.o
end Go.Proofs.YtfblenhlildnaaaGreatDoor
