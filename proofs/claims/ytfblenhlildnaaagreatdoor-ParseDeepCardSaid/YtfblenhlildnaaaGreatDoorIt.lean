/- It Lj -/
import Derived.Test.YtfblenhlildnaaaGreatDoorIr
import Derived.Test.YtfblenhlildnaaaGreatDoorCa
import Derived.Test.YtfblenhlildnaaaGreatDoorBu
set_option maxRecDepth 100000
set_option maxHeartbeats 4000000
open Go.Lib renaming hid->aA
open List renaming singleton_append->aB,cons_append->aC,nil_append->aD,headD->aF
open Nat renaming le_refl->aE
namespace Go.Proofs.YtfblenhlildnaaaGreatDoor
open Go.Proofs.Tryz
open Go.RowKit
set_option linter.unusedSimpArgs false in
theorem AfS {nx:Nat->Bool->Tk} {pl:Nat->Nat×Nat} {ere:List UInt8->Option Bool} {V:World} {q:Nat} {s:ByteArray} (hN:RxC nx s V) (hP:RlC pl s) (n:Nat)
  (hO:∀m,m<=n->NR nx pl ere V q s m .prod 290):NR nx pl ere V q s (n+1) .sum 282:=by
 intro p W h Q;obtain⟨r,X⟩:∃r,B0 nx pl ere (n+1) .sum p=r:=⟨_,rfl⟩;rw[X] at Q ⊢;rw[B0] at X;have b:=aA X;have a:=aA (Fr.start1 h (.int .i64 0) (.string ⟨#[]⟩) (.float .f64 0) (.slice none 0 0) (.complex .f64 0 0) 42);have HN:=aA hN;have HP:=aA hP;have HO:=aA (fun m (hm:m<=n) (p:Rs) (W:World) (h:Rz V q s p W) (g:B0 nx pl ere m .prod p ≠ .hush)=>hO m hm p W h g);clear X h hN hP hO
 (try clear f i j k l c5 t);(try clear A B C D E F);(try clear G H I J L M);(try clear o0 o1 o2 o3 o4 of);(try clear k0 k1 k2 k3 k4 kf);obtain⟨f,i,j,k,l,c5,t⟩:=a.out.z.c6;obtain⟨A,B,C,D,E,F⟩:=a.out.b0
 go_in
 go_wp2_with (first | (go_at_call 290;(with_reducible refine(HO.out _ (aE _) _ _ a.out.z (K0 b Q)).mono ?_);intro e w1 ha;obtain⟨_,p1,v,rfl,⟨⟨u,kv,rfl,rfl,R⟩,O⟩,N,c⟩:=ha.part b Q;replace b:=c;clear c ha;(try dsimp only at b);obtain⟨au,cu,rfl⟩:=R.slice;replace a:=aA ((a.out.read R O N).box (.int .i64 u.kd) (.string ⟨u.nm.toArray⟩) (.float .f64 u.x) (.slice au u.ks.length cu) (.complex .f64 u.z.1 u.z.2) 42);clear R O N;(try dsimp only[hd1,aF,aB,aC,aD] at b);(try clear f i j k l c5 t);(try clear A B C D E F);(try clear G H I J L M);(try clear o0 o1 o2 o3 o4 of);(try clear k0 k1 k2 k3 k4 kf);obtain⟨f,i,j,k,l,c5,t⟩:=a.out.z.c6;obtain⟨A,B,C,D,E,F⟩:=a.out.b0;obtain⟨G,H,I,J,L,M⟩:=a.out.b1;unfold CJ))
 (try clear f i j k l c5 t);(try clear A B C D E F);(try clear G H I J L M);(try clear o0 o1 o2 o3 o4 of);(try clear k0 k1 k2 k3 k4 kf)
 go_loopg [] n (fun g wr=>∃(m:Nat) (x:Tr) (S:Option Addr) (T:Nat) (Y:Rs),m=g/\m<=n/\Hid (B0 nx pl ere m (.sumL x) Y=r)/\Hid (Fr V W q (W.heap.size+1) s Y [⟨w1.heap.size,.int .i64 x.kd,.string ⟨x.nm.toArray⟩,.float .f64 x.x,.slice S x.ks.length T,.complex .f64 x.z.1 x.z.2⟩,⟨W.heap.size,.int .i64 0,.string ⟨#[]⟩,.float .f64 0,.slice none 0 0,.complex .f64 0 0⟩] [(x.ks,.slice S x.ks.length T)] wr))
 case atStart=>exact⟨n,u,au,cu,p1,rfl,aE _,b,a⟩
 clear a b;obtain⟨m,x,S,T,Y,rfl,a0,b,a⟩:=hrel
 cases m with
 | zero=>exact absurd b.out.symm Q
 | succ m =>
 replace b:=aA (by have:=b.out;rw[B0] at this;exact this)
 (try clear f i j k l c5 t);(try clear A B C D E F);(try clear G H I J L M);(try clear o0 o1 o2 o3 o4 of);(try clear k0 k1 k2 k3 k4 kf);obtain⟨f,i,j,k,l,c5,t⟩:=a.out.z.c6;obtain⟨A,B,C,D,E,F⟩:=a.out.b0;obtain⟨G,H,I,J,L,M⟩:=a.out.b1
 go_wp2_with (first | (go_at_call 115;(with_reducible refine(Aby HN.out HP.out a.out.z [43,32,45] [[43],[45]] (by kernel_rfl) (by decide)).mono ?_);intro e w2 ha;obtain⟨o,p2,v,rfl,⟨rfl,O⟩,N,c⟩:=ha.part b Q;replace b:=c;clear c ha;(try dsimp only at b);replace a:=aA (a.out.move O N);clear O N;rcases o with _ | ⟨Z,U⟩<;>dsimp only at b<;>unfold Acy<;>dsimp only;all_goals ((try clear f i j k l c5 t);(try clear A B C D E F);(try clear G H I J L M);(try clear o0 o1 o2 o3 o4 of);(try clear k0 k1 k2 k3 k4 kf);obtain⟨f,i,j,k,l,c5,t⟩:=a.out.z.c6;obtain⟨A,B,C,D,E,F⟩:=a.out.b0;obtain⟨G,H,I,J,L,M⟩:=a.out.b1)))
 ·obtain⟨z0,z1,z2,z3,z4,zf⟩:=((((a.out.b1.set0 (.int .i64 x.kd)).set1 (.string ⟨x.nm.toArray⟩)).set2 (.float .f64 x.x)).set3 (.slice S x.ks.length T)).set4 (.complex .f64 x.z.1 x.z.2)
  exact bodyPost_ret (v:=CJ x (.slice S x.ks.length T)) (by simp[CJ,results,results282,go_sem,z0,z1,z2,z3,z4]<;>exact rfl) rfl (a.out.done a.out.k0 _ _ _ _ _ b)
 skip
 (try clear f i j k l c5 t);(try clear A B C D E F);(try clear G H I J L M);(try clear o0 o1 o2 o3 o4 of);(try clear k0 k1 k2 k3 k4 kf)
 refine a.out.region 7 (by kernel_rfl) (fun d=>?_);refine AbP 0 (.string ⟨Z.toArray⟩) rfl d ?_
 try simp only[Act.put,sP]
 refine AbP 1 (.complex .f64 U.1 U.2) rfl d ?_
 try simp only[Act.put,sP]
 refine AbU 2 ((.agg #[.int .i64 x.kd,.string ⟨x.nm.toArray⟩,.float .f64 x.x,.slice S x.ks.length T,.complex .f64 x.z.1 x.z.2])) rfl (fun w hS=>by obtain⟨s0,s1,s2,s3,s4,-⟩:=hS.b0;go_simp) d ?_
 try simp only[Act.put,sP]
 refine AbP 3 (.pointer (some ⟨q,0,none⟩)) rfl d ?_
 try simp only[Act.put,sP]
 refine AaC 4 rfl (fun K P=>?_)
 try go_simp
 go_at_call 290
 refine(HO.out _ (by omega) _ _ a.out.drew.z (K0 b Q)).mono ?_;intro e w8 ha;obtain⟨_,p8,v,rfl,⟨⟨y,kv,rfl,rfl,R⟩,O⟩,N,c⟩:=ha.part b Q;replace b:=c;clear c ha
 (try dsimp only[hd1,aF,aB,aC,aD] at b)
 obtain⟨ay,cy,rfl⟩:=R.slice;replace a:=aA (a.out.drew.read R O N);clear R O N d;unfold CJ;refine P.out _ _ (.inr a.out.bs) ?_
 try simp only[Act.put,sP]
 refine AaC 5 rfl (fun K P=>?_)
 try go_simp
 replace a:=aA a.out.kid2;refine P.out _ _ (.inr a.out.bs) ?_
 try simp only[Act.put,sP]
 refine AaC 6 rfl (fun K P=>?_)
 try go_simp
 refine P.out _ _ (.inr a.out.bs) ?_
 try simp only[Act.put,sP]
 obtain⟨G,H,I,J,L,M⟩:=a.out.b0;refine AaC 7 rfl (fun K P=>?_)
 try go_simp
 replace a:=aA (a.out.store (.int .i64 15) (.string ⟨Z.toArray⟩) (.float .f64 0) (.slice (some ⟨w8.heap.size,0,none⟩) 2 2) (.complex .f64 U.1 U.2));refine P.out _ _ (.inl rfl) ?_
 try simp only[Act.put,sP]
 refine Aal (by kernel_rfl) ?_ _;go_wp2
 go_roundg m
 case rel=>exact⟨m,.mk 15 Z 0 U [x,y],some ⟨w8.heap.size,0,none⟩,2,p8,rfl,by omega,b,aA a.out.row1⟩
 all_goals omega
set_option linter.unusedSimpArgs false in
theorem AeR {nx:Nat->Bool->Tk} {pl:Nat->Nat×Nat} {ere:List UInt8->Option Bool} {V:World} {q:Nat} {s:ByteArray} (hN:RxC nx s V) (hP:RlC pl s) (n:Nat)
  (hO:∀m,m<=n->NR nx pl ere V q s m .unary 293):NR nx pl ere V q s (n+1) .prod 290:=by
 intro p W h Q;obtain⟨r,X⟩:∃r,B0 nx pl ere (n+1) .prod p=r:=⟨_,rfl⟩;rw[X] at Q ⊢;rw[B0] at X;have b:=aA X;have a:=aA (Fr.start1 h (.int .i64 0) (.string ⟨#[]⟩) (.float .f64 0) (.slice none 0 0) (.complex .f64 0 0) 42);have HN:=aA hN;have HP:=aA hP;have HO:=aA (fun m (hm:m<=n) (p:Rs) (W:World) (h:Rz V q s p W) (g:B0 nx pl ere m .unary p ≠ .hush)=>hO m hm p W h g);clear X h hN hP hO
 (try clear f i j k l c5 t);(try clear A B C D E F);(try clear G H I J L M);(try clear o0 o1 o2 o3 o4 of);(try clear k0 k1 k2 k3 k4 kf);obtain⟨f,i,j,k,l,c5,t⟩:=a.out.z.c6;obtain⟨A,B,C,D,E,F⟩:=a.out.b0
 go_in
 go_wp2_with (first | (go_at_call 293;(with_reducible refine(HO.out _ (aE _) _ _ a.out.z (K0 b Q)).mono ?_);intro e w1 ha;obtain⟨_,p1,v,rfl,⟨⟨u,kv,rfl,rfl,R⟩,O⟩,N,c⟩:=ha.part b Q;replace b:=c;clear c ha;(try dsimp only at b);obtain⟨au,cu,rfl⟩:=R.slice;replace a:=aA ((a.out.read R O N).box (.int .i64 u.kd) (.string ⟨u.nm.toArray⟩) (.float .f64 u.x) (.slice au u.ks.length cu) (.complex .f64 u.z.1 u.z.2) 42);clear R O N;(try dsimp only[hd1,aF,aB,aC,aD] at b);(try clear f i j k l c5 t);(try clear A B C D E F);(try clear G H I J L M);(try clear o0 o1 o2 o3 o4 of);(try clear k0 k1 k2 k3 k4 kf);obtain⟨f,i,j,k,l,c5,t⟩:=a.out.z.c6;obtain⟨A,B,C,D,E,F⟩:=a.out.b0;obtain⟨G,H,I,J,L,M⟩:=a.out.b1;unfold CJ))
 (try clear f i j k l c5 t);(try clear A B C D E F);(try clear G H I J L M);(try clear o0 o1 o2 o3 o4 of);(try clear k0 k1 k2 k3 k4 kf)
 go_loopg [] n (fun g wr=>∃(m:Nat) (x:Tr) (S:Option Addr) (T:Nat) (Y:Rs),m=g/\m<=n/\Hid (B0 nx pl ere m (.prodL x) Y=r)/\Hid (Fr V W q (W.heap.size+1) s Y [⟨w1.heap.size,.int .i64 x.kd,.string ⟨x.nm.toArray⟩,.float .f64 x.x,.slice S x.ks.length T,.complex .f64 x.z.1 x.z.2⟩,⟨W.heap.size,.int .i64 0,.string ⟨#[]⟩,.float .f64 0,.slice none 0 0,.complex .f64 0 0⟩] [(x.ks,.slice S x.ks.length T)] wr))
 case atStart=>exact⟨n,u,au,cu,p1,rfl,aE _,b,a⟩
 clear a b;obtain⟨m,x,S,T,Y,rfl,a0,b,a⟩:=hrel
 cases m with
 | zero=>exact absurd b.out.symm Q
 | succ m =>
 replace b:=aA (by have:=b.out;rw[B0] at this;exact this)
 (try clear f i j k l c5 t);(try clear A B C D E F);(try clear G H I J L M);(try clear o0 o1 o2 o3 o4 of);(try clear k0 k1 k2 k3 k4 kf);obtain⟨f,i,j,k,l,c5,t⟩:=a.out.z.c6;obtain⟨A,B,C,D,E,F⟩:=a.out.b0;obtain⟨G,H,I,J,L,M⟩:=a.out.b1
 go_wp2_with (first | (go_at_call 115;(with_reducible refine(Aby HN.out HP.out a.out.z [42,32,47,32,37] [[42],[47],[37]] (by kernel_rfl) (by decide)).mono ?_);intro e w2 ha;obtain⟨o,p2,v,rfl,⟨rfl,O⟩,N,c⟩:=ha.part b Q;replace b:=c;clear c ha;(try dsimp only at b);replace a:=aA (a.out.move O N);clear O N;rcases o with _ | ⟨Z,U⟩<;>dsimp only at b<;>unfold Acy<;>dsimp only;all_goals ((try clear f i j k l c5 t);(try clear A B C D E F);(try clear G H I J L M);(try clear o0 o1 o2 o3 o4 of);(try clear k0 k1 k2 k3 k4 kf);obtain⟨f,i,j,k,l,c5,t⟩:=a.out.z.c6;obtain⟨A,B,C,D,E,F⟩:=a.out.b0;obtain⟨G,H,I,J,L,M⟩:=a.out.b1)))
 ·obtain⟨z0,z1,z2,z3,z4,zf⟩:=((((a.out.b1.set0 (.int .i64 x.kd)).set1 (.string ⟨x.nm.toArray⟩)).set2 (.float .f64 x.x)).set3 (.slice S x.ks.length T)).set4 (.complex .f64 x.z.1 x.z.2)
  exact bodyPost_ret (v:=CJ x (.slice S x.ks.length T)) (by simp[CJ,results,results290,go_sem,z0,z1,z2,z3,z4]<;>exact rfl) rfl (a.out.done a.out.k0 _ _ _ _ _ b)
 skip
 (try clear f i j k l c5 t);(try clear A B C D E F);(try clear G H I J L M);(try clear o0 o1 o2 o3 o4 of);(try clear k0 k1 k2 k3 k4 kf)
 refine a.out.region 7 (by kernel_rfl) (fun d=>?_);refine AbP 0 (.string ⟨Z.toArray⟩) rfl d ?_
 try simp only[Act.put,sP]
 refine AbP 1 (.complex .f64 U.1 U.2) rfl d ?_
 try simp only[Act.put,sP]
 refine AbU 2 ((.agg #[.int .i64 x.kd,.string ⟨x.nm.toArray⟩,.float .f64 x.x,.slice S x.ks.length T,.complex .f64 x.z.1 x.z.2])) rfl (fun w hS=>by obtain⟨s0,s1,s2,s3,s4,-⟩:=hS.b0;go_simp) d ?_
 try simp only[Act.put,sP]
 refine AbP 3 (.pointer (some ⟨q,0,none⟩)) rfl d ?_
 try simp only[Act.put,sP]
 refine AaC 4 rfl (fun K P=>?_)
 try go_simp
 go_at_call 293
 refine(HO.out _ (by omega) _ _ a.out.drew.z (K0 b Q)).mono ?_;intro e w8 ha;obtain⟨_,p8,v,rfl,⟨⟨y,kv,rfl,rfl,R⟩,O⟩,N,c⟩:=ha.part b Q;replace b:=c;clear c ha
 (try dsimp only[hd1,aF,aB,aC,aD] at b)
 obtain⟨ay,cy,rfl⟩:=R.slice;replace a:=aA (a.out.drew.read R O N);clear R O N d;unfold CJ;refine P.out _ _ (.inr a.out.bs) ?_
 try simp only[Act.put,sP]
 refine AaC 5 rfl (fun K P=>?_)
 try go_simp
 replace a:=aA a.out.kid2;refine P.out _ _ (.inr a.out.bs) ?_
 try simp only[Act.put,sP]
 refine AaC 6 rfl (fun K P=>?_)
 try go_simp
 refine P.out _ _ (.inr a.out.bs) ?_
 try simp only[Act.put,sP]
 obtain⟨G,H,I,J,L,M⟩:=a.out.b0;refine AaC 7 rfl (fun K P=>?_)
 try go_simp
 replace a:=aA (a.out.store (.int .i64 15) (.string ⟨Z.toArray⟩) (.float .f64 0) (.slice (some ⟨w8.heap.size,0,none⟩) 2 2) (.complex .f64 U.1 U.2));refine P.out _ _ (.inl rfl) ?_
 try simp only[Act.put,sP]
 refine Aal (by kernel_rfl) ?_ _;go_wp2
 go_roundg m
 case rel=>exact⟨m,.mk 15 Z 0 U [x,y],some ⟨w8.heap.size,0,none⟩,2,p8,rfl,by omega,b,aA a.out.row1⟩
 all_goals omega
set_option linter.unusedSimpArgs false in
theorem Aen {nx:Nat->Bool->Tk} {pl:Nat->Nat×Nat} {ere:List UInt8->Option Bool} {V:World} {q:Nat} {s:ByteArray} (hN:RxC nx s V) (hP:RlC pl s) (n:Nat)
  (hO:∀m,m<=n->NR nx pl ere V q s m .cmp 266):NR nx pl ere V q s (n+1) .mat 258:=by
 intro p W h Q;obtain⟨r,X⟩:∃r,B0 nx pl ere (n+1) .mat p=r:=⟨_,rfl⟩;rw[X] at Q ⊢;rw[B0] at X;have b:=aA X;have a:=aA (Fr.start1 h (.int .i64 0) (.string ⟨#[]⟩) (.float .f64 0) (.slice none 0 0) (.complex .f64 0 0) 42);have HN:=aA hN;have HP:=aA hP;have HO:=aA (fun m (hm:m<=n) (p:Rs) (W:World) (h:Rz V q s p W) (g:B0 nx pl ere m .cmp p ≠ .hush)=>hO m hm p W h g);clear X h hN hP hO
 (try clear f i j k l c5 t);(try clear A B C D E F);(try clear G H I J L M);(try clear o0 o1 o2 o3 o4 of);(try clear k0 k1 k2 k3 k4 kf);obtain⟨f,i,j,k,l,c5,t⟩:=a.out.z.c6;obtain⟨A,B,C,D,E,F⟩:=a.out.b0
 go_in
 go_wp2_with (first | (go_at_call 266;(with_reducible refine(HO.out _ (aE _) _ _ a.out.z (K0 b Q)).mono ?_);intro e w1 ha;obtain⟨_,p1,v,rfl,⟨⟨u,kv,rfl,rfl,R⟩,O⟩,N,c⟩:=ha.part b Q;replace b:=c;clear c ha;(try dsimp only at b);obtain⟨au,cu,rfl⟩:=R.slice;replace a:=aA ((a.out.read R O N).box (.int .i64 u.kd) (.string ⟨u.nm.toArray⟩) (.float .f64 u.x) (.slice au u.ks.length cu) (.complex .f64 u.z.1 u.z.2) 42);clear R O N;(try dsimp only[hd1,aF,aB,aC,aD] at b);(try clear f i j k l c5 t);(try clear A B C D E F);(try clear G H I J L M);(try clear o0 o1 o2 o3 o4 of);(try clear k0 k1 k2 k3 k4 kf);obtain⟨f,i,j,k,l,c5,t⟩:=a.out.z.c6;obtain⟨A,B,C,D,E,F⟩:=a.out.b0;obtain⟨G,H,I,J,L,M⟩:=a.out.b1;unfold CJ))
 (try clear f i j k l c5 t);(try clear A B C D E F);(try clear G H I J L M);(try clear o0 o1 o2 o3 o4 of);(try clear k0 k1 k2 k3 k4 kf)
 go_loopg [] n (fun g wr=>∃(m:Nat) (x:Tr) (S:Option Addr) (T:Nat) (Y:Rs),m=g/\m<=n/\Hid (B0 nx pl ere m (.matL x) Y=r)/\Hid (Fr V W q (W.heap.size+1) s Y [⟨w1.heap.size,.int .i64 x.kd,.string ⟨x.nm.toArray⟩,.float .f64 x.x,.slice S x.ks.length T,.complex .f64 x.z.1 x.z.2⟩,⟨W.heap.size,.int .i64 0,.string ⟨#[]⟩,.float .f64 0,.slice none 0 0,.complex .f64 0 0⟩] [(x.ks,.slice S x.ks.length T)] wr))
 case atStart=>exact⟨n,u,au,cu,p1,rfl,aE _,b,a⟩
 clear a b;obtain⟨m,x,S,T,Y,rfl,a0,b,a⟩:=hrel
 cases m with
 | zero=>exact absurd b.out.symm Q
 | succ m =>
 replace b:=aA (by have:=b.out;rw[B0] at this;exact this)
 (try clear f i j k l c5 t);(try clear A B C D E F);(try clear G H I J L M);(try clear o0 o1 o2 o3 o4 of);(try clear k0 k1 k2 k3 k4 kf);obtain⟨f,i,j,k,l,c5,t⟩:=a.out.z.c6;obtain⟨A,B,C,D,E,F⟩:=a.out.b0;obtain⟨G,H,I,J,L,M⟩:=a.out.b1
 go_wp2_with (first | (go_at_call 115;(with_reducible refine(Aby HN.out HP.out a.out.z [126,32,33,126] [[126],[33,126]] (by kernel_rfl) (by decide)).mono ?_);intro e w2 ha;obtain⟨o,p2,v,rfl,⟨rfl,O⟩,N,c⟩:=ha.part b Q;replace b:=c;clear c ha;(try dsimp only at b);replace a:=aA (a.out.move O N);clear O N;rcases o with _ | ⟨Z,U⟩<;>dsimp only at b<;>unfold Acy<;>dsimp only;all_goals ((try clear f i j k l c5 t);(try clear A B C D E F);(try clear G H I J L M);(try clear o0 o1 o2 o3 o4 of);(try clear k0 k1 k2 k3 k4 kf);obtain⟨f,i,j,k,l,c5,t⟩:=a.out.z.c6;obtain⟨A,B,C,D,E,F⟩:=a.out.b0;obtain⟨G,H,I,J,L,M⟩:=a.out.b1)))
 ·obtain⟨z0,z1,z2,z3,z4,zf⟩:=((((a.out.b1.set0 (.int .i64 x.kd)).set1 (.string ⟨x.nm.toArray⟩)).set2 (.float .f64 x.x)).set3 (.slice S x.ks.length T)).set4 (.complex .f64 x.z.1 x.z.2)
  exact bodyPost_ret (v:=CJ x (.slice S x.ks.length T)) (by simp[CJ,results,results258,go_sem,z0,z1,z2,z3,z4]<;>exact rfl) rfl (a.out.done a.out.k0 _ _ _ _ _ b)
 skip
 (try clear f i j k l c5 t);(try clear A B C D E F);(try clear G H I J L M);(try clear o0 o1 o2 o3 o4 of);(try clear k0 k1 k2 k3 k4 kf)
 refine a.out.region 7 (by kernel_rfl) (fun d=>?_);refine AbP 0 (.string ⟨Z.toArray⟩) rfl d ?_
 try simp only[Act.put,sP]
 refine AbP 1 (.complex .f64 U.1 U.2) rfl d ?_
 try simp only[Act.put,sP]
 refine AbU 2 ((.agg #[.int .i64 x.kd,.string ⟨x.nm.toArray⟩,.float .f64 x.x,.slice S x.ks.length T,.complex .f64 x.z.1 x.z.2])) rfl (fun w hS=>by obtain⟨s0,s1,s2,s3,s4,-⟩:=hS.b0;go_simp) d ?_
 try simp only[Act.put,sP]
 refine AbP 3 (.pointer (some ⟨q,0,none⟩)) rfl d ?_
 try simp only[Act.put,sP]
 refine AaC 4 rfl (fun K P=>?_)
 try go_simp
 go_at_call 266
 refine(HO.out _ (by omega) _ _ a.out.drew.z (K0 b Q)).mono ?_;intro e w8 ha;obtain⟨_,p8,v,rfl,⟨⟨y,kv,rfl,rfl,R⟩,O⟩,N,c⟩:=ha.part b Q;replace b:=c;clear c ha
 (try dsimp only[hd1,aF,aB,aC,aD] at b)
 obtain⟨ay,cy,rfl⟩:=R.slice;replace a:=aA (a.out.drew.read R O N);clear R O N d;unfold CJ;refine P.out _ _ (.inr a.out.bs) ?_
 try simp only[Act.put,sP]
 refine AaC 5 rfl (fun K P=>?_)
 try go_simp
 replace a:=aA a.out.kid2;refine P.out _ _ (.inr a.out.bs) ?_
 try simp only[Act.put,sP]
 refine AaC 6 rfl (fun K P=>?_)
 try go_simp
 refine P.out _ _ (.inr a.out.bs) ?_
 try simp only[Act.put,sP]
 obtain⟨G,H,I,J,L,M⟩:=a.out.b0;refine AaC 7 rfl (fun K P=>?_)
 try go_simp
 replace a:=aA (a.out.store (.int .i64 12) (.string ⟨Z.toArray⟩) (.float .f64 0) (.slice (some ⟨w8.heap.size,0,none⟩) 2 2) (.complex .f64 U.1 U.2));refine P.out _ _ (.inl rfl) ?_
 try simp only[Act.put,sP]
 refine Aal (by kernel_rfl) ?_ _;go_wp2
 go_roundg m
 case rel=>exact⟨m,.mk 12 Z 0 U [x,y],some ⟨w8.heap.size,0,none⟩,2,p8,rfl,by omega,b,aA a.out.row1⟩
 all_goals omega
set_option linter.unusedSimpArgs false in
theorem AgA {nx:Nat->Bool->Tk} {pl:Nat->Nat×Nat} {ere:List UInt8->Option Bool} {V:World} {q:Nat} {s:ByteArray} (hN:RxC nx s V) (hP:RlC pl s) (n:Nat)
  (hO:∀m,m<=n->NR nx pl ere V q s m .and 193):NR nx pl ere V q s (n+1) .or 152:=by
 intro p W h P;obtain⟨r,X⟩:∃r,B0 nx pl ere (n+1) .or p=r:=⟨_,rfl⟩;rw[X] at P ⊢;rw[B0] at X;have b:=aA X;have a:=aA (Fr.start1 h (.int .i64 0) (.string ⟨#[]⟩) (.float .f64 0) (.slice none 0 0) (.complex .f64 0 0) 42);have Z:=aA hN;have HP:=aA hP;have HO:=aA (fun m (hm:m<=n) (p:Rs) (W:World) (h:Rz V q s p W) (g:B0 nx pl ere m .and p ≠ .hush)=>hO m hm p W h g);clear X h hN hP hO
 (try clear d f i j k c5 l);(try clear B C D E F G);(try clear H I J L M N);(try clear o0 o1 o2 o3 o4 of);(try clear k0 k1 k2 k3 k4 kf);obtain⟨d,f,i,j,k,c5,l⟩:=a.out.z.c6;obtain⟨B,C,D,E,F,G⟩:=a.out.b0
 go_in
 go_wp2_with (first | (go_at_call 193;(with_reducible refine(HO.out _ (aE _) _ _ a.out.z (K0 b P)).mono ?_);intro e w1 ha;obtain⟨_,p1,v,rfl,⟨⟨u,kv,rfl,rfl,R⟩,A⟩,t,c⟩:=ha.part b P;replace b:=c;clear c ha;(try dsimp only at b);obtain⟨au,cu,rfl⟩:=R.slice;replace a:=aA ((a.out.read R A t).box (.int .i64 u.kd) (.string ⟨u.nm.toArray⟩) (.float .f64 u.x) (.slice au u.ks.length cu) (.complex .f64 u.z.1 u.z.2) 42);clear R A t;(try dsimp only[hd1,aF,aB,aC,aD] at b);(try clear d f i j k c5 l);(try clear B C D E F G);(try clear H I J L M N);(try clear o0 o1 o2 o3 o4 of);(try clear k0 k1 k2 k3 k4 kf);obtain⟨d,f,i,j,k,c5,l⟩:=a.out.z.c6;obtain⟨B,C,D,E,F,G⟩:=a.out.b0;obtain⟨H,I,J,L,M,N⟩:=a.out.b1;unfold CJ))
 (try clear d f i j k c5 l);(try clear B C D E F G);(try clear H I J L M N);(try clear o0 o1 o2 o3 o4 of);(try clear k0 k1 k2 k3 k4 kf)
 go_loopg [] n (fun g wr=>∃(m:Nat) (x:Tr) (S:Option Addr) (T:Nat) (Y:Rs),m=g/\m<=n/\Hid (B0 nx pl ere m (.orL x) Y=r)/\Hid (Fr V W q (W.heap.size+1) s Y [⟨w1.heap.size,.int .i64 x.kd,.string ⟨x.nm.toArray⟩,.float .f64 x.x,.slice S x.ks.length T,.complex .f64 x.z.1 x.z.2⟩,⟨W.heap.size,.int .i64 0,.string ⟨#[]⟩,.float .f64 0,.slice none 0 0,.complex .f64 0 0⟩] [(x.ks,.slice S x.ks.length T)] wr))
 case atStart=>exact⟨n,u,au,cu,p1,rfl,aE _,b,a⟩
 clear a b;obtain⟨m,x,S,T,Y,rfl,a0,b,a⟩:=hrel
 cases m with
 | zero=>exact absurd b.out.symm P
 | succ m =>
 replace b:=aA (by have:=b.out;rw[B0] at this;exact this)
 (try clear d f i j k c5 l);(try clear B C D E F G);(try clear H I J L M N);(try clear o0 o1 o2 o3 o4 of);(try clear k0 k1 k2 k3 k4 kf);obtain⟨d,f,i,j,k,c5,l⟩:=a.out.z.c6;obtain⟨B,C,D,E,F,G⟩:=a.out.b0;obtain⟨H,I,J,L,M,N⟩:=a.out.b1
 go_wp2_with (first | (go_at_call 115;(with_reducible refine(Aby Z.out HP.out a.out.z [124,124] [[124,124]] (by kernel_rfl) (by decide)).mono ?_);intro e w2 ha;obtain⟨o,p2,v,rfl,⟨rfl,A⟩,t,c⟩:=ha.part b P;replace b:=c;clear c ha;(try dsimp only at b);replace a:=aA (a.out.move A t);clear A t;rcases o with _ | ⟨sx,U⟩<;>dsimp only at b<;>unfold Acy<;>dsimp only;all_goals ((try clear d f i j k c5 l);(try clear B C D E F G);(try clear H I J L M N);(try clear o0 o1 o2 o3 o4 of);(try clear k0 k1 k2 k3 k4 kf);obtain⟨d,f,i,j,k,c5,l⟩:=a.out.z.c6;obtain⟨B,C,D,E,F,G⟩:=a.out.b0;obtain⟨H,I,J,L,M,N⟩:=a.out.b1)) | (go_at_call 28;(with_reducible refine(AbE Z.out a.out.z [] _ (K0 b P)).mono ?_);intro e w3 ha;obtain⟨_,p3,v,rfl,⟨rfl,A⟩,t,c⟩:=ha.part b P;replace b:=c;clear c ha;(try dsimp only at b);replace a:=aA (a.out.move A t);clear A t;(try clear d f i j k c5 l);(try clear B C D E F G);(try clear H I J L M N);(try clear o0 o1 o2 o3 o4 of);(try clear k0 k1 k2 k3 k4 kf);obtain⟨d,f,i,j,k,c5,l⟩:=a.out.z.c6;obtain⟨B,C,D,E,F,G⟩:=a.out.b0;obtain⟨H,I,J,L,M,N⟩:=a.out.b1))
 ·obtain⟨z0,z1,z2,z3,z4,zf⟩:=((((a.out.b1.set0 (.int .i64 x.kd)).set1 (.string ⟨x.nm.toArray⟩)).set2 (.float .f64 x.x)).set3 (.slice S x.ks.length T)).set4 (.complex .f64 x.z.1 x.z.2)
  exact bodyPost_ret (v:=CJ x (.slice S x.ks.length T)) (by simp[CJ,results,results152,go_sem,z0,z1,z2,z3,z4]<;>exact rfl) rfl (a.out.done a.out.k0 _ _ _ _ _ b)
 skip
 (try clear d f i j k c5 l);(try clear B C D E F G);(try clear H I J L M N);(try clear o0 o1 o2 o3 o4 of);(try clear k0 k1 k2 k3 k4 kf)
 refine a.out.region 6 (by kernel_rfl) (fun O=>?_);refine AbP 0 (.complex .f64 U.1 U.2) rfl O ?_
 try simp only[Act.put,sP]
 refine AbU 1 ((.agg #[.int .i64 x.kd,.string ⟨x.nm.toArray⟩,.float .f64 x.x,.slice S x.ks.length T,.complex .f64 x.z.1 x.z.2])) rfl (fun w hS=>by obtain⟨s0,s1,s2,s3,s4,-⟩:=hS.b0;go_simp) O ?_
 try simp only[Act.put,sP]
 refine AbP 2 (.pointer (some ⟨q,0,none⟩)) rfl O ?_
 try simp only[Act.put,sP]
 refine AaC 3 rfl (fun K Q=>?_)
 try go_simp
 go_at_call 193
 refine(HO.out _ (by omega) _ _ a.out.drew.z (K0 b P)).mono ?_;intro e w8 ha;obtain⟨_,p8,v,rfl,⟨⟨y,kv,rfl,rfl,R⟩,A⟩,t,c⟩:=ha.part b P;replace b:=c;clear c ha
 (try dsimp only[hd1,aF,aB,aC,aD] at b)
 obtain⟨ay,cy,rfl⟩:=R.slice;replace a:=aA (a.out.drew.read R A t);clear R A t O;unfold CJ;refine Q.out _ _ (.inr a.out.bs) ?_
 try simp only[Act.put,sP]
 refine AaC 4 rfl (fun K Q=>?_)
 try go_simp
 replace a:=aA a.out.kid2;refine Q.out _ _ (.inr a.out.bs) ?_
 try simp only[Act.put,sP]
 refine AaC 5 rfl (fun K Q=>?_)
 try go_simp
 refine Q.out _ _ (.inr a.out.bs) ?_
 try simp only[Act.put,sP]
 obtain⟨H,I,J,L,M,N⟩:=a.out.b0;refine AaC 6 rfl (fun K Q=>?_)
 try go_simp
 replace a:=aA (a.out.store (.int .i64 9) (.string ⟨#[]⟩) (.float .f64 0) (.slice (some ⟨w8.heap.size,0,none⟩) 2 2) (.complex .f64 U.1 U.2));refine Q.out _ _ (.inl rfl) ?_
 try simp only[Act.put,sP]
 refine Aal (by kernel_rfl) ?_ _;go_wp2
 go_roundg m
 case rel=>exact⟨m,.mk 9 [] 0 U [x,y],some ⟨w8.heap.size,0,none⟩,2,p8,rfl,by omega,b,aA a.out.row1⟩
 all_goals omega
set_option linter.unusedSimpArgs false in
theorem AfK {nx:Nat->Bool->Tk} {pl:Nat->Nat×Nat} {ere:List UInt8->Option Bool} {V:World} {q:Nat} {s:ByteArray} (hN:RxC nx s V) (hP:RlC pl s) (n:Nat)
  (hO:∀m,m<=n->NR nx pl ere V q s m .inn 240):NR nx pl ere V q s (n+1) .and 193:=by
 intro p W h P;obtain⟨r,X⟩:∃r,B0 nx pl ere (n+1) .and p=r:=⟨_,rfl⟩;rw[X] at P ⊢;rw[B0] at X;have b:=aA X;have a:=aA (Fr.start1 h (.int .i64 0) (.string ⟨#[]⟩) (.float .f64 0) (.slice none 0 0) (.complex .f64 0 0) 42);have Z:=aA hN;have HP:=aA hP;have HO:=aA (fun m (hm:m<=n) (p:Rs) (W:World) (h:Rz V q s p W) (g:B0 nx pl ere m .inn p ≠ .hush)=>hO m hm p W h g);clear X h hN hP hO
 (try clear d f i j k c5 l);(try clear B C D E F G);(try clear H I J L M N);(try clear o0 o1 o2 o3 o4 of);(try clear k0 k1 k2 k3 k4 kf);obtain⟨d,f,i,j,k,c5,l⟩:=a.out.z.c6;obtain⟨B,C,D,E,F,G⟩:=a.out.b0
 go_in
 go_wp2_with (first | (go_at_call 240;(with_reducible refine(HO.out _ (aE _) _ _ a.out.z (K0 b P)).mono ?_);intro e w1 ha;obtain⟨_,p1,v,rfl,⟨⟨u,kv,rfl,rfl,R⟩,A⟩,t,c⟩:=ha.part b P;replace b:=c;clear c ha;(try dsimp only at b);obtain⟨au,cu,rfl⟩:=R.slice;replace a:=aA ((a.out.read R A t).box (.int .i64 u.kd) (.string ⟨u.nm.toArray⟩) (.float .f64 u.x) (.slice au u.ks.length cu) (.complex .f64 u.z.1 u.z.2) 42);clear R A t;(try dsimp only[hd1,aF,aB,aC,aD] at b);(try clear d f i j k c5 l);(try clear B C D E F G);(try clear H I J L M N);(try clear o0 o1 o2 o3 o4 of);(try clear k0 k1 k2 k3 k4 kf);obtain⟨d,f,i,j,k,c5,l⟩:=a.out.z.c6;obtain⟨B,C,D,E,F,G⟩:=a.out.b0;obtain⟨H,I,J,L,M,N⟩:=a.out.b1;unfold CJ))
 (try clear d f i j k c5 l);(try clear B C D E F G);(try clear H I J L M N);(try clear o0 o1 o2 o3 o4 of);(try clear k0 k1 k2 k3 k4 kf)
 go_loopg [] n (fun g wr=>∃(m:Nat) (x:Tr) (S:Option Addr) (T:Nat) (Y:Rs),m=g/\m<=n/\Hid (B0 nx pl ere m (.andL x) Y=r)/\Hid (Fr V W q (W.heap.size+1) s Y [⟨w1.heap.size,.int .i64 x.kd,.string ⟨x.nm.toArray⟩,.float .f64 x.x,.slice S x.ks.length T,.complex .f64 x.z.1 x.z.2⟩,⟨W.heap.size,.int .i64 0,.string ⟨#[]⟩,.float .f64 0,.slice none 0 0,.complex .f64 0 0⟩] [(x.ks,.slice S x.ks.length T)] wr))
 case atStart=>exact⟨n,u,au,cu,p1,rfl,aE _,b,a⟩
 clear a b;obtain⟨m,x,S,T,Y,rfl,a0,b,a⟩:=hrel
 cases m with
 | zero=>exact absurd b.out.symm P
 | succ m =>
 replace b:=aA (by have:=b.out;rw[B0] at this;exact this)
 (try clear d f i j k c5 l);(try clear B C D E F G);(try clear H I J L M N);(try clear o0 o1 o2 o3 o4 of);(try clear k0 k1 k2 k3 k4 kf);obtain⟨d,f,i,j,k,c5,l⟩:=a.out.z.c6;obtain⟨B,C,D,E,F,G⟩:=a.out.b0;obtain⟨H,I,J,L,M,N⟩:=a.out.b1
 go_wp2_with (first | (go_at_call 115;(with_reducible refine(Aby Z.out HP.out a.out.z [38,38] [[38,38]] (by kernel_rfl) (by decide)).mono ?_);intro e w2 ha;obtain⟨o,p2,v,rfl,⟨rfl,A⟩,t,c⟩:=ha.part b P;replace b:=c;clear c ha;(try dsimp only at b);replace a:=aA (a.out.move A t);clear A t;rcases o with _ | ⟨sx,U⟩<;>dsimp only at b<;>unfold Acy<;>dsimp only;all_goals ((try clear d f i j k c5 l);(try clear B C D E F G);(try clear H I J L M N);(try clear o0 o1 o2 o3 o4 of);(try clear k0 k1 k2 k3 k4 kf);obtain⟨d,f,i,j,k,c5,l⟩:=a.out.z.c6;obtain⟨B,C,D,E,F,G⟩:=a.out.b0;obtain⟨H,I,J,L,M,N⟩:=a.out.b1)) | (go_at_call 28;(with_reducible refine(AbE Z.out a.out.z [] _ (K0 b P)).mono ?_);intro e w3 ha;obtain⟨_,p3,v,rfl,⟨rfl,A⟩,t,c⟩:=ha.part b P;replace b:=c;clear c ha;(try dsimp only at b);replace a:=aA (a.out.move A t);clear A t;(try clear d f i j k c5 l);(try clear B C D E F G);(try clear H I J L M N);(try clear o0 o1 o2 o3 o4 of);(try clear k0 k1 k2 k3 k4 kf);obtain⟨d,f,i,j,k,c5,l⟩:=a.out.z.c6;obtain⟨B,C,D,E,F,G⟩:=a.out.b0;obtain⟨H,I,J,L,M,N⟩:=a.out.b1))
 ·obtain⟨z0,z1,z2,z3,z4,zf⟩:=((((a.out.b1.set0 (.int .i64 x.kd)).set1 (.string ⟨x.nm.toArray⟩)).set2 (.float .f64 x.x)).set3 (.slice S x.ks.length T)).set4 (.complex .f64 x.z.1 x.z.2)
  exact bodyPost_ret (v:=CJ x (.slice S x.ks.length T)) (by simp[CJ,results,results193,go_sem,z0,z1,z2,z3,z4]<;>exact rfl) rfl (a.out.done a.out.k0 _ _ _ _ _ b)
 skip
 (try clear d f i j k c5 l);(try clear B C D E F G);(try clear H I J L M N);(try clear o0 o1 o2 o3 o4 of);(try clear k0 k1 k2 k3 k4 kf)
 refine a.out.region 6 (by kernel_rfl) (fun O=>?_);refine AbP 0 (.complex .f64 U.1 U.2) rfl O ?_
 try simp only[Act.put,sP]
 refine AbU 1 ((.agg #[.int .i64 x.kd,.string ⟨x.nm.toArray⟩,.float .f64 x.x,.slice S x.ks.length T,.complex .f64 x.z.1 x.z.2])) rfl (fun w hS=>by obtain⟨s0,s1,s2,s3,s4,-⟩:=hS.b0;go_simp) O ?_
 try simp only[Act.put,sP]
 refine AbP 2 (.pointer (some ⟨q,0,none⟩)) rfl O ?_
 try simp only[Act.put,sP]
 refine AaC 3 rfl (fun K Q=>?_)
 try go_simp
 go_at_call 240
 refine(HO.out _ (by omega) _ _ a.out.drew.z (K0 b P)).mono ?_;intro e w8 ha;obtain⟨_,p8,v,rfl,⟨⟨y,kv,rfl,rfl,R⟩,A⟩,t,c⟩:=ha.part b P;replace b:=c;clear c ha
 (try dsimp only[hd1,aF,aB,aC,aD] at b)
 obtain⟨ay,cy,rfl⟩:=R.slice;replace a:=aA (a.out.drew.read R A t);clear R A t O;unfold CJ;refine Q.out _ _ (.inr a.out.bs) ?_
 try simp only[Act.put,sP]
 refine AaC 4 rfl (fun K Q=>?_)
 try go_simp
 replace a:=aA a.out.kid2;refine Q.out _ _ (.inr a.out.bs) ?_
 try simp only[Act.put,sP]
 refine AaC 5 rfl (fun K Q=>?_)
 try go_simp
 refine Q.out _ _ (.inr a.out.bs) ?_
 try simp only[Act.put,sP]
 obtain⟨H,I,J,L,M,N⟩:=a.out.b0;refine AaC 6 rfl (fun K Q=>?_)
 try go_simp
 replace a:=aA (a.out.store (.int .i64 10) (.string ⟨#[]⟩) (.float .f64 0) (.slice (some ⟨w8.heap.size,0,none⟩) 2 2) (.complex .f64 U.1 U.2));refine Q.out _ _ (.inl rfl) ?_
 try simp only[Act.put,sP]
 refine Aal (by kernel_rfl) ?_ _;go_wp2
 go_roundg m
 case rel=>exact⟨m,.mk 10 [] 0 U [x,y],some ⟨w8.heap.size,0,none⟩,2,p8,rfl,by omega,b,aA a.out.row1⟩
 all_goals omega
set_option linter.unusedSimpArgs false in
theorem AfM {nx:Nat->Bool->Tk} {pl:Nat->Nat×Nat} {ere:List UInt8->Option Bool} {U:World} {q:Nat} {s:ByteArray} (hN:RxC nx s U) (hP:RlC pl s) (n:Nat)
  (hO:∀m,m<=n->NR nx pl ere U q s m .sum 282):NR nx pl ere U q s (n+1) .cat 276:=by
 intro p W h Q;obtain⟨r,V⟩:∃r,B0 nx pl ere (n+1) .cat p=r:=⟨_,rfl⟩;rw[V] at Q ⊢;rw[B0] at V;have c:=aA V;have a:=aA (Fr.start1 h (.int .i64 0) (.string ⟨#[]⟩) (.float .f64 0) (.slice none 0 0) (.complex .f64 0 0) 42);have HN:=aA hN;have HP:=aA hP;have Z:=aA (fun m (hm:m<=n) (p:Rs) (W:World) (h:Rz U q s p W) (g:B0 nx pl ere m .sum p ≠ .hush)=>hO m hm p W h g);clear V h hN hP hO
 (try clear i j k l o c5 t);(try clear A B C D E F);(try clear G H I J L M);(try clear o0 o1 o2 o3 o4 of);(try clear k0 k1 k2 k3 k4 kf);obtain⟨i,j,k,l,o,c5,t⟩:=a.out.z.c6;obtain⟨A,B,C,D,E,F⟩:=a.out.b0
 go_in
 go_wp2_with (first | (go_at_call 282;(with_reducible refine(Z.out _ (aE _) _ _ a.out.z (K0 c Q)).mono ?_);intro e w1 ha;obtain⟨_,p1,v,rfl,⟨⟨u,kv,rfl,rfl,R⟩,O⟩,N,d⟩:=ha.part c Q;replace c:=d;clear d ha;(try dsimp only at c);obtain⟨au,cu,rfl⟩:=R.slice;replace a:=aA ((a.out.read R O N).box (.int .i64 u.kd) (.string ⟨u.nm.toArray⟩) (.float .f64 u.x) (.slice au u.ks.length cu) (.complex .f64 u.z.1 u.z.2) 42);clear R O N;(try dsimp only[hd1,aF,aB,aC,aD] at c);(try clear i j k l o c5 t);(try clear A B C D E F);(try clear G H I J L M);(try clear o0 o1 o2 o3 o4 of);(try clear k0 k1 k2 k3 k4 kf);obtain⟨i,j,k,l,o,c5,t⟩:=a.out.z.c6;obtain⟨A,B,C,D,E,F⟩:=a.out.b0;obtain⟨G,H,I,J,L,M⟩:=a.out.b1;unfold CJ))
 (try clear i j k l o c5 t);(try clear A B C D E F);(try clear G H I J L M);(try clear o0 o1 o2 o3 o4 of);(try clear k0 k1 k2 k3 k4 kf)
 go_loopg [] n (fun g wr=>∃(m:Nat) (x:Tr) (S:Option Addr) (T:Nat) (Y:Rs),m=g/\m<=n/\Hid (B0 nx pl ere m (.catL x) Y=r)/\Hid (Fr U W q (W.heap.size+1) s Y [⟨w1.heap.size,.int .i64 x.kd,.string ⟨x.nm.toArray⟩,.float .f64 x.x,.slice S x.ks.length T,.complex .f64 x.z.1 x.z.2⟩,⟨W.heap.size,.int .i64 0,.string ⟨#[]⟩,.float .f64 0,.slice none 0 0,.complex .f64 0 0⟩] [(x.ks,.slice S x.ks.length T)] wr))
 case atStart=>exact⟨n,u,au,cu,p1,rfl,aE _,c,a⟩
 clear a c;obtain⟨m,x,S,T,Y,rfl,a0,c,a⟩:=hrel
 cases m with
 | zero=>exact absurd c.out.symm Q
 | succ m =>
 replace c:=aA (by have:=c.out;rw[B0] at this;exact this)
 (try clear i j k l o c5 t);(try clear A B C D E F);(try clear G H I J L M);(try clear o0 o1 o2 o3 o4 of);(try clear k0 k1 k2 k3 k4 kf);obtain⟨i,j,k,l,o,c5,t⟩:=a.out.z.c6;obtain⟨A,B,C,D,E,F⟩:=a.out.b0;obtain⟨G,H,I,J,L,M⟩:=a.out.b1
 go_wp2_with (first | (go_at_call 283;(with_reducible refine(AfO HN.out HP.out a.out.z).mono ?_);intro e w2 ha;obtain⟨b,p2,v,rfl,⟨rfl,O⟩,N,d⟩:=ha.part c Q;replace c:=d;clear d ha;(try dsimp only at c);replace a:=aA (a.out.move O N);clear O N;cases b<;>(simp only[if_true,if_false,Bool.false_eq_true,reduceIte] at c);all_goals ((try clear i j k l o c5 t);(try clear A B C D E F);(try clear G H I J L M);(try clear o0 o1 o2 o3 o4 of);(try clear k0 k1 k2 k3 k4 kf);obtain⟨i,j,k,l,o,c5,t⟩:=a.out.z.c6;obtain⟨A,B,C,D,E,F⟩:=a.out.b0;obtain⟨G,H,I,J,L,M⟩:=a.out.b1)))
 ·obtain⟨z0,z1,z2,z3,z4,zf⟩:=((((a.out.b1.set0 (.int .i64 x.kd)).set1 (.string ⟨x.nm.toArray⟩)).set2 (.float .f64 x.x)).set3 (.slice S x.ks.length T)).set4 (.complex .f64 x.z.1 x.z.2)
  exact bodyPost_ret (v:=CJ x (.slice S x.ks.length T)) (by simp[CJ,results,results276,go_sem,z0,z1,z2,z3,z4]<;>exact rfl) rfl (a.out.done a.out.k0 _ _ _ _ _ c)
 skip
 (try clear i j k l o c5 t);(try clear A B C D E F);(try clear G H I J L M);(try clear o0 o1 o2 o3 o4 of);(try clear k0 k1 k2 k3 k4 kf)
 refine a.out.region 7 (by kernel_rfl) (fun f=>?_);refine AbP 0 (.pointer (some ⟨w1.heap.size,4,none⟩)) rfl f ?_
 try simp only[Act.put,sP]
 refine AbU 1 (.complex .f64 x.z.1 x.z.2) rfl (fun w X=>by obtain⟨s0,s1,s2,s3,s4,-⟩:=X.b0;go_simp) f ?_
 try simp only[Act.put,sP]
 refine AbU 2 ((.agg #[.int .i64 x.kd,.string ⟨x.nm.toArray⟩,.float .f64 x.x,.slice S x.ks.length T,.complex .f64 x.z.1 x.z.2])) rfl (fun w X=>by obtain⟨s0,s1,s2,s3,s4,-⟩:=X.b0;go_simp) f ?_
 try simp only[Act.put,sP]
 refine AbP 3 (.pointer (some ⟨q,0,none⟩)) rfl f ?_
 try simp only[Act.put,sP]
 refine AaC 4 rfl (fun K P=>?_)
 try go_simp
 go_at_call 282
 refine(Z.out _ (by omega) _ _ a.out.drew.z (K0 c Q)).mono ?_;intro e w8 ha;obtain⟨_,p8,v,rfl,⟨⟨y,kv,rfl,rfl,R⟩,O⟩,N,d⟩:=ha.part c Q;replace c:=d;clear d ha
 (try dsimp only[hd1,aF,aB,aC,aD] at c)
 obtain⟨ay,cy,rfl⟩:=R.slice;replace a:=aA (a.out.drew.read R O N);clear R O N f;unfold CJ;refine P.out _ _ (.inr a.out.bs) ?_
 try simp only[Act.put,sP]
 refine AaC 5 rfl (fun K P=>?_)
 try go_simp
 replace a:=aA a.out.kid2;refine P.out _ _ (.inr a.out.bs) ?_
 try simp only[Act.put,sP]
 refine AaC 6 rfl (fun K P=>?_)
 try go_simp
 refine P.out _ _ (.inr a.out.bs) ?_
 try simp only[Act.put,sP]
 obtain⟨G,H,I,J,L,M⟩:=a.out.b0;refine AaC 7 rfl (fun K P=>?_)
 try go_simp
 replace a:=aA (a.out.store (.int .i64 14) (.string ⟨#[]⟩) (.float .f64 0) (.slice (some ⟨w8.heap.size,0,none⟩) 2 2) (.complex .f64 x.z.1 x.z.2));refine P.out _ _ (.inl rfl) ?_
 try simp only[Act.put,sP]
 refine Aal (by kernel_rfl) ?_ _;go_wp2
 go_roundg m
 case rel=>exact⟨m,.mk 14 [] 0 x.z [x,y],some ⟨w8.heap.size,0,none⟩,2,p8,rfl,by omega,c,aA a.out.row1⟩
 all_goals omega
end Go.Proofs.YtfblenhlildnaaaGreatDoor
