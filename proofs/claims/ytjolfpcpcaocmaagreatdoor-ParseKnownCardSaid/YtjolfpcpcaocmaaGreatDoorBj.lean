/- Bj Bk Bl -/
import Derived.Test.YtjolfpcpcaocmaaGreatDoorBh
set_option maxRecDepth 100000
set_option maxHeartbeats 2000000
open Go.Lib renaming hid->aA
namespace Go.Proofs.YtjolfpcpcaocmaaGreatDoor
open Go.Proofs.Tryz
open Go.RowKit
theorem Pz.far5 {d w:World} {q b:Nat} {s:ByteArray} {p:Ps} (h:Pz d q s p w) (e:d.heap.size<=b) (a:q≠b) (v0 v1 v2 v3 v4:Value) :
  Pz d q s p (((((w.setCell ⟨b,0,none⟩ v0).setCell ⟨b,1,none⟩ v1).setCell ⟨b,2,none⟩ v2).setCell ⟨b,3,none⟩ v3).setCell ⟨b,4,none⟩ v4) :=
 ⟨Zq h.below e _ _ _ _ _,h.hq,⟨Em h.c.c0 a,Em h.c.c1 a,Em h.c.c2 a,Em h.c.c3 a,fun j=>by simp only[World.frozen?_setCell];exact h.c.fz j⟩,h.ha,h.hs,h.d1,h.d2⟩
theorem LI {a w:World} {q b:Nat} (h:Ae q a w) (c:a.heap.size<=b) (v0 v1 v2 v3 v4:Value) :
  Ae q a (((((w.setCell ⟨b,0,none⟩ v0).setCell ⟨b,1,none⟩ v1).setCell ⟨b,2,none⟩ v2).setCell ⟨b,3,none⟩ v3).setCell ⟨b,4,none⟩ v4) :=
 h.under (((((Ae.refl b w).set 0 _).set 1 _).set 2 _).set 3 _ |>.set 4 _) c
theorem XG {nx:Nat->Bool->Tk} {pl:Nat->Nat×Nat} {C W:World} {q:Nat} {s:ByteArray} {p:Ps} (S:F2 nx s C) (Y:PlC pl s) (h:Pz C q s p W) (w:Bool) (n:Nat) (hn:LB nx w n p ≠ .hush) :
  Calls prog 11 #[.pointer (some ⟨q,0,none⟩),.bool w] W (HJ q W (LB nx w n p) fun t p' v w'=>v=G1 t/\t.e=0/\nx p'.a w=t/\Pz C q s p' w'):=by
 have HP:=aA (fun u N (R:Pz C q s u N)=>Ea S R w);have U:=aA (fun u N (R:Py C q s u N) (t:Tk) (hf:t.f<=s.size) (ht:t.t<=s.size) (hd : -(t.t:Int)<=u.deep)=>E2 Y R t hf ht hd);have V:=aA S.ok;have a0:=h.lt;have b0:=h.below.size;obtain⟨o,X⟩:∃o:Obj,o = .cells #[.int .i64 0,.string ⟨#[]⟩,.float .f64 0,.int .i64 0,.int .i64 0] 49:=⟨_,rfl⟩
 have Z:Hid (Pz C q s p (W.alloc o)/\Ae q W (W.alloc o)/\C5 (W.alloc o) W.heap.size (.int .i64 0) (.string ⟨#[]⟩) (.float .f64 0) (.int .i64 0) (.int .i64 0)) :=
  ⟨h.keep (Ad _ _),Ae.of_below q (Ad _ _),X▸C5.new _ _ _ _ _ _ _⟩
 subst X;obtain⟨r,O⟩:∃r,LB nx w n p=r:=⟨_,rfl⟩;rw[O] at hn ⊢;have k:=aA O;clear O S Y h
 go_in
 go_wp2_with fail
 go_loopg [] n (fun g wr=>∃(m:Nat) (u:Ps),m=g/\Hid (LB nx w m u=r)/\Hid (Pz C q s u wr/\Ae q W wr/\C5 wr W.heap.size (.int .i64 0) (.string ⟨#[]⟩) (.float .f64 0) (.int .i64 0) (.int .i64 0)))
 case atStart=>exact⟨n,p,rfl,k,Z⟩
 obtain⟨m,u,rfl,k,z⟩:=hrel;clear Z
 cases m with
 | zero=>exact absurd k.out.symm hn
 | succ m =>
 have d:=k.out;have l:=V.out u.a w z.out.1.ha;have hd1:=z.out.1.d1;clear k V;have j:=aA (HP.out u _ z.out.1);rw[LB,Eb] at d;obtain⟨t,P⟩:∃t,nx u.a w=t:=⟨_,rfl⟩;rw[P] at d j l;have Q:=aA P;clear P;unfold G1 at j;by_cases x:t.e=0
 ·rw[if_pos x] at d
  simp only[Hf.bind] at d;have hk:=l x;have b:=aA (fun L (c:Below wr.heap.size wr L)=>And.intro (Tf.start (z.out.1.keep c) (z.out.2.1.trans (Ae.of_below q c)) t 49) ((z.out.2.2.below c).alloc (.cells #[.int .i64 t.kd,.string ⟨t.tx.toArray⟩,.float .f64 t.nm,.int .i64 t.f,.int .i64 t.t] 49)));by_cases A:t.kd=1
  ·rw[if_pos (.inl A)] at d
   have k:=aA d;have b1:(t.kd==1)=true:=beq_iff_eq.2 A;have b2:(t.kd != 1)=false:=by unfold bne;rw[b1];rfl
   clear b1;clear d l A
   go_wp2_with (first | (go_at_call 15;(with_reducible refine j.out.mono ?_);rintro e L ⟨c,⟨-,rfl⟩ | ⟨B,-⟩⟩;rotate_left;exact absurd x B;replace b:=aA (b.out _ c);obtain⟨E,F,G,H,I,J⟩:=b.out.1.t) | (go_at_call 16;refine(U.out u _ b.out.1.p.y t (by omega) (by omega) (by omega)).mono ?_;rintro e w3 ⟨rfl,T,K⟩))
   go_roundg m
   case rel=>exact⟨m,_,rfl,k,aA ⟨T,b.out.1.o.trans K,b.out.2.only K (by omega)⟩⟩
   all_goals omega
  have b1:(t.kd==1)=false:=beq_eq_false_iff_ne.2 A;have b2:(t.kd != 1)=true:=by unfold bne;rw[b1];rfl
  clear b1
  cases D:EP t [59] with
  | true =>
    rw[if_pos (.inr D)] at d;have k:=aA d;have M:=aA (F5 D);clear d l A D
    go_wp2_with (first | (go_at_call 15;(with_reducible refine j.out.mono ?_);rintro e L ⟨c,⟨-,rfl⟩ | ⟨B,-⟩⟩;rotate_left;exact absurd x B;replace b:=aA (b.out _ c);obtain⟨E,F,G,H,I,J⟩:=b.out.1.t) | (go_at_call 12;(with_reducible refine(M.out _).mono ?_);rintro e w2 ⟨rfl,i⟩;replace b:=aA (And.intro (b.out.1.keep i) (b.out.2.below i));clear i E F G H I J;obtain⟨E,F,G,H,I,J⟩:=b.out.1.t;obtain⟨n0,n1,n2,n3,n4,nf⟩:=b.out.2) | (go_at_call 16;refine(U.out u _ b.out.1.p.y t (by omega) (by omega) (by omega)).mono ?_;rintro e w3 ⟨rfl,T,K⟩))
    go_roundg m
    case rel=>exact⟨m,_,rfl,k,aA ⟨T,b.out.1.o.trans K,b.out.2.only K (by omega)⟩⟩
    all_goals omega
  | false =>
    rw[if_neg (by rintro(h | h);exact A h;rw[D] at h;cases h)] at d;have k:=aA d;have M:=aA (F5 D);clear d l A D
    go_wp2_with (first | (go_at_call 15;(with_reducible refine j.out.mono ?_);rintro e L ⟨c,⟨-,rfl⟩ | ⟨B,-⟩⟩;rotate_left;exact absurd x B;replace b:=aA (b.out _ c);obtain⟨E,F,G,H,I,J⟩:=b.out.1.t) | (go_at_call 12;(with_reducible refine(M.out _).mono ?_);rintro e w2 ⟨rfl,i⟩;replace b:=aA (And.intro (b.out.1.keep i) (b.out.2.below i));clear i E F G H I J;obtain⟨E,F,G,H,I,J⟩:=b.out.1.t;obtain⟨n0,n1,n2,n3,n4,nf⟩:=b.out.2))
    obtain⟨z0,z1,z2,z3,z4,zf⟩:=((((b.out.2.set0 (.int .i64 t.kd)).set1 (.string ⟨t.tx.toArray⟩)).set2 (.float .f64 t.nm)).set3 (.int .i64 t.f)).set4 (.int .i64 t.t);exact bodyPost_ret (v:=.agg #[.int .i64 t.kd,.string ⟨t.tx.toArray⟩,.float .f64 t.nm,.int .i64 t.f,.int .i64 t.t]) (by simp[results,results11,go_sem,z0,z1,z2,z3,z4]<;>exact rfl) rfl (by rw[<- k.out];exact⟨_,rfl,⟨rfl,x,Q.out,b.out.1.p.far5 (by omega) (by omega) _ _ _ _ _⟩,LI b.out.1.o (Nat.le_refl _) _ _ _ _ _⟩)
 rw[if_neg x] at d;have k:=aA d;clear d l
 go_wp2_with (first | (go_at_call 15;(with_reducible refine j.out.mono ?_);rintro e L ⟨c,⟨B,-⟩ | ⟨-,rfl⟩⟩;exact absurd B x))
 exact⟨rfl,by rw[<- k.out];exact⟨rfl,z.out.2.1.trans (Ae.of_below q c)⟩⟩
def CJ (t:Tr) (kv:Value):Value:=.agg #[.int .i64 t.kd,.string ⟨t.nm.toArray⟩,.float .f64 t.x,kv,.complex .f64 t.z.1 t.z.2]
theorem Nu (t:Tr) (kv:Value) (w:World):Calls prog 44 #[CJ t kv] w fun e h=>e = .returned (.bool (Z1 t))/\Below w.heap.size w h:=by
 unfold CJ Z1;generalize t.kd=k;by_cases a:k=4
 ·have d:(k==4)=true:=beq_iff_eq.2 a
  rw[decide_eq_true a];clear a
  go_in
  go_wp2;go_ret;exact⟨rfl,Ad w _⟩
 have d:(k==4)=false:=beq_eq_false_iff_ne.2 a;rw[decide_eq_false a];clear a;by_cases b:k=5
 ·have f:(k==5)=true:=beq_iff_eq.2 b
  rw[decide_eq_true b];clear b
  go_in
  go_wp2;go_ret;exact⟨rfl,Ad w _⟩
 have f:(k==5)=false:=beq_eq_false_iff_ne.2 b;rw[decide_eq_false b];clear b;by_cases c:k=6
 ·have g:(k==6)=true:=beq_iff_eq.2 c
  rw[decide_eq_true c];clear c
  go_in
  go_wp2;go_ret;exact⟨rfl,Ad w _⟩
 have g:(k==6)=false:=beq_eq_false_iff_ne.2 c;rw[decide_eq_false c];clear c
 go_in
 go_wp2;go_ret;exact⟨rfl,Ad w _⟩
set_option linter.unusedSimpArgs false in
theorem PV (t:Tk) (w:World):Calls prog 56 #[G1 t] w fun e G=>e = .returned (.bool (I0 t))/\Below w.heap.size w G:=by
 obtain⟨v,b⟩:∃v,I0 t=v:=⟨_,rfl⟩;rw[b];unfold I0 at b;unfold G1;generalize t.kd=k at *;generalize t.tx=x at *;by_cases a:k=2
 ·have b2:(k==2)=true:=beq_iff_eq.2 a
  obtain rfl:v=true:=by rw[<- b];simp[a]
  clear b a
  go_in
  go_wp2;go_ret;exact⟨rfl,Ad w _⟩
 have b2:(k==2)=false:=beq_eq_false_iff_ne.2 a;by_cases c:k=3
 ·have b3:(k==3)=true:=beq_iff_eq.2 c
  obtain rfl:v=true:=by rw[<- b];simp[a,c]
  clear b a c
  go_in
  go_wp2;go_ret;exact⟨rfl,Ad w _⟩
 have b3:(k==3)=false:=beq_eq_false_iff_ne.2 c;by_cases d:k=4
 ·have r:(k==4)=true:=beq_iff_eq.2 d
  obtain rfl:v=true:=by rw[<- b];simp[a,c,d]
  clear b a c d
  go_in
  go_wp2;go_ret;exact⟨rfl,Ad w _⟩
 have r:(k==4)=false:=beq_eq_false_iff_ne.2 d;by_cases f:k=5
 ·have s:(k==5)=true:=beq_iff_eq.2 f
  obtain rfl:v=true:=by rw[<- b];simp[a,c,d,f]
  clear b a c d f
  go_in
  go_wp2;go_ret;exact⟨rfl,Ad w _⟩
 have s:(k==5)=false:=beq_eq_false_iff_ne.2 f;by_cases g:k=6
 ·have u:(k==6)=true:=beq_iff_eq.2 g
  obtain rfl:v=true:=by rw[<- b];simp[a,c,d,f,g]
  clear b a c d f g
  go_in
  go_wp2;go_ret;exact⟨rfl,Ad w _⟩
 have u:(k==6)=false:=beq_eq_false_iff_ne.2 g;by_cases h:k=7
 ·have y:(k==7)=true:=beq_iff_eq.2 h
  obtain rfl:v=true:=by rw[<- b];simp[a,c,d,f,g,h]
  clear b a c d f g h
  go_in
  go_wp2;go_ret;exact⟨rfl,Ad w _⟩
 have y:(k==7)=false:=beq_eq_false_iff_ne.2 h;by_cases i:k=9
 ·have z:(k==9)=true:=beq_iff_eq.2 i
  by_cases j:x=[36]
  ·have A:(x==[36])=true:=beq_iff_eq.2 j
   obtain rfl:v=true:=by rw[<- b];simp[a,c,d,f,g,h,i,j]
   clear b a c d f g h i j
   go_in
   go_wp2;go_ret;exact⟨rfl,Ad w _⟩
  have A:(x==[36])=false:=beq_eq_false_iff_ne.2 j;by_cases l:x=[40]
  ·have B:(x==[40])=true:=beq_iff_eq.2 l
   obtain rfl:v=true:=by rw[<- b];simp[a,c,d,f,g,h,i,j,l]
   clear b a c d f g h i j l
   go_in
   go_wp2;go_ret;exact⟨rfl,Ad w _⟩
  have B:(x==[40])=false:=beq_eq_false_iff_ne.2 l;by_cases m:x=[43,43]
  ·have C:(x==[43,43])=true:=beq_iff_eq.2 m
   obtain rfl:v=true:=by rw[<- b];simp[a,c,d,f,g,h,i,j,l,m]
   clear b a c d f g h i j l m
   go_in
   go_wp2;go_ret;exact⟨rfl,Ad w _⟩
  have C:(x==[43,43])=false:=beq_eq_false_iff_ne.2 m;by_cases n:x=[45,45]
  ·have D:(x==[45,45])=true:=beq_iff_eq.2 n
   obtain rfl:v=true:=by rw[<- b];simp[a,c,d,f,g,h,i,j,l,m,n]
   clear b a c d f g h i j l m n
   go_in
   go_wp2;go_ret;exact⟨rfl,Ad w _⟩
  have D:(x==[45,45])=false:=beq_eq_false_iff_ne.2 n;by_cases o:x=[43]
  ·have E:(x==[43])=true:=beq_iff_eq.2 o
   obtain rfl:v=true:=by rw[<- b];simp[a,c,d,f,g,h,i,j,l,m,n,o]
   clear b a c d f g h i j l m n o
   go_in
   go_wp2;go_ret;exact⟨rfl,Ad w _⟩
  have E:(x==[43])=false:=beq_eq_false_iff_ne.2 o;by_cases p:x=[45]
  ·have c5:(x==[45])=true:=beq_iff_eq.2 p
   obtain rfl:v=true:=by rw[<- b];simp[a,c,d,f,g,h,i,j,l,m,n,o,p]
   clear b a c d f g h i j l m n o p
   go_in
   go_wp2;go_ret;exact⟨rfl,Ad w _⟩
  have c5:(x==[45])=false:=beq_eq_false_iff_ne.2 p;by_cases q:x=[33]
  ·have F:(x==[33])=true:=beq_iff_eq.2 q
   obtain rfl:v=true:=by rw[<- b];simp[a,c,d,f,g,h,i,j,l,m,n,o,p,q]
   clear b a c d f g h i j l m n o p q
   go_in
   go_wp2;go_ret;exact⟨rfl,Ad w _⟩
  have F:(x==[33])=false:=beq_eq_false_iff_ne.2 q;obtain rfl:v=false:=by rw[<- b];simp[a,c,d,f,g,h,i,j,l,m,n,o,p,q]
  clear b a c d f g h i j l m n o p q
  go_in
  go_wp2;go_ret;exact⟨rfl,Ad w _⟩
 have z:(k==9)=false:=beq_eq_false_iff_ne.2 i;obtain rfl:v=false:=by rw[<- b];simp[a,c,d,f,g,h,i]
 clear b a c d f g h i
 go_in
 go_wp2;go_ret;exact⟨rfl,Ad w _⟩
end Go.Proofs.YtjolfpcpcaocmaaGreatDoor
