/- Ml -/
import Derived.Test.YtipfpohlnhmlpaaGreatDoorMi
set_option maxRecDepth 100000
set_option maxHeartbeats 8000000
open Go.Value renaming slice->aA
open Go.Lib renaming hid->aB
namespace Go.Proofs.YtipfpohlnhmlpaaGreatDoor
open Go.Proofs.Tryz
open Go.RowKit
theorem S5 (y:World) (l:Cp) (b I:Nat) (W:World) (hS:CH y l b I W) (hM:Ce y) (Y:l.n<=9223372036854775807) (n c cs:Nat) (d:Int) (h0 : -1<=d) (m:d<=n+1) (hd:d<=1000) (m0:100<=c) (hI:I+(4*c+6*cs+200)+10000<=1099511627776) (hX:MW y l b 2 c) (hE:Tj y l b n cs) :
  Calls prog 61 #[.pointer (some ⟨b,0,none⟩),.int .i64 d] W (Ff 60 A0 y l b W I (4*c+6*cs+200)):=by
 have e0:=aB (Fr.start (T:=60) (P:=A0) 60 hS);have HM:=aB hM;have HE:=aB hE;have a0:=aB hX;have HB:Hid (VV y l b n (3*cs+10)):=fun d I W m o hS hI=>C_ y l b I W hS Y n cs d o m (by omega) hE;clear hE hX;obtain⟨ic,m1,f1⟩:=e0.out.s;obtain⟨xc,yc,fc,l1⟩:=f1.c;obtain⟨c0,c1,c2,c3,c4,cf⟩:=l1;clear f1 m1 c0 c1 c3 c4;clear hS hM
 go_in
 by_cases e1:d<=0
 ·have k1:decide (d<=0)=true:=decide_eq_true e1
  go_wp2_with fail
  (go_at_call 80;refine(D6 y l b _ _ e0.out.s HM.out Y 2 c 1 (by omega) (by omega) (by omega) m0 (by omega) a0.out).mono ?_;rintro e w1 ⟨B,C,E,N,Q,O,D,rfl,m,o,p,u,v⟩)
  have g:=aB (e0.out.node (fun _ h=>by cases h) m o p u v);clear m o p u v;have G:=g.out.r;obtain⟨r0,r1,r2,r3,r4,rf⟩:=G;go_wp2;obtain⟨Z,z,F,i⟩:=g.out.out;rw[<- z];obtain⟨H,J,K,L,M,zf⟩:=F;clear z;exact bodyPost_ret (by simp[results,results61,go_sem,H,J,K,L,M]<;>exact rfl) rfl (i.more (by omega))
 have k1:decide (d<=0)=false:=decide_eq_false e1;by_cases s1:120<xc
 ·go_wp2_with fail
  (go_at_call 80;refine(D6 y l b _ _ e0.out.s HM.out Y 2 c 1 (by omega) (by omega) (by omega) m0 (by omega) a0.out).mono ?_;rintro e w1 ⟨B,C,E,N,Q,O,D,rfl,m,o,p,u,v⟩)
  have g:=aB (e0.out.node (fun _ h=>by cases h) m o p u v);clear m o p u v;have G:=g.out.r;obtain⟨r0,r1,r2,r3,r4,rf⟩:=G;go_wp2;obtain⟨Z,z,F,i⟩:=g.out.out;rw[<- z];obtain⟨H,J,K,L,M,zf⟩:=F;clear z;exact bodyPost_ret (by simp[results,results61,go_sem,H,J,K,L,M]<;>exact rfl) rfl (i.more (by omega))
 go_wp2_with fail
 (go_at_call 35;refine(Ar y l b _ 18 _ e0.out.s (by omega) (by omega) (by omega) Y).mono ?_;rintro e w1 ⟨q,hq,rfl,S,R⟩)
 have g:=aB (e0.out.step (d:=1) S R);clear S R;clear c2 cf;by_cases t1:q=0
 ·have b0:((q:Int)==0)=true:=beq_iff_eq.2 (by omega)
  go_wp2_with fail
  (go_at_call 36;refine(a0.out 2 _ _ (by omega) (by omega) g.out.s (by omega)).mono ?_;rintro e w2 ⟨B,C,E,N,Q,O,D,rfl,m,o,p,u,v⟩)
  have f:=aB (g.out.node (fun _ h=>by cases h) m o p u v);clear m o p u v
  go_wp2_with fail
  (go_at_call 37;refine(C_ y l b _ _ f.out.s Y n cs (d-1) (by omega) (by omega) (by omega) HE.out).mono ?_;rintro e w3 ⟨kf,nf,xf,af,lf,cf,sf,rfl,m,o,p,u,v⟩)
  have j:=aB (f.out.node (fun _ h=>by cases h) m o p u v);clear m o p u v
  go_wp2_with fail
  (go_at_call 38;refine(As 31 ⟨([]:List UInt8).toArray⟩ _ _ _ _).mono ?_;rintro e w4 ⟨rfl,a⟩)
  have w:=j.out.join (L1:=[]) (L2:=[(Tr.mk B C E (0,0) D,aA N Q O),(Tr.mk kf nf xf (0,0) sf,aA af lf cf)]) (cap:=2) (k:=31) (nm:=[]) (x:=0) (BN 31 [] (by decide) (by decide)) a;have A:Hid (Fr 60 A0 y l b W I _ [(Tr.mk 31 [] 0 (0,0) [Tr.mk B C E (0,0) D,Tr.mk kf nf xf (0,0) sf],aA (some ⟨w3.heap.size,0,none⟩) 2 2)] w4 none 0 (.slice none 0 0)):=w;clear a w;have G:=A.out.r;obtain⟨r0,r1,r2,r3,r4,rf⟩:=G;go_wp2;obtain⟨Z,z,F,i⟩:=A.out.out;rw[<- z];obtain⟨H,J,K,L,M,zf⟩:=F;clear z;exact bodyPost_ret (by simp[results,results61,go_sem,H,J,K,L,M]<;>exact rfl) rfl (i.more (by omega))
 have b0:((q:Int)==0)=false:=beq_eq_false_iff_ne.2 (by omega);by_cases v1:q=1
 ·have b1:((q:Int)==1)=true:=beq_iff_eq.2 (by omega)
  go_wp2_with fail
  (go_at_call 36;refine(a0.out 2 _ _ (by omega) (by omega) g.out.s (by omega)).mono ?_;rintro e w2 ⟨B,C,E,N,Q,O,D,rfl,m,o,p,u,v⟩)
  have f:=aB (g.out.node (fun _ h=>by cases h) m o p u v);clear m o p u v
  go_wp2_with fail
  (go_at_call 37;refine(C_ y l b _ _ f.out.s Y n cs (d-1) (by omega) (by omega) (by omega) HE.out).mono ?_;rintro e w3 ⟨kf,nf,xf,af,lf,cf,sf,rfl,m,o,p,u,v⟩)
  have j:=aB (f.out.node (fun _ h=>by cases h) m o p u v);clear m o p u v
  go_wp2_with fail
  (go_at_call 38;refine(As 31 ⟨([]:List UInt8).toArray⟩ _ _ _ _).mono ?_;rintro e w4 ⟨rfl,a⟩)
  have w:=j.out.join (L1:=[]) (L2:=[(Tr.mk B C E (0,0) D,aA N Q O),(Tr.mk kf nf xf (0,0) sf,aA af lf cf)]) (cap:=2) (k:=31) (nm:=[]) (x:=0) (BN 31 [] (by decide) (by decide)) a;have A:Hid (Fr 60 A0 y l b W I _ [(Tr.mk 31 [] 0 (0,0) [Tr.mk B C E (0,0) D,Tr.mk kf nf xf (0,0) sf],aA (some ⟨w3.heap.size,0,none⟩) 2 2)] w4 none 0 (.slice none 0 0)):=w;clear a w;have G:=A.out.r;obtain⟨r0,r1,r2,r3,r4,rf⟩:=G;go_wp2;obtain⟨Z,z,F,i⟩:=A.out.out;rw[<- z];obtain⟨H,J,K,L,M,zf⟩:=F;clear z;exact bodyPost_ret (by simp[results,results61,go_sem,H,J,K,L,M]<;>exact rfl) rfl (i.more (by omega))
 have b1:((q:Int)==1)=false:=beq_eq_false_iff_ne.2 (by omega);by_cases x1:q=2
 ·have b2:((q:Int)==2)=true:=beq_iff_eq.2 (by omega)
  go_wp2_with fail
  (go_at_call 36;refine(a0.out 2 _ _ (by omega) (by omega) g.out.s (by omega)).mono ?_;rintro e w2 ⟨B,C,E,N,Q,O,D,rfl,m,o,p,u,v⟩)
  have f:=aB (g.out.node (fun _ h=>by cases h) m o p u v);clear m o p u v
  go_wp2_with fail
  (go_at_call 37;refine(C_ y l b _ _ f.out.s Y n cs (d-1) (by omega) (by omega) (by omega) HE.out).mono ?_;rintro e w3 ⟨kf,nf,xf,af,lf,cf,sf,rfl,m,o,p,u,v⟩)
  have j:=aB (f.out.node (fun _ h=>by cases h) m o p u v);clear m o p u v
  go_wp2_with fail
  (go_at_call 37;refine(C_ y l b _ _ j.out.s Y n cs (d-1) (by omega) (by omega) (by omega) HE.out).mono ?_;rintro e w4 ⟨kg,ng,xg,ag,lg,cg,sg,rfl,m,o,p,u,v⟩)
  have A:=aB (j.out.node (fun _ h=>by cases h) m o p u v);clear m o p u v
  go_wp2_with fail
  (go_at_call 38;refine(As 31 ⟨([]:List UInt8).toArray⟩ _ _ _ _).mono ?_;rintro e X ⟨rfl,a⟩)
  have w:=A.out.join (L1:=[]) (L2:=[(Tr.mk B C E (0,0) D,aA N Q O),(Tr.mk kf nf xf (0,0) sf,aA af lf cf),(Tr.mk kg ng xg (0,0) sg,aA ag lg cg)]) (cap:=3) (k:=31) (nm:=[]) (x:=0) (BN 31 [] (by decide) (by decide)) a;have U:Hid (Fr 60 A0 y l b W I _ [(Tr.mk 31 [] 0 (0,0) [Tr.mk B C E (0,0) D,Tr.mk kf nf xf (0,0) sf,Tr.mk kg ng xg (0,0) sg],aA (some ⟨w4.heap.size,0,none⟩) 3 3)] X none 0 (.slice none 0 0)):=w;clear a w;have G:=U.out.r;obtain⟨r0,r1,r2,r3,r4,rf⟩:=G;go_wp2;obtain⟨Z,z,F,i⟩:=U.out.out;rw[<- z];obtain⟨H,J,K,L,M,zf⟩:=F;clear z;exact bodyPost_ret (by simp[results,results61,go_sem,H,J,K,L,M]<;>exact rfl) rfl (i.more (by omega))
 have b2:((q:Int)==2)=false:=beq_eq_false_iff_ne.2 (by omega);by_cases y1:q=3
 ·have b3:((q:Int)==3)=true:=beq_iff_eq.2 (by omega)
  go_wp2_with fail
  (go_at_call 35;refine(Ar y l b _ 2 _ g.out.s (by omega) (by omega) (by omega) Y).mono ?_;rintro e w2 ⟨r,hr,rfl,S,R⟩)
  have f:=aB (g.out.step (d:=1) S R);clear S R;have ct:=(HM.out.below (AE f.out.s)).scalars r (by omega);have hl:=DM Du (by decide) r;generalize Du.getD r []=nm at ct hl;have i0:=aB hl;clear hl
  go_wp2_with fail
  (go_at_call 38;refine(As 4 ⟨(nm:List UInt8).toArray⟩ none 0 0 _).mono ?_;rintro e w3 ⟨rfl,a⟩)
  have j:=aB (f.out.leaf (k:=4) (nm:=nm) (x:=0) (BN 4 nm (by decide) i0.out) a);clear a
  go_wp2_with fail
  (go_at_call 62;refine(ES 0 _).mono ?_;rintro e w4 ⟨rfl,a⟩)
  have A:=aB (j.out.leaf (k:=1) (nm:=[]) (x:=0) ⟨by decide,fun e=>absurd e (by decide),(by decide)⟩ a);clear a
  go_wp2_with fail
  (go_at_call 38;refine(As 7 ⟨([61]:List UInt8).toArray⟩ _ _ _ _).mono ?_;rintro e X ⟨rfl,a⟩)
  have w:=A.out.join (L1:=[]) (L2:=[(Tr.mk 4 nm 0 (0,0) [],aA none 0 0),(Tr.mk 1 [] (0) (0,0) [],aA none 0 0)]) (cap:=2) (k:=7) (nm:=[61]) (x:=0) (BN 7 [61] (by decide) (by decide)) a;have U:Hid (Fr 60 A0 y l b W I _ [(Tr.mk 7 [61] 0 (0,0) [Tr.mk 4 nm 0 (0,0) [],Tr.mk 1 [] (0) (0,0) []],aA (some ⟨w4.heap.size,0,none⟩) 2 2)] X none 0 (.slice none 0 0)):=w;clear a w
  go_wp2_with fail
  (go_at_call 38;refine(As 44 ⟨([]:List UInt8).toArray⟩ _ _ _ _).mono ?_;rintro e w6 ⟨rfl,a⟩)
  have w:=U.out.join (L1:=[]) (L2:=[(Tr.mk 7 [61] 0 (0,0) [Tr.mk 4 nm 0 (0,0) [],Tr.mk 1 [] (0) (0,0) []],aA (some ⟨w4.heap.size,0,none⟩) 2 2)]) (cap:=1) (k:=44) (nm:=[]) (x:=0) (BN 44 [] (by decide) (by decide)) a;have V:Hid (Fr 60 A0 y l b W I _ [(Tr.mk 44 [] 0 (0,0) [Tr.mk 7 [61] 0 (0,0) [Tr.mk 4 nm 0 (0,0) [],Tr.mk 1 [] (0) (0,0) []]],aA (some ⟨X.heap.size,0,none⟩) 1 1)] w6 none 0 (.slice none 0 0)):=w;clear a w
  go_wp2_with fail
  (go_at_call 38;refine(As 4 ⟨(nm:List UInt8).toArray⟩ none 0 0 _).mono ?_;rintro e w7 ⟨rfl,a⟩)
  have f0:=aB (V.out.leaf (k:=4) (nm:=nm) (x:=0) (BN 4 nm (by decide) i0.out) a);clear a
  go_wp2_with fail
  (go_at_call 35;refine(Ar y l b _ 5 _ f0.out.s (by omega) (by omega) (by omega) Y).mono ?_;rintro e w8 ⟨t,ht,rfl,S,R⟩)
  have l0:=aB (f0.out.step (d:=1) S R);clear S R;have HX:=aB (Gp t (by omega))
  go_wp2_with fail
  (go_at_call 62;refine(ES (floatOfInt .f64 (t:Int)) _).mono ?_;rintro e w9 ⟨rfl,a⟩)
  have j1:=aB (l0.out.leaf (k:=1) (nm:=[]) (x:=(floatOfInt .f64 (t:Int))) ⟨by decide,fun e=>absurd e (by decide),HX.out⟩ a);clear a
  go_wp2_with fail
  (go_at_call 38;refine(As 13 ⟨([60]:List UInt8).toArray⟩ _ _ _ _).mono ?_;rintro e n1 ⟨rfl,a⟩)
  have w:=j1.out.join (L1:=[(Tr.mk 44 [] 0 (0,0) [Tr.mk 7 [61] 0 (0,0) [Tr.mk 4 nm 0 (0,0) [],Tr.mk 1 [] (0) (0,0) []]],aA (some ⟨X.heap.size,0,none⟩) 1 1)]) (L2:=[(Tr.mk 4 nm 0 (0,0) [],aA none 0 0),(Tr.mk 1 [] ((floatOfInt .f64 (t:Int))) (0,0) [],aA none 0 0)]) (cap:=2) (k:=13) (nm:=[60]) (x:=0) (BN 13 [60] (by decide) (by decide)) a;have t0:Hid (Fr 60 A0 y l b W I _ [(Tr.mk 44 [] 0 (0,0) [Tr.mk 7 [61] 0 (0,0) [Tr.mk 4 nm 0 (0,0) [],Tr.mk 1 [] (0) (0,0) []]],aA (some ⟨X.heap.size,0,none⟩) 1 1),(Tr.mk 13 [60] 0 (0,0) [Tr.mk 4 nm 0 (0,0) [],Tr.mk 1 [] ((floatOfInt .f64 (t:Int))) (0,0) []],aA (some ⟨w9.heap.size,0,none⟩) 2 2)] n1 none 0 (.slice none 0 0)):=w
  clear a w
  go_wp2_with fail
  (go_at_call 38;refine(As 4 ⟨(nm:List UInt8).toArray⟩ none 0 0 _).mono ?_;rintro e i1 ⟨rfl,a⟩)
  have v0:=aB (t0.out.leaf (k:=4) (nm:=nm) (x:=0) (BN 4 nm (by decide) i0.out) a);clear a
  go_wp2_with fail
  (go_at_call 38;refine(As 18 ⟨([43,43]:List UInt8).toArray⟩ _ _ _ _).mono ?_;rintro e s0 ⟨rfl,a⟩)
  have w:=v0.out.join (L1:=[(Tr.mk 44 [] 0 (0,0) [Tr.mk 7 [61] 0 (0,0) [Tr.mk 4 nm 0 (0,0) [],Tr.mk 1 [] (0) (0,0) []]],aA (some ⟨X.heap.size,0,none⟩) 1 1),(Tr.mk 13 [60] 0 (0,0) [Tr.mk 4 nm 0 (0,0) [],Tr.mk 1 [] ((floatOfInt .f64 (t:Int))) (0,0) []],aA (some ⟨w9.heap.size,0,none⟩) 2 2)]) (L2:=[(Tr.mk 4 nm 0 (0,0) [],aA none 0 0)]) (cap:=1) (k:=18) (nm:=[43,43]) (x:=0) (BN 18 [43,43] (by decide) (by decide)) a;have x0:Hid (Fr 60 A0 y l b W I _ [(Tr.mk 44 [] 0 (0,0) [Tr.mk 7 [61] 0 (0,0) [Tr.mk 4 nm 0 (0,0) [],Tr.mk 1 [] (0) (0,0) []]],aA (some ⟨X.heap.size,0,none⟩) 1 1),(Tr.mk 13 [60] 0 (0,0) [Tr.mk 4 nm 0 (0,0) [],Tr.mk 1 [] ((floatOfInt .f64 (t:Int))) (0,0) []],aA (some ⟨w9.heap.size,0,none⟩) 2 2),(Tr.mk 18 [43,43] 0 (0,0) [Tr.mk 4 nm 0 (0,0) []],aA (some ⟨i1.heap.size,0,none⟩) 1 1)] s0 none 0 (.slice none 0 0)):=w
  clear a w
  go_wp2_with fail
  (go_at_call 38;refine(As 44 ⟨([]:List UInt8).toArray⟩ _ _ _ _).mono ?_;rintro e o1 ⟨rfl,a⟩)
  have w:=x0.out.join (L1:=[(Tr.mk 44 [] 0 (0,0) [Tr.mk 7 [61] 0 (0,0) [Tr.mk 4 nm 0 (0,0) [],Tr.mk 1 [] (0) (0,0) []]],aA (some ⟨X.heap.size,0,none⟩) 1 1),(Tr.mk 13 [60] 0 (0,0) [Tr.mk 4 nm 0 (0,0) [],Tr.mk 1 [] ((floatOfInt .f64 (t:Int))) (0,0) []],aA (some ⟨w9.heap.size,0,none⟩) 2 2)]) (L2:=[(Tr.mk 18 [43,43] 0 (0,0) [Tr.mk 4 nm 0 (0,0) []],aA (some ⟨i1.heap.size,0,none⟩) 1 1)]) (cap:=1) (k:=44) (nm:=[]) (x:=0) (BN 44 [] (by decide) (by decide)) a;have n0:Hid (Fr 60 A0 y l b W I _ [(Tr.mk 44 [] 0 (0,0) [Tr.mk 7 [61] 0 (0,0) [Tr.mk 4 nm 0 (0,0) [],Tr.mk 1 [] (0) (0,0) []]],aA (some ⟨X.heap.size,0,none⟩) 1 1),(Tr.mk 13 [60] 0 (0,0) [Tr.mk 4 nm 0 (0,0) [],Tr.mk 1 [] ((floatOfInt .f64 (t:Int))) (0,0) []],aA (some ⟨w9.heap.size,0,none⟩) 2 2),(Tr.mk 44 [] 0 (0,0) [Tr.mk 18 [43,43] 0 (0,0) [Tr.mk 4 nm 0 (0,0) []]],aA (some ⟨s0.heap.size,0,none⟩) 1 1)] o1 none 0 (.slice none 0 0)):=w
  clear a w
  go_wp2_with fail
  (go_at_call 81;refine(Gv y l b _ _ n0.out.s n (3*cs+10) (d-1) (by omega) (by omega) (by omega) HB.out).mono ?_;rintro e p1 ⟨B,C,E,N,Q,O,D,rfl,m,o,p,u,v⟩)
  have y0:=aB (n0.out.node (fun _ h=>by cases h) m o p u v);clear m o p u v
  go_wp2_with fail
  (go_at_call 38;refine(As 34 ⟨([]:List UInt8).toArray⟩ _ _ _ _).mono ?_;rintro e q1 ⟨rfl,a⟩)
  have w:=y0.out.join (L1:=[]) (L2:=[(Tr.mk 44 [] 0 (0,0) [Tr.mk 7 [61] 0 (0,0) [Tr.mk 4 nm 0 (0,0) [],Tr.mk 1 [] (0) (0,0) []]],aA (some ⟨X.heap.size,0,none⟩) 1 1),(Tr.mk 13 [60] 0 (0,0) [Tr.mk 4 nm 0 (0,0) [],Tr.mk 1 [] ((floatOfInt .f64 (t:Int))) (0,0) []],aA (some ⟨w9.heap.size,0,none⟩) 2 2),(Tr.mk 44 [] 0 (0,0) [Tr.mk 18 [43,43] 0 (0,0) [Tr.mk 4 nm 0 (0,0) []]],aA (some ⟨s0.heap.size,0,none⟩) 1 1),(Tr.mk B C E (0,0) D,aA N Q O)]) (cap:=4) (k:=34) (nm:=[]) (x:=0) (BN 34 [] (by decide) (by decide)) a;have o0:Hid (Fr 60 A0 y l b W I _ [(Tr.mk 34 [] 0 (0,0) [Tr.mk 44 [] 0 (0,0) [Tr.mk 7 [61] 0 (0,0) [Tr.mk 4 nm 0 (0,0) [],Tr.mk 1 [] (0) (0,0) []]],Tr.mk 13 [60] 0 (0,0) [Tr.mk 4 nm 0 (0,0) [],Tr.mk 1 [] ((floatOfInt .f64 (t:Int))) (0,0) []],Tr.mk 44 [] 0 (0,0) [Tr.mk 18 [43,43] 0 (0,0) [Tr.mk 4 nm 0 (0,0) []]],Tr.mk B C E (0,0) D],aA (some ⟨p1.heap.size,0,none⟩) 4 4)] q1 none 0 (.slice none 0 0)):=w
  clear a w;have G:=o0.out.r;obtain⟨r0,r1,r2,r3,r4,rf⟩:=G;go_wp2;obtain⟨Z,z,F,i⟩:=o0.out.out;rw[<- z];obtain⟨H,J,K,L,M,zf⟩:=F;clear z;exact bodyPost_ret (by simp[results,results61,go_sem,H,J,K,L,M]<;>exact rfl) rfl (i.more (by omega))
 have b3:((q:Int)==3)=false:=beq_eq_false_iff_ne.2 (by omega);by_cases a2:q=4
 ·have b4:((q:Int)==4)=true:=beq_iff_eq.2 (by omega)
  go_wp2_with fail
  (go_at_call 58;refine(BJ y l b _ _ g.out.s (by omega) Y).mono ?_;rintro e w2 ⟨na,k0,rfl,S,R⟩)
  have f:=aB (g.out.step (d:=2) S R);have a1:=aB k0;clear S R k0
  go_wp2_with fail
  (go_at_call 63;refine(Gb y l b _ _ f.out.s HM.out (by omega) Y).mono ?_;rintro e w3 ⟨nb,k0,rfl,S,R⟩)
  have j:=aB (f.out.step (d:=3) S R);have d1:=aB k0;clear S R k0
  go_wp2_with fail
  (go_at_call 38;refine(As 4 ⟨(nb:List UInt8).toArray⟩ none 0 0 _).mono ?_;rintro e w4 ⟨rfl,a⟩)
  have A:=aB (j.out.leaf (k:=4) (nm:=nb) (x:=0) (BN 4 nb (by decide) d1.out) a);clear a
  go_wp2_with fail
  (go_at_call 81;refine(Gv y l b _ _ A.out.s n (3*cs+10) (d-1) (by omega) (by omega) (by omega) HB.out).mono ?_;rintro e X ⟨B,C,E,N,Q,O,D,rfl,m,o,p,u,v⟩)
  have U:=aB (A.out.node (fun _ h=>by cases h) m o p u v);clear m o p u v
  go_wp2_with fail
  (go_at_call 38;refine(As 35 ⟨(na:List UInt8).toArray⟩ _ _ _ _).mono ?_;rintro e w6 ⟨rfl,a⟩)
  have w:=U.out.join (L1:=[]) (L2:=[(Tr.mk 4 nb 0 (0,0) [],aA none 0 0),(Tr.mk B C E (0,0) D,aA N Q O)]) (cap:=2) (k:=35) (nm:=na) (x:=0) (BN 35 na (by decide) a1.out) a;have V:Hid (Fr 60 A0 y l b W I _ [(Tr.mk 35 na 0 (0,0) [Tr.mk 4 nb 0 (0,0) [],Tr.mk B C E (0,0) D],aA (some ⟨X.heap.size,0,none⟩) 2 2)] w6 none 0 (.slice none 0 0)):=w;clear a w;have G:=V.out.r;obtain⟨r0,r1,r2,r3,r4,rf⟩:=G;go_wp2;obtain⟨Z,z,F,i⟩:=V.out.out;rw[<- z];obtain⟨H,J,K,L,M,zf⟩:=F;clear z;exact bodyPost_ret (by simp[results,results61,go_sem,H,J,K,L,M]<;>exact rfl) rfl (i.more (by omega))
 have b4:((q:Int)==4)=false:=beq_eq_false_iff_ne.2 (by omega);by_cases d2:q=5
 ·have b5:((q:Int)==5)=true:=beq_iff_eq.2 (by omega)
  go_wp2_with fail
  (go_at_call 38;refine(As 4 ⟨([110]:List UInt8).toArray⟩ none 0 0 _).mono ?_;rintro e w2 ⟨rfl,a⟩)
  have f:=aB (g.out.leaf (k:=4) (nm:=[110]) (x:=0) (BN 4 [110] (by decide) (by decide)) a);clear a
  go_wp2_with fail
  (go_at_call 38;refine(As 18 ⟨([43,43]:List UInt8).toArray⟩ _ _ _ _).mono ?_;rintro e w3 ⟨rfl,a⟩)
  have w:=f.out.join (L1:=[]) (L2:=[(Tr.mk 4 [110] 0 (0,0) [],aA none 0 0)]) (cap:=1) (k:=18) (nm:=[43,43]) (x:=0) (BN 18 [43,43] (by decide) (by decide)) a;have j:Hid (Fr 60 A0 y l b W I _ [(Tr.mk 18 [43,43] 0 (0,0) [Tr.mk 4 [110] 0 (0,0) []],aA (some ⟨w2.heap.size,0,none⟩) 1 1)] w3 none 0 (.slice none 0 0)):=w;clear a w
  go_wp2_with fail
  (go_at_call 35;refine(Ar y l b _ 9 _ j.out.s (by omega) (by omega) (by omega) Y).mono ?_;rintro e w4 ⟨t,ht,rfl,S,R⟩)
  have A:=aB (j.out.step (d:=1) S R);clear S R;have HX:=aB (Gp t (by omega))
  go_wp2_with fail
  (go_at_call 62;refine(ES (floatOfInt .f64 (t:Int)) _).mono ?_;rintro e X ⟨rfl,a⟩)
  have U:=aB (A.out.leaf (k:=1) (nm:=[]) (x:=(floatOfInt .f64 (t:Int))) ⟨by decide,fun e=>absurd e (by decide),HX.out⟩ a);clear a
  go_wp2_with fail
  (go_at_call 38;refine(As 13 ⟨([60]:List UInt8).toArray⟩ _ _ _ _).mono ?_;rintro e w6 ⟨rfl,a⟩)
  have w:=U.out.join (L1:=[]) (L2:=[(Tr.mk 18 [43,43] 0 (0,0) [Tr.mk 4 [110] 0 (0,0) []],aA (some ⟨w2.heap.size,0,none⟩) 1 1),(Tr.mk 1 [] ((floatOfInt .f64 (t:Int))) (0,0) [],aA none 0 0)]) (cap:=2) (k:=13) (nm:=[60]) (x:=0) (BN 13 [60] (by decide) (by decide)) a;have V:Hid (Fr 60 A0 y l b W I _ [(Tr.mk 13 [60] 0 (0,0) [Tr.mk 18 [43,43] 0 (0,0) [Tr.mk 4 [110] 0 (0,0) []],Tr.mk 1 [] ((floatOfInt .f64 (t:Int))) (0,0) []],aA (some ⟨X.heap.size,0,none⟩) 2 2)] w6 none 0 (.slice none 0 0)):=w;clear a w
  go_wp2_with fail
  (go_at_call 81;refine(Gv y l b _ _ V.out.s n (3*cs+10) (d-1) (by omega) (by omega) (by omega) HB.out).mono ?_;rintro e w7 ⟨B,C,E,N,Q,O,D,rfl,m,o,p,u,v⟩)
  have f0:=aB (V.out.node (fun _ h=>by cases h) m o p u v);clear m o p u v
  go_wp2_with fail
  (go_at_call 38;refine(As 32 ⟨([]:List UInt8).toArray⟩ _ _ _ _).mono ?_;rintro e w8 ⟨rfl,a⟩)
  have w:=f0.out.join (L1:=[]) (L2:=[(Tr.mk 13 [60] 0 (0,0) [Tr.mk 18 [43,43] 0 (0,0) [Tr.mk 4 [110] 0 (0,0) []],Tr.mk 1 [] ((floatOfInt .f64 (t:Int))) (0,0) []],aA (some ⟨X.heap.size,0,none⟩) 2 2),(Tr.mk B C E (0,0) D,aA N Q O)]) (cap:=2) (k:=32) (nm:=[]) (x:=0) (BN 32 [] (by decide) (by decide)) a;have l0:Hid (Fr 60 A0 y l b W I _ [(Tr.mk 32 [] 0 (0,0) [Tr.mk 13 [60] 0 (0,0) [Tr.mk 18 [43,43] 0 (0,0) [Tr.mk 4 [110] 0 (0,0) []],Tr.mk 1 [] ((floatOfInt .f64 (t:Int))) (0,0) []],Tr.mk B C E (0,0) D],aA (some ⟨w7.heap.size,0,none⟩) 2 2)] w8 none 0 (.slice none 0 0)):=w;clear a w;have G:=l0.out.r;obtain⟨r0,r1,r2,r3,r4,rf⟩:=G
  go_wp2;obtain⟨Z,z,F,i⟩:=l0.out.out;rw[<- z];obtain⟨H,J,K,L,M,zf⟩:=F;clear z;exact bodyPost_ret (by simp[results,results61,go_sem,H,J,K,L,M]<;>exact rfl) rfl (i.more (by omega))
 have b5:((q:Int)==5)=false:=beq_eq_false_iff_ne.2 (by omega);by_cases e2:q=6
 ·have b6:((q:Int)==6)=true:=beq_iff_eq.2 (by omega)
  go_wp2_with fail
  (go_at_call 81;refine(Gv y l b _ _ g.out.s n (3*cs+10) (d-1) (by omega) (by omega) (by omega) HB.out).mono ?_;rintro e w2 ⟨B,C,E,N,Q,O,D,rfl,m,o,p,u,v⟩)
  have f:=aB (g.out.node (fun _ h=>by cases h) m o p u v);clear m o p u v
  go_wp2_with fail
  (go_at_call 38;refine(As 4 ⟨([110]:List UInt8).toArray⟩ none 0 0 _).mono ?_;rintro e w3 ⟨rfl,a⟩)
  have j:=aB (f.out.leaf (k:=4) (nm:=[110]) (x:=0) (BN 4 [110] (by decide) (by decide)) a);clear a
  go_wp2_with fail
  (go_at_call 38;refine(As 17 ⟨([43,43]:List UInt8).toArray⟩ _ _ _ _).mono ?_;rintro e w4 ⟨rfl,a⟩)
  have w:=j.out.join (L1:=[(Tr.mk B C E (0,0) D,aA N Q O)]) (L2:=[(Tr.mk 4 [110] 0 (0,0) [],aA none 0 0)]) (cap:=1) (k:=17) (nm:=[43,43]) (x:=0) (BN 17 [43,43] (by decide) (by decide)) a;have A:Hid (Fr 60 A0 y l b W I _ [(Tr.mk B C E (0,0) D,aA N Q O),(Tr.mk 17 [43,43] 0 (0,0) [Tr.mk 4 [110] 0 (0,0) []],aA (some ⟨w3.heap.size,0,none⟩) 1 1)] w4 none 0 (.slice none 0 0)):=w;clear a w
  go_wp2_with fail
  (go_at_call 62;refine(ES 4613937818241073152 _).mono ?_;rintro e X ⟨rfl,a⟩)
  have U:=aB (A.out.leaf (k:=1) (nm:=[]) (x:=4613937818241073152) ⟨by decide,fun e=>absurd e (by decide),(by decide)⟩ a);clear a
  go_wp2_with fail
  (go_at_call 38;refine(As 13 ⟨([60]:List UInt8).toArray⟩ _ _ _ _).mono ?_;rintro e w6 ⟨rfl,a⟩)
  have w:=U.out.join (L1:=[(Tr.mk B C E (0,0) D,aA N Q O)]) (L2:=[(Tr.mk 17 [43,43] 0 (0,0) [Tr.mk 4 [110] 0 (0,0) []],aA (some ⟨w3.heap.size,0,none⟩) 1 1),(Tr.mk 1 [] (4613937818241073152) (0,0) [],aA none 0 0)]) (cap:=2) (k:=13) (nm:=[60]) (x:=0) (BN 13 [60] (by decide) (by decide)) a;have V:Hid (Fr 60 A0 y l b W I _ [(Tr.mk B C E (0,0) D,aA N Q O),(Tr.mk 13 [60] 0 (0,0) [Tr.mk 17 [43,43] 0 (0,0) [Tr.mk 4 [110] 0 (0,0) []],Tr.mk 1 [] (4613937818241073152) (0,0) []],aA (some ⟨X.heap.size,0,none⟩) 2 2)] w6 none 0 (.slice none 0 0)):=w;clear a w
  go_wp2_with fail
  (go_at_call 38;refine(As 33 ⟨([]:List UInt8).toArray⟩ _ _ _ _).mono ?_;rintro e w7 ⟨rfl,a⟩)
  have w:=V.out.join (L1:=[]) (L2:=[(Tr.mk B C E (0,0) D,aA N Q O),(Tr.mk 13 [60] 0 (0,0) [Tr.mk 17 [43,43] 0 (0,0) [Tr.mk 4 [110] 0 (0,0) []],Tr.mk 1 [] (4613937818241073152) (0,0) []],aA (some ⟨X.heap.size,0,none⟩) 2 2)]) (cap:=2) (k:=33) (nm:=[]) (x:=0) (BN 33 [] (by decide) (by decide)) a;have f0:Hid (Fr 60 A0 y l b W I _ [(Tr.mk 33 [] 0 (0,0) [Tr.mk B C E (0,0) D,Tr.mk 13 [60] 0 (0,0) [Tr.mk 17 [43,43] 0 (0,0) [Tr.mk 4 [110] 0 (0,0) []],Tr.mk 1 [] (4613937818241073152) (0,0) []]],aA (some ⟨w6.heap.size,0,none⟩) 2 2)] w7 none 0 (.slice none 0 0)):=w;clear a w;have G:=f0.out.r;obtain⟨r0,r1,r2,r3,r4,rf⟩:=G
  go_wp2;obtain⟨Z,z,F,i⟩:=f0.out.out;rw[<- z];obtain⟨H,J,K,L,M,zf⟩:=F;clear z;exact bodyPost_ret (by simp[results,results61,go_sem,H,J,K,L,M]<;>exact rfl) rfl (i.more (by omega))
 have b6:((q:Int)==6)=false:=beq_eq_false_iff_ne.2 (by omega);by_cases f2:q=7
 ·have b7:((q:Int)==7)=true:=beq_iff_eq.2 (by omega)
  obtain⟨ig,q0,j0⟩:=g.out.s;obtain⟨xg,yg,fg,p0⟩:=j0.c;obtain⟨g0,g1,g2,g3,g4,gf⟩:=p0;clear j0 q0 g0 g1 g2 g3;by_cases k2:0<yg
  ·go_wp2_with fail
   (go_at_call 35;refine(Ar y l b _ 2 _ g.out.s (by omega) (by omega) (by omega) Y).mono ?_;rintro e w2 ⟨r,hr,rfl,S,R⟩)
   have f:=aB (g.out.step (d:=1) S R);clear S R;have er:(36:Int)+(r:Int)=36+(r:Int):=rfl;clear er;have j:=aB (f.out.leaf (k:=36+(r:Int)) (nm:=[]) (x:=0) (BN (36+(r:Int)) [] (by omega) (by decide)) (Below.refl _ _));have G:=j.out.r;obtain⟨r0,r1,r2,r3,r4,rf⟩:=G;go_wp2;obtain⟨Z,z,F,i⟩:=j.out.out;rw[<- z];obtain⟨H,J,K,L,M,zf⟩:=F;clear z;exact bodyPost_ret (by simp[results,results61,go_sem,H,J,K,L,M]<;>exact rfl) rfl (i.more (by omega))
  go_wp2_with fail
  (go_at_call 37;refine(C_ y l b _ _ g.out.s Y n cs (d-1) (by omega) (by omega) (by omega) HE.out).mono ?_;rintro e w2 ⟨B,C,E,N,Q,O,D,rfl,m,o,p,u,v⟩)
  have f:=aB (g.out.node (fun _ h=>by cases h) m o p u v);clear m o p u v;have G:=f.out.r;obtain⟨r0,r1,r2,r3,r4,rf⟩:=G;go_wp2;obtain⟨Z,z,F,i⟩:=f.out.out;rw[<- z];obtain⟨H,J,K,L,M,zf⟩:=F;clear z;exact bodyPost_ret (by simp[results,results61,go_sem,H,J,K,L,M]<;>exact rfl) rfl (i.more (by omega))
 have b7:((q:Int)==7)=false:=beq_eq_false_iff_ne.2 (by omega);by_cases i2:q=8
 ·have b8:((q:Int)==8)=true:=beq_iff_eq.2 (by omega)
  obtain⟨ig,q0,j0⟩:=g.out.s;obtain⟨xg,yg,fg,p0⟩:=j0.c;obtain⟨g0,g1,g2,g3,g4,gf⟩:=p0;clear j0 q0 g0 g1 g2 g4
  cases fg with
  | true =>
    go_wp2_with fail
    (go_at_call 36;refine(a0.out 2 _ _ (by omega) (by omega) g.out.s (by omega)).mono ?_;rintro e w2 ⟨B,C,E,N,Q,O,D,rfl,m,o,p,u,v⟩)
    have f:=aB (g.out.node (fun _ h=>by cases h) m o p u v);clear m o p u v
    go_wp2_with fail
    (go_at_call 38;refine(As 40 ⟨([]:List UInt8).toArray⟩ _ _ _ _).mono ?_;rintro e w3 ⟨rfl,a⟩)
    have w:=f.out.join (L1:=[]) (L2:=[(Tr.mk B C E (0,0) D,aA N Q O)]) (cap:=1) (k:=40) (nm:=[]) (x:=0) (BN 40 [] (by decide) (by decide)) a;have j:Hid (Fr 60 A0 y l b W I _ [(Tr.mk 40 [] 0 (0,0) [Tr.mk B C E (0,0) D],aA (some ⟨w2.heap.size,0,none⟩) 1 1)] w3 none 0 (.slice none 0 0)):=w;clear a w;have G:=j.out.r;obtain⟨r0,r1,r2,r3,r4,rf⟩:=G;go_wp2;obtain⟨Z,z,F,i⟩:=j.out.out;rw[<- z];obtain⟨H,J,K,L,M,zf⟩:=F;clear z;exact bodyPost_ret (by simp[results,results61,go_sem,H,J,K,L,M]<;>exact rfl) rfl (i.more (by omega))
  | false =>
    go_wp2_with fail
    (go_at_call 35;refine(Ar y l b _ 6 _ g.out.s (by omega) (by omega) (by omega) Y).mono ?_;rintro e w2 ⟨r,hr,rfl,S,R⟩)
    have f:=aB (g.out.step (d:=1) S R);clear S R;by_cases j2:r=0
    ·have d0:((r:Int)==0)=true:=beq_iff_eq.2 (by omega)
     have j:=aB (f.out.leaf (k:=39) (nm:=[]) (x:=0) (BN (39) [] (by decide) (by decide)) (Below.refl _ _));have G:=j.out.r;obtain⟨r0,r1,r2,r3,r4,rf⟩:=G;go_wp2;obtain⟨Z,z,F,i⟩:=j.out.out;rw[<- z];obtain⟨H,J,K,L,M,zf⟩:=F;clear z;exact bodyPost_ret (by simp[results,results61,go_sem,H,J,K,L,M]<;>exact rfl) rfl (i.more (by omega))
    have d0:((r:Int)==0)=false:=beq_eq_false_iff_ne.2 (by omega)
    go_wp2_with fail
    (go_at_call 80;refine(D6 y l b _ _ f.out.s HM.out Y 2 c 2 (by omega) (by omega) (by omega) m0 (by omega) a0.out).mono ?_;rintro e w3 ⟨B,C,E,N,Q,O,D,rfl,m,o,p,u,v⟩)
    have j:=aB (f.out.node (fun _ h=>by cases h) m o p u v);clear m o p u v;have G:=j.out.r;obtain⟨r0,r1,r2,r3,r4,rf⟩:=G;go_wp2;obtain⟨Z,z,F,i⟩:=j.out.out;rw[<- z];obtain⟨H,J,K,L,M,zf⟩:=F;clear z;exact bodyPost_ret (by simp[results,results61,go_sem,H,J,K,L,M]<;>exact rfl) rfl (i.more (by omega))
 have b8:((q:Int)==8)=false:=beq_eq_false_iff_ne.2 (by omega)
 go_wp2_with fail
 (go_at_call 80;refine(D6 y l b _ _ g.out.s HM.out Y 2 c 2 (by omega) (by omega) (by omega) m0 (by omega) a0.out).mono ?_;rintro e w2 ⟨B,C,E,N,Q,O,D,rfl,m,o,p,u,v⟩)
 have f:=aB (g.out.node (fun _ h=>by cases h) m o p u v);clear m o p u v;have G:=f.out.r;obtain⟨r0,r1,r2,r3,r4,rf⟩:=G;go_wp2;obtain⟨Z,z,F,i⟩:=f.out.out;rw[<- z];obtain⟨H,J,K,L,M,zf⟩:=F;clear z;exact bodyPost_ret (by simp[results,results61,go_sem,H,J,K,L,M]<;>exact rfl) rfl (i.more (by omega))
end Go.Proofs.YtipfpohlnhmlpaaGreatDoor
