/- Mg -/
import Derived.Test.YtipfpohlnhmlpaaGreatDoorMh
set_option maxRecDepth 100000
set_option maxHeartbeats 8000000
open Go.Value renaming slice->aA
open Go.Lib renaming hid->aB
open Int renaming natCast_nonneg->aC,ofNat_lt->aE
open Go.IntWalk renaming i64_in->aD
namespace Go.Proofs.YtipfpohlnhmlpaaGreatDoor
open Go.Proofs.Tryz
open Go.RowKit
theorem Rp (w0:World) (l:Cp) (b I:Nat) (W:World) (hS:CH w0 l b I W) (hM:Ce w0) (hn:l.n<=9223372036854775807) (n c:Nat) (d:Int) (h0 : -1<=d) (m:d<=n+1) (hd:d<=1000) (j1:100<=c) (hI:I+4*c+1100<=1099511627776) (hE:MW w0 l b n c) :
  Calls prog 36 #[.pointer (some ⟨b,0,none⟩),.int .i64 d] W (Ff 60 A0 w0 l b W I (4*c+100)):=by
 have l0:=aB (Fr.start (T:=60) (P:=A0) 60 hS);have M:=aB hM;have HE:=aB hE;clear hE;obtain⟨i,D,j0⟩:=l0.out.s;obtain⟨x,y,f,L⟩:=j0.c;obtain⟨X,hX⟩:∃X,wrap64 (x+1)=X:=⟨_,rfl⟩;have g0:=aB (l0.out.step (d:=0) (IL ⟨i,D,j0⟩ L X) ((Ae.refl _ _).set 2 _));have i1:=L.set2 (.int .i64 X);obtain⟨c0,c1,c2,c3,c4,cf⟩:=L;obtain⟨d0,d1,d2,d3,d4,df⟩:=i1;clear j0 D c0 c1 c3 c4 d0 d1 d3 d4;clear hS hM
 go_in
 by_cases n0:d<=0
 ·have g1:decide (d<=0)=true:=decide_eq_true n0
  go_wp2_with fail
  (go_at_call 39;refine(Br w0 l b _ _ g0.out.s M.out (by omega) hn).mono ?_;rintro e w2 ⟨F,G,J,ae,le,ce,H,rfl,m,o,p,u,v⟩)
  have C:=aB (g0.out.node (fun _ h=>by cases h) m o p u v);clear m o p u v;have N:=C.out.r;obtain⟨r0,r1,r2,r3,r4,rf⟩:=N;go_wp2;obtain⟨Z,E,L,z⟩:=C.out.out;rw[<- E];obtain⟨O,Q,R,S,U,zf⟩:=L;clear E;exact bodyPost_ret (by simp[results,results36,go_sem,O,Q,R,S,U]<;>exact rfl) rfl (z.more (by omega))
 have g1:decide (d<=0)=false:=decide_eq_false n0;by_cases k1:120<X
 ·go_wp2_with fail
  (go_at_call 39;refine(Br w0 l b _ _ g0.out.s M.out (by omega) hn).mono ?_;rintro e w2 ⟨F,G,J,ae,le,ce,H,rfl,m,o,p,u,v⟩)
  have C:=aB (g0.out.node (fun _ h=>by cases h) m o p u v);clear m o p u v;have N:=C.out.r;obtain⟨r0,r1,r2,r3,r4,rf⟩:=N;go_wp2;obtain⟨Z,E,L,z⟩:=C.out.out;rw[<- E];obtain⟨O,Q,R,S,U,zf⟩:=L;clear E;exact bodyPost_ret (by simp[results,results36,go_sem,O,Q,R,S,U]<;>exact rfl) rfl (z.more (by omega))
 go_wp2_with fail
 (go_at_call 35;refine(Ar w0 l b _ 20 _ g0.out.s (by omega) (by omega) (by omega) hn).mono ?_;rintro e w2 ⟨q,hq,rfl,hs,Y⟩)
 have C:=aB (g0.out.step (d:=1) hs Y);clear hs Y;clear c2 d2 cf df hX;by_cases x1:q=0
 ·have b0:((q:Int)==0)=true:=beq_iff_eq.2 (by omega)
  go_wp2_with fail
  (go_at_call 39;refine(Br w0 l b _ _ C.out.s M.out (by omega) hn).mono ?_;rintro e w3 ⟨F,G,J,ae,le,ce,H,rfl,m,o,p,u,v⟩)
  have a:=aB (C.out.node (fun _ h=>by cases h) m o p u v);clear m o p u v;have N:=a.out.r;obtain⟨r0,r1,r2,r3,r4,rf⟩:=N;go_wp2;obtain⟨Z,E,L,z⟩:=a.out.out;rw[<- E];obtain⟨O,Q,R,S,U,zf⟩:=L;clear E;exact bodyPost_ret (by simp[results,results36,go_sem,O,Q,R,S,U]<;>exact rfl) rfl (z.more (by omega))
 have b0:((q:Int)==0)=false:=beq_eq_false_iff_ne.2 (by omega);by_cases y1:q=1
 ·have b1:((q:Int)==1)=true:=beq_iff_eq.2 (by omega)
  go_wp2_with fail
  (go_at_call 39;refine(Br w0 l b _ _ C.out.s M.out (by omega) hn).mono ?_;rintro e w3 ⟨F,G,J,ae,le,ce,H,rfl,m,o,p,u,v⟩)
  have a:=aB (C.out.node (fun _ h=>by cases h) m o p u v);clear m o p u v;have N:=a.out.r;obtain⟨r0,r1,r2,r3,r4,rf⟩:=N;go_wp2;obtain⟨Z,E,L,z⟩:=a.out.out;rw[<- E];obtain⟨O,Q,R,S,U,zf⟩:=L;clear E;exact bodyPost_ret (by simp[results,results36,go_sem,O,Q,R,S,U]<;>exact rfl) rfl (z.more (by omega))
 have b1:((q:Int)==1)=false:=beq_eq_false_iff_ne.2 (by omega);by_cases a2:q=2
 ·have b2:((q:Int)==2)=true:=beq_iff_eq.2 (by omega)
  go_wp2_with fail
  (go_at_call 39;refine(Br w0 l b _ _ C.out.s M.out (by omega) hn).mono ?_;rintro e w3 ⟨F,G,J,ae,le,ce,H,rfl,m,o,p,u,v⟩)
  have a:=aB (C.out.node (fun _ h=>by cases h) m o p u v);clear m o p u v;have N:=a.out.r;obtain⟨r0,r1,r2,r3,r4,rf⟩:=N;go_wp2;obtain⟨Z,E,L,z⟩:=a.out.out;rw[<- E];obtain⟨O,Q,R,S,U,zf⟩:=L;clear E;exact bodyPost_ret (by simp[results,results36,go_sem,O,Q,R,S,U]<;>exact rfl) rfl (z.more (by omega))
 have b2:((q:Int)==2)=false:=beq_eq_false_iff_ne.2 (by omega);by_cases e2:q=3
 ·have b3:((q:Int)==3)=true:=beq_iff_eq.2 (by omega)
  have B:=aB (C.out.drew);have g:IntKind.i64.wrap (d-1)=d-1:=aD _ (by omega)
  go_wp2_with fail
  go_region_held3 (fun w'=>∀i,i<7->w'.cell? ⟨0,i,none⟩=some (.string ⟨(Dl.getD i []).toArray⟩)) (first | with_reducible exact fun i D=>(M.out.below (Fj (AE A.out.s) (IN A.out) _ _ _ _ _)).assigns i D | with_reducible exact fun i D=>(M.out.below (AE A.out.s)).assigns i D | with_reducible exact fun i D=>(M.out.below (AE (j.out.alloc _).s)).assigns i D | with_reducible exact fun i D=>(M.out.below (AE j.out.s)).assigns i D | with_reducible exact fun i D=>(M.out.below (AE w.out.s)).assigns i D | with_reducible exact fun i D=>(M.out.below (AE a.out.s)).assigns i D | with_reducible exact fun i D=>(M.out.below (AE B.out.s)).assigns i D)
   (first | (go_at_call 38;have hz:=j;clear hz;(try clear g);refine(As (7) ⟨((Dl[r]?.getD []):List UInt8).toArray⟩ _ _ _ _).mono ?_;rintro e w6 ⟨rfl,K⟩;have V:=j.out.join (L1:=[]) (L2:=[(Tr.mk F G J (0,0) H,aA ae le ce),(Tr.mk kf nf xf (0,0) sf,aA af lf cf)]) (cap:=2) (k:=7) (nm:=(Dl[r]?.getD [])) (x:=0) (BN (7) (Dl[r]?.getD []) (by decide) (Ck Dl (by decide) r)) K;have A:Hid (Fr 60 A0 w0 l b W I _ [(Tr.mk (7) (Dl[r]?.getD []) 0 (0,0) [Tr.mk F G J (0,0) H,Tr.mk kf nf xf (0,0) sf],aA (some ⟨w5.heap.size,0,none⟩) 2 2)] w6 none 0 (.slice none 0 0)):=V;clear K V;have N:=A.out.r;obtain⟨r0,r1,r2,r3,r4,rf⟩:=N) | (go_at_call 36;(try clear g);refine(HE.out (d-1) _ _ (by omega) (by omega) w.out.s (by omega)).mono ?_;rintro e w5 ⟨kf,nf,xf,af,lf,cf,sf,rfl,m,o,p,u,v⟩;have j:=aB (w.out.node (fun _ h=>by cases h) m o p u v);clear m o p u v) | (go_at_call 57;(try clear g);refine(D8 w0 l b _ _ a.out.s M.out hn n c d (by omega) (by omega) (by omega) (by omega) HE.out).mono ?_;rintro e w4 ⟨F,G,J,ae,le,ce,H,rfl,m,o,p,u,v⟩;have w:=aB (a.out.node (fun _ h=>by cases h) m o p u v);clear m o p u v) | (go_at_call 35;(try clear g);refine(Ar w0 l b _ 7 _ B.out.s (by omega) (by omega) (by omega) hn).mono ?_;rintro e w3 ⟨r,hr,rfl,hs,Y⟩;have a:=aB (B.out.step (d:=1) hs Y);have e0:(0:Int)<=(r:Int):=aC _;have f0:r<7:=aE.1 hr;clear hs Y))
  all_goals
   go_wp2;obtain⟨Z,E,L,z⟩:=A.out.out;rw[<- E];obtain⟨O,Q,R,S,U,zf⟩:=L;clear E;exact bodyPost_ret (by simp[results,results36,go_sem,O,Q,R,S,U]<;>exact rfl) rfl (z.more (by omega))
 have b3:((q:Int)==3)=false:=beq_eq_false_iff_ne.2 (by omega);by_cases f2:q=4
 ·have b4:((q:Int)==4)=true:=beq_iff_eq.2 (by omega)
  go_wp2_with fail
  (go_at_call 36;refine(HE.out (d-1) _ _ (by omega) (by omega) C.out.s (by omega)).mono ?_;rintro e w3 ⟨F,G,J,ae,le,ce,H,rfl,m,o,p,u,v⟩)
  have a:=aB (C.out.node (fun _ h=>by cases h) m o p u v);clear m o p u v
  go_wp2_with fail
  (go_at_call 36;refine(HE.out (d-1) _ _ (by omega) (by omega) a.out.s (by omega)).mono ?_;rintro e w4 ⟨kf,nf,xf,af,lf,cf,sf,rfl,m,o,p,u,v⟩)
  have w:=aB (a.out.node (fun _ h=>by cases h) m o p u v);clear m o p u v
  go_wp2_with fail
  (go_at_call 36;refine(HE.out (d-1) _ _ (by omega) (by omega) w.out.s (by omega)).mono ?_;rintro e w5 ⟨kg,ng,xg,ag,lg,cg,sg,rfl,m,o,p,u,v⟩)
  have j:=aB (w.out.node (fun _ h=>by cases h) m o p u v);clear m o p u v
  go_wp2_with fail
  (go_at_call 38;refine(As 8 ⟨([]:List UInt8).toArray⟩ _ _ _ _).mono ?_;rintro e w6 ⟨rfl,K⟩)
  have V:=j.out.join (L1:=[]) (L2:=[(Tr.mk F G J (0,0) H,aA ae le ce),(Tr.mk kf nf xf (0,0) sf,aA af lf cf),(Tr.mk kg ng xg (0,0) sg,aA ag lg cg)]) (cap:=3) (k:=8) (nm:=[]) (x:=0) (BN 8 [] (by decide) (by decide)) K;have A:Hid (Fr 60 A0 w0 l b W I _ [(Tr.mk 8 [] 0 (0,0) [Tr.mk F G J (0,0) H,Tr.mk kf nf xf (0,0) sf,Tr.mk kg ng xg (0,0) sg],aA (some ⟨w5.heap.size,0,none⟩) 3 3)] w6 none 0 (.slice none 0 0)):=V;clear K V;have N:=A.out.r;obtain⟨r0,r1,r2,r3,r4,rf⟩:=N;go_wp2;obtain⟨Z,E,L,z⟩:=A.out.out;rw[<- E];obtain⟨O,Q,R,S,U,zf⟩:=L;clear E;exact bodyPost_ret (by simp[results,results36,go_sem,O,Q,R,S,U]<;>exact rfl) rfl (z.more (by omega))
 have b4:((q:Int)==4)=false:=beq_eq_false_iff_ne.2 (by omega);by_cases g2:q=5
 ·have b5:((q:Int)==5)=true:=beq_iff_eq.2 (by omega)
  go_wp2_with fail
  (go_at_call 35;refine(Ar w0 l b _ 2 _ C.out.s (by omega) (by omega) (by omega) hn).mono ?_;rintro e w3 ⟨r,hr,rfl,hs,Y⟩)
  have a:=aB (C.out.step (d:=1) hs Y);clear hs Y
  go_wp2_with fail
  (go_at_call 36;refine(HE.out (d-1) _ _ (by omega) (by omega) a.out.s (by omega)).mono ?_;rintro e w4 ⟨F,G,J,ae,le,ce,H,rfl,m,o,p,u,v⟩)
  have w:=aB (a.out.node (fun _ h=>by cases h) m o p u v);clear m o p u v
  go_wp2_with fail
  (go_at_call 36;refine(HE.out (d-1) _ _ (by omega) (by omega) w.out.s (by omega)).mono ?_;rintro e w5 ⟨kf,nf,xf,af,lf,cf,sf,rfl,m,o,p,u,v⟩)
  have j:=aB (w.out.node (fun _ h=>by cases h) m o p u v);clear m o p u v
  go_wp2_with fail
  (go_at_call 38;refine(As (9+(r:Int)) ⟨([]:List UInt8).toArray⟩ _ _ _ _).mono ?_;rintro e w6 ⟨rfl,K⟩)
  have V:=j.out.join (L1:=[]) (L2:=[(Tr.mk F G J (0,0) H,aA ae le ce),(Tr.mk kf nf xf (0,0) sf,aA af lf cf)]) (cap:=2) (k:=(9+(r:Int))) (nm:=[]) (x:=0) (BN (9+(r:Int)) [] (by omega) (by decide)) K;have A:Hid (Fr 60 A0 w0 l b W I _ [(Tr.mk (9+(r:Int)) [] 0 (0,0) [Tr.mk F G J (0,0) H,Tr.mk kf nf xf (0,0) sf],aA (some ⟨w5.heap.size,0,none⟩) 2 2)] w6 none 0 (.slice none 0 0)):=V;clear K V;have N:=A.out.r;obtain⟨r0,r1,r2,r3,r4,rf⟩:=N;go_wp2;obtain⟨Z,E,L,z⟩:=A.out.out;rw[<- E];obtain⟨O,Q,R,S,U,zf⟩:=L;clear E;exact bodyPost_ret (by simp[results,results36,go_sem,O,Q,R,S,U]<;>exact rfl) rfl (z.more (by omega))
 have b5:((q:Int)==5)=false:=beq_eq_false_iff_ne.2 (by omega);by_cases i2:q=6
 ·have b6:((q:Int)==6)=true:=beq_iff_eq.2 (by omega)
  go_wp2_with fail
  (go_at_call 58;refine(BJ w0 l b _ _ C.out.s (by omega) hn).mono ?_;rintro e w3 ⟨nm,i0,rfl,hs,Y⟩)
  have a:=aB (C.out.step (d:=2) hs Y);have a0:=aB i0;clear hs Y i0
  go_wp2_with fail
  (go_at_call 36;refine(HE.out (d-1) _ _ (by omega) (by omega) a.out.s (by omega)).mono ?_;rintro e w4 ⟨F,G,J,ae,le,ce,H,rfl,m,o,p,u,v⟩)
  have w:=aB (a.out.node (fun _ h=>by cases h) m o p u v);clear m o p u v
  go_wp2_with fail
  (go_at_call 38;refine(As 11 ⟨(nm:List UInt8).toArray⟩ _ _ _ _).mono ?_;rintro e w5 ⟨rfl,K⟩)
  have V:=w.out.join (L1:=[]) (L2:=[(Tr.mk F G J (0,0) H,aA ae le ce)]) (cap:=1) (k:=11) (nm:=nm) (x:=0) (BN 11 nm (by decide) a0.out) K;have j:Hid (Fr 60 A0 w0 l b W I _ [(Tr.mk 11 nm 0 (0,0) [Tr.mk F G J (0,0) H],aA (some ⟨w4.heap.size,0,none⟩) 1 1)] w5 none 0 (.slice none 0 0)):=V;clear K V;have N:=j.out.r;obtain⟨r0,r1,r2,r3,r4,rf⟩:=N;go_wp2;obtain⟨Z,E,L,z⟩:=j.out.out;rw[<- E];obtain⟨O,Q,R,S,U,zf⟩:=L;clear E;exact bodyPost_ret (by simp[results,results36,go_sem,O,Q,R,S,U]<;>exact rfl) rfl (z.more (by omega))
 have b6:((q:Int)==6)=false:=beq_eq_false_iff_ne.2 (by omega);by_cases j2:q=7
 ·have b7:((q:Int)==7)=true:=beq_iff_eq.2 (by omega)
  have B:=aB (C.out.drew);have g:IntKind.i64.wrap (d-1)=d-1:=aD _ (by omega);have o0:=RJ
  go_wp2_with fail
  go_region_held3 (fun _=>True) (trivial)
   (first | (go_at_call 38;have hz:=j;clear hz;(try clear g);refine(As (12) ⟨((G4[r]?.getD []):List UInt8).toArray⟩ _ _ _ _).mono ?_;rintro e w6 ⟨rfl,K⟩;have V:=j.out.join (L1:=[]) (L2:=[(Tr.mk F G J (0,0) H,aA ae le ce),(Tr.mk kf nf xf (0,0) sf,aA af lf cf)]) (cap:=2) (k:=12) (nm:=(G4[r]?.getD [])) (x:=0) (BN (12) (G4[r]?.getD []) (by decide) (Ck G4 (by decide) r)) K;have A:Hid (Fr 60 A0 w0 l b W I _ [(Tr.mk (12) (G4[r]?.getD []) 0 (0,0) [Tr.mk F G J (0,0) H,Tr.mk kf nf xf (0,0) sf],aA (some ⟨w5.heap.size,0,none⟩) 2 2)] w6 none 0 (.slice none 0 0)):=V;clear K V;have N:=A.out.r;obtain⟨r0,r1,r2,r3,r4,rf⟩:=N) | (go_at_call 59;(try clear g);refine(DY w0 l b _ _ w.out.s M.out hn (by omega)).mono ?_;rintro e w5 ⟨kf,nf,xf,af,lf,cf,sf,rfl,m,o,p,u,v⟩;have j:=aB (w.out.node (fun _ h=>by cases h) m o p u v);clear m o p u v) | (go_at_call 36;(try clear g);refine(HE.out (d-1) _ _ (by omega) (by omega) a.out.s (by omega)).mono ?_;rintro e w4 ⟨F,G,J,ae,le,ce,H,rfl,m,o,p,u,v⟩;have w:=aB (a.out.node (fun _ h=>by cases h) m o p u v);clear m o p u v) | (go_at_call 35;(try clear g);refine(Ar w0 l b _ 2 _ B.out.s (by omega) (by omega) (by omega) hn).mono ?_;rintro e w3 ⟨r,hr,rfl,hs,Y⟩;have a:=aB (B.out.step (d:=1) hs Y);have e0:(0:Int)<=(r:Int):=aC _;have f0:r<2:=aE.1 hr;clear hs Y))
  all_goals
   go_wp2;obtain⟨Z,E,L,z⟩:=A.out.out;rw[<- E];obtain⟨O,Q,R,S,U,zf⟩:=L;clear E;exact bodyPost_ret (by simp[results,results36,go_sem,O,Q,R,S,U]<;>exact rfl) rfl (z.more (by omega))
 have b7:((q:Int)==7)=false:=beq_eq_false_iff_ne.2 (by omega);by_cases k2:q=8
 ·have b8:((q:Int)==8)=true:=beq_iff_eq.2 (by omega)
  have B:=aB (C.out.drew);have g:IntKind.i64.wrap (d-1)=d-1:=aD _ (by omega)
  go_wp2_with fail
  go_region_held3 (fun w'=>∀i,i<6->w'.cell? ⟨1,i,none⟩=some (.string ⟨(BA.getD i []).toArray⟩)) (first | with_reducible exact fun i D=>(M.out.below (Fj (AE A.out.s) (IN A.out) _ _ _ _ _)).compares i D | with_reducible exact fun i D=>(M.out.below (AE A.out.s)).compares i D | with_reducible exact fun i D=>(M.out.below (AE (j.out.alloc _).s)).compares i D | with_reducible exact fun i D=>(M.out.below (AE j.out.s)).compares i D | with_reducible exact fun i D=>(M.out.below (AE w.out.s)).compares i D | with_reducible exact fun i D=>(M.out.below (AE a.out.s)).compares i D | with_reducible exact fun i D=>(M.out.below (AE B.out.s)).compares i D)
   (first | (go_at_call 38;have hz:=j;clear hz;(try clear g);refine(As (13) ⟨((BA[r]?.getD []):List UInt8).toArray⟩ _ _ _ _).mono ?_;rintro e w6 ⟨rfl,K⟩;have V:=j.out.join (L1:=[]) (L2:=[(Tr.mk F G J (0,0) H,aA ae le ce),(Tr.mk kf nf xf (0,0) sf,aA af lf cf)]) (cap:=2) (k:=13) (nm:=(BA[r]?.getD [])) (x:=0) (BN (13) (BA[r]?.getD []) (by decide) (Ck BA (by decide) r)) K;have A:Hid (Fr 60 A0 w0 l b W I _ [(Tr.mk (13) (BA[r]?.getD []) 0 (0,0) [Tr.mk F G J (0,0) H,Tr.mk kf nf xf (0,0) sf],aA (some ⟨w5.heap.size,0,none⟩) 2 2)] w6 none 0 (.slice none 0 0)):=V;clear K V;have N:=A.out.r;obtain⟨r0,r1,r2,r3,r4,rf⟩:=N) | (go_at_call 36;(try clear g);refine(HE.out (d-1) _ _ (by omega) (by omega) w.out.s (by omega)).mono ?_;rintro e w5 ⟨kf,nf,xf,af,lf,cf,sf,rfl,m,o,p,u,v⟩;have j:=aB (w.out.node (fun _ h=>by cases h) m o p u v);clear m o p u v) | (go_at_call 36;(try clear g);refine(HE.out (d-1) _ _ (by omega) (by omega) a.out.s (by omega)).mono ?_;rintro e w4 ⟨F,G,J,ae,le,ce,H,rfl,m,o,p,u,v⟩;have w:=aB (a.out.node (fun _ h=>by cases h) m o p u v);clear m o p u v) | (go_at_call 35;(try clear g);refine(Ar w0 l b _ 6 _ B.out.s (by omega) (by omega) (by omega) hn).mono ?_;rintro e w3 ⟨r,hr,rfl,hs,Y⟩;have a:=aB (B.out.step (d:=1) hs Y);have e0:(0:Int)<=(r:Int):=aC _;have f0:r<6:=aE.1 hr;clear hs Y))
  all_goals
   go_wp2;obtain⟨Z,E,L,z⟩:=A.out.out;rw[<- E];obtain⟨O,Q,R,S,U,zf⟩:=L;clear E;exact bodyPost_ret (by simp[results,results36,go_sem,O,Q,R,S,U]<;>exact rfl) rfl (z.more (by omega))
 have b8:((q:Int)==8)=false:=beq_eq_false_iff_ne.2 (by omega);by_cases l2:q=9
 ·have b9:((q:Int)==9)=true:=beq_iff_eq.2 (by omega)
  have B:=aB (C.out.drew);have g:IntKind.i64.wrap (d-1)=d-1:=aD _ (by omega)
  go_wp2_with fail
  go_region_held3 (fun w'=>∀i,i<6->w'.cell? ⟨1,i,none⟩=some (.string ⟨(BA.getD i []).toArray⟩)) (first | with_reducible exact fun i D=>(M.out.below (Fj (AE A.out.s) (IN A.out) _ _ _ _ _)).compares i D | with_reducible exact fun i D=>(M.out.below (AE A.out.s)).compares i D | with_reducible exact fun i D=>(M.out.below (AE (j.out.alloc _).s)).compares i D | with_reducible exact fun i D=>(M.out.below (AE j.out.s)).compares i D | with_reducible exact fun i D=>(M.out.below (AE w.out.s)).compares i D | with_reducible exact fun i D=>(M.out.below (AE a.out.s)).compares i D | with_reducible exact fun i D=>(M.out.below (AE B.out.s)).compares i D)
   (first | (go_at_call 38;have hz:=j;clear hz;(try clear g);refine(As (13) ⟨((BA[r]?.getD []):List UInt8).toArray⟩ _ _ _ _).mono ?_;rintro e w6 ⟨rfl,K⟩;have V:=j.out.join (L1:=[]) (L2:=[(Tr.mk F G J (0,0) H,aA ae le ce),(Tr.mk kf nf xf (0,0) sf,aA af lf cf)]) (cap:=2) (k:=13) (nm:=(BA[r]?.getD [])) (x:=0) (BN (13) (BA[r]?.getD []) (by decide) (Ck BA (by decide) r)) K;have A:Hid (Fr 60 A0 w0 l b W I _ [(Tr.mk (13) (BA[r]?.getD []) 0 (0,0) [Tr.mk F G J (0,0) H,Tr.mk kf nf xf (0,0) sf],aA (some ⟨w5.heap.size,0,none⟩) 2 2)] w6 none 0 (.slice none 0 0)):=V;clear K V;have N:=A.out.r;obtain⟨r0,r1,r2,r3,r4,rf⟩:=N) | (go_at_call 36;(try clear g);refine(HE.out (d-1) _ _ (by omega) (by omega) w.out.s (by omega)).mono ?_;rintro e w5 ⟨kf,nf,xf,af,lf,cf,sf,rfl,m,o,p,u,v⟩;have j:=aB (w.out.node (fun _ h=>by cases h) m o p u v);clear m o p u v) | (go_at_call 36;(try clear g);refine(HE.out (d-1) _ _ (by omega) (by omega) a.out.s (by omega)).mono ?_;rintro e w4 ⟨F,G,J,ae,le,ce,H,rfl,m,o,p,u,v⟩;have w:=aB (a.out.node (fun _ h=>by cases h) m o p u v);clear m o p u v) | (go_at_call 35;(try clear g);refine(Ar w0 l b _ 6 _ B.out.s (by omega) (by omega) (by omega) hn).mono ?_;rintro e w3 ⟨r,hr,rfl,hs,Y⟩;have a:=aB (B.out.step (d:=1) hs Y);have e0:(0:Int)<=(r:Int):=aC _;have f0:r<6:=aE.1 hr;clear hs Y))
  all_goals
   go_wp2;obtain⟨Z,E,L,z⟩:=A.out.out;rw[<- E];obtain⟨O,Q,R,S,U,zf⟩:=L;clear E;exact bodyPost_ret (by simp[results,results36,go_sem,O,Q,R,S,U]<;>exact rfl) rfl (z.more (by omega))
 have b9:((q:Int)==9)=false:=beq_eq_false_iff_ne.2 (by omega);by_cases l1:q=10
 ·have q0:((q:Int)==10)=true:=beq_iff_eq.2 (by omega)
  go_wp2_with fail
  (go_at_call 36;refine(HE.out (d-1) _ _ (by omega) (by omega) C.out.s (by omega)).mono ?_;rintro e w3 ⟨F,G,J,ae,le,ce,H,rfl,m,o,p,u,v⟩)
  have a:=aB (C.out.node (fun _ h=>by cases h) m o p u v);clear m o p u v
  go_wp2_with fail
  (go_at_call 36;refine(HE.out (d-1) _ _ (by omega) (by omega) a.out.s (by omega)).mono ?_;rintro e w4 ⟨kf,nf,xf,af,lf,cf,sf,rfl,m,o,p,u,v⟩)
  have w:=aB (a.out.node (fun _ h=>by cases h) m o p u v);clear m o p u v
  go_wp2_with fail
  (go_at_call 38;refine(As 14 ⟨([]:List UInt8).toArray⟩ _ _ _ _).mono ?_;rintro e w5 ⟨rfl,K⟩)
  have V:=w.out.join (L1:=[]) (L2:=[(Tr.mk F G J (0,0) H,aA ae le ce),(Tr.mk kf nf xf (0,0) sf,aA af lf cf)]) (cap:=2) (k:=14) (nm:=[]) (x:=0) (BN 14 [] (by decide) (by decide)) K;have j:Hid (Fr 60 A0 w0 l b W I _ [(Tr.mk 14 [] 0 (0,0) [Tr.mk F G J (0,0) H,Tr.mk kf nf xf (0,0) sf],aA (some ⟨w4.heap.size,0,none⟩) 2 2)] w5 none 0 (.slice none 0 0)):=V;clear K V;have N:=j.out.r;obtain⟨r0,r1,r2,r3,r4,rf⟩:=N;go_wp2;obtain⟨Z,E,L,z⟩:=j.out.out;rw[<- E];obtain⟨O,Q,R,S,U,zf⟩:=L;clear E;exact bodyPost_ret (by simp[results,results36,go_sem,O,Q,R,S,U]<;>exact rfl) rfl (z.more (by omega))
 have q0:((q:Int)==10)=false:=beq_eq_false_iff_ne.2 (by omega);by_cases m1:q=11
 ·have s0:((q:Int)==11)=true:=beq_iff_eq.2 (by omega)
  go_wp2_with fail
  (go_at_call 36;refine(HE.out (d-1) _ _ (by omega) (by omega) C.out.s (by omega)).mono ?_;rintro e w3 ⟨F,G,J,ae,le,ce,H,rfl,m,o,p,u,v⟩)
  have a:=aB (C.out.node (fun _ h=>by cases h) m o p u v);clear m o p u v
  go_wp2_with fail
  (go_at_call 36;refine(HE.out (d-1) _ _ (by omega) (by omega) a.out.s (by omega)).mono ?_;rintro e w4 ⟨kf,nf,xf,af,lf,cf,sf,rfl,m,o,p,u,v⟩)
  have w:=aB (a.out.node (fun _ h=>by cases h) m o p u v);clear m o p u v
  go_wp2_with fail
  (go_at_call 38;refine(As 14 ⟨([]:List UInt8).toArray⟩ _ _ _ _).mono ?_;rintro e w5 ⟨rfl,K⟩)
  have V:=w.out.join (L1:=[]) (L2:=[(Tr.mk F G J (0,0) H,aA ae le ce),(Tr.mk kf nf xf (0,0) sf,aA af lf cf)]) (cap:=2) (k:=14) (nm:=[]) (x:=0) (BN 14 [] (by decide) (by decide)) K;have j:Hid (Fr 60 A0 w0 l b W I _ [(Tr.mk 14 [] 0 (0,0) [Tr.mk F G J (0,0) H,Tr.mk kf nf xf (0,0) sf],aA (some ⟨w4.heap.size,0,none⟩) 2 2)] w5 none 0 (.slice none 0 0)):=V;clear K V;have N:=j.out.r;obtain⟨r0,r1,r2,r3,r4,rf⟩:=N;go_wp2;obtain⟨Z,E,L,z⟩:=j.out.out;rw[<- E];obtain⟨O,Q,R,S,U,zf⟩:=L;clear E;exact bodyPost_ret (by simp[results,results36,go_sem,O,Q,R,S,U]<;>exact rfl) rfl (z.more (by omega))
 have s0:((q:Int)==11)=false:=beq_eq_false_iff_ne.2 (by omega);by_cases n1:q=12
 ·have t0:((q:Int)==12)=true:=beq_iff_eq.2 (by omega)
  have B:=aB (C.out.drew);have g:IntKind.i64.wrap (d-1)=d-1:=aD _ (by omega)
  go_wp2_with fail
  go_region_held3 (fun w'=>∀i,i<6->w'.cell? ⟨2,i,none⟩=some (.string ⟨(CY.getD i []).toArray⟩)) (first | with_reducible exact fun i D=>(M.out.below (Fj (AE A.out.s) (IN A.out) _ _ _ _ _)).signs i D | with_reducible exact fun i D=>(M.out.below (AE A.out.s)).signs i D | with_reducible exact fun i D=>(M.out.below (AE (j.out.alloc _).s)).signs i D | with_reducible exact fun i D=>(M.out.below (AE j.out.s)).signs i D | with_reducible exact fun i D=>(M.out.below (AE w.out.s)).signs i D | with_reducible exact fun i D=>(M.out.below (AE a.out.s)).signs i D | with_reducible exact fun i D=>(M.out.below (AE B.out.s)).signs i D)
   (first | (go_at_call 38;have hz:=j;clear hz;(try clear g);refine(As (15) ⟨((CY[r]?.getD []):List UInt8).toArray⟩ _ _ _ _).mono ?_;rintro e w6 ⟨rfl,K⟩;have V:=j.out.join (L1:=[]) (L2:=[(Tr.mk F G J (0,0) H,aA ae le ce),(Tr.mk kf nf xf (0,0) sf,aA af lf cf)]) (cap:=2) (k:=15) (nm:=(CY[r]?.getD [])) (x:=0) (BN (15) (CY[r]?.getD []) (by decide) (Ck CY (by decide) r)) K;have A:Hid (Fr 60 A0 w0 l b W I _ [(Tr.mk (15) (CY[r]?.getD []) 0 (0,0) [Tr.mk F G J (0,0) H,Tr.mk kf nf xf (0,0) sf],aA (some ⟨w5.heap.size,0,none⟩) 2 2)] w6 none 0 (.slice none 0 0)):=V;clear K V;have N:=A.out.r;obtain⟨r0,r1,r2,r3,r4,rf⟩:=N) | (go_at_call 36;(try clear g);refine(HE.out (d-1) _ _ (by omega) (by omega) w.out.s (by omega)).mono ?_;rintro e w5 ⟨kf,nf,xf,af,lf,cf,sf,rfl,m,o,p,u,v⟩;have j:=aB (w.out.node (fun _ h=>by cases h) m o p u v);clear m o p u v) | (go_at_call 36;(try clear g);refine(HE.out (d-1) _ _ (by omega) (by omega) a.out.s (by omega)).mono ?_;rintro e w4 ⟨F,G,J,ae,le,ce,H,rfl,m,o,p,u,v⟩;have w:=aB (a.out.node (fun _ h=>by cases h) m o p u v);clear m o p u v) | (go_at_call 35;(try clear g);refine(Ar w0 l b _ 6 _ B.out.s (by omega) (by omega) (by omega) hn).mono ?_;rintro e w3 ⟨r,hr,rfl,hs,Y⟩;have a:=aB (B.out.step (d:=1) hs Y);have e0:(0:Int)<=(r:Int):=aC _;have f0:r<6:=aE.1 hr;clear hs Y))
  all_goals
   go_wp2;obtain⟨Z,E,L,z⟩:=A.out.out;rw[<- E];obtain⟨O,Q,R,S,U,zf⟩:=L;clear E;exact bodyPost_ret (by simp[results,results36,go_sem,O,Q,R,S,U]<;>exact rfl) rfl (z.more (by omega))
 have t0:((q:Int)==12)=false:=beq_eq_false_iff_ne.2 (by omega);by_cases o1:q=13
 ·have v0:((q:Int)==13)=true:=beq_iff_eq.2 (by omega)
  have B:=aB (C.out.drew);have g:IntKind.i64.wrap (d-1)=d-1:=aD _ (by omega)
  go_wp2_with fail
  go_region_held3 (fun w'=>∀i,i<6->w'.cell? ⟨2,i,none⟩=some (.string ⟨(CY.getD i []).toArray⟩)) (first | with_reducible exact fun i D=>(M.out.below (Fj (AE A.out.s) (IN A.out) _ _ _ _ _)).signs i D | with_reducible exact fun i D=>(M.out.below (AE A.out.s)).signs i D | with_reducible exact fun i D=>(M.out.below (AE (j.out.alloc _).s)).signs i D | with_reducible exact fun i D=>(M.out.below (AE j.out.s)).signs i D | with_reducible exact fun i D=>(M.out.below (AE w.out.s)).signs i D | with_reducible exact fun i D=>(M.out.below (AE a.out.s)).signs i D | with_reducible exact fun i D=>(M.out.below (AE B.out.s)).signs i D)
   (first | (go_at_call 38;have hz:=j;clear hz;(try clear g);refine(As (15) ⟨((CY[r]?.getD []):List UInt8).toArray⟩ _ _ _ _).mono ?_;rintro e w6 ⟨rfl,K⟩;have V:=j.out.join (L1:=[]) (L2:=[(Tr.mk F G J (0,0) H,aA ae le ce),(Tr.mk kf nf xf (0,0) sf,aA af lf cf)]) (cap:=2) (k:=15) (nm:=(CY[r]?.getD [])) (x:=0) (BN (15) (CY[r]?.getD []) (by decide) (Ck CY (by decide) r)) K;have A:Hid (Fr 60 A0 w0 l b W I _ [(Tr.mk (15) (CY[r]?.getD []) 0 (0,0) [Tr.mk F G J (0,0) H,Tr.mk kf nf xf (0,0) sf],aA (some ⟨w5.heap.size,0,none⟩) 2 2)] w6 none 0 (.slice none 0 0)):=V;clear K V;have N:=A.out.r;obtain⟨r0,r1,r2,r3,r4,rf⟩:=N) | (go_at_call 36;(try clear g);refine(HE.out (d-1) _ _ (by omega) (by omega) w.out.s (by omega)).mono ?_;rintro e w5 ⟨kf,nf,xf,af,lf,cf,sf,rfl,m,o,p,u,v⟩;have j:=aB (w.out.node (fun _ h=>by cases h) m o p u v);clear m o p u v) | (go_at_call 36;(try clear g);refine(HE.out (d-1) _ _ (by omega) (by omega) a.out.s (by omega)).mono ?_;rintro e w4 ⟨F,G,J,ae,le,ce,H,rfl,m,o,p,u,v⟩;have w:=aB (a.out.node (fun _ h=>by cases h) m o p u v);clear m o p u v) | (go_at_call 35;(try clear g);refine(Ar w0 l b _ 6 _ B.out.s (by omega) (by omega) (by omega) hn).mono ?_;rintro e w3 ⟨r,hr,rfl,hs,Y⟩;have a:=aB (B.out.step (d:=1) hs Y);have e0:(0:Int)<=(r:Int):=aC _;have f0:r<6:=aE.1 hr;clear hs Y))
  all_goals
   go_wp2;obtain⟨Z,E,L,z⟩:=A.out.out;rw[<- E];obtain⟨O,Q,R,S,U,zf⟩:=L;clear E;exact bodyPost_ret (by simp[results,results36,go_sem,O,Q,R,S,U]<;>exact rfl) rfl (z.more (by omega))
 have v0:((q:Int)==13)=false:=beq_eq_false_iff_ne.2 (by omega);by_cases p1:q=14
 ·have x0:((q:Int)==14)=true:=beq_iff_eq.2 (by omega)
  have B:=aB (C.out.drew);have g:IntKind.i64.wrap (d-1)=d-1:=aD _ (by omega);have o0:=Vr
  go_wp2_with fail
  go_region_held3 (fun _=>True) (trivial)
   (first | (go_at_call 38;have hz:=w;clear hz;(try clear g);refine(As (16) ⟨((QJ[r]?.getD []):List UInt8).toArray⟩ _ _ _ _).mono ?_;rintro e w5 ⟨rfl,K⟩;have V:=w.out.join (L1:=[]) (L2:=[(Tr.mk F G J (0,0) H,aA ae le ce)]) (cap:=1) (k:=16) (nm:=(QJ[r]?.getD [])) (x:=0) (BN (16) (QJ[r]?.getD []) (by decide) (Ck QJ (by decide) r)) K;have j:Hid (Fr 60 A0 w0 l b W I _ [(Tr.mk (16) (QJ[r]?.getD []) 0 (0,0) [Tr.mk F G J (0,0) H],aA (some ⟨w4.heap.size,0,none⟩) 1 1)] w5 none 0 (.slice none 0 0)):=V;clear K V;have N:=j.out.r;obtain⟨r0,r1,r2,r3,r4,rf⟩:=N) | (go_at_call 36;(try clear g);refine(HE.out (d-1) _ _ (by omega) (by omega) a.out.s (by omega)).mono ?_;rintro e w4 ⟨F,G,J,ae,le,ce,H,rfl,m,o,p,u,v⟩;have w:=aB (a.out.node (fun _ h=>by cases h) m o p u v);clear m o p u v) | (go_at_call 35;(try clear g);refine(Ar w0 l b _ 3 _ B.out.s (by omega) (by omega) (by omega) hn).mono ?_;rintro e w3 ⟨r,hr,rfl,hs,Y⟩;have a:=aB (B.out.step (d:=1) hs Y);have e0:(0:Int)<=(r:Int):=aC _;have f0:r<3:=aE.1 hr;clear hs Y))
  all_goals
   go_wp2;obtain⟨Z,E,L,z⟩:=j.out.out;rw[<- E];obtain⟨O,Q,R,S,U,zf⟩:=L;clear E;exact bodyPost_ret (by simp[results,results36,go_sem,O,Q,R,S,U]<;>exact rfl) rfl (z.more (by omega))
 have x0:((q:Int)==14)=false:=beq_eq_false_iff_ne.2 (by omega);by_cases q1:q=15
 ·have y0:((q:Int)==15)=true:=beq_iff_eq.2 (by omega)
  have B:=aB (C.out.drew);have g:IntKind.i64.wrap (d-1)=d-1:=aD _ (by omega);have o0:=TN;have w1:=V4
  go_wp2_with fail
  go_region_held3 (fun _=>True) (trivial)
   (first | (go_at_call 38;have hz:=j;clear hz;(try clear g);refine(As (17+(r:Int)) ⟨((Kz[t]?.getD []):List UInt8).toArray⟩ _ _ _ _).mono ?_;rintro e w6 ⟨rfl,K⟩;have V:=j.out.join (L1:=[]) (L2:=[(Tr.mk F G J (0,0) H,aA ae le ce)]) (cap:=1) (k:=17+(r:Int)) (nm:=(Kz[t]?.getD [])) (x:=0) (BN (17+(r:Int)) (Kz[t]?.getD []) (by omega) (Ck Kz (by decide) t)) K;have A:Hid (Fr 60 A0 w0 l b W I _ [(Tr.mk (17+(r:Int)) (Kz[t]?.getD []) 0 (0,0) [Tr.mk F G J (0,0) H],aA (some ⟨w5.heap.size,0,none⟩) 1 1)] w6 none 0 (.slice none 0 0)):=V;clear K V;have N:=A.out.r;obtain⟨r0,r1,r2,r3,r4,rf⟩:=N) | (go_at_call 57;(try clear g);refine(D8 w0 l b _ _ w.out.s M.out hn n c d (by omega) (by omega) (by omega) (by omega) HE.out).mono ?_;rintro e w5 ⟨F,G,J,ae,le,ce,H,rfl,m,o,p,u,v⟩;have j:=aB (w.out.node (fun _ h=>by cases h) m o p u v);clear m o p u v) | (go_at_call 35;(try clear g);refine(Ar w0 l b _ 2 _ a.out.s (by omega) (by omega) (by omega) hn).mono ?_;rintro e w4 ⟨t,ht,rfl,hs,Y⟩;have w:=aB (a.out.step (d:=1) hs Y);have m2:(0:Int)<=(t:Int):=aC _;have n2:t<2:=aE.1 ht;clear hs Y) | (go_at_call 35;(try clear g);refine(Ar w0 l b _ 2 _ B.out.s (by omega) (by omega) (by omega) hn).mono ?_;rintro e w3 ⟨r,hr,rfl,hs,Y⟩;have a:=aB (B.out.step (d:=1) hs Y);have e0:(0:Int)<=(r:Int):=aC _;have f0:r<2:=aE.1 hr;clear hs Y))
  all_goals
   go_wp2;obtain⟨Z,E,L,z⟩:=A.out.out;rw[<- E];obtain⟨O,Q,R,S,U,zf⟩:=L;clear E;exact bodyPost_ret (by simp[results,results36,go_sem,O,Q,R,S,U]<;>exact rfl) rfl (z.more (by omega))
 have y0:((q:Int)==15)=false:=beq_eq_false_iff_ne.2 (by omega);by_cases s1:q=16
 ·have a1:((q:Int)==16)=true:=beq_iff_eq.2 (by omega)
  go_wp2_with fail
  (go_at_call 57;refine(D8 w0 l b _ _ C.out.s M.out hn n c d (by omega) (by omega) (by omega) (by omega) HE.out).mono ?_;rintro e w3 ⟨F,G,J,ae,le,ce,H,rfl,m,o,p,u,v⟩)
  have a:=aB (C.out.node (fun _ h=>by cases h) m o p u v);clear m o p u v;have N:=a.out.r;obtain⟨r0,r1,r2,r3,r4,rf⟩:=N;go_wp2;obtain⟨Z,E,L,z⟩:=a.out.out;rw[<- E];obtain⟨O,Q,R,S,U,zf⟩:=L;clear E;exact bodyPost_ret (by simp[results,results36,go_sem,O,Q,R,S,U]<;>exact rfl) rfl (z.more (by omega))
 have a1:((q:Int)==16)=false:=beq_eq_false_iff_ne.2 (by omega);by_cases t1:q=17
 ·have e1:((q:Int)==17)=true:=beq_iff_eq.2 (by omega)
  go_wp2_with fail
  (go_at_call 35;refine(Ar w0 l b _ 8 _ C.out.s (by omega) (by omega) (by omega) hn).mono ?_;rintro e w3 ⟨r,hr,rfl,hs,Y⟩)
  have a:=aB (C.out.step (d:=1) hs Y);clear hs Y;have ct:=(M.out.below (AE a.out.s)).regexes r (by omega);have k0:=L5 BF [] r (by have:BF.length=8:=rfl;omega);have hl:=DM BF (by decide) r;generalize BF.getD r []=nm at ct hl k0;have p0:=aB k0;clear k0;have a0:=aB hl;clear hl
  go_wp2_with fail
  (go_at_call 38;refine(As 3 ⟨(nm:List UInt8).toArray⟩ none 0 0 _).mono ?_;rintro e w4 ⟨rfl,K⟩)
  have w:=aB (a.out.leaf (k:=3) (nm:=nm) (x:=0) ⟨a0.out,fun _=>p0.out,by decide⟩ K);clear K;have N:=w.out.r;obtain⟨r0,r1,r2,r3,r4,rf⟩:=N;go_wp2;obtain⟨Z,E,L,z⟩:=w.out.out;rw[<- E];obtain⟨O,Q,R,S,U,zf⟩:=L;clear E;exact bodyPost_ret (by simp[results,results36,go_sem,O,Q,R,S,U]<;>exact rfl) rfl (z.more (by omega))
 have e1:((q:Int)==17)=false:=beq_eq_false_iff_ne.2 (by omega);by_cases v1:q=18
 ·have f1:((q:Int)==18)=true:=beq_iff_eq.2 (by omega)
  go_wp2_with fail
  (go_at_call 35;refine(Ar w0 l b _ 3 _ C.out.s (by omega) (by omega) (by omega) hn).mono ?_;rintro e w3 ⟨r,hr,rfl,hs,Y⟩)
  have a:=aB (C.out.step (d:=1) hs Y);clear hs Y;by_cases e0:r=0
  ·have d0:((r:Int)==0)=true:=beq_iff_eq.2 (by omega)
   go_wp2_with fail
   (go_at_call 36;refine(HE.out (d-1) _ _ (by omega) (by omega) a.out.s (by omega)).mono ?_;rintro e w4 ⟨F,G,J,ae,le,ce,H,rfl,m,o,p,u,v⟩)
   have w:=aB (a.out.node (fun _ h=>by cases h) m o p u v);clear m o p u v
   go_wp2_with fail
   (go_at_call 58;refine(BJ w0 l b _ _ w.out.s (by omega) hn).mono ?_;rintro e w5 ⟨nm,i0,rfl,hs,Y⟩)
   have j:=aB (w.out.step (d:=2) hs Y);have a0:=aB i0;clear hs Y i0
   go_wp2_with fail
   (go_at_call 38;refine(As 4 ⟨(nm:List UInt8).toArray⟩ none 0 0 _).mono ?_;rintro e w6 ⟨rfl,K⟩)
   have A:=aB (j.out.leaf (k:=4) (nm:=nm) (x:=0) (BN 4 nm (by decide) a0.out) K);clear K
   go_wp2_with fail
   (go_at_call 38;refine(As 19 ⟨([102]:List UInt8).toArray⟩ _ _ _ _).mono ?_;rintro e w7 ⟨rfl,K⟩)
   have V:=A.out.join (L1:=[]) (L2:=[(Tr.mk F G J (0,0) H,aA ae le ce),(Tr.mk 4 nm 0 (0,0) [],aA none 0 0)]) (cap:=2) (k:=19) (nm:=[102]) (x:=0) (BN 19 [102] (by decide) (by decide)) K;have m0:Hid (Fr 60 A0 w0 l b W I _ [(Tr.mk 19 [102] 0 (0,0) [Tr.mk F G J (0,0) H,Tr.mk 4 nm 0 (0,0) []],aA (some ⟨w6.heap.size,0,none⟩) 2 2)] w7 none 0 (.slice none 0 0)):=V;clear K V;have N:=m0.out.r;obtain⟨r0,r1,r2,r3,r4,rf⟩:=N;go_wp2;obtain⟨Z,E,L,z⟩:=m0.out.out;rw[<- E];obtain⟨O,Q,R,S,U,zf⟩:=L;clear E;exact bodyPost_ret (by simp[results,results36,go_sem,O,Q,R,S,U]<;>exact rfl) rfl (z.more (by omega))
  have d0:((r:Int)==0)=false:=beq_eq_false_iff_ne.2 (by omega)
  go_wp2_with fail
  (go_at_call 36;refine(HE.out (d-1) _ _ (by omega) (by omega) a.out.s (by omega)).mono ?_;rintro e w4 ⟨F,G,J,ae,le,ce,H,rfl,m,o,p,u,v⟩)
  have w:=aB (a.out.node (fun _ h=>by cases h) m o p u v);clear m o p u v
  go_wp2_with fail
  (go_at_call 38;refine(As 19 ⟨([103]:List UInt8).toArray⟩ _ _ _ _).mono ?_;rintro e w5 ⟨rfl,K⟩)
  have V:=w.out.join (L1:=[]) (L2:=[(Tr.mk F G J (0,0) H,aA ae le ce)]) (cap:=1) (k:=19) (nm:=[103]) (x:=0) (BN 19 [103] (by decide) (by decide)) K;have j:Hid (Fr 60 A0 w0 l b W I _ [(Tr.mk 19 [103] 0 (0,0) [Tr.mk F G J (0,0) H],aA (some ⟨w4.heap.size,0,none⟩) 1 1)] w5 none 0 (.slice none 0 0)):=V;clear K V;have N:=j.out.r;obtain⟨r0,r1,r2,r3,r4,rf⟩:=N;go_wp2;obtain⟨Z,E,L,z⟩:=j.out.out;rw[<- E];obtain⟨O,Q,R,S,U,zf⟩:=L;clear E;exact bodyPost_ret (by simp[results,results36,go_sem,O,Q,R,S,U]<;>exact rfl) rfl (z.more (by omega))
 have f1:((q:Int)==18)=false:=beq_eq_false_iff_ne.2 (by omega)
 go_wp2_with fail
 (go_at_call 60;refine(Pe w0 l b _ _ C.out.s M.out hn n c (d-1) (by omega) (by omega) (by omega) j1 (by omega) HE.out).mono ?_;rintro e w3 ⟨F,G,J,ae,le,ce,H,rfl,m,o,p,u,v⟩)
 have a:=aB (C.out.node (fun _ h=>by cases h) m o p u v);clear m o p u v;have N:=a.out.r;obtain⟨r0,r1,r2,r3,r4,rf⟩:=N;go_wp2;obtain⟨Z,E,L,z⟩:=a.out.out;rw[<- E];obtain⟨O,Q,R,S,U,zf⟩:=L;clear E;exact bodyPost_ret (by simp[results,results36,go_sem,O,Q,R,S,U]<;>exact rfl) rfl (z.more (by omega))
end Go.Proofs.YtipfpohlnhmlpaaGreatDoor
