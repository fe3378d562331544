/- Mv -/
import Derived.Test.YtipfpohlnhmlpaaGreatDoorMt
set_option maxRecDepth 100000
set_option maxHeartbeats 16000000
open Nat renaming le_trans->aA
open Go.Ending renaming returned->aB
open Go.Lib renaming hid->aC
namespace Go
open Go.RowKit
theorem Wg {ks:List Tr} (h:ks.length=1):∃a,ks=[a]:=by match ks,h with | [a],_=>exact⟨a,rfl⟩
theorem Hu {ks:List Tr} (h:ks.length=2):∃a b,ks=[a,b]:=by match ks,h with | [a,b],_=>exact⟨a,b,rfl⟩
theorem UY {ks:List Tr} (h:ks.length=3):∃a b c,ks=[a,b,c]:=by match ks,h with | [a,b,c],_=>exact⟨a,b,c,rfl⟩
theorem UZ {ks:List Tr} (h:ks.length=4):∃a b c d,ks=[a,b,c,d]:=by match ks,h with | [a,b,c,d],_=>exact⟨a,b,c,d,rfl⟩
theorem TH (a:Nat->List UInt8) (t:Tr) (h:t.kd=0):AD a t=[]:=by
 obtain⟨k,nm,x,z,ks⟩:=t;have:k=0:=h;subst this;rw[Ba];rfl
theorem VC (t:Tr):5*t.nm.length<=t.big:=by obtain⟨k,nm,x,z,ks⟩:=t;rw[CD];show 5*nm.length<=_;omega
end Go
namespace Go.Proofs.YtipfpohlnhmlpaaGreatDoor
open Go.Proofs.Tryz
open Go.RowKit
theorem QB (s:Nat->List UInt8) (q:∀x,(s x).length<=64) (N:Aw) (w0:World) (n:Nat) (hE:Hj s N w0 n) (hS:On s N w0 n) (hB:GP s N w0 n) (v1:GP s N w0 (n+1)):On s N w0 (n+1):=by
 intro t d kv W r1 p7 U hk S;obtain⟨k,nm,x,z,ks⟩:=t;have I:=U;rw[CD] at U;have w:DN ks<=n:=by rw[Tr.wt_mk] at r1;omega
 have u:Am 60 W (fun _=>True) ks kv:=hk;obtain⟨a,c,q7⟩:=u.slice;subst q7;have t7:nm.length<=8796093022208:=(by omega);rcases p7 with p | i7
 case inr =>
  have j7:k=0:=i7;subst j7;have HX:Hid (AX s (.mk 0 nm x z ks)=[]):=by unfold Hid;rw[Bn];rfl
  have l:Hid (Below W.heap.size W (W.alloc (.cells #[.int .i64 0,.string ⟨nm.toArray⟩,.float .f64 x,.slice a ks.length c,.complex .f64 z.1 z.2] 60))):=Ad W _;clear u hk hE hS hB v1 q S w U I r1 i7;show Calls prog 56 #[.agg #[.int .i64 0,.string ⟨nm.toArray⟩,.float .f64 x,.slice a ks.length c,.complex .f64 z.1 z.2]] W _
  go_in
  go_wp2;go_ret;exact⟨by rw[HX.out];rfl,l.out⟩
 by_cases q6:k=30
 ·subst q6
  have l:Hid (Below W.heap.size W (W.alloc (.cells #[.int .i64 30,.string ⟨nm.toArray⟩,.float .f64 x,.slice a ks.length c,.complex .f64 z.1 z.2] 60))):=Ad W _
  have HC:Hid (∀j,Below W.heap.size W j->Calls prog 34 #[.agg #[.int .i64 30,.string ⟨nm.toArray⟩,.float .f64 x,.slice a ks.length c,.complex .f64 z.1 z.2]] j fun e o=>e = .returned (.string ⟨(AX s (.mk 30 nm x z ks)).toArray⟩)/\Below j.heap.size j o) :=
   fun j m=>v1 (.mk 30 nm x z ks) d _ j r1 rfl p I (u.bel m) (S.trans (m.mono S.size))
  generalize AX s (.mk 30 nm x z ks)=V at HC ⊢;clear p u hk hE hS hB v1 q S w U I r1;show Calls prog 56 #[.agg #[.int .i64 30,.string ⟨nm.toArray⟩,.float .f64 x,.slice a ks.length c,.complex .f64 z.1 z.2]] W _
  go_in
  go_wp2_with (go_at_call 34;refine(HC.out _ l.out).mono ?_;rintro e w1 ⟨rfl,b⟩;have r:=aC (l.out.trans (b.mono l.out.size));clear b)
  go_ret;exact⟨rfl,r.out⟩
 by_cases r6:k=31
 ·subst r6
  clear I hk r1 v1
  have hl:ks.length=2\/ks.length=3:=by
   rw[Av] at p;simp at p;rcases p.2.2.2.1 with h | h
   ·exact .inl h
   exact .inr h.1
  rcases hl with c6 | k7
  ·have K:ks.length=2:=by
    rw[Av] at p;simp at p;exact c6
   obtain⟨g,i,rfl⟩:=Hu K;obtain⟨f,n2,j0,v0,q0,s0,R,l0,m0,n0,o0,p0⟩:=u.cells 0 (by simp);obtain rfl:g=q0:=(by simpa using s0);obtain⟨b1,p2,k0,p1,q1,o1,T,x0,y0,z0,a1,c1⟩:=u.cells 1 (by simp);obtain rfl:i=q1:=(by simpa using o1);obtain⟨rfl⟩:a=some ⟨f,0,none⟩:=(by injection v0);obtain rfl:f=b1:=by injection p1 with h _ _;injection h with h;injection h with h _ _
   rw[Av] at p
   (try rw[Bo] at p)
   (try rw[BU] at p)
   (try unfold Dm at p)
   (try unfold Ie at p)
   (try unfold CK at p)
   (try unfold Fg at p)
   simp at p;have u0:Bu N (d+1) g=true:=by clear hE hS hB q;simp_all
   have u1:i.kd=30/\Av N (d+1) i=true:=by clear hE hS hB q;simp_all
   obtain⟨V,P⟩:∃L,AD s g=L:=⟨_,rfl⟩;have v4:V.length<=8796093022208:=by rw[<- P];have:=Bs s q g;have:=Ax (t:=g) (ks:=[g,i]) (by simp);omega
   have y1:Hid (∀j,Below W.heap.size W j->Calls prog 55 #[.agg #[.int .i64 g.kd,.string ⟨g.nm.toArray⟩,.float .f64 g.x,j0,.complex .f64 g.z.1 g.z.2]] j fun e o=>e = .returned (.string ⟨V.toArray⟩)/\Below j.heap.size j o):=fun j m=>by rw[<- P];exact hE g (d+1) j0 j (aA (A9 (t:=g) (ks:=[g,i]) (by simp)) w) u0 (by have:=Ax (t:=g) (ks:=[g,i]) (by simp);omega) (R.bel m) (S.trans (m.mono S.size))
   obtain⟨L1,Q⟩:∃L,AX s i=L:=⟨_,rfl⟩;have x4:L1.length<=8796093022208:=by rw[<- Q];have:=BB s q i;have:=Ax (t:=i) (ks:=[g,i]) (by simp);omega
   have z1:Hid (∀j,Below W.heap.size W j->Calls prog 34 #[.agg #[.int .i64 i.kd,.string ⟨i.nm.toArray⟩,.float .f64 i.x,k0,.complex .f64 i.z.1 i.z.2]] j fun e o=>e = .returned (.string ⟨L1.toArray⟩)/\Below j.heap.size j o):=fun j m=>by rw[<- Q];exact hB i (d+1) k0 j (aA (A9 (t:=i) (ks:=[g,i]) (by simp)) w) u1.1 u1.2 (by have:=Ax (t:=i) (ks:=[g,i]) (by simp);omega) (T.bel m) (S.trans (m.mono S.size))
   have d1:=Ab l0 (.cells #[.int .i64 31,.string ⟨nm.toArray⟩,.float .f64 x,.slice (some ⟨f,0,none⟩) 2 c,.complex .f64 z.1 z.2] 60);have r0:=Ab m0 (.cells #[.int .i64 31,.string ⟨nm.toArray⟩,.float .f64 x,.slice (some ⟨f,0,none⟩) 2 c,.complex .f64 z.1 z.2] 60);have e1:=Ab n0 (.cells #[.int .i64 31,.string ⟨nm.toArray⟩,.float .f64 x,.slice (some ⟨f,0,none⟩) 2 c,.complex .f64 z.1 z.2] 60);have f1:=Ab o0 (.cells #[.int .i64 31,.string ⟨nm.toArray⟩,.float .f64 x,.slice (some ⟨f,0,none⟩) 2 c,.complex .f64 z.1 z.2] 60);have i1:=Ab p0 (.cells #[.int .i64 31,.string ⟨nm.toArray⟩,.float .f64 x,.slice (some ⟨f,0,none⟩) 2 c,.complex .f64 z.1 z.2] 60)
   have j1:=Ab x0 (.cells #[.int .i64 31,.string ⟨nm.toArray⟩,.float .f64 x,.slice (some ⟨f,0,none⟩) 2 c,.complex .f64 z.1 z.2] 60);have k1:=Ab y0 (.cells #[.int .i64 31,.string ⟨nm.toArray⟩,.float .f64 x,.slice (some ⟨f,0,none⟩) 2 c,.complex .f64 z.1 z.2] 60);have l1:=Ab z0 (.cells #[.int .i64 31,.string ⟨nm.toArray⟩,.float .f64 x,.slice (some ⟨f,0,none⟩) 2 c,.complex .f64 z.1 z.2] 60);have m1:=Ab a1 (.cells #[.int .i64 31,.string ⟨nm.toArray⟩,.float .f64 x,.slice (some ⟨f,0,none⟩) 2 c,.complex .f64 z.1 z.2] 60);have n1:=Ab c1 (.cells #[.int .i64 31,.string ⟨nm.toArray⟩,.float .f64 x,.slice (some ⟨f,0,none⟩) 2 c,.complex .f64 z.1 z.2] 60)
   have HX:Hid (AX s (.mk 31 nm x z [g,i])=[105,102,32,40]++V++[41,32]++L1):=by
    unfold Hid;rw[Bn,Au,B8];unfold Xg;simp[P,Q]
   have g1:¬ 9223372036854775807<4+V.length:=(by omega);have g2:¬ 9223372036854775807<4+V.length+2:=(by omega);have g3:¬ 9223372036854775807<4+V.length+2+L1.length:=(by omega);have l:Hid (Below W.heap.size W (W.alloc (.cells #[.int .i64 31,.string ⟨nm.toArray⟩,.float .f64 x,.slice (some ⟨f,0,none⟩) 2 c,.complex .f64 z.1 z.2] 60)).drew):=AC W _;clear s0 v0 R l0 m0 n0 o0 p0 o1 p1 T x0 y0 z0 a1 c1 P Q u0 u1 K p u hE hS hB q S w U;show Calls prog 56 #[.agg #[.int .i64 31,.string ⟨nm.toArray⟩,.float .f64 x,.slice (some ⟨f,0,none⟩) 2 c,.complex .f64 z.1 z.2]] W _
   go_in
   go_wp2_with fail
   go_region_held3 (fun o=>o.cell? ⟨f,0,none⟩=some (.int .i64 g.kd)/\o.cell? ⟨f,1,none⟩=some (.string ⟨g.nm.toArray⟩)/\o.cell? ⟨f,2,none⟩=some (.float .f64 g.x)/\o.cell? ⟨f,3,none⟩=some (j0)/\o.cell? ⟨f,4,none⟩=some (.complex .f64 g.z.1 g.z.2)/\o.cell? ⟨f,5,none⟩=some (.int .i64 i.kd)/\o.cell? ⟨f,6,none⟩=some (.string ⟨i.nm.toArray⟩)/\o.cell? ⟨f,7,none⟩=some (.float .f64 i.x)/\o.cell? ⟨f,8,none⟩=some (k0)/\o.cell? ⟨f,9,none⟩=some (.complex .f64 i.z.1 i.z.2)) (first | with_reducible exact⟨X,Y,Z,a0,c0,d0,e0,f0,g0,i0⟩ | with_reducible exact⟨E,v,F,G,H,y,A,B,C,D⟩ | with_reducible exact⟨d1,r0,e1,f1,i1,j1,k1,l1,m1,n1⟩)
    (first | (go_at_call 34;have hz:=r;clear hz;refine(z1.out _ r.out).mono ?_;rintro e w2 ⟨rfl,b⟩;have s1:=aC (r.out.trans (b.mono r.out.size));have X:=Aa E b;have Y:=Aa v b;have Z:=Aa F b;have a0:=Aa G b;have c0:=Aa H b;have d0:=Aa y b;have e0:=Aa A b;have f0:=Aa B b;have g0:=Aa C b;have i0:=Aa D b;clear b) | (go_at_call 55;have hz:=l;clear hz;refine(y1.out _ l.out).mono ?_;rintro e w1 ⟨rfl,b⟩;have r:=aC (l.out.trans (b.mono l.out.size));have E:=Aa d1 b;have v:=Aa r0 b;have F:=Aa e1 b;have G:=Aa f1 b;have H:=Aa i1 b;have y:=Aa j1 b;have A:=Aa k1 b;have B:=Aa l1 b;have C:=Aa m1 b;have D:=Aa n1 b;clear b))
   go_wp2;go_ret;exact⟨by rw[HX.out];exact congrArg (fun x=>aB (.string x)) (BK (by simp)),s1.out⟩
  have K:ks.length=3:=by
   rw[Av] at p;simp at p;exact k7
  obtain⟨g,i,O,rfl⟩:=UY K;obtain⟨f,n2,j0,v0,q0,s0,R,l0,m0,n0,o0,p0⟩:=u.cells 0 (by simp);obtain rfl:g=q0:=(by simpa using s0);obtain⟨b1,p2,k0,p1,q1,o1,T,x0,y0,z0,a1,c1⟩:=u.cells 1 (by simp);obtain rfl:i=q1:=(by simpa using o1);obtain⟨b2,e6,o3,a5,q2,z4,r2,r3,s3,v3,x3,y3⟩:=u.cells 2 (by simp);obtain rfl:O=q2:=(by simpa using z4);obtain⟨rfl⟩:a=some ⟨f,0,none⟩:=(by injection v0);obtain rfl:f=b1:=by injection p1 with h _ _;injection h with h;injection h with h _ _
  obtain rfl:f=b2:=by injection a5 with h _ _;injection h with h;injection h with h _ _
  rw[Av] at p
  (try rw[Bo] at p)
  (try rw[BU] at p)
  (try unfold Dm at p)
  (try unfold Ie at p)
  (try unfold CK at p)
  (try unfold Fg at p)
  simp at p;have u0:Bu N (d+1) g=true:=by clear hE hS hB q;simp_all
  have u1:i.kd=30/\Av N (d+1) i=true:=by clear hE hS hB q;simp_all
  have u2:O.kd=30/\Av N (d+1) O=true:=by clear hE hS hB q;simp_all
  obtain⟨V,P⟩:∃L,AD s g=L:=⟨_,rfl⟩;have v4:V.length<=8796093022208:=by rw[<- P];have:=Bs s q g;have:=Ax (t:=g) (ks:=[g,i,O]) (by simp);omega
  have y1:Hid (∀j,Below W.heap.size W j->Calls prog 55 #[.agg #[.int .i64 g.kd,.string ⟨g.nm.toArray⟩,.float .f64 g.x,j0,.complex .f64 g.z.1 g.z.2]] j fun e o=>e = .returned (.string ⟨V.toArray⟩)/\Below j.heap.size j o):=fun j m=>by rw[<- P];exact hE g (d+1) j0 j (aA (A9 (t:=g) (ks:=[g,i,O]) (by simp)) w) u0 (by have:=Ax (t:=g) (ks:=[g,i,O]) (by simp);omega) (R.bel m) (S.trans (m.mono S.size))
  obtain⟨L1,Q⟩:∃L,AX s i=L:=⟨_,rfl⟩;have x4:L1.length<=8796093022208:=by rw[<- Q];have:=BB s q i;have:=Ax (t:=i) (ks:=[g,i,O]) (by simp);omega
  have z1:Hid (∀j,Below W.heap.size W j->Calls prog 34 #[.agg #[.int .i64 i.kd,.string ⟨i.nm.toArray⟩,.float .f64 i.x,k0,.complex .f64 i.z.1 i.z.2]] j fun e o=>e = .returned (.string ⟨L1.toArray⟩)/\Below j.heap.size j o):=fun j m=>by rw[<- Q];exact hB i (d+1) k0 j (aA (A9 (t:=i) (ks:=[g,i,O]) (by simp)) w) u1.1 u1.2 (by have:=Ax (t:=i) (ks:=[g,i,O]) (by simp);omega) (T.bel m) (S.trans (m.mono S.size))
  obtain⟨L2,o2⟩:∃L,AX s O=L:=⟨_,rfl⟩;have c6:L2.length<=8796093022208:=by rw[<- o2];have:=BB s q O;have:=Ax (t:=O) (ks:=[g,i,O]) (by simp);omega
  have e5:Hid (∀j,Below W.heap.size W j->Calls prog 34 #[.agg #[.int .i64 O.kd,.string ⟨O.nm.toArray⟩,.float .f64 O.x,o3,.complex .f64 O.z.1 O.z.2]] j fun e o=>e = .returned (.string ⟨L2.toArray⟩)/\Below j.heap.size j o):=fun j m=>by rw[<- o2];exact hB O (d+1) o3 j (aA (A9 (t:=O) (ks:=[g,i,O]) (by simp)) w) u2.1 u2.2 (by have:=Ax (t:=O) (ks:=[g,i,O]) (by simp);omega) (r2.bel m) (S.trans (m.mono S.size))
  have d1:=Ab l0 (.cells #[.int .i64 31,.string ⟨nm.toArray⟩,.float .f64 x,.slice (some ⟨f,0,none⟩) 3 c,.complex .f64 z.1 z.2] 60);have r0:=Ab m0 (.cells #[.int .i64 31,.string ⟨nm.toArray⟩,.float .f64 x,.slice (some ⟨f,0,none⟩) 3 c,.complex .f64 z.1 z.2] 60);have e1:=Ab n0 (.cells #[.int .i64 31,.string ⟨nm.toArray⟩,.float .f64 x,.slice (some ⟨f,0,none⟩) 3 c,.complex .f64 z.1 z.2] 60);have f1:=Ab o0 (.cells #[.int .i64 31,.string ⟨nm.toArray⟩,.float .f64 x,.slice (some ⟨f,0,none⟩) 3 c,.complex .f64 z.1 z.2] 60);have i1:=Ab p0 (.cells #[.int .i64 31,.string ⟨nm.toArray⟩,.float .f64 x,.slice (some ⟨f,0,none⟩) 3 c,.complex .f64 z.1 z.2] 60)
  have j1:=Ab x0 (.cells #[.int .i64 31,.string ⟨nm.toArray⟩,.float .f64 x,.slice (some ⟨f,0,none⟩) 3 c,.complex .f64 z.1 z.2] 60);have k1:=Ab y0 (.cells #[.int .i64 31,.string ⟨nm.toArray⟩,.float .f64 x,.slice (some ⟨f,0,none⟩) 3 c,.complex .f64 z.1 z.2] 60);have l1:=Ab z0 (.cells #[.int .i64 31,.string ⟨nm.toArray⟩,.float .f64 x,.slice (some ⟨f,0,none⟩) 3 c,.complex .f64 z.1 z.2] 60);have m1:=Ab a1 (.cells #[.int .i64 31,.string ⟨nm.toArray⟩,.float .f64 x,.slice (some ⟨f,0,none⟩) 3 c,.complex .f64 z.1 z.2] 60);have n1:=Ab c1 (.cells #[.int .i64 31,.string ⟨nm.toArray⟩,.float .f64 x,.slice (some ⟨f,0,none⟩) 3 c,.complex .f64 z.1 z.2] 60)
  have z3:=Ab r3 (.cells #[.int .i64 31,.string ⟨nm.toArray⟩,.float .f64 x,.slice (some ⟨f,0,none⟩) 3 c,.complex .f64 z.1 z.2] 60);have a4:=Ab s3 (.cells #[.int .i64 31,.string ⟨nm.toArray⟩,.float .f64 x,.slice (some ⟨f,0,none⟩) 3 c,.complex .f64 z.1 z.2] 60);have b4:=Ab v3 (.cells #[.int .i64 31,.string ⟨nm.toArray⟩,.float .f64 x,.slice (some ⟨f,0,none⟩) 3 c,.complex .f64 z.1 z.2] 60);have c4:=Ab x3 (.cells #[.int .i64 31,.string ⟨nm.toArray⟩,.float .f64 x,.slice (some ⟨f,0,none⟩) 3 c,.complex .f64 z.1 z.2] 60);have d4:=Ab y3 (.cells #[.int .i64 31,.string ⟨nm.toArray⟩,.float .f64 x,.slice (some ⟨f,0,none⟩) 3 c,.complex .f64 z.1 z.2] 60)
  have HX:Hid (AX s (.mk 31 nm x z [g,i,O])=[105,102,32,40]++V++[41,32]++L1++[32,101,108,115,101,32]++L2):=by
   unfold Hid;rw[Bn,Au,B8];unfold Xg;simp[P,Q,o2]
  have g1:¬ 9223372036854775807<4+V.length:=(by omega);have g2:¬ 9223372036854775807<4+V.length+2:=(by omega);have g3:¬ 9223372036854775807<4+V.length+2+L1.length:=(by omega);have g4:¬ 9223372036854775807<4+V.length+2+L1.length+6:=(by omega);have g5:¬ 9223372036854775807<4+V.length+2+L1.length+6+L2.length:=(by omega);have l:Hid (Below W.heap.size W (W.alloc (.cells #[.int .i64 31,.string ⟨nm.toArray⟩,.float .f64 x,.slice (some ⟨f,0,none⟩) 3 c,.complex .f64 z.1 z.2] 60)).drew):=AC W _;clear s0 v0 R l0 m0 n0 o0 p0 o1 p1 T x0 y0 z0 a1 c1 z4 a5 r2 r3 s3 v3 x3 y3 P Q o2 u0 u1 u2 K p u hE hS hB q S w U
  show Calls prog 56 #[.agg #[.int .i64 31,.string ⟨nm.toArray⟩,.float .f64 x,.slice (some ⟨f,0,none⟩) 3 c,.complex .f64 z.1 z.2]] W _
  go_in
  go_wp2_with fail
  go_region_held3 (fun o=>o.cell? ⟨f,0,none⟩=some (.int .i64 g.kd)/\o.cell? ⟨f,1,none⟩=some (.string ⟨g.nm.toArray⟩)/\o.cell? ⟨f,2,none⟩=some (.float .f64 g.x)/\o.cell? ⟨f,3,none⟩=some (j0)/\o.cell? ⟨f,4,none⟩=some (.complex .f64 g.z.1 g.z.2)/\o.cell? ⟨f,5,none⟩=some (.int .i64 i.kd)/\o.cell? ⟨f,6,none⟩=some (.string ⟨i.nm.toArray⟩)/\o.cell? ⟨f,7,none⟩=some (.float .f64 i.x)/\o.cell? ⟨f,8,none⟩=some (k0)/\o.cell? ⟨f,9,none⟩=some (.complex .f64 i.z.1 i.z.2)/\o.cell? ⟨f,10,none⟩=some (.int .i64 O.kd)/\o.cell? ⟨f,11,none⟩=some (.string ⟨O.nm.toArray⟩)/\o.cell? ⟨f,12,none⟩=some (.float .f64 O.x)/\o.cell? ⟨f,13,none⟩=some (o3)/\o.cell? ⟨f,14,none⟩=some (.complex .f64 O.z.1 O.z.2)) (first | with_reducible exact⟨X,Y,Z,a0,c0,d0,e0,f0,g0,i0,c2,e2,i2,k2,m2⟩ | with_reducible exact⟨E,v,F,G,H,y,A,B,C,D,a2,d2,f2,j2,l2⟩ | with_reducible exact⟨d1,r0,e1,f1,i1,j1,k1,l1,m1,n1,z3,a4,b4,c4,d4⟩)
   (first | (go_at_call 34;have hz:=r;clear hz;refine(z1.out _ r.out).mono ?_;rintro e w2 ⟨rfl,b⟩;have s1:=aC (r.out.trans (b.mono r.out.size));have X:=Aa E b;have Y:=Aa v b;have Z:=Aa F b;have a0:=Aa G b;have c0:=Aa H b;have d0:=Aa y b;have e0:=Aa A b;have f0:=Aa B b;have g0:=Aa C b;have i0:=Aa D b;have c2:=Aa a2 b;have e2:=Aa d2 b;have i2:=Aa f2 b;have k2:=Aa j2 b;have m2:=Aa l2 b;clear b) | (go_at_call 55;have hz:=l;clear hz;refine(y1.out _ l.out).mono ?_;rintro e w1 ⟨rfl,b⟩;have r:=aC (l.out.trans (b.mono l.out.size));have E:=Aa d1 b;have v:=Aa r0 b;have F:=Aa e1 b;have G:=Aa f1 b;have H:=Aa i1 b;have y:=Aa j1 b;have A:=Aa k1 b;have B:=Aa l1 b;have C:=Aa m1 b;have D:=Aa n1 b;have a2:=Aa z3 b;have d2:=Aa a4 b;have f2:=Aa b4 b;have j2:=Aa c4 b;have l2:=Aa d4 b;clear b))
  go_wp2_with (go_at_call 34;have hz:=s1;clear hz;refine(e5.out _ s1.out).mono ?_;rintro e w3 ⟨rfl,b⟩;have p3:=aC (s1.out.trans (b.mono s1.out.size));have v2:=Aa X b;have x2:=Aa Y b;have y2:=Aa Z b;have z2:=Aa a0 b;have a3:=Aa c0 b;have c3:=Aa d0 b;have d3:=Aa e0 b;have e3:=Aa f0 b;have f3:=Aa g0 b;have h3:=Aa i0 b;have i3:=Aa c2 b;have j3:=Aa e2 b;have k3:=Aa i2 b;have l3:=Aa k2 b;have m3:=Aa m2 b;clear b)
  go_ret;exact⟨by rw[HX.out];exact congrArg (fun x=>aB (.string x)) (BK (by simp)),p3.out⟩
 by_cases s6:k=32
 ·subst s6
  clear I hk r1 v1
  have K:ks.length=2:=by
   rw[Av] at p;simp at p;exact p.2.2.2.1
  obtain⟨g,i,rfl⟩:=Hu K;obtain⟨f,n2,j0,v0,q0,s0,R,l0,m0,n0,o0,p0⟩:=u.cells 0 (by simp);obtain rfl:g=q0:=(by simpa using s0);obtain⟨b1,p2,k0,p1,q1,o1,T,x0,y0,z0,a1,c1⟩:=u.cells 1 (by simp);obtain rfl:i=q1:=(by simpa using o1);obtain⟨rfl⟩:a=some ⟨f,0,none⟩:=(by injection v0);obtain rfl:f=b1:=by injection p1 with h _ _;injection h with h;injection h with h _ _
  rw[Av] at p
  (try rw[Bo] at p)
  (try rw[BU] at p)
  (try unfold Dm at p)
  (try unfold Ie at p)
  (try unfold CK at p)
  (try unfold Fg at p)
  simp at p;have u0:Bu N (d+1) g=true:=by clear hE hS hB q;simp_all
  have u1:i.kd=30/\Av N (d+1) i=true:=by clear hE hS hB q;simp_all
  obtain⟨V,P⟩:∃L,AD s g=L:=⟨_,rfl⟩;have v4:V.length<=8796093022208:=by rw[<- P];have:=Bs s q g;have:=Ax (t:=g) (ks:=[g,i]) (by simp);omega
  have y1:Hid (∀j,Below W.heap.size W j->Calls prog 55 #[.agg #[.int .i64 g.kd,.string ⟨g.nm.toArray⟩,.float .f64 g.x,j0,.complex .f64 g.z.1 g.z.2]] j fun e o=>e = .returned (.string ⟨V.toArray⟩)/\Below j.heap.size j o):=fun j m=>by rw[<- P];exact hE g (d+1) j0 j (aA (A9 (t:=g) (ks:=[g,i]) (by simp)) w) u0 (by have:=Ax (t:=g) (ks:=[g,i]) (by simp);omega) (R.bel m) (S.trans (m.mono S.size))
  obtain⟨L1,Q⟩:∃L,AX s i=L:=⟨_,rfl⟩;have x4:L1.length<=8796093022208:=by rw[<- Q];have:=BB s q i;have:=Ax (t:=i) (ks:=[g,i]) (by simp);omega
  have z1:Hid (∀j,Below W.heap.size W j->Calls prog 34 #[.agg #[.int .i64 i.kd,.string ⟨i.nm.toArray⟩,.float .f64 i.x,k0,.complex .f64 i.z.1 i.z.2]] j fun e o=>e = .returned (.string ⟨L1.toArray⟩)/\Below j.heap.size j o):=fun j m=>by rw[<- Q];exact hB i (d+1) k0 j (aA (A9 (t:=i) (ks:=[g,i]) (by simp)) w) u1.1 u1.2 (by have:=Ax (t:=i) (ks:=[g,i]) (by simp);omega) (T.bel m) (S.trans (m.mono S.size))
  have d1:=Ab l0 (.cells #[.int .i64 32,.string ⟨nm.toArray⟩,.float .f64 x,.slice (some ⟨f,0,none⟩) 2 c,.complex .f64 z.1 z.2] 60);have r0:=Ab m0 (.cells #[.int .i64 32,.string ⟨nm.toArray⟩,.float .f64 x,.slice (some ⟨f,0,none⟩) 2 c,.complex .f64 z.1 z.2] 60);have e1:=Ab n0 (.cells #[.int .i64 32,.string ⟨nm.toArray⟩,.float .f64 x,.slice (some ⟨f,0,none⟩) 2 c,.complex .f64 z.1 z.2] 60);have f1:=Ab o0 (.cells #[.int .i64 32,.string ⟨nm.toArray⟩,.float .f64 x,.slice (some ⟨f,0,none⟩) 2 c,.complex .f64 z.1 z.2] 60);have i1:=Ab p0 (.cells #[.int .i64 32,.string ⟨nm.toArray⟩,.float .f64 x,.slice (some ⟨f,0,none⟩) 2 c,.complex .f64 z.1 z.2] 60)
  have j1:=Ab x0 (.cells #[.int .i64 32,.string ⟨nm.toArray⟩,.float .f64 x,.slice (some ⟨f,0,none⟩) 2 c,.complex .f64 z.1 z.2] 60);have k1:=Ab y0 (.cells #[.int .i64 32,.string ⟨nm.toArray⟩,.float .f64 x,.slice (some ⟨f,0,none⟩) 2 c,.complex .f64 z.1 z.2] 60);have l1:=Ab z0 (.cells #[.int .i64 32,.string ⟨nm.toArray⟩,.float .f64 x,.slice (some ⟨f,0,none⟩) 2 c,.complex .f64 z.1 z.2] 60);have m1:=Ab a1 (.cells #[.int .i64 32,.string ⟨nm.toArray⟩,.float .f64 x,.slice (some ⟨f,0,none⟩) 2 c,.complex .f64 z.1 z.2] 60);have n1:=Ab c1 (.cells #[.int .i64 32,.string ⟨nm.toArray⟩,.float .f64 x,.slice (some ⟨f,0,none⟩) 2 c,.complex .f64 z.1 z.2] 60)
  have HX:Hid (AX s (.mk 32 nm x z [g,i])=[119,104,105,108,101,32,40]++V++[41,32]++L1):=by
   unfold Hid;rw[Bn,Au,B8];unfold Xg;simp[P,Q]
  have g1:¬ 9223372036854775807<7+V.length:=(by omega);have g2:¬ 9223372036854775807<7+V.length+2:=(by omega);have g3:¬ 9223372036854775807<7+V.length+2+L1.length:=(by omega);have l:Hid (Below W.heap.size W (W.alloc (.cells #[.int .i64 32,.string ⟨nm.toArray⟩,.float .f64 x,.slice (some ⟨f,0,none⟩) 2 c,.complex .f64 z.1 z.2] 60)).drew):=AC W _;clear s0 v0 R l0 m0 n0 o0 p0 o1 p1 T x0 y0 z0 a1 c1 P Q u0 u1 K p u hE hS hB q S w U;show Calls prog 56 #[.agg #[.int .i64 32,.string ⟨nm.toArray⟩,.float .f64 x,.slice (some ⟨f,0,none⟩) 2 c,.complex .f64 z.1 z.2]] W _
  go_in
  go_wp2_with fail
  go_region_held3 (fun o=>o.cell? ⟨f,0,none⟩=some (.int .i64 g.kd)/\o.cell? ⟨f,1,none⟩=some (.string ⟨g.nm.toArray⟩)/\o.cell? ⟨f,2,none⟩=some (.float .f64 g.x)/\o.cell? ⟨f,3,none⟩=some (j0)/\o.cell? ⟨f,4,none⟩=some (.complex .f64 g.z.1 g.z.2)/\o.cell? ⟨f,5,none⟩=some (.int .i64 i.kd)/\o.cell? ⟨f,6,none⟩=some (.string ⟨i.nm.toArray⟩)/\o.cell? ⟨f,7,none⟩=some (.float .f64 i.x)/\o.cell? ⟨f,8,none⟩=some (k0)/\o.cell? ⟨f,9,none⟩=some (.complex .f64 i.z.1 i.z.2)) (first | with_reducible exact⟨X,Y,Z,a0,c0,d0,e0,f0,g0,i0⟩ | with_reducible exact⟨E,v,F,G,H,y,A,B,C,D⟩ | with_reducible exact⟨d1,r0,e1,f1,i1,j1,k1,l1,m1,n1⟩)
   (first | (go_at_call 34;have hz:=r;clear hz;refine(z1.out _ r.out).mono ?_;rintro e w2 ⟨rfl,b⟩;have s1:=aC (r.out.trans (b.mono r.out.size));have X:=Aa E b;have Y:=Aa v b;have Z:=Aa F b;have a0:=Aa G b;have c0:=Aa H b;have d0:=Aa y b;have e0:=Aa A b;have f0:=Aa B b;have g0:=Aa C b;have i0:=Aa D b;clear b) | (go_at_call 55;have hz:=l;clear hz;refine(y1.out _ l.out).mono ?_;rintro e w1 ⟨rfl,b⟩;have r:=aC (l.out.trans (b.mono l.out.size));have E:=Aa d1 b;have v:=Aa r0 b;have F:=Aa e1 b;have G:=Aa f1 b;have H:=Aa i1 b;have y:=Aa j1 b;have A:=Aa k1 b;have B:=Aa l1 b;have C:=Aa m1 b;have D:=Aa n1 b;clear b))
  go_wp2;go_ret;exact⟨by rw[HX.out];exact congrArg (fun x=>aB (.string x)) (BK (by simp)),s1.out⟩
 by_cases t6:k=33
 ·subst t6
  clear I hk r1 v1
  have K:ks.length=2:=by
   rw[Av] at p;simp at p;exact p.2.2.2.1
  obtain⟨g,i,rfl⟩:=Hu K;obtain⟨f,n2,j0,v0,q0,s0,R,l0,m0,n0,o0,p0⟩:=u.cells 0 (by simp);obtain rfl:g=q0:=(by simpa using s0);obtain⟨b1,p2,k0,p1,q1,o1,T,x0,y0,z0,a1,c1⟩:=u.cells 1 (by simp);obtain rfl:i=q1:=(by simpa using o1);obtain⟨rfl⟩:a=some ⟨f,0,none⟩:=(by injection v0);obtain rfl:f=b1:=by injection p1 with h _ _;injection h with h;injection h with h _ _
  rw[Av] at p
  (try rw[Bo] at p)
  (try rw[BU] at p)
  (try unfold Dm at p)
  (try unfold Ie at p)
  (try unfold CK at p)
  (try unfold Fg at p)
  simp at p;have u0:g.kd=30/\Av N (d+1) g=true:=by clear hE hS hB q;simp_all
  have u1:Bu N (d+1) i=true:=by clear hE hS hB q;simp_all
  obtain⟨V,P⟩:∃L,AX s g=L:=⟨_,rfl⟩;have v4:V.length<=8796093022208:=by rw[<- P];have:=BB s q g;have:=Ax (t:=g) (ks:=[g,i]) (by simp);omega
  have y1:Hid (∀j,Below W.heap.size W j->Calls prog 34 #[.agg #[.int .i64 g.kd,.string ⟨g.nm.toArray⟩,.float .f64 g.x,j0,.complex .f64 g.z.1 g.z.2]] j fun e o=>e = .returned (.string ⟨V.toArray⟩)/\Below j.heap.size j o):=fun j m=>by rw[<- P];exact hB g (d+1) j0 j (aA (A9 (t:=g) (ks:=[g,i]) (by simp)) w) u0.1 u0.2 (by have:=Ax (t:=g) (ks:=[g,i]) (by simp);omega) (R.bel m) (S.trans (m.mono S.size))
  obtain⟨L1,Q⟩:∃L,AD s i=L:=⟨_,rfl⟩;have x4:L1.length<=8796093022208:=by rw[<- Q];have:=Bs s q i;have:=Ax (t:=i) (ks:=[g,i]) (by simp);omega
  have z1:Hid (∀j,Below W.heap.size W j->Calls prog 55 #[.agg #[.int .i64 i.kd,.string ⟨i.nm.toArray⟩,.float .f64 i.x,k0,.complex .f64 i.z.1 i.z.2]] j fun e o=>e = .returned (.string ⟨L1.toArray⟩)/\Below j.heap.size j o):=fun j m=>by rw[<- Q];exact hE i (d+1) k0 j (aA (A9 (t:=i) (ks:=[g,i]) (by simp)) w) u1 (by have:=Ax (t:=i) (ks:=[g,i]) (by simp);omega) (T.bel m) (S.trans (m.mono S.size))
  have d1:=Ab l0 (.cells #[.int .i64 33,.string ⟨nm.toArray⟩,.float .f64 x,.slice (some ⟨f,0,none⟩) 2 c,.complex .f64 z.1 z.2] 60);have r0:=Ab m0 (.cells #[.int .i64 33,.string ⟨nm.toArray⟩,.float .f64 x,.slice (some ⟨f,0,none⟩) 2 c,.complex .f64 z.1 z.2] 60);have e1:=Ab n0 (.cells #[.int .i64 33,.string ⟨nm.toArray⟩,.float .f64 x,.slice (some ⟨f,0,none⟩) 2 c,.complex .f64 z.1 z.2] 60);have f1:=Ab o0 (.cells #[.int .i64 33,.string ⟨nm.toArray⟩,.float .f64 x,.slice (some ⟨f,0,none⟩) 2 c,.complex .f64 z.1 z.2] 60);have i1:=Ab p0 (.cells #[.int .i64 33,.string ⟨nm.toArray⟩,.float .f64 x,.slice (some ⟨f,0,none⟩) 2 c,.complex .f64 z.1 z.2] 60)
  have j1:=Ab x0 (.cells #[.int .i64 33,.string ⟨nm.toArray⟩,.float .f64 x,.slice (some ⟨f,0,none⟩) 2 c,.complex .f64 z.1 z.2] 60);have k1:=Ab y0 (.cells #[.int .i64 33,.string ⟨nm.toArray⟩,.float .f64 x,.slice (some ⟨f,0,none⟩) 2 c,.complex .f64 z.1 z.2] 60);have l1:=Ab z0 (.cells #[.int .i64 33,.string ⟨nm.toArray⟩,.float .f64 x,.slice (some ⟨f,0,none⟩) 2 c,.complex .f64 z.1 z.2] 60);have m1:=Ab a1 (.cells #[.int .i64 33,.string ⟨nm.toArray⟩,.float .f64 x,.slice (some ⟨f,0,none⟩) 2 c,.complex .f64 z.1 z.2] 60);have n1:=Ab c1 (.cells #[.int .i64 33,.string ⟨nm.toArray⟩,.float .f64 x,.slice (some ⟨f,0,none⟩) 2 c,.complex .f64 z.1 z.2] 60)
  have HX:Hid (AX s (.mk 33 nm x z [g,i])=[100,111,32]++V++[32,119,104,105,108,101,32,40]++L1++[41]):=by
   unfold Hid;rw[Bn,Au,B8];unfold Xg;simp[P,Q]
  have g1:¬ 9223372036854775807<3+V.length:=(by omega);have g2:¬ 9223372036854775807<3+V.length+8:=(by omega);have g3:¬ 9223372036854775807<3+V.length+8+L1.length:=(by omega);have g4:¬ 9223372036854775807<3+V.length+8+L1.length+1:=(by omega);have l:Hid (Below W.heap.size W (W.alloc (.cells #[.int .i64 33,.string ⟨nm.toArray⟩,.float .f64 x,.slice (some ⟨f,0,none⟩) 2 c,.complex .f64 z.1 z.2] 60)).drew):=AC W _;clear s0 v0 R l0 m0 n0 o0 p0 o1 p1 T x0 y0 z0 a1 c1 P Q u0 u1 K p u hE hS hB q S w U;show Calls prog 56 #[.agg #[.int .i64 33,.string ⟨nm.toArray⟩,.float .f64 x,.slice (some ⟨f,0,none⟩) 2 c,.complex .f64 z.1 z.2]] W _
  go_in
  go_wp2_with fail
  go_region_held3 (fun o=>o.cell? ⟨f,0,none⟩=some (.int .i64 g.kd)/\o.cell? ⟨f,1,none⟩=some (.string ⟨g.nm.toArray⟩)/\o.cell? ⟨f,2,none⟩=some (.float .f64 g.x)/\o.cell? ⟨f,3,none⟩=some (j0)/\o.cell? ⟨f,4,none⟩=some (.complex .f64 g.z.1 g.z.2)/\o.cell? ⟨f,5,none⟩=some (.int .i64 i.kd)/\o.cell? ⟨f,6,none⟩=some (.string ⟨i.nm.toArray⟩)/\o.cell? ⟨f,7,none⟩=some (.float .f64 i.x)/\o.cell? ⟨f,8,none⟩=some (k0)/\o.cell? ⟨f,9,none⟩=some (.complex .f64 i.z.1 i.z.2)) (first | with_reducible exact⟨X,Y,Z,a0,c0,d0,e0,f0,g0,i0⟩ | with_reducible exact⟨E,v,F,G,H,y,A,B,C,D⟩ | with_reducible exact⟨d1,r0,e1,f1,i1,j1,k1,l1,m1,n1⟩)
   (first | (go_at_call 55;have hz:=r;clear hz;refine(z1.out _ r.out).mono ?_;rintro e w2 ⟨rfl,b⟩;have s1:=aC (r.out.trans (b.mono r.out.size));have X:=Aa E b;have Y:=Aa v b;have Z:=Aa F b;have a0:=Aa G b;have c0:=Aa H b;have d0:=Aa y b;have e0:=Aa A b;have f0:=Aa B b;have g0:=Aa C b;have i0:=Aa D b;clear b) | (go_at_call 34;have hz:=l;clear hz;refine(y1.out _ l.out).mono ?_;rintro e w1 ⟨rfl,b⟩;have r:=aC (l.out.trans (b.mono l.out.size));have E:=Aa d1 b;have v:=Aa r0 b;have F:=Aa e1 b;have G:=Aa f1 b;have H:=Aa i1 b;have y:=Aa j1 b;have A:=Aa k1 b;have B:=Aa l1 b;have C:=Aa m1 b;have D:=Aa n1 b;clear b))
  go_wp2;go_ret;exact⟨by rw[HX.out];exact congrArg (fun x=>aB (.string x)) (BK (by simp)),s1.out⟩
 by_cases v6:k=34
 ·subst v6
  clear I hk r1 v1
  have K:ks.length=4:=by
   rw[Av] at p;simp at p;exact p.2.2.2.1
  obtain⟨g,i,O,t3,rfl⟩:=UZ K;obtain⟨f,n2,j0,v0,q0,s0,R,l0,m0,n0,o0,p0⟩:=u.cells 0 (by simp);obtain rfl:g=q0:=(by simpa using s0);obtain⟨b1,p2,k0,p1,q1,o1,T,x0,y0,z0,a1,c1⟩:=u.cells 1 (by simp);obtain rfl:i=q1:=(by simpa using o1);obtain⟨b2,e6,o3,a5,q2,z4,r2,r3,s3,v3,x3,y3⟩:=u.cells 2 (by simp);obtain rfl:O=q2:=(by simpa using z4);obtain⟨b3,r7,d6,m7,q3,l7,d5,f6,h6,i6,j6,k6⟩:=u.cells 3 (by simp);obtain rfl:t3=q3:=(by simpa using l7);obtain⟨rfl⟩:a=some ⟨f,0,none⟩:=(by injection v0);obtain rfl:f=b1:=by injection p1 with h _ _;injection h with h;injection h with h _ _
  obtain rfl:f=b2:=by injection a5 with h _ _;injection h with h;injection h with h _ _
  obtain rfl:f=b3:=by injection m7 with h _ _;injection h with h;injection h with h _ _
  rw[Av] at p
  (try rw[Bo] at p)
  (try rw[BU] at p)
  (try unfold Dm at p)
  (try unfold Ie at p)
  (try unfold CK at p)
  (try unfold Fg at p)
  simp at p
  have u0:Av N (d+1) g=true\/g.kd=0:=by
   clear hE hS hB q;rcases p.2.2.2.1 with h | h
   ·exact .inr h.1
   exact .inl h.2
  have u1:Bu N (d+1) i=true\/i.kd=0:=by
   clear hE hS hB q;rcases p.2.2.2.2.1 with h | h
   ·exact .inr h.1
   exact .inl h
  have u2:Av N (d+1) O=true\/O.kd=0:=by
   clear hE hS hB q;rcases p.2.2.2.2.2.1 with h | h
   ·exact .inr h.1
   exact .inl h.2
  have u3:t3.kd=30/\Av N (d+1) t3=true:=by clear hE hS hB q;simp_all
  obtain⟨V,P⟩:∃L,AX s g=L:=⟨_,rfl⟩;have v4:V.length<=8796093022208:=by rw[<- P];have:=BB s q g;have:=Ax (t:=g) (ks:=[g,i,O,t3]) (by simp);omega
  have y1:Hid (∀j,Below W.heap.size W j->Calls prog 56 #[.agg #[.int .i64 g.kd,.string ⟨g.nm.toArray⟩,.float .f64 g.x,j0,.complex .f64 g.z.1 g.z.2]] j fun e o=>e = .returned (.string ⟨V.toArray⟩)/\Below j.heap.size j o):=fun j m=>by rw[<- P];exact hS g (d+1) j0 j (aA (A9 (t:=g) (ks:=[g,i,O,t3]) (by simp)) w) u0 (by have:=Ax (t:=g) (ks:=[g,i,O,t3]) (by simp);omega) (R.bel m) (S.trans (m.mono S.size))
  obtain⟨L1,Q⟩:∃L,AD s i=L:=⟨_,rfl⟩;have x4:L1.length<=8796093022208:=by rw[<- Q];have:=Bs s q i;have:=Ax (t:=i) (ks:=[g,i,O,t3]) (by simp);omega
  have z1:Hid (∀j,Below W.heap.size W j->Calls prog 55 #[.agg #[.int .i64 i.kd,.string ⟨i.nm.toArray⟩,.float .f64 i.x,k0,.complex .f64 i.z.1 i.z.2]] j fun e o=>e = .returned (.string ⟨L1.toArray⟩)/\Below j.heap.size j o):=fun j m=>by
   rw[<- Q];rcases u1 with h | h
   ·exact hE i (d+1) k0 j (aA (A9 (t:=i) (ks:=[g,i,O,t3]) (by simp)) w) h (by have:=Ax (t:=i) (ks:=[g,i,O,t3]) (by simp);omega) (T.bel m) (S.trans (m.mono S.size))
   obtain⟨aa,cc,rfl⟩:=T.slice;exact(Px i h _ _ _ j).mono fun e o ⟨h1,h2⟩=>⟨by rw[h1,TH s i h],h2⟩
  obtain⟨L2,o2⟩:∃L,AX s O=L:=⟨_,rfl⟩;have c6:L2.length<=8796093022208:=by rw[<- o2];have:=BB s q O;have:=Ax (t:=O) (ks:=[g,i,O,t3]) (by simp);omega
  have e5:Hid (∀j,Below W.heap.size W j->Calls prog 56 #[.agg #[.int .i64 O.kd,.string ⟨O.nm.toArray⟩,.float .f64 O.x,o3,.complex .f64 O.z.1 O.z.2]] j fun e o=>e = .returned (.string ⟨L2.toArray⟩)/\Below j.heap.size j o):=fun j m=>by rw[<- o2];exact hS O (d+1) o3 j (aA (A9 (t:=O) (ks:=[g,i,O,t3]) (by simp)) w) u2 (by have:=Ax (t:=O) (ks:=[g,i,O,t3]) (by simp);omega) (r2.bel m) (S.trans (m.mono S.size))
  obtain⟨L3,b5⟩:∃L,AX s t3=L:=⟨_,rfl⟩;have k7:L3.length<=8796093022208:=by rw[<- b5];have:=BB s q t3;have:=Ax (t:=t3) (ks:=[g,i,O,t3]) (by simp);omega
  have o7:Hid (∀j,Below W.heap.size W j->Calls prog 34 #[.agg #[.int .i64 t3.kd,.string ⟨t3.nm.toArray⟩,.float .f64 t3.x,d6,.complex .f64 t3.z.1 t3.z.2]] j fun e o=>e = .returned (.string ⟨L3.toArray⟩)/\Below j.heap.size j o):=fun j m=>by rw[<- b5];exact hB t3 (d+1) d6 j (aA (A9 (t:=t3) (ks:=[g,i,O,t3]) (by simp)) w) u3.1 u3.2 (by have:=Ax (t:=t3) (ks:=[g,i,O,t3]) (by simp);omega) (d5.bel m) (S.trans (m.mono S.size))
  have d1:=Ab l0 (.cells #[.int .i64 34,.string ⟨nm.toArray⟩,.float .f64 x,.slice (some ⟨f,0,none⟩) 4 c,.complex .f64 z.1 z.2] 60);have r0:=Ab m0 (.cells #[.int .i64 34,.string ⟨nm.toArray⟩,.float .f64 x,.slice (some ⟨f,0,none⟩) 4 c,.complex .f64 z.1 z.2] 60);have e1:=Ab n0 (.cells #[.int .i64 34,.string ⟨nm.toArray⟩,.float .f64 x,.slice (some ⟨f,0,none⟩) 4 c,.complex .f64 z.1 z.2] 60);have f1:=Ab o0 (.cells #[.int .i64 34,.string ⟨nm.toArray⟩,.float .f64 x,.slice (some ⟨f,0,none⟩) 4 c,.complex .f64 z.1 z.2] 60);have i1:=Ab p0 (.cells #[.int .i64 34,.string ⟨nm.toArray⟩,.float .f64 x,.slice (some ⟨f,0,none⟩) 4 c,.complex .f64 z.1 z.2] 60)
  have j1:=Ab x0 (.cells #[.int .i64 34,.string ⟨nm.toArray⟩,.float .f64 x,.slice (some ⟨f,0,none⟩) 4 c,.complex .f64 z.1 z.2] 60);have k1:=Ab y0 (.cells #[.int .i64 34,.string ⟨nm.toArray⟩,.float .f64 x,.slice (some ⟨f,0,none⟩) 4 c,.complex .f64 z.1 z.2] 60);have l1:=Ab z0 (.cells #[.int .i64 34,.string ⟨nm.toArray⟩,.float .f64 x,.slice (some ⟨f,0,none⟩) 4 c,.complex .f64 z.1 z.2] 60);have m1:=Ab a1 (.cells #[.int .i64 34,.string ⟨nm.toArray⟩,.float .f64 x,.slice (some ⟨f,0,none⟩) 4 c,.complex .f64 z.1 z.2] 60);have n1:=Ab c1 (.cells #[.int .i64 34,.string ⟨nm.toArray⟩,.float .f64 x,.slice (some ⟨f,0,none⟩) 4 c,.complex .f64 z.1 z.2] 60)
  have z3:=Ab r3 (.cells #[.int .i64 34,.string ⟨nm.toArray⟩,.float .f64 x,.slice (some ⟨f,0,none⟩) 4 c,.complex .f64 z.1 z.2] 60);have a4:=Ab s3 (.cells #[.int .i64 34,.string ⟨nm.toArray⟩,.float .f64 x,.slice (some ⟨f,0,none⟩) 4 c,.complex .f64 z.1 z.2] 60);have b4:=Ab v3 (.cells #[.int .i64 34,.string ⟨nm.toArray⟩,.float .f64 x,.slice (some ⟨f,0,none⟩) 4 c,.complex .f64 z.1 z.2] 60);have c4:=Ab x3 (.cells #[.int .i64 34,.string ⟨nm.toArray⟩,.float .f64 x,.slice (some ⟨f,0,none⟩) 4 c,.complex .f64 z.1 z.2] 60);have d4:=Ab y3 (.cells #[.int .i64 34,.string ⟨nm.toArray⟩,.float .f64 x,.slice (some ⟨f,0,none⟩) 4 c,.complex .f64 z.1 z.2] 60)
  have l6:=Ab f6 (.cells #[.int .i64 34,.string ⟨nm.toArray⟩,.float .f64 x,.slice (some ⟨f,0,none⟩) 4 c,.complex .f64 z.1 z.2] 60);have m6:=Ab h6 (.cells #[.int .i64 34,.string ⟨nm.toArray⟩,.float .f64 x,.slice (some ⟨f,0,none⟩) 4 c,.complex .f64 z.1 z.2] 60);have n6:=Ab i6 (.cells #[.int .i64 34,.string ⟨nm.toArray⟩,.float .f64 x,.slice (some ⟨f,0,none⟩) 4 c,.complex .f64 z.1 z.2] 60);have o6:=Ab j6 (.cells #[.int .i64 34,.string ⟨nm.toArray⟩,.float .f64 x,.slice (some ⟨f,0,none⟩) 4 c,.complex .f64 z.1 z.2] 60);have p6:=Ab k6 (.cells #[.int .i64 34,.string ⟨nm.toArray⟩,.float .f64 x,.slice (some ⟨f,0,none⟩) 4 c,.complex .f64 z.1 z.2] 60)
  have HX:Hid (AX s (.mk 34 nm x z [g,i,O,t3])=[102,111,114,32,40]++V++[59,32]++L1++[59,32]++L2++[41,32]++L3):=by
   unfold Hid;rw[Bn,Au,B8];unfold Xg;simp[P,Q,o2,b5]
  have g1:¬ 9223372036854775807<5+V.length:=(by omega);have g2:¬ 9223372036854775807<5+V.length+2:=(by omega);have g3:¬ 9223372036854775807<5+V.length+2+L1.length:=(by omega);have g4:¬ 9223372036854775807<5+V.length+2+L1.length+2:=(by omega);have g5:¬ 9223372036854775807<5+V.length+2+L1.length+2+L2.length:=(by omega);have g6:¬ 9223372036854775807<5+V.length+2+L1.length+2+L2.length+2:=(by omega);have g7:¬ 9223372036854775807<5+V.length+2+L1.length+2+L2.length+2+L3.length:=(by omega);have l:Hid (Below W.heap.size W (W.alloc (.cells #[.int .i64 34,.string ⟨nm.toArray⟩,.float .f64 x,.slice (some ⟨f,0,none⟩) 4 c,.complex .f64 z.1 z.2] 60)).drew):=AC W _
  clear s0 v0 R l0 m0 n0 o0 p0 o1 p1 T x0 y0 z0 a1 c1 z4 a5 r2 r3 s3 v3 x3 y3 l7 m7 d5 f6 h6 i6 j6 k6 P Q o2 b5 u0 u1 u2 u3 K p u hE hS hB q S w U;show Calls prog 56 #[.agg #[.int .i64 34,.string ⟨nm.toArray⟩,.float .f64 x,.slice (some ⟨f,0,none⟩) 4 c,.complex .f64 z.1 z.2]] W _
  go_in
  go_wp2_with fail
  go_region_held3 (fun o=>o.cell? ⟨f,0,none⟩=some (.int .i64 g.kd)/\o.cell? ⟨f,1,none⟩=some (.string ⟨g.nm.toArray⟩)/\o.cell? ⟨f,2,none⟩=some (.float .f64 g.x)/\o.cell? ⟨f,3,none⟩=some (j0)/\o.cell? ⟨f,4,none⟩=some (.complex .f64 g.z.1 g.z.2)/\o.cell? ⟨f,5,none⟩=some (.int .i64 i.kd)/\o.cell? ⟨f,6,none⟩=some (.string ⟨i.nm.toArray⟩)/\o.cell? ⟨f,7,none⟩=some (.float .f64 i.x)/\o.cell? ⟨f,8,none⟩=some (k0)/\o.cell? ⟨f,9,none⟩=some (.complex .f64 i.z.1 i.z.2)/\o.cell? ⟨f,10,none⟩=some (.int .i64 O.kd)/\o.cell? ⟨f,11,none⟩=some (.string ⟨O.nm.toArray⟩)/\o.cell? ⟨f,12,none⟩=some (.float .f64 O.x)/\o.cell? ⟨f,13,none⟩=some (o3)/\o.cell? ⟨f,14,none⟩=some (.complex .f64 O.z.1 O.z.2)/\o.cell? ⟨f,15,none⟩=some (.int .i64 t3.kd)/\o.cell? ⟨f,16,none⟩=some (.string ⟨t3.nm.toArray⟩)/\o.cell? ⟨f,17,none⟩=some (.float .f64 t3.x)/\o.cell? ⟨f,18,none⟩=some (d6)/\o.cell? ⟨f,19,none⟩=some (.complex .f64 t3.z.1 t3.z.2)) (first | with_reducible exact⟨h5,i5,j5,k5,l5,m5,n5,o5,p5,q5,r5,s5,t5,v5,w5,x5,y5,z5,a6,b6⟩ | with_reducible exact⟨v2,x2,y2,z2,a3,c3,d3,e3,f3,h3,i3,j3,k3,l3,m3,h4,k4,n4,q4,t4⟩ | with_reducible exact⟨X,Y,Z,a0,c0,d0,e0,f0,g0,i0,c2,e2,i2,k2,m2,f4,j4,m4,p4,s4⟩ | with_reducible exact⟨E,v,F,G,H,y,A,B,C,D,a2,d2,f2,j2,l2,e4,i4,l4,o4,r4⟩ | with_reducible exact⟨d1,r0,e1,f1,i1,j1,k1,l1,m1,n1,z3,a4,b4,c4,d4,l6,m6,n6,o6,p6⟩)
   (first | (go_at_call 34;have hz:=p3;clear hz;refine(o7.out _ p3.out).mono ?_;rintro e w4 ⟨rfl,b⟩;have n7:=aC (p3.out.trans (b.mono p3.out.size));have h5:=Aa v2 b;have i5:=Aa x2 b;have j5:=Aa y2 b;have k5:=Aa z2 b;have l5:=Aa a3 b;have m5:=Aa c3 b;have n5:=Aa d3 b;have o5:=Aa e3 b;have p5:=Aa f3 b;have q5:=Aa h3 b;have r5:=Aa i3 b;have s5:=Aa j3 b;have t5:=Aa k3 b;have v5:=Aa l3 b;have w5:=Aa m3 b;have x5:=Aa h4 b;have y5:=Aa k4 b;have z5:=Aa n4 b;have a6:=Aa q4 b;have b6:=Aa t4 b;clear b) | (go_at_call 56;have hz:=s1;clear hz;refine(e5.out _ s1.out).mono ?_;rintro e w3 ⟨rfl,b⟩;have p3:=aC (s1.out.trans (b.mono s1.out.size));have v2:=Aa X b;have x2:=Aa Y b;have y2:=Aa Z b;have z2:=Aa a0 b;have a3:=Aa c0 b;have c3:=Aa d0 b;have d3:=Aa e0 b;have e3:=Aa f0 b;have f3:=Aa g0 b;have h3:=Aa i0 b;have i3:=Aa c2 b;have j3:=Aa e2 b;have k3:=Aa i2 b;have l3:=Aa k2 b;have m3:=Aa m2 b;have h4:=Aa f4 b;have k4:=Aa j4 b;have n4:=Aa m4 b;have q4:=Aa p4 b;have t4:=Aa s4 b;clear b) | (go_at_call 55;have hz:=r;clear hz;refine(z1.out _ r.out).mono ?_;rintro e w2 ⟨rfl,b⟩;have s1:=aC (r.out.trans (b.mono r.out.size));have X:=Aa E b;have Y:=Aa v b;have Z:=Aa F b;have a0:=Aa G b;have c0:=Aa H b;have d0:=Aa y b;have e0:=Aa A b;have f0:=Aa B b;have g0:=Aa C b;have i0:=Aa D b;have c2:=Aa a2 b;have e2:=Aa d2 b;have i2:=Aa f2 b;have k2:=Aa j2 b;have m2:=Aa l2 b;have f4:=Aa e4 b;have j4:=Aa i4 b;have m4:=Aa l4 b;have p4:=Aa o4 b;have s4:=Aa r4 b;clear b) | (go_at_call 56;have hz:=l;clear hz;refine(y1.out _ l.out).mono ?_;rintro e w1 ⟨rfl,b⟩;have r:=aC (l.out.trans (b.mono l.out.size));have E:=Aa d1 b;have v:=Aa r0 b;have F:=Aa e1 b;have G:=Aa f1 b;have H:=Aa i1 b;have y:=Aa j1 b;have A:=Aa k1 b;have B:=Aa l1 b;have C:=Aa m1 b;have D:=Aa n1 b;have a2:=Aa z3 b;have d2:=Aa a4 b;have f2:=Aa b4 b;have j2:=Aa c4 b;have l2:=Aa d4 b;have e4:=Aa l6 b;have i4:=Aa m6 b;have l4:=Aa n6 b;have o4:=Aa o6 b;have r4:=Aa p6 b;clear b))
  go_wp2;go_ret;exact⟨by rw[HX.out];exact congrArg (fun x=>aB (.string x)) (BK (by simp)),n7.out⟩
 by_cases w6:k=35
 ·subst w6
  clear I hk r1 v1
  have K:ks.length=2:=by
   rw[Av] at p;simp at p;exact p.2.2.2.1
  obtain⟨g,i,rfl⟩:=Hu K;obtain⟨f,n2,j0,v0,q0,s0,R,l0,m0,n0,o0,p0⟩:=u.cells 0 (by simp);obtain rfl:g=q0:=(by simpa using s0);obtain⟨b1,p2,k0,p1,q1,o1,T,x0,y0,z0,a1,c1⟩:=u.cells 1 (by simp);obtain rfl:i=q1:=(by simpa using o1);obtain⟨rfl⟩:a=some ⟨f,0,none⟩:=(by injection v0);obtain rfl:f=b1:=by injection p1 with h _ _;injection h with h;injection h with h _ _
  rw[Av] at p
  (try rw[Bo] at p)
  (try rw[BU] at p)
  (try unfold Dm at p)
  (try unfold Ie at p)
  (try unfold CK at p)
  (try unfold Fg at p)
  simp at p;have u1:i.kd=30/\Av N (d+1) i=true:=by clear hE hS hB q;simp_all
  obtain⟨L1,Q⟩:∃L,AX s i=L:=⟨_,rfl⟩;have x4:L1.length<=8796093022208:=by rw[<- Q];have:=BB s q i;have:=Ax (t:=i) (ks:=[g,i]) (by simp);omega
  have z1:Hid (∀j,Below W.heap.size W j->Calls prog 34 #[.agg #[.int .i64 i.kd,.string ⟨i.nm.toArray⟩,.float .f64 i.x,k0,.complex .f64 i.z.1 i.z.2]] j fun e o=>e = .returned (.string ⟨L1.toArray⟩)/\Below j.heap.size j o):=fun j m=>by rw[<- Q];exact hB i (d+1) k0 j (aA (A9 (t:=i) (ks:=[g,i]) (by simp)) w) u1.1 u1.2 (by have:=Ax (t:=i) (ks:=[g,i]) (by simp);omega) (T.bel m) (S.trans (m.mono S.size))
  have d1:=Ab l0 (.cells #[.int .i64 35,.string ⟨nm.toArray⟩,.float .f64 x,.slice (some ⟨f,0,none⟩) 2 c,.complex .f64 z.1 z.2] 60);have r0:=Ab m0 (.cells #[.int .i64 35,.string ⟨nm.toArray⟩,.float .f64 x,.slice (some ⟨f,0,none⟩) 2 c,.complex .f64 z.1 z.2] 60);have e1:=Ab n0 (.cells #[.int .i64 35,.string ⟨nm.toArray⟩,.float .f64 x,.slice (some ⟨f,0,none⟩) 2 c,.complex .f64 z.1 z.2] 60);have f1:=Ab o0 (.cells #[.int .i64 35,.string ⟨nm.toArray⟩,.float .f64 x,.slice (some ⟨f,0,none⟩) 2 c,.complex .f64 z.1 z.2] 60);have i1:=Ab p0 (.cells #[.int .i64 35,.string ⟨nm.toArray⟩,.float .f64 x,.slice (some ⟨f,0,none⟩) 2 c,.complex .f64 z.1 z.2] 60)
  have j1:=Ab x0 (.cells #[.int .i64 35,.string ⟨nm.toArray⟩,.float .f64 x,.slice (some ⟨f,0,none⟩) 2 c,.complex .f64 z.1 z.2] 60);have k1:=Ab y0 (.cells #[.int .i64 35,.string ⟨nm.toArray⟩,.float .f64 x,.slice (some ⟨f,0,none⟩) 2 c,.complex .f64 z.1 z.2] 60);have l1:=Ab z0 (.cells #[.int .i64 35,.string ⟨nm.toArray⟩,.float .f64 x,.slice (some ⟨f,0,none⟩) 2 c,.complex .f64 z.1 z.2] 60);have m1:=Ab a1 (.cells #[.int .i64 35,.string ⟨nm.toArray⟩,.float .f64 x,.slice (some ⟨f,0,none⟩) 2 c,.complex .f64 z.1 z.2] 60);have n1:=Ab c1 (.cells #[.int .i64 35,.string ⟨nm.toArray⟩,.float .f64 x,.slice (some ⟨f,0,none⟩) 2 c,.complex .f64 z.1 z.2] 60)
  obtain⟨M0,c5⟩:∃M,g.nm=M:=⟨_,rfl⟩;rw[c5] at r0;have s7:M0.length<=8796093022208:=by rw[<- c5];have:=Ax (t:=g) (ks:=[g,i]) (by simp);have:5*g.nm.length<=g.big:=VC g;omega
  have y4:(W.alloc (.cells #[.int .i64 35,.string ⟨nm.toArray⟩,.float .f64 x,.slice (some ⟨f,0,none⟩) 2 c,.complex .f64 z.1 z.2] 60)).drew.cell? ⟨W.heap.size,1,none⟩=some (.string ⟨nm.toArray⟩):=by
   show (W.alloc (.cells #[.int .i64 35,.string ⟨nm.toArray⟩,.float .f64 x,.slice (some ⟨f,0,none⟩) 2 c,.complex .f64 z.1 z.2] 60)).cell? ⟨W.heap.size,1,none⟩=_;rw[World.cell?_alloc_at _ _ _ _ rfl];rfl
  have HX:Hid (AX s (.mk 35 nm x z [g,i])=[102,111,114,32,40]++M0++[32,105,110,32]++nm++[41,32]++L1):=by
   unfold Hid;rw[Bn,Au,B8];unfold Xg;simp[Q,c5]
  have g1:¬ 9223372036854775807<5+M0.length:=(by omega);have g2:¬ 9223372036854775807<5+M0.length+4:=(by omega);have g3:¬ 9223372036854775807<5+M0.length+4+nm.length:=(by omega);have g4:¬ 9223372036854775807<5+M0.length+4+nm.length+2:=(by omega);have g5:¬ 9223372036854775807<5+M0.length+4+nm.length+2+L1.length:=(by omega);have l:Hid (Below W.heap.size W (W.alloc (.cells #[.int .i64 35,.string ⟨nm.toArray⟩,.float .f64 x,.slice (some ⟨f,0,none⟩) 2 c,.complex .f64 z.1 z.2] 60)).drew):=AC W _;clear s0 v0 R l0 m0 n0 o0 p0 o1 p1 T x0 y0 z0 a1 c1 Q u1 c5 K p u hE hS hB q S w U
  show Calls prog 56 #[.agg #[.int .i64 35,.string ⟨nm.toArray⟩,.float .f64 x,.slice (some ⟨f,0,none⟩) 2 c,.complex .f64 z.1 z.2]] W _
  go_in
  go_wp2_with fail
  go_region_held3 (fun o=>o.cell? ⟨f,1,none⟩=some (.string ⟨M0.toArray⟩)/\o.cell? ⟨f,5,none⟩=some (.int .i64 i.kd)/\o.cell? ⟨f,6,none⟩=some (.string ⟨i.nm.toArray⟩)/\o.cell? ⟨f,7,none⟩=some (.float .f64 i.x)/\o.cell? ⟨f,8,none⟩=some (k0)/\o.cell? ⟨f,9,none⟩=some (.complex .f64 i.z.1 i.z.2)/\o.cell? ⟨W.heap.size,1,none⟩=some (.string ⟨nm.toArray⟩)) (first | with_reducible exact⟨v,y,A,B,C,D,n3⟩ | with_reducible exact⟨r0,j1,k1,l1,m1,n1,y4⟩)
   (first | (go_at_call 34;have hz:=l;clear hz;refine(z1.out _ l.out).mono ?_;rintro e w1 ⟨rfl,b⟩;have r:=aC (l.out.trans (b.mono l.out.size));have v:=Aa r0 b;have y:=Aa j1 b;have A:=Aa k1 b;have B:=Aa l1 b;have C:=Aa m1 b;have D:=Aa n1 b;have n3:=Aa y4 b;clear b))
  go_wp2;go_ret;exact⟨by rw[HX.out];exact congrArg (fun x=>aB (.string x)) (BK (by simp)),r.out⟩
 by_cases x6:k=36
 ·subst x6
  have HX:Hid (AX s (.mk 36 nm x z ks)=[98,114,101,97,107]):=by unfold Hid;rw[Bn];rfl
  have l:Hid (Below W.heap.size W (W.alloc (.cells #[.int .i64 36,.string ⟨nm.toArray⟩,.float .f64 x,.slice a ks.length c,.complex .f64 z.1 z.2] 60))):=Ad W _;show Calls prog 56 #[.agg #[.int .i64 36,.string ⟨nm.toArray⟩,.float .f64 x,.slice a ks.length c,.complex .f64 z.1 z.2]] W _
  go_in
  go_wp2;go_ret;exact⟨by rw[HX.out];rfl,l.out⟩
 by_cases y6:k=37
 ·subst y6
  have HX:Hid (AX s (.mk 37 nm x z ks)=[99,111,110,116,105,110,117,101]):=by unfold Hid;rw[Bn];rfl
  have l:Hid (Below W.heap.size W (W.alloc (.cells #[.int .i64 37,.string ⟨nm.toArray⟩,.float .f64 x,.slice a ks.length c,.complex .f64 z.1 z.2] 60))):=Ad W _;show Calls prog 56 #[.agg #[.int .i64 37,.string ⟨nm.toArray⟩,.float .f64 x,.slice a ks.length c,.complex .f64 z.1 z.2]] W _
  go_in
  go_wp2;go_ret;exact⟨by rw[HX.out];rfl,l.out⟩
 by_cases z6:k=38
 ·subst z6
  have HX:Hid (AX s (.mk 38 nm x z ks)=[110,101,120,116]):=by unfold Hid;rw[Bn];rfl
  have l:Hid (Below W.heap.size W (W.alloc (.cells #[.int .i64 38,.string ⟨nm.toArray⟩,.float .f64 x,.slice a ks.length c,.complex .f64 z.1 z.2] 60))):=Ad W _;show Calls prog 56 #[.agg #[.int .i64 38,.string ⟨nm.toArray⟩,.float .f64 x,.slice a ks.length c,.complex .f64 z.1 z.2]] W _
  go_in
  go_wp2;go_ret;exact⟨by rw[HX.out];rfl,l.out⟩
 by_cases a7:k=39
 ·subst a7
  have HX:Hid (AX s (.mk 39 nm x z ks)=Go.wordL [101,120,105,116] (AP s ks)):=by unfold Hid;rw[Bn];rfl
  have l:Hid (Below W.heap.size W (W.alloc (.cells #[.int .i64 39,.string ⟨nm.toArray⟩,.float .f64 x,.slice a ks.length c,.complex .f64 z.1 z.2] 60))):=Ad W _
  have x1:A5 N (d+1) ks=true:=by
   rw[Av] at p;simp at p;exact p.2.2.2.2
  have HC:Hid (∀j,Below W.heap.size W j->Calls prog 79 #[.agg #[.int .i64 39,.string ⟨nm.toArray⟩,.float .f64 x,.slice a ks.length c,.complex .f64 z.1 z.2],.string ⟨#[101,120,105,116]⟩] j fun e o=>e = .returned (.string ⟨(Go.wordL [101,120,105,116] (AP s ks)).toArray⟩)/\Below j.heap.size j o) :=
   fun j m=>Xp s q N w0 n hE (.mk 39 nm x z ks) (d+1) _ [101,120,105,116] j w x1 (show Bh ks<=_ by omega) (by decide) (u.bel m) (S.trans (m.mono S.size))
  generalize Go.wordL [101,120,105,116] (AP s ks)=V at HC HX;clear p x1 u hk hE hS hB v1 q S w U I r1;show Calls prog 56 #[.agg #[.int .i64 39,.string ⟨nm.toArray⟩,.float .f64 x,.slice a ks.length c,.complex .f64 z.1 z.2]] W _
  go_in
  go_wp2_with (go_at_call 79;refine(HC.out _ l.out).mono ?_;rintro e w1 ⟨rfl,b⟩;have r:=aC (l.out.trans (b.mono l.out.size));clear b)
  go_ret;exact⟨by rw[HX.out];rfl,r.out⟩
 by_cases b7:k=40
 ·subst b7
  have HX:Hid (AX s (.mk 40 nm x z ks)=Go.wordL [114,101,116,117,114,110] (AP s ks)):=by unfold Hid;rw[Bn];rfl
  have l:Hid (Below W.heap.size W (W.alloc (.cells #[.int .i64 40,.string ⟨nm.toArray⟩,.float .f64 x,.slice a ks.length c,.complex .f64 z.1 z.2] 60))):=Ad W _
  have x1:A5 N (d+1) ks=true:=by
   rw[Av] at p;simp at p;exact p.2.2.2.2
  have HC:Hid (∀j,Below W.heap.size W j->Calls prog 79 #[.agg #[.int .i64 40,.string ⟨nm.toArray⟩,.float .f64 x,.slice a ks.length c,.complex .f64 z.1 z.2],.string ⟨#[114,101,116,117,114,110]⟩] j fun e o=>e = .returned (.string ⟨(Go.wordL [114,101,116,117,114,110] (AP s ks)).toArray⟩)/\Below j.heap.size j o) :=
   fun j m=>Xp s q N w0 n hE (.mk 40 nm x z ks) (d+1) _ [114,101,116,117,114,110] j w x1 (show Bh ks<=_ by omega) (by decide) (u.bel m) (S.trans (m.mono S.size))
  generalize Go.wordL [114,101,116,117,114,110] (AP s ks)=V at HC HX;clear p x1 u hk hE hS hB v1 q S w U I r1;show Calls prog 56 #[.agg #[.int .i64 40,.string ⟨nm.toArray⟩,.float .f64 x,.slice a ks.length c,.complex .f64 z.1 z.2]] W _
  go_in
  go_wp2_with (go_at_call 79;refine(HC.out _ l.out).mono ?_;rintro e w1 ⟨rfl,b⟩;have r:=aC (l.out.trans (b.mono l.out.size));clear b)
  go_ret;exact⟨by rw[HX.out];rfl,r.out⟩
 by_cases c7:k=41
 ·subst c7
  have x1:A5 N (d+1) ks=true:=by
   rw[Av] at p;simp at p;exact p.2.2.2
  have f5:Hid (∀j,Below W.heap.size W j->Calls prog 33 #[.slice a ks.length c,.string ⟨#[44]⟩] j fun e o=>e = .returned (.string ⟨(A3 [44] (AP s ks)).toArray⟩)/\Below j.heap.size j o) :=
   fun j m=>EN s q N w0 n hE ks (d+1) _ [44] j w x1 (by omega) (by decide) (u.bel m) (S.trans (m.mono S.size))
  have h7:(A3 [44] (AP s ks)).length<=8796093022208:=by
   rw[Au];have:=Cn [44] (by decide) (AD s) ks fun t _=>Bs s q t;omega
  by_cases h0:ks.length=0
  ·have s2:ks=[]:=List.eq_nil_of_length_eq_zero h0
   have HX:Hid (AX s (.mk 41 nm x z ks)=[100,101,108,101,116,101,32]++nm):=by unfold Hid;rw[Bn,s2,Au];rfl
   have l:Hid (Below W.heap.size W (W.alloc (.cells #[.int .i64 41,.string ⟨nm.toArray⟩,.float .f64 x,.slice a ks.length c,.complex .f64 z.1 z.2] 60))):=Ad W _;have f:((ks.length:Int)==0)=true:=beq_iff_eq.2 (by omega);have g1:¬ 9223372036854775807<7+nm.length:=(by omega);clear p x1 u hk hE hS hB v1 q S w U I r1 s2 h0 h7 f5;show Calls prog 56 #[.agg #[.int .i64 41,.string ⟨nm.toArray⟩,.float .f64 x,.slice a ks.length c,.complex .f64 z.1 z.2]] W _
   go_in
   go_wp2;go_ret;exact⟨by rw[HX.out];exact congrArg (fun x=>aB (.string x)) (BK (by simp)),l.out⟩
  have s2:AP s ks≠[]:=by rw[Au];intro h;exact h0 (by simpa using congrArg List.length h)
  have f:((ks.length:Int)==0)=false:=beq_eq_false_iff_ne.2 (by omega)
  have HX:Hid (AX s (.mk 41 nm x z ks)=[100,101,108,101,116,101,32]++nm++[91]++A3 [44] (AP s ks)++[93]):=by
   unfold Hid;rw[Bn];unfold Xg;simp[s2]
  obtain⟨J,eJ⟩:∃J,A3 [44] (AP s ks)=J:=⟨_,rfl⟩;rw[eJ] at HX f5 h7;have l:Hid (Below W.heap.size W (W.alloc (.cells #[.int .i64 41,.string ⟨nm.toArray⟩,.float .f64 x,.slice a ks.length c,.complex .f64 z.1 z.2] 60)).drew):=AC W _
  have y4:(W.alloc (.cells #[.int .i64 41,.string ⟨nm.toArray⟩,.float .f64 x,.slice a ks.length c,.complex .f64 z.1 z.2] 60)).drew.cell? ⟨W.heap.size,1,none⟩=some (.string ⟨nm.toArray⟩):=by
   show (W.alloc (.cells #[.int .i64 41,.string ⟨nm.toArray⟩,.float .f64 x,.slice a ks.length c,.complex .f64 z.1 z.2] 60)).cell? ⟨W.heap.size,1,none⟩=_;rw[World.cell?_alloc_at _ _ _ _ rfl];rfl
  have g1:¬ 9223372036854775807<7+nm.length:=(by omega);have g2:¬ 9223372036854775807<7+nm.length+1:=(by omega);have g3:¬ 9223372036854775807<7+nm.length+1+J.length:=(by omega);have g4:¬ 9223372036854775807<7+nm.length+1+J.length+1:=(by omega);clear p x1 u hk hE hS hB v1 q S w U I r1 s2 h0 eJ;show Calls prog 56 #[.agg #[.int .i64 41,.string ⟨nm.toArray⟩,.float .f64 x,.slice a ks.length c,.complex .f64 z.1 z.2]] W _
  go_in
  go_wp2_with fail
  go_region_held3 (fun o=>o.cell? ⟨W.heap.size,1,none⟩=some (.string ⟨nm.toArray⟩)) (first | with_reducible exact n3 | with_reducible exact y4)
   (first | (go_at_call 33;refine(f5.out _ l.out).mono ?_;rintro e w1 ⟨rfl,b⟩;have r:=aC (l.out.trans (b.mono l.out.size));have n3:=Aa y4 b;clear b))
  go_wp2;go_ret;exact⟨by rw[HX.out];exact congrArg (fun x=>aB (.string x)) (BK (by simp)),r.out⟩
 by_cases d7:k=42
 ·subst d7
  have HX:Hid (AX s (.mk 42 nm x z ks)=Go.wordL [112,114,105,110,116] (AP s ks)):=by unfold Hid;rw[Bn];rfl
  have l:Hid (Below W.heap.size W (W.alloc (.cells #[.int .i64 42,.string ⟨nm.toArray⟩,.float .f64 x,.slice a ks.length c,.complex .f64 z.1 z.2] 60))):=Ad W _
  have x1:A5 N (d+1) ks=true:=by
   rw[Av] at p;simp at p;exact p.2.2.2
  have HC:Hid (∀j,Below W.heap.size W j->Calls prog 79 #[.agg #[.int .i64 42,.string ⟨nm.toArray⟩,.float .f64 x,.slice a ks.length c,.complex .f64 z.1 z.2],.string ⟨#[112,114,105,110,116]⟩] j fun e o=>e = .returned (.string ⟨(Go.wordL [112,114,105,110,116] (AP s ks)).toArray⟩)/\Below j.heap.size j o) :=
   fun j m=>Xp s q N w0 n hE (.mk 42 nm x z ks) (d+1) _ [112,114,105,110,116] j w x1 (show Bh ks<=_ by omega) (by decide) (u.bel m) (S.trans (m.mono S.size))
  generalize Go.wordL [112,114,105,110,116] (AP s ks)=V at HC HX;clear p x1 u hk hE hS hB v1 q S w U I r1;show Calls prog 56 #[.agg #[.int .i64 42,.string ⟨nm.toArray⟩,.float .f64 x,.slice a ks.length c,.complex .f64 z.1 z.2]] W _
  go_in
  go_wp2_with (go_at_call 79;refine(HC.out _ l.out).mono ?_;rintro e w1 ⟨rfl,b⟩;have r:=aC (l.out.trans (b.mono l.out.size));clear b)
  go_ret;exact⟨by rw[HX.out];rfl,r.out⟩
 by_cases e7:k=43
 ·subst e7
  have HX:Hid (AX s (.mk 43 nm x z ks)=Go.wordL [112,114,105,110,116,102] (AP s ks)):=by unfold Hid;rw[Bn];rfl
  have l:Hid (Below W.heap.size W (W.alloc (.cells #[.int .i64 43,.string ⟨nm.toArray⟩,.float .f64 x,.slice a ks.length c,.complex .f64 z.1 z.2] 60))):=Ad W _
  have x1:A5 N (d+1) ks=true:=by
   rw[Av] at p;simp at p;exact p.2.2.2.2
  have HC:Hid (∀j,Below W.heap.size W j->Calls prog 79 #[.agg #[.int .i64 43,.string ⟨nm.toArray⟩,.float .f64 x,.slice a ks.length c,.complex .f64 z.1 z.2],.string ⟨#[112,114,105,110,116,102]⟩] j fun e o=>e = .returned (.string ⟨(Go.wordL [112,114,105,110,116,102] (AP s ks)).toArray⟩)/\Below j.heap.size j o) :=
   fun j m=>Xp s q N w0 n hE (.mk 43 nm x z ks) (d+1) _ [112,114,105,110,116,102] j w x1 (show Bh ks<=_ by omega) (by decide) (u.bel m) (S.trans (m.mono S.size))
  generalize Go.wordL [112,114,105,110,116,102] (AP s ks)=V at HC HX;clear p x1 u hk hE hS hB v1 q S w U I r1;show Calls prog 56 #[.agg #[.int .i64 43,.string ⟨nm.toArray⟩,.float .f64 x,.slice a ks.length c,.complex .f64 z.1 z.2]] W _
  go_in
  go_wp2_with (go_at_call 79;refine(HC.out _ l.out).mono ?_;rintro e w1 ⟨rfl,b⟩;have r:=aC (l.out.trans (b.mono l.out.size));clear b)
  go_ret;exact⟨by rw[HX.out];rfl,r.out⟩
 by_cases f7:k=44
 ·subst f7
  clear I hk r1 v1
  have K:ks.length=1:=by
   rw[Av] at p;simp at p;exact p.2.2.2.1
  obtain⟨g,rfl⟩:=Wg K;obtain⟨f,n2,j0,v0,q0,s0,R,l0,m0,n0,o0,p0⟩:=u.cells 0 (by simp);obtain rfl:g=q0:=(by simpa using s0);obtain⟨rfl⟩:a=some ⟨f,0,none⟩:=(by injection v0);rw[Av] at p
  (try rw[Bo] at p)
  (try rw[BU] at p)
  (try unfold Dm at p)
  (try unfold Ie at p)
  (try unfold CK at p)
  (try unfold Fg at p)
  simp at p;have u0:Bu N (d+1) g=true:=by clear hE hS hB q;simp_all
  obtain⟨V,P⟩:∃L,AD s g=L:=⟨_,rfl⟩;have v4:V.length<=8796093022208:=by rw[<- P];have:=Bs s q g;have:=Ax (t:=g) (ks:=[g]) (by simp);omega
  have y1:Hid (∀j,Below W.heap.size W j->Calls prog 55 #[.agg #[.int .i64 g.kd,.string ⟨g.nm.toArray⟩,.float .f64 g.x,j0,.complex .f64 g.z.1 g.z.2]] j fun e o=>e = .returned (.string ⟨V.toArray⟩)/\Below j.heap.size j o):=fun j m=>by rw[<- P];exact hE g (d+1) j0 j (aA (A9 (t:=g) (ks:=[g]) (by simp)) w) u0 (by have:=Ax (t:=g) (ks:=[g]) (by simp);omega) (R.bel m) (S.trans (m.mono S.size))
  have d1:=Az l0 (.cells #[.int .i64 44,.string ⟨nm.toArray⟩,.float .f64 x,.slice (some ⟨f,0,none⟩) 1 c,.complex .f64 z.1 z.2] 60);have r0:=Az m0 (.cells #[.int .i64 44,.string ⟨nm.toArray⟩,.float .f64 x,.slice (some ⟨f,0,none⟩) 1 c,.complex .f64 z.1 z.2] 60);have e1:=Az n0 (.cells #[.int .i64 44,.string ⟨nm.toArray⟩,.float .f64 x,.slice (some ⟨f,0,none⟩) 1 c,.complex .f64 z.1 z.2] 60);have f1:=Az o0 (.cells #[.int .i64 44,.string ⟨nm.toArray⟩,.float .f64 x,.slice (some ⟨f,0,none⟩) 1 c,.complex .f64 z.1 z.2] 60);have i1:=Az p0 (.cells #[.int .i64 44,.string ⟨nm.toArray⟩,.float .f64 x,.slice (some ⟨f,0,none⟩) 1 c,.complex .f64 z.1 z.2] 60)
  have HX:Hid (AX s (.mk 44 nm x z [g])=V):=by
   unfold Hid;rw[Bn,Au,B8];unfold Xg;simp[P]
  have l:Hid (Below W.heap.size W (W.alloc (.cells #[.int .i64 44,.string ⟨nm.toArray⟩,.float .f64 x,.slice (some ⟨f,0,none⟩) 1 c,.complex .f64 z.1 z.2] 60))):=Ad W _;clear s0 v0 R l0 m0 n0 o0 p0 P u0 K p u hE hS hB q S w U;show Calls prog 56 #[.agg #[.int .i64 44,.string ⟨nm.toArray⟩,.float .f64 x,.slice (some ⟨f,0,none⟩) 1 c,.complex .f64 z.1 z.2]] W _
  go_in
  go_wp2_with (first | (go_at_call 55;have hz:=l;clear hz;refine(y1.out _ l.out).mono ?_;rintro e w1 ⟨rfl,b⟩;have r:=aC (l.out.trans (b.mono l.out.size));have E:=Aa d1 b;have v:=Aa r0 b;have F:=Aa e1 b;have G:=Aa f1 b;have H:=Aa i1 b;clear b))
  go_ret;exact⟨by rw[HX.out];exact congrArg (fun x=>aB (.string x)) (BK (by simp)),r.out⟩
 rw[Av] at p;simp[q6,r6,s6,t6,v6,w6,x6,y6,z6,a7,b7,c7,d7,e7,f7] at p
end Go.Proofs.YtipfpohlnhmlpaaGreatDoor
