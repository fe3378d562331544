/- Ok Ol -/
import Derived.Test.YtfblenhlildnaaaGreatDoorLc
import Derived.Test.YtfblenhlildnaaaGreatDoorAw
import Derived.Test.YtfblenhlildnaaaGreatDoorIe
set_option maxRecDepth 100000
set_option maxHeartbeats 4000000
open Go.Lib renaming hid->aA
namespace Go.Proofs.YtfblenhlildnaaaGreatDoor
open Go.Proofs.Tryz
open Go.RowKit
theorem Aeo {w:World} {B:Nat} {rs:List Rl} {v:Value} (h:Lr w B rs v):rs.length<=maxLen:=by
 obtain⟨L,rfl,a,-⟩:=h;rw[List.length_map];rcases a.2 with⟨-,d⟩ | ⟨g,b,c,-,-,-,e,f,-⟩
 ·rw[d];exact Nat.zero_le _
 omega
theorem Lr.bel {w w':World} {B:Nat} {rs:List Rl} {v:Value} (h:Lr w B rs v) (a:Below w.heap.size w w'):Lr w' B rs v :=
 h.kept (row:=none) ⟨a.os,a.tape,a.output,a.size,fun k b _=>a.block k b⟩ fun _ e=>nomatch e
set_option linter.unusedSimpArgs false in
theorem AfV (rs:List Rl) (W:World) (B1 B2:Nat) (v1 v2:Value) (N:Lr W B1 rs v1) (h2:Lr W B2 rs v2) (hq:∀r∈rs,RQ QS RS2 r) :
  Calls prog 31 #[.agg #[v1,.slice none 0 0],.agg #[v2,.slice none 0 0]] W fun e w'=>e = .returned (.bool true)/\Below W.heap.size W w':=by
 obtain⟨y,A,rfl⟩:=N.slice;obtain⟨D,E,rfl⟩:=h2.slice;have w:Below W.heap.size W ((W.alloc (.cells #[.slice y rs.length A,.slice none 0 0] 33)).alloc (.cells #[.slice D rs.length E,.slice none 0 0] 33)):=(Ad W _).trans ((Ad _ _).mono (Ad W _).size);have H:=aA w;have U:=aA (N.bel w);have V:=aA (h2.bel w);have X:=aA (Aeo N);have HQ:=aA hq;have HA:=aA ((CN.new W [.slice y rs.length A,.slice none 0 0] 33).alloc (.cells #[.slice D rs.length E,.slice none 0 0] 33));have hB:=CN.new (W.alloc (.cells #[.slice y rs.length A,.slice none 0 0] 33)) [.slice D rs.length E,.slice none 0 0] 33
 rw[show (W.alloc (.cells #[.slice y rs.length A,.slice none 0 0] 33)).heap.size=W.heap.size+1 by simp] at hB;have HB:=aA hB;have Q:=aA (Below.refl ((W.alloc (.cells #[.slice y rs.length A,.slice none 0 0] 33)).alloc (.cells #[.slice D rs.length E,.slice none 0 0] 33)).heap.size ((W.alloc (.cells #[.slice y rs.length A,.slice none 0 0] 33)).alloc (.cells #[.slice D rs.length E,.slice none 0 0] 33)));clear N h2 hq w hB
 go_in
 go_wp2
 go_loopg [5] rs.length (fun g i wr=>∃(k:Nat),i = .int .i64 k/\k+g=rs.length/\Hid (Below ((W.alloc (.cells #[.slice y rs.length A,.slice none 0 0] 33)).alloc (.cells #[.slice D rs.length E,.slice none 0 0] 33)).heap.size ((W.alloc (.cells #[.slice y rs.length A,.slice none 0 0] 33)).alloc (.cells #[.slice D rs.length E,.slice none 0 0] 33)) wr))
 case atStart=>exact⟨0,rfl,by omega,Q⟩
 obtain⟨k,rfl,m0,f⟩:=hrel;have q:=HA.out.quiet f.out;have s:=HB.out.quiet f.out;have g0:=q.c 0 _ rfl;have g1:=q.c 1 _ rfl;have j0:=s.c 0 _ rfl;have j1:=s.c 1 _ rfl;by_cases K:k<rs.length
 ·obtain⟨b1,d1,r,h0,c0,hv,ht,l,e0,e1,e2,e3,e4,e5,e6,e7,e8⟩:=(U.out.bel f.out).at k K
  injection hv with G _ a0;subst G;obtain⟨b2,d2,r',i0,d0,hv,M,m,Y,Z,f2,f3,f4,f5,f6,f7,f8⟩:=(V.out.bel f.out).at k K;injection hv with G _ b0;subst G;obtain rfl:r=r':=Option.some.inj (ht.symm.trans M);have L:r∈rs:=List.mem_of_getElem? ht;have F:=HQ.out r L;obtain⟨j,q1,rfl⟩:=Am.slice (v:=h0) (ks:=r.ps) l.1;obtain⟨k1,h,rfl⟩:=Am.slice (v:=c0) (ks:=r.b.ks) l.2;obtain⟨p2,q2,rfl⟩:=Am.slice (v:=i0) (ks:=r.ps) m.1;obtain⟨O,P,rfl⟩:=Am.slice (v:=d0) (ks:=r.b.ks) m.2;have T:=aA (fun t (I:Below wr.heap.size wr t)=>(Adh (DN r.ps)).2 r.ps t _ _ (Nat.le_refl _) F.1 (l.1.bel I) (m.1.bel I))
  have S:Hid (∀t,Below wr.heap.size wr t->Calls prog 56 #[(.agg #[.int .i64 r.b.kd,.string ⟨r.b.nm.toArray⟩,.float .f64 r.b.x,.slice k1 r.b.ks.length h,.complex .f64 r.b.z.1 r.b.z.2]),(.agg #[.int .i64 r.b.kd,.string ⟨r.b.nm.toArray⟩,.float .f64 r.b.x,.slice O r.b.ks.length P,.complex .f64 r.b.z.1 r.b.z.2])] t fun e w'=>e = .returned (.bool true)/\Below t.heap.size t w'):=fun t I=>(Adh r.b.wt).1 r.b t _ _ (Nat.le_refl _) F.2.1 (l.2.bel I) (m.2.bel I);have C:=aA (show Below wr.heap.size wr ((wr.alloc (.cells #[.int .i64 r.k,.int .i64 r.n,.slice j r.ps.length q1,.int .i64 r.b.kd,.string ⟨r.b.nm.toArray⟩,.float .f64 r.b.x,.slice k1 r.b.ks.length h,.complex .f64 r.b.z.1 r.b.z.2,.complex .f64 r.z.1 r.z.2] 44)).alloc (.cells #[.int .i64 r.k,.int .i64 r.n,.slice p2 r.ps.length q2,.int .i64 r.b.kd,.string ⟨r.b.nm.toArray⟩,.float .f64 r.b.x,.slice O r.b.ks.length P,.complex .f64 r.b.z.1 r.b.z.2,.complex .f64 r.z.1 r.z.2] 44)) from (Ad wr _).trans ((Ad _ _).mono (Ad wr _).size))
  have o:=aA ((CN.new wr [.int .i64 r.k,.int .i64 r.n,.slice j r.ps.length q1,.int .i64 r.b.kd,.string ⟨r.b.nm.toArray⟩,.float .f64 r.b.x,.slice k1 r.b.ks.length h,.complex .f64 r.b.z.1 r.b.z.2,.complex .f64 r.z.1 r.z.2] 44).alloc (.cells #[.int .i64 r.k,.int .i64 r.n,.slice p2 r.ps.length q2,.int .i64 r.b.kd,.string ⟨r.b.nm.toArray⟩,.float .f64 r.b.x,.slice O r.b.ks.length P,.complex .f64 r.b.z.1 r.b.z.2,.complex .f64 r.z.1 r.z.2] 44));have hY:=CN.new (wr.alloc (.cells #[.int .i64 r.k,.int .i64 r.n,.slice j r.ps.length q1,.int .i64 r.b.kd,.string ⟨r.b.nm.toArray⟩,.float .f64 r.b.x,.slice k1 r.b.ks.length h,.complex .f64 r.b.z.1 r.b.z.2,.complex .f64 r.z.1 r.z.2] 44)) [.int .i64 r.k,.int .i64 r.n,.slice p2 r.ps.length q2,.int .i64 r.b.kd,.string ⟨r.b.nm.toArray⟩,.float .f64 r.b.x,.slice O r.b.ks.length P,.complex .f64 r.b.z.1 r.b.z.2,.complex .f64 r.z.1 r.z.2] 44
  rw[show (wr.alloc (.cells #[.int .i64 r.k,.int .i64 r.n,.slice j r.ps.length q1,.int .i64 r.b.kd,.string ⟨r.b.nm.toArray⟩,.float .f64 r.b.x,.slice k1 r.b.ks.length h,.complex .f64 r.b.z.1 r.b.z.2,.complex .f64 r.z.1 r.z.2] 44)).heap.size=wr.heap.size+1 by simp] at hY;have p:=aA hY;have k0:=Aa j0 (Ad wr (.cells #[.int .i64 r.k,.int .i64 r.n,.slice j r.ps.length q1,.int .i64 r.b.kd,.string ⟨r.b.nm.toArray⟩,.float .f64 r.b.x,.slice k1 r.b.ks.length h,.complex .f64 r.b.z.1 r.b.z.2,.complex .f64 r.z.1 r.z.2] 44));clear a0 b0 L F l m ht M hY q s;rw[Nat.mul_comm 9 k] at e0 e1 e2 e3 e4 e5 e6 e7 e8 Y Z f2 f3 f4 f5 f6 f7 f8;replace Y:=Aa Y (Ad wr (.cells #[.int .i64 r.k,.int .i64 r.n,.slice j r.ps.length q1,.int .i64 r.b.kd,.string ⟨r.b.nm.toArray⟩,.float .f64 r.b.x,.slice k1 r.b.ks.length h,.complex .f64 r.b.z.1 r.b.z.2,.complex .f64 r.z.1 r.z.2] 44));replace Z:=Aa Z (Ad wr (.cells #[.int .i64 r.k,.int .i64 r.n,.slice j r.ps.length q1,.int .i64 r.b.kd,.string ⟨r.b.nm.toArray⟩,.float .f64 r.b.x,.slice k1 r.b.ks.length h,.complex .f64 r.b.z.1 r.b.z.2,.complex .f64 r.z.1 r.z.2] 44));replace f2:=Aa f2 (Ad wr (.cells #[.int .i64 r.k,.int .i64 r.n,.slice j r.ps.length q1,.int .i64 r.b.kd,.string ⟨r.b.nm.toArray⟩,.float .f64 r.b.x,.slice k1 r.b.ks.length h,.complex .f64 r.b.z.1 r.b.z.2,.complex .f64 r.z.1 r.z.2] 44));replace f3:=Aa f3 (Ad wr (.cells #[.int .i64 r.k,.int .i64 r.n,.slice j r.ps.length q1,.int .i64 r.b.kd,.string ⟨r.b.nm.toArray⟩,.float .f64 r.b.x,.slice k1 r.b.ks.length h,.complex .f64 r.b.z.1 r.b.z.2,.complex .f64 r.z.1 r.z.2] 44));replace f4:=Aa f4 (Ad wr (.cells #[.int .i64 r.k,.int .i64 r.n,.slice j r.ps.length q1,.int .i64 r.b.kd,.string ⟨r.b.nm.toArray⟩,.float .f64 r.b.x,.slice k1 r.b.ks.length h,.complex .f64 r.b.z.1 r.b.z.2,.complex .f64 r.z.1 r.z.2] 44));replace f5:=Aa f5 (Ad wr (.cells #[.int .i64 r.k,.int .i64 r.n,.slice j r.ps.length q1,.int .i64 r.b.kd,.string ⟨r.b.nm.toArray⟩,.float .f64 r.b.x,.slice k1 r.b.ks.length h,.complex .f64 r.b.z.1 r.b.z.2,.complex .f64 r.z.1 r.z.2] 44));replace f6:=Aa f6 (Ad wr (.cells #[.int .i64 r.k,.int .i64 r.n,.slice j r.ps.length q1,.int .i64 r.b.kd,.string ⟨r.b.nm.toArray⟩,.float .f64 r.b.x,.slice k1 r.b.ks.length h,.complex .f64 r.b.z.1 r.b.z.2,.complex .f64 r.z.1 r.z.2] 44));replace f7:=Aa f7 (Ad wr (.cells #[.int .i64 r.k,.int .i64 r.n,.slice j r.ps.length q1,.int .i64 r.b.kd,.string ⟨r.b.nm.toArray⟩,.float .f64 r.b.x,.slice k1 r.b.ks.length h,.complex .f64 r.b.z.1 r.b.z.2,.complex .f64 r.z.1 r.z.2] 44));replace f8:=Aa f8 (Ad wr (.cells #[.int .i64 r.k,.int .i64 r.n,.slice j r.ps.length q1,.int .i64 r.b.kd,.string ⟨r.b.nm.toArray⟩,.float .f64 r.b.x,.slice k1 r.b.ks.length h,.complex .f64 r.b.z.1 r.b.z.2,.complex .f64 r.z.1 r.z.2] 44))
  have u0:=o.out.c 0 _ rfl;have u1:=o.out.c 1 _ rfl;have u2:=o.out.c 2 _ rfl;have u3:=o.out.c 3 _ rfl;have u4:=o.out.c 4 _ rfl;have u5:=o.out.c 5 _ rfl;have u6:=o.out.c 6 _ rfl;have u7:=o.out.c 7 _ rfl;have u8:=o.out.c 8 _ rfl;have v0:=p.out.c 0 _ rfl;have v1:=p.out.c 1 _ rfl;have v2:=p.out.c 2 _ rfl;have v3:=p.out.c 3 _ rfl;have v4:=p.out.c 4 _ rfl;have v5:=p.out.c 5 _ rfl;have v6:=p.out.c 6 _ rfl;have v7:=p.out.c 7 _ rfl;have v8:=p.out.c 8 _ rfl;have l0:(k:Int)<rs.length:=by omega
  go_wp2_with (first | (go_at_call 55;refine(T.out _ C.out).mono ?_;rintro e w1 ⟨rfl,u⟩;have B:=aA (C.out.trans (u.mono C.out.size));have a:=aA (o.out.quiet u);have d:=aA (p.out.quiet u);clear u u0 u1 u2 u3 u4 u5 u6 u7 u8 v0 v1 v2 v3 v4 v5 v6 v7 v8;have u0:=a.out.c 0 _ rfl;have u1:=a.out.c 1 _ rfl;have u2:=a.out.c 2 _ rfl;have u3:=a.out.c 3 _ rfl;have u4:=a.out.c 4 _ rfl;have u5:=a.out.c 5 _ rfl;have u6:=a.out.c 6 _ rfl;have u7:=a.out.c 7 _ rfl;have u8:=a.out.c 8 _ rfl;have v0:=d.out.c 0 _ rfl;have v1:=d.out.c 1 _ rfl;have v2:=d.out.c 2 _ rfl;have v3:=d.out.c 3 _ rfl;have v4:=d.out.c 4 _ rfl;have v5:=d.out.c 5 _ rfl;have v6:=d.out.c 6 _ rfl;have v7:=d.out.c 7 _ rfl;have v8:=d.out.c 8 _ rfl) | (go_at_call 56;refine(S.out _ B.out).mono ?_;rintro e w2 ⟨rfl,J⟩;have R:=aA (B.out.trans (J.mono B.out.size));clear J))
  go_roundg (gk-1)
  case measure=>omega
  exact⟨k+1,congrArg (Value.int .i64) (by have:=X.out;unfold maxLen at this;unfold RowKit.wrap64;omega),by omega,aA (f.out.trans (R.out.mono f.out.size))⟩
 obtain hke:k=rs.length:=(by omega);subst hke;clear q s;go_wp2
 go_loop [8] (fun i=>i = .int .i64 0) (fun _=>0)
 case atStart=>rfl
 obtain rfl:=hrel;go_wp2;go_ret;exact⟨rfl,H.out.trans (f.out.mono H.out.size)⟩
set_option linter.unusedSimpArgs false in
theorem AeB (rs:List Rl) (W:World) (B1 B2:Nat) (v1 v2:Value) (Y:Lr W B1 rs v1) (h2:Lr W B2 rs v2) (hq:∀r∈rs,RQ QS RS2 r) (c0:∀r∈rs,r.ps=[]) :
  Calls prog 16 #[.agg #[v1,.slice none 0 0],.agg #[v2,.slice none 0 0]] W fun e w'=>e = .returned (.bool true)/\Below W.heap.size W w':=by
 obtain⟨D,q,rfl⟩:=Y.slice;obtain⟨F,s,rfl⟩:=h2.slice;have C:Below W.heap.size W ((W.alloc (.cells #[.slice D rs.length q,.slice none 0 0] 33)).alloc (.cells #[.slice F rs.length s,.slice none 0 0] 33)):=(Ad W _).trans ((Ad _ _).mono (Ad W _).size);have E:=aA C;have i0:=aA (Y.bel C);have k0:=aA (h2.bel C);have l0:=aA (Aeo Y);have HQ:=aA hq;have HA:=aA ((CN.new W [.slice D rs.length q,.slice none 0 0] 33).alloc (.cells #[.slice F rs.length s,.slice none 0 0] 33));have hB:=CN.new (W.alloc (.cells #[.slice D rs.length q,.slice none 0 0] 33)) [.slice F rs.length s,.slice none 0 0] 33
 rw[show (W.alloc (.cells #[.slice D rs.length q,.slice none 0 0] 33)).heap.size=W.heap.size+1 by simp] at hB;have HB:=aA hB;have U:=aA (Below.refl ((W.alloc (.cells #[.slice D rs.length q,.slice none 0 0] 33)).alloc (.cells #[.slice F rs.length s,.slice none 0 0] 33)).heap.size ((W.alloc (.cells #[.slice D rs.length q,.slice none 0 0] 33)).alloc (.cells #[.slice F rs.length s,.slice none 0 0] 33)));have m0:=aA (fun y (Z:Below W.heap.size W y)=>AfV rs y B1 B2 _ _ (Y.bel Z) (h2.bel Z) hq);have h0:=aA c0;clear Y h2 hq C hB c0
 go_in
 go_wp2_with (go_at_call 31;refine(m0.out _ E.out).mono ?_;rintro e w0 ⟨rfl,a0⟩;replace U:=aA a0;clear a0)
 go_loopg [5] rs.length (fun g i wr=>∃(k:Nat),i = .int .i64 k/\k+g=rs.length/\Hid (Below ((W.alloc (.cells #[.slice D rs.length q,.slice none 0 0] 33)).alloc (.cells #[.slice F rs.length s,.slice none 0 0] 33)).heap.size ((W.alloc (.cells #[.slice D rs.length q,.slice none 0 0] 33)).alloc (.cells #[.slice F rs.length s,.slice none 0 0] 33)) wr))
 case atStart=>exact⟨0,rfl,by omega,U⟩
 obtain⟨k,rfl,y0,j⟩:=hrel;have t:=HA.out.quiet j.out;have u:=HB.out.quiet j.out;have g0:=t.c 0 _ rfl;have g1:=t.c 1 _ rfl;have j0:=u.c 0 _ rfl;have j1:=u.c 1 _ rfl;by_cases b0:k<rs.length
 ·obtain⟨b1,d1,r,t0,q0,hv,ht,A,e0,e1,e2,e3,e4,e5,e6,e7,e8⟩:=(i0.out.bel j.out).at k b0
  injection hv with I _ o0;subst I;obtain⟨b2,d2,r',v0,r0,hv,d0,B,f0,f1,f2,f3,f4,f5,f6,f7,f8⟩:=(k0.out.bel j.out).at k b0;injection hv with I _ p0;subst I;obtain rfl:r=r':=Option.some.inj (ht.symm.trans d0);have G:r∈rs:=List.mem_of_getElem? ht;have H:=HQ.out r G;obtain⟨p1,q1,rfl⟩:=Am.slice (v:=t0) (ks:=r.ps) A.1;obtain⟨k1,l1,rfl⟩:=Am.slice (v:=q0) (ks:=r.b.ks) A.2;obtain⟨p2,q2,rfl⟩:=Am.slice (v:=v0) (ks:=r.ps) B.1;obtain⟨k2,l2,rfl⟩:=Am.slice (v:=r0) (ks:=r.b.ks) B.2;have X:Hid (∀y,Below wr.heap.size wr y->Calls prog 32 #[(.agg #[.int .i64 r.b.kd,.string ⟨r.b.nm.toArray⟩,.float .f64 r.b.x,.slice k1 r.b.ks.length l1,.complex .f64 r.b.z.1 r.b.z.2]),(.agg #[.int .i64 r.b.kd,.string ⟨r.b.nm.toArray⟩,.float .f64 r.b.x,.slice k2 r.b.ks.length l2,.complex .f64 r.b.z.1 r.b.z.2])] y fun e w'=>e = .returned (.bool true)/\Below y.heap.size y w'):=fun y Z=>Afi r.b.wt r.b y _ _ (Nat.le_refl _) H.2.1 (A.2.bel Z) (B.2.bel Z)
  have hz:∀w,Sem.run prog (binOp .neq 40 (.complex .f64 r.z.1 r.z.2) (.complex .f64 r.z.1 r.z.2)) w = .ok (.bool false) w:=H.2.2;have n0:r.ps.length=0:=by rw[h0.out r G];rfl
  clear o0 p0 G H A B ht d0 t u;rw[Nat.mul_comm 9 k] at e0 e1 e2 e3 e4 e5 e6 e7 e8 f0 f1 f2 f3 f4 f5 f6 f7 f8;have x0:(k:Int)<rs.length:=(by omega);go_wp2;refine wp_region_held_drew (S:=(fun o=>o.cell? ⟨W.heap.size,0,none⟩=some (.slice (some ⟨b1,0,none⟩) rs.length q)/\o.cell? ⟨W.heap.size+1,0,none⟩=some (.slice (some ⟨b2,0,none⟩) rs.length s)/\o.cell? ⟨b1,k*9+3,none⟩=some (.int .i64 r.b.kd)/\o.cell? ⟨b1,k*9+4,none⟩=some (.string ⟨r.b.nm.toArray⟩)/\o.cell? ⟨b1,k*9+5,none⟩=some (.float .f64 r.b.x)/\o.cell? ⟨b1,k*9+6,none⟩=some (.slice k1 r.b.ks.length l1)/\o.cell? ⟨b1,k*9+7,none⟩=some (.complex .f64 r.b.z.1 r.b.z.2)/\o.cell? ⟨b1,k*9+8,none⟩=some (.complex .f64 r.z.1 r.z.2)/\o.cell? ⟨b2,k*9+3,none⟩=some (.int .i64 r.b.kd)/\o.cell? ⟨b2,k*9+4,none⟩=some (.string ⟨r.b.nm.toArray⟩)/\o.cell? ⟨b2,k*9+5,none⟩=some (.float .f64 r.b.x)/\o.cell? ⟨b2,k*9+6,none⟩=some (.slice k2 r.b.ks.length l2)/\o.cell? ⟨b2,k*9+7,none⟩=some (.complex .f64 r.b.z.1 r.b.z.2)/\o.cell? ⟨b2,k*9+8,none⟩=some (.complex .f64 r.z.1 r.z.2))) (by kernel_rfl) ⟨g0,j0,e3,e4,e5,e6,e7,e8,f3,f4,f5,f6,f7,f8⟩ (fun a=>?_)
  refine wpAnyH_take (i:=0) (v:=.pointer (some ⟨W.heap.size,0,none⟩)) rfl (by kernel_rfl) (by kernel_rfl) (by kernel_rfl) (fun _ _ _ h=>h) (Or.inl ⟨by rfl,fun w d=>by go_simp⟩) a ?_
  try simp only[Act.put,sP]
  refine wpAnyH_take (i:=1) (v:=.slice (some ⟨b1,0,none⟩) rs.length q) rfl (by kernel_rfl) (by kernel_rfl) (by kernel_rfl) (fun _ _ _ h=>h) (Or.inl ⟨by rfl,fun w d=>by obtain⟨J,s1,L,M,N,O,P,Q,R,T,l,m,n,p⟩:=d;go_simp⟩) a ?_
  try simp only[Act.put,sP]
  refine wpAnyH_take (i:=2) (v:=.int .i64 k) rfl (by kernel_rfl) (by kernel_rfl) (by kernel_rfl) (fun _ _ _ h=>h) (Or.inl ⟨by rfl,fun w d=>by go_simp⟩) a ?_
  try simp only[Act.put,sP]
  refine wpAnyH_take (i:=3) (v:=.pointer (some ⟨b1,k*9,none⟩)) rfl (by kernel_rfl) (by kernel_rfl) (by kernel_rfl) (fun _ _ _ h=>h) (Or.inl ⟨by rfl,fun w d=>by go_simp⟩) a ?_
  try simp only[Act.put,sP]
  refine wpAnyH_take (i:=4) (v:=.pointer (some ⟨b1,k*9+8,none⟩)) rfl (by kernel_rfl) (by kernel_rfl) (by kernel_rfl) (fun _ _ _ h=>h) (Or.inl ⟨by rfl,fun w d=>by go_simp⟩) a ?_
  try simp only[Act.put,sP]
  refine wpAnyH_take (i:=5) (v:=.complex .f64 r.z.1 r.z.2) rfl (by kernel_rfl) (by kernel_rfl) (by kernel_rfl) (fun _ _ _ h=>h) (Or.inl ⟨by rfl,fun w d=>by obtain⟨J,s1,L,M,N,O,P,Q,R,T,l,m,n,p⟩:=d;go_simp⟩) a ?_
  try simp only[Act.put,sP]
  refine wpAnyH_take (i:=6) (v:=.pointer (some ⟨W.heap.size+1,0,none⟩)) rfl (by kernel_rfl) (by kernel_rfl) (by kernel_rfl) (fun _ _ _ h=>h) (Or.inl ⟨by rfl,fun w d=>by go_simp⟩) a ?_
  try simp only[Act.put,sP]
  refine wpAnyH_take (i:=7) (v:=.slice (some ⟨b2,0,none⟩) rs.length s) rfl (by kernel_rfl) (by kernel_rfl) (by kernel_rfl) (fun _ _ _ h=>h) (Or.inl ⟨by rfl,fun w d=>by obtain⟨J,s1,L,M,N,O,P,Q,R,T,l,m,n,p⟩:=d;go_simp⟩) a ?_
  try simp only[Act.put,sP]
  refine wpAnyH_take (i:=8) (v:=.int .i64 k) rfl (by kernel_rfl) (by kernel_rfl) (by kernel_rfl) (fun _ _ _ h=>h) (Or.inl ⟨by rfl,fun w d=>by go_simp⟩) a ?_
  try simp only[Act.put,sP]
  refine wpAnyH_take (i:=9) (v:=.pointer (some ⟨b2,k*9,none⟩)) rfl (by kernel_rfl) (by kernel_rfl) (by kernel_rfl) (fun _ _ _ h=>h) (Or.inl ⟨by rfl,fun w d=>by go_simp⟩) a ?_
  try simp only[Act.put,sP]
  refine wpAnyH_take (i:=10) (v:=.pointer (some ⟨b2,k*9+8,none⟩)) rfl (by kernel_rfl) (by kernel_rfl) (by kernel_rfl) (fun _ _ _ h=>h) (Or.inl ⟨by rfl,fun w d=>by go_simp⟩) a ?_
  try simp only[Act.put,sP]
  refine wpAnyH_take (i:=11) (v:=.complex .f64 r.z.1 r.z.2) rfl (by kernel_rfl) (by kernel_rfl) (by kernel_rfl) (fun _ _ _ h=>h) (Or.inl ⟨by rfl,fun w d=>by obtain⟨J,s1,L,M,N,O,P,Q,R,T,l,m,n,p⟩:=d;go_simp⟩) a ?_
  try simp only[Act.put,sP]
  refine wpAnyH_take (i:=12) (v:=.bool false) rfl (by kernel_rfl) (by kernel_rfl) (by kernel_rfl) (fun _ _ _ h=>h) (Or.inl ⟨by rfl,fun w d=>by go_simp⟩) a ?_
  try simp only[Act.put,sP]
  refine wpAnyH_take (i:=13) (v:=.bool false) rfl (by kernel_rfl) (by kernel_rfl) (by kernel_rfl) (fun _ _ _ h=>h) (Or.inl ⟨by rfl,fun w d=>by go_simp⟩) a ?_
  try simp only[Act.put,sP]
  refine wpAnyH_take (i:=14) (v:=.pointer (some ⟨W.heap.size,0,none⟩)) rfl (by kernel_rfl) (by kernel_rfl) (by kernel_rfl) (fun _ _ _ h=>h) (Or.inl ⟨by rfl,fun w d=>by go_simp⟩) a ?_
  try simp only[Act.put,sP]
  refine wpAnyH_take (i:=15) (v:=.slice (some ⟨b1,0,none⟩) rs.length q) rfl (by kernel_rfl) (by kernel_rfl) (by kernel_rfl) (fun _ _ _ h=>h) (Or.inl ⟨by rfl,fun w d=>by obtain⟨J,s1,L,M,N,O,P,Q,R,T,l,m,n,p⟩:=d;go_simp⟩) a ?_
  try simp only[Act.put,sP]
  refine wpAnyH_take (i:=16) (v:=.int .i64 k) rfl (by kernel_rfl) (by kernel_rfl) (by kernel_rfl) (fun _ _ _ h=>h) (Or.inl ⟨by rfl,fun w d=>by go_simp⟩) a ?_
  try simp only[Act.put,sP]
  refine wpAnyH_take (i:=17) (v:=.pointer (some ⟨b1,k*9,none⟩)) rfl (by kernel_rfl) (by kernel_rfl) (by kernel_rfl) (fun _ _ _ h=>h) (Or.inl ⟨by rfl,fun w d=>by go_simp⟩) a ?_
  try simp only[Act.put,sP]
  refine wpAnyH_take (i:=18) (v:=.pointer (some ⟨b1,k*9+3,none⟩)) rfl (by kernel_rfl) (by kernel_rfl) (by kernel_rfl) (fun _ _ _ h=>h) (Or.inl ⟨by rfl,fun w d=>by go_simp⟩) a ?_
  try simp only[Act.put,sP]
  refine wpAnyH_take (i:=19) (v:=.agg #[.int .i64 r.b.kd,.string ⟨r.b.nm.toArray⟩,.float .f64 r.b.x,.slice k1 r.b.ks.length l1,.complex .f64 r.b.z.1 r.b.z.2]) rfl (by kernel_rfl) (by kernel_rfl) (by kernel_rfl) (fun _ _ _ h=>h) (Or.inl ⟨by rfl,fun w d=>by obtain⟨J,s1,L,M,N,O,P,Q,R,T,l,m,n,p⟩:=d;go_simp⟩) a ?_
  try simp only[Act.put,sP]
  refine wpAnyH_take (i:=20) (v:=.pointer (some ⟨W.heap.size+1,0,none⟩)) rfl (by kernel_rfl) (by kernel_rfl) (by kernel_rfl) (fun _ _ _ h=>h) (Or.inl ⟨by rfl,fun w d=>by go_simp⟩) a ?_
  try simp only[Act.put,sP]
  refine wpAnyH_take (i:=21) (v:=.slice (some ⟨b2,0,none⟩) rs.length s) rfl (by kernel_rfl) (by kernel_rfl) (by kernel_rfl) (fun _ _ _ h=>h) (Or.inl ⟨by rfl,fun w d=>by obtain⟨J,s1,L,M,N,O,P,Q,R,T,l,m,n,p⟩:=d;go_simp⟩) a ?_
  try simp only[Act.put,sP]
  refine wpAnyH_take (i:=22) (v:=.int .i64 k) rfl (by kernel_rfl) (by kernel_rfl) (by kernel_rfl) (fun _ _ _ h=>h) (Or.inl ⟨by rfl,fun w d=>by go_simp⟩) a ?_
  try simp only[Act.put,sP]
  refine wpAnyH_take (i:=23) (v:=.pointer (some ⟨b2,k*9,none⟩)) rfl (by kernel_rfl) (by kernel_rfl) (by kernel_rfl) (fun _ _ _ h=>h) (Or.inl ⟨by rfl,fun w d=>by go_simp⟩) a ?_
  try simp only[Act.put,sP]
  refine wpAnyH_take (i:=24) (v:=.pointer (some ⟨b2,k*9+3,none⟩)) rfl (by kernel_rfl) (by kernel_rfl) (by kernel_rfl) (fun _ _ _ h=>h) (Or.inl ⟨by rfl,fun w d=>by go_simp⟩) a ?_
  try simp only[Act.put,sP]
  refine wpAnyH_take (i:=25) (v:=.agg #[.int .i64 r.b.kd,.string ⟨r.b.nm.toArray⟩,.float .f64 r.b.x,.slice k2 r.b.ks.length l2,.complex .f64 r.b.z.1 r.b.z.2]) rfl (by kernel_rfl) (by kernel_rfl) (by kernel_rfl) (fun _ _ _ h=>h) (Or.inl ⟨by rfl,fun w d=>by obtain⟨J,s1,L,M,N,O,P,Q,R,T,l,m,n,p⟩:=d;go_simp⟩) a ?_
  try simp only[Act.put,sP]
  refine wpAnyH_ready (rs:=[26]) (by kernel_rfl) (by simp) (AllReadyH.cons rfl (fun K hK=>?_) AllReadyH.nil);rw[if_pos (by rfl)]
  try go_simp
  go_at_call 32
  refine(X.out _ (Below.refl _ _).drew).mono ?_;rintro e w8 ⟨rfl,hb⟩;have f:Below wr.heap.size wr w8:=(Below.refl _ _).drew.trans hb;have V:=aA (j.out.trans (f.mono j.out.size));refine hK.out _ _ ⟨Aa g0 f,Aa j0 f,Aa e3 f,Aa e4 f,Aa e5 f,Aa e6 f,Aa e7 f,Aa e8 f,Aa f3 f,Aa f4 f,Aa f5 f,Aa f6 f,Aa f7 f,Aa f8 f⟩ (fun a=>?_)
  try simp only[Act.put,sP]
  refine wpAnyH_take (i:=27) (v:=.bool false) rfl (by kernel_rfl) (by kernel_rfl) (by kernel_rfl) (fun _ _ _ h=>h) (Or.inl ⟨by rfl,fun w d=>by go_simp⟩) a ?_
  try simp only[Act.put,sP]
  refine wpAnyH_take (i:=28) (v:=.bool false) rfl (by kernel_rfl) (by kernel_rfl) (by kernel_rfl) (fun _ _ _ h=>h) (Or.inl ⟨by rfl,fun w d=>by go_simp⟩) a ?_
  try simp only[Act.put,sP]
  refine wpAnyH_done (by kernel_rfl) ?_ _;replace e2:=Aa e2 f;replace g0:=Aa g0 f;rw[n0] at e2;clear a hb X e0 e1 e3 e4 e5 e6 e7 e8 f0 f1 f2 f3 f4 f5 f6 f7 f8 j0 j1 g1;go_wp2
  go_loop [6] (fun i=>i = .int .i64 0) (fun _=>0)
  case atStart=>rfl
  obtain rfl:=hrel;go_wp2
  go_roundg (gk-1)
  case measure=>omega
  exact⟨k+1,congrArg (Value.int .i64) (by have:=l0.out;unfold maxLen at this;unfold RowKit.wrap64;omega),by omega,V⟩
 obtain hke:k=rs.length:=(by omega);subst hke;clear t u;go_wp2
 go_loop [7] (fun i=>i = .int .i64 0) (fun _=>0)
 case atStart=>rfl
 obtain rfl:=hrel;go_wp2;go_ret;exact⟨rfl,E.out.trans (j.out.mono E.out.size)⟩
end Go.Proofs.YtfblenhlildnaaaGreatDoor
