/- Bt -/
import Derived.Test.YtjolfpcpcaocmaaGreatDoorBr
import Derived.Deep.RegionHeld3
set_option maxRecDepth 100000
set_option maxHeartbeats 4000000
open Go.Lib renaming hid->aA
open List renaming setIfInBounds_toArray->aB,set_cons_zero->aD,set_cons_succ->aE
open Go.World renaming size_alloc->aC
namespace Go.Proofs.YtjolfpcpcaocmaaGreatDoor
open Go.Proofs.Tryz
open Go.RowKit
theorem Y9 {T:TypeId} {w:World} {u v:Tr} {a kv:Value} {B:Nat} (g:Am T w (B <= ·) u.ks a) (i:Am T w (B <= ·) v.ks kv) (e:B<=w.heap.size) :
  Am T (w.alloc (.cells #[.int .i64 u.kd,.string ⟨u.nm.toArray⟩,.float .f64 u.x,a,.complex .f64 u.z.1 u.z.2,.int .i64 v.kd,.string ⟨v.nm.toArray⟩,.float .f64 v.x,kv,.complex .f64 v.z.1 v.z.2] T)) (B <= ·) [u,v] (.slice (some ⟨w.heap.size,0,none⟩) 2 2):=by
 have c:Am T w (fun j=>B<=j/\j≠w.heap.size) u.ks a:=g.mono fun j f h=>⟨h,by omega⟩;have d:Am T w (fun j=>B<=j/\j≠w.heap.size) v.ks kv:=i.mono fun j f h=>⟨h,by omega⟩;refine Am.row (B <= ·) [(u,a),(v,kv)] w.heap.size 2 _ e (heap_alloc_new _ _) (by simp) (by decide) rfl rfl fun p b=>?_;rcases List.mem_cons.1 b with rfl | b
 ·exact c.bel (Ad _ _)
 obtain rfl:p=(v,kv):=(by simpa using b);exact d.bel (Ad _ _)
set_option linter.unusedSimpArgs false in
theorem Yb {nx:Nat->Bool->Tk} {pl:Nat->Nat×Nat} {m:List UInt8->Option Bool} {H:World} {q:Nat} {s:ByteArray} (hN:F2 nx s H) (hP:PlC pl s) (n:Nat)
  (hO:NC nx pl m H q s n .post 143) (hU:NC nx pl m H q s n .unary 139) (p:Ps) (W:World) (h:Pz H q s p W) {l:List Tr} {N T:Ps} {z:Nat×Nat} (r1:Dn nx pl m n .post p = .ok l N) (h0:(nx N.a false).e=0) (Q:EP (nx N.a false) [94]=true)
  (r3:EQ nx pl [94] N = .ok z T) (Y:Dn nx pl m n .unary T ≠ .hush) :
  Calls prog 142 #[.pointer (some ⟨q,0,none⟩)] W (HJ q W ((Dn nx pl m n .unary T).bind fun x p' => .ok [.mk 15 [94] 0 z (l++x)] p') (NM H q s W)):=by
 have c0:=h.lt;have e0:=h.below.size;obtain⟨o,eo⟩:∃o:Obj,o = .cells #[.int .i64 0,.string ⟨#[]⟩,.float .f64 0,.slice none 0 0,.complex .f64 0 0] 34:=⟨_,rfl⟩
 have P:Hid (Pz H q s p (W.alloc o)/\Ae q W (W.alloc o)/\C5 (W.alloc o) W.heap.size (.int .i64 0) (.string ⟨#[]⟩) (.float .f64 0) (.slice none 0 0) (.complex .f64 0 0)) :=
  ⟨h.keep (Ad _ _),Ae.of_below q (Ad _ _),eo▸C5.new _ _ _ _ _ _ _⟩
 subst eo;have H1:=aA (hO p _ P.out.1 (by rw[r1];intro h;cases h));rw[r1] at H1;have HS:=aA (fun W (h:Pz H q s N W)=>XH hN h [94] h0 Q);have HG:=aA (fun W (h:Pz H q s N W)=>EM hN hP h [94]);rw[r3] at HG;have V:=aA (fun W h=>hU T W h Y);clear hN hP h hO hU r1 r3 h0 Q
 cases r4:Dn nx pl m n .unary T with
 | hush=>exact absurd r4 Y
 | bad f e =>
   rw[r4] at V;simp only[Hf.bind];clear Y
   go_in
   go_wp2_with (first | (go_at_call 143;(with_reducible refine H1.out.mono ?_);rintro e c ⟨v1,rfl,⟨⟨u,kv,rfl,rfl,E⟩,C⟩,g⟩;obtain⟨ka,r,rfl⟩:=E.slice;unfold CJ) | (go_at_call 19;(with_reducible refine(HS.out _ (C.keep (Ad _ _))).mono ?_);rintro e w2 ⟨rfl,b⟩) | (go_at_call 18;(with_reducible refine(HG.out _ ((C.keep (Ad _ _)).keep b)).mono ?_);rintro e G ⟨v3,rfl,⟨rfl,M⟩,d⟩;have J:=g.size;have L:=b.size;have b0:=d.size;simp only[aC] at J L;have X:=aA (((C5.new c (.int .i64 u.kd) (.string ⟨u.nm.toArray⟩) (.float .f64 u.x) (.slice ka u.ks.length r) (.complex .f64 u.z.1 u.z.2) 34).below b).only d (by omega));obtain⟨m0,m1,m2,m3,m4,mf⟩:=X.out;have HC:=aA ((((P.out.2.2.only g (by omega)).alloc (.cells #[.int .i64 u.kd,.string ⟨u.nm.toArray⟩,.float .f64 u.x,.slice ka u.ks.length r,.complex .f64 u.z.1 u.z.2] 34)).below b).only d (by omega));obtain⟨n0,n1,n2,n3,n4,nf⟩:=HC.out))
   have D:=aA ((Ad c (.cells #[.int .i64 u.kd,.string ⟨u.nm.toArray⟩,.float .f64 u.x,.slice ka u.ks.length r,.complex .f64 u.z.1 u.z.2] 34)).trans (b.mono (by simp)));have I:=aA (((P.out.2.1.trans g).trans (Ae.of_below q D.out)).trans d);refine wp_region_held_drew (S:=(fun o=>o.cell? ⟨c.heap.size,0,none⟩=some (.int .i64 u.kd)/\o.cell? ⟨c.heap.size,1,none⟩=some (.string ⟨u.nm.toArray⟩)/\o.cell? ⟨c.heap.size,2,none⟩=some (.float .f64 u.x)/\o.cell? ⟨c.heap.size,3,none⟩=some (.slice ka u.ks.length r)/\o.cell? ⟨c.heap.size,4,none⟩=some (.complex .f64 u.z.1 u.z.2))) (by kernel_rfl) ⟨m0,m1,m2,m3,m4⟩ (fun hH=>?_);refine wpAnyH_take (i:=0) (v:=.complex .f64 z.1 z.2) rfl (by kernel_rfl) (by kernel_rfl) (by kernel_rfl) (fun _ _ _ h=>h) (Or.inl ⟨by rfl,fun w hS=>by go_simp⟩) (by assumption) ?_
   (try dsimp only);try simp only[Act.put,aB,aD,aE]
   refine wpAnyH_take (i:=1) (v:=(.agg #[.int .i64 u.kd,.string ⟨u.nm.toArray⟩,.float .f64 u.x,.slice ka u.ks.length r,.complex .f64 u.z.1 u.z.2])) rfl (by kernel_rfl) (by kernel_rfl) (by kernel_rfl) (fun _ _ _ h=>h) (Or.inl ⟨by rfl,fun w hS=>by obtain⟨Z,s1,s2,s3,s4⟩:=hS;go_simp⟩) (by assumption) ?_
   (try dsimp only);try simp only[Act.put,aB,aD,aE]
   refine wpAnyH_take (i:=2) (v:=.pointer (some ⟨q,0,none⟩)) rfl (by kernel_rfl) (by kernel_rfl) (by kernel_rfl) (fun _ _ _ h=>h) (Or.inl ⟨by rfl,fun w hS=>by go_simp⟩) (by assumption) ?_
   (try dsimp only);try simp only[Act.put,aB,aD,aE]
   refine wpAnyH_ready (rs:=[3]) (by kernel_rfl) (by simp) ?_;refine AllReadyH.cons rfl (fun K hK=>?_) AllReadyH.nil;rw[if_pos (by rfl)]
   try go_simp
   go_at_call 139
   refine(V.out _ M.drew).mono ?_;rintro e U ⟨rfl,F⟩;exact⟨rfl,rfl,(I.out.trans (Ae.drew (Ae.refl q _))).trans F⟩
 | ok l2 p3 =>
   rw[r4] at V;simp only[Hf.bind];clear Y
   go_in
   go_wp2_with (first | (go_at_call 143;(with_reducible refine H1.out.mono ?_);rintro e c ⟨v1,rfl,⟨⟨u,kv,rfl,rfl,E⟩,C⟩,g⟩;obtain⟨ka,r,rfl⟩:=E.slice;unfold CJ) | (go_at_call 19;(with_reducible refine(HS.out _ (C.keep (Ad _ _))).mono ?_);rintro e w2 ⟨rfl,b⟩) | (go_at_call 18;(with_reducible refine(HG.out _ ((C.keep (Ad _ _)).keep b)).mono ?_);rintro e G ⟨v3,rfl,⟨rfl,M⟩,d⟩;have J:=g.size;have L:=b.size;have b0:=d.size;simp only[aC] at J L;have X:=aA (((C5.new c (.int .i64 u.kd) (.string ⟨u.nm.toArray⟩) (.float .f64 u.x) (.slice ka u.ks.length r) (.complex .f64 u.z.1 u.z.2) 34).below b).only d (by omega));obtain⟨m0,m1,m2,m3,m4,mf⟩:=X.out;have HC:=aA ((((P.out.2.2.only g (by omega)).alloc (.cells #[.int .i64 u.kd,.string ⟨u.nm.toArray⟩,.float .f64 u.x,.slice ka u.ks.length r,.complex .f64 u.z.1 u.z.2] 34)).below b).only d (by omega));obtain⟨n0,n1,n2,n3,n4,nf⟩:=HC.out))
   have D:=aA ((Ad c (.cells #[.int .i64 u.kd,.string ⟨u.nm.toArray⟩,.float .f64 u.x,.slice ka u.ks.length r,.complex .f64 u.z.1 u.z.2] 34)).trans (b.mono (by simp)));have I:=aA (((P.out.2.1.trans g).trans (Ae.of_below q D.out)).trans d);have A:c.heap.size≠W.heap.size:=(by omega);have d0:G.drew.cell? ⟨c.heap.size,0,none⟩=some (.int .i64 u.kd):=m0;have d1:G.drew.cell? ⟨c.heap.size,1,none⟩=some (.string ⟨u.nm.toArray⟩):=m1;have d2:G.drew.cell? ⟨c.heap.size,2,none⟩=some (.float .f64 u.x):=m2;have d3:G.drew.cell? ⟨c.heap.size,3,none⟩=some (.slice ka u.ks.length r):=m3;have d4:G.drew.cell? ⟨c.heap.size,4,none⟩=some (.complex .f64 u.z.1 u.z.2):=m4
   go_region_held3 (fun o=>o.cell? ⟨c.heap.size,0,none⟩=some (.int .i64 u.kd)/\o.cell? ⟨c.heap.size,1,none⟩=some (.string ⟨u.nm.toArray⟩)/\o.cell? ⟨c.heap.size,2,none⟩=some (.float .f64 u.x)/\o.cell? ⟨c.heap.size,3,none⟩=some (.slice ka u.ks.length r)/\o.cell? ⟨c.heap.size,4,none⟩=some (.complex .f64 u.z.1 u.z.2)) (first | with_reducible exact⟨d0,d1,d2,d3,d4⟩ | with_reducible exact⟨Z,s1,s2,s3,s4⟩ | with_reducible exact⟨Az Z _,Az s1 _,Az s2 _,Az s3 _,Az s4 _⟩ | with_reducible exact⟨Em (Az Z _) A,Em (Az s1 _) A,Em (Az s2 _) A,Em (Az s3 _) A,Em (Az s4 _) A⟩)
    (first | (go_at_call 139;(refine(V.out _ M.drew).mono ?_);rintro e U ⟨v4,rfl,⟨⟨y,ky,rfl,rfl,R⟩,f0⟩,F⟩;obtain⟨ya,yc,rfl⟩:=R.slice;unfold CJ;have g0:G.heap.size<=U.heap.size:=F.size;have k:=aA ((Ae.drew (Ae.refl q G)).trans F);have HY:=aA (X.out.only k.out (by omega));obtain⟨Z,s1,s2,s3,s4,sf⟩:=HY.out;have O:=aA (HC.out.only k.out (by omega));clear n0 n1 n2 n3 n4 nf;obtain⟨n0,n1,n2,n3,n4,nf⟩:=O.out.alloc (.cells #[.int .i64 u.kd,.string ⟨u.nm.toArray⟩,.float .f64 u.x,.slice ka u.ks.length r,.complex .f64 u.z.1 u.z.2,.int .i64 y.kd,.string ⟨y.nm.toArray⟩,.float .f64 y.x,.slice ya y.ks.length yc,.complex .f64 y.z.1 y.z.2] 34)))
   go_wp2;obtain⟨z0,z1,z2,z3,z4,zf⟩:=(((((O.out.alloc (.cells #[.int .i64 u.kd,.string ⟨u.nm.toArray⟩,.float .f64 u.x,.slice ka u.ks.length r,.complex .f64 u.z.1 u.z.2,.int .i64 y.kd,.string ⟨y.nm.toArray⟩,.float .f64 y.x,.slice ya y.ks.length yc,.complex .f64 y.z.1 y.z.2] 34)).set0 (.int .i64 15)).set1 (.string ⟨#[94]⟩)).set2 (.float .f64 0)).set3 (.slice (some ⟨U.heap.size,0,none⟩) 2 2)).set4 (.complex .f64 z.1 z.2);have a0:=Y9 (B:=W.heap.size+1) (((E.bel D.out).only (d.trans k.out) (by simp only[aC];omega)).mono fun j _ h=>by simpa using h) (R.mono fun j _ h=>Nat.le_trans (show W.heap.size+1<=G.heap.size by omega) h) (by omega)
   have hd:=F3 (t:=.mk 15 [94] 0 z [u,y]) (W:=W) (w1:=W.alloc (.cells #[.int .i64 0,.string ⟨#[]⟩,.float .f64 0,.slice none 0 0,.complex .f64 0 0] 34)) (a0.mono fun j _ h=>by rw[aC];exact h) (by simp) (f0.keep (Ad _ _)) ((I.out.trans k.out).trans (Ae.of_below q (Ad _ _))) c0 e0 (.int .i64 15) (.string ⟨#[94]⟩) (.float .f64 0) (.slice (some ⟨U.heap.size,0,none⟩) 2 2) (.complex .f64 z.1 z.2);exact bodyPost_ret (v:=.agg #[.int .i64 15,.string ⟨#[94]⟩,.float .f64 0,.slice (some ⟨U.heap.size,0,none⟩) 2 2,.complex .f64 z.1 z.2]) (by simp[results,results142,go_sem,z0,z1,z2,z3,z4]<;>exact rfl) rfl ⟨_,rfl,hd.1,hd.2⟩
end Go.Proofs.YtjolfpcpcaocmaaGreatDoor
