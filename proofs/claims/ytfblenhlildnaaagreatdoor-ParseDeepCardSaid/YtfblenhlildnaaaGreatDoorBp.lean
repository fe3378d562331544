/- Bp Bq Br Bs Bt -/
import Derived.Test.YtfblenhlildnaaaGreatDoorBg
import Derived.Deep.RegionHeld3
set_option maxRecDepth 100000
set_option maxHeartbeats 4000000
open Go.Lib renaming hid->aA
open List renaming setIfInBounds_toArray->aB,set_cons_zero->aC,set_cons_succ->aD
open Go.World renaming size_alloc->aE
open Nat renaming le_trans->aF
namespace Go.Proofs.YtfblenhlildnaaaGreatDoor
open Go.Proofs.Tryz
open Go.RowKit
theorem Rw {T:TypeId} {w:World} {u:Tr} {kv:Value} {B:Nat} (c:Am T w (B <= ·) u.ks kv) (b:B<=w.heap.size) :
  Am T (w.alloc (.cells #[.int .i64 u.kd,.string ⟨u.nm.toArray⟩,.float .f64 u.x,kv,.complex .f64 u.z.1 u.z.2] T)) (B <= ·) [u] (.slice (some ⟨w.heap.size,0,none⟩) 1 1):=by
 have a:Am T w (fun j=>B<=j/\j≠w.heap.size) u.ks kv:=c.mono fun j e h=>⟨h,by omega⟩;refine Am.row (B <= ·) [(u,kv)] w.heap.size 1 _ b (heap_alloc_new _ _) (by simp) (by decide) rfl rfl fun p d=>?_;obtain rfl:p=(u,kv):=(by simpa using d);exact a.bel (Ad _ _)
set_option linter.unusedSimpArgs false in
theorem Yh {nx:Nat->Bool->Tk} {pl:Nat->Nat×Nat} {ere:List UInt8->Option Bool} {F:World} {q:Nat} {s:ByteArray} (hN:F2 nx s F) (hP:H6 pl s) (n:Nat)
  (hU:NC nx pl ere F q s n .unary 294) (p:Ps) (W:World) (h:Pz F q s p W) (X:(nx p.a true).e=0) (r:isS (nx p.a true) [33]=true)
  (I:Dn nx pl ere n .unary (CQ (nx p.a true) p) ≠ .hush) :
  Calls prog 294 #[.pointer (some ⟨q,0,none⟩)] W (AbS q W ((Dn nx pl ere n .unary (CQ (nx p.a true) p)).bind fun x p' => .ok [.mk 16 (nx p.a true).tx 0 (pl (nx p.a true).f) x] p') (NM F q s W)):=by
 have c0:=h.lt;have f0:=h.below.size;have hd1:=h.d1;obtain⟨o,eo⟩:∃o:Obj,o = .cells #[.int .i64 0,.string ⟨#[]⟩,.float .f64 0,.slice none 0 0,.complex .f64 0 0] 42:=⟨_,rfl⟩
 have T:Hid (Pz F q s p (W.alloc o)/\Ae q W (W.alloc o)/\C5 (W.alloc o) W.heap.size (.int .i64 0) (.string ⟨#[]⟩) (.float .f64 0) (.slice none 0 0) (.complex .f64 0 0)) :=
  ⟨h.keep (Ad _ _),Ae.of_below q (Ad _ _),eo▸C5.new _ _ _ _ _ _ _⟩
 subst eo;have R:=aA (Ea hN T.out.1 true);have e0:=hN.ok p.a true h.ha X;obtain⟨t,et⟩:∃t,nx p.a true=t:=⟨_,rfl⟩;rw[et] at R I e0 X r ⊢;clear et;unfold G1 at R;have HI:=aA (F5 r);have HK:=aA (fun W' (h':Py F q s p W')=>AbD hP h' t (by omega) (by omega) (by omega));have U:=aA (fun W h=>hU (CQ t p) W h I);have d:=aA (fun m (b:Below _ _ m)=>Tf.start (T.out.1.keep b) (T.out.2.1.trans (Ae.of_below q b)) t 70);clear hN hP h hU r
 cases r2:Dn nx pl ere n .unary (CQ t p) with
 | hush=>exact absurd r2 I
 | bad f e =>
   rw[r2] at U;simp only[Hf.bind];clear I
   go_in
   go_wp2_with (first | (go_at_call 65;(with_reducible refine R.out.mono ?_);rintro e m ⟨b,⟨-,rfl⟩ | ⟨h1,-⟩⟩;rotate_left;exact absurd X h1;replace d:=aA (d.out _ b)) | (go_at_call 45;(with_reducible refine(HI.out _).mono ?_);rintro e w2 ⟨rfl,g⟩;replace d:=aA (d.out.keep g);obtain⟨L,E,M,N,O,P⟩:=d.out.t) | (go_at_call 66;refine(HK.out _ d.out.p.y).mono ?_;rintro e G ⟨rfl,D,c⟩;have A:=b.size;have C:=g.size;have b0:=c.size;simp only[aE] at A C;have V:=aA (d.out.t.only c (by omega));clear L E M N O P;obtain⟨L,E,M,N,O,P⟩:=V.out))
   refine wp_region_held_drew (S:=fun o=>o.cell? ⟨m.heap.size,1,none⟩=some (.string ⟨t.tx.toArray⟩)) (by kernel_rfl) E (fun hH=>?_);refine wpAnyH_take (i:=0) (v:=.pointer (some ⟨m.heap.size,1,none⟩)) rfl (by kernel_rfl) (by kernel_rfl) (by kernel_rfl) (fun _ _ _ h=>h) (Or.inl ⟨by rfl,fun w hS=>by go_simp⟩) (by assumption) ?_
   (try dsimp only);try simp only[Act.put,aB,aC,aD]
   refine wpAnyH_take (i:=1) (v:=.string ⟨t.tx.toArray⟩) rfl (by kernel_rfl) (by kernel_rfl) (by kernel_rfl) (fun _ _ _ h=>h) (Or.inl ⟨by rfl,fun w hS=>by go_simp⟩) (by assumption) ?_
   (try dsimp only);try simp only[Act.put,aB,aC,aD]
   refine wpAnyH_take (i:=2) (v:=.complex .f64 (pl t.f).1 (pl t.f).2) rfl (by kernel_rfl) (by kernel_rfl) (by kernel_rfl) (fun _ _ _ h=>h) (Or.inl ⟨by rfl,fun w hS=>by go_simp⟩) (by assumption) ?_
   (try dsimp only);try simp only[Act.put,aB,aC,aD]
   refine wpAnyH_take (i:=3) (v:=.pointer (some ⟨q,0,none⟩)) rfl (by kernel_rfl) (by kernel_rfl) (by kernel_rfl) (fun _ _ _ h=>h) (Or.inl ⟨by rfl,fun w hS=>by go_simp⟩) (by assumption) ?_
   (try dsimp only);try simp only[Act.put,aB,aC,aD]
   refine wpAnyH_ready (rs:=[4]) (by kernel_rfl) (by simp) ?_;refine AllReadyH.cons rfl (fun K hK=>?_) AllReadyH.nil;rw[if_pos (by rfl)]
   try go_simp
   go_at_call 294
   refine(U.out _ D.drew).mono ?_;rintro e Q ⟨rfl,k⟩;exact⟨rfl,rfl,((d.out.o.trans c).trans (Ae.drew (Ae.refl q _))).trans k⟩
 | ok l p2 =>
   rw[r2] at U;simp only[Hf.bind];clear I
   go_in
   go_wp2_with (first | (go_at_call 65;(with_reducible refine R.out.mono ?_);rintro e m ⟨b,⟨-,rfl⟩ | ⟨h1,-⟩⟩;rotate_left;exact absurd X h1;replace d:=aA (d.out _ b)) | (go_at_call 45;(with_reducible refine(HI.out _).mono ?_);rintro e w2 ⟨rfl,g⟩;replace d:=aA (d.out.keep g);obtain⟨L,E,M,N,O,P⟩:=d.out.t) | (go_at_call 66;refine(HK.out _ d.out.p.y).mono ?_;rintro e G ⟨rfl,D,c⟩;have A:=b.size;have C:=g.size;have b0:=c.size;simp only[aE] at A C;have V:=aA (d.out.t.only c (by omega));clear L E M N O P;obtain⟨L,E,M,N,O,P⟩:=V.out))
   have d0:m.heap.size≠W.heap.size:=(by omega);have i0:G.drew.cell? ⟨m.heap.size,1,none⟩=some (.string ⟨t.tx.toArray⟩):=E;have Y:=aA ((((T.out.2.2.below b).alloc (.cells #[.int .i64 t.kd,.string ⟨t.tx.toArray⟩,.float .f64 t.nm,.int .i64 t.f,.int .i64 t.t] 70)).below g).only c (by omega))
   go_region_held3 (fun o=>o.cell? ⟨m.heap.size,1,none⟩=some (.string ⟨t.tx.toArray⟩)) (first | with_reducible exact i0 | with_reducible exact s1 | with_reducible exact Az s1 _ | with_reducible exact Em (Az s1 _) d0)
    (first | (go_at_call 294;(refine(U.out _ D.drew).mono ?_);rintro e Q ⟨v4,rfl,⟨⟨u,kv,rfl,rfl,J⟩,g0⟩,k⟩;obtain⟨ka,kc,rfl⟩:=J.slice;unfold CJ;have j0:G.heap.size<=Q.heap.size:=k.size;have s1:=(V.out.only ((Ae.drew (Ae.refl q G)).trans k) (by omega)).c1;have H:=aA (Y.out.only ((Ae.drew (Ae.refl q G)).trans k) (by omega));obtain⟨n0,n1,n2,n3,n4,nf⟩:=H.out.alloc (.cells #[.int .i64 u.kd,.string ⟨u.nm.toArray⟩,.float .f64 u.x,.slice ka u.ks.length kc,.complex .f64 u.z.1 u.z.2] 42)))
   go_wp2;have Z:=H.out.alloc (.cells #[.int .i64 u.kd,.string ⟨u.nm.toArray⟩,.float .f64 u.x,.slice ka u.ks.length kc,.complex .f64 u.z.1 u.z.2] 42);obtain⟨z0,z1,z2,z3,z4,zf⟩:=((((Z.set0 (.int .i64 16)).set1 (.string ⟨t.tx.toArray⟩)).set2 (.float .f64 0)).set3 (.slice (some ⟨Q.heap.size,0,none⟩) 1 1)).set4 (.complex .f64 (pl t.f).1 (pl t.f).2);have a0:=Rw (B:=m.heap.size) (J.mono fun j _ h=>aF (show m.heap.size<=G.heap.size by omega) h) (by omega);have hd:=F3 (t:=.mk 16 t.tx 0 (pl t.f) [u]) (W:=W) (w1:=m) a0 (by omega) (g0.keep (Ad _ _)) ((((d.out.o.trans c).trans (Ae.drew (Ae.refl q _))).trans k).trans (Ae.of_below q (Ad _ _))) c0 f0 (.int .i64 16) (.string ⟨t.tx.toArray⟩) (.float .f64 0) (.slice (some ⟨Q.heap.size,0,none⟩) 1 1) (.complex .f64 (pl t.f).1 (pl t.f).2)
   exact bodyPost_ret (v:=.agg #[.int .i64 16,.string ⟨t.tx.toArray⟩,.float .f64 0,.slice (some ⟨Q.heap.size,0,none⟩) 1 1,.complex .f64 (pl t.f).1 (pl t.f).2]) (by simp[results,results294,go_sem,z0,z1,z2,z3,z4]<;>exact rfl) rfl ⟨_,rfl,hd.1,hd.2⟩
set_option linter.unusedSimpArgs false in
theorem XA {nx:Nat->Bool->Tk} {pl:Nat->Nat×Nat} {ere:List UInt8->Option Bool} {N:World} {q:Nat} {s:ByteArray} (hN:F2 nx s N) (hP:H6 pl s) (n:Nat)
  (hU:NC nx pl ere N q s n .unary 294) (p:Ps) (W:World) (h:Pz N q s p W) (h0:(nx p.a true).e=0) (H:isS (nx p.a true) [33]=false) (I:isS (nx p.a true) [45]=true)
  (T:Dn nx pl ere n .unary (CQ (nx p.a true) p) ≠ .hush) :
  Calls prog 294 #[.pointer (some ⟨q,0,none⟩)] W (AbS q W ((Dn nx pl ere n .unary (CQ (nx p.a true) p)).bind fun x p' => .ok [.mk 16 (nx p.a true).tx 0 (pl (nx p.a true).f) x] p') (NM N q s W)):=by
 have e0:=h.lt;have i0:=h.below.size;have hd1:=h.d1;obtain⟨o,eo⟩:∃o:Obj,o = .cells #[.int .i64 0,.string ⟨#[]⟩,.float .f64 0,.slice none 0 0,.complex .f64 0 0] 42:=⟨_,rfl⟩
 have Y:Hid (Pz N q s p (W.alloc o)/\Ae q W (W.alloc o)/\C5 (W.alloc o) W.heap.size (.int .i64 0) (.string ⟨#[]⟩) (.float .f64 0) (.slice none 0 0) (.complex .f64 0 0)) :=
  ⟨h.keep (Ad _ _),Ae.of_below q (Ad _ _),eo▸C5.new _ _ _ _ _ _ _⟩
 subst eo;have X:=aA (Ea hN Y.out.1 true);have g0:=hN.ok p.a true h.ha h0;obtain⟨t,et⟩:∃t,nx p.a true=t:=⟨_,rfl⟩;rw[et] at X T g0 h0 H I ⊢;clear et;unfold G1 at X;have Q:=aA (F5 H);have R:=aA (F5 I);have HK:=aA (fun W' (h':Py N q s p W')=>AbD hP h' t (by omega) (by omega) (by omega));have Z:=aA (fun W h=>hU (CQ t p) W h T);have c:=aA (fun r (d:Below _ _ r)=>Tf.start (Y.out.1.keep d) (Y.out.2.1.trans (Ae.of_below q d)) t 70);clear hN hP h hU H I
 cases r2:Dn nx pl ere n .unary (CQ t p) with
 | hush=>exact absurd r2 T
 | bad f e =>
   rw[r2] at Z;simp only[Hf.bind];clear T
   go_in
   go_wp2_with (first | (go_at_call 65;(with_reducible refine X.out.mono ?_);rintro e r ⟨d,⟨-,rfl⟩ | ⟨h1,-⟩⟩;rotate_left;exact absurd h0 h1;replace c:=aA (c.out _ d)) | (go_at_call 45;(with_reducible refine(Q.out _).mono ?_);rintro e w2 ⟨rfl,b⟩;replace c:=aA (c.out.keep b);obtain⟨C,A,D,E,F,G⟩:=c.out.t) | (go_at_call 45;(with_reducible refine(R.out _).mono ?_);rintro e w2 ⟨rfl,k⟩;replace b:=b.trans (k.mono b.size);replace c:=aA (c.out.keep k);clear k C A D E F G;obtain⟨C,A,D,E,F,G⟩:=c.out.t) | (go_at_call 66;refine(HK.out _ c.out.p.y).mono ?_;rintro e O ⟨rfl,M,g⟩;have J:=d.size;have L:=b.size;have d0:=g.size;simp only[aE] at J L;have HX:=aA (c.out.t.only g (by omega));clear C A D E F G;obtain⟨C,A,D,E,F,G⟩:=HX.out))
   refine wp_region_held_drew (S:=fun o=>o.cell? ⟨r.heap.size,1,none⟩=some (.string ⟨t.tx.toArray⟩)) (by kernel_rfl) A (fun hH=>?_);refine wpAnyH_take (i:=0) (v:=.pointer (some ⟨r.heap.size,1,none⟩)) rfl (by kernel_rfl) (by kernel_rfl) (by kernel_rfl) (fun _ _ _ h=>h) (Or.inl ⟨by rfl,fun w hS=>by go_simp⟩) (by assumption) ?_
   (try dsimp only);try simp only[Act.put,aB,aC,aD]
   refine wpAnyH_take (i:=1) (v:=.string ⟨t.tx.toArray⟩) rfl (by kernel_rfl) (by kernel_rfl) (by kernel_rfl) (fun _ _ _ h=>h) (Or.inl ⟨by rfl,fun w hS=>by go_simp⟩) (by assumption) ?_
   (try dsimp only);try simp only[Act.put,aB,aC,aD]
   refine wpAnyH_take (i:=2) (v:=.complex .f64 (pl t.f).1 (pl t.f).2) rfl (by kernel_rfl) (by kernel_rfl) (by kernel_rfl) (fun _ _ _ h=>h) (Or.inl ⟨by rfl,fun w hS=>by go_simp⟩) (by assumption) ?_
   (try dsimp only);try simp only[Act.put,aB,aC,aD]
   refine wpAnyH_take (i:=3) (v:=.pointer (some ⟨q,0,none⟩)) rfl (by kernel_rfl) (by kernel_rfl) (by kernel_rfl) (fun _ _ _ h=>h) (Or.inl ⟨by rfl,fun w hS=>by go_simp⟩) (by assumption) ?_
   (try dsimp only);try simp only[Act.put,aB,aC,aD]
   refine wpAnyH_ready (rs:=[4]) (by kernel_rfl) (by simp) ?_;refine AllReadyH.cons rfl (fun K hK=>?_) AllReadyH.nil;rw[if_pos (by rfl)]
   try go_simp
   go_at_call 294
   refine(Z.out _ M.drew).mono ?_;rintro e V ⟨rfl,m⟩;exact⟨rfl,rfl,((c.out.o.trans g).trans (Ae.drew (Ae.refl q _))).trans m⟩
 | ok l p2 =>
   rw[r2] at Z;simp only[Hf.bind];clear T
   go_in
   go_wp2_with (first | (go_at_call 65;(with_reducible refine X.out.mono ?_);rintro e r ⟨d,⟨-,rfl⟩ | ⟨h1,-⟩⟩;rotate_left;exact absurd h0 h1;replace c:=aA (c.out _ d)) | (go_at_call 45;(with_reducible refine(Q.out _).mono ?_);rintro e w2 ⟨rfl,b⟩;replace c:=aA (c.out.keep b);obtain⟨C,A,D,E,F,G⟩:=c.out.t) | (go_at_call 45;(with_reducible refine(R.out _).mono ?_);rintro e w2 ⟨rfl,k⟩;replace b:=b.trans (k.mono b.size);replace c:=aA (c.out.keep k);clear k C A D E F G;obtain⟨C,A,D,E,F,G⟩:=c.out.t) | (go_at_call 66;refine(HK.out _ c.out.p.y).mono ?_;rintro e O ⟨rfl,M,g⟩;have J:=d.size;have L:=b.size;have d0:=g.size;simp only[aE] at J L;have HX:=aA (c.out.t.only g (by omega));clear C A D E F G;obtain⟨C,A,D,E,F,G⟩:=HX.out))
   have f0:r.heap.size≠W.heap.size:=(by omega);have k0:O.drew.cell? ⟨r.heap.size,1,none⟩=some (.string ⟨t.tx.toArray⟩):=A;have a0:=aA ((((Y.out.2.2.below d).alloc (.cells #[.int .i64 t.kd,.string ⟨t.tx.toArray⟩,.float .f64 t.nm,.int .i64 t.f,.int .i64 t.t] 70)).below b).only g (by omega))
   go_region_held3 (fun o=>o.cell? ⟨r.heap.size,1,none⟩=some (.string ⟨t.tx.toArray⟩)) (first | with_reducible exact k0 | with_reducible exact s1 | with_reducible exact Az s1 _ | with_reducible exact Em (Az s1 _) f0)
    (first | (go_at_call 294;(refine(Z.out _ M.drew).mono ?_);rintro e V ⟨v4,rfl,⟨⟨u,kv,rfl,rfl,U⟩,j0⟩,m⟩;obtain⟨ka,kc,rfl⟩:=U.slice;unfold CJ;have l0:O.heap.size<=V.heap.size:=m.size;have s1:=(HX.out.only ((Ae.drew (Ae.refl q O)).trans m) (by omega)).c1;have P:=aA (a0.out.only ((Ae.drew (Ae.refl q O)).trans m) (by omega));obtain⟨n0,n1,n2,n3,n4,nf⟩:=P.out.alloc (.cells #[.int .i64 u.kd,.string ⟨u.nm.toArray⟩,.float .f64 u.x,.slice ka u.ks.length kc,.complex .f64 u.z.1 u.z.2] 42)))
   go_wp2;have b0:=P.out.alloc (.cells #[.int .i64 u.kd,.string ⟨u.nm.toArray⟩,.float .f64 u.x,.slice ka u.ks.length kc,.complex .f64 u.z.1 u.z.2] 42);obtain⟨z0,z1,z2,z3,z4,zf⟩:=((((b0.set0 (.int .i64 16)).set1 (.string ⟨t.tx.toArray⟩)).set2 (.float .f64 0)).set3 (.slice (some ⟨V.heap.size,0,none⟩) 1 1)).set4 (.complex .f64 (pl t.f).1 (pl t.f).2);have c0:=Rw (B:=r.heap.size) (U.mono fun j _ h=>aF (show r.heap.size<=O.heap.size by omega) h) (by omega);have hd:=F3 (t:=.mk 16 t.tx 0 (pl t.f) [u]) (W:=W) (w1:=r) c0 (by omega) (j0.keep (Ad _ _)) ((((c.out.o.trans g).trans (Ae.drew (Ae.refl q _))).trans m).trans (Ae.of_below q (Ad _ _))) e0 i0 (.int .i64 16) (.string ⟨t.tx.toArray⟩) (.float .f64 0) (.slice (some ⟨V.heap.size,0,none⟩) 1 1) (.complex .f64 (pl t.f).1 (pl t.f).2)
   exact bodyPost_ret (v:=.agg #[.int .i64 16,.string ⟨t.tx.toArray⟩,.float .f64 0,.slice (some ⟨V.heap.size,0,none⟩) 1 1,.complex .f64 (pl t.f).1 (pl t.f).2]) (by simp[results,results294,go_sem,z0,z1,z2,z3,z4]<;>exact rfl) rfl ⟨_,rfl,hd.1,hd.2⟩
set_option linter.unusedSimpArgs false in
theorem Xz {nx:Nat->Bool->Tk} {pl:Nat->Nat×Nat} {ere:List UInt8->Option Bool} {O:World} {q:Nat} {s:ByteArray} (hN:F2 nx s O) (hP:H6 pl s) (n:Nat)
  (hU:NC nx pl ere O q s n .unary 294) (p:Ps) (W:World) (h:Pz O q s p W) (h0:(nx p.a true).e=0) (H:isS (nx p.a true) [33]=false) (J:isS (nx p.a true) [45]=false) (I:isS (nx p.a true) [43]=true)
  (V:Dn nx pl ere n .unary (CQ (nx p.a true) p) ≠ .hush) :
  Calls prog 294 #[.pointer (some ⟨q,0,none⟩)] W (AbS q W ((Dn nx pl ere n .unary (CQ (nx p.a true) p)).bind fun x p' => .ok [.mk 16 (nx p.a true).tx 0 (pl (nx p.a true).f) x] p') (NM O q s W)):=by
 have e0:=h.lt;have i0:=h.below.size;have hd1:=h.d1;obtain⟨o,eo⟩:∃o:Obj,o = .cells #[.int .i64 0,.string ⟨#[]⟩,.float .f64 0,.slice none 0 0,.complex .f64 0 0] 42:=⟨_,rfl⟩
 have HQ:Hid (Pz O q s p (W.alloc o)/\Ae q W (W.alloc o)/\C5 (W.alloc o) W.heap.size (.int .i64 0) (.string ⟨#[]⟩) (.float .f64 0) (.slice none 0 0) (.complex .f64 0 0)) :=
  ⟨h.keep (Ad _ _),Ae.of_below q (Ad _ _),eo▸C5.new _ _ _ _ _ _ _⟩
 subst eo;have HP:=aA (Ea hN HQ.out.1 true);have g0:=hN.ok p.a true h.ha h0;obtain⟨t,et⟩:∃t,nx p.a true=t:=⟨_,rfl⟩;rw[et] at HP V g0 h0 H J I ⊢;clear et;unfold G1 at HP;have R:=aA (F5 H);have T:=aA (F5 J);have U:=aA (F5 I);have HK:=aA (fun W' (h':Py O q s p W')=>AbD hP h' t (by omega) (by omega) (by omega));have HU:=aA (fun W h=>hU (CQ t p) W h V);have d:=aA (fun G (g:Below _ _ G)=>Tf.start (HQ.out.1.keep g) (HQ.out.2.1.trans (Ae.of_below q g)) t 70);clear hN hP h hU H J I
 cases r2:Dn nx pl ere n .unary (CQ t p) with
 | hush=>exact absurd r2 V
 | bad f e =>
   rw[r2] at HU;simp only[Hf.bind];clear V
   go_in
   go_wp2_with (first | (go_at_call 65;(with_reducible refine HP.out.mono ?_);rintro e G ⟨g,⟨-,rfl⟩ | ⟨h1,-⟩⟩;rotate_left;exact absurd h0 h1;replace d:=aA (d.out _ g)) | (go_at_call 45;(with_reducible refine(R.out _).mono ?_);rintro e Y ⟨rfl,b⟩;replace d:=aA (d.out.keep b);obtain⟨A,m,C,D,E,F⟩:=d.out.t) | (go_at_call 45;(with_reducible refine(T.out _).mono ?_);rintro e Y ⟨rfl,c⟩;replace b:=b.trans (c.mono b.size);replace d:=aA (d.out.keep c);clear c A m C D E F;obtain⟨A,m,C,D,E,F⟩:=d.out.t) | (go_at_call 45;(with_reducible refine(U.out _).mono ?_);rintro e Y ⟨rfl,c⟩;replace b:=b.trans (c.mono b.size);replace d:=aA (d.out.keep c);clear c A m C D E F;obtain⟨A,m,C,D,E,F⟩:=d.out.t) | (go_at_call 66;refine(HK.out _ d.out.p.y).mono ?_;rintro e P ⟨rfl,N,k⟩;have L:=g.size;have M:=b.size;have d0:=k.size;simp only[aE] at L M;have HX:=aA (d.out.t.only k (by omega));clear A m C D E F;obtain⟨A,m,C,D,E,F⟩:=HX.out))
   refine wp_region_held_drew (S:=fun o=>o.cell? ⟨G.heap.size,1,none⟩=some (.string ⟨t.tx.toArray⟩)) (by kernel_rfl) m (fun hH=>?_);refine wpAnyH_take (i:=0) (v:=.pointer (some ⟨G.heap.size,1,none⟩)) rfl (by kernel_rfl) (by kernel_rfl) (by kernel_rfl) (fun _ _ _ h=>h) (Or.inl ⟨by rfl,fun w hS=>by go_simp⟩) (by assumption) ?_
   (try dsimp only);try simp only[Act.put,aB,aC,aD]
   refine wpAnyH_take (i:=1) (v:=.string ⟨t.tx.toArray⟩) rfl (by kernel_rfl) (by kernel_rfl) (by kernel_rfl) (fun _ _ _ h=>h) (Or.inl ⟨by rfl,fun w hS=>by go_simp⟩) (by assumption) ?_
   (try dsimp only);try simp only[Act.put,aB,aC,aD]
   refine wpAnyH_take (i:=2) (v:=.complex .f64 (pl t.f).1 (pl t.f).2) rfl (by kernel_rfl) (by kernel_rfl) (by kernel_rfl) (fun _ _ _ h=>h) (Or.inl ⟨by rfl,fun w hS=>by go_simp⟩) (by assumption) ?_
   (try dsimp only);try simp only[Act.put,aB,aC,aD]
   refine wpAnyH_take (i:=3) (v:=.pointer (some ⟨q,0,none⟩)) rfl (by kernel_rfl) (by kernel_rfl) (by kernel_rfl) (fun _ _ _ h=>h) (Or.inl ⟨by rfl,fun w hS=>by go_simp⟩) (by assumption) ?_
   (try dsimp only);try simp only[Act.put,aB,aC,aD]
   refine wpAnyH_ready (rs:=[4]) (by kernel_rfl) (by simp) ?_;refine AllReadyH.cons rfl (fun K hK=>?_) AllReadyH.nil;rw[if_pos (by rfl)]
   try go_simp
   go_at_call 294
   refine(HU.out _ N.drew).mono ?_;rintro e Z ⟨rfl,r⟩;exact⟨rfl,rfl,((d.out.o.trans k).trans (Ae.drew (Ae.refl q _))).trans r⟩
 | ok l p2 =>
   rw[r2] at HU;simp only[Hf.bind];clear V
   go_in
   go_wp2_with (first | (go_at_call 65;(with_reducible refine HP.out.mono ?_);rintro e G ⟨g,⟨-,rfl⟩ | ⟨h1,-⟩⟩;rotate_left;exact absurd h0 h1;replace d:=aA (d.out _ g)) | (go_at_call 45;(with_reducible refine(R.out _).mono ?_);rintro e Y ⟨rfl,b⟩;replace d:=aA (d.out.keep b);obtain⟨A,m,C,D,E,F⟩:=d.out.t) | (go_at_call 45;(with_reducible refine(T.out _).mono ?_);rintro e Y ⟨rfl,c⟩;replace b:=b.trans (c.mono b.size);replace d:=aA (d.out.keep c);clear c A m C D E F;obtain⟨A,m,C,D,E,F⟩:=d.out.t) | (go_at_call 45;(with_reducible refine(U.out _).mono ?_);rintro e Y ⟨rfl,c⟩;replace b:=b.trans (c.mono b.size);replace d:=aA (d.out.keep c);clear c A m C D E F;obtain⟨A,m,C,D,E,F⟩:=d.out.t) | (go_at_call 66;refine(HK.out _ d.out.p.y).mono ?_;rintro e P ⟨rfl,N,k⟩;have L:=g.size;have M:=b.size;have d0:=k.size;simp only[aE] at L M;have HX:=aA (d.out.t.only k (by omega));clear A m C D E F;obtain⟨A,m,C,D,E,F⟩:=HX.out))
   have f0:G.heap.size≠W.heap.size:=(by omega);have k0:P.drew.cell? ⟨G.heap.size,1,none⟩=some (.string ⟨t.tx.toArray⟩):=m;have a0:=aA ((((HQ.out.2.2.below g).alloc (.cells #[.int .i64 t.kd,.string ⟨t.tx.toArray⟩,.float .f64 t.nm,.int .i64 t.f,.int .i64 t.t] 70)).below b).only k (by omega))
   go_region_held3 (fun o=>o.cell? ⟨G.heap.size,1,none⟩=some (.string ⟨t.tx.toArray⟩)) (first | with_reducible exact k0 | with_reducible exact s1 | with_reducible exact Az s1 _ | with_reducible exact Em (Az s1 _) f0)
    (first | (go_at_call 294;(refine(HU.out _ N.drew).mono ?_);rintro e Z ⟨v4,rfl,⟨⟨u,kv,rfl,rfl,X⟩,j0⟩,r⟩;obtain⟨ka,kc,rfl⟩:=X.slice;unfold CJ;have l0:P.heap.size<=Z.heap.size:=r.size;have s1:=(HX.out.only ((Ae.drew (Ae.refl q P)).trans r) (by omega)).c1;have Q:=aA (a0.out.only ((Ae.drew (Ae.refl q P)).trans r) (by omega));obtain⟨n0,n1,n2,n3,n4,nf⟩:=Q.out.alloc (.cells #[.int .i64 u.kd,.string ⟨u.nm.toArray⟩,.float .f64 u.x,.slice ka u.ks.length kc,.complex .f64 u.z.1 u.z.2] 42)))
   go_wp2;have b0:=Q.out.alloc (.cells #[.int .i64 u.kd,.string ⟨u.nm.toArray⟩,.float .f64 u.x,.slice ka u.ks.length kc,.complex .f64 u.z.1 u.z.2] 42);obtain⟨z0,z1,z2,z3,z4,zf⟩:=((((b0.set0 (.int .i64 16)).set1 (.string ⟨t.tx.toArray⟩)).set2 (.float .f64 0)).set3 (.slice (some ⟨Z.heap.size,0,none⟩) 1 1)).set4 (.complex .f64 (pl t.f).1 (pl t.f).2);have c0:=Rw (B:=G.heap.size) (X.mono fun j _ h=>aF (show G.heap.size<=P.heap.size by omega) h) (by omega);have hd:=F3 (t:=.mk 16 t.tx 0 (pl t.f) [u]) (W:=W) (w1:=G) c0 (by omega) (j0.keep (Ad _ _)) ((((d.out.o.trans k).trans (Ae.drew (Ae.refl q _))).trans r).trans (Ae.of_below q (Ad _ _))) e0 i0 (.int .i64 16) (.string ⟨t.tx.toArray⟩) (.float .f64 0) (.slice (some ⟨Z.heap.size,0,none⟩) 1 1) (.complex .f64 (pl t.f).1 (pl t.f).2)
   exact bodyPost_ret (v:=.agg #[.int .i64 16,.string ⟨t.tx.toArray⟩,.float .f64 0,.slice (some ⟨Z.heap.size,0,none⟩) 1 1,.complex .f64 (pl t.f).1 (pl t.f).2]) (by simp[results,results294,go_sem,z0,z1,z2,z3,z4]<;>exact rfl) rfl ⟨_,rfl,hd.1,hd.2⟩
theorem XR {nx:Nat->Bool->Tk} {pl:Nat->Nat×Nat} {ere:List UInt8->Option Bool} {I:World} {q:Nat} {s:ByteArray} (hN:F2 nx s I) (n:Nat)
  (hO:NC nx pl ere I q s n .power 296) (p:Ps) (W:World) (h:Pz I q s p W) (O:(nx p.a true).e=0) (A:isS (nx p.a true) [33]=false) (C:isS (nx p.a true) [45]=false) (B:isS (nx p.a true) [43]=false)
  (N:Dn nx pl ere n .power p ≠ .hush) :
  Calls prog 294 #[.pointer (some ⟨q,0,none⟩)] W (AbS q W (Dn nx pl ere n .power p) (NM I q s W)):=by
 have S:=h.lt;have T:=h.below.size;obtain⟨o,Y⟩:∃o:Obj,o = .cells #[.int .i64 0,.string ⟨#[]⟩,.float .f64 0,.slice none 0 0,.complex .f64 0 0] 42:=⟨_,rfl⟩
 have M:Hid (Pz I q s p (W.alloc o)/\Ae q W (W.alloc o)/\C5 (W.alloc o) W.heap.size (.int .i64 0) (.string ⟨#[]⟩) (.float .f64 0) (.slice none 0 0) (.complex .f64 0 0)) :=
  ⟨h.keep (Ad _ _),Ae.of_below q (Ad _ _),Y▸C5.new _ _ _ _ _ _ _⟩
 subst Y;have L:=aA (Ea hN M.out.1 true);obtain⟨t,Z⟩:∃t,nx p.a true=t:=⟨_,rfl⟩;rw[Z] at L O A C B;clear Z;unfold G1 at L;have E:=aA (F5 A);have F:=aA (F5 C);have G:=aA (F5 B);have K:=aA (fun W h=>hO p W h N);have d:=aA (fun D (g:Below _ _ D)=>Tf.start (M.out.1.keep g) (M.out.2.1.trans (Ae.of_below q g)) t 70);clear hN h hO A C B
 cases X:Dn nx pl ere n .power p with
 | hush=>exact absurd X N
 | bad f e =>
   rw[X] at K;clear N
   go_in
   go_wp2_with (first | (go_at_call 65;(with_reducible refine L.out.mono ?_);rintro e D ⟨g,⟨-,rfl⟩ | ⟨P,-⟩⟩;rotate_left;exact absurd O P;replace d:=aA (d.out _ g);have c:=Below.refl (D.alloc (.cells #[.int .i64 t.kd,.string ⟨t.tx.toArray⟩,.float .f64 t.nm,.int .i64 t.f,.int .i64 t.t] 70)).heap.size (D.alloc (.cells #[.int .i64 t.kd,.string ⟨t.tx.toArray⟩,.float .f64 t.nm,.int .i64 t.f,.int .i64 t.t] 70));obtain⟨i,j,k,m,r,w⟩:=d.out.t) | (go_at_call 45;(with_reducible refine(E.out _).mono ?_);rintro e J ⟨rfl,b⟩;replace c:=c.trans (b.mono c.size);replace d:=aA (d.out.keep b);clear b i j k m r w;obtain⟨i,j,k,m,r,w⟩:=d.out.t) | (go_at_call 45;(with_reducible refine(F.out _).mono ?_);rintro e J ⟨rfl,b⟩;replace c:=c.trans (b.mono c.size);replace d:=aA (d.out.keep b);clear b i j k m r w;obtain⟨i,j,k,m,r,w⟩:=d.out.t) | (go_at_call 45;(with_reducible refine(G.out _).mono ?_);rintro e J ⟨rfl,b⟩;replace c:=c.trans (b.mono c.size);replace d:=aA (d.out.keep b);clear b i j k m r w;obtain⟨i,j,k,m,r,w⟩:=d.out.t) | (go_at_call 296;(with_reducible refine(K.out _ d.out.p).mono ?_);rintro e w3 ⟨rfl,y⟩))
   exact⟨rfl,rfl,d.out.o.trans y⟩
 | ok l p2 =>
   rw[X] at K;clear N
   go_in
   go_wp2_with (first | (go_at_call 65;(with_reducible refine L.out.mono ?_);rintro e D ⟨g,⟨-,rfl⟩ | ⟨P,-⟩⟩;rotate_left;exact absurd O P;replace d:=aA (d.out _ g);have c:=Below.refl (D.alloc (.cells #[.int .i64 t.kd,.string ⟨t.tx.toArray⟩,.float .f64 t.nm,.int .i64 t.f,.int .i64 t.t] 70)).heap.size (D.alloc (.cells #[.int .i64 t.kd,.string ⟨t.tx.toArray⟩,.float .f64 t.nm,.int .i64 t.f,.int .i64 t.t] 70));obtain⟨i,j,k,m,r,w⟩:=d.out.t) | (go_at_call 45;(with_reducible refine(E.out _).mono ?_);rintro e J ⟨rfl,b⟩;replace c:=c.trans (b.mono c.size);replace d:=aA (d.out.keep b);clear b i j k m r w;obtain⟨i,j,k,m,r,w⟩:=d.out.t) | (go_at_call 45;(with_reducible refine(F.out _).mono ?_);rintro e J ⟨rfl,b⟩;replace c:=c.trans (b.mono c.size);replace d:=aA (d.out.keep b);clear b i j k m r w;obtain⟨i,j,k,m,r,w⟩:=d.out.t) | (go_at_call 45;(with_reducible refine(G.out _).mono ?_);rintro e J ⟨rfl,b⟩;replace c:=c.trans (b.mono c.size);replace d:=aA (d.out.keep b);clear b i j k m r w;obtain⟨i,j,k,m,r,w⟩:=d.out.t) | (go_at_call 296;(with_reducible refine(K.out _ d.out.p).mono ?_);rintro e w3 ⟨v3,rfl,⟨⟨u,kv,rfl,rfl,H⟩,U⟩,y⟩;obtain⟨ka,V,rfl⟩:=H.slice;unfold CJ;have Q:=g.size;have R:=c.size;simp only[aE] at Q R;have HC:=aA ((((M.out.2.2.below g).alloc (.cells #[.int .i64 t.kd,.string ⟨t.tx.toArray⟩,.float .f64 t.nm,.int .i64 t.f,.int .i64 t.t] 70)).below c).only y (by omega));obtain⟨n0,n1,n2,n3,n4,nf⟩:=HC.out))
   obtain⟨z0,z1,z2,z3,z4,zf⟩:=((((HC.out.set0 (.int .i64 u.kd)).set1 (.string ⟨u.nm.toArray⟩)).set2 (.float .f64 u.x)).set3 (.slice ka u.ks.length V)).set4 (.complex .f64 u.z.1 u.z.2);have hd:=F3 (W:=W) H (by omega) U (d.out.o.trans y) S T (.int .i64 u.kd) (.string ⟨u.nm.toArray⟩) (.float .f64 u.x) (.slice ka u.ks.length V) (.complex .f64 u.z.1 u.z.2);exact bodyPost_ret (v:=CJ u (.slice ka u.ks.length V)) (by simp[CJ,results,results294,go_sem,z0,z1,z2,z3,z4]<;>exact rfl) rfl ⟨_,rfl,hd.1,hd.2⟩
theorem YV {nx:Nat->Bool->Tk} {c W:World} {q:Nat} {s:ByteArray} {p:Ps} (m:F2 nx s c) (h:Pz c q s p W) (k:¬ (nx p.a true).e=0) :
  Calls prog 294 #[.pointer (some ⟨q,0,none⟩)] W fun e o=>e = .panicked (T3 (nx p.a true).f (nx p.a true).e)/\Ae q W o:=by
 have d:=aA (Ad W (.cells #[.int .i64 0,.string ⟨#[]⟩,.float .f64 0,.slice none 0 0,.complex .f64 0 0] 42));have g:=aA (fun i (j:Pz c q s p i)=>Ea m j true);have n:=aA (h.keep d.out)
 go_in
 go_wp2_with (first | (go_at_call 65;(with_reducible refine(g.out _ n.out).mono ?_);rintro e r ⟨b,⟨l,-⟩ | ⟨-,rfl⟩⟩;exact absurd l k))
 exact⟨rfl,rfl,(Ae.of_below q d.out).trans (Ae.of_below q b)⟩
theorem Yi {nx:Nat->Bool->Tk} {pl:Nat->Nat×Nat} {ere:List UInt8->Option Bool} {l:World} {q:Nat} {s:ByteArray} (k:F2 nx s l) (m:H6 pl s) (n:Nat)
  (o:NC nx pl ere l q s n .unary 294) (r:NC nx pl ere l q s n .power 296):NC nx pl ere l q s (n+1) .unary 294:=by
 intro p W h d;rw[Dn,N1] at d ⊢;by_cases i:(nx p.a true).e=0
 ·rw[if_pos i] at d ⊢
  have j:(Dn nx pl ere n .unary (CQ (nx p.a true) p)).bind (fun x t=>(Hf.ok [Tr.mk 16 (nx p.a true).tx 0 (pl (nx p.a true).f) x] t:Hf (List Tr))) ≠ .hush->Dn nx pl ere n .unary (CQ (nx p.a true) p) ≠ .hush:=fun h e=>h (by rw[e];rfl)
  cases b:isS (nx p.a true) [33] with
  | true =>
    rw[b,if_pos (.inl rfl)] at d;rw[if_pos (.inl rfl)];exact Yh k m n o p W h i b (j d)
  | false =>
    cases c:isS (nx p.a true) [45] with
    | true =>
      rw[b,c,if_pos (.inr (.inl rfl))] at d;rw[if_pos (.inr (.inl rfl))];exact XA k m n o p W h i b c (j d)
    | false =>
      cases g:isS (nx p.a true) [43] with
      | true =>
        rw[b,c,g,if_pos (.inr (.inr rfl))] at d;rw[if_pos (.inr (.inr rfl))];exact Xz k m n o p W h i b c g (j d)
      | false =>
        rw[b,c,g,if_neg (by simp)] at d;rw[if_neg (by simp)];exact XR k n r p W h i b c g d
 rw[if_neg i];exact YV k h i
theorem XH {nx:Nat->Bool->Tk} {d W:World} {q:Nat} {s:ByteArray} {p:Ps} (j:F2 nx s d) (h:Pz d q s p W) (x:List UInt8) (f:(nx p.a false).e=0) {b:Bool} (k:isS (nx p.a false) x=b) :
  Calls prog 69 #[.pointer (some ⟨q,0,none⟩),.string ⟨x.toArray⟩] W fun e l=>e = .returned (.bool b)/\Below W.heap.size W l :=
 (NW j h x).mono fun _ _ ⟨g,i⟩=>i.elim (fun⟨_,c⟩=>⟨k▸c,g⟩) fun⟨c,_⟩=>absurd f c
theorem X4 {nx:Nat->Bool->Tk} {c W:World} {q:Nat} {s:ByteArray} {p:Ps} (j:F2 nx s c) (h:Pz c q s p W) (x:List UInt8) (d:¬ (nx p.a false).e=0) :
  Calls prog 69 #[.pointer (some ⟨q,0,none⟩),.string ⟨x.toArray⟩] W fun e k=>e = .panicked (T3 (nx p.a false).f (nx p.a false).e)/\Below W.heap.size W k :=
 (NW j h x).mono fun _ _ ⟨g,i⟩=>i.elim (fun⟨b,_⟩=>absurd b d) fun⟨_,b⟩=>⟨b,g⟩
theorem Ya {nx:Nat->Bool->Tk} {pl:Nat->Nat×Nat} {ere:List UInt8->Option Bool} {g:World} {q:Nat} {s:ByteArray} (F:F2 nx s g) (n:Nat)
  (G:NC nx pl ere g q s n .post 298) (p:Ps) (W:World) (h:Pz g q s p W) {l:List Tr} {m:Ps} (B:Dn nx pl ere n .post p = .ok l m) (E:(nx m.a false).e=0) (i:isS (nx m.a false) [94]=false) :
  Calls prog 296 #[.pointer (some ⟨q,0,none⟩)] W (AbS q W (.ok l m) (NM g q s W)):=by
 have y:=h.lt;have A:=h.below.size;obtain⟨o,D⟩:∃o:Obj,o = .cells #[.int .i64 0,.string ⟨#[]⟩,.float .f64 0,.slice none 0 0,.complex .f64 0 0] 42:=⟨_,rfl⟩
 have r:Hid (Pz g q s p (W.alloc o)/\Ae q W (W.alloc o)/\C5 (W.alloc o) W.heap.size (.int .i64 0) (.string ⟨#[]⟩) (.float .f64 0) (.slice none 0 0) (.complex .f64 0 0)) :=
  ⟨h.keep (Ad _ _),Ae.of_below q (Ad _ _),D▸C5.new _ _ _ _ _ _ _⟩
 subst D;have C:=aA (G p _ r.out.1 (by rw[B];intro h;cases h));rw[B] at C;have J:=aA (fun W (h:Pz g q s m W)=>XH F h [94] E i);clear F h G B E i
 go_in
 go_wp2_with (first | (go_at_call 298;(with_reducible refine C.out.mono ?_);rintro e I ⟨v1,rfl,⟨⟨u,P,rfl,rfl,j⟩,k⟩,d⟩;obtain⟨ka,f,rfl⟩:=j.slice;unfold CJ) | (go_at_call 69;(with_reducible refine(J.out _ (k.keep (Ad _ _))).mono ?_);rintro e w2 ⟨rfl,b⟩;have t:=d.size;have w:=b.size;simp only[aE] at t w;obtain⟨Q,R,S,T,U,V⟩:=(C5.new I (.int .i64 u.kd) (.string ⟨u.nm.toArray⟩) (.float .f64 u.x) (.slice ka u.ks.length f) (.complex .f64 u.z.1 u.z.2) 42).below b;have HC:=aA (((r.out.2.2.only d (by omega)).alloc (.cells #[.int .i64 u.kd,.string ⟨u.nm.toArray⟩,.float .f64 u.x,.slice ka u.ks.length f,.complex .f64 u.z.1 u.z.2] 42)).below b);obtain⟨X,Y,Z,n3,n4,nf⟩:=HC.out))
 obtain⟨K,L,M,N,O,zf⟩:=((((HC.out.set0 (.int .i64 u.kd)).set1 (.string ⟨u.nm.toArray⟩)).set2 (.float .f64 u.x)).set3 (.slice ka u.ks.length f)).set4 (.complex .f64 u.z.1 u.z.2);have c:=(Ad I (.cells #[.int .i64 u.kd,.string ⟨u.nm.toArray⟩,.float .f64 u.x,.slice ka u.ks.length f,.complex .f64 u.z.1 u.z.2] 42)).trans (b.mono (by simp));have H:=F3 (W:=W) (j.bel c) (by simp) (k.keep c) ((r.out.2.1.trans d).trans (Ae.of_below q c)) y A (.int .i64 u.kd) (.string ⟨u.nm.toArray⟩) (.float .f64 u.x) (.slice ka u.ks.length f) (.complex .f64 u.z.1 u.z.2);exact bodyPost_ret (v:=CJ u (.slice ka u.ks.length f)) (by simp[CJ,results,results296,go_sem,K,L,M,N,O]<;>exact rfl) rfl ⟨_,rfl,H.1,H.2⟩
theorem Y9 {T:TypeId} {w:World} {u v:Tr} {a kv:Value} {B:Nat} (g:Am T w (B <= ·) u.ks a) (i:Am T w (B <= ·) v.ks kv) (e:B<=w.heap.size) :
  Am T (w.alloc (.cells #[.int .i64 u.kd,.string ⟨u.nm.toArray⟩,.float .f64 u.x,a,.complex .f64 u.z.1 u.z.2,.int .i64 v.kd,.string ⟨v.nm.toArray⟩,.float .f64 v.x,kv,.complex .f64 v.z.1 v.z.2] T)) (B <= ·) [u,v] (.slice (some ⟨w.heap.size,0,none⟩) 2 2):=by
 have c:Am T w (fun j=>B<=j/\j≠w.heap.size) u.ks a:=g.mono fun j f h=>⟨h,by omega⟩;have d:Am T w (fun j=>B<=j/\j≠w.heap.size) v.ks kv:=i.mono fun j f h=>⟨h,by omega⟩;refine Am.row (B <= ·) [(u,a),(v,kv)] w.heap.size 2 _ e (heap_alloc_new _ _) (by simp) (by decide) rfl rfl fun p b=>?_;rcases List.mem_cons.1 b with rfl | b
 ·exact c.bel (Ad _ _)
 obtain rfl:p=(v,kv):=(by simpa using b);exact d.bel (Ad _ _)
set_option linter.unusedSimpArgs false in
theorem Yb {nx:Nat->Bool->Tk} {pl:Nat->Nat×Nat} {ere:List UInt8->Option Bool} {G:World} {q:Nat} {s:ByteArray} (hN:F2 nx s G) (hP:H6 pl s) (n:Nat)
  (hO:NC nx pl ere G q s n .post 298) (hU:NC nx pl ere G q s n .unary 294) (p:Ps) (W:World) (h:Pz G q s p W) {l:List Tr} {M R:Ps} {z:Nat×Nat} (r1:Dn nx pl ere n .post p = .ok l M) (h0:(nx M.a false).e=0) (P:isS (nx M.a false) [94]=true)
  (r3:Abb nx pl [94] M = .ok z R) (X:Dn nx pl ere n .unary R ≠ .hush) :
  Calls prog 296 #[.pointer (some ⟨q,0,none⟩)] W (AbS q W ((Dn nx pl ere n .unary R).bind fun x p' => .ok [.mk 15 [94] 0 z (l++x)] p') (NM G q s W)):=by
 have c0:=h.lt;have e0:=h.below.size;obtain⟨o,eo⟩:∃o:Obj,o = .cells #[.int .i64 0,.string ⟨#[]⟩,.float .f64 0,.slice none 0 0,.complex .f64 0 0] 42:=⟨_,rfl⟩
 have O:Hid (Pz G q s p (W.alloc o)/\Ae q W (W.alloc o)/\C5 (W.alloc o) W.heap.size (.int .i64 0) (.string ⟨#[]⟩) (.float .f64 0) (.slice none 0 0) (.complex .f64 0 0)) :=
  ⟨h.keep (Ad _ _),Ae.of_below q (Ad _ _),eo▸C5.new _ _ _ _ _ _ _⟩
 subst eo;have H1:=aA (hO p _ O.out.1 (by rw[r1];intro h;cases h));rw[r1] at H1;have HS:=aA (fun W (h:Pz G q s M W)=>XH hN h [94] h0 P);have HG:=aA (fun W (h:Pz G q s M W)=>EM hN hP h [94]);rw[r3] at HG;have U:=aA (fun W h=>hU R W h X);clear hN hP h hO hU r1 r3 h0 P
 cases r4:Dn nx pl ere n .unary R with
 | hush=>exact absurd r4 X
 | bad f e =>
   rw[r4] at U;simp only[Hf.bind];clear X
   go_in
   go_wp2_with (first | (go_at_call 298;(with_reducible refine H1.out.mono ?_);rintro e c ⟨v1,rfl,⟨⟨u,kv,rfl,rfl,D⟩,A⟩,g⟩;obtain⟨ka,m,rfl⟩:=D.slice;unfold CJ) | (go_at_call 69;(with_reducible refine(HS.out _ (A.keep (Ad _ _))).mono ?_);rintro e w2 ⟨rfl,b⟩) | (go_at_call 68;(with_reducible refine(HG.out _ ((A.keep (Ad _ _)).keep b)).mono ?_);rintro e F ⟨v3,rfl,⟨rfl,L⟩,d⟩;have I:=g.size;have J:=b.size;have b0:=d.size;simp only[aE] at I J;have V:=aA (((C5.new c (.int .i64 u.kd) (.string ⟨u.nm.toArray⟩) (.float .f64 u.x) (.slice ka u.ks.length m) (.complex .f64 u.z.1 u.z.2) 42).below b).only d (by omega));obtain⟨m0,m1,m2,m3,m4,mf⟩:=V.out;have HC:=aA ((((O.out.2.2.only g (by omega)).alloc (.cells #[.int .i64 u.kd,.string ⟨u.nm.toArray⟩,.float .f64 u.x,.slice ka u.ks.length m,.complex .f64 u.z.1 u.z.2] 42)).below b).only d (by omega));obtain⟨n0,n1,n2,n3,n4,nf⟩:=HC.out))
   have C:=aA ((Ad c (.cells #[.int .i64 u.kd,.string ⟨u.nm.toArray⟩,.float .f64 u.x,.slice ka u.ks.length m,.complex .f64 u.z.1 u.z.2] 42)).trans (b.mono (by simp)));have H:=aA (((O.out.2.1.trans g).trans (Ae.of_below q C.out)).trans d);refine wp_region_held_drew (S:=(fun o=>o.cell? ⟨c.heap.size,0,none⟩=some (.int .i64 u.kd)/\o.cell? ⟨c.heap.size,1,none⟩=some (.string ⟨u.nm.toArray⟩)/\o.cell? ⟨c.heap.size,2,none⟩=some (.float .f64 u.x)/\o.cell? ⟨c.heap.size,3,none⟩=some (.slice ka u.ks.length m)/\o.cell? ⟨c.heap.size,4,none⟩=some (.complex .f64 u.z.1 u.z.2))) (by kernel_rfl) ⟨m0,m1,m2,m3,m4⟩ (fun hH=>?_);refine wpAnyH_take (i:=0) (v:=.complex .f64 z.1 z.2) rfl (by kernel_rfl) (by kernel_rfl) (by kernel_rfl) (fun _ _ _ h=>h) (Or.inl ⟨by rfl,fun w hS=>by go_simp⟩) (by assumption) ?_
   (try dsimp only);try simp only[Act.put,aB,aC,aD]
   refine wpAnyH_take (i:=1) (v:=(.agg #[.int .i64 u.kd,.string ⟨u.nm.toArray⟩,.float .f64 u.x,.slice ka u.ks.length m,.complex .f64 u.z.1 u.z.2])) rfl (by kernel_rfl) (by kernel_rfl) (by kernel_rfl) (fun _ _ _ h=>h) (Or.inl ⟨by rfl,fun w hS=>by obtain⟨Y,s1,Z,s3,s4⟩:=hS;go_simp⟩) (by assumption) ?_
   (try dsimp only);try simp only[Act.put,aB,aC,aD]
   refine wpAnyH_take (i:=2) (v:=.pointer (some ⟨q,0,none⟩)) rfl (by kernel_rfl) (by kernel_rfl) (by kernel_rfl) (fun _ _ _ h=>h) (Or.inl ⟨by rfl,fun w hS=>by go_simp⟩) (by assumption) ?_
   (try dsimp only);try simp only[Act.put,aB,aC,aD]
   refine wpAnyH_ready (rs:=[3]) (by kernel_rfl) (by simp) ?_;refine AllReadyH.cons rfl (fun K hK=>?_) AllReadyH.nil;rw[if_pos (by rfl)]
   try go_simp
   go_at_call 294
   refine(U.out _ L.drew).mono ?_;rintro e T ⟨rfl,E⟩;exact⟨rfl,rfl,(H.out.trans (Ae.drew (Ae.refl q _))).trans E⟩
 | ok l2 p3 =>
   rw[r4] at U;simp only[Hf.bind];clear X
   go_in
   go_wp2_with (first | (go_at_call 298;(with_reducible refine H1.out.mono ?_);rintro e c ⟨v1,rfl,⟨⟨u,kv,rfl,rfl,D⟩,A⟩,g⟩;obtain⟨ka,m,rfl⟩:=D.slice;unfold CJ) | (go_at_call 69;(with_reducible refine(HS.out _ (A.keep (Ad _ _))).mono ?_);rintro e w2 ⟨rfl,b⟩) | (go_at_call 68;(with_reducible refine(HG.out _ ((A.keep (Ad _ _)).keep b)).mono ?_);rintro e F ⟨v3,rfl,⟨rfl,L⟩,d⟩;have I:=g.size;have J:=b.size;have b0:=d.size;simp only[aE] at I J;have V:=aA (((C5.new c (.int .i64 u.kd) (.string ⟨u.nm.toArray⟩) (.float .f64 u.x) (.slice ka u.ks.length m) (.complex .f64 u.z.1 u.z.2) 42).below b).only d (by omega));obtain⟨m0,m1,m2,m3,m4,mf⟩:=V.out;have HC:=aA ((((O.out.2.2.only g (by omega)).alloc (.cells #[.int .i64 u.kd,.string ⟨u.nm.toArray⟩,.float .f64 u.x,.slice ka u.ks.length m,.complex .f64 u.z.1 u.z.2] 42)).below b).only d (by omega));obtain⟨n0,n1,n2,n3,n4,nf⟩:=HC.out))
   have C:=aA ((Ad c (.cells #[.int .i64 u.kd,.string ⟨u.nm.toArray⟩,.float .f64 u.x,.slice ka u.ks.length m,.complex .f64 u.z.1 u.z.2] 42)).trans (b.mono (by simp)));have H:=aA (((O.out.2.1.trans g).trans (Ae.of_below q C.out)).trans d);have r:c.heap.size≠W.heap.size:=(by omega);have d0:F.drew.cell? ⟨c.heap.size,0,none⟩=some (.int .i64 u.kd):=m0;have d1:F.drew.cell? ⟨c.heap.size,1,none⟩=some (.string ⟨u.nm.toArray⟩):=m1;have d2:F.drew.cell? ⟨c.heap.size,2,none⟩=some (.float .f64 u.x):=m2;have d3:F.drew.cell? ⟨c.heap.size,3,none⟩=some (.slice ka u.ks.length m):=m3;have d4:F.drew.cell? ⟨c.heap.size,4,none⟩=some (.complex .f64 u.z.1 u.z.2):=m4
   go_region_held3 (fun o=>o.cell? ⟨c.heap.size,0,none⟩=some (.int .i64 u.kd)/\o.cell? ⟨c.heap.size,1,none⟩=some (.string ⟨u.nm.toArray⟩)/\o.cell? ⟨c.heap.size,2,none⟩=some (.float .f64 u.x)/\o.cell? ⟨c.heap.size,3,none⟩=some (.slice ka u.ks.length m)/\o.cell? ⟨c.heap.size,4,none⟩=some (.complex .f64 u.z.1 u.z.2)) (first | with_reducible exact⟨d0,d1,d2,d3,d4⟩ | with_reducible exact⟨Y,s1,Z,s3,s4⟩ | with_reducible exact⟨Az Y _,Az s1 _,Az Z _,Az s3 _,Az s4 _⟩ | with_reducible exact⟨Em (Az Y _) r,Em (Az s1 _) r,Em (Az Z _) r,Em (Az s3 _) r,Em (Az s4 _) r⟩)
    (first | (go_at_call 294;(refine(U.out _ L.drew).mono ?_);rintro e T ⟨v4,rfl,⟨⟨y,ky,rfl,rfl,Q⟩,f0⟩,E⟩;obtain⟨ya,yc,rfl⟩:=Q.slice;unfold CJ;have g0:F.heap.size<=T.heap.size:=E.size;have k:=aA ((Ae.drew (Ae.refl q F)).trans E);have HY:=aA (V.out.only k.out (by omega));obtain⟨Y,s1,Z,s3,s4,sf⟩:=HY.out;have N:=aA (HC.out.only k.out (by omega));clear n0 n1 n2 n3 n4 nf;obtain⟨n0,n1,n2,n3,n4,nf⟩:=N.out.alloc (.cells #[.int .i64 u.kd,.string ⟨u.nm.toArray⟩,.float .f64 u.x,.slice ka u.ks.length m,.complex .f64 u.z.1 u.z.2,.int .i64 y.kd,.string ⟨y.nm.toArray⟩,.float .f64 y.x,.slice ya y.ks.length yc,.complex .f64 y.z.1 y.z.2] 42)))
   go_wp2;obtain⟨z0,z1,z2,z3,z4,zf⟩:=(((((N.out.alloc (.cells #[.int .i64 u.kd,.string ⟨u.nm.toArray⟩,.float .f64 u.x,.slice ka u.ks.length m,.complex .f64 u.z.1 u.z.2,.int .i64 y.kd,.string ⟨y.nm.toArray⟩,.float .f64 y.x,.slice ya y.ks.length yc,.complex .f64 y.z.1 y.z.2] 42)).set0 (.int .i64 15)).set1 (.string ⟨#[94]⟩)).set2 (.float .f64 0)).set3 (.slice (some ⟨T.heap.size,0,none⟩) 2 2)).set4 (.complex .f64 z.1 z.2);have a0:=Y9 (B:=W.heap.size+1) (((D.bel C.out).only (d.trans k.out) (by simp only[aE];omega)).mono fun j _ h=>by simpa using h) (Q.mono fun j _ h=>aF (show W.heap.size+1<=F.heap.size by omega) h) (by omega)
   have hd:=F3 (t:=.mk 15 [94] 0 z [u,y]) (W:=W) (w1:=W.alloc (.cells #[.int .i64 0,.string ⟨#[]⟩,.float .f64 0,.slice none 0 0,.complex .f64 0 0] 42)) (a0.mono fun j _ h=>by rw[aE];exact h) (by simp) (f0.keep (Ad _ _)) ((H.out.trans k.out).trans (Ae.of_below q (Ad _ _))) c0 e0 (.int .i64 15) (.string ⟨#[94]⟩) (.float .f64 0) (.slice (some ⟨T.heap.size,0,none⟩) 2 2) (.complex .f64 z.1 z.2);exact bodyPost_ret (v:=.agg #[.int .i64 15,.string ⟨#[94]⟩,.float .f64 0,.slice (some ⟨T.heap.size,0,none⟩) 2 2,.complex .f64 z.1 z.2]) (by simp[results,results296,go_sem,z0,z1,z2,z3,z4]<;>exact rfl) rfl ⟨_,rfl,hd.1,hd.2⟩
end Go.Proofs.YtfblenhlildnaaaGreatDoor
