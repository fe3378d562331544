/- Bq -/
import Derived.Test.YtjolfpcpcaocmaaGreatDoorBp
set_option maxRecDepth 100000
set_option maxHeartbeats 4000000
open List renaming setIfInBounds_toArray->aA,set_cons_zero->aC,set_cons_succ->aD
open Go.Lib renaming hid->aB
open Go.World renaming size_alloc->aE
namespace Go.Proofs.YtjolfpcpcaocmaaGreatDoor
open Go.Proofs.Tryz
open Go.RowKit
set_option linter.unusedSimpArgs false in
theorem XA {nx:Nat->Bool->Tk} {pl:Nat->Nat×Nat} {C:List UInt8->Option Bool} {O:World} {q:Nat} {s:ByteArray} (hN:F2 nx s O) (hP:PlC pl s) (n:Nat)
  (hU:NC nx pl C O q s n .unary 139) (p:Ps) (W:World) (h:Pz O q s p W) (h0:(nx p.a true).e=0) (I:EP (nx p.a true) [33]=false) (J:EP (nx p.a true) [45]=true)
  (U:Dn nx pl C n .unary (CQ (nx p.a true) p) ≠ .hush) :
  Calls prog 139 #[.pointer (some ⟨q,0,none⟩)] W (HJ q W ((Dn nx pl C n .unary (CQ (nx p.a true) p)).bind fun x p' => .ok [.mk 16 (nx p.a true).tx 0 (pl (nx p.a true).f) x] p') (NM O q s W)):=by
 have e0:=h.lt;have i0:=h.below.size;have hd1:=h.d1;obtain⟨o,eo⟩:∃o:Obj,o = .cells #[.int .i64 0,.string ⟨#[]⟩,.float .f64 0,.slice none 0 0,.complex .f64 0 0] 34:=⟨_,rfl⟩
 have Z:Hid (Pz O q s p (W.alloc o)/\Ae q W (W.alloc o)/\C5 (W.alloc o) W.heap.size (.int .i64 0) (.string ⟨#[]⟩) (.float .f64 0) (.slice none 0 0) (.complex .f64 0 0)) :=
  ⟨h.keep (Ad _ _),Ae.of_below q (Ad _ _),eo▸C5.new _ _ _ _ _ _ _⟩
 subst eo;have Y:=aB (Ea hN Z.out.1 true);have g0:=hN.ok p.a true h.ha h0;obtain⟨t,et⟩:∃t,nx p.a true=t:=⟨_,rfl⟩;rw[et] at Y U g0 h0 I J ⊢;clear et;unfold G1 at Y;have R:=aB (F5 I);have T:=aB (F5 J);have HK:=aB (fun W' (h':Py O q s p W')=>E2 hP h' t (by omega) (by omega) (by omega));have HU:=aB (fun W h=>hU (CQ t p) W h U);have c:=aB (fun r (d:Below _ _ r)=>Tf.start (Z.out.1.keep d) (Z.out.2.1.trans (Ae.of_below q d)) t 49);clear hN hP h hU I J
 cases r2:Dn nx pl C n .unary (CQ t p) with
 | hush=>exact absurd r2 U
 | bad f e =>
   rw[r2] at HU;simp only[Hf.bind];clear U
   go_in
   go_wp2_with (first | (go_at_call 15;(with_reducible refine Y.out.mono ?_);rintro e r ⟨d,⟨-,rfl⟩ | ⟨h1,-⟩⟩;rotate_left;exact absurd h0 h1;replace c:=aB (c.out _ d)) | (go_at_call 12;(with_reducible refine(R.out _).mono ?_);rintro e w2 ⟨rfl,b⟩;replace c:=aB (c.out.keep b);obtain⟨D,A,E,F,G,H⟩:=c.out.t) | (go_at_call 12;(with_reducible refine(T.out _).mono ?_);rintro e w2 ⟨rfl,k⟩;replace b:=b.trans (k.mono b.size);replace c:=aB (c.out.keep k);clear k D A E F G H;obtain⟨D,A,E,F,G,H⟩:=c.out.t) | (go_at_call 16;refine(HK.out _ c.out.p.y).mono ?_;rintro e P ⟨rfl,N,g⟩;have L:=d.size;have M:=b.size;have d0:=g.size;simp only[aE] at L M;have HX:=aB (c.out.t.only g (by omega));clear D A E F G H;obtain⟨D,A,E,F,G,H⟩:=HX.out))
   refine wp_region_held_drew (S:=fun o=>o.cell? ⟨r.heap.size,1,none⟩=some (.string ⟨t.tx.toArray⟩)) (by kernel_rfl) A (fun hH=>?_);refine wpAnyH_take (i:=0) (v:=.pointer (some ⟨r.heap.size,1,none⟩)) rfl (by kernel_rfl) (by kernel_rfl) (by kernel_rfl) (fun _ _ _ h=>h) (Or.inl ⟨by rfl,fun w hS=>by go_simp⟩) (by assumption) ?_
   (try dsimp only);try simp only[Act.put,aA,aC,aD]
   refine wpAnyH_take (i:=1) (v:=.string ⟨t.tx.toArray⟩) rfl (by kernel_rfl) (by kernel_rfl) (by kernel_rfl) (fun _ _ _ h=>h) (Or.inl ⟨by rfl,fun w hS=>by go_simp⟩) (by assumption) ?_
   (try dsimp only);try simp only[Act.put,aA,aC,aD]
   refine wpAnyH_take (i:=2) (v:=.complex .f64 (pl t.f).1 (pl t.f).2) rfl (by kernel_rfl) (by kernel_rfl) (by kernel_rfl) (fun _ _ _ h=>h) (Or.inl ⟨by rfl,fun w hS=>by go_simp⟩) (by assumption) ?_
   (try dsimp only);try simp only[Act.put,aA,aC,aD]
   refine wpAnyH_take (i:=3) (v:=.pointer (some ⟨q,0,none⟩)) rfl (by kernel_rfl) (by kernel_rfl) (by kernel_rfl) (fun _ _ _ h=>h) (Or.inl ⟨by rfl,fun w hS=>by go_simp⟩) (by assumption) ?_
   (try dsimp only);try simp only[Act.put,aA,aC,aD]
   refine wpAnyH_ready (rs:=[4]) (by kernel_rfl) (by simp) ?_;refine AllReadyH.cons rfl (fun K hK=>?_) AllReadyH.nil;rw[if_pos (by rfl)]
   try go_simp
   go_at_call 139
   refine(HU.out _ N.drew).mono ?_;rintro e X ⟨rfl,m⟩;exact⟨rfl,rfl,((c.out.o.trans g).trans (Ae.drew (Ae.refl q _))).trans m⟩
 | ok l p2 =>
   rw[r2] at HU;simp only[Hf.bind];clear U
   go_in
   go_wp2_with (first | (go_at_call 15;(with_reducible refine Y.out.mono ?_);rintro e r ⟨d,⟨-,rfl⟩ | ⟨h1,-⟩⟩;rotate_left;exact absurd h0 h1;replace c:=aB (c.out _ d)) | (go_at_call 12;(with_reducible refine(R.out _).mono ?_);rintro e w2 ⟨rfl,b⟩;replace c:=aB (c.out.keep b);obtain⟨D,A,E,F,G,H⟩:=c.out.t) | (go_at_call 12;(with_reducible refine(T.out _).mono ?_);rintro e w2 ⟨rfl,k⟩;replace b:=b.trans (k.mono b.size);replace c:=aB (c.out.keep k);clear k D A E F G H;obtain⟨D,A,E,F,G,H⟩:=c.out.t) | (go_at_call 16;refine(HK.out _ c.out.p.y).mono ?_;rintro e P ⟨rfl,N,g⟩;have L:=d.size;have M:=b.size;have d0:=g.size;simp only[aE] at L M;have HX:=aB (c.out.t.only g (by omega));clear D A E F G H;obtain⟨D,A,E,F,G,H⟩:=HX.out))
   have f0:r.heap.size≠W.heap.size:=(by omega);have k0:P.drew.cell? ⟨r.heap.size,1,none⟩=some (.string ⟨t.tx.toArray⟩):=A;have a0:=aB ((((Z.out.2.2.below d).alloc (.cells #[.int .i64 t.kd,.string ⟨t.tx.toArray⟩,.float .f64 t.nm,.int .i64 t.f,.int .i64 t.t] 49)).below b).only g (by omega))
   go_region_held3 (fun o=>o.cell? ⟨r.heap.size,1,none⟩=some (.string ⟨t.tx.toArray⟩)) (first | with_reducible exact k0 | with_reducible exact s1 | with_reducible exact Az s1 _ | with_reducible exact Em (Az s1 _) f0)
    (first | (go_at_call 139;(refine(HU.out _ N.drew).mono ?_);rintro e X ⟨v4,rfl,⟨⟨u,kv,rfl,rfl,V⟩,j0⟩,m⟩;obtain⟨ka,kc,rfl⟩:=V.slice;unfold CJ;have l0:P.heap.size<=X.heap.size:=m.size;have s1:=(HX.out.only ((Ae.drew (Ae.refl q P)).trans m) (by omega)).c1;have Q:=aB (a0.out.only ((Ae.drew (Ae.refl q P)).trans m) (by omega));obtain⟨n0,n1,n2,n3,n4,nf⟩:=Q.out.alloc (.cells #[.int .i64 u.kd,.string ⟨u.nm.toArray⟩,.float .f64 u.x,.slice ka u.ks.length kc,.complex .f64 u.z.1 u.z.2] 34)))
   go_wp2;have b0:=Q.out.alloc (.cells #[.int .i64 u.kd,.string ⟨u.nm.toArray⟩,.float .f64 u.x,.slice ka u.ks.length kc,.complex .f64 u.z.1 u.z.2] 34);obtain⟨z0,z1,z2,z3,z4,zf⟩:=((((b0.set0 (.int .i64 16)).set1 (.string ⟨t.tx.toArray⟩)).set2 (.float .f64 0)).set3 (.slice (some ⟨X.heap.size,0,none⟩) 1 1)).set4 (.complex .f64 (pl t.f).1 (pl t.f).2);have c0:=Rw (B:=r.heap.size) (V.mono fun j _ h=>Nat.le_trans (show r.heap.size<=P.heap.size by omega) h) (by omega);have hd:=F3 (t:=.mk 16 t.tx 0 (pl t.f) [u]) (W:=W) (w1:=r) c0 (by omega) (j0.keep (Ad _ _)) ((((c.out.o.trans g).trans (Ae.drew (Ae.refl q _))).trans m).trans (Ae.of_below q (Ad _ _))) e0 i0 (.int .i64 16) (.string ⟨t.tx.toArray⟩) (.float .f64 0) (.slice (some ⟨X.heap.size,0,none⟩) 1 1) (.complex .f64 (pl t.f).1 (pl t.f).2)
   exact bodyPost_ret (v:=.agg #[.int .i64 16,.string ⟨t.tx.toArray⟩,.float .f64 0,.slice (some ⟨X.heap.size,0,none⟩) 1 1,.complex .f64 (pl t.f).1 (pl t.f).2]) (by simp[results,results139,go_sem,z0,z1,z2,z3,z4]<;>exact rfl) rfl ⟨_,rfl,hd.1,hd.2⟩
set_option linter.unusedSimpArgs false in
theorem Xz {nx:Nat->Bool->Tk} {pl:Nat->Nat×Nat} {H:List UInt8->Option Bool} {P:World} {q:Nat} {s:ByteArray} (hN:F2 nx s P) (hP:PlC pl s) (n:Nat)
  (hU:NC nx pl H P q s n .unary 139) (p:Ps) (W:World) (h:Pz P q s p W) (h0:(nx p.a true).e=0) (I:EP (nx p.a true) [33]=false) (L:EP (nx p.a true) [45]=false) (J:EP (nx p.a true) [43]=true)
  (X:Dn nx pl H n .unary (CQ (nx p.a true) p) ≠ .hush) :
  Calls prog 139 #[.pointer (some ⟨q,0,none⟩)] W (HJ q W ((Dn nx pl H n .unary (CQ (nx p.a true) p)).bind fun x p' => .ok [.mk 16 (nx p.a true).tx 0 (pl (nx p.a true).f) x] p') (NM P q s W)):=by
 have e0:=h.lt;have i0:=h.below.size;have hd1:=h.d1;obtain⟨o,eo⟩:∃o:Obj,o = .cells #[.int .i64 0,.string ⟨#[]⟩,.float .f64 0,.slice none 0 0,.complex .f64 0 0] 34:=⟨_,rfl⟩
 have HQ:Hid (Pz P q s p (W.alloc o)/\Ae q W (W.alloc o)/\C5 (W.alloc o) W.heap.size (.int .i64 0) (.string ⟨#[]⟩) (.float .f64 0) (.slice none 0 0) (.complex .f64 0 0)) :=
  ⟨h.keep (Ad _ _),Ae.of_below q (Ad _ _),eo▸C5.new _ _ _ _ _ _ _⟩
 subst eo;have HP:=aB (Ea hN HQ.out.1 true);have g0:=hN.ok p.a true h.ha h0;obtain⟨t,et⟩:∃t,nx p.a true=t:=⟨_,rfl⟩;rw[et] at HP X g0 h0 I L J ⊢;clear et;unfold G1 at HP;have T:=aB (F5 I);have U:=aB (F5 L);have V:=aB (F5 J);have HK:=aB (fun W' (h':Py P q s p W')=>E2 hP h' t (by omega) (by omega) (by omega));have HU:=aB (fun W h=>hU (CQ t p) W h X);have d:=aB (fun G (g:Below _ _ G)=>Tf.start (HQ.out.1.keep g) (HQ.out.2.1.trans (Ae.of_below q g)) t 49);clear hN hP h hU I L J
 cases r2:Dn nx pl H n .unary (CQ t p) with
 | hush=>exact absurd r2 X
 | bad f e =>
   rw[r2] at HU;simp only[Hf.bind];clear X
   go_in
   go_wp2_with (first | (go_at_call 15;(with_reducible refine HP.out.mono ?_);rintro e G ⟨g,⟨-,rfl⟩ | ⟨h1,-⟩⟩;rotate_left;exact absurd h0 h1;replace d:=aB (d.out _ g)) | (go_at_call 12;(with_reducible refine(T.out _).mono ?_);rintro e Z ⟨rfl,b⟩;replace d:=aB (d.out.keep b);obtain⟨A,m,C,D,E,F⟩:=d.out.t) | (go_at_call 12;(with_reducible refine(U.out _).mono ?_);rintro e Z ⟨rfl,c⟩;replace b:=b.trans (c.mono b.size);replace d:=aB (d.out.keep c);clear c A m C D E F;obtain⟨A,m,C,D,E,F⟩:=d.out.t) | (go_at_call 12;(with_reducible refine(V.out _).mono ?_);rintro e Z ⟨rfl,c⟩;replace b:=b.trans (c.mono b.size);replace d:=aB (d.out.keep c);clear c A m C D E F;obtain⟨A,m,C,D,E,F⟩:=d.out.t) | (go_at_call 16;refine(HK.out _ d.out.p.y).mono ?_;rintro e Q ⟨rfl,O,k⟩;have M:=g.size;have N:=b.size;have d0:=k.size;simp only[aE] at M N;have HX:=aB (d.out.t.only k (by omega));clear A m C D E F;obtain⟨A,m,C,D,E,F⟩:=HX.out))
   refine wp_region_held_drew (S:=fun o=>o.cell? ⟨G.heap.size,1,none⟩=some (.string ⟨t.tx.toArray⟩)) (by kernel_rfl) m (fun hH=>?_);refine wpAnyH_take (i:=0) (v:=.pointer (some ⟨G.heap.size,1,none⟩)) rfl (by kernel_rfl) (by kernel_rfl) (by kernel_rfl) (fun _ _ _ h=>h) (Or.inl ⟨by rfl,fun w hS=>by go_simp⟩) (by assumption) ?_
   (try dsimp only);try simp only[Act.put,aA,aC,aD]
   refine wpAnyH_take (i:=1) (v:=.string ⟨t.tx.toArray⟩) rfl (by kernel_rfl) (by kernel_rfl) (by kernel_rfl) (fun _ _ _ h=>h) (Or.inl ⟨by rfl,fun w hS=>by go_simp⟩) (by assumption) ?_
   (try dsimp only);try simp only[Act.put,aA,aC,aD]
   refine wpAnyH_take (i:=2) (v:=.complex .f64 (pl t.f).1 (pl t.f).2) rfl (by kernel_rfl) (by kernel_rfl) (by kernel_rfl) (fun _ _ _ h=>h) (Or.inl ⟨by rfl,fun w hS=>by go_simp⟩) (by assumption) ?_
   (try dsimp only);try simp only[Act.put,aA,aC,aD]
   refine wpAnyH_take (i:=3) (v:=.pointer (some ⟨q,0,none⟩)) rfl (by kernel_rfl) (by kernel_rfl) (by kernel_rfl) (fun _ _ _ h=>h) (Or.inl ⟨by rfl,fun w hS=>by go_simp⟩) (by assumption) ?_
   (try dsimp only);try simp only[Act.put,aA,aC,aD]
   refine wpAnyH_ready (rs:=[4]) (by kernel_rfl) (by simp) ?_;refine AllReadyH.cons rfl (fun K hK=>?_) AllReadyH.nil;rw[if_pos (by rfl)]
   try go_simp
   go_at_call 139
   refine(HU.out _ O.drew).mono ?_;rintro e w4 ⟨rfl,r⟩;exact⟨rfl,rfl,((d.out.o.trans k).trans (Ae.drew (Ae.refl q _))).trans r⟩
 | ok l p2 =>
   rw[r2] at HU;simp only[Hf.bind];clear X
   go_in
   go_wp2_with (first | (go_at_call 15;(with_reducible refine HP.out.mono ?_);rintro e G ⟨g,⟨-,rfl⟩ | ⟨h1,-⟩⟩;rotate_left;exact absurd h0 h1;replace d:=aB (d.out _ g)) | (go_at_call 12;(with_reducible refine(T.out _).mono ?_);rintro e Z ⟨rfl,b⟩;replace d:=aB (d.out.keep b);obtain⟨A,m,C,D,E,F⟩:=d.out.t) | (go_at_call 12;(with_reducible refine(U.out _).mono ?_);rintro e Z ⟨rfl,c⟩;replace b:=b.trans (c.mono b.size);replace d:=aB (d.out.keep c);clear c A m C D E F;obtain⟨A,m,C,D,E,F⟩:=d.out.t) | (go_at_call 12;(with_reducible refine(V.out _).mono ?_);rintro e Z ⟨rfl,c⟩;replace b:=b.trans (c.mono b.size);replace d:=aB (d.out.keep c);clear c A m C D E F;obtain⟨A,m,C,D,E,F⟩:=d.out.t) | (go_at_call 16;refine(HK.out _ d.out.p.y).mono ?_;rintro e Q ⟨rfl,O,k⟩;have M:=g.size;have N:=b.size;have d0:=k.size;simp only[aE] at M N;have HX:=aB (d.out.t.only k (by omega));clear A m C D E F;obtain⟨A,m,C,D,E,F⟩:=HX.out))
   have f0:G.heap.size≠W.heap.size:=(by omega);have k0:Q.drew.cell? ⟨G.heap.size,1,none⟩=some (.string ⟨t.tx.toArray⟩):=m;have a0:=aB ((((HQ.out.2.2.below g).alloc (.cells #[.int .i64 t.kd,.string ⟨t.tx.toArray⟩,.float .f64 t.nm,.int .i64 t.f,.int .i64 t.t] 49)).below b).only k (by omega))
   go_region_held3 (fun o=>o.cell? ⟨G.heap.size,1,none⟩=some (.string ⟨t.tx.toArray⟩)) (first | with_reducible exact k0 | with_reducible exact s1 | with_reducible exact Az s1 _ | with_reducible exact Em (Az s1 _) f0)
    (first | (go_at_call 139;(refine(HU.out _ O.drew).mono ?_);rintro e w4 ⟨v4,rfl,⟨⟨u,kv,rfl,rfl,Y⟩,j0⟩,r⟩;obtain⟨ka,kc,rfl⟩:=Y.slice;unfold CJ;have l0:Q.heap.size<=w4.heap.size:=r.size;have s1:=(HX.out.only ((Ae.drew (Ae.refl q Q)).trans r) (by omega)).c1;have R:=aB (a0.out.only ((Ae.drew (Ae.refl q Q)).trans r) (by omega));obtain⟨n0,n1,n2,n3,n4,nf⟩:=R.out.alloc (.cells #[.int .i64 u.kd,.string ⟨u.nm.toArray⟩,.float .f64 u.x,.slice ka u.ks.length kc,.complex .f64 u.z.1 u.z.2] 34)))
   go_wp2;have b0:=R.out.alloc (.cells #[.int .i64 u.kd,.string ⟨u.nm.toArray⟩,.float .f64 u.x,.slice ka u.ks.length kc,.complex .f64 u.z.1 u.z.2] 34);obtain⟨z0,z1,z2,z3,z4,zf⟩:=((((b0.set0 (.int .i64 16)).set1 (.string ⟨t.tx.toArray⟩)).set2 (.float .f64 0)).set3 (.slice (some ⟨w4.heap.size,0,none⟩) 1 1)).set4 (.complex .f64 (pl t.f).1 (pl t.f).2);have c0:=Rw (B:=G.heap.size) (Y.mono fun j _ h=>Nat.le_trans (show G.heap.size<=Q.heap.size by omega) h) (by omega);have hd:=F3 (t:=.mk 16 t.tx 0 (pl t.f) [u]) (W:=W) (w1:=G) c0 (by omega) (j0.keep (Ad _ _)) ((((d.out.o.trans k).trans (Ae.drew (Ae.refl q _))).trans r).trans (Ae.of_below q (Ad _ _))) e0 i0 (.int .i64 16) (.string ⟨t.tx.toArray⟩) (.float .f64 0) (.slice (some ⟨w4.heap.size,0,none⟩) 1 1) (.complex .f64 (pl t.f).1 (pl t.f).2)
   exact bodyPost_ret (v:=.agg #[.int .i64 16,.string ⟨t.tx.toArray⟩,.float .f64 0,.slice (some ⟨w4.heap.size,0,none⟩) 1 1,.complex .f64 (pl t.f).1 (pl t.f).2]) (by simp[results,results139,go_sem,z0,z1,z2,z3,z4]<;>exact rfl) rfl ⟨_,rfl,hd.1,hd.2⟩
end Go.Proofs.YtjolfpcpcaocmaaGreatDoor
