/- Bp -/
import Derived.Test.YtjolfpcpcaocmaaGreatDoorBn
import Derived.Deep.RegionHeld3
set_option maxRecDepth 100000
set_option maxHeartbeats 4000000
open List renaming setIfInBounds_toArray->aA,set_cons_zero->aC,set_cons_succ->aD
open Go.Lib renaming hid->aB
namespace Go.Proofs.YtjolfpcpcaocmaaGreatDoor
open Go.Proofs.Tryz
open Go.RowKit
theorem Rw {T:TypeId} {w:World} {u:Tr} {kv:Value} {B:Nat} (c:Am T w (B <= ·) u.ks kv) (b:B<=w.heap.size) :
  Am T (w.alloc (.cells #[.int .i64 u.kd,.string ⟨u.nm.toArray⟩,.float .f64 u.x,kv,.complex .f64 u.z.1 u.z.2] T)) (B <= ·) [u] (.slice (some ⟨w.heap.size,0,none⟩) 1 1):=by
 have a:Am T w (fun j=>B<=j/\j≠w.heap.size) u.ks kv:=c.mono fun j e h=>⟨h,by omega⟩;refine Am.row (B <= ·) [(u,kv)] w.heap.size 1 _ b (heap_alloc_new _ _) (by simp) (by decide) rfl rfl fun p d=>?_;obtain rfl:p=(u,kv):=(by simpa using d);exact a.bel (Ad _ _)
set_option linter.unusedSimpArgs false in
theorem Yh {nx:Nat->Bool->Tk} {pl:Nat->Nat×Nat} {r:List UInt8->Option Bool} {G:World} {q:Nat} {s:ByteArray} (hN:F2 nx s G) (hP:PlC pl s) (n:Nat)
  (hU:NC nx pl r G q s n .unary 139) (p:Ps) (W:World) (h:Pz G q s p W) (Y:(nx p.a true).e=0) (A:EP (nx p.a true) [33]=true)
  (J:Dn nx pl r n .unary (CQ (nx p.a true) p) ≠ .hush) :
  Calls prog 139 #[.pointer (some ⟨q,0,none⟩)] W (HJ q W ((Dn nx pl r n .unary (CQ (nx p.a true) p)).bind fun x p' => .ok [.mk 16 (nx p.a true).tx 0 (pl (nx p.a true).f) x] p') (NM G q s W)):=by
 have d0:=h.lt;have g0:=h.below.size;have hd1:=h.d1;obtain⟨o,eo⟩:∃o:Obj,o = .cells #[.int .i64 0,.string ⟨#[]⟩,.float .f64 0,.slice none 0 0,.complex .f64 0 0] 34:=⟨_,rfl⟩
 have U:Hid (Pz G q s p (W.alloc o)/\Ae q W (W.alloc o)/\C5 (W.alloc o) W.heap.size (.int .i64 0) (.string ⟨#[]⟩) (.float .f64 0) (.slice none 0 0) (.complex .f64 0 0)) :=
  ⟨h.keep (Ad _ _),Ae.of_below q (Ad _ _),eo▸C5.new _ _ _ _ _ _ _⟩
 subst eo;have T:=aB (Ea hN U.out.1 true);have f0:=hN.ok p.a true h.ha Y;obtain⟨t,et⟩:∃t,nx p.a true=t:=⟨_,rfl⟩;rw[et] at T J f0 Y A ⊢;clear et;unfold G1 at T;have HI:=aB (F5 A);have HK:=aB (fun W' (h':Py G q s p W')=>E2 hP h' t (by omega) (by omega) (by omega));have V:=aB (fun W h=>hU (CQ t p) W h J);have d:=aB (fun m (b:Below _ _ m)=>Tf.start (U.out.1.keep b) (U.out.2.1.trans (Ae.of_below q b)) t 49);clear hN hP h hU A
 cases r2:Dn nx pl r n .unary (CQ t p) with
 | hush=>exact absurd r2 J
 | bad f e =>
   rw[r2] at V;simp only[Hf.bind];clear J
   go_in
   go_wp2_with (first | (go_at_call 15;(with_reducible refine T.out.mono ?_);rintro e m ⟨b,⟨-,rfl⟩ | ⟨h1,-⟩⟩;rotate_left;exact absurd Y h1;replace d:=aB (d.out _ b)) | (go_at_call 12;(with_reducible refine(HI.out _).mono ?_);rintro e w2 ⟨rfl,g⟩;replace d:=aB (d.out.keep g);obtain⟨M,F,N,O,P,Q⟩:=d.out.t) | (go_at_call 16;refine(HK.out _ d.out.p.y).mono ?_;rintro e H ⟨rfl,E,c⟩;have C:=b.size;have D:=g.size;have c0:=c.size;simp only[World.size_alloc] at C D;have X:=aB (d.out.t.only c (by omega));clear M F N O P Q;obtain⟨M,F,N,O,P,Q⟩:=X.out))
   refine wp_region_held_drew (S:=fun o=>o.cell? ⟨m.heap.size,1,none⟩=some (.string ⟨t.tx.toArray⟩)) (by kernel_rfl) F (fun hH=>?_);refine wpAnyH_take (i:=0) (v:=.pointer (some ⟨m.heap.size,1,none⟩)) rfl (by kernel_rfl) (by kernel_rfl) (by kernel_rfl) (fun _ _ _ h=>h) (Or.inl ⟨by rfl,fun w hS=>by go_simp⟩) (by assumption) ?_
   (try dsimp only);try simp only[Act.put,aA,aC,aD]
   refine wpAnyH_take (i:=1) (v:=.string ⟨t.tx.toArray⟩) rfl (by kernel_rfl) (by kernel_rfl) (by kernel_rfl) (fun _ _ _ h=>h) (Or.inl ⟨by rfl,fun w hS=>by go_simp⟩) (by assumption) ?_
   (try dsimp only);try simp only[Act.put,aA,aC,aD]
   refine wpAnyH_take (i:=2) (v:=.complex .f64 (pl t.f).1 (pl t.f).2) rfl (by kernel_rfl) (by kernel_rfl) (by kernel_rfl) (fun _ _ _ h=>h) (Or.inl ⟨by rfl,fun w hS=>by go_simp⟩) (by assumption) ?_
   (try dsimp only);try simp only[Act.put,aA,aC,aD]
   refine wpAnyH_take (i:=3) (v:=.pointer (some ⟨q,0,none⟩)) rfl (by kernel_rfl) (by kernel_rfl) (by kernel_rfl) (fun _ _ _ h=>h) (Or.inl ⟨by rfl,fun w hS=>by go_simp⟩) (by assumption) ?_
   (try dsimp only);try simp only[Act.put,aA,aC,aD]
   refine wpAnyH_ready (rs:=[4]) (by kernel_rfl) (by simp) ?_;refine AllReadyH.cons rfl (fun K hK=>?_) AllReadyH.nil;rw[if_pos (by rfl)]
   try go_simp
   go_at_call 139
   refine(V.out _ E.drew).mono ?_;rintro e R ⟨rfl,k⟩;exact⟨rfl,rfl,((d.out.o.trans c).trans (Ae.drew (Ae.refl q _))).trans k⟩
 | ok l p2 =>
   rw[r2] at V;simp only[Hf.bind];clear J
   go_in
   go_wp2_with (first | (go_at_call 15;(with_reducible refine T.out.mono ?_);rintro e m ⟨b,⟨-,rfl⟩ | ⟨h1,-⟩⟩;rotate_left;exact absurd Y h1;replace d:=aB (d.out _ b)) | (go_at_call 12;(with_reducible refine(HI.out _).mono ?_);rintro e w2 ⟨rfl,g⟩;replace d:=aB (d.out.keep g);obtain⟨M,F,N,O,P,Q⟩:=d.out.t) | (go_at_call 16;refine(HK.out _ d.out.p.y).mono ?_;rintro e H ⟨rfl,E,c⟩;have C:=b.size;have D:=g.size;have c0:=c.size;simp only[World.size_alloc] at C D;have X:=aB (d.out.t.only c (by omega));clear M F N O P Q;obtain⟨M,F,N,O,P,Q⟩:=X.out))
   have e0:m.heap.size≠W.heap.size:=(by omega);have j0:H.drew.cell? ⟨m.heap.size,1,none⟩=some (.string ⟨t.tx.toArray⟩):=F;have Z:=aB ((((U.out.2.2.below b).alloc (.cells #[.int .i64 t.kd,.string ⟨t.tx.toArray⟩,.float .f64 t.nm,.int .i64 t.f,.int .i64 t.t] 49)).below g).only c (by omega))
   go_region_held3 (fun o=>o.cell? ⟨m.heap.size,1,none⟩=some (.string ⟨t.tx.toArray⟩)) (first | with_reducible exact j0 | with_reducible exact s1 | with_reducible exact Az s1 _ | with_reducible exact Em (Az s1 _) e0)
    (first | (go_at_call 139;(refine(V.out _ E.drew).mono ?_);rintro e R ⟨v4,rfl,⟨⟨u,kv,rfl,rfl,L⟩,i0⟩,k⟩;obtain⟨ka,kc,rfl⟩:=L.slice;unfold CJ;have k0:H.heap.size<=R.heap.size:=k.size;have s1:=(X.out.only ((Ae.drew (Ae.refl q H)).trans k) (by omega)).c1;have I:=aB (Z.out.only ((Ae.drew (Ae.refl q H)).trans k) (by omega));obtain⟨n0,n1,n2,n3,n4,nf⟩:=I.out.alloc (.cells #[.int .i64 u.kd,.string ⟨u.nm.toArray⟩,.float .f64 u.x,.slice ka u.ks.length kc,.complex .f64 u.z.1 u.z.2] 34)))
   go_wp2;have a0:=I.out.alloc (.cells #[.int .i64 u.kd,.string ⟨u.nm.toArray⟩,.float .f64 u.x,.slice ka u.ks.length kc,.complex .f64 u.z.1 u.z.2] 34);obtain⟨z0,z1,z2,z3,z4,zf⟩:=((((a0.set0 (.int .i64 16)).set1 (.string ⟨t.tx.toArray⟩)).set2 (.float .f64 0)).set3 (.slice (some ⟨R.heap.size,0,none⟩) 1 1)).set4 (.complex .f64 (pl t.f).1 (pl t.f).2);have b0:=Rw (B:=m.heap.size) (L.mono fun j _ h=>Nat.le_trans (show m.heap.size<=H.heap.size by omega) h) (by omega);have hd:=F3 (t:=.mk 16 t.tx 0 (pl t.f) [u]) (W:=W) (w1:=m) b0 (by omega) (i0.keep (Ad _ _)) ((((d.out.o.trans c).trans (Ae.drew (Ae.refl q _))).trans k).trans (Ae.of_below q (Ad _ _))) d0 g0 (.int .i64 16) (.string ⟨t.tx.toArray⟩) (.float .f64 0) (.slice (some ⟨R.heap.size,0,none⟩) 1 1) (.complex .f64 (pl t.f).1 (pl t.f).2)
   exact bodyPost_ret (v:=.agg #[.int .i64 16,.string ⟨t.tx.toArray⟩,.float .f64 0,.slice (some ⟨R.heap.size,0,none⟩) 1 1,.complex .f64 (pl t.f).1 (pl t.f).2]) (by simp[results,results139,go_sem,z0,z1,z2,z3,z4]<;>exact rfl) rfl ⟨_,rfl,hd.1,hd.2⟩
end Go.Proofs.YtjolfpcpcaocmaaGreatDoor
