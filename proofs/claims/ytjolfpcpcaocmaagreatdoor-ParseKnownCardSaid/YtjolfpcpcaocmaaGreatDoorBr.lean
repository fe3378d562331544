/- Br Bs -/
import Derived.Test.YtjolfpcpcaocmaaGreatDoorBq
set_option maxRecDepth 100000
set_option maxHeartbeats 4000000
open Go.Lib renaming hid->aA
namespace Go.Proofs.YtjolfpcpcaocmaaGreatDoor
open Go.Proofs.Tryz
open Go.RowKit
theorem XR {nx:Nat->Bool->Tk} {pl:Nat->Nat×Nat} {y:List UInt8->Option Bool} {J:World} {q:Nat} {s:ByteArray} (hN:F2 nx s J) (n:Nat)
  (hO:NC nx pl y J q s n .power 142) (p:Ps) (W:World) (h:Pz J q s p W) (P:(nx p.a true).e=0) (B:EP (nx p.a true) [33]=false) (D:EP (nx p.a true) [45]=false) (C:EP (nx p.a true) [43]=false)
  (O:Dn nx pl y n .power p ≠ .hush) :
  Calls prog 139 #[.pointer (some ⟨q,0,none⟩)] W (HJ q W (Dn nx pl y n .power p) (NM J q s W)):=by
 have T:=h.lt;have U:=h.below.size;obtain⟨o,Z⟩:∃o:Obj,o = .cells #[.int .i64 0,.string ⟨#[]⟩,.float .f64 0,.slice none 0 0,.complex .f64 0 0] 34:=⟨_,rfl⟩
 have N:Hid (Pz J q s p (W.alloc o)/\Ae q W (W.alloc o)/\C5 (W.alloc o) W.heap.size (.int .i64 0) (.string ⟨#[]⟩) (.float .f64 0) (.slice none 0 0) (.complex .f64 0 0)) :=
  ⟨h.keep (Ad _ _),Ae.of_below q (Ad _ _),Z▸C5.new _ _ _ _ _ _ _⟩
 subst Z;have M:=aA (Ea hN N.out.1 true);obtain⟨t,et⟩:∃t,nx p.a true=t:=⟨_,rfl⟩;rw[et] at M P B D C;clear et;unfold G1 at M;have F:=aA (F5 B);have G:=aA (F5 D);have H:=aA (F5 C);have L:=aA (fun W h=>hO p W h O);have d:=aA (fun E (g:Below _ _ E)=>Tf.start (N.out.1.keep g) (N.out.2.1.trans (Ae.of_below q g)) t 49);clear hN h hO B D C
 cases Y:Dn nx pl y n .power p with
 | hush=>exact absurd Y O
 | bad f e =>
   rw[Y] at L;clear O
   go_in
   go_wp2_with (first | (go_at_call 15;(with_reducible refine M.out.mono ?_);rintro e E ⟨g,⟨-,rfl⟩ | ⟨Q,-⟩⟩;rotate_left;exact absurd P Q;replace d:=aA (d.out _ g);have c:=Below.refl (E.alloc (.cells #[.int .i64 t.kd,.string ⟨t.tx.toArray⟩,.float .f64 t.nm,.int .i64 t.f,.int .i64 t.t] 49)).heap.size (E.alloc (.cells #[.int .i64 t.kd,.string ⟨t.tx.toArray⟩,.float .f64 t.nm,.int .i64 t.f,.int .i64 t.t] 49));obtain⟨i,j,k,m,r,w⟩:=d.out.t) | (go_at_call 12;(with_reducible refine(F.out _).mono ?_);rintro e K ⟨rfl,b⟩;replace c:=c.trans (b.mono c.size);replace d:=aA (d.out.keep b);clear b i j k m r w;obtain⟨i,j,k,m,r,w⟩:=d.out.t) | (go_at_call 12;(with_reducible refine(G.out _).mono ?_);rintro e K ⟨rfl,b⟩;replace c:=c.trans (b.mono c.size);replace d:=aA (d.out.keep b);clear b i j k m r w;obtain⟨i,j,k,m,r,w⟩:=d.out.t) | (go_at_call 12;(with_reducible refine(H.out _).mono ?_);rintro e K ⟨rfl,b⟩;replace c:=c.trans (b.mono c.size);replace d:=aA (d.out.keep b);clear b i j k m r w;obtain⟨i,j,k,m,r,w⟩:=d.out.t) | (go_at_call 142;(with_reducible refine(L.out _ d.out.p).mono ?_);rintro e w3 ⟨rfl,A⟩))
   exact⟨rfl,rfl,d.out.o.trans A⟩
 | ok l p2 =>
   rw[Y] at L;clear O
   go_in
   go_wp2_with (first | (go_at_call 15;(with_reducible refine M.out.mono ?_);rintro e E ⟨g,⟨-,rfl⟩ | ⟨Q,-⟩⟩;rotate_left;exact absurd P Q;replace d:=aA (d.out _ g);have c:=Below.refl (E.alloc (.cells #[.int .i64 t.kd,.string ⟨t.tx.toArray⟩,.float .f64 t.nm,.int .i64 t.f,.int .i64 t.t] 49)).heap.size (E.alloc (.cells #[.int .i64 t.kd,.string ⟨t.tx.toArray⟩,.float .f64 t.nm,.int .i64 t.f,.int .i64 t.t] 49));obtain⟨i,j,k,m,r,w⟩:=d.out.t) | (go_at_call 12;(with_reducible refine(F.out _).mono ?_);rintro e K ⟨rfl,b⟩;replace c:=c.trans (b.mono c.size);replace d:=aA (d.out.keep b);clear b i j k m r w;obtain⟨i,j,k,m,r,w⟩:=d.out.t) | (go_at_call 12;(with_reducible refine(G.out _).mono ?_);rintro e K ⟨rfl,b⟩;replace c:=c.trans (b.mono c.size);replace d:=aA (d.out.keep b);clear b i j k m r w;obtain⟨i,j,k,m,r,w⟩:=d.out.t) | (go_at_call 12;(with_reducible refine(H.out _).mono ?_);rintro e K ⟨rfl,b⟩;replace c:=c.trans (b.mono c.size);replace d:=aA (d.out.keep b);clear b i j k m r w;obtain⟨i,j,k,m,r,w⟩:=d.out.t) | (go_at_call 142;(with_reducible refine(L.out _ d.out.p).mono ?_);rintro e w3 ⟨v3,rfl,⟨⟨u,kv,rfl,rfl,I⟩,V⟩,A⟩;obtain⟨ka,X,rfl⟩:=I.slice;unfold CJ;have R:=g.size;have S:=c.size;simp only[World.size_alloc] at R S;have HC:=aA ((((N.out.2.2.below g).alloc (.cells #[.int .i64 t.kd,.string ⟨t.tx.toArray⟩,.float .f64 t.nm,.int .i64 t.f,.int .i64 t.t] 49)).below c).only A (by omega));obtain⟨n0,n1,n2,n3,n4,nf⟩:=HC.out))
   obtain⟨z0,z1,z2,z3,z4,zf⟩:=((((HC.out.set0 (.int .i64 u.kd)).set1 (.string ⟨u.nm.toArray⟩)).set2 (.float .f64 u.x)).set3 (.slice ka u.ks.length X)).set4 (.complex .f64 u.z.1 u.z.2);have hd:=F3 (W:=W) I (by omega) V (d.out.o.trans A) T U (.int .i64 u.kd) (.string ⟨u.nm.toArray⟩) (.float .f64 u.x) (.slice ka u.ks.length X) (.complex .f64 u.z.1 u.z.2);exact bodyPost_ret (v:=CJ u (.slice ka u.ks.length X)) (by simp[CJ,results,results139,go_sem,z0,z1,z2,z3,z4]<;>exact rfl) rfl ⟨_,rfl,hd.1,hd.2⟩
theorem YV {nx:Nat->Bool->Tk} {c W:World} {q:Nat} {s:ByteArray} {p:Ps} (m:F2 nx s c) (h:Pz c q s p W) (k:¬ (nx p.a true).e=0) :
  Calls prog 139 #[.pointer (some ⟨q,0,none⟩)] W fun e o=>e = .panicked (T3 (nx p.a true).f (nx p.a true).e)/\Ae q W o:=by
 have d:=aA (Ad W (.cells #[.int .i64 0,.string ⟨#[]⟩,.float .f64 0,.slice none 0 0,.complex .f64 0 0] 34));have g:=aA (fun i (j:Pz c q s p i)=>Ea m j true);have n:=aA (h.keep d.out)
 go_in
 go_wp2_with (first | (go_at_call 15;(with_reducible refine(g.out _ n.out).mono ?_);rintro e r ⟨b,⟨l,-⟩ | ⟨-,rfl⟩⟩;exact absurd l k))
 exact⟨rfl,rfl,(Ae.of_below q d.out).trans (Ae.of_below q b)⟩
theorem Yi {nx:Nat->Bool->Tk} {pl:Nat->Nat×Nat} {d:List UInt8->Option Bool} {m:World} {q:Nat} {s:ByteArray} (l:F2 nx s m) (o:PlC pl s) (n:Nat)
  (r:NC nx pl d m q s n .unary 139) (t:NC nx pl d m q s n .power 142):NC nx pl d m q s (n+1) .unary 139:=by
 intro p W h g;rw[Dn,N1] at g ⊢;by_cases j:(nx p.a true).e=0
 ·rw[if_pos j] at g ⊢
  have k:(Dn nx pl d n .unary (CQ (nx p.a true) p)).bind (fun x u=>(Hf.ok [Tr.mk 16 (nx p.a true).tx 0 (pl (nx p.a true).f) x] u:Hf (List Tr))) ≠ .hush->Dn nx pl d n .unary (CQ (nx p.a true) p) ≠ .hush:=fun h e=>h (by rw[e];rfl)
  cases b:EP (nx p.a true) [33] with
  | true =>
    rw[b,if_pos (.inl rfl)] at g;rw[if_pos (.inl rfl)];exact Yh l o n r p W h j b (k g)
  | false =>
    cases c:EP (nx p.a true) [45] with
    | true =>
      rw[b,c,if_pos (.inr (.inl rfl))] at g;rw[if_pos (.inr (.inl rfl))];exact XA l o n r p W h j b c (k g)
    | false =>
      cases i:EP (nx p.a true) [43] with
      | true =>
        rw[b,c,i,if_pos (.inr (.inr rfl))] at g;rw[if_pos (.inr (.inr rfl))];exact Xz l o n r p W h j b c i (k g)
      | false =>
        rw[b,c,i,if_neg (by simp)] at g;rw[if_neg (by simp)];exact XR l n t p W h j b c i g
 rw[if_neg j];exact YV l h j
theorem XH {nx:Nat->Bool->Tk} {d W:World} {q:Nat} {s:ByteArray} {p:Ps} (j:F2 nx s d) (h:Pz d q s p W) (x:List UInt8) (f:(nx p.a false).e=0) {b:Bool} (k:EP (nx p.a false) x=b) :
  Calls prog 19 #[.pointer (some ⟨q,0,none⟩),.string ⟨x.toArray⟩] W fun e l=>e = .returned (.bool b)/\Below W.heap.size W l :=
 (NW j h x).mono fun _ _ ⟨g,i⟩=>i.elim (fun⟨_,c⟩=>⟨k▸c,g⟩) fun⟨c,_⟩=>absurd f c
theorem X4 {nx:Nat->Bool->Tk} {c W:World} {q:Nat} {s:ByteArray} {p:Ps} (j:F2 nx s c) (h:Pz c q s p W) (x:List UInt8) (d:¬ (nx p.a false).e=0) :
  Calls prog 19 #[.pointer (some ⟨q,0,none⟩),.string ⟨x.toArray⟩] W fun e k=>e = .panicked (T3 (nx p.a false).f (nx p.a false).e)/\Below W.heap.size W k :=
 (NW j h x).mono fun _ _ ⟨g,i⟩=>i.elim (fun⟨b,_⟩=>absurd b d) fun⟨_,b⟩=>⟨b,g⟩
theorem Ya {nx:Nat->Bool->Tk} {pl:Nat->Nat×Nat} {i:List UInt8->Option Bool} {g:World} {q:Nat} {s:ByteArray} (G:F2 nx s g) (n:Nat)
  (H:NC nx pl i g q s n .post 143) (p:Ps) (W:World) (h:Pz g q s p W) {l:List Tr} {r:Ps} (C:Dn nx pl i n .post p = .ok l r) (F:(nx r.a false).e=0) (j:EP (nx r.a false) [94]=false) :
  Calls prog 142 #[.pointer (some ⟨q,0,none⟩)] W (HJ q W (.ok l r) (NM g q s W)):=by
 have A:=h.lt;have B:=h.below.size;obtain⟨o,E⟩:∃o:Obj,o = .cells #[.int .i64 0,.string ⟨#[]⟩,.float .f64 0,.slice none 0 0,.complex .f64 0 0] 34:=⟨_,rfl⟩
 have t:Hid (Pz g q s p (W.alloc o)/\Ae q W (W.alloc o)/\C5 (W.alloc o) W.heap.size (.int .i64 0) (.string ⟨#[]⟩) (.float .f64 0) (.slice none 0 0) (.complex .f64 0 0)) :=
  ⟨h.keep (Ad _ _),Ae.of_below q (Ad _ _),E▸C5.new _ _ _ _ _ _ _⟩
 subst E;have D:=aA (H p _ t.out.1 (by rw[C];intro h;cases h));rw[C] at D;have K:=aA (fun W (h:Pz g q s r W)=>XH G h [94] F j);clear G h H C F j
 go_in
 go_wp2_with (first | (go_at_call 143;(with_reducible refine D.out.mono ?_);rintro e J ⟨v1,rfl,⟨⟨u,Q,rfl,rfl,k⟩,m⟩,d⟩;obtain⟨ka,f,rfl⟩:=k.slice;unfold CJ) | (go_at_call 19;(with_reducible refine(K.out _ (m.keep (Ad _ _))).mono ?_);rintro e w2 ⟨rfl,b⟩;have w:=d.size;have y:=b.size;simp only[World.size_alloc] at w y;obtain⟨R,S,T,U,V,X⟩:=(C5.new J (.int .i64 u.kd) (.string ⟨u.nm.toArray⟩) (.float .f64 u.x) (.slice ka u.ks.length f) (.complex .f64 u.z.1 u.z.2) 34).below b;have HC:=aA (((t.out.2.2.only d (by omega)).alloc (.cells #[.int .i64 u.kd,.string ⟨u.nm.toArray⟩,.float .f64 u.x,.slice ka u.ks.length f,.complex .f64 u.z.1 u.z.2] 34)).below b);obtain⟨Y,Z,n2,n3,n4,nf⟩:=HC.out))
 obtain⟨L,M,N,O,P,zf⟩:=((((HC.out.set0 (.int .i64 u.kd)).set1 (.string ⟨u.nm.toArray⟩)).set2 (.float .f64 u.x)).set3 (.slice ka u.ks.length f)).set4 (.complex .f64 u.z.1 u.z.2);have c:=(Ad J (.cells #[.int .i64 u.kd,.string ⟨u.nm.toArray⟩,.float .f64 u.x,.slice ka u.ks.length f,.complex .f64 u.z.1 u.z.2] 34)).trans (b.mono (by simp));have I:=F3 (W:=W) (k.bel c) (by simp) (m.keep c) ((t.out.2.1.trans d).trans (Ae.of_below q c)) A B (.int .i64 u.kd) (.string ⟨u.nm.toArray⟩) (.float .f64 u.x) (.slice ka u.ks.length f) (.complex .f64 u.z.1 u.z.2);exact bodyPost_ret (v:=CJ u (.slice ka u.ks.length f)) (by simp[CJ,results,results142,go_sem,L,M,N,O,P]<;>exact rfl) rfl ⟨_,rfl,I.1,I.2⟩
end Go.Proofs.YtjolfpcpcaocmaaGreatDoor
