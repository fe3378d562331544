/- Bn Bo -/
import Derived.Test.YtjolfpcpcaocmaaGreatDoorBm
set_option maxRecDepth 100000
set_option maxHeartbeats 2000000
open Go.Lib renaming hid->aA
namespace Go.Proofs.YtjolfpcpcaocmaaGreatDoor
open Go.Proofs.Tryz
open Go.RowKit
def NM (b:World) (q:Nat) (s:ByteArray) (W:World) (l:List Tr) (a:Ps) (v:Value) (w':World):Prop :=
 (∃t kv,l=[t]/\v=CJ t kv/\Am 34 w' (W.heap.size <= ·) t.ks kv)/\Pz b q s a w'
def NC (nx:Nat->Bool->Tk) (pl:Nat->Nat×Nat) (a:List UInt8->Option Bool) (b:World) (q:Nat) (s:ByteArray) (n:Nat) (k:NT) (f:FuncId):Prop :=
 ∀(p:Ps) (W:World),Pz b q s p W->Dn nx pl a n k p ≠ .hush->Calls prog f #[.pointer (some ⟨q,0,none⟩)] W (HJ q W (Dn nx pl a n k p) (NM b q s W))
theorem F3 {a W w1 w:World} {q:Nat} {s:ByteArray} {p:Ps} {t:Tr} {kv:Value} (b:Am 34 w (w1.heap.size <= ·) t.ks kv) (g:W.heap.size+1<=w1.heap.size) (f:Pz a q s p w) (c:Ae q W w) (i:q<W.heap.size) (e:a.heap.size<=W.heap.size) (v0 v1 v2 v3 v4:Value) :
  NM a q s W [t] p (CJ t kv) (((((w.setCell ⟨W.heap.size,0,none⟩ v0).setCell ⟨W.heap.size,1,none⟩ v1).setCell ⟨W.heap.size,2,none⟩ v2).setCell ⟨W.heap.size,3,none⟩ v3).setCell ⟨W.heap.size,4,none⟩ v4) /\
  Ae q W (((((w.setCell ⟨W.heap.size,0,none⟩ v0).setCell ⟨W.heap.size,1,none⟩ v1).setCell ⟨W.heap.size,2,none⟩ v2).setCell ⟨W.heap.size,3,none⟩ v3).setCell ⟨W.heap.size,4,none⟩ v4):=by
 have d:=(((((Ae.refl W.heap.size w).set 0 v0).set 1 v1).set 2 v2).set 3 v3).set 4 v4;exact⟨⟨⟨t,kv,rfl,rfl,(b.only d (by omega)).mono fun j _ h=>by omega⟩,f.far5 e (by omega) _ _ _ _ _⟩,LI c (Nat.le_refl _) _ _ _ _ _⟩
theorem XW {nx:Nat->Bool->Tk} {pl:Nat->Nat×Nat} {j:List UInt8->Option Bool} {y:World} {q:Nat} {s:ByteArray} (E:F2 nx s y) (F:PlC pl s) (n:Nat)
  (P:NC nx pl j y q s n .expr 27):NC nx pl j y q s (n+1) .cond1 37:=by
 intro p W h b;rw[Dn] at b ⊢;have U:=aA (fun p W (h:Pz y q s p W)=>EM E F h [40]);have V:=aA (fun p W (h:Pz y q s p W)=>EM E F h [41]);have N:=aA P;have H:=h.lt;have I:=h.below.size;obtain⟨o,O⟩:∃o:Obj,o = .cells #[.int .i64 0,.string ⟨#[]⟩,.float .f64 0,.slice none 0 0,.complex .f64 0 0] 34:=⟨_,rfl⟩
 have w:Hid (Pz y q s p (W.alloc o)/\Ae q W (W.alloc o)/\C5 (W.alloc o) W.heap.size (.int .i64 0) (.string ⟨#[]⟩) (.float .f64 0) (.slice none 0 0) (.complex .f64 0 0)) :=
  ⟨h.keep (Ad _ _),Ae.of_below q (Ad _ _),O▸C5.new _ _ _ _ _ _ _⟩
 subst O;clear E F h P;have r:=aA (U.out p _ w.out.1)
 cases L:EQ nx pl [40] p with
 | hush=>rw[L] at b;exact absurd rfl b
 | bad f e =>
   rw[L] at r;clear b
   go_in
   go_wp2_with (first | (go_at_call 18;(with_reducible refine r.out.mono ?_);rintro e B ⟨rfl,a⟩))
   exact⟨rfl,rfl,w.out.2.1.trans a⟩
 | ok z K =>
   rw[L] at r b;simp only[Hf.bind] at b ⊢
   cases A:Dn nx pl j n .expr K with
   | hush=>rw[A] at b;exact absurd rfl b
   | bad f e =>
     have u:=aA (fun W h=>N.out K W h (by rw[A];intro h;cases h));rw[A] at u;clear b
     go_in
     go_wp2_with (first | (go_at_call 18;(with_reducible refine r.out.mono ?_);rintro e B ⟨S,rfl,⟨rfl,g⟩,a⟩) | (go_at_call 27;(with_reducible refine(u.out _ g).mono ?_);rintro e D ⟨rfl,c⟩))
     exact⟨rfl,rfl,(w.out.2.1.trans a).trans c⟩
   | ok l R =>
     have u:=aA (fun W h=>N.out K W h (by rw[A];intro h;cases h));rw[A] at u b;dsimp only at b ⊢;have C:=aA (fun W h=>V.out R W h)
     cases M:EQ nx pl [41] R with
     | hush=>rw[M] at b;exact absurd rfl b
     | bad f e =>
       rw[M] at C;clear b
       go_in
       go_wp2_with (first | (go_at_call 18;(with_reducible refine r.out.mono ?_);rintro e B ⟨S,rfl,⟨rfl,g⟩,a⟩) | (go_at_call 27;(with_reducible refine(u.out _ g).mono ?_);rintro e D ⟨Z,rfl,⟨⟨t,Y,rfl,rfl,i⟩,k⟩,c⟩;obtain⟨ka,m,rfl⟩:=i.slice;unfold CJ) | (go_at_call 18;(with_reducible refine(C.out _ (k.keep (Ad _ _))).mono ?_);rintro e w3 ⟨rfl,d⟩))
       exact⟨rfl,rfl,((w.out.2.1.trans a).trans (c.trans (Ae.of_below q (Ad _ _)))).trans d⟩
     | ok T p3 =>
       rw[M] at C;clear b
       go_in
       go_wp2_with (first | (go_at_call 18;(with_reducible refine r.out.mono ?_);rintro e B ⟨S,rfl,⟨rfl,g⟩,a⟩) | (go_at_call 27;(with_reducible refine(u.out _ g).mono ?_);rintro e D ⟨Z,rfl,⟨⟨t,Y,rfl,rfl,i⟩,k⟩,c⟩;obtain⟨ka,m,rfl⟩:=i.slice;unfold CJ) | (go_at_call 18;(with_reducible refine(C.out _ (k.keep (Ad _ _))).mono ?_);rintro e w3 ⟨v3,rfl,⟨rfl,J⟩,d⟩;have G:=a.size;have X:=c.size;simp only[World.size_alloc] at G;obtain⟨m0,m1,m2,m3,m4,mf⟩:=(C5.new D (.int .i64 t.kd) (.string ⟨t.nm.toArray⟩) (.float .f64 t.x) (.slice ka t.ks.length m) (.complex .f64 t.z.1 t.z.2) 34).only d (by omega);have HC:=aA ((((w.out.2.2.only a (by omega)).only c (by omega)).alloc (.cells #[.int .i64 t.kd,.string ⟨t.nm.toArray⟩,.float .f64 t.x,.slice ka t.ks.length m,.complex .f64 t.z.1 t.z.2] 34)).only d (by omega));obtain⟨n0,n1,n2,n3,n4,nf⟩:=HC.out))
       obtain⟨z0,z1,z2,T,z4,zf⟩:=((((HC.out.set0 (.int .i64 t.kd)).set1 (.string ⟨t.nm.toArray⟩)).set2 (.float .f64 t.x)).set3 (.slice ka t.ks.length m)).set4 (.complex .f64 t.z.1 t.z.2);have Q:=F3 (W:=W) (w1:=B) ((i.bel (Ad D (.cells #[.int .i64 t.kd,.string ⟨t.nm.toArray⟩,.float .f64 t.x,.slice ka t.ks.length m,.complex .f64 t.z.1 t.z.2] 34))).only d (by omega)) (by omega) J (((w.out.2.1.trans a).trans (c.trans (Ae.of_below q (Ad _ _)))).trans d) H I (.int .i64 t.kd) (.string ⟨t.nm.toArray⟩) (.float .f64 t.x) (.slice ka t.ks.length m) (.complex .f64 t.z.1 t.z.2);exact bodyPost_ret (v:=CJ t (.slice ka t.ks.length m)) (by simp[CJ,results,results37,go_sem,z0,z1,z2,T,z4]<;>exact rfl) rfl ⟨_,rfl,Q.1,Q.2⟩
theorem N1 (nx:Nat->Bool->Tk) (b:Bool) (p:Ps) {c:Type} (k:Tk->Ps->Hf c) :
  (Eb nx b p).bind k=if (nx p.a b).e=0 then k (nx p.a b) p else .bad (nx p.a b).f (nx p.a b).e:=by
 unfold Eb;by_cases h:(nx p.a b).e=0
 ·rw[if_pos h,if_pos h];rfl
 rw[if_neg h,if_neg h];rfl
theorem XF {nx:Nat->Bool->Tk} {pl:Nat->Nat×Nat} {j:List UInt8->Option Bool} {K:World} {q:Nat} {s:ByteArray} (Y:F2 nx s K) (n:Nat)
  (X:NC nx pl j K q s n .cond1 37) (Z:NC nx pl j K q s n .operand 145):NC nx pl j K q s (n+1) .dollar 153:=by
 intro p W h g;rw[Dn,N1] at g ⊢;have I:=h.lt;have J:=h.below.size;obtain⟨o,U⟩:∃o:Obj,o = .cells #[.int .i64 0,.string ⟨#[]⟩,.float .f64 0,.slice none 0 0,.complex .f64 0 0] 34:=⟨_,rfl⟩
 have i:Hid (Pz K q s p (W.alloc o)/\Ae q W (W.alloc o)/\C5 (W.alloc o) W.heap.size (.int .i64 0) (.string ⟨#[]⟩) (.float .f64 0) (.slice none 0 0) (.complex .f64 0 0)) :=
  ⟨h.keep (Ad _ _),Ae.of_below q (Ad _ _),U▸C5.new _ _ _ _ _ _ _⟩
 subst U;have w:=aA (Ea Y i.out.1 true);have HC:=aA X;have M:=aA Z;clear Y h X Z;obtain⟨t,V⟩:∃t,nx p.a true=t:=⟨_,rfl⟩;rw[V] at w g ⊢;clear V;unfold G1 at w;by_cases y:t.e=0
 ·rw[if_pos y] at g ⊢
  cases E:EP t [40] with
  | true =>
    rw[E] at g;rw[if_pos rfl] at g;rw[if_pos rfl];have G:=aA (F5 E);have m:=aA (fun W h=>HC.out p W h g);clear E HC M
    cases D:Dn nx pl j n .cond1 p with
    | hush=>exact absurd D g
    | bad f e =>
      rw[D] at m;clear g
      go_in
      go_wp2_with (first | (go_at_call 15;(with_reducible refine w.out.mono ?_);rintro e F ⟨b,⟨-,rfl⟩ | ⟨r,-⟩⟩;rotate_left;exact absurd y r) | (go_at_call 12;(with_reducible refine(G.out _).mono ?_);rintro e L ⟨rfl,c⟩) | (go_at_call 37;(with_reducible refine(m.out _ ((i.out.1.keep b).keep c)).mono ?_);rintro e O ⟨rfl,d⟩))
      exact⟨rfl,rfl,((i.out.2.1.trans (Ae.of_below q b)).trans (Ae.of_below q c)).trans d⟩
    | ok l p2 =>
      rw[D] at m;clear g
      go_in
      go_wp2_with (first | (go_at_call 15;(with_reducible refine w.out.mono ?_);rintro e F ⟨b,⟨-,rfl⟩ | ⟨r,-⟩⟩;rotate_left;exact absurd y r) | (go_at_call 12;(with_reducible refine(G.out _).mono ?_);rintro e L ⟨rfl,c⟩) | (go_at_call 37;(with_reducible refine(m.out _ ((i.out.1.keep b).keep c)).mono ?_);rintro e O ⟨v3,rfl,⟨⟨u,kv,rfl,rfl,k⟩,B⟩,d⟩;obtain⟨ka,C,rfl⟩:=k.slice;unfold CJ;have A:=b.size;have N:=c.size;simp only[World.size_alloc] at A;have HC:=aA (((i.out.2.2.below b).below c).only d (by omega));obtain⟨n0,n1,n2,n3,n4,nf⟩:=HC.out))
      obtain⟨P,Q,R,S,T,zf⟩:=((((HC.out.set0 (.int .i64 u.kd)).set1 (.string ⟨u.nm.toArray⟩)).set2 (.float .f64 u.x)).set3 (.slice ka u.ks.length C)).set4 (.complex .f64 u.z.1 u.z.2);have H:=F3 (W:=W) (w1:=L) k (by omega) B (((i.out.2.1.trans (Ae.of_below q b)).trans (Ae.of_below q c)).trans d) I J (.int .i64 u.kd) (.string ⟨u.nm.toArray⟩) (.float .f64 u.x) (.slice ka u.ks.length C) (.complex .f64 u.z.1 u.z.2);exact bodyPost_ret (v:=CJ u (.slice ka u.ks.length C)) (by simp[CJ,results,results153,go_sem,P,Q,R,S,T]<;>exact rfl) rfl ⟨_,rfl,H.1,H.2⟩
  | false =>
    rw[E] at g;rw[if_neg (by simp)] at g;rw[if_neg (by simp)];have G:=aA (F5 E);have m:=aA (fun W h=>M.out p W h g);clear E HC M
    cases D:Dn nx pl j n .operand p with
    | hush=>exact absurd D g
    | bad f e =>
      rw[D] at m;clear g
      go_in
      go_wp2_with (first | (go_at_call 15;(with_reducible refine w.out.mono ?_);rintro e F ⟨b,⟨-,rfl⟩ | ⟨r,-⟩⟩;rotate_left;exact absurd y r) | (go_at_call 12;(with_reducible refine(G.out _).mono ?_);rintro e L ⟨rfl,c⟩) | (go_at_call 145;(with_reducible refine(m.out _ ((i.out.1.keep b).keep c)).mono ?_);rintro e O ⟨rfl,d⟩))
      exact⟨rfl,rfl,((i.out.2.1.trans (Ae.of_below q b)).trans (Ae.of_below q c)).trans d⟩
    | ok l p2 =>
      rw[D] at m;clear g
      go_in
      go_wp2_with (first | (go_at_call 15;(with_reducible refine w.out.mono ?_);rintro e F ⟨b,⟨-,rfl⟩ | ⟨r,-⟩⟩;rotate_left;exact absurd y r) | (go_at_call 12;(with_reducible refine(G.out _).mono ?_);rintro e L ⟨rfl,c⟩) | (go_at_call 145;(with_reducible refine(m.out _ ((i.out.1.keep b).keep c)).mono ?_);rintro e O ⟨v3,rfl,⟨⟨u,kv,rfl,rfl,k⟩,B⟩,d⟩;obtain⟨ka,C,rfl⟩:=k.slice;unfold CJ;have A:=b.size;have N:=c.size;simp only[World.size_alloc] at A;have HC:=aA (((i.out.2.2.below b).below c).only d (by omega));obtain⟨n0,n1,n2,n3,n4,nf⟩:=HC.out))
      obtain⟨P,Q,R,S,T,zf⟩:=((((HC.out.set0 (.int .i64 u.kd)).set1 (.string ⟨u.nm.toArray⟩)).set2 (.float .f64 u.x)).set3 (.slice ka u.ks.length C)).set4 (.complex .f64 u.z.1 u.z.2);have H:=F3 (W:=W) (w1:=L) k (by omega) B (((i.out.2.1.trans (Ae.of_below q b)).trans (Ae.of_below q c)).trans d) I J (.int .i64 u.kd) (.string ⟨u.nm.toArray⟩) (.float .f64 u.x) (.slice ka u.ks.length C) (.complex .f64 u.z.1 u.z.2);exact bodyPost_ret (v:=CJ u (.slice ka u.ks.length C)) (by simp[CJ,results,results153,go_sem,P,Q,R,S,T]<;>exact rfl) rfl ⟨_,rfl,H.1,H.2⟩
 rw[if_neg y]
 go_in
 go_wp2_with (first | (go_at_call 15;(with_reducible refine w.out.mono ?_);rintro e F ⟨b,⟨r,-⟩ | ⟨-,rfl⟩⟩;exact absurd r y))
 exact⟨rfl,rfl,i.out.2.1.trans (Ae.of_below q b)⟩
end Go.Proofs.YtjolfpcpcaocmaaGreatDoor
