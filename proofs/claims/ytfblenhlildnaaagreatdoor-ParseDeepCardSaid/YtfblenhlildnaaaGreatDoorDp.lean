/- Dp Ds Dt -/
import Derived.Test.YtfblenhlildnaaaGreatDoorLk
import Derived.Test.YtfblenhlildnaaaGreatDoorCa
import Derived.Test.YtfblenhlildnaaaGreatDoorCx
set_option maxRecDepth 100000
set_option maxHeartbeats 4000000
open Go.Lib renaming hid->aA
open Nat renaming le_trans->aB,lt_of_lt_of_le->aC
namespace Go.Proofs.YtfblenhlildnaaaGreatDoor
open Go.RowKit
section
variable {w0 W w w':World} {q B b:Nat} {s:ByteArray} {p:Ps} {l:List B5} {ks:List (List Tr×Value)} {v0 v1 v2 v3 v4 v5 v6 v7 v8:Value}
theorem Fx.box9 (h:Fx w0 W q B s p l ks w) (v0 v1 v2 v3 v4 v5 v6 v7 v8:Value) (T:TypeId):Fx w0 W q B s p (⟨w.heap.size,v0,v1,v2,v3,v4⟩::l) ks (w.alloc (.cells #[v0,v1,v2,v3,v4,v5,v6,v7,v8] T)) :=
 let g:=h.quiet (Ad w (.cells #[v0,v1,v2,v3,v4,v5,v6,v7,v8] T))
 ⟨g.z,g.o,g.hq,g.hw,g.hB,fun x a=>by rcases List.mem_cons.1 a with rfl | a;exact⟨h.o.size,(CN.new w [v0,v1,v2,v3,v4,v5,v6,v7,v8] T).c5⟩;exact g.b x a,
   fun x a=>((h.k x a).mono (S':=Av B (⟨w.heap.size,v0,v1,v2,v3,v4⟩::l)) fun j f e=>⟨e.1,fun y c=>by rcases List.mem_cons.1 c with rfl | c;exact Nat.ne_of_lt f;exact e.2 y c⟩).bel (Ad _ _),List.pairwise_cons.2 ⟨fun y c=>h.new y c,h.d⟩⟩
theorem _root_.Go.CN.all9 (h:CN w b [v0,v1,v2,v3,v4,v5,v6,v7,v8]) (u0 u1 u2 u3 u4 u5 u6 u7 u8:Value) :
  CN (((((((((w.setCell ⟨b,0,none⟩ u0).setCell ⟨b,1,none⟩ u1).setCell ⟨b,2,none⟩ u2).setCell ⟨b,3,none⟩ u3).setCell ⟨b,4,none⟩ u4).setCell ⟨b,5,none⟩ u5).setCell ⟨b,6,none⟩ u6).setCell ⟨b,7,none⟩ u7).setCell ⟨b,8,none⟩ u8) b [u0,u1,u2,u3,u4,u5,u6,u7,u8] :=
 ((((((((h.set 0 u0 (by simp)).set 1 u1 (by simp)).set 2 u2 (by simp)).set 3 u3 (by simp)).set 4 u4 (by simp)).set 5 u5 (by simp)).set 6 u6 (by simp)).set 7 u7 (by simp)).set 8 u8 (by simp)
theorem YG (w:World) (b:Nat) (u0 u1 u2 u3 u4 u5 u6 u7 u8:Value) :
  Ae b w (((((((((w.setCell ⟨b,0,none⟩ u0).setCell ⟨b,1,none⟩ u1).setCell ⟨b,2,none⟩ u2).setCell ⟨b,3,none⟩ u3).setCell ⟨b,4,none⟩ u4).setCell ⟨b,5,none⟩ u5).setCell ⟨b,6,none⟩ u6).setCell ⟨b,7,none⟩ u7).setCell ⟨b,8,none⟩ u8) :=
 (((((((((Ae.refl b w).set 0 u0).set 1 u1).set 2 u2).set 3 u3).set 4 u4).set 5 u5).set 6 u6).set 7 u7).set 8 u8
theorem Fx.old5 (h:Fx w0 W q B s p l ks w) (c:C5 W b v0 v1 v2 v3 v4) (a:b≠q):C5 w b v0 v1 v2 v3 v4:=c.only h.o a
theorem Fx.oldN {a:List Value} (h:Fx w0 W q B s p l ks w) (c:CN W b a) (d:b≠q):CN w b a:=c.only h.o d
structure Z' (W X:World) (q tb rb:Nat) (t:Tk):Prop where
 o:Ae q W X
 t:C5 X tb (.int .i64 t.kd) (.string ⟨t.tx.toArray⟩) (.float .f64 t.nm) (.int .i64 t.f) (.int .i64 t.t)
 r:CN X rb [.int .i64 0,.int .i64 0,.slice none 0 0,.int .i64 0,.string ⟨#[]⟩,.float .f64 0,.slice none 0 0,.complex .f64 0 0,.complex .f64 0 0]
 ht:tb≠q
 hr:rb≠q
 hW:W.heap.size<=rb
theorem Z'.start {s:ByteArray} {p:Ps} (h:Pz w0 q s p W) (t:Tk) (T U:TypeId):∃X b a,X=((W.alloc (.cells #[.int .i64 t.kd,.string ⟨t.tx.toArray⟩,.float .f64 t.nm,.int .i64 t.f,.int .i64 t.t] T)).alloc (.cells #[.int .i64 0,.int .i64 0,.slice none 0 0,.int .i64 0,.string ⟨#[]⟩,.float .f64 0,.slice none 0 0,.complex .f64 0 0,.complex .f64 0 0] U)) /\
  b=W.heap.size/\a=W.heap.size+1/\Z' W X q b a t/\Fx w0 X q X.heap.size s p [] [] X:=by
 have c:=h.lt;have b1:=Ad W (.cells #[.int .i64 t.kd,.string ⟨t.tx.toArray⟩,.float .f64 t.nm,.int .i64 t.f,.int .i64 t.t] T);have b2:=Ad (W.alloc (.cells #[.int .i64 t.kd,.string ⟨t.tx.toArray⟩,.float .f64 t.nm,.int .i64 t.f,.int .i64 t.t] T)) (.cells #[.int .i64 0,.int .i64 0,.slice none 0 0,.int .i64 0,.string ⟨#[]⟩,.float .f64 0,.slice none 0 0,.complex .f64 0 0,.complex .f64 0 0] U);refine⟨_,_,_,rfl,rfl,rfl,⟨(Ae.of_below q b1).trans (Ae.of_below q b2),(C5.new _ _ _ _ _ _ _).below b2,?_,by omega,by omega,by omega⟩,Fx.start ((h.keep b1).keep b2)⟩;have:=CN.new (W.alloc (.cells #[.int .i64 t.kd,.string ⟨t.tx.toArray⟩,.float .f64 t.nm,.int .i64 t.f,.int .i64 t.t] T)) [.int .i64 0,.int .i64 0,.slice none 0 0,.int .i64 0,.string ⟨#[]⟩,.float .f64 0,.slice none 0 0,.complex .f64 0 0,.complex .f64 0 0] U
 rw[show (W.alloc (.cells #[.int .i64 t.kd,.string ⟨t.tx.toArray⟩,.float .f64 t.nm,.int .i64 t.f,.int .i64 t.t] T)).heap.size=W.heap.size+1 by simp] at this;exact this
theorem Z'.done {X:World} {y a:Nat} {t:Tk} (g:Z' W X q y a t) (h:Fx w0 X q X.heap.size s p l ks w) (B:q<W.heap.size) (C:w0.heap.size<=W.heap.size) {r:Rl} {pv kv:Value} (i:(r.ps,pv)∈ks) (m:(r.b.ks,kv)∈ks) (u0 u1 u2 u3 u4 u5 u6 u7 u8:Value) {o:Hf Rl} (f:Hid (.ok r p=o)) :
  AbS q W o (ZQ w0 q s W) (.returned (Zh r pv kv)) (((((((((w.setCell ⟨a,0,none⟩ u0).setCell ⟨a,1,none⟩ u1).setCell ⟨a,2,none⟩ u2).setCell ⟨a,3,none⟩ u3).setCell ⟨a,4,none⟩ u4).setCell ⟨a,5,none⟩ u5).setCell ⟨a,6,none⟩ u6).setCell ⟨a,7,none⟩ u7).setCell ⟨a,8,none⟩ u8):=by
 have c:=YG w a u0 u1 u2 u3 u4 u5 u6 u7 u8;have u:=g.o.size;have A:=g.r.l;have n:=g.hW
 have d:∀x∈ks,Am 42 (((((((((w.setCell ⟨a,0,none⟩ u0).setCell ⟨a,1,none⟩ u1).setCell ⟨a,2,none⟩ u2).setCell ⟨a,3,none⟩ u3).setCell ⟨a,4,none⟩ u4).setCell ⟨a,5,none⟩ u5).setCell ⟨a,6,none⟩ u6).setCell ⟨a,7,none⟩ u7).setCell ⟨a,8,none⟩ u8) (W.heap.size <= ·) x.1 x.2:=fun x v =>
  ((h.k x v).only c (fun e=>by have:=e.1;omega)).mono fun j _ e=>aB u e.1
 exact O2 f ⟨⟨pv,kv,rfl,d _ i,d _ m⟩,h.z.other c (by omega) (by omega)⟩ ((g.o.trans h.o).under c n)
end
open Go.Proofs.Tryz
set_option linter.unusedSimpArgs false in
theorem Ze {nx:Nat->Bool->Tk} {pl:Nat->Nat×Nat} {ru:Nat->Tk->Ps->Hf Rl} {w0:World} {q:Nat} {s:ByteArray} (hN:F2 nx s w0) (hP:H6 pl s) (n:Nat) (hn:n<=1000000) (hU:∀m,m<n->RuC w0 q s (ru m)):Aar w0 q s (M1 nx ru n []):=by
 intro p P W h R c0 b0 hC J;obtain⟨r,O⟩:∃r,M1 nx ru n [] p=r:=⟨_,rfl⟩;rw[O] at J ⊢;have y:=aA O;have d:=aA (Gx.start h R c0 b0 hC);have HN:=aA hN;have HP:=aA hP;have HU:=aA hU;clear O h hN hP R hC hU;obtain⟨i0,d0,f0,g0,h0⟩:=info_parts Aaj
 go_in
 go_wp2
 go_loopg [] n (fun g wr=>∃(m:Nat) (l:List Rl) (v:Value) (pr:Ps),m=g/\m<=n/\l.length+m<=n/\Hid (M1 nx ru m l pr=r)/\Hid (Gx w0 W q P s pr v l v wr))
 case atStart=>exact⟨n,[],.slice none 0 0,p,rfl,Nat.le_refl _,by simp,y,d⟩
 clear d y;obtain⟨m,l,v,pr,rfl,k0,j0,y,d⟩:=hrel
 cases m with
 | zero=>exact absurd y.out.symm J
 | succ m =>
 replace y:=aA (by have:=y.out;rw[M1] at this;exact this)
 go_wp2_with (first | (go_at_call 44;(with_reducible refine(XG HN.out HP.out d.out.z true m (CA y J)).mono ?_);intro e M ha;rcases ha.part y J with⟨f,O,rfl,G,hr⟩ | ⟨t,p1,v1,rfl,⟨rfl,he,hx,N⟩,G,C⟩;exact⟨rfl,XD d.out G hr⟩;replace y:=C;clear C ha;(try dsimp only at y);replace d:=aA (d.out.move N G);have HT:=aA (show W.heap.size<=M.heap.size from d.out.o.size);have HO:=aA (show ∀k,v.ownBlock=some k->k<M.heap.size from fun k e=>by obtain⟨L,-,i,-⟩:=d.out.r;exact(i.lt k e).2);have HK:=aA (by have h1:=HN.out.ok p1.a true N.ha (by rw[hx];exact he);rw[hx] at h1;exact h1);clear N G he hx;have A:=aA (C5.new M (.int .i64 t.kd) (.string ⟨t.tx.toArray⟩) (.float .f64 t.nm) (.int .i64 t.f) (.int .i64 t.t) 70);replace d:=aA (d.out.quiet (Ad M (.cells #[.int .i64 t.kd,.string ⟨t.tx.toArray⟩,.float .f64 t.nm,.int .i64 t.f,.int .i64 t.t] 70)));obtain⟨m0,m1,m2,m3,m4,mf⟩:=A.out;unfold G1;rcases Xt t.kd 0 with⟨I,be,bn⟩ | ⟨I,be,bn⟩<;>((first | replace y:=Ym I y | replace y:=XY I y);clear I)) | (go_at_call 45;(with_reducible refine(L0 t [102,117,110,99,116,105,111,110] _).mono ?_);rintro e w2 ⟨rfl,hb⟩;replace d:=aA (d.out.quiet hb);replace A:=aA (A.out.below hb);clear hb m0 m1 m2 m3 m4 mf;obtain⟨m0,m1,m2,m3,m4,mf⟩:=A.out;cases hs:XI t [102,117,110,99,116,105,111,110];rotate_left;rw[hs,if_pos rfl] at y;exact absurd y.out.symm J;rw[hs,if_neg (by decide)] at y;clear hs))
 ·exact bodyPost_ret (results_none rfl _ _ _) rfl (Zp d.out y)
 clear m0 m1 m2 m3 m4 mf;refine Abt (fun o=>o.cell? ⟨P,0,none⟩=some v/\C5 o M.heap.size (.int .i64 t.kd) (.string ⟨t.tx.toArray⟩) (.float .f64 t.nm) (.int .i64 t.f) (.int .i64 t.t)) 12 (by kernel_rfl) ?_;have B:w2.drew.cell? ⟨P,0,none⟩=some v/\C5 w2.drew M.heap.size (.int .i64 t.kd) (.string ⟨t.tx.toArray⟩) (.float .f64 t.nm) (.int .i64 t.f) (.int .i64 t.t):=⟨d.out.drew.c.c 0 _ rfl,A.out.kept rfl⟩;refine AbP 0 (.pointer (some ⟨P,0,none⟩)) rfl B ?_
 try simp only[Act.put,sP]
 refine AbP 1 (.pointer (some ⟨P,0,none⟩)) rfl B ?_
 try simp only[Act.put,sP]
 refine AbP 2 (.pointer (some ⟨P,0,none⟩)) rfl B ?_
 try simp only[Act.put,sP]
 refine AbP 3 (.pointer (some ⟨P,0,none⟩)) rfl B ?_
 try simp only[Act.put,sP]
 refine AbU 4 (v) rfl (fun w hS=>by obtain⟨s0,-⟩:=hS;go_simp) B ?_
 try simp only[Act.put,sP]
 refine AbP 5 (.pointer (some ⟨q,0,none⟩)) rfl B ?_
 try simp only[Act.put,sP]
 refine AbU 6 (.agg #[.int .i64 t.kd,.string ⟨t.tx.toArray⟩,.float .f64 t.nm,.int .i64 t.f,.int .i64 t.t]) rfl (fun w hS=>by obtain⟨-,s0,s1,s2,s3,s4,-⟩:=hS;go_simp) B ?_
 try simp only[Act.put,sP]
 replace d:=aA d.out.drew;replace A:=aA B.2;clear B
 revert d A
 generalize World.drew _=X;intro d A;have e0:M.heap.size≠q:=by have:=d.out.hq;have:=HT.out;omega
 refine AaC 7 rfl (fun K D=>?_)
 try go_simp
 go_at_call 47
 refine(HU.out m (by omega) t _ _ d.out.z HK.out (CA y J)).mono ?_;intro e w8 ha;rcases ha.part y J with⟨f,O,rfl,G,hr⟩ | ⟨u,p8,v8,rfl,⟨⟨pv,kv,rfl,hk⟩,N⟩,G,C⟩
 ·exact⟨rfl,XD d.out G hr⟩
 replace y:=C;clear C ha
 (try dsimp only at y)
 obtain⟨V,Z,rfl⟩:=Am.slice (v:=pv) (ks:=u.ps) hk.1;obtain⟨U,Y,rfl⟩:=Am.slice (v:=kv) (ks:=u.b.ks) hk.2;obtain⟨L,Q,i,H⟩:=d.out.r;have F:=i.lt;have T:=aA (hk.mono (S':=fun j=>W.heap.size<=j/\some j≠v.ownBlock) fun j _ hj=>⟨aB d.out.o.size hj,fun e=>by have:=(F j e.symm).2;omega⟩);replace d:=aA (d.out.move N G);replace A:=aA (A.out.only G e0);clear hk N G L Q i H F;unfold Zh;refine D.out _ _ (.inr ⟨d.out.c.c 0 _ rfl,A.out⟩) ?_
 try simp only[Act.put,sP]
 refine AaC 8 rfl (fun K D=>?_)
 try go_simp
 replace d:=aA (d.out.quiet (Ad _ (.cells #[.int .i64 u.k,.int .i64 u.n,.slice V u.ps.length Z,.int .i64 u.b.kd,.string ⟨u.b.nm.toArray⟩,.float .f64 u.b.x,.slice U u.b.ks.length Y,.complex .f64 u.b.z.1 u.b.z.2,.complex .f64 u.z.1 u.z.2] 44)));replace A:=aA (A.out.below (Ad _ (.cells #[.int .i64 u.k,.int .i64 u.n,.slice V u.ps.length Z,.int .i64 u.b.kd,.string ⟨u.b.nm.toArray⟩,.float .f64 u.b.x,.slice U u.b.ks.length Y,.complex .f64 u.b.z.1 u.b.z.2,.complex .f64 u.z.1 u.z.2] 44)));replace T:=aA (T.out.kept (w':=w8.alloc (.cells #[.int .i64 u.k,.int .i64 u.n,.slice V u.ps.length Z,.int .i64 u.b.kd,.string ⟨u.b.nm.toArray⟩,.float .f64 u.b.x,.slice U u.b.ks.length Y,.complex .f64 u.b.z.1 u.b.z.2,.complex .f64 u.z.1 u.z.2] 44)) (Ad _ _).size fun j _ hl=>(Ad _ _).block j hl)
 refine D.out _ _ (.inr ⟨d.out.c.c 0 _ rfl,A.out⟩) ?_
 try simp only[Act.put,sP]
 obtain⟨L,Q,i,H⟩:=d.out.r;have E:L.length=l.length:=(by rw[<- Q,List.length_map]);have F:=i.lt;have S:=d.out.o.size;refine AaC 9 rfl (fun K D=>?_);refine wp_append_lies _ (.tmp 11) (.tmp 15) 30 rfl W.heap.size 44 i0 _ 9 128 underlying30 d0 f0 g0 h0 rfl (by decide) _ L.length (AW L) rfl i ⟨w8.heap.size,0,none⟩ 1 1 (AW [(u,.slice V u.ps.length Z,.slice U u.b.ks.length Y)]) rfl rfl (Aaw _ _ _ _ _) (Agr _ _ _ _ _ _ _) (by decide) (by unfold maxLen;omega) (by omega) S _ rfl ?_;intro g a0 w9 o1 o2 o3 o4;have hF:=d.out.append Q F H T.out o1 o2 (by rcases o3 with e | e;exact .inl e.symm;exact .inr (by rw[e];rfl))
 replace A:=aA (C5.kept A.out (o2.block _ (by have:=A.out.lt;exact this) fun e=>by have:=(HO.out _ e.symm);omega));replace d:=aA hF;clear hF o1 o2 o3 o4 Q i H S T;rw[E] at d;rw[E];clear E F L;refine D.out _ _ (.inr ⟨d.out.c.c 0 _ rfl,A.out⟩) ?_
 try simp only[Act.put,sP]
 refine AaC 10 rfl (fun K D=>?_)
 try go_simp
 refine D.out _ _ (.inr ⟨d.out.c.c 0 _ rfl,A.out⟩) ?_
 try simp only[Act.put,sP]
 refine AaC 11 rfl (fun K D=>?_)
 try go_simp
 refine D.out _ _ (.inr ⟨d.out.c.c 0 _ rfl,A.out⟩) ?_
 try simp only[Act.put,sP]
 have n0:=d.out.c.c 0 _ rfl;have n1:=d.out.c.c 1 _ rfl;have nf:=d.out.c.z;refine AaC 12 rfl (fun K D=>?_)
 try go_simp
 replace d:=aA (d.out.put (.slice (some ⟨g,0,none⟩) (l.length+1) a0));refine D.out _ _ (.inl rfl) ?_
 try simp only[Act.put,sP]
 refine Aal (by kernel_rfl) ?_ _;go_wp2
 go_roundg m
 case rel=>exact⟨m,l++[u],_,p8,rfl,by omega,by rw[List.length_append,List.length_singleton];omega,y,d⟩
 all_goals omega
def ZX (pl:Nat->Nat×Nat) (a:World) (r:Hf (List Rl)) (e:Ending) (w':World):Prop :=
 match r with
 | .ok rs _=>Below a.heap.size a w'/\∃v,e = .returned (.tuple #[.agg #[v,.slice none 0 0],.complex .f64 0 0,.int .i64 0])/\Lr w' a.heap.size rs v
 | .bad f er=>Below a.heap.size a w'/\e = .returned (.tuple #[.agg #[.slice none 0 0,.slice none 0 0],.complex .f64 (pl f).1 (pl f).2,.int .i64 er])
 | .hush=>True
structure Px (w X:World) (s:ByteArray):Prop where
 t:CN X w.heap.size [.string s]
 p:CN X (w.heap.size+1) [.slice none 0 0,.slice none 0 0]
 a:CN X (w.heap.size+1+1) [.complex .f64 0 0]
 e:CN X (w.heap.size+1+1+1) [.int .i64 0]
 q:C4 X (w.heap.size+1+1+1+1) (.string s) (.int .i64 0) (.int .i64 0) (.int .i64 (-1))
 b:Below w.heap.size w X
 l:X.heap.size=w.heap.size+1+1+1+1+1
theorem Px.start (w:World) (s:ByteArray) (A B C D E:TypeId):∃X,X=((((w.alloc (.cells #[.string s] A)).alloc (.cells #[.slice none 0 0,.slice none 0 0] B)).alloc (.cells #[.complex .f64 0 0] C)).alloc (.cells #[.int .i64 0] D)).alloc (.cells #[.string s,.int .i64 0,.int .i64 0,.int .i64 (-1)] E)/\Px w X s:=by
 refine⟨_,rfl,?_⟩;have k0:=CN.new w [.string s] A;have f:(w.alloc (.cells [.string s].toArray A)).heap.size=w.heap.size+1:=(by simp);have b0:=Ad w (.cells #[.string s] A);change CN (w.alloc (.cells #[.string s] A)) _ _ at k0;change (w.alloc (.cells #[.string s] A)).heap.size=_ at f;generalize w.alloc (.cells #[.string s] A)=X0 at *;have k1:=CN.new X0 [.slice none 0 0,.slice none 0 0] B;have b1:=Ad X0 (.cells #[.slice none 0 0,.slice none 0 0] B);have g:(X0.alloc (.cells [.slice none 0 0,.slice none 0 0].toArray B)).heap.size=w.heap.size+1+1:=(by simp[f]);change CN (X0.alloc (.cells #[.slice none 0 0,.slice none 0 0] B)) _ _ at k1;change (X0.alloc (.cells #[.slice none 0 0,.slice none 0 0] B)).heap.size=_ at g
 rw[f] at k1;replace k0:=k0.quiet b1;replace b0:=b0.trans (b1.mono (by omega));generalize X0.alloc (.cells #[.slice none 0 0,.slice none 0 0] B)=X1 at *;have d:=CN.new X1 [.complex .f64 0 0] C;have b2:=Ad X1 (.cells #[.complex .f64 0 0] C);have h:(X1.alloc (.cells [.complex .f64 0 0].toArray C)).heap.size=w.heap.size+1+1+1:=(by simp[g]);change CN (X1.alloc (.cells #[.complex .f64 0 0] C)) _ _ at d;change (X1.alloc (.cells #[.complex .f64 0 0] C)).heap.size=_ at h;rw[g] at d;replace k0:=k0.quiet b2;replace k1:=k1.quiet b2;replace b0:=b0.trans (b2.mono (by omega));generalize X1.alloc (.cells #[.complex .f64 0 0] C)=X2 at *;have e:=CN.new X2 [.int .i64 0] D
 have b3:=Ad X2 (.cells #[.int .i64 0] D);have i:(X2.alloc (.cells [.int .i64 0].toArray D)).heap.size=w.heap.size+1+1+1+1:=(by simp[h]);change CN (X2.alloc (.cells #[.int .i64 0] D)) _ _ at e;change (X2.alloc (.cells #[.int .i64 0] D)).heap.size=_ at i;rw[h] at e;replace k0:=k0.quiet b3;replace k1:=k1.quiet b3;replace d:=d.quiet b3;replace b0:=b0.trans (b3.mono (by omega));generalize X2.alloc (.cells #[.int .i64 0] D)=X3 at *;have a:=CN.new X3 [.string s,.int .i64 0,.int .i64 0,.int .i64 (-1)] E;have b:=Ad X3 (.cells #[.string s,.int .i64 0,.int .i64 0,.int .i64 (-1)] E);have j:(X3.alloc (.cells [.string s,.int .i64 0,.int .i64 0,.int .i64 (-1)].toArray E)).heap.size=w.heap.size+1+1+1+1+1:=by simp[i]
 change CN (X3.alloc (.cells #[.string s,.int .i64 0,.int .i64 0,.int .i64 (-1)] E)) _ _ at a;change (X3.alloc (.cells #[.string s,.int .i64 0,.int .i64 0,.int .i64 (-1)] E)).heap.size=_ at j;rw[i] at a;exact⟨k0.quiet b,k1.quiet b,d.quiet b,e.quiet b,⟨a.c 0 _ rfl,a.c 1 _ rfl,a.c 2 _ rfl,a.c 3 _ rfl,a.z⟩,b0.trans (b.mono (by omega)),j⟩
theorem XT.kept {q P:Nat} {a w:World} {d:List Value} {b:Nat} (h:XT q P a w) (c:CN a b d) (e:b≠q) (f:b≠P):CN w b d:=c.kept (h.block b c.l e f) (aC c.l h.size)
theorem XT.below {q P:Nat} {a w c:World} (h:XT q P a w) (b:Below c.heap.size c a) (e:c.heap.size<=q) (f:c.heap.size<=P):Below c.heap.size c w :=
 ⟨h.os.trans b.os,h.tape.trans b.tape,h.output.trans b.output,aB b.size h.size,fun k d=>(h.block k (aC d b.size) (by omega) (by omega)).trans (b.block k d)⟩
structure Pe (w0 Z:World) (P a e:Nat) (rs:List Rl) (v:Value):Prop where
 p0:Z.cell? ⟨P,0,none⟩=some v
 p1:Z.cell? ⟨P,1,none⟩=some (.slice none 0 0)
 a0:Z.cell? ⟨a,0,none⟩=some (.complex .f64 0 0)
 e0:Z.cell? ⟨e,0,none⟩=some (.int .i64 0)
 b:Below w0.heap.size w0 Z
 r:Lr Z w0.heap.size rs v
theorem Lr.low {w:World} {B B':Nat} {rs:List Rl} {v:Value} (h:Lr w B rs v) (d:B'<=B):Lr w B' rs v:=by
 obtain⟨L,l,a,m⟩:=h;exact⟨L,l,⟨a.1,a.2.imp id fun⟨g,b,c,f,i,k⟩=>⟨g,b,c,f,aB d i,k⟩⟩,fun x n=>(m x n).mono fun j _ e=>⟨aB d e.1,e.2⟩⟩
theorem Pe.of {b X w1:World} {q P a e:Nat} {s:ByteArray} {p:Ps} {rs:List Rl} {v:Value} (h:Gx b X q P s p v rs v w1) (n:Below b.heap.size b X) (B:b.heap.size<=q) (ha:CN w1 a [.complex .f64 0 0]) (A:CN w1 e [.int .i64 0]) (j:P≠a) (k:P≠e) (u:a≠e) (y:b.heap.size<=a) (z:b.heap.size<=e) (E:a<X.heap.size) (F:e<X.heap.size) :
  Pe b ((((w1.setCell ⟨P,0,none⟩ v).setCell ⟨P,1,none⟩ (.slice none 0 0)).setCell ⟨a,0,none⟩ (.complex .f64 0 0)).setCell ⟨e,0,none⟩ (.int .i64 0)) P a e rs v:=by
 have t:=((((h.c.set 0 v (by simp)).set 1 (.slice none 0 0) (by simp)).far (q:=a) (i:=0) (Ne.symm j) (.complex .f64 0 0)).far (q:=e) (i:=0) (Ne.symm k) (.int .i64 0));have d:=((((ha.far (q:=P) (i:=0) j v).far (q:=P) (i:=1) j (.slice none 0 0)).set 0 (.complex .f64 0 0) (by simp)).far (q:=e) (i:=0) (Ne.symm u) (.int .i64 0));have f:=((((A.far (q:=P) (i:=0) k v).far (q:=P) (i:=1) k (.slice none 0 0)).far (q:=a) (i:=0) u (.complex .f64 0 0)).set 0 (.int .i64 0) (by simp));have l:=((Ae.refl P w1).set 0 v).set 1 (.slice none 0 0);have m:=(Ae.refl a ((w1.setCell ⟨P,0,none⟩ v).setCell ⟨P,1,none⟩ (.slice none 0 0))).set 0 (.complex .f64 0 0)
 have w:=(Ae.refl e (((w1.setCell ⟨P,0,none⟩ v).setCell ⟨P,1,none⟩ (.slice none 0 0)).setCell ⟨a,0,none⟩ (.complex .f64 0 0))).set 0 (.int .i64 0);have D:=h.hP;have b1:=h.o.below n B h.h0;have s1:=b1.size;have x:=l.size;have C:=m.size
 exact⟨t.c 0 _ rfl,t.c 1 _ rfl,d.c 0 _ rfl,f.c 0 _ rfl,w.below_of (m.below_of (l.below_of b1 h.h0 s1) y (aB s1 x)) z (aB (aB s1 x) C),
  (((h.r.kept l fun g e=>by injection e with e;omega).kept m fun g e=>by injection e with e;omega).kept w fun g e=>by injection e with e;omega).low n.size⟩
theorem AeI {nx:Nat->Bool->Tk} {pl:Nat->Nat×Nat} {x:Nat->Tk->Ps->Hf Rl} {w:World} (s:ByteArray) (hs:s.size<=4096) (Q:F2 nx s w) (L:H6 pl s) (n:Nat) (hn:n<=1000000) (R:∀m,m<n->∀q,RuC w q s (x m))
  (M:M1 nx x n [] ⟨0,0,-1⟩ ≠ .hush) (A:∀f J,M1 nx x n [] ⟨0,0,-1⟩ = .bad f J->f<=s.size):Calls prog 14 #[.string s] w (ZX pl w (M1 nx x n [] ⟨0,0,-1⟩)):=by
 have b0:∀(P:Fn) (first k:Array Value) (w:World),(Instr.makeFunc P first k).run prog w = .ok (.func P first k) w:=fun _ _ _ _=>rfl;obtain⟨X,O,d⟩:=Px.start w s 9 33 40 45 59;have S:Pz w (w.heap.size+1+1+1+1) s ⟨0,0,-1⟩ X:=⟨d.b,by omega,d.q,by simp,hs,by simp,by simp⟩;have K:=Ze Q L n hn (fun m hm=>R m hm (w.heap.size+1+1+1+1)) ⟨0,0,-1⟩ (w.heap.size+1) X S (by rw[d.l];omega) (by omega) (by omega) d.p M;generalize M1 nx x n [] ⟨0,0,-1⟩=r at K M A ⊢;have HC:=aA K;have y:=aA d;have V:=aA L;have N:=aA O;clear K d S Q R L O
 cases r with
 | hush=>exact absurd rfl M
 | bad f J =>
   have U:=aA (A f J rfl);clear A
   go_enter_defers func14,ntmps14
   go_wp2_with (go_at_call 26;rw[<- N.out];refine HC.out.mono ?_;rintro e T ⟨rfl,i,v,B⟩)
   have d:=y.out;refine leaves_cons (f:=24) (args := #[.pointer (some ⟨w.heap.size,0,none⟩),.pointer (some ⟨w.heap.size+1,0,none⟩),.pointer (some ⟨w.heap.size+1+1,0,none⟩),.pointer (some ⟨w.heap.size+1+1+1,0,none⟩)]) (by simp) (by simp[go_sem]) ?_;refine(XE V.out (i.below d.b (by omega) (by omega)) U.out (by omega) (by omega) (by omega) (by omega) (by omega) (by omega) (by omega) (by omega) (by omega) ((i.kept d.t (by omega) (by omega)).c 0 _ rfl) (B.c 0 _ rfl) (B.c 1 _ rfl) ((i.kept d.a (by omega) (by omega)).c 0 _ rfl) ((i.kept d.e (by omega) (by omega)).c 0 _ rfl) B.z (i.kept d.a (by omega) (by omega)).z (i.kept d.e (by omega) (by omega)).z []).mono ?_
   rintro e u' w2 ⟨rfl,rfl,j⟩;have E:=j.r;have F:=j.f;have G:=j.z;have H:=j.e;have I:=j.b;clear j B i d;simp[Leaves,settle,results,results14,go_sem,E,F,G,H];exact⟨I,rfl⟩
 | ok rs p' =>
   clear A
   go_enter_defers func14,ntmps14
   go_wp2_with (go_at_call 26;rw[<- N.out];refine HC.out.mono ?_;rintro e T ⟨rfl,v,u⟩;obtain⟨va,vc,rfl⟩:=Lr.slice (v:=v) u.r;have h:=aA u;have C:=u.o.kept y.out.a (by omega) (by omega);have D:=u.o.kept y.out.e (by omega) (by omega);clear u;have W:=C.c 0 _ rfl;have Y:=C.z;have e0:=D.c 0 _ rfl;have ez:=D.z;have p0:=h.out.c.c 0 _ rfl;have p1:=h.out.c.c 1 _ rfl;have pz:=h.out.c.z;clear C D)
   have d:=y.out;have g:=Pe.of h.out d.b (by omega) (h.out.o.kept d.a (by omega) (by omega)) (h.out.o.kept d.e (by omega) (by omega)) (by omega) (by omega) (by omega) (by omega) (by omega) (by rw[d.l];omega) (by rw[d.l];omega);clear W Y e0 ez p0 p1 pz h d
   revert g
   generalize (((T.setCell ⟨w.heap.size+1,0,none⟩ (.slice va rs.length vc)).setCell ⟨w.heap.size+1,1,none⟩ (.slice none 0 0)).setCell ⟨w.heap.size+1+1,0,none⟩ (.complex .f64 0 0)).setCell ⟨w.heap.size+1+1+1,0,none⟩ (.int .i64 0)=Z;intro g;refine leaves_cons (f:=24) (args := #[.pointer (some ⟨w.heap.size,0,none⟩),.pointer (some ⟨w.heap.size+1,0,none⟩),.pointer (some ⟨w.heap.size+1+1,0,none⟩),.pointer (some ⟨w.heap.size+1+1+1,0,none⟩)]) (by simp) (by simp[go_sem]) ?_;refine(XV _ _ _ _ _).mono ?_;rintro e u' w2 ⟨rfl,rfl,rfl⟩;have E:=g.p0;have F:=g.p1;have G:=g.a0;have H:=g.e0;have I:=g.b;have d5:=g.r;clear g
   simp[Leaves,settle,results,results14,go_sem,E,F,G,H];exact⟨I,_,rfl,d5⟩
end Go.Proofs.YtfblenhlildnaaaGreatDoor
