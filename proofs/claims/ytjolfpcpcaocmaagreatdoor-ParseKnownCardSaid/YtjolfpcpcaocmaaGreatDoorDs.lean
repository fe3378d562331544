/- Ds Dt -/
import Derived.Test.YtjolfpcpcaocmaaGreatDoorCy
import Derived.Test.YtjolfpcpcaocmaaGreatDoorCa
import Derived.Test.YtjolfpcpcaocmaaGreatDoorCx
set_option maxRecDepth 100000
set_option maxHeartbeats 4000000
open List renaming setIfInBounds_toArray->aA,getElem_cons_zero->aB,getElem_cons_succ->aC,getElem_toArray->aD,set_cons_zero->aE,set_cons_succ->aF
open Go.Lib renaming hid->aG
open Nat renaming le_trans->aH,lt_of_lt_of_le->aI
namespace Go.Proofs.YtjolfpcpcaocmaaGreatDoor
open Go.Proofs.Tryz
open Go.RowKit
set_option linter.unusedSimpArgs false in
theorem Ze {nx:Nat->Bool->Tk} {pl:Nat->Nat×Nat} {ru:Nat->Tk->Ps->Hf Rl} {w0:World} {q:Nat} {s:ByteArray} (hN:F2 nx s w0) (hP:PlC pl s) (n:Nat) (hn:n<=1000000) (hU:∀m,m<n->RuC w0 q s (ru m)):Aar w0 q s (M1 nx ru n []):=by
 intro p P W h T c0 b0 hC N;obtain⟨r,R⟩:∃r,M1 nx ru n [] p=r:=⟨_,rfl⟩;rw[R] at N ⊢;have A:=aG R;have d:=aG (Gx.start h T c0 b0 hC);have HN:=aG hN;have HP:=aG hP;have HU:=aG hU;clear R h hN hP T hC hU;obtain⟨i0,d0,f0,g0,h0⟩:=info_parts Aaj
 go_in
 go_wp2
 go_loopg [] n (fun g wr=>∃(m:Nat) (l:List Rl) (v:Value) (pr:Ps),m=g/\m<=n/\l.length+m<=n/\Hid (M1 nx ru m l pr=r)/\Hid (Gx w0 W q P s pr v l v wr))
 case atStart=>exact⟨n,[],.slice none 0 0,p,rfl,Nat.le_refl _,by simp,A,d⟩
 clear d A;obtain⟨m,l,v,pr,rfl,k0,j0,A,d⟩:=hrel
 cases m with
 | zero=>exact absurd A.out.symm N
 | succ m =>
 replace A:=aG (by have:=A.out;rw[M1] at this;exact this)
 go_wp2_with (first | (go_at_call 11;(with_reducible refine(XG HN.out HP.out d.out.z true m (CA A N)).mono ?_);intro e O ha;rcases ha.part A N with⟨f,R,rfl,H,hr⟩ | ⟨t,p1,v1,rfl,⟨rfl,he,hx,Q⟩,H,D⟩;exact⟨rfl,XD d.out H hr⟩;replace A:=D;clear D ha;(try dsimp only at A);replace d:=aG (d.out.move Q H);have HT:=aG (show W.heap.size<=O.heap.size from d.out.o.size);have HO:=aG (show ∀k,v.ownBlock=some k->k<O.heap.size from fun k e=>by obtain⟨L,-,y,-⟩:=d.out.r;exact(y.lt k e).2);have HK:=aG (by have h1:=HN.out.ok p1.a true Q.ha (by rw[hx];exact he);rw[hx] at h1;exact h1);clear Q H he hx;have B:=aG (C5.new O (.int .i64 t.kd) (.string ⟨t.tx.toArray⟩) (.float .f64 t.nm) (.int .i64 t.f) (.int .i64 t.t) 49);replace d:=aG (d.out.quiet (Ad O (.cells #[.int .i64 t.kd,.string ⟨t.tx.toArray⟩,.float .f64 t.nm,.int .i64 t.f,.int .i64 t.t] 49)));obtain⟨m0,m1,m2,m3,m4,mf⟩:=B.out;unfold G1;rcases Xt t.kd 0 with⟨J,be,bn⟩ | ⟨J,be,bn⟩<;>((first | replace A:=Ym J A | replace A:=XY J A);clear J)) | (go_at_call 12;(with_reducible refine(L0 t [102,117,110,99,116,105,111,110] _).mono ?_);rintro e w2 ⟨rfl,hb⟩;replace d:=aG (d.out.quiet hb);replace B:=aG (B.out.below hb);clear hb m0 m1 m2 m3 m4 mf;obtain⟨m0,m1,m2,m3,m4,mf⟩:=B.out;cases hs:XI t [102,117,110,99,116,105,111,110];rotate_left;rw[hs,if_pos rfl] at A;exact absurd A.out.symm N;rw[hs,if_neg (by decide)] at A;clear hs))
 ·exact bodyPost_ret (results_none rfl _ _ _) rfl (Zp d.out A)
 clear m0 m1 m2 m3 m4 mf;refine E1 (fun o=>o.cell? ⟨P,0,none⟩=some v/\C5 o O.heap.size (.int .i64 t.kd) (.string ⟨t.tx.toArray⟩) (.float .f64 t.nm) (.int .i64 t.f) (.int .i64 t.t)) 12 (by kernel_rfl) ?_;have C:w2.drew.cell? ⟨P,0,none⟩=some v/\C5 w2.drew O.heap.size (.int .i64 t.kd) (.string ⟨t.tx.toArray⟩) (.float .f64 t.nm) (.int .i64 t.f) (.int .i64 t.t):=⟨d.out.drew.c.c 0 _ rfl,B.out.kept rfl⟩;refine BT (i:=0) (v:=.pointer (some ⟨P,0,none⟩)) rfl (by kernel_rfl) (fun _ _ _ h=>h) (Or.inl ⟨by rfl,fun w M=>by go_simp⟩) C ?_
 (try dsimp only);try simp only[Act.put,aD,aB,aC,aA,aE,aF]
 refine BT (i:=1) (v:=.pointer (some ⟨P,0,none⟩)) rfl (by kernel_rfl) (fun _ _ _ h=>h) (Or.inl ⟨by rfl,fun w M=>by go_simp⟩) C ?_
 (try dsimp only);try simp only[Act.put,aD,aB,aC,aA,aE,aF]
 refine BT (i:=2) (v:=.pointer (some ⟨P,0,none⟩)) rfl (by kernel_rfl) (fun _ _ _ h=>h) (Or.inl ⟨by rfl,fun w M=>by go_simp⟩) C ?_
 (try dsimp only);try simp only[Act.put,aD,aB,aC,aA,aE,aF]
 refine BT (i:=3) (v:=.pointer (some ⟨P,0,none⟩)) rfl (by kernel_rfl) (fun _ _ _ h=>h) (Or.inl ⟨by rfl,fun w M=>by go_simp⟩) C ?_
 (try dsimp only);try simp only[Act.put,aD,aB,aC,aA,aE,aF]
 refine BT (i:=4) (v:=v) rfl (by kernel_rfl) (fun _ _ _ h=>h) (Or.inl ⟨by rfl,fun w M=>by obtain⟨s0,-⟩:=M;go_simp⟩) C ?_
 (try dsimp only);try simp only[Act.put,aD,aB,aC,aA,aE,aF]
 refine BT (i:=5) (v:=.pointer (some ⟨q,0,none⟩)) rfl (by kernel_rfl) (fun _ _ _ h=>h) (Or.inl ⟨by rfl,fun w M=>by go_simp⟩) C ?_
 (try dsimp only);try simp only[Act.put,aD,aB,aC,aA,aE,aF]
 refine BT (i:=6) (v:=.agg #[.int .i64 t.kd,.string ⟨t.tx.toArray⟩,.float .f64 t.nm,.int .i64 t.f,.int .i64 t.t]) rfl (by kernel_rfl) (fun _ _ _ h=>h) (Or.inl ⟨by rfl,fun w M=>by obtain⟨-,s0,s1,s2,s3,s4,-⟩:=M;go_simp⟩) C ?_
 (try dsimp only);try simp only[Act.put,aD,aB,aC,aA,aE,aF]
 replace d:=aG d.out.drew;replace B:=aG C.2;clear C
 revert d B
 generalize World.drew _=X;intro d B;have e0:O.heap.size≠q:=by have:=d.out.hq;have:=HT.out;omega
 refine BW (rs:=[7]) (by kernel_rfl) rfl (BS.cons rfl (by rfl) (fun K E=>?_) BS.nil)
 try go_simp
 go_at_call 14
 refine(HU.out m (by omega) t _ _ d.out.z HK.out (CA A N)).mono ?_;intro e w8 ha;rcases ha.part A N with⟨f,R,rfl,H,hr⟩ | ⟨u,p8,v8,rfl,⟨⟨pv,kv,rfl,hk⟩,Q⟩,H,D⟩
 ·exact⟨rfl,XD d.out H hr⟩
 replace A:=D;clear D ha
 (try dsimp only at A)
 obtain⟨Z,cp,rfl⟩:=Am.slice (v:=pv) (ks:=u.ps) hk.1;obtain⟨Y,cb,rfl⟩:=Am.slice (v:=kv) (ks:=u.b.ks) hk.2;obtain⟨L,S,y,I⟩:=d.out.r;have G:=y.lt;have V:=aG (hk.mono (S':=fun j=>W.heap.size<=j/\some j≠v.ownBlock) fun j _ hj=>⟨aH d.out.o.size hj,fun e=>by have:=(G j e.symm).2;omega⟩);replace d:=aG (d.out.move Q H);replace B:=aG (B.out.only H e0);clear hk Q H L S y I G;unfold Zh;refine E.out _ _ (.inr ⟨d.out.c.c 0 _ rfl,B.out⟩) ?_
 (try dsimp only);try simp only[Act.put,aD,aB,aC,aA,aE,aF]
 refine BW (rs:=[8]) (by kernel_rfl) rfl (BS.cons rfl (by rfl) (fun K E=>?_) BS.nil)
 try go_simp
 replace d:=aG (d.out.quiet (Ad _ (.cells #[.int .i64 u.k,.int .i64 u.n,.slice Z u.ps.length cp,.int .i64 u.b.kd,.string ⟨u.b.nm.toArray⟩,.float .f64 u.b.x,.slice Y u.b.ks.length cb,.complex .f64 u.b.z.1 u.b.z.2,.complex .f64 u.z.1 u.z.2] 36)));replace B:=aG (B.out.below (Ad _ (.cells #[.int .i64 u.k,.int .i64 u.n,.slice Z u.ps.length cp,.int .i64 u.b.kd,.string ⟨u.b.nm.toArray⟩,.float .f64 u.b.x,.slice Y u.b.ks.length cb,.complex .f64 u.b.z.1 u.b.z.2,.complex .f64 u.z.1 u.z.2] 36)));replace V:=aG (V.out.kept (w':=w8.alloc (.cells #[.int .i64 u.k,.int .i64 u.n,.slice Z u.ps.length cp,.int .i64 u.b.kd,.string ⟨u.b.nm.toArray⟩,.float .f64 u.b.x,.slice Y u.b.ks.length cb,.complex .f64 u.b.z.1 u.b.z.2,.complex .f64 u.z.1 u.z.2] 36)) (Ad _ _).size fun j _ hl=>(Ad _ _).block j hl)
 refine E.out _ _ (.inr ⟨d.out.c.c 0 _ rfl,B.out⟩) ?_
 (try dsimp only);try simp only[Act.put,aD,aB,aC,aA,aE,aF]
 obtain⟨L,S,y,I⟩:=d.out.r;have F:L.length=l.length:=(by rw[<- S,List.length_map]);have G:=y.lt;have U:=d.out.o.size;refine BW (rs:=[9]) (by kernel_rfl) rfl (BS.cons rfl (by rfl) (fun K E=>?_) BS.nil);refine wp_append_lies _ (.tmp 11) (.tmp 15) 22 rfl W.heap.size 36 i0 _ 9 128 underlying22 d0 f0 g0 h0 rfl (by decide) _ L.length (AW L) rfl y ⟨w8.heap.size,0,none⟩ 1 1 (AW [(u,.slice Z u.ps.length cp,.slice Y u.b.ks.length cb)]) rfl rfl (Aaw _ _ _ _ _) (Aax _ _ _ _ _ _ _) (by decide) (by unfold maxLen;omega) (by omega) U _ rfl ?_;intro g a0 w9 o1 o2 o3 o4;have hF:=d.out.append S G I V.out o1 o2 (by rcases o3 with e | e;exact .inl e.symm;exact .inr (by rw[e];rfl))
 replace B:=aG (C5.kept B.out (o2.block _ (by have:=B.out.lt;exact this) fun e=>by have:=(HO.out _ e.symm);omega));replace d:=aG hF;clear hF o1 o2 o3 o4 S y I U V;rw[F] at d;rw[F];clear F G L;refine E.out _ _ (.inr ⟨d.out.c.c 0 _ rfl,B.out⟩) ?_
 (try dsimp only);try simp only[Act.put,aD,aB,aC,aA,aE,aF]
 refine BW (rs:=[10]) (by kernel_rfl) rfl (BS.cons rfl (by rfl) (fun K E=>?_) BS.nil)
 try go_simp
 refine E.out _ _ (.inr ⟨d.out.c.c 0 _ rfl,B.out⟩) ?_
 (try dsimp only);try simp only[Act.put,aD,aB,aC,aA,aE,aF]
 refine BW (rs:=[11]) (by kernel_rfl) rfl (BS.cons rfl (by rfl) (fun K E=>?_) BS.nil)
 try go_simp
 refine E.out _ _ (.inr ⟨d.out.c.c 0 _ rfl,B.out⟩) ?_
 (try dsimp only);try simp only[Act.put,aD,aB,aC,aA,aE,aF]
 have n0:=d.out.c.c 0 _ rfl;have n1:=d.out.c.c 1 _ rfl;have nf:=d.out.c.z;refine BW (rs:=[12]) (by kernel_rfl) rfl (BS.cons rfl (by rfl) (fun K E=>?_) BS.nil)
 try go_simp
 replace d:=aG (d.out.put (.slice (some ⟨g,0,none⟩) (l.length+1) a0));refine E.out _ _ (.inl rfl) ?_
 (try dsimp only);try simp only[Act.put,aD,aB,aC,aA,aE,aF]
 refine Aal (by kernel_rfl) ?_ _;go_wp2
 go_roundg m
 case rel=>exact⟨m,l++[u],_,p8,rfl,by omega,by rw[List.length_append,List.length_singleton];omega,A,d⟩
 all_goals omega
def ZX (pl:Nat->Nat×Nat) (a:World) (r:Hf (List Rl)) (e:Ending) (w':World):Prop :=
 match r with
 | .ok rs _=>Below a.heap.size a w'/\∃v,e = .returned (.tuple #[.agg #[v,.slice none 0 0],.complex .f64 0 0,.int .i64 0])/\Lr w' a.heap.size rs v
 | .bad f er=>Below a.heap.size a w'/\e = .returned (.tuple #[.agg #[.slice none 0 0,.slice none 0 0],.complex .f64 (pl f).1 (pl f).2,.int .i64 er])
 | .hush=>True
structure Px (w X:World) (s:ByteArray):Prop where
 t:CN X w.heap.size [.string s]
 p:CN X (w.heap.size+1) [.slice none 0 0,.slice none 0 0]
 a:CN X (w.heap.size+1+1) [.complex .f64 0 0]
 e:CN X (w.heap.size+1+1+1) [.int .i64 0]
 q:C4 X (w.heap.size+1+1+1+1) (.string s) (.int .i64 0) (.int .i64 0) (.int .i64 (-1))
 b:Below w.heap.size w X
 l:X.heap.size=w.heap.size+1+1+1+1+1
theorem Px.start (w:World) (s:ByteArray) (A B C D E:TypeId):∃X,X=((((w.alloc (.cells #[.string s] A)).alloc (.cells #[.slice none 0 0,.slice none 0 0] B)).alloc (.cells #[.complex .f64 0 0] C)).alloc (.cells #[.int .i64 0] D)).alloc (.cells #[.string s,.int .i64 0,.int .i64 0,.int .i64 (-1)] E)/\Px w X s:=by
 refine⟨_,rfl,?_⟩;have k0:=CN.new w [.string s] A;have b:(w.alloc (.cells [.string s].toArray A)).heap.size=w.heap.size+1:=(by simp);have b0:=Ad w (.cells #[.string s] A);change CN (w.alloc (.cells #[.string s] A)) _ _ at k0;change (w.alloc (.cells #[.string s] A)).heap.size=_ at b;generalize w.alloc (.cells #[.string s] A)=X0 at *;have k1:=CN.new X0 [.slice none 0 0,.slice none 0 0] B;have b1:=Ad X0 (.cells #[.slice none 0 0,.slice none 0 0] B);have d:(X0.alloc (.cells [.slice none 0 0,.slice none 0 0].toArray B)).heap.size=w.heap.size+1+1:=(by simp[b]);change CN (X0.alloc (.cells #[.slice none 0 0,.slice none 0 0] B)) _ _ at k1;change (X0.alloc (.cells #[.slice none 0 0,.slice none 0 0] B)).heap.size=_ at d
 rw[b] at k1;replace k0:=k0.quiet b1;replace b0:=b0.trans (b1.mono (by omega));generalize X0.alloc (.cells #[.slice none 0 0,.slice none 0 0] B)=X1 at *;have k2:=CN.new X1 [.complex .f64 0 0] C;have b2:=Ad X1 (.cells #[.complex .f64 0 0] C);have e:(X1.alloc (.cells [.complex .f64 0 0].toArray C)).heap.size=w.heap.size+1+1+1:=(by simp[d]);change CN (X1.alloc (.cells #[.complex .f64 0 0] C)) _ _ at k2;change (X1.alloc (.cells #[.complex .f64 0 0] C)).heap.size=_ at e;rw[d] at k2;replace k0:=k0.quiet b2;replace k1:=k1.quiet b2;replace b0:=b0.trans (b2.mono (by omega));generalize X1.alloc (.cells #[.complex .f64 0 0] C)=X2 at *;have k3:=CN.new X2 [.int .i64 0] D
 have b3:=Ad X2 (.cells #[.int .i64 0] D);have f:(X2.alloc (.cells [.int .i64 0].toArray D)).heap.size=w.heap.size+1+1+1+1:=(by simp[e]);change CN (X2.alloc (.cells #[.int .i64 0] D)) _ _ at k3;change (X2.alloc (.cells #[.int .i64 0] D)).heap.size=_ at f;rw[e] at k3;replace k0:=k0.quiet b3;replace k1:=k1.quiet b3;replace k2:=k2.quiet b3;replace b0:=b0.trans (b3.mono (by omega));generalize X2.alloc (.cells #[.int .i64 0] D)=X3 at *;have k4:=CN.new X3 [.string s,.int .i64 0,.int .i64 0,.int .i64 (-1)] E;have a:=Ad X3 (.cells #[.string s,.int .i64 0,.int .i64 0,.int .i64 (-1)] E);have g:(X3.alloc (.cells [.string s,.int .i64 0,.int .i64 0,.int .i64 (-1)].toArray E)).heap.size=w.heap.size+1+1+1+1+1:=by simp[f]
 change CN (X3.alloc (.cells #[.string s,.int .i64 0,.int .i64 0,.int .i64 (-1)] E)) _ _ at k4;change (X3.alloc (.cells #[.string s,.int .i64 0,.int .i64 0,.int .i64 (-1)] E)).heap.size=_ at g;rw[f] at k4;exact⟨k0.quiet a,k1.quiet a,k2.quiet a,k3.quiet a,⟨k4.c 0 _ rfl,k4.c 1 _ rfl,k4.c 2 _ rfl,k4.c 3 _ rfl,k4.z⟩,b0.trans (a.mono (by omega)),g⟩
theorem XT.kept {q P:Nat} {a w:World} {d:List Value} {b:Nat} (h:XT q P a w) (c:CN a b d) (e:b≠q) (f:b≠P):CN w b d:=c.kept (h.block b c.l e f) (aI c.l h.size)
theorem XT.below {q P:Nat} {a w c:World} (h:XT q P a w) (b:Below c.heap.size c a) (e:c.heap.size<=q) (f:c.heap.size<=P):Below c.heap.size c w :=
 ⟨h.os.trans b.os,h.tape.trans b.tape,h.output.trans b.output,aH b.size h.size,fun k d=>(h.block k (aI d b.size) (by omega) (by omega)).trans (b.block k d)⟩
structure Pe (w0 Z:World) (P a e:Nat) (rs:List Rl) (v:Value):Prop where
 p0:Z.cell? ⟨P,0,none⟩=some v
 p1:Z.cell? ⟨P,1,none⟩=some (.slice none 0 0)
 a0:Z.cell? ⟨a,0,none⟩=some (.complex .f64 0 0)
 e0:Z.cell? ⟨e,0,none⟩=some (.int .i64 0)
 b:Below w0.heap.size w0 Z
 r:Lr Z w0.heap.size rs v
theorem Lr.low {w:World} {B B':Nat} {rs:List Rl} {v:Value} (h:Lr w B rs v) (d:B'<=B):Lr w B' rs v:=by
 obtain⟨L,l,a,m⟩:=h;exact⟨L,l,⟨a.1,a.2.imp id fun⟨g,b,c,f,i,k⟩=>⟨g,b,c,f,aH d i,k⟩⟩,fun x n=>(m x n).mono fun j _ e=>⟨aH d e.1,e.2⟩⟩
theorem Pe.of {b X w1:World} {q P a e:Nat} {s:ByteArray} {p:Ps} {rs:List Rl} {v:Value} (h:Gx b X q P s p v rs v w1) (n:Below b.heap.size b X) (B:b.heap.size<=q) (ha:CN w1 a [.complex .f64 0 0]) (A:CN w1 e [.int .i64 0]) (j:P≠a) (k:P≠e) (u:a≠e) (y:b.heap.size<=a) (z:b.heap.size<=e) (E:a<X.heap.size) (F:e<X.heap.size) :
  Pe b ((((w1.setCell ⟨P,0,none⟩ v).setCell ⟨P,1,none⟩ (.slice none 0 0)).setCell ⟨a,0,none⟩ (.complex .f64 0 0)).setCell ⟨e,0,none⟩ (.int .i64 0)) P a e rs v:=by
 have t:=((((h.c.set 0 v (by simp)).set 1 (.slice none 0 0) (by simp)).far (q:=a) (i:=0) (Ne.symm j) (.complex .f64 0 0)).far (q:=e) (i:=0) (Ne.symm k) (.int .i64 0));have d:=((((ha.far (q:=P) (i:=0) j v).far (q:=P) (i:=1) j (.slice none 0 0)).set 0 (.complex .f64 0 0) (by simp)).far (q:=e) (i:=0) (Ne.symm u) (.int .i64 0));have f:=((((A.far (q:=P) (i:=0) k v).far (q:=P) (i:=1) k (.slice none 0 0)).far (q:=a) (i:=0) u (.complex .f64 0 0)).set 0 (.int .i64 0) (by simp));have l:=((Ae.refl P w1).set 0 v).set 1 (.slice none 0 0);have m:=(Ae.refl a ((w1.setCell ⟨P,0,none⟩ v).setCell ⟨P,1,none⟩ (.slice none 0 0))).set 0 (.complex .f64 0 0)
 have w:=(Ae.refl e (((w1.setCell ⟨P,0,none⟩ v).setCell ⟨P,1,none⟩ (.slice none 0 0)).setCell ⟨a,0,none⟩ (.complex .f64 0 0))).set 0 (.int .i64 0);have D:=h.hP;have b1:=h.o.below n B h.h0;have s1:=b1.size;have x:=l.size;have C:=m.size
 exact⟨t.c 0 _ rfl,t.c 1 _ rfl,d.c 0 _ rfl,f.c 0 _ rfl,w.below_of (m.below_of (l.below_of b1 h.h0 s1) y (aH s1 x)) z (aH (aH s1 x) C),
  (((h.r.kept l fun g e=>by injection e with e;omega).kept m fun g e=>by injection e with e;omega).kept w fun g e=>by injection e with e;omega).low n.size⟩
theorem YI {nx:Nat->Bool->Tk} {pl:Nat->Nat×Nat} {x:Nat->Tk->Ps->Hf Rl} {w:World} (s:ByteArray) (hs:s.size<=4096) (Q:F2 nx s w) (L:PlC pl s) (n:Nat) (hn:n<=1000000) (R:∀m,m<n->∀q,RuC w q s (x m))
  (M:M1 nx x n [] ⟨0,0,-1⟩ ≠ .hush) (A:∀f J,M1 nx x n [] ⟨0,0,-1⟩ = .bad f J->f<=s.size):Calls prog 5 #[.string s] w (ZX pl w (M1 nx x n [] ⟨0,0,-1⟩)):=by
 have b0:∀(P:Fn) (first k:Array Value) (w:World),(Instr.makeFunc P first k).run prog w = .ok (.func P first k) w:=fun _ _ _ _=>rfl;obtain⟨X,O,d⟩:=Px.start w s 9 25 26 27 42;have S:Pz w (w.heap.size+1+1+1+1) s ⟨0,0,-1⟩ X:=⟨d.b,by omega,d.q,by simp,hs,by simp,by simp⟩;have K:=Ze Q L n hn (fun m hm=>R m hm (w.heap.size+1+1+1+1)) ⟨0,0,-1⟩ (w.heap.size+1) X S (by rw[d.l];omega) (by omega) (by omega) d.p M;generalize M1 nx x n [] ⟨0,0,-1⟩=r at K M A ⊢;have HC:=aG K;have y:=aG d;have V:=aG L;have N:=aG O;clear K d S Q R L O
 cases r with
 | hush=>exact absurd rfl M
 | bad f J =>
   have U:=aG (A f J rfl);clear A
   go_enter_defers func5,ntmps5
   go_wp2_with (go_at_call 10;rw[<- N.out];refine HC.out.mono ?_;rintro e T ⟨rfl,i,v,B⟩)
   have d:=y.out;refine leaves_cons (f:=8) (args := #[.pointer (some ⟨w.heap.size,0,none⟩),.pointer (some ⟨w.heap.size+1,0,none⟩),.pointer (some ⟨w.heap.size+1+1,0,none⟩),.pointer (some ⟨w.heap.size+1+1+1,0,none⟩)]) (by simp) (by simp[go_sem]) ?_;refine(XE V.out (i.below d.b (by omega) (by omega)) U.out (by omega) (by omega) (by omega) (by omega) (by omega) (by omega) (by omega) (by omega) (by omega) ((i.kept d.t (by omega) (by omega)).c 0 _ rfl) (B.c 0 _ rfl) (B.c 1 _ rfl) ((i.kept d.a (by omega) (by omega)).c 0 _ rfl) ((i.kept d.e (by omega) (by omega)).c 0 _ rfl) B.z (i.kept d.a (by omega) (by omega)).z (i.kept d.e (by omega) (by omega)).z []).mono ?_
   rintro e u' w2 ⟨rfl,rfl,j⟩;have E:=j.r;have F:=j.f;have G:=j.z;have H:=j.e;have I:=j.b;clear j B i d;simp[Leaves,settle,results,results5,go_sem,E,F,G,H];exact⟨I,rfl⟩
 | ok rs p' =>
   clear A
   go_enter_defers func5,ntmps5
   go_wp2_with (go_at_call 10;rw[<- N.out];refine HC.out.mono ?_;rintro e T ⟨rfl,v,u⟩;obtain⟨va,vc,rfl⟩:=Lr.slice (v:=v) u.r;have h:=aG u;have C:=u.o.kept y.out.a (by omega) (by omega);have D:=u.o.kept y.out.e (by omega) (by omega);clear u;have W:=C.c 0 _ rfl;have Y:=C.z;have e0:=D.c 0 _ rfl;have ez:=D.z;have p0:=h.out.c.c 0 _ rfl;have p1:=h.out.c.c 1 _ rfl;have pz:=h.out.c.z;clear C D)
   have d:=y.out;have g:=Pe.of h.out d.b (by omega) (h.out.o.kept d.a (by omega) (by omega)) (h.out.o.kept d.e (by omega) (by omega)) (by omega) (by omega) (by omega) (by omega) (by omega) (by rw[d.l];omega) (by rw[d.l];omega);clear W Y e0 ez p0 p1 pz h d
   revert g
   generalize (((T.setCell ⟨w.heap.size+1,0,none⟩ (.slice va rs.length vc)).setCell ⟨w.heap.size+1,1,none⟩ (.slice none 0 0)).setCell ⟨w.heap.size+1+1,0,none⟩ (.complex .f64 0 0)).setCell ⟨w.heap.size+1+1+1,0,none⟩ (.int .i64 0)=Z;intro g;refine leaves_cons (f:=8) (args := #[.pointer (some ⟨w.heap.size,0,none⟩),.pointer (some ⟨w.heap.size+1,0,none⟩),.pointer (some ⟨w.heap.size+1+1,0,none⟩),.pointer (some ⟨w.heap.size+1+1+1,0,none⟩)]) (by simp) (by simp[go_sem]) ?_;refine(XV _ _ _ _ _).mono ?_;rintro e u' w2 ⟨rfl,rfl,rfl⟩;have E:=g.p0;have F:=g.p1;have G:=g.a0;have H:=g.e0;have I:=g.b;have d5:=g.r;clear g
   simp[Leaves,settle,results,results5,go_sem,E,F,G,H];exact⟨I,_,rfl,d5⟩
end Go.Proofs.YtjolfpcpcaocmaaGreatDoor
