/- El -/
import Derived.Test.YtipfpohlnhmlpaaGreatDoorEg
import Derived.Deep.RegionLaw
set_option maxRecDepth 100000
set_option maxHeartbeats 4000000
open Go.Lib renaming hid->aA
open Nat renaming le_refl->aB,lt_of_lt_of_le->aC
open Array renaming getElem?_eq_some_iff->aD,getElem?_modify->aE
namespace Go.Proofs.YtipfpohlnhmlpaaGreatDoor
open Go.Proofs.Tryz
open Go.RowKit
theorem O' (s:ByteArray) (F:Nat->Nat->Option (Rt×Nat)) (hF:Tm s F) (o k b m:Nat) (t:Rt) (W:World) (hk:k<s.size) (hs:s.size<=100000) (ho:o+1<=10) (hc:Af W b (FR s k o)) (G:Cf s k=40)
  (hf:F (o+1) (k+1)=some (t,m)) (H:Cf s m=41) :
  Calls prog 180 #[.pointer (some ⟨b,0,none⟩)] W (Dk b s o t (m+1) W):=by
 rw[F6 hk] at G;have L:m<s.size:=Ot (by omega);have A:TL s m 41=true:=by unfold TL;rw[dif_pos L];rw[F6 L] at H;rw[H];rfl
 obtain⟨V,hV⟩:∃V,V=W.alloc (.cells #[.int .i64 0,.int .u64 0,.int .u64 0,.int .u64 0,.int .u64 0,.slice none 0 0] 186):=⟨_,rfl⟩;have g0:b<W.heap.size:=hc.lt _ rfl;have f0:V.heap.size=W.heap.size+1:=by rw[hV];simp
 have I:Below W.heap.size W V:=by rw[hV];exact Ad W _
 have y:Af V b (FR s k o):=hc.below g0 I;have e0:Af V W.heap.size [.int .i64 0,.int .u64 0,.int .u64 0,.int .u64 0,.int .u64 0,.slice none 0 0]:=by rw[hV];exact Af.new W _ _
 have r0:=y.c 0 _ rfl;have r1:=y.c 1 _ rfl;have i1:=aA hV;have c0:=aA f0;have R:=aA I;have b1:=aA y;have c1:=aA e0;obtain⟨p,i0⟩:∃p,p=k+1:=⟨_,rfl⟩;obtain⟨g,l0⟩:∃g,g=o+1:=⟨_,rfl⟩;obtain⟨C,j0⟩:∃C,C=m+1:=⟨_,rfl⟩;rw[<- i0,<- l0] at hf;rw[<- j0];have a2:(k:Int)<(s.size:Int):=(by omega);have b2:k<s.size:=hk;have w1:decide ((s.size:Int)<=(k:Int))=false:=decide_eq_false (by omega);have k0:(k:Int)+1=(p:Int):=(by omega);have s1:(p:Int)<=100000:=(by omega);have n0:(o:Int)+1=(g:Int):=(by omega);have t1:(g:Int)<=10:=by omega
 have v1:decide (10<(g:Int))=false:=decide_eq_false (by omega);have q:=aA g0;have g1:Hid ((g:Int)-1=(o:Int)):=by unfold Hid;omega
 have e1:Hid ((m:Int)+1=(C:Int)):=by unfold Hid;omega
 have q1:(m:Int)<=100000:=(by omega);have a1:Hid (∀W',Af W' b (FR s p g)->Calls prog 156 #[.pointer (some ⟨b,0,none⟩)] W' (Dk b s g t m W')):=fun W' h=>hF g p t m b W' hf h;have n1:(s[k].toNat:Int)=40:=by rw[G];rfl
 clear hV f0 I y e0 hc i0 l0 j0 hs hF hf H L ho G
 go_in
 go_upto_region 1 with fail
 rw[<- i1.out];go_quiet (fail);have f:Below V.heap.size V (V.drewN nq):=⟨rfl,rfl,rfl,aB _,fun _ _=>rfl⟩;have i:Af (V.drewN nq) b (FR s k o):=b1.out.below (by have:=c0.out;have:=q.out;omega) f;have z:Af (V.drewN nq) W.heap.size [.int .i64 0,.int .u64 0,.int .u64 0,.int .u64 0,.int .u64 0,.slice none 0 0]:=c1.out.below (by have:=c0.out;omega) f;have K:Below W.heap.size W (V.drewN nq):=R.out.trans (f.mono R.out.size);generalize V.drewN nq=U at i z K ⊢;clear f r0 r1;have r0:=i.c 0 _ rfl;have r1:=i.c 1 _ rfl;have r2:=i.c 2 _ rfl;have rf:=i.fz;have h2:Af ((U.setCell ⟨b,1,none⟩ (.int .i64 (p:Int))).setCell ⟨b,2,none⟩ (.int .i64 (g:Int))) b (FR s p g):=(i.set 1 _ _ rfl).set 2 _ _ rfl
 have M:Ae b U ((U.setCell ⟨b,1,none⟩ (.int .i64 (p:Int))).setCell ⟨b,2,none⟩ (.int .i64 (g:Int))):=((Ae.refl b U).set 1 _).set 2 _
 have h3:Af ((U.setCell ⟨b,1,none⟩ (.int .i64 (p:Int))).setCell ⟨b,2,none⟩ (.int .i64 (g:Int))) W.heap.size [.int .i64 0,.int .u64 0,.int .u64 0,.int .u64 0,.int .u64 0,.slice none 0 0] :=
  z.only (z.lt _ rfl) M (by have:=q.out;omega)
 have h4:Ae b W ((U.setCell ⟨b,1,none⟩ (.int .i64 (p:Int))).setCell ⟨b,2,none⟩ (.int .i64 (g:Int))):=DJ (Ae.of_below b K) M;have H2:=aA h2;have E:=aA h3;have H4:=aA h4;clear i z K h2 h3 h4 M
 go_upto_region 9 with fail
 generalize (U.setCell ⟨b,1,none⟩ (.int .i64 (p:Int))).setCell ⟨b,2,none⟩ (.int .i64 (g:Int))=Z at H2 E H4 ⊢;clear r0 r1 r2 rf;have z2:=H2.out.c 2 _ rfl
 go_wp2_with fail
 (go_at_call 156;refine(a1.out _ H2.out).mono ?_;rintro e O ⟨x,a,c,rfl,t0,w0,l,J⟩)
 obtain⟨X,hX⟩:∃X,X=O.alloc (.cells #[.int .i64 t.kd,.int .u64 x.a,.int .u64 x.b,.int .u64 x.c,.int .u64 x.d,.slice a t.ks.length c] 186):=⟨_,rfl⟩;have u:Below O.heap.size O X:=by rw[hX];exact Ad _ _
 have h0:Af X b (FR s m g):=J.below (J.lt _ rfl) u;have q0:Af X O.heap.size [.int .i64 t.kd,.int .u64 x.a,.int .u64 x.b,.int .u64 x.c,.int .u64 x.d,.slice a t.ks.length c]:=by rw[hX];exact Af.new O _ _
 have s0:Af X W.heap.size [.int .i64 0,.int .u64 0,.int .u64 0,.int .u64 0,.int .u64 0,.slice none 0 0] :=
  (E.out.only (E.out.lt _ rfl) l (by have:=q.out;omega)).below (aC (E.out.lt _ rfl) l.size) u
 have m0:Ae b W X:=Cw (DJ H4.out l) (u.mono (Nat.le_trans H4.out.size l.size));have v0:Cs X (fun j=>W.heap.size<j) t.ks (.slice a t.ks.length c):=(t0.bel u).mono fun j _ h=>aC (E.out.lt _ rfl) h;have o0:W.heap.size<O.heap.size:=aC (E.out.lt _ rfl) l.size;have d0:=aA hX;have r:=aA h0;have a0:=aA q0;have b0:=aA s0;have T:=aA m0;have j1:=aA v0;have l1:=aA w0;have h1:=aA o0;clear z2 t0 w0 l J hX u h0 q0 s0 m0 v0 o0 H2 E H4
 go_upto_region 12 with fail
 rw[<- d0.out];have x0:=r.out.c 0 _ rfl;have x1:=r.out.c 1 _ rfl;have x3:=r.out.c 3 _ rfl;have S:Hid (Calls prog 171 #[.pointer (some ⟨b,0,none⟩),.int .u8 41] X fun e w'=>e = .returned (.bool true)/\∃n,w'=X.drewN n):=by have:=K0 s m 41 b X x0 x1;rw[A] at this;exact this
 go_wp2_with fail
 (go_at_call 171;refine S.out.mono ?_;rintro e w6 ⟨rfl,N,rfl⟩)
 have f:Below X.heap.size X (X.drewN N):=⟨rfl,rfl,rfl,aB _,fun _ _=>rfl⟩;have P:Af (X.drewN N) b (FR s m g):=r.out.below (r.out.lt _ rfl) f;have d2:Af (X.drewN N) O.heap.size [.int .i64 t.kd,.int .u64 x.a,.int .u64 x.b,.int .u64 x.c,.int .u64 x.d,.slice a t.ks.length c]:=a0.out.below (a0.out.lt _ rfl) f;have d3:Af (X.drewN N) W.heap.size [.int .i64 0,.int .u64 0,.int .u64 0,.int .u64 0,.int .u64 0,.slice none 0 0]:=b0.out.below (b0.out.lt _ rfl) f;have d4:Ae b W (X.drewN N):=Cw T.out (f.mono T.out.size);have d5:Cs (X.drewN N) (fun j=>W.heap.size<j) t.ks (.slice a t.ks.length c):=j1.out.bel f
 generalize X.drewN N=Y at P d2 d3 d4 d5 ⊢;clear x0 x1 x3 f d0 S A n0 k0;have y1:=P.c 1 _ rfl;have y2:=P.c 2 _ rfl;have yf:=P.fz;have n0:=g1.out;have k0:=e1.out;have f1:Af ((Y.setCell ⟨b,2,none⟩ (.int .i64 (o:Int))).setCell ⟨b,1,none⟩ (.int .i64 (C:Int))) b (FR s C o):=(P.set 2 _ _ rfl).set 1 _ _ rfl;have fo:Ae b Y ((Y.setCell ⟨b,2,none⟩ (.int .i64 (o:Int))).setCell ⟨b,1,none⟩ (.int .i64 (C:Int))):=((Ae.refl b Y).set 2 _).set 1 _;have m1:=q.out;have f2:=d2.only (d2.lt _ rfl) fo (by have:=h1.out;omega);have f3:=d3.only (d3.lt _ rfl) fo (by omega);have f4:Ae b W ((Y.setCell ⟨b,2,none⟩ (.int .i64 (o:Int))).setCell ⟨b,1,none⟩ (.int .i64 (C:Int))):=DJ d4 fo
 have f5:=d5.only fo (by omega);have F1:=aA f1;have D:=aA f2;have w:=aA f3;have F4:=aA f4;have F5:=aA f5;clear P d2 d3 d4 d5 f1 fo f2 f3 f4 f5 m1
 go_upto_region 16 with fail
 generalize ((Y.setCell ⟨b,2,none⟩ (.int .i64 (o:Int))).setCell ⟨b,1,none⟩ (.int .i64 (C:Int)))=Q at F1 D w F4 F5 ⊢;clear y1 y2 yf;have p0:=D.out.c 0 _ rfl;have p1:=D.out.c 1 _ rfl;have p2:=D.out.c 2 _ rfl;have p3:=D.out.c 3 _ rfl;have p4:=D.out.c 4 _ rfl;have p5:=D.out.c 5 _ rfl;have z0:=w.out.c 0 _ rfl;have z1:=w.out.c 1 _ rfl;have z2:=w.out.c 2 _ rfl;have z3:=w.out.c 3 _ rfl;have z4:=w.out.c 4 _ rfl;have z5:=w.out.c 5 _ rfl;have zf:=w.out.fz;go_wp2;have B:=w.out.set6 (.int .i64 t.kd) (.int .u64 x.a) (.int .u64 x.b) (.int .u64 x.c) (.int .u64 x.d) (.slice a t.ks.length c);have ho:=Ae.set6 Q W.heap.size (.int .i64 t.kd) (.int .u64 x.a) (.int .u64 x.b) (.int .u64 x.c) (.int .u64 x.d) (.slice a t.ks.length c)
 generalize ((((((Q.setCell ⟨W.heap.size,0,none⟩ (.int .i64 t.kd)).setCell ⟨W.heap.size,1,none⟩ (.int .u64 x.a)).setCell ⟨W.heap.size,2,none⟩ (.int .u64 x.b)).setCell ⟨W.heap.size,3,none⟩ (.int .u64 x.c)).setCell ⟨W.heap.size,4,none⟩ (.int .u64 x.d)).setCell ⟨W.heap.size,5,none⟩ (.slice a t.ks.length c))=Z2 at B ho ⊢;have y0:=B.c 0 _ rfl;have y1:=B.c 1 _ rfl;have y2:=B.c 2 _ rfl;have y3:=B.c 3 _ rfl;have y4:=B.c 4 _ rfl;have y5:=B.c 5 _ rfl;clear B p0 p1 p2 p3 p4 p5 z0 z1 z2 z3 z4 z5 zf;exact bodyPost_ret (v:=.agg #[.int .i64 t.kd,.int .u64 x.a,.int .u64 x.b,.int .u64 x.c,.int .u64 x.d,.slice a t.ks.length c]) (by simp[results,results180,go_sem,y0,y1,y2,y3,y4,y5]<;>exact rfl) rfl (Ej F1.out F4.out q.out rfl t x a c F5.out l1.out ho)
theorem GE {w:World} {p:Nat} {T:TypeId} {arr z:Array Value} (h:w.heap[p]?=some (.cells z T (0,0))):(w.setRow p arr).heap[p]?=some (.cells arr T (0,0))/\Ae p w (w.setRow p arr):=by
 have b:=(aD.1 h).1;refine⟨?_,rfl,rfl,rfl,?_,fun i c a=>?_⟩
 ·simp only[World.setRow]
  rw[aE,if_pos rfl,h];rfl
 ·simp[World.setRow]
 simp only[World.setRow];rw[aE,if_neg (fun e=>a (by rw[e]))]
theorem LD {arr:Array Value} (d:arr.size=256) (a:∀i,i<256->∃b,arr[i]?=some (.bool b)):arr.all (·.oneCell')=true:=by
 rw[Array.all_eq_true];intro i c;obtain⟨b,h⟩:=a i (by omega);rw[Array.getElem?_eq_getElem c] at h;rw[Option.some.inj h];rfl
theorem FD {P:Program} (w:World) (p:Nat) (T c:TypeId) (z arr:Array Value) (e:w.heap[p]?=some (.cells z c (0,0))) (a:(P.info? T).map (·.size)=some arr.size) (f:z.size=arr.size) (d:arr.all (·.oneCell')=true) :
  (storeCells ⟨p,0,none⟩ arr.toList 0).run P w = .ok () (w.setRow p arr):=by
 have:=run_storeVar_row (P:=P) w p c T z arr e a f d
 cases b:P.info? T with
 | none=>simp[b] at a
 | some i =>
   have g:arr.size=i.size:=by simp[b] at a;omega
   simpa[storeVar,sizeOf,typeInfo,b,Value.cells,g] using this
theorem IJ {P:Program} (w:World) (p:Nat) (T:TypeId) (a:TypeId) (arr:Array Value) (n:Nat) (e:TypeId) (b:w.heap[p]?=some (.cells arr a (0,0))) (d:P.underlying T=some (.array n e)) (c:(P.info? T).map (·.size)=some arr.size) :
  (Instr.loadAt T (.pointer (some ⟨p,0,none⟩))).run P w = .ok (.agg arr) w:=by
 simp only[Instr.loadAt,Instr.sureAddr,Sem.run_bind,Sem.run_pure,Result.andThen];exact run_loadVar_row w p a T arr (0,0) _ b d rfl c
theorem Q2 (hB:WY) (o b:Nat) (W:World) (X:Af W b (FR Tz 0 o)) :
  Calls prog 180 #[.pointer (some ⟨b,0,none⟩)] W (Dk b Tz o (.mk 1 []) 5 W):=by
 obtain⟨s,hs⟩:∃s,s=Tz:=⟨_,rfl⟩;obtain⟨k,hk⟩:∃k,k=0:=⟨_,rfl⟩;obtain⟨r,a0⟩:∃r,r=1:=⟨_,rfl⟩;have s0:s.size=6:=by rw[hs];rfl
 rw[<- hs] at X ⊢;have f1:k<s.size:=(by omega);have O:(s[k]'f1).toNat=91:=by subst hs;subst hk;rfl
 obtain⟨V,R⟩:∃V,V=W.alloc (.cells #[.int .i64 0,.int .u64 0,.int .u64 0,.int .u64 0,.int .u64 0,.slice none 0 0] 186):=⟨_,rfl⟩;rw[<- hk] at X;have T:b<W.heap.size:=X.lt _ rfl;have S:V.heap.size=W.heap.size+1:=by rw[R];simp
 have H:Below W.heap.size W V:=by rw[R];exact Ad W _
 have y:Af V b (FR s k o):=X.below T H;have Q:Af V W.heap.size [.int .i64 0,.int .u64 0,.int .u64 0,.int .u64 0,.int .u64 0,.slice none 0 0]:=by rw[R];exact Af.new W _ _
 have r0:=y.c 0 _ rfl;have r1:V.cell? ⟨b,1,none⟩=some (.int .i64 k):=y.c 1 _ rfl;have j0:=aA R;have N:=aA S;have L:=aA H;have d0:=aA y;have e0:=aA Q;have c1:(k:Int)<(s.size:Int):=(by omega);have b1:decide ((s.size:Int)<=(k:Int))=false:=decide_eq_false (by omega);have d1:(k:Int)+1=(r:Int):=(by omega);have a1:(r:Int)<=100000:=(by omega);have x:=aA T;have c0:Hid (∀(W:World),Calls prog 184 #[.string s,.int .i64 r] W fun e w'=>∃arr:Array Value,e = .returned (.tuple #[.agg arr,.int .i64 5,.bool true])/\arr.size=256/\(∀i,i<256->∃b,arr[i]?=some (.bool b))/\Below W.heap.size W w'):=by rw[hs,a0];exact hB
 have x0:(s[k].toNat:Int)=91:=by rw[O];rfl
 clear R S H y Q X s0 hB O hs hk a0
 go_in
 go_upto_region 1 with fail
 rw[<- j0.out];go_quiet (fail);have z:Below V.heap.size V (V.drewN nq):=⟨rfl,rfl,rfl,aB _,fun _ _=>rfl⟩;have q:Af (V.drewN nq) b (FR s k o):=d0.out.below (by have:=N.out;have:=x.out;omega) z;have A:Af (V.drewN nq) W.heap.size [.int .i64 0,.int .u64 0,.int .u64 0,.int .u64 0,.int .u64 0,.slice none 0 0]:=e0.out.below (by have:=N.out;omega) z;have I:Below W.heap.size W (V.drewN nq):=L.out.trans (z.mono L.out.size);generalize V.drewN nq=U at q A I ⊢;clear z r0 r1;have r0:=q.c 0 _ rfl;have r1:U.cell? ⟨b,1,none⟩=some (.int .i64 k):=q.c 1 _ rfl;have rf:=q.fz;have h2:Af (U.setCell ⟨b,1,none⟩ (.int .i64 (r:Int))) b (FR s r o):=q.set 1 _ _ rfl
 have h3:Af (U.setCell ⟨b,1,none⟩ (.int .i64 (r:Int))) W.heap.size [.int .i64 0,.int .u64 0,.int .u64 0,.int .u64 0,.int .u64 0,.slice none 0 0] :=
  A.only (A.lt _ rfl) ((Ae.refl b U).set 1 _) (by have:=x.out;omega)
 have h4:Ae b W (U.setCell ⟨b,1,none⟩ (.int .i64 (r:Int))):=(Ae.of_below b I).set 1 _;have G:=aA h2;have K:=aA h3;have H4:=aA h4;clear q A I h2 h3 h4
 go_upto_region 6 with fail
 generalize U.setCell ⟨b,1,none⟩ (.int .i64 (r:Int))=Z at G K H4 ⊢;clear r0 r1 rf
 go_upto_region 20 with fail
 go_cut [6,7,8] (fun v6 v7 v8 wx=>∃(p:Nat) (arr:Array Value),v6 = .pointer (some ⟨p,0,none⟩)/\v7 = .int .i64 5/\v8 = .bool true/\Hid (arr.size=256/\(∀i,i<256->∃b,arr[i]?=some (.bool b))/\Below Z.heap.size Z wx/\wx.heap[p]?=some (.cells arr 230 (0,0))/\Z.heap.size<=p))
 case first =>
  have z0:=G.out.c 0 _ rfl;have z1:Z.cell? ⟨b,1,none⟩=some (.int .i64 r):=G.out.c 1 _ rfl;have h1:=fun o=>A2 z0 o;have i1:=fun o=>A2 z1 o
  go_region_law (first | (go_simp;go_at_call 184;refine(c0.out _).mono ?_;rintro e D ⟨arr,rfl,j,l,t⟩;have m:=aA (And.intro j l);have n:=LD j l;have B:(prog.info? 230).map (·.size)=some arr.size:=(by rw[EB,j]);have C:Tryz.zeroCells230.size=arr.size:=(by rw[Dv,j];simp);have E:=t;first
   | (have g:Below (Z.drew.alloc (.cells Tryz.zeroCells230 230)).heap.size (Z.drew.alloc (.cells Tryz.zeroCells230 230)) D:=t;have u:D.heap[Z.heap.size]?=some (.cells Tryz.zeroCells230 230 (0,0)):=((g.block Z.heap.size (by simp)).trans (heap_alloc_last Z.drew _));have t0:=FD (P:=prog) D Z.heap.size 230 _ _ arr u B C n;have g0:=aA (GE (arr:=arr) u);have b0:=aA ((Ad Z.drew _).trans (g.mono (by simp)));clear t E l n B C g u)
   | (have t0:=run_storeCells_new (P:=prog) D 230 Tryz.zeroCells230 arr B C n;have M:Hid (Below Z.drew.heap.size Z.drew D):=t;clear t E l n B C)) | (go_simp;go_loud (exact Nat.zero)))
  all_goals
   go_wp2;go_meet;have Y:Below Z.heap.size Z Z.drew:=⟨rfl,rfl,rfl,aB _,fun _ _=>rfl⟩
   first
   | (have J:Below Z.heap.size Z D:=Y.trans M.out
      exact⟨_,arr,rfl,rfl,rfl,aA ⟨m.out.1,m.out.2,J.trans ((Ad D _).mono J.size),heap_alloc_last D _,J.size⟩⟩)
   | (obtain⟨p0,q0⟩:=g0.out
      refine⟨_,arr,rfl,rfl,rfl,aA ⟨m.out.1,m.out.2,?_,p0,aB _⟩⟩;have J:Below Z.heap.size Z D:=Y.trans b0.out
      exact q0.below_of J (aB _) J.size)
 obtain⟨p,arr,rfl,rfl,rfl,HX⟩:=hcut
 apply_assumption
 obtain⟨j,l,g,w,u⟩:=HX.out;have g1:Af wc b (FR s r o):=G.out.below (G.out.lt _ rfl) g;have g2:=K.out.below (K.out.lt _ rfl) g;have g3:Ae b W wc:=Cw H4.out (g.mono H4.out.size);have n0:b<Z.heap.size:=G.out.lt _ rfl;have o0:W.heap.size<Z.heap.size:=K.out.lt _ rfl;have e1:Af (wc.setCell ⟨b,1,none⟩ (.int .i64 5)) b (FR s 5 o):=g1.set 1 _ _ rfl;have e2:=g2.only (g2.lt _ rfl) ((Ae.refl b wc).set 1 (.int .i64 5)) (by have:=x.out;omega);have e3:Ae b W (wc.setCell ⟨b,1,none⟩ (.int .i64 5)):=DJ g3 ((Ae.refl b wc).set 1 _)
 have e4:(wc.setCell ⟨b,1,none⟩ (.int .i64 5)).heap[p]?=some (.cells arr 230 (0,0)) :=
  (((Ae.refl b wc).set 1 (.int .i64 5)).block p (aD.1 w).1 (fun e=>by injection e with e;omega)).trans w
 have r1:wc.cell? ⟨b,1,none⟩=some (.int .i64 r):=g1.c 1 _ rfl;have rf:=g1.fz;have E1:=aA e1;have E2:=aA e2;have E3:=aA e3;have E4:=aA e4;have f0:Hid (∀w',Calls prog 182 #[.agg arr] w' fun e w0=>∃a b c d:Int,e = .returned (.agg #[.int .u64 a,.int .u64 b,.int .u64 c,.int .u64 d])/\Below w'.heap.size w' w0):=fun w'=>F' arr j l w';have i0:=aA j;clear g1 g2 g3 n0 o0 e1 e2 e3 e4 j l g w u HX G K H4
 go_wp2_with fail
 refine Hh (.agg arr) (by
  have:=IJ (P:=prog) _ p 230 _ arr 256 4 E4.out underlying230 (by rw[EB,i0.out])
  simp[execOp,Act.eval,this,Result.andThen]) ?_
 generalize wc.setCell ⟨b,1,none⟩ (.int .i64 5)=Z5 at E1 E2 E3 E4 ⊢;clear r1 rf
 go_wp2_with fail
 (go_at_call 182;refine(f0.out _).mono ?_;rintro e w6 ⟨x1,x2,x3,x4,rfl,hb⟩)
 have l0:=E1.out.below (E1.out.lt _ rfl) hb;have f:=E2.out.below (E2.out.lt _ rfl) hb;have m0:=Cw E3.out (hb.mono E3.out.size);have k0:=f.c 0 _ rfl;have v0:=f.c 1 _ rfl;have k2:=f.c 2 _ rfl;have k3:=f.c 3 _ rfl;have k4:=f.c 4 _ rfl;have k5:=f.c 5 _ rfl;have kf:=f.fz;go_wp2;clear k0 v0 k2 k3 k4 k5 kf;have F:=f.set6 (.int .i64 1) (.int .u64 x1) (.int .u64 x2) (.int .u64 x3) (.int .u64 x4) (.slice none 0 0);have ho:=Ae.set6 w6 W.heap.size (.int .i64 1) (.int .u64 x1) (.int .u64 x2) (.int .u64 x3) (.int .u64 x4) (.slice none 0 0);generalize ((((((w6.setCell ⟨W.heap.size,0,none⟩ (.int .i64 1)).setCell ⟨W.heap.size,1,none⟩ (.int .u64 x1)).setCell ⟨W.heap.size,2,none⟩ (.int .u64 x2)).setCell ⟨W.heap.size,3,none⟩ (.int .u64 x3)).setCell ⟨W.heap.size,4,none⟩ (.int .u64 x4)).setCell ⟨W.heap.size,5,none⟩ (.slice none 0 0))=Z2 at F ho ⊢
 have y0:=F.c 0 _ rfl;have y1:=F.c 1 _ rfl;have y2:=F.c 2 _ rfl;have y3:=F.c 3 _ rfl;have y4:=F.c 4 _ rfl;have y5:=F.c 5 _ rfl;clear F;exact bodyPost_ret (v:=.agg #[.int .i64 1,.int .u64 x1,.int .u64 x2,.int .u64 x3,.int .u64 x4,.slice none 0 0]) (by simp[results,results180,go_sem,y0,y1,y2,y3,y4,y5]<;>exact rfl) rfl (Ej l0 m0 x.out rfl (.mk 1 []) ⟨x1,x2,x3,x4⟩ none 0 .nil (fun h=>absurd rfl h) ho)
theorem Q1 (s:ByteArray) (F:Nat->Nat->Option (Rt×Nat)) (hF:Tm s F) (l:s.size<=100000) (n:VY) (x:WY):UU s (OS F s):=by
 intro o k t y b W a j;unfold OS at a;by_cases i:k<s.size
 ·rw[if_pos i] at a
  by_cases d:Cf s k=40
  ·rw[if_pos d] at a
   by_cases q:o+1<=10
   ·rw[if_pos q] at a
    obtain⟨⟨u,v⟩,w,m⟩:=Option.bind_eq_some_iff.1 a;by_cases g:Cf s v=41
    ·rw[if_pos g] at m
     cases m;exact O' s F hF o k b v u W i l q j d w g
    rw[if_neg g] at m;cases m
   rw[if_neg q] at a;cases a
  rw[if_neg d] at a;by_cases e:Cf s k=46
  ·rw[if_pos e] at a;cases a
   exact Gi s o k b W i l j 1 n (.inl ⟨e,rfl⟩)
  rw[if_neg e] at a;by_cases h:Cf s k=91
  ·rw[if_pos h] at a
   by_cases p:s=Tz/\k=0
   ·rw[if_pos p] at a;cases a
    obtain⟨rfl,rfl⟩:=p;exact Q2 x o b W j
   rw[if_neg p] at a;cases a
  rw[if_neg h] at a;by_cases f:Cf s k=94
  ·rw[if_pos f] at a;cases a
   exact Gi s o k b W i l j 7 n (.inr (.inl ⟨f,rfl⟩))
  rw[if_neg f] at a;by_cases c:Cf s k=36
  ·rw[if_pos c] at a;cases a
   exact Gi s o k b W i l j 8 n (.inr (.inr (.inl ⟨c,rfl⟩)))
  rw[if_neg c] at a;by_cases r:Cf s k=92\/Cf s k=42\/Cf s k=43\/Cf s k=63\/Cf s k=123\/Cf s k=124\/Cf s k=41
  ·rw[if_pos r] at a;cases a
  rw[if_neg r] at a;cases a;exact Gi s o k b W i l j 1 n (.inr (.inr (.inr ⟨⟨d,e,h,f,c,by omega,by omega,by omega,by omega,by omega,by omega,by omega⟩,rfl⟩)))
 rw[if_neg i] at a;cases a
end Go.Proofs.YtipfpohlnhmlpaaGreatDoor
