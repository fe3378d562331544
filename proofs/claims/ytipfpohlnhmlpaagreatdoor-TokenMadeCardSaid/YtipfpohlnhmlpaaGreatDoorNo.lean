/- No -/
import Derived.Test.YtipfpohlnhmlpaaGreatDoorNn
set_option maxRecDepth 100000
set_option maxHeartbeats 16000000
open ByteArray renaming size->aA
open Go.Lib renaming hid->aB
open Bool renaming and_eq_true->aC
open List renaming mem_of_getElem?->aD,take_length->aG,all_eq_true->aI
open Nat renaming le_trans->aE,le_refl->aJ
open Go.Value renaming int->aF
namespace Go.Proofs.YtipfpohlnhmlpaaGreatDoor
open Go.Proofs.Tryz
open Go.RowKit
theorem CR {a:Type} {l:List a} {k:Nat} {x:a} {f:a->List UInt8} (d:l[k]?=some x):(l.take (k+1)).flatMap f=(l.take k).flatMap f++f x:=by
 obtain⟨c,b⟩:=List.getElem?_eq_some_iff.1 d;rw[List.take_succ_eq_append_getElem c,b,List.flatMap_append];simp
theorem P4 (Q:List UInt8->Prop) (o:Nat->List UInt8) (m0:∀x,(o x).length<=64) (N:Aw) (w0:World) (t2:∀nm,N.name nm=BM nm) (v2:∀n,CS Q N w0 n) (o2:∀n,Xn Q N w0 n) (s2:∀n,Hj o N w0 n) (r2:∀n,GP o N w0 n)
  (hI:∀(n:Int) W,1<=n->n<=1048576->Below w0.heap.size w0 W->Calls prog 32 #[.int .i64 n] W fun e J=>e = .returned (.string ⟨(Fp n).toArray⟩)/\Below W.heap.size W J) (j3:∀n:Int,1<=n->n<=1048576->(Fp n).length<=64)
  (v:List Rl) (F:List Fu) (rv fv:Value) (W:World)
  (hR:ED 60 W v rv) (hF:Fh 60 W F fv) (v1:∀r∈v,V0 Q r) (m1:∀f∈F,VX Q f) (i4:v.length<=10000) (a4:F.length<=10000) (hW:Below w0.heap.size w0 W) :
  Calls prog 9 #[.agg #[rv,fv]] W fun e J=>e = .returned (.string ⟨(if Fc N v F then OR o v F else []).toArray⟩)/\Below W.heap.size W J:=by
 have z0:Hid (∀l,Below W.heap.size W l->Calls prog 31 #[.agg #[rv,fv]] l fun e J=>e = .returned (.bool (Fc N v F))/\Below l.heap.size l J):=fun l h=>Qb Q N w0 t2 v2 o2 v F rv fv l (hR.bel h) (hF.bel h) v1 m1 (by omega) (by omega) (hW.trans (h.mono hW.size));have HR:=aB hR;have HF:=aB hF;have k2:=aB v1;have b3:=aB m1;have HW:=aB hW;have d2:=aB s2;have a2:=aB r2;have f2:=aB hI;obtain⟨ra,R,x3,m3⟩:=hR;subst x3;obtain⟨fa,H,p3,n3⟩:=hF;subst p3;have U:=aB (Ad W (.cells #[.slice ra v.length R,.slice fa F.length H] 37));have y:(W.alloc (.cells #[.slice ra v.length R,.slice fa F.length H] 37)).cell? ⟨W.heap.size,0,none⟩=some (.slice ra v.length R):=by rw[World.cell?_alloc_at _ _ _ _ rfl];rfl
 have s:(W.alloc (.cells #[.slice ra v.length R,.slice fa F.length H] 37)).cell? ⟨W.heap.size,1,none⟩=some (.slice fa F.length H):=by rw[World.cell?_alloc_at _ _ _ _ rfl];rfl
 clear v1 m1 hW v2 o2 s2 r2 hI m3 n3 t2;obtain⟨pb,o0⟩:∃pb,Fc N v F=pb:=⟨_,rfl⟩;rw[o0] at z0 ⊢
 cases pb with
 | false =>
   go_in
   go_wp2_with (go_at_call 31;refine(z0.out _ U.out).mono ?_;rintro e w1 ⟨rfl,d0⟩)
   go_ret;exact⟨rfl,U.out.trans (d0.mono U.out.size)⟩
 | true =>
 have t1:(∀r∈v,BL N r=true)/\∀f∈F,Eu N f=true:=by
  unfold Fc at o0;rw[aC,aI,aI] at o0;exact o0
 have j2:=aB t1.1;have f3:=aB t1.2;clear t1 o0;rw[if_pos rfl]
 go_in
 go_wp2_with fail
 (go_at_call 31;refine(z0.out _ U.out).mono ?_;rintro e w1 ⟨rfl,d0⟩;have z1:=aB (U.out.trans (d0.mono U.out.size));replace y:=Aa y d0;replace s:=Aa s d0;clear d0)
 have HG:=aB (And.intro y s);clear y s z0 U
 go_wp2_with fail
 go_loopg [3,4] v.length (fun g x0 i wr=>∃(k:Nat) (T:ByteArray),x0 = .string T/\i = .int .i64 k/\k+g=v.length/\Hid (T.size<=20000000000000*k)/\Hid (T.data.toList=(v.take k).flatMap (BQ o))/\Hid (Below W.heap.size W wr)/\Hid (wr.cell? ⟨W.heap.size,0,none⟩=some (.slice ra v.length R)/\wr.cell? ⟨W.heap.size,1,none⟩=some (.slice fa F.length H)))
 case atStart=>exact⟨0,_,rfl,rfl,by omega,Nat.zero_le _,by simp[Hid],z1,HG⟩
 obtain⟨k,T,rfl,rfl,x2,E,HT,c,y0⟩:=hrel;obtain⟨y,s⟩:=y0.out;by_cases b1:k<v.length
 ·obtain⟨a',n2,hv,P⟩:=HR.out.bel c.out
  injection hv with v0 _ y1;obtain⟨b,pv,kv,r,ha,hr,p1,Z,c0,c1,c2,c3,c4,c5,c6,c7,c8⟩:=P k b1;rw[<- v0] at ha;subst ha;rw[Nat.mul_comm 9 k] at c0 c1 c2 c3 c4 c5 c6 c7 c8;obtain⟨pa,u,r0⟩:=p1.slice;subst r0;obtain⟨ka,w,r1⟩:=Z.slice;subst r1;have C:=k2.out r (aD hr);have s0:=j2.out r (aD hr);have s3:r.ps.length<=8796093022208:=aE (Lz r.ps) C.bp;have o1:r.b.ks.length<=8796093022208:=by have K:=DX r.b;have h2:=C.bb;omega
  have z2:(decide (r.b.kd=30)&&Av N 1 r.b)=true:=by
   unfold BL at s0;simp only[aC] at s0;simp only[aC];exact s0.2.2.2.1
  have t0:=(aC _ _).mp z2
  have HA:Hid (A5 N 1 r.ps=true->∀l,Below wr.heap.size wr l->Calls prog 33 #[.slice pa r.ps.length u,.string ⟨#[44,32]⟩] l fun e J=>e = .returned (.string ⟨(A3 [44,32] (AP o r.ps)).toArray⟩)/\Below l.heap.size l J) :=
   fun K l h=>EN o m0 N w0 (DN r.ps) (d2.out _) r.ps 1 _ [44,32] l (aJ _) K C.bp (by decide) (p1.bel h) (HW.out.trans ((c.out.mono HW.out.size).trans (h.mono (aE HW.out.size c.out.size))))
  have HK:Hid (∀l,Below wr.heap.size wr l->Calls prog 34 #[.agg #[.int .i64 r.b.kd,.string ⟨r.b.nm.toArray⟩,.float .f64 r.b.x,.slice ka r.b.ks.length w,.complex .f64 r.b.z.1 r.b.z.2]] l fun e J=>e = .returned (.string ⟨(AX o r.b).toArray⟩)/\Below l.heap.size l J) :=
   fun l h=>a2.out r.b.wt r.b 1 _ l (aJ _) (of_decide_eq_true t0.1) t0.2 C.bb (Z.bel h) (HW.out.trans ((c.out.mono HW.out.size).trans (h.mono (aE HW.out.size c.out.size))))
  have HI:Hid (∀(n:Int) l,1<=n->n<=1048576->Below wr.heap.size wr l->Calls prog 32 #[.int .i64 n] l fun e J=>e = .returned (.string ⟨(Fp n).toArray⟩)/\Below l.heap.size l J) :=
   fun n l K h2 h=>f2.out n l K h2 (HW.out.trans ((c.out.mono HW.out.size).trans (h.mono (aE HW.out.size c.out.size))))
  have D:=aB hr;have G:=aB s0;have e0:=aB C.bp;have s1:(AX o r.b).length<=8796093022208:=aE (BB o m0 r.b) C.bb;clear v0 y1 P p1 Z hr C s0 z2 t0;obtain⟨rk,rn,a0,rb,rz⟩:=r;have M:Hid (v[k]?=some ⟨rk,rn,a0,rb,rz⟩):=D;have e1:Hid (Bh a0<=8796093022208):=e0;obtain⟨A,X⟩:∃A,AX o rb=A:=⟨_,rfl⟩;obtain⟨m,em⟩:∃m,a0.length=m:=⟨_,rfl⟩;obtain⟨v3,f0⟩:∃v3,rb.kd=v3:=⟨_,rfl⟩;obtain⟨v4,h0⟩:∃v4,rb.nm.toArray=v4:=⟨_,rfl⟩;obtain⟨v5,i0⟩:∃v5,rb.x=v5:=⟨_,rfl⟩;obtain⟨v6,j0⟩:∃v6,rb.ks.length=v6:=⟨_,rfl⟩;obtain⟨v7,k0⟩:∃v7,rb.z.1=v7:=⟨_,rfl⟩
  obtain⟨v8,l0⟩:∃v8,rb.z.2=v8:=⟨_,rfl⟩;have S:=aB X;simp only[em] at HA s3 c2;simp only[X] at HK s1;simp only[f0,h0,i0,j0,k0,l0] at HK c3 c4 c5 c6 c7 o1;dsimp only at c0 c1 c8 HA;clear D e0 X em f0 h0 i0 j0 k0 l0;have D:=M;have e0:=e1;clear M e1
  go_upto_region 8 with fail
  have d:=aB (Ad wr (.cells #[.int .i64 rk,.int .i64 rn,.slice pa m u,.int .i64 v3,.string ⟨v4⟩,.float .f64 v5,.slice ka v6 w,.complex .f64 v7 v8,.complex .f64 rz.1 rz.2] 62));have hq:=CellsA.new9 wr (.int .i64 rk) (.int .i64 rn) (.slice pa m u) (.int .i64 v3) (.string ⟨v4⟩) (.float .f64 v5) (.slice ka v6 w) (.complex .f64 v7 v8) (.complex .f64 rz.1 rz.2) 62;replace y:=Az y (.cells #[.int .i64 rk,.int .i64 rn,.slice pa m u,.int .i64 v3,.string ⟨v4⟩,.float .f64 v5,.slice ka v6 w,.complex .f64 v7 v8,.complex .f64 rz.1 rz.2] 62);replace s:=Az s (.cells #[.int .i64 rk,.int .i64 rn,.slice pa m u,.int .i64 v3,.string ⟨v4⟩,.float .f64 v5,.slice ka v6 w,.complex .f64 v7 v8,.complex .f64 rz.1 rz.2] 62)
  clear c0 c1 c2 c3 c4 c5 c6 c7 c8;generalize (wr.alloc (.cells #[.int .i64 rk,.int .i64 rn,.slice pa m u,.int .i64 v3,.string ⟨v4⟩,.float .f64 v5,.slice ka v6 w,.complex .f64 v7 v8,.complex .f64 rz.1 rz.2] 62))=wa at d hq y s ⊢;obtain⟨q,eq⟩:∃q,wr.heap.size=q:=⟨_,rfl⟩;rw[eq] at hq ⊢;have Eq:=aB eq;have x1:=E.out;have k3:T.size<=200000000000000000:=(by omega);clear eq x1;obtain⟨q0,q1,q2,q3,q4,q5,q6,q7,q8⟩:=hq;by_cases K:rk=1
  ·subst K
   have V:Hid ((v.take (k+1)).flatMap (BQ o)=(v.take k).flatMap (BQ o)++([66,69,71,73,78,32]++A++[10])):=by unfold Hid;rw[CR D.out];congr 1;unfold BQ FZ;rw[<- S.out];rfl
   clear HA HI G
   go_wp2_with (go_at_call 34;refine(HK.out _ d.out).mono ?_;rintro e w5 ⟨rfl,a⟩;replace d:=aB (d.out.trans (a.mono d.out.size));replace y:=Aa y a;replace s:=Aa s a;clear a)
   go_wp2
   go_roundg (gk-1)
   case measure=>omega
   refine⟨k+1,_,rfl,congrArg (aF .i64) (by omega),by omega,?_,?_,aB (c.out.trans (d.out.mono c.out.size)),aB ⟨y,s⟩⟩
   ·have K:=E.out
    unfold Hid;simp only[AQ];have e2:aA ⟨A.toArray⟩=A.length:=(by simp[aA]);have e3:aA ⟨#[10]⟩=1:=rfl;have e4:aA ⟨#[66,69,71,73,78,32]⟩=6:=rfl;omega
   unfold Hid;rw[V.out];simp only[A1,HT.out];simp
  by_cases h2:rk=2
  ·subst h2
   have V:Hid ((v.take (k+1)).flatMap (BQ o)=(v.take k).flatMap (BQ o)++([69,78,68,32]++A++[10])):=by unfold Hid;rw[CR D.out];congr 1;unfold BQ FZ;rw[<- S.out];rfl
   clear HA HI G
   go_wp2_with (go_at_call 34;refine(HK.out _ d.out).mono ?_;rintro e w5 ⟨rfl,a⟩;replace d:=aB (d.out.trans (a.mono d.out.size));replace y:=Aa y a;replace s:=Aa s a;clear a)
   go_wp2
   go_roundg (gk-1)
   case measure=>omega
   refine⟨k+1,_,rfl,congrArg (aF .i64) (by omega),by omega,?_,?_,aB (c.out.trans (d.out.mono c.out.size)),aB ⟨y,s⟩⟩
   ·have K:=E.out
    unfold Hid;simp only[AQ];have e2:aA ⟨A.toArray⟩=A.length:=(by simp[aA]);have e3:aA ⟨#[10]⟩=1:=rfl;have e4:aA ⟨#[69,78,68,32]⟩=4:=rfl;omega
   unfold Hid;rw[V.out];simp only[A1,HT.out];simp
  by_cases h4:rk=4
  ·subst h4
   have V:Hid ((v.take (k+1)).flatMap (BQ o)=(v.take k).flatMap (BQ o)++([71,65,80,32]++A++[10])):=by unfold Hid;rw[CR D.out];congr 1;unfold BQ FZ;rw[<- S.out];rfl
   clear HA HI G
   go_wp2_with (go_at_call 34;refine(HK.out _ d.out).mono ?_;rintro e w5 ⟨rfl,a⟩;replace d:=aB (d.out.trans (a.mono d.out.size));replace y:=Aa y a;replace s:=Aa s a;clear a)
   go_wp2
   go_roundg (gk-1)
   case measure=>omega
   refine⟨k+1,_,rfl,congrArg (aF .i64) (by omega),by omega,?_,?_,aB (c.out.trans (d.out.mono c.out.size)),aB ⟨y,s⟩⟩
   ·have K:=E.out
    unfold Hid;simp only[AQ];have e2:aA ⟨A.toArray⟩=A.length:=(by simp[aA]);have e3:aA ⟨#[10]⟩=1:=rfl;have e4:aA ⟨#[71,65,80,32]⟩=4:=rfl;omega
   unfold Hid;rw[V.out];simp only[A1,HT.out];simp
  by_cases h3:rk=3
  ·subst h3
   obtain⟨LI,a1⟩:∃L,Fp rn=L:=⟨_,rfl⟩;have O:1<=rn/\rn<=1048576:=by have:=G.out;unfold BL at this;simp at this;omega
   have f4:LI.length<=64:=by rw[<- a1];exact j3 rn O.1 O.2
   have d3:Hid (∀l,Below wr.heap.size wr l->Calls prog 32 #[.int .i64 rn] l fun e J=>e = .returned (.string ⟨LI.toArray⟩)/\Below l.heap.size l J):=fun l h=>by rw[<- a1];exact HI.out rn l O.1 O.2 h
   have V:Hid ((v.take (k+1)).flatMap (BQ o)=(v.take k).flatMap (BQ o)++([69,86,69,82,89,32]++LI++[32]++A++[10])):=by unfold Hid;rw[CR D.out];congr 1;unfold BQ FZ;rw[<- S.out,<- a1];rfl
   clear HA HI G a1 O
   go_wp2_with fail
   (go_at_call 32;refine(d3.out _ d.out).mono ?_;rintro e w5 ⟨rfl,a⟩;replace d:=aB (d.out.trans (a.mono d.out.size));replace y:=Aa y a;replace s:=Aa s a;replace q0:=Aa q0 a;replace q1:=Aa q1 a;replace q2:=Aa q2 a;replace q3:=Aa q3 a;replace q4:=Aa q4 a;replace q5:=Aa q5 a;replace q6:=Aa q6 a;replace q7:=Aa q7 a;clear a)
   go_wp2_with (go_at_call 34;refine(HK.out _ d.out).mono ?_;rintro e w5 ⟨rfl,a⟩;replace d:=aB (d.out.trans (a.mono d.out.size));replace y:=Aa y a;replace s:=Aa s a;clear a)
   go_wp2
   go_roundg (gk-1)
   case measure=>omega
   refine⟨k+1,_,rfl,congrArg (aF .i64) (by omega),by omega,?_,?_,aB (c.out.trans (d.out.mono c.out.size)),aB ⟨y,s⟩⟩
   ·have K:=E.out
    unfold Hid;simp only[AQ];have e2:aA ⟨A.toArray⟩=A.length:=(by simp[aA]);have e3:aA ⟨#[10]⟩=1:=rfl;have e4:aA ⟨#[69,86,69,82,89,32]⟩=6:=rfl;have e5:aA ⟨LI.toArray⟩=LI.length:=(by simp[aA]);have e6:aA ⟨#[32]⟩=1:=rfl;omega
   unfold Hid;rw[V.out];simp only[A1,HT.out];simp
  by_cases h6:rk=6
  ·subst h6
   obtain⟨LC,I⟩:∃L,A3 [44,32] (AP o a0)=L:=⟨_,rfl⟩;have r3:LC.length<=8796093022208:=by rw[<- I,Au];exact aE (Cn [44,32] (by decide) (AD o) a0 fun t _=>Bs o m0 t) e0.out
   have j1:Hid (∀l,Below wr.heap.size wr l->Calls prog 33 #[.slice pa m u,.string ⟨#[44,32]⟩] l fun e J=>e = .returned (.string ⟨LC.toArray⟩)/\Below l.heap.size l J):=fun l h=>by rw[<- I];exact HA.out (by have:=G.out;unfold BL at this;simp at this;exact this.2.1) l h
   have V:Hid ((v.take (k+1)).flatMap (BQ o)=(v.take k).flatMap (BQ o)++(LC++[32]++A++[10])):=by unfold Hid;rw[CR D.out];congr 1;unfold BQ FZ;rw[<- S.out,<- I];rfl
   clear HA HI G I
   go_wp2_with fail
   (go_at_call 33;refine(j1.out _ d.out).mono ?_;rintro e w5 ⟨rfl,a⟩;replace d:=aB (d.out.trans (a.mono d.out.size));replace y:=Aa y a;replace s:=Aa s a;replace q0:=Aa q0 a;replace q1:=Aa q1 a;replace q2:=Aa q2 a;replace q3:=Aa q3 a;replace q4:=Aa q4 a;replace q5:=Aa q5 a;replace q6:=Aa q6 a;replace q7:=Aa q7 a;clear a)
   go_wp2_with (go_at_call 34;refine(HK.out _ d.out).mono ?_;rintro e w5 ⟨rfl,a⟩;replace d:=aB (d.out.trans (a.mono d.out.size));replace y:=Aa y a;replace s:=Aa s a;clear a)
   go_wp2
   go_roundg (gk-1)
   case measure=>omega
   refine⟨k+1,_,rfl,congrArg (aF .i64) (by omega),by omega,?_,?_,aB (c.out.trans (d.out.mono c.out.size)),aB ⟨y,s⟩⟩
   ·have K:=E.out
    unfold Hid;simp only[AQ];have e2:aA ⟨A.toArray⟩=A.length:=(by simp[aA]);have e3:aA ⟨#[10]⟩=1:=rfl;have e5:aA ⟨LC.toArray⟩=LC.length:=(by simp[aA]);have e6:aA ⟨#[32]⟩=1:=rfl;omega
   unfold Hid;rw[V.out];simp only[A1,HT.out];simp
  by_cases h7:rk=7
  ·subst h7
   obtain⟨LC,I⟩:∃L,A3 [44,32] (AP o a0)=L:=⟨_,rfl⟩;have r3:LC.length<=8796093022208:=by rw[<- I,Au];exact aE (Cn [44,32] (by decide) (AD o) a0 fun t _=>Bs o m0 t) e0.out
   have j1:Hid (∀l,Below wr.heap.size wr l->Calls prog 33 #[.slice pa m u,.string ⟨#[44,32]⟩] l fun e J=>e = .returned (.string ⟨LC.toArray⟩)/\Below l.heap.size l J):=fun l h=>by rw[<- I];exact HA.out (by have:=G.out;unfold BL at this;simp at this;exact this.2.1) l h
   have V:Hid ((v.take (k+1)).flatMap (BQ o)=(v.take k).flatMap (BQ o)++(LC++[32]++A++[10])):=by unfold Hid;rw[CR D.out];congr 1;unfold BQ FZ;rw[<- S.out,<- I];rfl
   clear HA HI G I
   go_wp2_with fail
   (go_at_call 33;refine(j1.out _ d.out).mono ?_;rintro e w5 ⟨rfl,a⟩;replace d:=aB (d.out.trans (a.mono d.out.size));replace y:=Aa y a;replace s:=Aa s a;replace q0:=Aa q0 a;replace q1:=Aa q1 a;replace q2:=Aa q2 a;replace q3:=Aa q3 a;replace q4:=Aa q4 a;replace q5:=Aa q5 a;replace q6:=Aa q6 a;replace q7:=Aa q7 a;clear a)
   go_wp2_with (go_at_call 34;refine(HK.out _ d.out).mono ?_;rintro e w5 ⟨rfl,a⟩;replace d:=aB (d.out.trans (a.mono d.out.size));replace y:=Aa y a;replace s:=Aa s a;clear a)
   go_wp2
   go_roundg (gk-1)
   case measure=>omega
   refine⟨k+1,_,rfl,congrArg (aF .i64) (by omega),by omega,?_,?_,aB (c.out.trans (d.out.mono c.out.size)),aB ⟨y,s⟩⟩
   ·have K:=E.out
    unfold Hid;simp only[AQ];have e2:aA ⟨A.toArray⟩=A.length:=(by simp[aA]);have e3:aA ⟨#[10]⟩=1:=rfl;have e5:aA ⟨LC.toArray⟩=LC.length:=(by simp[aA]);have e6:aA ⟨#[32]⟩=1:=rfl;omega
   unfold Hid;rw[V.out];simp only[A1,HT.out];simp
  by_cases h5:rk=5
  ·subst h5
   have V:Hid ((v.take (k+1)).flatMap (BQ o)=(v.take k).flatMap (BQ o)++(A++[10])):=by unfold Hid;rw[CR D.out];congr 1;unfold BQ FZ;rw[<- S.out];rfl
   clear HA HI G
   go_wp2_with (go_at_call 34;refine(HK.out _ d.out).mono ?_;rintro e w5 ⟨rfl,a⟩;replace d:=aB (d.out.trans (a.mono d.out.size));replace y:=Aa y a;replace s:=Aa s a;clear a)
   go_wp2
   go_roundg (gk-1)
   case measure=>omega
   refine⟨k+1,_,rfl,congrArg (aF .i64) (by omega),by omega,?_,?_,aB (c.out.trans (d.out.mono c.out.size)),aB ⟨y,s⟩⟩
   ·have K:=E.out
    unfold Hid;simp only[AQ];have e2:aA ⟨A.toArray⟩=A.length:=(by simp[aA]);have e3:aA ⟨#[10]⟩=1:=rfl
    skip
    omega
   unfold Hid;rw[V.out];simp only[A1,HT.out];simp
  exact absurd G.out (by unfold BL;rw[decide_eq_false (by show ¬ (1<=rk/\rk<=7);omega),Bool.false_and];simp)
 obtain rfl:k=v.length:=by omega
 have l2:Hid (T.data.toList=v.flatMap (BQ o)):=by
  have:=HT.out
  rwa [aG] at this
 have a3:T.size<=200000000000000000:=by have:=E.out;omega
 have m2:=aB a3;clear HR z1 HG HT E k2 j2 f2 d2 a3
 go_wp2_with fail
 go_loopg [3,6] F.length (fun g x0 i wr=>∃(k:Nat) (T2:ByteArray),x0 = .string T2/\i = .int .i64 k/\k+g=F.length/\Hid (T2.size<=200000000000000000+100000000000000*k)/\Hid (T2.data.toList=v.flatMap (BQ o)++(F.take k).flatMap (Hs o))/\Hid (Below W.heap.size W wr)/\Hid (wr.cell? ⟨W.heap.size,1,none⟩=some (.slice fa F.length H)))
 case atStart=>exact⟨0,T,rfl,rfl,by omega,m2,by simpa[Hid] using l2.out,c,aB s⟩
 clear y s y0 c l2 m2 b1 x2;obtain⟨k,T2,rfl,rfl,x2,E,HT,c,y0⟩:=hrel;have s:=y0.out;by_cases b1:k<F.length
 ·obtain⟨a',n2,hv,P⟩:=HF.out.bel c.out
  injection hv with v0 _ y1;obtain⟨b,pv,kv,f,ha,hf,y2,Z,c0,c1,c2,c3,c4,c5,c6,c7⟩:=P k b1;rw[<- v0] at ha;subst ha;rw[Nat.mul_comm 8 k] at c0 c1 c2 c3 c4 c5 c6 c7;have r0:=y2;obtain⟨pa,u,r0,p0⟩:=r0;subst r0;obtain⟨ka,w,r1⟩:=Z.slice;subst r1;have C:=b3.out f (aD hf);have Y:=f3.out f (aD hf)
  have w2:(decide (f.b.kd=30)&&Av N 1 f.b)=true:=by
   unfold Eu at Y;simp only[aC] at Y;simp only[aC];exact Y.2.2.1
  have n0:=(aC _ _).mp w2
  have t3:f.ps.length<=8:=by
   unfold Eu at Y;simp only[aC] at Y;exact of_decide_eq_true Y.2.1
  have o1:f.b.ks.length<=8796093022208:=by have K:=DX f.b;have h2:=C.bb;omega
  have HK:Hid (∀l,Below wr.heap.size wr l->Calls prog 34 #[.agg #[.int .i64 f.b.kd,.string ⟨f.b.nm.toArray⟩,.float .f64 f.b.x,.slice ka f.b.ks.length w,.complex .f64 f.b.z.1 f.b.z.2]] l fun e J=>e = .returned (.string ⟨(AX o f.b).toArray⟩)/\Below l.heap.size l J) :=
   fun l h=>a2.out f.b.wt f.b 1 _ l (aJ _) (of_decide_eq_true n0.1) n0.2 C.bb (Z.bel h) (HW.out.trans ((c.out.mono HW.out.size).trans (h.mono (aE HW.out.size c.out.size))))
  have i2:Hid (∀p∈f.ps,p.length<=8796093022208):=C.ps;have f1:Hid (∀i,i<f.ps.length->∃b p,pa=some ⟨b,0,none⟩/\f.ps[i]?=some p/\wr.cell? ⟨b,i,none⟩=some (.string ⟨p.toArray⟩)):=p0;have D:=aB hf;have s1:(AX o f.b).length<=8796093022208:=aE (BB o m0 f.b) C.bb;have o3:f.nm.length<=8796093022208:=C.nm;clear v0 y1 P y2 Z hf C p0 Y w2 n0;obtain⟨fn,B,fb,fz⟩:=f;have M:Hid (F[k]?=some ⟨fn,B,fb,fz⟩):=D;obtain⟨A,X⟩:∃A,AX o fb=A:=⟨_,rfl⟩;obtain⟨v3,f0⟩:∃v3,fb.kd=v3:=⟨_,rfl⟩;obtain⟨v4,h0⟩:∃v4,fb.nm.toArray=v4:=⟨_,rfl⟩;obtain⟨v5,i0⟩:∃v5,fb.x=v5:=⟨_,rfl⟩
  obtain⟨v6,j0⟩:∃v6,fb.ks.length=v6:=⟨_,rfl⟩;obtain⟨v7,k0⟩:∃v7,fb.z.1=v7:=⟨_,rfl⟩;obtain⟨v8,l0⟩:∃v8,fb.z.2=v8:=⟨_,rfl⟩;have V:Hid ((F.take (k+1)).flatMap (Hs o)=(F.take k).flatMap (Hs o)++([102,117,110,99,116,105,111,110,32]++fn++[40]++A3 [44] B++[41,32]++A++[10])):=by unfold Hid;rw[CR M.out,<- X];rfl
  simp only[X] at HK s1;simp only[f0,h0,i0,j0,k0,l0] at HK c2 c3 c4 c5 c6 o1;dsimp only at c0 c1 c7 i2 f1 t3 o3;clear D X f0 h0 i0 j0 k0 l0 M
  go_upto_region 25 with fail
  have d:=aB (Ad wr (.cells #[.string ⟨fn.toArray⟩,.slice pa B.length u,.int .i64 v3,.string ⟨v4⟩,.float .f64 v5,.slice ka v6 w,.complex .f64 v7 v8,.complex .f64 fz.1 fz.2] 68));have hq:=CellsA.new8 wr (.string ⟨fn.toArray⟩) (.slice pa B.length u) (.int .i64 v3) (.string ⟨v4⟩) (.float .f64 v5) (.slice ka v6 w) (.complex .f64 v7 v8) (.complex .f64 fz.1 fz.2) 68;replace s:=Az s (.cells #[.string ⟨fn.toArray⟩,.slice pa B.length u,.int .i64 v3,.string ⟨v4⟩,.float .f64 v5,.slice ka v6 w,.complex .f64 v7 v8,.complex .f64 fz.1 fz.2] 68);clear c0 c1 c2 c3 c4 c5 c6 c7;generalize (wr.alloc (.cells #[.string ⟨fn.toArray⟩,.slice pa B.length u,.int .i64 v3,.string ⟨v4⟩,.float .f64 v5,.slice ka v6 w,.complex .f64 v7 v8,.complex .f64 fz.1 fz.2] 68))=wa at d hq s ⊢
  obtain⟨q,eq⟩:∃q,wr.heap.size=q:=⟨_,rfl⟩;rw[eq] at hq ⊢;have Eq:=aB eq;have x1:=E.out;have k3:T2.size<=2000000000000000000:=(by omega);clear eq x1;obtain⟨q0,q1,q2,q3,q4,q5,q6,q7⟩:=hq;obtain⟨l1,y3⟩:∃l1,l1=gk:=⟨_,rfl⟩
  go_wp2_with fail
  go_loopg [3,8] B.length (fun g x0 i wx=>wx=wa/\∃(j:Nat) (T3:ByteArray),x0 = .string T3/\i = .int .i64 j/\j+g=B.length/\Hid (T3.size<=200000000000000000+100000000000000*k+8796093022300+8796093022300*j)/\Hid (T3.data.toList=v.flatMap (BQ o)++(F.take k).flatMap (Hs o)++([102,117,110,99,116,105,111,110,32]++fn++[40]++A3 [44] (B.take j))))
  case atStart =>
   refine⟨rfl,0,_,rfl,rfl,by omega,?_,?_⟩
   ·have K:=E.out
    unfold Hid;simp only[AQ];have e2:aA ⟨fn.toArray⟩=fn.length:=(by simp[aA]);have e3:aA ⟨#[40]⟩=1:=rfl;have e4:aA ⟨#[102,117,110,99,116,105,111,110,32]⟩=9:=rfl;omega
   unfold Hid;simp only[A1,HT.out];simp[A3]
  obtain⟨rfl,j,T3,rfl,rfl,d4,b0,k1⟩:=hrel;have i1:=b0.out;by_cases n1:j<B.length
  ·obtain⟨b2,p2,w3,d1,cp⟩:=f1.out j n1
   subst w3;have z3:=(d.out.cell (p:=⟨b2,j,none⟩) (World.block_lt_of_cell? _ _ cp)).trans cp;have g4:=i2.out p2 (aD d1)
   have g2:Hid (A3 [44] (B.take (j+1))=A3 [44] (B.take j)++(if j=0 then [] else [44])++p2):=by
    unfold Hid;rw[Kc _ _ _ n1];congr 1;rw[List.getElem?_eq_getElem n1] at d1;exact Option.some.inj d1
   have l3:T3.size<=2100000000000000000:=(by omega);clear cp d1 i1;by_cases b4:0<j
   ·go_wp2
    go_roundg (gk-1)
    case measure=>omega
    refine⟨rfl,j+1,_,rfl,congrArg (aF .i64) (by omega),by omega,?_,?_⟩
    ·have K:=b0.out
     unfold Hid;simp only[AQ];have e2:aA ⟨p2.toArray⟩=p2.length:=(by simp[aA]);have e3:aA ⟨#[44]⟩=1:=rfl;omega
    unfold Hid;rw[g2.out];simp only[A1,k1.out];rw[if_neg (by omega)];simp
   go_wp2
   go_roundg (gk-1)
   case measure=>omega
   refine⟨rfl,j+1,_,rfl,congrArg (aF .i64) (by omega),by omega,?_,?_⟩
   ·have K:=b0.out
    unfold Hid;simp only[AQ];have e2:aA ⟨p2.toArray⟩=p2.length:=(by simp[aA]);omega
   unfold Hid;rw[g2.out];simp only[A1,k1.out];rw[if_pos (by omega)];simp
  obtain rfl:j=B.length:=by omega
  have g3:Hid (T3.data.toList=v.flatMap (BQ o)++(F.take k).flatMap (Hs o)++([102,117,110,99,116,105,111,110,32]++fn++[40]++A3 [44] B)):=by
   have:=k1.out
   rwa [aG] at this
  have l3:T3.size<=2100000000000000000:=(by omega);clear i1
  go_wp2_with (go_at_call 34;refine(HK.out _ d.out).mono ?_;rintro e w5 ⟨rfl,a⟩;replace d:=aB (d.out.trans (a.mono d.out.size));replace s:=Aa s a;clear a)
  go_roundg (l1-1)
  case measure=>omega
  refine⟨k+1,_,rfl,congrArg (aF .i64) (by omega),by omega,?_,?_,aB (c.out.trans (d.out.mono c.out.size)),aB s⟩
  ·have K:=b0.out
   unfold Hid;simp only[AQ];have e2:aA ⟨A.toArray⟩=A.length:=(by simp[aA]);have e3:aA ⟨#[10]⟩=1:=rfl;have e4:aA ⟨#[41,32]⟩=2:=rfl;omega
  unfold Hid;rw[V.out];simp only[A1,g3.out];simp
 obtain rfl:k=F.length:=by omega
 have i3:Hid (T2.data.toList=OR o v F):=by
  have:=HT.out
  rwa [aG] at this
 go_wp2;go_ret;exact⟨congrArg (fun x=>Ending.returned (.string x)) (BK i3.out),c.out⟩
end Go.Proofs.YtipfpohlnhmlpaaGreatDoor
