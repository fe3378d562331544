/- Xr -/
import Derived.Test.YtipfpohlnhmlpaaGreatDoorGu
import Derived.Test.YtipfpohlnhmlpaaGreatDoorPc
import Derived.Test.YtipfpohlnhmlpaaGreatDoorNl
import Derived.Deep.DeepCutAuto
import Derived.Deep.CutBlock
set_option maxRecDepth 100000
set_option maxHeartbeats 8000000
open Go.Lib renaming hid->aA
open List renaming toArray->aB,cons->aC
namespace Go.Proofs.YtipfpohlnhmlpaaGreatDoor
open Go.Proofs.Tryz
open Go.RowKit
theorem C8.drewN {w:World} {b:Nat} {a:Bool} {s:DS} (h:C8 w b a s) (n:Nat):C8 (w.drewN n) b a s:=by
 obtain⟨f,c,d⟩:=h;exact⟨f,c.drewN n,d⟩
def Eg (s:DS) (e:Int):Nat×Int×Bool :=
 if 2047<=e+1023 then (0,1024,true)
 else
  let m:=QN (DD s 53)
  if m=9007199254740992 then (if 2047<=e+1+1023 then (0,1024,true) else (4503599627370496,e+1,false))
  else (m,if bits .and .u64 (m:Int) 4503599627370496=0 then -1023 else e,false)
def Hr (s:DS) (e:Int):Nat×Int×Bool:=if e-1 < -1022 then Eg (FX s (-1022-(e-1)).toNat) (-1022) else Eg s (e-1)
def Bj (s:DS):Nat×Int×Bool :=
 if s.nd=0 then (0,-1023,false) else if 310<s.dp then (0,1024,true) else if s.dp < -330 then (0,-1023,false)
 else Hr (OB (MT (JI (JD s) s 0).1) (JI (JD s) s 0).1 (JI (JD s) s 0).2).1 (OB (MT (JI (JD s) s 0).1) (JI (JD s) s 0).1 (JI (JD s) s 0).2).2
def G6 (a:Bool) (m:Nat) (e:Int):Int :=
 if a=true then bits .or .u64 (bits .or .u64 (bits .and .u64 (m:Int) 4503599627370495) ((e+1023)*4503599627370496)) 9223372036854775808
 else bits .or .u64 (bits .and .u64 (m:Int) 4503599627370495) ((e+1023)*4503599627370496)
theorem T4 (a:Bool) (m:Nat) (e:Int):0<=G6 a m e/\G6 a m e<18446744073709551616:=by
 unfold G6;split<;>exact Tx ..
theorem Oq (x:Int) (a:0<=x) (b:x<=2047):bits .and .i64 x 2047=x:=by
 have h:∀s:Fin 2048,bits .and .i64 ((s:Nat):Int) 2047=(s:Nat):=(by decide +kernel);have:=h ⟨x.toNat,by omega⟩
 rwa [show ((x.toNat:Nat):Int)=x by omega] at this
def JF (w:World) (b:Nat) (I:Bool) (R:Nat×Int×Bool) (F:Nat) (H:Act) (w':World):Prop :=
 Ae b w w'/\Hid (∃s,C8 w' b I s)/\∃(m:Nat) (e:Int) (G:Bool),((F=1/\R=(0,1024,true))\/(F=0/\R=(m,e,G)/\m<18446744073709551616 /\ -1023<=e/\e<=1024))/\∃(x y z A B g5 g6 C D E u v:Xc),H={ tmps := #[.pointer (some ⟨b,0,none⟩),.pointer (some ⟨13,0,none⟩),x.a,x.b,.int .u64 0,.bool G,.int .i64 e,.int .u64 m,x.c,x.d,x.e,x.f,x.g,x.h,x.i,x.j,x.k,x.l,x.m,x.n,x.o,x.p,x.q,x.r,x.s,x.t,y.a,y.b,y.c,y.d,y.e,y.f,y.g,y.h,y.i,y.j,y.k,y.l,y.m,y.n,y.o,y.p,y.q,y.r,y.s,y.t,z.a,z.b,z.c,z.d,z.e,z.f,z.g,z.h,z.i,z.j,z.k,z.l,z.m,z.n,z.o,z.p,z.q,z.r,z.s,z.t,A.a,A.b,A.c,A.d,A.e,A.f,A.g,A.h,A.i,A.j,A.k,A.l,A.m,A.n,A.o,A.p,A.q,A.r,A.s,A.t,B.a,B.b,B.c,B.d,B.e,B.f,B.g,B.h,B.i,B.j,B.k,B.l,B.m,B.n,B.o,B.p,B.q,B.r,B.s,B.t,g5.a,g5.b,g5.c,g5.d,g5.e,g5.f,g5.g,g5.h,g5.i,g5.j,g5.k,g5.l,g5.m,g5.n,g5.o,g5.p,g5.q,g5.r,g5.s,g5.t,g6.a,g6.b,g6.c,g6.d,g6.e,g6.f,g6.g,g6.h,g6.i,g6.j,g6.k,g6.l,g6.m,g6.n,g6.o,g6.p,g6.q,g6.r,g6.s,g6.t,C.a,C.b,C.c,C.d,C.e,C.f,C.g,C.h,C.i,C.j,C.k,C.l,C.m,C.n,C.o,C.p,C.q,C.r,C.s,C.t,D.a,D.b,D.c,D.d,D.e,D.f,D.g,D.h,D.i,D.j,D.k,D.l,D.m,D.n,D.o,D.p,D.q,D.r,D.s,D.t,E.a,E.b,E.c,E.d,E.e,E.f,E.g,E.h,E.i,E.j,E.k,E.l,E.m,E.n,E.o,E.p,E.q,E.r,E.s,E.t,u.a,u.b,u.c,u.d,u.e,u.f,u.g,u.h,u.i,u.j,u.k,u.l,u.m,u.n,u.o,u.p,u.q,u.r,u.s,u.t,v.a,v.b,v.c,v.d,v.e,v.f,v.g,v.h,v.i,v.j,v.k,v.l,v.m,v.n,v.o,v.p,v.q],defers:=[] }
theorem JJ (w:World) (b:Nat) (H:Bool) (s:DS) (hU:Ho w b) (_hn:s.nd<=800) (j3:s.nd=0\/s.ok) (hD:C8 w b H s) (z3 : -1152921504606846976<=s.dp) (a4:s.dp<=1152921504606846976) :
  Calls prog 109 #[.pointer (some ⟨b,0,none⟩),.pointer (some ⟨13,0,none⟩)] w fun e w'=>e = .returned (.tuple #[.int .u64 (G6 H (Bj s).1 (Bj s).2.1),.bool (Bj s).2.2])/\Ae b w w':=by
 have HD:=aA hD;have K:=aA hU;obtain⟨f,hF,v2⟩:=hD;have p0:=hF.nd;have r0:=hF.dp;clear hF v2 hU
 go_in
 go_wp2;refine GN (JF w b H (Bj s)) (fun lb _ _=>if lb=1 then 1 else 0) rfl rfl (fun l a w h=>?hJ) ?pass0 ?pass1 ?first
 case hJ =>
  obtain⟨_,_,m,e,ov,h,_⟩:=h;rcases h with⟨h,_⟩ | ⟨h,_⟩
  ·exact .inr h
  exact .inl h
 case pass0 =>
  intro a w' h;obtain⟨hB,HS,m,e,ov,hR,g0,g1,g2,g3,g4,g5,g6,g7,g8,g9,j2,l2,rfl⟩:=h;have Q:=(K.out.on hB).laid;have d0:=Q.lt.le.lf.mb;have d1:=Q.fi.1;have d2:=Q.fi.2
  obtain⟨hR,hm,w2,x2⟩:Bj s=(m,e,ov)/\m<18446744073709551616 /\ -1023<=e/\e<=1024:=by
   rcases hR with⟨h,_⟩ | ⟨_,h⟩
   ·exact absurd h (by decide)
   exact h
  have i3:w'.cell? ⟨b,802,none⟩=some (.bool H):=by obtain⟨s',f',h1,_⟩:=HS.out;exact h1.ng
  have ha:=Oq (e+1023) (by omega) (by omega);have HR:=aA hR;have HB:=aA hB;clear Q hR hB HS p0 r0;cases H
  all_goals
   go_wp2;go_quiet (fail);go_wp2
  ·go_ret2
   exact⟨by rw[HR.out];rfl,HB.out.drewN _⟩
  go_quiet (fail);go_wp2
  go_ret2
  exact⟨by rw[HR.out];rfl,HB.out.drewN _⟩
 case pass1 =>
  intro a w' h;obtain⟨hB,HS,m,e,ov,hR,g0,g1,g2,g3,g4,g5,g6,g7,g8,g9,j2,l2,rfl⟩:=h;have Q:=(K.out.on hB).laid;have d0:=Q.lt.le.lf.mb;have d1:=Q.fi.1;have d2:=Q.fi.2
  have hR:Bj s=(0,1024,true):=by
   rcases hR with⟨_,h⟩ | ⟨h,_⟩
   ·exact h
   exact absurd h (by decide)
  have HR:=aA hR;have HB:=aA hB;have i3:w'.cell? ⟨b,802,none⟩=some (.bool H):=by obtain⟨s',f',h1,_⟩:=HS.out;exact h1.ng
  have ha:=Oq 2047 (by omega) (by omega);clear Q hR hB HS p0 r0;cases H
  all_goals
   go_wp2;go_quiet (fail);go_wp2;go_step3;go_wp2;go_quiet (fail);go_wp2
  ·go_ret2
   exact⟨by rw[HR.out];rfl,HB.out.drewN _⟩
  go_quiet (fail);go_wp2
  go_ret2
  exact⟨by rw[HR.out];rfl,HB.out.drewN _⟩
 intro pass0 pass1;clear pass0 pass1;have Q:=K.out.laid;have d0:=Q.lt.le.lf.mb;have d1:=Q.fi.1;have d2:=Q.fi.2;have z0:=aA (Ae.refl b w);have n1:Hid (∃s,C8 w b H s):=⟨s,HD.out⟩;by_cases h0:s.nd=0
 ·have A:Bj s=(0,-1023,false):=by unfold Bj;rw[if_pos h0]
  have S:=aA A;have b0:((s.nd:Int)==0)=true:=beq_iff_eq.2 (by omega);clear A Q;go_wp2;go_step3;refine⟨z0.out,n1,0,-1023,false,.inr ⟨rfl,S.out,by omega,by omega,by omega⟩,?_⟩
  (refine⟨?_,?_,?_,?_,?_,?_,?_,?_,?_,?_,?_,?_,?_⟩;(iterate 11 (refine⟨?_,?_,?_,?_,?_,?_,?_,?_,?_,?_,?_,?_,?_,?_,?_,?_,?_,?_,?_,?_⟩;rotate_left 20));refine⟨?_,?_,?_,?_,?_,?_,?_,?_,?_,?_,?_,?_,?_,?_,?_,?_,?_,undef,undef,undef⟩;rotate_left 17;refine @congrArg _ _ _ _ (fun x=>Act.mk (aB x) []) ?_;dsimp only;repeat (refine congr (congrArg aC (?_:_=_)) ?_;· exact rfl);exact rfl)
 have f2:s.ok:=j3.resolve_left h0;have b0:((s.nd:Int)==0)=false:=beq_eq_false_iff_ne.2 (by omega);by_cases l0:310<s.dp
 ·have A:Bj s=(0,1024,true):=by unfold Bj;rw[if_neg h0,if_pos l0]
  have S:=aA A;clear A Q;go_wp2;go_step3;refine⟨z0.out,n1,0,0,false,.inl ⟨rfl,S.out⟩,?_⟩
  (refine⟨?_,?_,?_,?_,?_,?_,?_,?_,?_,?_,?_,?_,?_⟩;(iterate 11 (refine⟨?_,?_,?_,?_,?_,?_,?_,?_,?_,?_,?_,?_,?_,?_,?_,?_,?_,?_,?_,?_⟩;rotate_left 20));refine⟨?_,?_,?_,?_,?_,?_,?_,?_,?_,?_,?_,?_,?_,?_,?_,?_,?_,undef,undef,undef⟩;rotate_left 17;refine @congrArg _ _ _ _ (fun x=>Act.mk (aB x) []) ?_;dsimp only;repeat (refine congr (congrArg aC (?_:_=_)) ?_;· exact rfl);exact rfl)
 by_cases t0:s.dp < -330
 ·have A:Bj s=(0,-1023,false):=by unfold Bj;rw[if_neg h0,if_neg l0,if_pos t0]
  have S:=aA A;clear A Q;go_wp2;go_step3;refine⟨z0.out,n1,0,-1023,false,.inr ⟨rfl,S.out,by omega,by omega,by omega⟩,?_⟩
  (refine⟨?_,?_,?_,?_,?_,?_,?_,?_,?_,?_,?_,?_,?_⟩;(iterate 11 (refine⟨?_,?_,?_,?_,?_,?_,?_,?_,?_,?_,?_,?_,?_,?_,?_,?_,?_,?_,?_,?_⟩;rotate_left 20));refine⟨?_,?_,?_,?_,?_,?_,?_,?_,?_,?_,?_,?_,?_,?_,?_,?_,?_,undef,undef,undef⟩;rotate_left 17;refine @congrArg _ _ _ _ (fun x=>Act.mk (aB x) []) ?_;dsimp only;repeat (refine congr (congrArg aC (?_:_=_)) ?_;· exact rfl);exact rfl)
 have A:Bj s=Hr (OB (MT (JI (JD s) s 0).1) (JI (JD s) s 0).1 (JI (JD s) s 0).2).1 (OB (MT (JI (JD s) s 0).1) (JI (JD s) s 0).1 (JI (JD s) s 0).2).2:=by
  unfold Bj;rw[if_neg h0,if_neg l0,if_neg t0]
 have S:=aA A;have i2:=aA f2;obtain⟨B,o,q3,p1,p2⟩:=Q.pt;have o3:=aA p2;have n3:=aA p1;have x0:JD s<=621:=by unfold JD;split<;>omega
 clear A Q p2 p1;go_wp2
 go_loopg [6] (JD s) (fun g ex wr=>∃(s1:DS) (e1:Int),ex = .int .i64 e1/\JD s1<=g/\g<=621/\0<=e1/\e1+27*g<=16767 /\ -330<=s1.dp/\s1.dp<=310/\Hid s1.ok/\Hid (JI (JD s) s 0=JI g s1 e1)/\Hid (C8 wr b H s1)/\Hid (Ae b w wr))
 case atStart=>exact⟨s,0,rfl,Nat.le_refl _,x0,by omega,by omega,by omega,by omega,i2,rfl,HD,z0⟩
 obtain⟨s1,e1,rfl,hg,a3,w2,x2,o2,q2,P,l1,a1,n0⟩:=hrel;clear x0 p0 r0 d0 d1 d2 l0 t0 b0 h0;have v1:=(K.out.on n0.out).laid;have c0:wr.cell? ⟨b,801,none⟩=some (.int .i64 s1.dp):=by obtain⟨f',h1,_⟩:=a1.out;exact h1.dp
 by_cases y0:0<s1.dp
 ·obtain⟨d,hd⟩:∃d:Nat,s1.dp=d:=⟨s1.dp.toNat,by omega⟩
  obtain⟨n,U⟩:∃n,Dt d=n:=⟨_,rfl⟩;have a0:=K7 d;rw[U] at a0;have G:=Vu P.out y0;rw[show s1.dp.toNat=d by omega,U] at G;obtain⟨g',rfl⟩:∃g',gk=g'+1:=⟨gk-1,by omega⟩
  have R:Hid (JI (JD s) s 0=JI g' (E6 s1 n) (e1+n)):=by
   unfold Hid;rw[l1.out,JI,if_pos y0,show s1.dp.toNat=d by omega,U]
  have n2:=GH P.out n;have k:=aA (E7 P.out n).1;have hC:=fun m=>Jh (wr.drewN m) b n H s1 P.out a0.1 (by omega) (a1.out.drewN m) (by omega) (by omega);rw[FX,if_neg (by omega)] at hC;have HC:=aA hC;obtain⟨B',o',a2,p1,p2⟩:=v1.pt;clear hC v1;rw[hd] at c0;by_cases h9:9<=d
  ·have e0:(n:Int)=27:=by rw[<- U,Dt,if_pos h9];rfl
   have v:=HC.out;rw[e0] at v;have HC:=aA v;have HE:=aA e0;clear p2 U v e0;go_wp2;go_quiet (fail)
   go_wp2_with (go_at_call 134;refine(HC.out _).mono ?_;rintro e w' ⟨rfl,t1,q1⟩)
   go_roundg g'
   case measure=>omega
   exact⟨E6 s1 n,e1+n,by rw[HE.out],by omega,by omega,by omega,by omega,by omega,by omega,k,R,t1,(n0.out.drewN _).trans q1⟩
  have p3:=p2 d (by omega);have s0:Mt.getD d 0=n:=(by rw[<- U,Dt,if_neg h9]);rw[s0] at p3;clear p2 U s0;go_wp2;go_quiet (fail);go_wp2;go_quiet (fail)
  go_wp2_with (go_at_call 134;refine(HC.out _).mono ?_;rintro e w' ⟨rfl,t1,q1⟩)
  go_roundg g'
  case measure=>omega
  exact⟨E6 s1 n,e1+n,by go_num,by omega,by omega,by omega,by omega,by omega,by omega,k,R,t1,(n0.out.drewN _).trans q1⟩
 have R:Hid (JI (JD s) s 0=(s1,e1)):=by unfold Hid;rw[l1.out,Ru _ _ _ y0]
 have z1:Hid (Bj s=Hr (OB (MT s1) s1 e1).1 (OB (MT s1) s1 e1).2):=by unfold Hid;rw[S.out,R.out]
 clear S R l1 hg v1
 go_upto_block 2 with(fail)
 go_cut [6] (fun ex wx=>∃(r:DS) (L:Int),ex = .int .i64 L /\ -200000<=L/\L<=16767 /\ -330<=r.dp/\r.dp<=310/\Hid r.ok/\Hid (Bj s=Hr r L)/\Hid (C8 wx b H r)/\Hid (Ae b w wx))
 case first =>
  have x0:MT s1<=6620:=by unfold MT;split<;>(try split)<;>omega
  go_wp2
  go_loopg [6] (MT s1) (fun g ex wr=>∃(r:DS) (L:Int),ex = .int .i64 L/\MT r<=g/\g<=6620 /\ -178740+27*(g:Int)<=L/\L<=16767 /\ -330<=r.dp/\r.dp<=310/\Hid r.ok/\Hid (OB (MT s1) s1 e1=OB g r L)/\Hid (C8 wr b H r)/\Hid (Ae b w wr))
  case atStart=>exact⟨s1,e1,rfl,Nat.le_refl _,x0,by omega,by omega,o2,q2,P,rfl,a1,n0⟩
  clear x0 c0;obtain⟨r,L,rfl,hg,a3,y2,z2,x1,y1,k,R,J,p⟩:=hrel;have v0:=K.out.on p.out;have Y:=v0.laid;have c0:wr.cell? ⟨b,801,none⟩=some (.int .i64 r.dp):=by obtain⟨f',h1,_⟩:=J.out;exact h1.dp
  have c3:=K1 k.out
  have q0:wr.cell? ⟨b,0,none⟩=some (.int .u8 ((r.lead:Int)+48)):=by
   have h:=Q9 J.out k.out.2.1 (i:=0) k.out.1
   have e:r.M/10^(r.nd-1-0)%10=r.lead:=by
    show r.lead%10=r.lead;omega
   rw[e] at h;exact h
  by_cases hc:IA r
  ·obtain⟨d,hd⟩:∃d:Nat,r.dp = -(d:Int):=⟨(-r.dp).toNat,by rcases hc with h | h<;>omega⟩
   obtain⟨n,U⟩:∃n,Dt d=n:=⟨_,rfl⟩;have a0:=K7 d;rw[U] at a0;have G:=Vv k.out hc;rw[show (-r.dp).toNat=d by omega,U] at G;obtain⟨g',rfl⟩:∃g',gk=g'+1:=⟨gk-1,by omega⟩
   have N:Hid (OB (MT s1) s1 e1=OB g' (Dd r n) (L-n)):=by
    unfold Hid;rw[R.out,OB,if_pos hc,show (-r.dp).toNat=d by omega,U]
   have n2:=Im k.out n;have j:=aA (D' k.out n).1;have hC:=fun m=>Cj (wr.drewN m) b n H r (K.out.on (p.out.drewN m)) k.out a0.1 (by omega) (J.out.drewN m) (by omega) (by omega);rw[DD,if_neg (by omega)] at hC;have HC:=aA hC;obtain⟨B',o',a2,p1,p2⟩:=Y.pt;have w1:(d≠0/\0<(d:Int))\/(d=0/\(r.lead:Int)+48<53):=by rcases hc with h | h<;>omega
   rw[hd] at c0;clear hC Y v0 hc;rcases w1 with⟨x3,v3⟩ | ⟨rfl,y3⟩
   ·have bd:((d:Int)==0)=false:=beq_eq_false_iff_ne.2 (by omega)
    by_cases h9:9<=d
    ·have e0:(n:Int)=27:=by rw[<- U,Dt,if_pos h9];rfl
     have v:=HC.out;rw[e0] at v;have HC:=aA v;have HE:=aA e0;clear p2 U v e0;go_wp2;go_quiet (fail)
     go_wp2_with (go_at_call 134;refine(HC.out _).mono ?_;rintro e w' ⟨rfl,E,y⟩)
     go_roundg g'
     case measure=>omega
     exact⟨Dd r n,L-n,by rw[HE.out],by omega,by omega,by omega,by omega,by omega,by omega,j,N,E,(p.out.drewN _).trans y⟩
    have p3:=p2 d (by omega);have s0:Mt.getD d 0=n:=(by rw[<- U,Dt,if_neg h9]);rw[s0] at p3;clear p2 U s0;go_wp2;go_quiet (fail);go_wp2;go_quiet (fail)
    go_wp2_with (go_at_call 134;refine(HC.out _).mono ?_;rintro e w' ⟨rfl,E,y⟩)
    go_roundg g'
    case measure=>omega
    exact⟨Dd r n,L-n,by go_num,by omega,by omega,by omega,by omega,by omega,by omega,j,N,E,(p.out.drewN _).trans y⟩
   have p3:=p2 0 (by omega);have o1:(n:Int)=1:=by rw[<- U];rfl
   have v:=HC.out;rw[o1] at v;have HC:=aA v;have HE:=aA o1;have p4:wr.cell? ⟨B',o',none⟩=some (.int .i64 1):=p3;clear p2 U p3 v o1;go_wp2;go_quiet (fail);go_wp2;go_quiet (fail)
   go_wp2_with (go_at_call 134;refine(HC.out _).mono ?_;rintro e w' ⟨rfl,E,y⟩)
   go_roundg g'
   case measure=>omega
   exact⟨Dd r n,L-n,by rw[HE.out],by omega,by omega,by omega,by omega,by omega,by omega,j,N,E,(p.out.drewN _).trans y⟩
  have N:Hid (Bj s=Hr r L):=by unfold Hid;rw[z1.out,R.out,Rv _ _ _ hc]
  have w1:0<r.dp\/(r.dp=0/\¬ (r.lead:Int)+48<53):=by
   unfold IA at hc;omega
  clear hc Y v0 hg;rcases w1 with h1 | ⟨h1,h2⟩
  ·have bd:(r.dp==0)=false:=beq_eq_false_iff_ne.2 (by omega)
   go_wp2;go_meet;exact⟨r,L,rfl,by omega,by omega,x1,y1,k,N,J,p⟩
  rw[h1] at c0;go_wp2;go_meet;exact⟨r,L,rfl,by omega,by omega,x1,y1,k,N,J,p⟩
 obtain⟨r,L,rfl,y2,z2,x1,y1,k,N,J,p⟩:=hcut;have v0:=K.out.on p.out;have Y:=v0.laid;have d0:=Y.lt.le.lf.mb;have d1:=Y.fi.1;have d2:=Y.fi.2;clear Y P a1 n0;by_cases w0:L-1 < -1022
 ·obtain⟨n,hn⟩:∃n:Nat,-1022-(L-1)=n:=⟨(-1022-(L-1)).toNat,by omega⟩
  have f3:1<=n:=(by omega);obtain⟨C,f1⟩:∃C,FX r n=C:=⟨_,rfl⟩;have h3:=Ug n r k.out;rw[f1] at h3;have j:=aA h3.1;have r2:=h3.2.1;have t2:=h3.2.2;obtain⟨D,c1⟩:∃D:Int,D = -1022:=⟨_,rfl⟩
  have b1:Hid (Bj s=Eg C D):=by
   unfold Hid;rw[N.out,Hr,if_pos w0,show (-1022-(L-1)).toNat=n by omega,f1,c1]
  have m3:L-1+(n:Int)=D:=(by omega);have b3:D <= -1022 /\ -1022<=D:=(by omega);have r1:=Jh wc b n H r k.out f3 (by omega) J.out (by omega) (by omega);rw[f1] at r1;have i1:=aA r1;clear h3 c1 f1 N r1;have k3 : -400000<=C.dp:=(by omega);have l3:C.dp<=400000:=(by omega);have b2:=fun(W:World) (hD:C8 W b H (DD C 53))=>I9 W b H (DD C 53) (GG 53 C j.out).1.2.1 hD (Int.le_trans (show (-1000000000:Int)<=C.dp by omega) (GG 53 C j.out).2.1) (Int.le_trans (GG 53 C j.out).2.2 (show C.dp+((53:Nat):Int)<=1000000000 by omega));have j1:=aA b2;clear b2 r2 t2
  by_cases ho:2047<=D+1023
  ·exact absurd ho (by omega)
  have d3:¬ (2047:Int)<=D+1023:=ho;have j0:=GG 53 C j.out;have T:=aA j0.1;obtain⟨m,em⟩:∃m,QN (DD C 53)=m:=⟨_,rfl⟩;have G:m<18446744073709551616:=by rw[<- em];unfold QN;split<;>omega
  have HM:=aA em;have O:=b1.out;rw[Eg,if_neg ho,em] at O;have I:=aA O;clear j0 em O ho;by_cases hm:m=9007199254740992
  ·have bm:((m:Int)==9007199254740992)=true:=beq_iff_eq.2 (by omega)
   have e3:(m:Int)/2=(4503599627370496:Nat):=(by omega);by_cases i0:2047<=D+1+1023
   ·exact absurd i0 (by omega)
   have q:Hid (Bj s=(4503599627370496,D+1,false)):=by have h:=I.out;simp only[hm,if_true] at h;rw[if_neg i0] at h;exact h
   have c2:¬ (2047:Int)<=D+1+1023:=i0;have bz:(bits .and .u64 4503599627370496 4503599627370496==0)=false:=(by decide +kernel);clear hm
   go_wp2_with (go_at_call 134;refine i1.out.mono ?_;rintro e w3 ⟨rfl,E,y⟩;have F:=(K.out.on (p.out.trans y)).laid;have k0:=F.lt.le.lf.mb;have k1:=F.fi.1;have k2:=F.fi.2;clear F)
   go_quiet (fail);have u:=p.out.trans y;have Z:=fun m=>K.out.on (u.drewN m);have X:=fun m=>Cj (w3.drewN m) b 53 H C (Z m) j.out (by omega) (by omega) (E.drewN m) (by omega) (by omega);have v:=aA X;have o0:=aA (fun m=>u.drewN m);clear X Z u E y
   go_wp2_with (first | (go_at_call 134;refine(v.out _).mono ?_;rintro e w4 ⟨rfl,t,z⟩;have V:=(o0.out _).trans z;have c:=(K.out.on V).laid;have m0:=c.lt.le.lf.mb;have m1:=c.fi.1;have m2:=c.fi.2;clear c) | (go_at_call 135;refine(j1.out _ t).mono ?_;rw[HM.out];rintro e w' ⟨rfl,rfl⟩))
   go_quiet (fail);go_wp2;go_step3;refine⟨V.drewN _,aA ⟨_,t.drewN _⟩,4503599627370496,D+1,false,.inr ⟨rfl,q.out,by omega,by omega,by omega⟩,?_⟩
   (refine⟨?_,?_,?_,?_,?_,?_,?_,?_,?_,?_,?_,?_,?_⟩;(iterate 11 (refine⟨?_,?_,?_,?_,?_,?_,?_,?_,?_,?_,?_,?_,?_,?_,?_,?_,?_,?_,?_,?_⟩;rotate_left 20));refine⟨?_,?_,?_,?_,?_,?_,?_,?_,?_,?_,?_,?_,?_,?_,?_,?_,?_,undef,undef,undef⟩;rotate_left 17;refine @congrArg _ _ _ _ (fun x=>Act.mk (aB x) []) ?_;dsimp only;repeat (refine congr (congrArg aC (?_:_=_)) ?_;· exact rfl);exact rfl)
  have bm:((m:Int)==9007199254740992)=false:=beq_eq_false_iff_ne.2 (by omega)
  cases bz:(bits .and .u64 (m:Int) 4503599627370496==0) with
  | true =>
    have q:Hid (Bj s=(m,-1023,false)):=by have h:=I.out;simp only[hm,if_false] at h;rw[if_pos (beq_iff_eq.1 bz)] at h;exact h
    clear hm
    go_wp2_with (go_at_call 134;refine i1.out.mono ?_;rintro e w3 ⟨rfl,E,y⟩;have F:=(K.out.on (p.out.trans y)).laid;have k0:=F.lt.le.lf.mb;have k1:=F.fi.1;have k2:=F.fi.2;clear F)
    go_quiet (fail);have u:=p.out.trans y;have Z:=fun m=>K.out.on (u.drewN m);have X:=fun m=>Cj (w3.drewN m) b 53 H C (Z m) j.out (by omega) (by omega) (E.drewN m) (by omega) (by omega);have v:=aA X;have o0:=aA (fun m=>u.drewN m);clear X Z u E y
    go_wp2_with (first | (go_at_call 134;refine(v.out _).mono ?_;rintro e w4 ⟨rfl,t,z⟩;have V:=(o0.out _).trans z;have c:=(K.out.on V).laid;have m0:=c.lt.le.lf.mb;have m1:=c.fi.1;have m2:=c.fi.2;clear c) | (go_at_call 135;refine(j1.out _ t).mono ?_;rw[HM.out];rintro e w' ⟨rfl,rfl⟩))
    go_step3;refine⟨V,aA ⟨_,t⟩,m,-1023,false,.inr ⟨rfl,q.out,G,by omega,by omega⟩,?_⟩
    (refine⟨?_,?_,?_,?_,?_,?_,?_,?_,?_,?_,?_,?_,?_⟩;(iterate 11 (refine⟨?_,?_,?_,?_,?_,?_,?_,?_,?_,?_,?_,?_,?_,?_,?_,?_,?_,?_,?_,?_⟩;rotate_left 20));refine⟨?_,?_,?_,?_,?_,?_,?_,?_,?_,?_,?_,?_,?_,?_,?_,?_,?_,undef,undef,undef⟩;rotate_left 17;refine @congrArg _ _ _ _ (fun x=>Act.mk (aB x) []) ?_;dsimp only;repeat (refine congr (congrArg aC (?_:_=_)) ?_;· exact rfl);exact rfl)
  | false =>
    have q:Hid (Bj s=(m,D,false)):=by have h:=I.out;simp only[hm,if_false] at h;rw[if_neg (beq_eq_false_iff_ne.1 bz)] at h;exact h
    clear hm
    go_wp2_with (go_at_call 134;refine i1.out.mono ?_;rintro e w3 ⟨rfl,E,y⟩;have F:=(K.out.on (p.out.trans y)).laid;have k0:=F.lt.le.lf.mb;have k1:=F.fi.1;have k2:=F.fi.2;clear F)
    go_quiet (fail);have u:=p.out.trans y;have Z:=fun m=>K.out.on (u.drewN m);have X:=fun m=>Cj (w3.drewN m) b 53 H C (Z m) j.out (by omega) (by omega) (E.drewN m) (by omega) (by omega);have v:=aA X;have o0:=aA (fun m=>u.drewN m);clear X Z u E y
    go_wp2_with (first | (go_at_call 134;refine(v.out _).mono ?_;rintro e w4 ⟨rfl,t,z⟩;have V:=(o0.out _).trans z;have c:=(K.out.on V).laid;have m0:=c.lt.le.lf.mb;have m1:=c.fi.1;have m2:=c.fi.2;clear c) | (go_at_call 135;refine(j1.out _ t).mono ?_;rw[HM.out];rintro e w' ⟨rfl,rfl⟩))
    go_step3;refine⟨V,aA ⟨_,t⟩,m,D,false,.inr ⟨rfl,q.out,G,by omega,by omega⟩,?_⟩
    (refine⟨?_,?_,?_,?_,?_,?_,?_,?_,?_,?_,?_,?_,?_⟩;(iterate 11 (refine⟨?_,?_,?_,?_,?_,?_,?_,?_,?_,?_,?_,?_,?_,?_,?_,?_,?_,?_,?_,?_⟩;rotate_left 20));refine⟨?_,?_,?_,?_,?_,?_,?_,?_,?_,?_,?_,?_,?_,?_,?_,?_,?_,undef,undef,undef⟩;rotate_left 17;refine @congrArg _ _ _ _ (fun x=>Act.mk (aB x) []) ?_;dsimp only;repeat (refine congr (congrArg aC (?_:_=_)) ?_;· exact rfl);exact rfl)
 obtain⟨D,c1⟩:∃D:Int,L-1=D:=⟨_,rfl⟩;have b3:¬ D < -1022:=(by omega);have b1:Hid (Bj s=Eg r D):=by unfold Hid;rw[N.out,Hr,if_neg w0,c1]
 obtain⟨C,rfl⟩:∃C,C=r:=⟨_,rfl⟩;have j:=k;clear w0 N;by_cases ho:2047<=D+1023
 ·have q:Hid (Bj s=(0,1024,true)):=by unfold Hid;rw[b1.out,Eg,if_pos ho]
  go_wp2;go_quiet (fail);go_wp2;go_step3;refine⟨p.out.drewN _,aA ⟨_,J.out.drewN _⟩,0,D,false,.inl ⟨rfl,q.out⟩,?_⟩
  (refine⟨?_,?_,?_,?_,?_,?_,?_,?_,?_,?_,?_,?_,?_⟩;(iterate 11 (refine⟨?_,?_,?_,?_,?_,?_,?_,?_,?_,?_,?_,?_,?_,?_,?_,?_,?_,?_,?_,?_⟩;rotate_left 20));refine⟨?_,?_,?_,?_,?_,?_,?_,?_,?_,?_,?_,?_,?_,?_,?_,?_,?_,undef,undef,undef⟩;rotate_left 17;refine @congrArg _ _ _ _ (fun x=>Act.mk (aB x) []) ?_;dsimp only;repeat (refine congr (congrArg aC (?_:_=_)) ?_;· exact rfl);exact rfl)
 have d3:¬ (2047:Int)<=D+1023:=ho;have j0:=GG 53 C j.out;have T:=aA j0.1;have r3:=j0.2.1;have t3:=j0.2.2;obtain⟨m,em⟩:∃m,QN (DD C 53)=m:=⟨_,rfl⟩;have G:m<18446744073709551616:=by rw[<- em];unfold QN;split<;>omega
 have HM:=aA em;have O:=b1.out;rw[Eg,if_neg ho,em] at O;have I:=aA O;clear j0 em O ho;by_cases hm:m=9007199254740992
 ·have bm:((m:Int)==9007199254740992)=true:=beq_iff_eq.2 (by omega)
  have e3:(m:Int)/2=(4503599627370496:Nat):=(by omega);by_cases i0:2047<=D+1+1023
  ·have q:Hid (Bj s=(0,1024,true)):=by have h:=I.out;simp only[hm,if_true] at h;rw[if_pos i0] at h;exact h
   clear hm;go_wp2;go_quiet (fail)
   go_wp2_with (first | (go_at_call 134;refine(Cj _ b 53 H C (K.out.on (p.out.drewN _)) j.out (by omega) (by omega) (J.out.drewN _) (by omega) (by omega)).mono ?_;rintro e w4 ⟨rfl,t,u⟩;have z:=(p.out.drewN _).trans u;have f0:=K.out.on z;have c:=f0.laid;have m0:=c.lt.le.lf.mb;have m1:=c.fi.1;have m2:=c.fi.2;clear c) | (go_at_call 135;refine(I9 _ b H (DD C 53) T.out.2.1 t (by omega) (by omega)).mono ?_;rw[HM.out];rintro e w' ⟨rfl,rfl⟩))
   go_quiet (fail);go_wp2;go_step3;refine⟨z.drewN _,aA ⟨_,t.drewN _⟩,4503599627370496,D+1,false,.inl ⟨rfl,q.out⟩,?_⟩
   (refine⟨?_,?_,?_,?_,?_,?_,?_,?_,?_,?_,?_,?_,?_⟩;(iterate 11 (refine⟨?_,?_,?_,?_,?_,?_,?_,?_,?_,?_,?_,?_,?_,?_,?_,?_,?_,?_,?_,?_⟩;rotate_left 20));refine⟨?_,?_,?_,?_,?_,?_,?_,?_,?_,?_,?_,?_,?_,?_,?_,?_,?_,undef,undef,undef⟩;rotate_left 17;refine @congrArg _ _ _ _ (fun x=>Act.mk (aB x) []) ?_;dsimp only;repeat (refine congr (congrArg aC (?_:_=_)) ?_;· exact rfl);exact rfl)
  have q:Hid (Bj s=(4503599627370496,D+1,false)):=by have h:=I.out;simp only[hm,if_true] at h;rw[if_neg i0] at h;exact h
  have c2:¬ (2047:Int)<=D+1+1023:=i0;have bz:(bits .and .u64 4503599627370496 4503599627370496==0)=false:=(by decide +kernel);clear hm;go_wp2;go_quiet (fail)
  go_wp2_with (first | (go_at_call 134;refine(Cj _ b 53 H C (K.out.on (p.out.drewN _)) j.out (by omega) (by omega) (J.out.drewN _) (by omega) (by omega)).mono ?_;rintro e w4 ⟨rfl,t,u⟩;have z:=(p.out.drewN _).trans u;have f0:=K.out.on z;have c:=f0.laid;have m0:=c.lt.le.lf.mb;have m1:=c.fi.1;have m2:=c.fi.2;clear c) | (go_at_call 135;refine(I9 _ b H (DD C 53) T.out.2.1 t (by omega) (by omega)).mono ?_;rw[HM.out];rintro e w' ⟨rfl,rfl⟩))
  go_quiet (fail);go_wp2;go_step3;refine⟨z.drewN _,aA ⟨_,t.drewN _⟩,4503599627370496,D+1,false,.inr ⟨rfl,q.out,by omega,by omega,by omega⟩,?_⟩
  (refine⟨?_,?_,?_,?_,?_,?_,?_,?_,?_,?_,?_,?_,?_⟩;(iterate 11 (refine⟨?_,?_,?_,?_,?_,?_,?_,?_,?_,?_,?_,?_,?_,?_,?_,?_,?_,?_,?_,?_⟩;rotate_left 20));refine⟨?_,?_,?_,?_,?_,?_,?_,?_,?_,?_,?_,?_,?_,?_,?_,?_,?_,undef,undef,undef⟩;rotate_left 17;refine @congrArg _ _ _ _ (fun x=>Act.mk (aB x) []) ?_;dsimp only;repeat (refine congr (congrArg aC (?_:_=_)) ?_;· exact rfl);exact rfl)
 have bm:((m:Int)==9007199254740992)=false:=beq_eq_false_iff_ne.2 (by omega)
 cases bz:(bits .and .u64 (m:Int) 4503599627370496==0) with
 | true =>
   have q:Hid (Bj s=(m,-1023,false)):=by have h:=I.out;simp only[hm,if_false] at h;rw[if_pos (beq_iff_eq.1 bz)] at h;exact h
   clear hm;go_wp2;go_quiet (fail)
   go_wp2_with (first | (go_at_call 134;refine(Cj _ b 53 H C (K.out.on (p.out.drewN _)) j.out (by omega) (by omega) (J.out.drewN _) (by omega) (by omega)).mono ?_;rintro e w4 ⟨rfl,t,u⟩;have z:=(p.out.drewN _).trans u;have f0:=K.out.on z;have c:=f0.laid;have m0:=c.lt.le.lf.mb;have m1:=c.fi.1;have m2:=c.fi.2;clear c) | (go_at_call 135;refine(I9 _ b H (DD C 53) T.out.2.1 t (by omega) (by omega)).mono ?_;rw[HM.out];rintro e w' ⟨rfl,rfl⟩))
   go_step3;refine⟨z,aA ⟨_,t⟩,m,-1023,false,.inr ⟨rfl,q.out,G,by omega,by omega⟩,?_⟩
   (refine⟨?_,?_,?_,?_,?_,?_,?_,?_,?_,?_,?_,?_,?_⟩;(iterate 11 (refine⟨?_,?_,?_,?_,?_,?_,?_,?_,?_,?_,?_,?_,?_,?_,?_,?_,?_,?_,?_,?_⟩;rotate_left 20));refine⟨?_,?_,?_,?_,?_,?_,?_,?_,?_,?_,?_,?_,?_,?_,?_,?_,?_,undef,undef,undef⟩;rotate_left 17;refine @congrArg _ _ _ _ (fun x=>Act.mk (aB x) []) ?_;dsimp only;repeat (refine congr (congrArg aC (?_:_=_)) ?_;· exact rfl);exact rfl)
 | false =>
   have q:Hid (Bj s=(m,D,false)):=by have h:=I.out;simp only[hm,if_false] at h;rw[if_neg (beq_eq_false_iff_ne.1 bz)] at h;exact h
   clear hm;go_wp2;go_quiet (fail)
   go_wp2_with (first | (go_at_call 134;refine(Cj _ b 53 H C (K.out.on (p.out.drewN _)) j.out (by omega) (by omega) (J.out.drewN _) (by omega) (by omega)).mono ?_;rintro e w4 ⟨rfl,t,u⟩;have z:=(p.out.drewN _).trans u;have f0:=K.out.on z;have c:=f0.laid;have m0:=c.lt.le.lf.mb;have m1:=c.fi.1;have m2:=c.fi.2;clear c) | (go_at_call 135;refine(I9 _ b H (DD C 53) T.out.2.1 t (by omega) (by omega)).mono ?_;rw[HM.out];rintro e w' ⟨rfl,rfl⟩))
   go_step3;refine⟨z,aA ⟨_,t⟩,m,D,false,.inr ⟨rfl,q.out,G,by omega,by omega⟩,?_⟩
   (refine⟨?_,?_,?_,?_,?_,?_,?_,?_,?_,?_,?_,?_,?_⟩;(iterate 11 (refine⟨?_,?_,?_,?_,?_,?_,?_,?_,?_,?_,?_,?_,?_,?_,?_,?_,?_,?_,?_,?_⟩;rotate_left 20));refine⟨?_,?_,?_,?_,?_,?_,?_,?_,?_,?_,?_,?_,?_,?_,?_,?_,?_,undef,undef,undef⟩;rotate_left 17;refine @congrArg _ _ _ _ (fun x=>Act.mk (aB x) []) ?_;dsimp only;repeat (refine congr (congrArg aC (?_:_=_)) ?_;· exact rfl);exact rfl)
end Go.Proofs.YtipfpohlnhmlpaaGreatDoor
