/- Fc -/
import Derived.Test.YtipfpohlnhmlpaaGreatDoorMa
set_option maxRecDepth 100000
set_option maxHeartbeats 6400000
open List renaming append_assoc->aA,length_append->aC
open Int renaming toNat_natCast->aB
namespace Go.Proofs.YtipfpohlnhmlpaaGreatDoor
open Go.Proofs.Tryz
open Go.RowKit
theorem RA (w:World) (C:Nat) (v sv:Value) (B:List UInt8) (ng n:Bool) (f:Nat->Nat) (nd:Nat) (dp a:Int) (d:Nat)
  (hv:B_ w 5 v C (Ge B)) (q1:B.length<=1000) (b1:M_ w C sv f nd dp) (hf:∀i,f i<256) (V:d=101\/d=69\/d=102\/d=103\/d=71)
  (l2:nd<=1000) (f1 : -900<=dp) (g1:dp<=900) (l1:0<=a) (l:g6 nd dp a d n=102) (m1:a<=1000) :
  Calls prog 145 #[v,.bool ng,sv,.int .i64 dp,.int .i64 nd,.int .i64 a,.int .u8 d,.bool n] w fun e T=>∃v',e = .returned v'/\Dy w 5 C v' T (B++Ic ng f nd dp a d n):=by
 obtain⟨W,x,y,z,t⟩:=info_parts Tryz.info_u8';have g0:Dy w 5 C v w B:=Dy.start hv;have p0:=Lib.hid b1;have b0:=Lib.hid (RC ng f nd dp a d n V);clear hv b1
 go_in
 go_upto_region 1 with fail
 go_cut [36] (fun c j=>w=j/\c = .bool (decide (d=103\/d=71)))
 case first =>
  as_aux_lemma =>
   rcases V with rfl | rfl | rfl | rfl | rfl
   all_goals
    go_wp2;go_meet;exact⟨rfl,rfl⟩
 case rest =>
 obtain⟨rfl,rfl⟩:=hcut
 go_upto_if 36 with fail
 go_cut [5,6] (fun p q j=>w=j/\p = .int .i64 (g5 nd dp a d n)/\q = .int .u8 (g6 nd dp a d n) /\ -1<=g5 nd dp a d n/\g5 nd dp a d n<=2000/\(g6 nd dp a d n=101\/g6 nd dp a d n=69\/g6 nd dp a d n=102))
 case first =>
  by_cases hg:d=103\/d=71
  ·have bg:decide (d=103\/d=71)=true:=decide_eq_true hg
   have v0:gE nd dp a n=false:=by
    cases h:gE nd dp a n with
    | false=>rfl
    | true=>unfold g6 at l;rw[if_pos hg,if_pos h] at l;omega
   have U:g5 nd dp a d n=max ((if a>dp then (nd:Int) else a)-dp) 0:=by unfold g5;rw[if_pos hg,if_neg (by rw[v0];decide)]
   as_aux_lemma =>
    go_upto_region 3 with fail
    go_cut [45] (fun c j=>w=j/\c = .bool (decide (a>nd/\(nd:Int)>=dp)))
    case first =>
     as_aux_lemma =>
      by_cases F:(nd:Int)<a
      ·by_cases S:dp<=(nd:Int)
       ·have e:decide (a>nd/\(nd:Int)>=dp)=true:=decide_eq_true ⟨F,S⟩
        go_wp2;go_meet;exact⟨rfl,by rw[e]⟩
       have e:decide (a>nd/\(nd:Int)>=dp)=false:=decide_eq_false (fun h=>S h.2);go_wp2;go_meet;exact⟨rfl,by rw[e]⟩
      have e:decide (a>nd/\(nd:Int)>=dp)=false:=decide_eq_false (fun h=>F h.1);go_wp2;go_meet;exact⟨rfl,by rw[e]⟩
    case rest =>
    obtain⟨rfl,rfl⟩:=hcut;obtain⟨cA,d0⟩:∃cA,decide (a>nd/\(nd:Int)>=dp)=cA:=⟨_,rfl⟩
    have r0:(if a>nd/\(nd:Int)>=dp then (nd:Int) else a)=if cA=true then (nd:Int) else a:=by
     rw[<- d0];by_cases h:a>nd/\(nd:Int)>=dp
     ·rw[if_pos h,if_pos (decide_eq_true h)]
     rw[if_neg h,if_neg (by rw[decide_eq_false h];decide)]
    have M:Hid (gE nd dp a n=(decide (dp-1 < -4)||decide ((if n=true then 6 else if cA=true then (nd:Int) else a)<=dp-1))):=by
     unfold Hid gE;rw[r0]
    rw[d0];clear r0 d0
    go_upto_if 45 with fail
    go_cut [17] (fun c j=>w=j/\c = .int .i64 (if cA=true then (nd:Int) else a))
    case first =>
     as_aux_lemma =>
      cases cA with
      | true =>
        go_wp2;go_meet;exact⟨rfl,rfl⟩
      | false =>
        go_wp2;go_meet;exact⟨rfl,rfl⟩
    case rest =>
    obtain⟨rfl,rfl⟩:=hcut;generalize (if cA=true then (nd:Int) else a)=E1 at *
    go_upto_if 47 with fail
    go_cut [17] (fun c j=>w=j/\c = .int .i64 (if n=true then 6 else E1))
    case first =>
     as_aux_lemma =>
      cases n with
      | true =>
        go_wp2;go_meet;exact⟨rfl,rfl⟩
      | false =>
        go_wp2;go_meet;exact⟨rfl,rfl⟩
    case rest =>
    obtain⟨rfl,rfl⟩:=hcut;generalize (if n=true then 6 else E1)=E at *
    as_aux_lemma =>
     go_upto_region 8 with fail
     go_cut [56] (fun c j=>w=j/\c = .bool (gE nd dp a n))
     case first =>
      as_aux_lemma =>
       by_cases F:dp-1 < -4
       ·have e:gE nd dp a n=true:=by rw[M.out,decide_eq_true F];rfl
        go_wp2;go_meet;exact⟨rfl,by rw[e]⟩
       by_cases S:E<=dp-1
       ·have e:gE nd dp a n=true:=by rw[M.out,decide_eq_true S,Bool.or_true]
        go_wp2;go_meet;exact⟨rfl,by rw[e]⟩
       have e:gE nd dp a n=false:=by rw[M.out,decide_eq_false F,decide_eq_false S];rfl
       go_wp2;go_meet;exact⟨rfl,by rw[e]⟩
     case rest =>
     obtain⟨rfl,rfl⟩:=hcut;rw[v0];clear M
     go_upto_if 68 with fail
     go_cut [5] (fun c j=>w=j/\c = .int .i64 (if a>dp then (nd:Int) else a))
     case first =>
      as_aux_lemma =>
       by_cases F:dp<a
       ·go_wp2
        go_meet;exact⟨rfl,by rw[if_pos F]⟩
       go_wp2;go_meet;exact⟨rfl,by rw[if_neg (by omega)]⟩
     case rest =>
     obtain⟨rfl,rfl⟩:=hcut;have n2:0<=(if a>dp then (nd:Int) else a):=by split<;>omega
     have o2:(if a>dp then (nd:Int) else a)<=1000:=by split<;>omega
     generalize (if a>dp then (nd:Int) else a)=p1 at *
     as_aux_lemma =>
      by_cases F:p1-dp<0
      ·have e:max (p1-dp) 0=0:=by omega
       go_wp2;go_meet;exact⟨rfl,by rw[U,e],by rw[l];rfl,by rw[U,e];omega,by rw[U,e];omega,.inr (.inr l)⟩
      have e:max (p1-dp) 0=p1-dp:=(by omega);go_wp2;go_meet;exact⟨rfl,by rw[U,e],by rw[l];rfl,by rw[U,e];omega,by rw[U,e];omega,.inr (.inr l)⟩
  have bg:decide (d=103\/d=71)=false:=decide_eq_false hg;have U:g5 nd dp a d n=a:=by unfold g5;rw[if_neg hg]
  have e6:g6 nd dp a d n=d:=by unfold g6;rw[if_neg hg]
  as_aux_lemma =>
   go_wp2;go_meet;exact⟨rfl,by rw[U],by rw[e6],by omega,by omega,by omega⟩
 obtain⟨rfl,rfl,rfl,l1,m1,hq⟩:=hcut;generalize g5 nd dp a d n=pr at *;generalize g6 nd dp a d n=fm at *;rw[if_pos l] at b0;have o1:((fm:Int)==102)=true:=by rw[l];rfl
 have n1:((fm:Int)==101)=false:=beq_eq_false_iff_ne.2 (by omega);have w1:((fm:Int)==69)=false:=beq_eq_false_iff_ne.2 (by omega);clear hq l
 as_aux_lemma =>
  go_upto_if 178 with fail
  go_cut [0] (fun u j=>∃a1,Hid (a1=B++JQ ng)/\a1.length<=1001/\Dy w 5 C u j a1)
  case first =>
   as_aux_lemma =>
    cases ng with
    | true =>
      go_wp2_with (at_builtin;refine AS _ rfl _ _ 41 rfl 5 W (.int .u8 0) underlying41 x y z t rfl _ _ _ _ [45] rfl (g0.alloc _) _ _ _ rfl rfl (Bd _ _ _ _ rfl) (by simp only[Eh];omega) ?_;intro v' T F)
      go_wp2;go_meet;exact⟨_,rfl,by simp[JQ];omega,F⟩
    | false =>
      go_wp2;go_meet;exact⟨B,by simp[Hid,JQ],by omega,g0⟩
  obtain⟨a1,H1,e2,j0⟩:=hcut
  as_aux_lemma =>
   obtain⟨bp,s0⟩:∃bp:Bool,decide (0<dp)=bp:=⟨_,rfl⟩
   go_upto_if 183 with fail
   go_cut [0] (fun u j=>∃J,Hid (J=a1++Gf f nd dp)/\J.length<=2002/\Dy w 5 C u j J)
   case first =>
    cases bp with
    | true =>
      have hd:0<dp:=of_decide_eq_true s0;obtain⟨D,rfl⟩:∃D:Nat,dp=D:=⟨dp.toNat,by omega⟩;rcases p0.out with⟨_,h⟩ | ⟨b,len,q0,rfl,F,S,t0,e1,hb,h5⟩
      ·omega
      obtain⟨m,em⟩:∃m,min nd D=m:=⟨_,rfl⟩;have hm:(if D<nd then (D:Int) else (nd:Int))=(m:Int):=by split<;>omega
      obtain⟨Z,eZ⟩:∃Z:Nat,D-m=Z:=⟨_,rfl⟩;have hZ:(D:Int)-m=Z:=by omega
      have HW:Hid (Gf f nd (D:Int)=B5 f 0 m++Bz Z):=by
       unfold Hid Gf;rw[if_pos hd,aB,em,eZ]
      have j2:m<=nd:=(by omega);have g2:m<=D:=(by omega);have i2:m<=len:=(by omega);have z1:¬ q0=0:=(by omega);have H5:=Lib.hid h5;clear h5 em eZ
      as_aux_lemma =>
       go_wp2
       go_loopg [0,25,191] m (fun g u c k j=>∃s:Nat,g+s=m/\k = .int .i64 s/\Dy w 5 C u j (a1++B5 f 0 s))
       case atStart=>exact⟨0,by omega,rfl,by simpa[B5] using j0⟩
       obtain⟨s,hk,rfl,H⟩:=hrel;by_cases w0:s<m
       ·have ck:=World.grownBy.cell H.only (H5.out s (by omega)) (fun e=>hb (Option.some.inj e))
        have e0:=hf s
        go_wp2_with (at_builtin;refine AS _ rfl _ _ 41 rfl 5 W (.int .u8 0) underlying41 x y z t rfl _ _ _ _ [UInt8.ofNat (f s)] rfl (H.alloc _) _ _ _ rfl rfl (Bd _ _ _ _ (Bl e0).symm) (by simp only[Eh];omega) ?_;intro v' T K)
        go_roundg (m-(s+1))
        case measure=>omega
        exact⟨s+1,by omega,by go_num,by rw[IC,Nat.zero_add,<- aA];exact K⟩
       obtain rfl:s=m:=(by omega);go_wp2
       go_loopg [0,203] Z (fun g u k j=>∃Y:Nat,g+Y=Z/\k = .int .i64 Y/\Dy w 5 C u j (a1++B5 f 0 s++Bz Y))
       case atStart=>exact⟨0,by omega,rfl,by simpa[Bz] using H⟩
       obtain⟨Y,j1,rfl,I⟩:=hrel;by_cases w0:Y<Z
       ·go_wp2_with (at_builtin;refine AS _ rfl _ _ 41 rfl 5 W (.int .u8 0) underlying41 x y z t rfl _ _ _ _ [48] rfl (I.alloc _) _ _ _ rfl rfl (Bd _ _ _ _ rfl) (by simp only[Eh];omega) ?_;intro v' T K)
        go_roundg (Z-(Y+1))
        case measure=>omega
        exact⟨Y+1,by omega,by go_num,by rw[Ed,<- aA];exact K⟩
       obtain rfl:Y=Z:=(by omega);go_wp2;go_meet;exact⟨_,by unfold Hid;rw[HW.out];simp only[aA],by simp only[aC,Cm,Dg];omega,I⟩
    | false =>
      have hd:¬ 0<dp:=of_decide_eq_false s0
      as_aux_lemma =>
       go_wp2_with (at_builtin;refine AS _ rfl _ _ 41 rfl 5 W (.int .u8 0) underlying41 x y z t rfl _ _ _ _ [48] rfl (j0.alloc _) _ _ _ rfl rfl (Bd _ _ _ _ rfl) (by simp only[Eh];omega) ?_;intro v' T K)
       go_wp2;go_meet;exact⟨_,by unfold Hid Gf;rw[if_neg (by omega)],by simp only[aC,List.length_cons,List.length_nil];omega,K⟩
   obtain⟨J,H2,f2,k0⟩:=hcut
   as_aux_lemma =>
    have HE:Hid (B++Ic ng f nd dp a d n=J++Gq f nd dp pr):=by
     unfold Hid;rw[b0.out,RB,H2.out,H1.out];simp only[aA]
    clear b0;by_cases z0:0<pr
    ·obtain⟨N,rfl⟩:∃N:Nat,pr=N:=⟨pr.toNat,by omega⟩
     have n0:Hid (Gq f nd dp N=[46]++Bz (Nv dp N)++B5 f (dp+Nv dp N).toNat (K3 nd dp N)++Bz (N-Nv dp N-K3 nd dp N)):=by
      unfold Hid Gq;rw[if_pos z0,aB]
     have x0:Nv dp N=min N (-dp).toNat:=by unfold Nv;rw[aB]
     have y0:K3 nd dp N=min (N-Nv dp N) (nd-(dp+Nv dp N).toNat):=by unfold K3;rw[aB]
     generalize Nv dp N=A at *;generalize K3 nd dp N=md at *;have Q:=Lib.hid x0;have c0:=Lib.hid y0;clear x0 y0
     go_upto_region 69 with(at_builtin;refine AS _ rfl _ _ 41 rfl 5 W (.int .u8 0) underlying41 x y z t rfl _ _ _ _ [46] rfl (k0.alloc _) _ _ _ rfl rfl (Bd _ _ _ _ rfl) (by simp only[Eh];omega) ?_;intro v' T h3)
     go_cut [0,26] (fun u c j=>Dy w 5 C u j (J++[46])/\c = .int .i64 A)
     case first =>
      as_aux_lemma =>
       by_cases h0:0<dp
       ·obtain rfl:A=0:=by have:=Q.out;omega
        obtain⟨D,rfl⟩:∃D:Nat,dp=D:=⟨dp.toNat,by omega⟩;have hw:RowKit.wrap64 (-(D:Int)) = -(D:Int):=by unfold RowKit.wrap64;omega
        have t:¬ (0:Int) < -(D:Int):=(by omega);clear f1 g1;go_wp2;go_meet;exact⟨h3,rfl⟩
       obtain⟨q,hq⟩:∃q:Nat,-dp=q:=⟨(-dp).toNat,by omega⟩;have f0:A=min N q:=by have:=Q.out;omega
       by_cases F:q=0
       ·obtain rfl:A=0:=by omega
        obtain rfl:dp=0:=(by omega);clear hq f0 h0;go_wp2;go_meet;exact⟨h3,rfl⟩
       by_cases S:q<N
       ·obtain rfl:A=q:=by omega
        clear f0;go_wp2;go_meet;exact⟨h3,rfl⟩
       obtain rfl:A=N:=(by omega);clear f0;go_wp2;go_meet;exact⟨h3,rfl⟩
     obtain⟨L,rfl⟩:=hcut
     as_aux_lemma =>
      have r1:A<=N:=by have:=Q.out;omega
      obtain⟨o,ho⟩:∃o:Int,dp+(A:Int)=o:=⟨_,rfl⟩;obtain⟨P,hP⟩:∃P:Nat,(N:Int)-A=P:=⟨N-A,by omega⟩;obtain⟨Z,hZ⟩:∃Z:Nat,(P:Int)-md=Z:=⟨P-md,by have:=c0.out;omega⟩;have s1:md<=P:=by have:=c0.out;omega
      have y1:P<=N:=by omega
      have R:Hid ((0<=o/\md=min P (nd-o.toNat))\/(o<0/\P=0)):=by
       unfold Hid;have F:=Q.out;have S:=c0.out;by_cases h0:0<=o
       ·left;refine⟨h0,?_⟩;rw[<- ho];omega
       right;omega
      have o0:Hid (Gq f nd dp N=[46]++Bz A++B5 f o.toNat md++Bz Z):=by
       unfold Hid;rw[n0.out,ho];congr 2;omega
      clear n0;have k1 : -2000<=o/\o<=4000:=(by omega);obtain⟨t1,v1⟩:=k1
      go_upto_region 71 with fail
      go_cut [0,28] (fun u c j=>Dy w 5 C u j (J++[46])/\c = .int .i64 md)
      case first =>
       as_aux_lemma =>
        by_cases h0:(nd:Int)-o<=0
        ·obtain rfl:md=0:=by have:=R.out;omega
         by_cases c1:P=0
         ·subst c1
          go_wp2;go_meet;exact⟨L,rfl⟩
         go_wp2;go_meet;exact⟨L,rfl⟩
        obtain⟨r,hr⟩:∃r:Nat,(nd:Int)-o=r:=⟨((nd:Int)-o).toNat,by omega⟩;have p2:0<r:=(by omega);by_cases q2:r<P
        ·obtain rfl:md=r:=by have:=R.out;omega
         go_wp2;go_meet;exact⟨L,rfl⟩
        obtain rfl:md=P:=by have:=R.out;omega
        go_wp2;go_meet;exact⟨L,rfl⟩
      obtain⟨l0,rfl⟩:=hcut
      as_aux_lemma =>
       go_upto_region 72 with fail
       go_cut [0,29] (fun u c j=>Dy w 5 C u j (J++[46])/\c = .int .i64 Z)
       case first =>
        as_aux_lemma =>
         by_cases d1:Z=0
         ·subst d1
          go_wp2;go_meet;exact⟨l0,rfl⟩
         go_wp2;go_meet;exact⟨l0,rfl⟩
       obtain⟨H,rfl⟩:=hcut
       as_aux_lemma =>
        go_wp2
        go_loopg [0,240] A (fun g u k j=>∃s:Nat,g+s=A/\k = .int .i64 s/\Dy w 5 C u j (J++[46]++Bz s))
        case atStart=>exact⟨0,by omega,rfl,by simpa[Bz] using H⟩
        obtain⟨s,hk,rfl,I⟩:=hrel;by_cases w0:s<A
        ·go_wp2_with (at_builtin;refine AS _ rfl _ _ 41 rfl 5 W (.int .u8 0) underlying41 x y z t rfl _ _ _ _ [48] rfl (I.alloc _) _ _ _ rfl rfl (Bd _ _ _ _ rfl) (by simp only[Eh];omega) ?_;intro v' T K)
         go_roundg (A-(s+1))
         case measure=>omega
         exact⟨s+1,by omega,by go_num,by rw[Ed,<- aA];exact K⟩
        obtain rfl:s=A:=by omega
        as_aux_lemma =>
         go_wp2
         go_loopg [0,30,247] md (fun g u c k j=>∃G:Nat,g+G=md/\k = .int .i64 G/\Dy w 5 C u j (J++[46]++Bz s++B5 f o.toNat G))
         case atStart=>exact⟨0,by omega,rfl,by simpa[B5] using I⟩
         obtain⟨G,b2,rfl,a0⟩:=hrel;by_cases d2:G<md
         ·have m2:0<=o/\o+G<nd:=by have:=R.out;omega
          obtain⟨O,rfl⟩:∃O:Nat,o=O:=⟨o.toNat,by omega⟩;rcases p0.out with⟨h,_⟩ | ⟨b,len,q0,rfl,F,S,t0,e1,hb,h5⟩
          ·omega
          have ck:=World.grownBy.cell a0.only (h5 (O+G) (by omega)) (fun e=>hb (Option.some.inj e));have e0:=hf (O+G);have x1:O+G<len:=(by omega);clear h5
          as_aux_lemma =>
           go_wp2_with (at_builtin;refine AS _ rfl _ _ 41 rfl 5 W (.int .u8 0) underlying41 x y z t rfl _ _ _ _ [UInt8.ofNat (f (O+G))] rfl (a0.alloc _) _ _ _ rfl rfl (Bd _ _ _ _ (Bl e0).symm) (by simp only[Eh];omega) ?_;intro v' T K)
           go_roundg (md-(G+1))
           case measure=>omega
           exact⟨G+1,by omega,by go_num,by rw[IC,aB,<- aA];exact K⟩
         obtain rfl:G=md:=by omega
         as_aux_lemma =>
          go_wp2
          go_loopg [0,261] Z (fun g u k j=>∃X:Nat,g+X=Z/\k = .int .i64 X/\Dy w 5 C u j (J++[46]++Bz s++B5 f o.toNat G++Bz X))
          case atStart=>exact⟨0,by omega,rfl,by simpa[Bz] using a0⟩
          obtain⟨X,c2,rfl,m0⟩:=hrel;by_cases j1:X<Z
          ·go_wp2_with (at_builtin;refine AS _ rfl _ _ 41 rfl 5 W (.int .u8 0) underlying41 x y z t rfl _ _ _ _ [48] rfl (m0.alloc _) _ _ _ rfl rfl (Bd _ _ _ _ rfl) (by simp only[Eh];omega) ?_;intro v' T K)
           go_roundg (Z-(X+1))
           case measure=>omega
           exact⟨X+1,by omega,by go_num,by rw[Ed,<- aA];exact K⟩
          obtain rfl:X=Z:=(by omega);go_wp2;go_ret;exact⟨_,rfl,by rw[HE.out,o0.out,<- aA,<- aA,<- aA];exact m0⟩
    have i1:Gq f nd dp pr=[]:=by unfold Gq;rw[if_neg z0]
    rw[i1,List.append_nil] at HE
    as_aux_lemma =>
     go_wp2;go_ret;exact⟨_,rfl,by rw[HE.out];exact k0⟩
end Go.Proofs.YtipfpohlnhmlpaaGreatDoor
