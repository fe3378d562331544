/- Fd -/
import Derived.Test.YtipfpohlnhmlpaaGreatDoorMa
set_option maxRecDepth 100000
set_option maxHeartbeats 6400000
open UInt8 renaming ofNat->aA
open List renaming append_assoc->aB,length_append->aC,length_cons->aD,length_nil->aE
namespace Go.Proofs.YtipfpohlnhmlpaaGreatDoor
open Go.Proofs.Tryz
open Go.RowKit
theorem Rz (w:World) (G:Nat) (v sv:Value) (z:List UInt8) (ng n:Bool) (f:Nat->Nat) (nd:Nat) (dp d:Int) (l:Nat)
  (hv:B_ w 5 v G (Ge z)) (l1:z.length<=1000) (s0:M_ w G sv f nd dp) (hf:∀i,f i<256) (T:l=101\/l=69\/l=102\/l=103\/l=71)
  (a2:nd<=1000) (r1 : -900<=dp) (s1:dp<=900) (g1:0<=d) (R:g6 nd dp d l n≠102) (i1:d<=1000) :
  Calls prog 145 #[v,.bool ng,sv,.int .i64 dp,.int .i64 nd,.int .i64 d,.int .u8 l,.bool n] w fun e F=>∃v',e = .returned v'/\Dy w 5 G v' F (z++Ic ng f nd dp d l n):=by
 obtain⟨H,s,t,x,y⟩:=info_parts Tryz.info_u8';have k0:Dy w 5 G v w z:=Dy.start hv;have l0:=Lib.hid s0;have a0:=Lib.hid (RC ng f nd dp d l n T);clear hv s0
 go_in
 go_upto_region 1 with fail
 go_cut [36] (fun c o=>w=o/\c = .bool (decide (l=103\/l=71)))
 case first =>
  as_aux_lemma =>
   rcases T with rfl | rfl | rfl | rfl | rfl
   all_goals
    go_wp2;go_meet;exact⟨rfl,rfl⟩
 case rest =>
 obtain⟨rfl,rfl⟩:=hcut
 go_upto_if 36 with fail
 go_cut [5,6] (fun p q o=>w=o/\p = .int .i64 (g5 nd dp d l n)/\q = .int .u8 (g6 nd dp d l n) /\ -1<=g5 nd dp d l n/\g5 nd dp d l n<=2000/\(g6 nd dp d l n=101\/g6 nd dp d l n=69\/g6 nd dp d l n=102))
 case first =>
  by_cases U:l=103\/l=71
  ·have bg:decide (l=103\/l=71)=true:=decide_eq_true U
   have g0:gE nd dp d n=true:=by
    cases h:gE nd dp d n with
    | true=>rfl
    | false=>unfold g6 at R;rw[if_pos U,if_neg (by rw[h];decide)] at R;omega
   have M:g5 nd dp d l n=min d nd-1:=by unfold g5;rw[if_pos U,if_pos g0]
   have e6:g6 nd dp d l n=l-2:=by unfold g6;rw[if_pos U,if_pos g0]
   as_aux_lemma =>
    go_upto_region 3 with fail
    go_cut [45] (fun c o=>w=o/\c = .bool (decide (d>nd/\(nd:Int)>=dp)))
    case first =>
     as_aux_lemma =>
      by_cases J:(nd:Int)<d
      ·by_cases h2:dp<=(nd:Int)
       ·have e:decide (d>nd/\(nd:Int)>=dp)=true:=decide_eq_true ⟨J,h2⟩
        go_wp2;go_meet;exact⟨rfl,by rw[e]⟩
       have e:decide (d>nd/\(nd:Int)>=dp)=false:=decide_eq_false (fun h=>h2 h.2);go_wp2;go_meet;exact⟨rfl,by rw[e]⟩
      have e:decide (d>nd/\(nd:Int)>=dp)=false:=decide_eq_false (fun h=>J h.1);go_wp2;go_meet;exact⟨rfl,by rw[e]⟩
    case rest =>
    obtain⟨rfl,rfl⟩:=hcut;obtain⟨cA,d0⟩:∃cA,decide (d>nd/\(nd:Int)>=dp)=cA:=⟨_,rfl⟩
    have p0:(if d>nd/\(nd:Int)>=dp then (nd:Int) else d)=if cA=true then (nd:Int) else d:=by
     rw[<- d0];by_cases h:d>nd/\(nd:Int)>=dp
     ·rw[if_pos h,if_pos (decide_eq_true h)]
     rw[if_neg h,if_neg (by rw[decide_eq_false h];decide)]
    have L:Hid (gE nd dp d n=(decide (dp-1 < -4)||decide ((if n=true then 6 else if cA=true then (nd:Int) else d)<=dp-1))):=by
     unfold Hid gE;rw[p0]
    rw[d0];clear p0 d0
    go_upto_if 45 with fail
    go_cut [17] (fun c o=>w=o/\c = .int .i64 (if cA=true then (nd:Int) else d))
    case first =>
     as_aux_lemma =>
      cases cA with
      | true =>
        go_wp2;go_meet;exact⟨rfl,rfl⟩
      | false =>
        go_wp2;go_meet;exact⟨rfl,rfl⟩
    case rest =>
    obtain⟨rfl,rfl⟩:=hcut;generalize (if cA=true then (nd:Int) else d)=E1 at *
    go_upto_if 47 with fail
    go_cut [17] (fun c o=>w=o/\c = .int .i64 (if n=true then 6 else E1))
    case first =>
     as_aux_lemma =>
      cases n with
      | true =>
        go_wp2;go_meet;exact⟨rfl,rfl⟩
      | false =>
        go_wp2;go_meet;exact⟨rfl,rfl⟩
    case rest =>
    obtain⟨rfl,rfl⟩:=hcut;generalize (if n=true then 6 else E1)=E at *
    as_aux_lemma =>
     go_upto_region 8 with fail
     go_cut [56] (fun c o=>w=o/\c = .bool (gE nd dp d n))
     case first =>
      as_aux_lemma =>
       by_cases J:dp-1 < -4
       ·have e:gE nd dp d n=true:=by rw[L.out,decide_eq_true J];rfl
        go_wp2;go_meet;exact⟨rfl,by rw[e]⟩
       by_cases h2:E<=dp-1
       ·have e:gE nd dp d n=true:=by rw[L.out,decide_eq_true h2,Bool.or_true]
        go_wp2;go_meet;exact⟨rfl,by rw[e]⟩
       have e:gE nd dp d n=false:=by rw[L.out,decide_eq_false J,decide_eq_false h2];rfl
       go_wp2;go_meet;exact⟨rfl,by rw[e]⟩
     case rest =>
     obtain⟨rfl,rfl⟩:=hcut;rw[g0];clear L
     go_upto_if 59 with fail
     go_cut [5] (fun c o=>w=o/\c = .int .i64 (min d nd))
     case first =>
      as_aux_lemma =>
       by_cases J:(nd:Int)<d
       ·go_wp2
        go_meet;exact⟨rfl,by rw[Int.min_eq_right (by omega)]⟩
       go_wp2;go_meet;exact⟨rfl,by rw[Int.min_eq_left (by omega)]⟩
     case rest =>
     obtain⟨rfl,rfl⟩:=hcut;obtain⟨pm,n0⟩:∃pm:Int,min d nd=pm:=⟨_,rfl⟩;have j1:0<=pm/\pm<=1000:=(by omega);obtain⟨n1,o1⟩:=j1;rw[n0] at M ⊢;clear n0
     as_aux_lemma =>
      rcases U with rfl | rfl
      ·go_wp2
       go_meet;exact⟨rfl,by rw[M],by rw[e6];rfl,by rw[M];omega,by rw[M];omega,.inl e6⟩
      go_wp2;go_meet;exact⟨rfl,by rw[M],by rw[e6];rfl,by rw[M];omega,by rw[M];omega,.inr (.inl e6)⟩
  have bg:decide (l=103\/l=71)=false:=decide_eq_false U;have M:g5 nd dp d l n=d:=by unfold g5;rw[if_neg U]
  have e6:g6 nd dp d l n=l:=by unfold g6;rw[if_neg U]
  as_aux_lemma =>
   go_wp2;go_meet;exact⟨rfl,by rw[M],by rw[e6],by omega,by omega,by omega⟩
 obtain⟨rfl,rfl,rfl,g1,i1,hq⟩:=hcut;generalize g5 nd dp d l n=pr at *;generalize g6 nd dp d l n=D at *;have hq:D=101\/D=69:=(by omega);have r0:¬ D=102:=(by omega);rw[if_neg r0] at a0
 as_aux_lemma =>
  go_upto_region 17 with fail
  have d1:D<256:=(by omega);have k1:((D:Int)==102)=false:=beq_eq_false_iff_ne.2 (by omega)
  have hb:((D:Int)==101)=true\/(((D:Int)==101)=false/\((D:Int)==69)=true):=by
   rcases hq with rfl | rfl
   ·exact .inl rfl
   exact .inr ⟨rfl,rfl⟩
  clear hq r0;rcases hb with hb | ⟨hb,q1⟩
  all_goals
   as_aux_lemma =>
    go_upto_if 78 with fail
    go_cut [0] (fun u o=>∃a1,Hid (a1=z++JQ ng)/\a1.length<=1001/\Dy w 5 G u o a1)
    case first =>
     as_aux_lemma =>
      cases ng with
      | true =>
        go_wp2_with (at_builtin;refine AS _ rfl _ _ 41 rfl 5 H (.int .u8 0) underlying41 s t x y rfl _ _ _ _ [45] rfl (k0.alloc _) _ _ _ rfl rfl (Bd _ _ _ _ rfl) (by simp only[Eh];omega) ?_;intro v' F J)
        go_wp2;go_meet;exact⟨_,rfl,by simp[JQ];omega,J⟩
      | false =>
        go_wp2;go_meet;exact⟨z,by simp[Hid,JQ],by omega,k0⟩
    obtain⟨a1,H1,v1,X⟩:=hcut
    as_aux_lemma =>
     go_upto_if 83 with fail
     go_cut [0,19] (fun u c o=>Dy w 5 G u o a1/\c = .int .u8 (if nd=0 then 48 else f 0:Nat))
     case first =>
      as_aux_lemma =>
       by_cases P:nd=0
       ·have b0:((nd:Int) != 0)=false:=by rw[P];rfl
        go_wp2;go_meet;exact⟨X,by rw[if_pos P];rfl⟩
       have b0:((nd:Int) != 0)=true:=by rw[bne_iff_ne];omega
       rcases l0.out with⟨h,_⟩ | ⟨b,len,m0,rfl,J,h2,h3,c1,S,h5⟩
       ·exact absurd h P
       have c0:=World.grownBy.cell X.only (h5 0 (by omega)) (fun e=>S (Option.some.inj e));clear h5;go_wp2;go_meet;exact⟨X,by rw[if_neg P]⟩
     as_aux_lemma =>
      obtain⟨x0,rfl⟩:=hcut;have f0:(if nd=0 then 48 else f 0)<256:=by have:=hf 0;split<;>omega
      have I:(if nd=0 then 48 else aA (f 0))=aA (if nd=0 then 48 else f 0):=by split<;>rfl
      generalize (if nd=0 then 48 else f 0)=c0 at f0 I ⊢;have w0:=Lib.hid I;clear I
      go_upto_if 92 with(at_builtin;refine AS _ rfl _ _ 41 rfl 5 H (.int .u8 0) underlying41 s t x y rfl _ _ _ _ [aA c0] rfl (x0.alloc _) _ _ _ rfl rfl (Bd _ _ _ _ (Bl f0).symm) (by simp only[Eh];omega) ?_;intro v' F h3)
      go_cut [0] (fun u o=>∃O,Hid (O=a1++[aA c0]++(if 0<pr then [46]++B5 f 1 (min nd (pr.toNat+1)-1)++Bz (pr.toNat+1-max 1 (min nd (pr.toNat+1))) else []))/\O.length<=6000/\Dy w 5 G u o O)
      case first =>
       by_cases hp:0<pr
       ·obtain⟨N,rfl⟩:∃N:Nat,pr=N:=⟨pr.toNat,by omega⟩
        obtain⟨m,em⟩:∃m,min nd (N+1)=m:=⟨_,rfl⟩;have hm:(if (N:Int)+1<(nd:Int) then (N:Int)+1 else (nd:Int))=(m:Int):=by split<;>omega
        have EM:Hid (min nd (Int.toNat (N:Int)+1)=m):=by unfold Hid;rw[Int.toNat_natCast];exact em
        go_upto_if 102 with(at_builtin;refine AS _ rfl _ _ 41 rfl 5 H (.int .u8 0) underlying41 s t x y rfl _ _ _ _ [46] rfl (h3.alloc _) _ _ _ rfl rfl (Bd _ _ _ _ rfl) (by simp only[Eh];omega) ?_;intro v' F S)
        go_cut [0,20] (fun u c o=>∃a4,Hid (a4=a1++[aA c0]++([46]++B5 f 1 (m-1)))/\a4.length<=3000/\Dy w 5 G u o a4/\c = .int .i64 (max 1 m:Nat))
        case first =>
         by_cases p1:1<m
         ·rcases l0.out with⟨h,_⟩ | ⟨b,len,m0,rfl,J,h2,m1,c1,hb,h5⟩
          ·omega
          have q0:∀W v a,Dy w 5 G v W a->∀j (hj:j<(B5 f 1 (m-1)).length),W.cell? ((⟨b,1,none⟩:Addr).add j)=some (.int .u8 ((B5 f 1 (m-1))[j]).toNat):=by
           intro W v a hA j hj;rw[Cm] at hj;rw[Addr.add_lit,World.grownBy.cell hA.only (h5 (1+j) (by omega)) (fun e=>hb (Option.some.inj e))];simp only[B5,List.getElem_map,List.getElem_range];rw[Bl (hf _)]
          have z0:=Lib.hid q0;have b1:¬ m0=1:=(by omega);have z1:m<=len:=(by omega);have y1:((B5 f 1 (m-1)).length:Nat)=m-1:=Cm _ _ _;have HE:=Lib.hid EM.out;clear q0 h5 em;have j0:((max 1 m:Nat):Int)=m:=by omega
          as_aux_lemma =>
           go_wp2_with (at_builtin;refine AS _ rfl _ _ 41 rfl 5 H (.int .u8 0) underlying41 s t x y rfl _ _ _ _ (B5 f 1 (m-1)) rfl (S) _ _ _ rfl ((Cm _ _ _).symm) (z0.out _ _ _ S) (by simp only[Eh];omega) ?_;intro v' F h5)
           go_wp2;go_meet;exact⟨_,by unfold Hid;simp only[aB],by simp only[aC,aD,aE,Cm];omega,h5,by rw[j0]⟩
         have j0:((max 1 m:Nat):Int)=1:=(by omega);have f1:m-1=0:=by omega
         as_aux_lemma =>
          go_wp2;go_meet;exact⟨_,by unfold Hid;rw[f1,Nb];simp only[aB,List.append_nil],by simp only[aC,aD,aE];omega,S,by rw[j0]⟩
        obtain⟨a4,H4,x1,K,rfl⟩:=hcut;obtain⟨Z,eZ⟩:∃Z:Nat,N+1-max 1 m=Z:=⟨_,rfl⟩;have hZ:(N:Int)+1-(max 1 m:Nat)=Z:=(by omega);have EZ:Hid ((N:Int).toNat+1-max 1 (min nd ((N:Int).toNat+1))=Z):=by unfold Hid;rw[EM.out];simpa using eZ
        generalize max 1 m=mx at *
        as_aux_lemma =>
         go_wp2
         go_loopg [0,114] Z (fun g u k o=>∃V:Nat,g+V=Z/\k = .int .i64 V/\Dy w 5 G u o (a4++Bz V))
         case atStart=>exact⟨0,by omega,rfl,by simpa[Bz] using K⟩
         obtain⟨V,hk,rfl,C⟩:=hrel;by_cases t1:V<Z
         ·go_wp2_with (at_builtin;refine AS _ rfl _ _ 41 rfl 5 H (.int .u8 0) underlying41 s t x y rfl _ _ _ _ [48] rfl (C.alloc _) _ _ _ rfl rfl (Bd _ _ _ _ rfl) (by simp only[Eh];omega) ?_;intro v' F h6)
          go_roundg (Z-(V+1))
          case measure=>omega
          exact⟨V+1,by omega,by go_num,by rw[Ed,<- aB];exact h6⟩
         obtain rfl:V=Z:=(by omega);go_wp2;go_meet;exact⟨_,by unfold Hid;rw[if_pos (by omega),EZ.out,EM.out,H4.out];simp only[aB],by simp only[aC,Dg];omega,C⟩
       as_aux_lemma =>
        go_wp2;go_meet;exact⟨_,by unfold Hid;rw[if_neg (by omega)];simp only[List.append_nil],by simp only[aC,aD,aE];omega,h3⟩
      as_aux_lemma =>
       obtain⟨O,H3,w1,y0⟩:=hcut;obtain⟨B,A⟩:∃B:Int,(if nd=0 then 0 else dp-1)=B:=⟨_,rfl⟩;have t0 : -901<=B:=by split at A<;>omega
       have v0:B<=901:=by split at A<;>omega
       have HE:Hid (z++Ic ng f nd dp d l n=O++LV D B):=by
        unfold Hid;rw[a0.out,Ry,OG,A,H3.out,H1.out,w0.out];simp only[aB]
       clear f0
       go_upto_if 127 with(at_builtin;refine AS _ rfl _ _ 41 rfl 5 H (.int .u8 0) underlying41 s t x y rfl _ _ _ _ [aA D] rfl (y0.alloc _) _ _ _ rfl rfl (Bd _ _ _ _ (Bl d1).symm) (by simp only[Eh];omega) ?_;intro v' F S)
       go_cut [0,22] (fun u c o=>Dy w 5 G u o (O++[aA D])/\c = .int .i64 B)
       case first =>
        as_aux_lemma =>
         by_cases P:nd=0
         ·have b0:((nd:Int)==0)=true:=by rw[P];rfl
          obtain rfl:0=B:=by rw[if_pos P] at A;exact A
          go_wp2;go_meet;exact⟨S,rfl⟩
         have b0:((nd:Int)==0)=false:=beq_eq_false_iff_ne.2 (by omega);obtain rfl:dp-1=B:=by rw[if_neg P] at A;exact A
         go_wp2;go_meet;exact⟨S,rfl⟩
       obtain⟨K,rfl⟩:=hcut
       as_aux_lemma =>
        obtain⟨r,o0⟩:∃r:Nat,B.natAbs=r:=⟨_,rfl⟩;have b2:r<=901:=by omega
        go_upto_if 129 with fail
        go_cut [0,19,22] (fun u ch c o=>Dy w 5 G u o (O++[aA D])/\c = .int .i64 r/\ch = .int .u8 ((if B<0 then 45 else 43:UInt8)).toNat)
        case first =>
         as_aux_lemma =>
          by_cases hx:B<0
          ·obtain rfl:B = -(r:Int):=by omega
           go_wp2;go_meet;exact⟨K,by go_num,by rw[if_pos hx];rfl⟩
          obtain rfl:B=(r:Int):=(by omega);go_wp2;go_meet;exact⟨K,rfl,by rw[if_neg (by omega)];rfl⟩
        as_aux_lemma =>
         obtain⟨C,rfl,rfl⟩:=hcut
         have Y:Hid (z++Ic ng f nd dp d l n=(O++[aA D])++[if B<0 then 45 else 43]++JG r):=by
          unfold Hid;rw[HE.out,LV,o0];simp only[aB];rfl
         clear HE a0;generalize (if B<0 then 45 else 43:UInt8)=cs at *;clear o0 t0 v0 A;by_cases e0:r<10
         ·have e1:JG r=[48,aA (r+48)]:=by unfold JG;rw[if_pos e0]
          have b1:(r:Int)%256=r:=by omega
          as_aux_lemma =>
           go_wp2_with (first | (at_builtin;refine AS _ rfl _ _ 41 rfl 5 H (.int .u8 0) underlying41 s t x y rfl _ _ _ _ [cs] rfl (C.alloc _) _ _ _ rfl rfl (Bd _ _ _ _ rfl) (by simp only[Eh];omega) ?_;intro v' F h6) | (at_builtin;refine AS _ rfl _ _ 41 rfl 5 H (.int .u8 0) underlying41 s t x y rfl _ _ _ _ [48,aA (r+48)] rfl (h6.alloc _) _ _ _ rfl rfl (JW _ _ _ _ _ _ rfl (by rw[Bl (by omega)];omega)) (by simp only[Eh];omega) ?_;intro v' F h7))
           go_ret;exact⟨_,rfl,by rw[Y.out,e1];exact h7⟩
         by_cases Q:r<100
         ·have e1:JG r=[aA (r/10+48),aA (r%10+48)]:=by unfold JG;rw[if_neg e0,if_pos Q]
          as_aux_lemma =>
           go_wp2_with (first | (at_builtin;refine AS _ rfl _ _ 41 rfl 5 H (.int .u8 0) underlying41 s t x y rfl _ _ _ _ [cs] rfl (C.alloc _) _ _ _ rfl rfl (Bd _ _ _ _ rfl) (by simp only[Eh];omega) ?_;intro v' F h6) | (at_builtin;refine AS _ rfl _ _ 41 rfl 5 H (.int .u8 0) underlying41 s t x y rfl _ _ _ _ [aA (r/10+48),aA (r%10+48)] rfl (h6.alloc _) _ _ _ rfl rfl (JW _ _ _ _ _ _ (by rw[Bl (by omega)];omega) (by rw[Bl (by omega)];omega)) (by simp only[Eh];omega) ?_;intro v' F h7))
           go_ret;exact⟨_,rfl,by rw[Y.out,e1];exact h7⟩
         have e1:JG r=[aA (r/100+48),aA (r/10%10+48),aA (r%10+48)]:=by unfold JG;rw[if_neg e0,if_neg Q]
         as_aux_lemma =>
          go_wp2_with (first | (at_builtin;refine AS _ rfl _ _ 41 rfl 5 H (.int .u8 0) underlying41 s t x y rfl _ _ _ _ [cs] rfl (C.alloc _) _ _ _ rfl rfl (Bd _ _ _ _ rfl) (by simp only[Eh];omega) ?_;intro v' F h6) | (at_builtin;refine AS _ rfl _ _ 41 rfl 5 H (.int .u8 0) underlying41 s t x y rfl _ _ _ _ [aA (r/100+48),aA (r/10%10+48),aA (r%10+48)] rfl (h6.alloc _) _ _ _ rfl rfl (O9 _ _ _ _ _ _ _ _ (by rw[Bl (by omega)];omega) (by rw[Bl (by omega)];omega) (by rw[Bl (by omega)];omega)) (by simp only[Eh];omega) ?_;intro v' F h7))
          go_ret;exact⟨_,rfl,by rw[Y.out,e1];exact h7⟩
end Go.Proofs.YtipfpohlnhmlpaaGreatDoor
