/- Ft -/
import Derived.Test.YtipfpohlnhmlpaaGreatDoorGo
set_option maxRecDepth 100000
set_option maxHeartbeats 3200000
open Go.Value renaming int->aA
open Go.Lib renaming bitLen->aB,hid->aC
namespace Go.Proofs.YtipfpohlnhmlpaaGreatDoor
open Go.Proofs.Tryz
open Go.RowKit
theorem OX (M b:Nat) (e:Int) (n:1<=b) (o:b<=53) (j:M*2^(64-b)<18446744073709551616) (p : -1074-(64-(b:Int))<=e):E5 (M*2^(64-b)) e<18446744073709551616:=by
 have m:1<=GF e/\GF e<=64-b:=by unfold GF;split<;>omega
 obtain⟨s,i⟩:∃s,64-b=s:=⟨_,rfl⟩;rw[i] at j m ⊢;have l:2^(GF e-1)<2^s:=Nat.pow_lt_pow_right (by decide) (by omega);have c:(18446744073709551616:Nat)=2^b*2^s:=(by rw[<- Nat.pow_add,<- i,show b+(64-b)=64 by omega]);have k:M<2^b:=Nat.lt_of_mul_lt_mul_right (a:=2^s) (by rw[<- c];exact j);have d:(M+1)*2^s<=2^b*2^s:=Nat.mul_le_mul_right _ k;rw[<- c,Nat.add_mul,Nat.one_mul] at d;unfold E5;obtain⟨A,f⟩:∃A,M*2^s=A:=⟨_,rfl⟩;obtain⟨B,g⟩:∃B,2^s=B:=⟨_,rfl⟩;obtain⟨C,h⟩:∃C,2^(GF e-1)=C:=⟨_,rfl⟩;rw[f,g] at d;rw[g,h] at l;rw[f,h];omega
theorem Sx (M:Nat) (e:Int) (a : -1137<=e) (c:e<=960) (j:9223372036854775808<=M) (f:M<18446744073709551616) (d:E5 M e<18446744073709551616) :
  1<=(OW M e).1/\(OW M e).1<18446744073709551616 /\ -400<=(OW M e).2/\(OW M e).2<=400:=by
 obtain⟨k,l,_,_⟩:=SB M e a c;obtain⟨s,t⟩:=SA e a
 have b:4611686018427387904<=FB M e/\FB M e<18446744073709551616:=by
  unfold FB;split
  ·have:=(IY 9 (by omega)).2;omega
  have:=(IY (GF e-1) (by omega)).2;obtain⟨T,i⟩:∃T,2^(GF e-1)=T:=⟨_,rfl⟩;rw[i] at this ⊢;omega
 have g:4611686018427387904<=E5 M e:=by unfold E5;exact Nat.le_trans (by omega) (Nat.le_add_right M _)
 obtain⟨u1,u2⟩:=G' M e (FB M e) a c b.1 b.2;obtain⟨q,r⟩:=G' M e (E5 M e) a c g d;obtain⟨o,p⟩:=G' M e M a c (by omega) f;have n:=Sy M e;have h:1<=Jf M e/\Jf M e<18446744073709551616:=by unfold Jf;omega
 have m:H8 M e<18446744073709551616:=by unfold H8;omega
 unfold OW;split
 ·refine⟨?_,?_,?_,?_⟩
  ·show 1<=H8 M e/10;omega
  ·show H8 M e/10<_;omega
  ·show _ <= -(H9 M e-1);omega
  show -(H9 M e-1)<=_;omega
 split
 ·refine⟨?_,?_,?_,?_⟩
  ·show 1<=Ch (OY M e M);unfold Ch;omega
  ·show Ch (OY M e M)<_;unfold Ch;omega
  ·show _ <= -H9 M e;omega
  show -H9 M e<=_;omega
 refine⟨h.1,h.2,?_,?_⟩
 ·show _ <= -H9 M e;omega
 show -H9 M e<=_;omega
def Kt (M:Nat) (E:Int):Nat:=(OW (M*2^(64-aB M)) (E-(64-(aB M:Int))-52)).1
def VU (M:Nat) (E:Int):Int:=(OW (M*2^(64-aB M)) (E-(64-(aB M:Int))-52)).2
def Lg (a:Bool) (M:Nat) (E:Int):List UInt8 :=
 Ic a (Ra (Kt M E) (Hw (Kt M E))) (Bk (Hw (Kt M E)) (Kt M E)).1 ((Hw (Kt M E):Int)+VU M E) ((Bk (Hw (Kt M E)) (Kt M E)).1:Int) 103 true
theorem Iv (M:Nat) (a:M≠0) (b:M<9007199254740992):9223372036854775808<=M*2^(64-aB M):=by
 have c:aB M=Lib.bitLenAux 64 M:=rfl;obtain⟨d,e,f⟩:=Fk M a b;rcases EH 64 M (by rw[show (2:Nat)^64=18446744073709551616 from by decide];omega) with⟨h,_⟩ | ⟨h2,h3,h4,h5⟩
 ·omega
 rw[<- c] at h2;have:2^(aB M-1)*2^(64-aB M)<=M*2^(64-aB M):=Nat.mul_le_mul_right _ h2;rw[<- Nat.pow_add,show aB M-1+(64-aB M)=63 by omega] at this;exact this
theorem Ni (x:Nat) (w:World) (v:Value) (K:Nat) (hx:x<18446744073709551616) (hE:J8 x≠2047) (hm:JH x≠0) (hL:DE w) (hv:B_ w 5 v K []) :
  Calls prog 122 #[v,.float .f64 x,.int .u8 103,.int .i64 (-1)] w fun e l=>∃v',e = .returned v'/\Dy w 5 K v' l (Lg (Vp x) (JH x) ((LY x:Nat)-1023)):=by
 have a1:bits .and .i64 ((x:Int)/4503599627370496) 2047=(J8 x:Nat):=by
  have:=QW (x/4503599627370496) (by omega)
  rwa [show ((x/4503599627370496:Nat):Int)=(x:Int)/4503599627370496 by omega] at this
 have a2:=V6 x hx;have w0:J8 x<2048:=by unfold J8;omega
 have o0:Tl x<4503599627370496:=by unfold Tl;omega
 have a3:=W7 (Tl x) o0;have HF:=Rq x;have c1:=hL.lt.le.lf.opt;have bE:(((J8 x:Nat):Int)==2047)=false:=beq_eq_false_iff_ne.2 (by omega);obtain⟨ng,J⟩:∃ng,Vp x=ng:=⟨_,rfl⟩
 have t0:((x:Int)/9223372036854775808 != 0)=ng:=by
  rw[<- J];unfold Vp;by_cases h:9223372036854775808<=x
  ·rw[decide_eq_true h,bne_iff_ne];omega
  rw[decide_eq_false h];simp;omega
 obtain⟨T,G⟩:∃T,Lg (Vp x) (JH x) ((LY x:Nat)-1023)=T:=⟨_,rfl⟩;rw[G];rw[J] at G;have R:=aC hL;have S:=aC hv;clear hL J hv
 go_in
 go_upto_region 14 with fail
 go_quiet (fail)
 go_upto_region 22 with fail
 go_cut [78] (fun v N=>∃c:Bool,v = .bool c/\Hid (c=decide (J8 x=0))/\∃q,N=w.drewN q)
 case first =>
  by_cases o:J8 x=0
  ·have b0:(((J8 x:Nat):Int)==0)=true:=beq_iff_eq.2 (by omega)
   go_wp2;go_meet;exact⟨true,rfl,by simp[Hid,o],_,rfl⟩
  have b0:(((J8 x:Nat):Int)==0)=false:=beq_eq_false_iff_ne.2 (by omega);go_wp2;go_meet;exact⟨false,rfl,by simp[Hid,o],_,rfl⟩
 obtain⟨c0,rfl,y,q,rfl⟩:=hcut
 go_upto_if 78 with(fail)
 go_cut [14,15] (fun e m N=>e = .int .i64 (LY x)/\m = .int .u64 (JH x)/\N=w.drewN q)
 case first =>
  as_aux_lemma =>
   by_cases o:J8 x=0
   ·have hc:c0=true:=by rw[y.out];simp[o]
    have e1:(LY x:Int)=1:=by unfold LY;rw[if_pos o];rfl
    have e2:JH x=Tl x:=by unfold JH;rw[if_pos o]
    have y0:((J8 x:Nat):Int)=0:=(by omega);subst hc;go_wp2;go_meet;exact⟨by rw[e1],by rw[e2],rfl⟩
   have hc:c0=false:=by rw[y.out];simp[o]
   have e1:LY x=J8 x:=by unfold LY;rw[if_neg o]
   have e2:JH x=Tl x+4503599627370496:=by unfold JH;rw[if_neg o]
   subst hc;go_wp2;go_meet;exact⟨by rw[e1],by rw[e2];congr 1,rfl⟩
 obtain⟨rfl,rfl,rfl⟩:=hcut;have F:=Rr x;have g0:1<=LY x/\LY x<=2046:=by unfold LY;split<;>omega
 obtain⟨M,eM⟩:∃M,JH x=M:=⟨_,rfl⟩;obtain⟨EE,eE⟩:∃EE,LY x=EE:=⟨_,rfl⟩;rw[eM] at hm F G ⊢;rw[eE] at g0 G ⊢;have bM:((M:Int)==0)=false:=beq_eq_false_iff_ne.2 (by omega);have s0:((103:Int)==98)=false:=(by decide);have a0:((103:Int)==120)=false:=(by decide);have r0:((103:Int)==88)=false:=(by decide);clear y a1 a2 a3 bE hE w0 o0 t0 HF eM eE
 go_upto_region 33 with fail
 obtain⟨E,eE⟩:∃E:Int,(EE:Int) + -1023=E:=⟨_,rfl⟩;have d0:(EE:Int)-1023=E:=(by omega);have z0 : -1022<=E/\E<=1023:=(by omega);rw[eE];rw[d0] at G;clear eE d0 g0;obtain⟨i0,j0,f⟩:=Fk M hm F;have a:=Iv M hm F;have u:B_ w 5 v K (Ge []):=S.out;have I:K<w.heap.size:=u.lt;have Q:=aC (fun W=>G2 M W (by omega));have k:=OX M (aB M) (E-(64-(aB M:Int))-52) i0 j0 f (by omega);have n0:=Sx (M*2^(64-aB M)) (E-(64-(aB M:Int))-52) (by omega) (by omega) a f k
 have b:Hid (∀W,Below w.heap.size w W->Calls prog 151 #[.int .u64 (M*2^(64-aB M):Nat),.int .i64 (E-(64-(aB M:Int))-52)] W fun en l=>en = .returned (.tuple #[.int .u64 (Kt M E),.int .i64 (VU M E)])/\Below W.heap.size W l) :=
  fun W hW=>Ji (M*2^(64-aB M)) (E-(64-(aB M:Int))-52) W (R.out.below hW) (by omega) (by omega) a f k
 have g:T=Ic ng (Ra (Kt M E) (Hw (Kt M E))) (Bk (Hw (Kt M E)) (Kt M E)).1 ((Hw (Kt M E):Int)+VU M E) ((Bk (Hw (Kt M E)) (Kt M E)).1:Int) 103 true:=G.symm;have L:1<=Kt M E/\Kt M E<18446744073709551616 /\ -400<=VU M E/\VU M E<=400:=n0;obtain⟨U,eU⟩:∃U,Kt M E=U:=⟨_,rfl⟩;obtain⟨P,eP⟩:∃P,VU M E=P:=⟨_,rfl⟩;rw[eU,eP] at b g L;obtain⟨LN,e0⟩:∃LN,aB M=LN:=⟨_,rfl⟩;rw[e0] at i0 j0 f Q b a;obtain⟨mm,B⟩:∃mm:Nat,M*2^(64-LN)=mm:=⟨_,rfl⟩;rw[B] at f b a
 have d1:IntKind.u64.wrap ((M:Int)*2^(64-LN))=(mm:Nat):=by
  have e1:(M:Int)*2^(64-LN)=(mm:Nat):=by rw[<- B];push_cast;rfl
  rw[e1,IntKind.wrap_u64];omega
 obtain⟨n1,n2,n3,n4,_⟩:=Ny U (by omega) L.2.1;have z:Hid (∀W,Below w.heap.size w W->Calls prog 95 #[.int .u64 U] W fun e l=>e = .returned (.int .i64 (Hw U))/\W=l):=fun W hW=>JM U (by omega) L.2.1 W (R.out.below hW);have p0:=Jx (Hw U) U
 have p:∀W,FV W w.heap.size (fun _=>0) (Hw U)->Calls prog 147 #[.slice (some ⟨w.heap.size,0,none⟩) 32 32,.int .u64 U,.int .i64 P,.int .i64 (Hw U)] W fun e l=>e = .returned (.tuple #[.int .i64 ((Hw U:Int)+P),.int .i64 (Bk (Hw U) U).1])/\FV l w.heap.size (Ra U (Hw U)) (Hw U)/\Ae w.heap.size W l :=
  fun W hB=>MC W w.heap.size U (Hw U) 32 P (fun _=>0) hB (fun _=>by decide) (by omega) (by omega) n4 L.2.1 (by omega) (by omega)
 obtain⟨n,en⟩:∃n,Hw U=n:=⟨_,rfl⟩;obtain⟨nz,f0⟩:∃nz,(Bk n U).1=nz:=⟨_,rfl⟩;rw[en] at z g p p0 n1 n2;rw[f0] at g p p0;have X:=aC g;have V:=aC p;have b1 : -400<=P/\P<=400:=L.2.2;clear G g p n3 n4 en f0 eU eP B e0 L n0 k bM s0 a0 r0 a
 go_upto_region 34 with fail
 obtain⟨Z,eZ⟩:∃Z,(w.drewN q).alloc (Obj.cells #[aA IntKind.u8 0,aA IntKind.u8 0,aA IntKind.u8 0,aA IntKind.u8 0,aA IntKind.u8 0,aA IntKind.u8 0,aA IntKind.u8 0,aA IntKind.u8 0,aA IntKind.u8 0,aA IntKind.u8 0,aA IntKind.u8 0,aA IntKind.u8 0,aA IntKind.u8 0,aA IntKind.u8 0,aA IntKind.u8 0,aA IntKind.u8 0,aA IntKind.u8 0,aA IntKind.u8 0,aA IntKind.u8 0,aA IntKind.u8 0,aA IntKind.u8 0,aA IntKind.u8 0,aA IntKind.u8 0,aA IntKind.u8 0,aA IntKind.u8 0,aA IntKind.u8 0,aA IntKind.u8 0,aA IntKind.u8 0,aA IntKind.u8 0,aA IntKind.u8 0,aA IntKind.u8 0,aA IntKind.u8 0] 194)=Z:=⟨_,rfl⟩
 have k0:Below w.heap.size w Z:=by rw[<- eZ];exact(below_drewN (Below.refl _ _) q).alloc (Nat.le_refl _) _
 have m0:w.heap.size<Z.heap.size:=by rw[<- eZ];simp
 have l0:FV Z w.heap.size (fun _=>0) 32:=by rw[<- eZ];exact Pd (w.drewN q) 194 32 _ rfl
 rw[eZ];clear eZ;have A:=aC k0;have Y:=aC l0;clear k0 l0
 go_upto_region 38 with(first | (go_at_call 117;refine(Q.out _).mono ?_;rintro e l ⟨rfl,rfl⟩) | (go_at_call 151;refine(b.out _ A.out).mono ?_;rintro e w2 ⟨rfl,H⟩))
 have j:Below w.heap.size w w2:=A.out.trans (H.mono (Nat.le_of_lt m0))
 have C:FV w2 w.heap.size (fun _=>0) n:=by
  have h:=Y.out.only (Ae.of_below (w.heap.size+1) H) (by omega) m0;exact⟨fun i hi=>h.d i (by omega),h.fz⟩
 have t:=aC (fun m=>V.out (w2.drewN m) ⟨fun i hi=>C.d i hi,fun i=>C.fz i⟩);have s:=aC (fun m=>z.out (w2.drewN m) (below_drewN j m));have r:=aC j;clear V z C j H b
 go_cut [22,23] (fun dv nv N=>dv = .int .i64 ((n:Int)+P)/\nv = .int .i64 nz/\Hid (FV N w.heap.size (Ra U n) n)/\Hid (Below w.heap.size w N))
 case first =>
  go_region_with (first | (go_at_call 95;refine(s.out _).mono ?_;rintro e l ⟨rfl,rfl⟩) | (go_at_call 147;refine(t.out _).mono ?_;rintro e w3 ⟨rfl,v0,x0⟩))
  all_goals go_wp2
  all_goals go_meet
  all_goals exact⟨rfl,rfl,aC v0,aC (x0.below_of (below_drewN r.out _) (Nat.le_refl _) (by have:=r.out.size;simpa using this))⟩
 obtain⟨rfl,rfl,O,HB⟩:=hcut;have D:=Nh wc K v (.slice (some ⟨w.heap.size,0,none⟩) 32 32) [] ng true (Ra U n) nz ((n:Int)+P) nz 103 (u.kept (HB.out.block K I)) (by decide) (.inr ⟨w.heap.size,32,32,rfl,by omega,by decide,by decide,by decide,by omega,fun i hi=>O.out.d i (by omega)⟩) (fun i=>Vl _ _ i) (by decide) (by omega) (by omega) (by omega) (by omega) (by omega);rw[<- X.out] at D;have q0:=aC D;clear D X t s A Y O
 go_wp2_with (go_at_call 145;refine q0.out.mono ?_;rintro e w5 ⟨v',rfl,hA⟩)
 go_ret;exact⟨v',rfl,Q0 (m:=0) HB.out hA⟩
end Go.Proofs.YtipfpohlnhmlpaaGreatDoor
