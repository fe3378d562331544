/- Fu Yh Yi Yj Yk Ob Rj -/
import Derived.Test.YtipfpohlnhmlpaaGreatDoorFt
import Derived.Test.YtipfpohlnhmlpaaGreatDoorNg
import Derived.Test.YtipfpohlnhmlpaaGreatDoorGu
import Derived.Test.YtipfpohlnhmlpaaGreatDoorFe
import Derived.Test.YtipfpohlnhmlpaaGreatDoorYe
import Derived.Test.YtipfpohlnhmlpaaGreatDoorWb
import Derived.Test.YtipfpohlnhmlpaaGreatDoorEw
import Derived.Test.YtipfpohlnhmlpaaGreatDoorMb
set_option maxRecDepth 100000
set_option maxHeartbeats 4000000
open Go.Lib renaming hid->aA,VarReads->aC,extract_data->aF,pow10Tab->aN,TabIs->aW
open List renaming length_append->aB,length_nil->aH,drop_zero->aI,getD_eq_getElem?_getD->aJ,getElem?_eq_getElem->aK,length_cons->aL,length_drop->aM,getElem?_take->aR,getElem?_drop->aS,getElem?_map->aU
open Option renaming some->aD
open BitVec renaming ofInt->aE
open ByteArray renaming size_extract->aG
open Nat renaming le_refl->aP
namespace Go.Proofs.YtipfpohlnhmlpaaGreatDoor
open Go.Proofs.Tryz
open Go.RowKit
theorem Rn (e:Nat):(JG e).length<=3:=by
 unfold JG;split
 ·simp
 split<;>simp
theorem Ro (a:Nat) (e:Int):(LV a e).length<=5:=by
 have:=Rn e.natAbs;unfold LV;rw[aB];simp only[aL,aH];omega
theorem PN (f:Nat->Nat) (nd:Nat) (a:Int) (h:nd<=20) (b:a<=20):(OG f nd a).length<=44:=by
 unfold OG;rw[aB,show ([if nd=0 then (48:UInt8) else UInt8.ofNat (f 0)]:List UInt8).length=1 from rfl];split
 ·simp only[aB,aL,aH,Cm,Dg]
  omega
 simp only[aH];omega
theorem QK (f:Nat->Nat) (nd:Nat) (dp:Int) (h:dp<=6):(Gf f nd dp).length<=6:=by
 unfold Gf;split
 ·simp only[aB,Cm,Dg]
  omega
 simp
theorem RD (f:Nat->Nat) (nd:Nat) (dp a:Int) (g:a<=30):(Gq f nd dp a).length<=31:=by
 unfold Gq;split
 ·obtain⟨z,b⟩:∃z,Nv dp a=z:=⟨_,rfl⟩
  obtain⟨m,c⟩:∃m,K3 nd dp a=m:=⟨_,rfl⟩;have d:z<=a.toNat:=by rw[<- b];unfold Nv;omega
  have e:m<=a.toNat-z:=by rw[<- c];unfold K3;rw[b];omega
  rw[b,c];simp only[aB,aL,aH,Cm,Dg];omega
 simp
theorem N6 (b:Bool) (f:Nat->Nat) (nd:Nat) (dp:Int) (h:nd<=20):(Ic b f nd dp nd 103 true).length<=64:=by
 have g:=Sv b;unfold Ic;rw[if_pos (.inl rfl)];split
 ·have c:=PN f nd (min (nd:Int) nd-1) h (by omega)
  have d:=Ro (103-2) (if nd=0 then 0 else dp-1);unfold Ry;simp only[aB];omega
 rename_i a
 have e : -4<=dp-1/\dp-1<6:=by
  unfold gE at a;simp at a;omega
 have c:=QK f nd dp (by omega);have d:=RD f nd dp (max ((if (nd:Int)>dp then (nd:Int) else nd)-dp) 0) (by split<;>omega);unfold RB;simp only[aB];omega
theorem L4 (w:World) (b:Nat) (v:Value) (h:B_ w 5 v b (Ge [])) :
  Calls prog 145 #[v,.bool false,.slice none 0 0,.int .i64 0,.int .i64 0,.int .i64 (-1),.int .u8 103,.bool true] w fun e i=>∃v',e = .returned v'/\Dy w 5 b v' i [48]:=by
 obtain⟨k,c,d,f,g⟩:=info_parts Tryz.info_u8';have a:Dy w 5 b v w []:=Dy.start h;clear h
 go_in
 go_wp2_with (at_builtin;refine AS _ rfl _ _ 41 rfl 5 k (.int .u8 0) underlying41 c d f g rfl _ _ _ _ [48] rfl (a.alloc _) _ _ _ rfl rfl (Bd _ _ _ _ rfl) (by simp only[Eh];omega) ?_;intro v' i j)
 go_ret;exact⟨_,rfl,j⟩
theorem Nj (w:World) (v:Value) (a:Nat) (d:B_ w 5 v a []) :
  Calls prog 122 #[v,.float .f64 0,.int .u8 103,.int .i64 (-1)] w fun e c=>∃v',e = .returned v'/\Dy w 5 a v' c [48]:=by
 have h:bits .and .i64 0 2047=0:=(by decide +kernel);have i:bits .and .u64 0 4503599627370495=0:=(by decide +kernel);have g:=Rq 0
 have b:Hid (∀m:Nat,Calls prog 145 #[v,.bool false,.slice none 0 0,.int .i64 0,.int .i64 0,.int .i64 (-1),.int .u8 103,.bool true] (w.drewN m) fun e c=>∃v',e = .returned v'/\Dy (w.drewN m) 5 a v' c [48]):=fun m =>
  L4 (w.drewN m) a v (d.kept rfl)
 clear d
 go_in
 go_upto_region 14 with fail
 go_quiet (fail)
 go_wp2_with (go_at_call 145;refine(b.out _).mono ?_;rintro e j ⟨v',rfl,f⟩)
 go_ret;exact⟨v',rfl,Tv f⟩
def UX (x:Nat):List UInt8:=if JH x=0 then [48] else Lg false (JH x) ((LY x:Nat)-1023)
def VS (x:Nat):List UInt8:=if (UX x).length<=64 then UX x else []
theorem TI (x:Nat):(VS x).length<=64:=by
 unfold VS;split
 ·assumption
 simp
theorem TY {x:Nat} (f:x<18446744073709551616) (h:ER x=true):J8 x≠2047/\Vp x=false:=by
 unfold ER at h;simp only[Bool.and_eq_true,Bool.not_eq_true',decide_eq_false_iff_not] at h;obtain⟨a,b,c⟩:=h;have i:x<9223372036854775808:=by unfold RowKit.wrap64 at c;omega
 refine⟨fun d=>?_,by unfold Vp;exact decide_eq_false (by omega)⟩;unfold J8 at d;by_cases g:x%9223372036854775808=9218868437227405312
 ·have e:x=9218868437227405312:=by omega
  subst e
  revert b
  have o:FloatKind.f64.format.order 9218868437227405312 9218868437227405311=some .gt:=(by kernel_rfl);rw[o];decide
 have o:=PQ f (by omega) 0;rw[o] at a
 revert a
 decide
theorem TK {x:Nat} (a:x<9223372036854775808) (h:JH x=0):x=0:=by
 unfold JH Tl J8 at h;split at h<;>omega
theorem Ql (x:Nat) (W:World) (r:x<18446744073709551616) (u:ER x=true) (t:DE W) :
  Calls prog 77 #[.float .f64 x,.int .u8 103,.int .i64 (-1),.int .i64 64] W fun e h=>e = .returned (.string ⟨(VS x).toArray⟩)/\Below W.heap.size W h:=by
 obtain⟨o,k⟩:=TY r u;have g:x<9223372036854775808:=by unfold Vp at k;have:=of_decide_eq_false k;omega
 have a:(UX x).length<=64:=by
  unfold UX;split
  ·decide
  rename_i c
  unfold Lg;have p:=Rr x;obtain⟨i,j,d⟩:=Fk (JH x) c p;have y:1<=LY x/\LY x<=2046:=by unfold LY J8;unfold J8 at o;split<;>omega
  have b:=Sx (JH x*2^(64-Lib.bitLen (JH x))) (((LY x:Nat):Int)-1023-(64-(Lib.bitLen (JH x):Int))-52) (by omega) (by omega) (Iv _ c p) d (OX _ _ _ i j d (by omega));have w:=Ny (Kt (JH x) (((LY x:Nat):Int)-1023)) (by have:=b.1;unfold Kt;omega) b.2.1;exact N6 false _ _ _ (Nat.le_trans (Jx _ _) w.2.1)
 have f:VS x=UX x:=by unfold VS;rw[if_pos a]
 rw[f]
 have s:Hid (Calls prog 98 #[.float .f64 x,.int .u8 103,.int .i64 (-1),.int .i64 64] W fun e h=>e = .returned (.string ⟨(UX x).toArray⟩)/\Below W.heap.size W h):=by
  refine PC x 103 (-1) (UX x) W (by decide) (by decide) (by omega) fun m v n l b q=>?_;unfold UX;by_cases c:JH x=0
  ·rw[if_pos c]
   obtain rfl:=TK g c;exact Nj m v n q
  rw[if_neg c];have:=Ni x m v n r o c (t.below l) q;rw[k] at this;exact this
 clear a f
 go_in
 go_wp2_with (go_at_call 98;refine s.out.mono ?_;rintro e h ⟨rfl,l⟩)
 go_ret;exact⟨rfl,l⟩
theorem Tt (a:Int):0<=bits .and .u64 a 4503599627370495/\bits .and .u64 a 4503599627370495<4503599627370496:=by
 obtain⟨A,f,b⟩:∃A:Nat,A<18446744073709551616/\bits .and .u64 a 4503599627370495=bits .and .u64 (A:Int) 4503599627370495:=by
  refine⟨(aE 64 a).toNat,(aE 64 a).isLt,?_⟩;show IntKind.u64.wrap ((aE 64 a&&&aE 64 4503599627370495).toNat:Int)=IntKind.u64.wrap ((aE 64 (((aE 64 a).toNat:Nat):Int)&&&aE 64 4503599627370495).toNat:Int);have e:∀X:BitVec 64,aE 64 ((X.toNat:Nat):Int)=X:=fun X=>by rw[BitVec.ofInt_natCast];simp
  rw[e]
 rw[b];have h:=bits_and_u64_nat A 4503599627370495 f (by omega);have c:=Nat.and_le_right (n:=A) (m:=4503599627370495);generalize A&&&4503599627370495=B at h c;have d:bits .and .u64 (A:Int) 4503599627370495=(B:Int):=h;rw[d];omega
theorem ET {m:Nat} {e:Int} (h:(0<=e+1023/\e+1023<=2046)\/(e=1024/\m=0)):PP (G6 false m e).toNat:=by
 unfold G6 PP;rw[if_neg (by decide)];rcases h with⟨j,k⟩ | ⟨rfl,rfl⟩
 ·obtain⟨q,f⟩:∃q:Nat,e+1023=q:=⟨(e+1023).toNat,by omega⟩
  obtain⟨i,b⟩:=Tt (m:Int);obtain⟨A,c⟩:∃A:Nat,bits .and .u64 (m:Int) 4503599627370495=A:=⟨(bits .and .u64 (m:Int) 4503599627370495).toNat,by omega⟩;rw[c] at b ⊢;rw[f];have h:=R9 A q (by omega) (by omega);obtain⟨Z,d⟩:∃Z,q*4503599627370496=Z:=⟨_,rfl⟩;have g:(q:Int)*4503599627370496=(Z:Int):=(by omega);have a:Z<18446744073709551616:=(by omega);rw[d] at h;rw[g,ON A Z (by omega) a];exact h
 have h:(bits .or .u64 (bits .and .u64 ((0:Nat):Int) 4503599627370495) ((1024+1023)*4503599627370496)).toNat=9218868437227405312:=(by kernel_rfl);exact Nat.le_of_eq h
theorem QD (m:Nat) (z:Int) (e:Int) (c : -1022<=e) (d:z = -1023\/z=e) (h:¬ 2047<=e+1023):PP (G6 false (if m=9007199254740992 then (if 2047<=e+1+1023 then ((0:Nat),(1024:Int),true) else (4503599627370496,e+1,false)) else (m,z,false)).1 (if m=9007199254740992 then (if 2047<=e+1+1023 then ((0:Nat),(1024:Int),true) else (4503599627370496,e+1,false)) else (m,z,false)).2.1).toNat:=by
 by_cases b:m=9007199254740992
 ·rw[if_pos b]
  by_cases a:2047<=e+1+1023
  ·rw[if_pos a];exact ET (.inr ⟨rfl,rfl⟩)
  rw[if_neg a];refine ET (.inl ?_);show 0<=e+1+1023/\e+1+1023<=2046;omega
 rw[if_neg b];refine ET (.inl ?_);show 0<=z+1023/\z+1023<=2046;omega
def O5 (m:Nat) (e:Int):Nat×Int×Bool :=
 if m=9007199254740992 then (if 2047<=e+1+1023 then (0,1024,true) else (4503599627370496,e+1,false))
 else (m,if bits .and .u64 (m:Int) 4503599627370496=0 then -1023 else e,false)
theorem PA (s:DS) (e:Int):Eg s e=if 2047<=e+1023 then (0,1024,true) else O5 (QN (DD s 53)) e:=rfl
theorem S7 (m:Nat) (e:Int) (a : -1022<=e) (h:¬ 2047<=e+1023):PP (G6 false (O5 m e).1 (O5 m e).2.1).toNat:=by
 unfold O5;exact QD m _ e a (by split;exact .inl rfl;exact .inr rfl) h
theorem J9 (s:DS) (e:Int) (a : -1022<=e):PP (G6 false (Eg s e).1 (Eg s e).2.1).toNat:=by
 rw[PA];generalize QN (DD s 53)=m;by_cases h:2047<=e+1023
 ·rw[if_pos h];exact ET (.inr ⟨rfl,rfl⟩)
 rw[if_neg h];exact S7 m e a h
theorem Rx (s:DS):PP (G6 false (Bj s).1 (Bj s).2.1).toNat:=by
 unfold Bj;split
 ·exact ET (.inl ⟨by decide,by decide⟩)
 split
 ·exact ET (.inr ⟨rfl,rfl⟩)
 split
 ·exact ET (.inl ⟨by decide,by decide⟩)
 unfold Hr;split
 ·exact J9 _ _ (by omega)
 exact J9 _ _ (by omega)
theorem KJ (s:ByteArray) (j:s.size<=140737488351232) (i:∀c∈s.data.toList,c∈BC) (m:Nat) (p:Int) (n:Nat)
  (t:rf s.data.toList=⟨m,p,false,false,n,true⟩) (f:m≠0) (o:m<18446744073709551616) (q : -345<=p) (r:p<=310):∃x v,PP x/\V9 s n x v:=by
 have A:=aA (fun W=>Gc s W j i);have z:=aA (fun W=>E0 s W j i m p false false n true t);have I:((m:Int)==0)=false:=beq_eq_false_iff_ne.2 (by omega);obtain⟨x,b,u,g,l⟩:=Pu m p (by omega) (by omega);have y:=aA l
 cases b with
 | true =>
   refine⟨x,.nilIface,g,u,.inl rfl,fun w a=>?_⟩;have F:=a.lt.le.lf.opt;have k:=aA a.lt.le.lf;clear l i t f j a o u g
   all_goals
    go_in
    go_wp2_with (first | (go_at_call 101;refine(A.out _).mono ?_;rintro e d ⟨rfl,rfl⟩) | (go_at_call 102;refine(z.out _).mono ?_;rintro e d ⟨rfl,rfl⟩) | (go_at_call 110;refine(Bb _ _).mono ?_;rintro e d ⟨rfl,rfl⟩) | (go_at_call 112;refine(y.out _ k.out).mono ?_;rintro e d ⟨rfl,rfl⟩))
    go_ret3
    exact⟨rfl,Below.refl _ _⟩
 | false =>
   obtain⟨H,v,h,C,B⟩:=Fw m p f o q r;have D:=aA B;refine⟨H,v,h,by omega,U4 C,fun w a=>?_⟩;have F:=a.lt.le.lf.opt;have E:=aA a.lt;have k:=aA a.lt.le.lf;clear l i t f j a o u h B C g
   all_goals
    go_in
    go_wp2_with (first | (go_at_call 101;refine(A.out _).mono ?_;rintro e d ⟨rfl,rfl⟩) | (go_at_call 102;refine(z.out _).mono ?_;rintro e d ⟨rfl,rfl⟩) | (go_at_call 110;refine(Bb _ _).mono ?_;rintro e d ⟨rfl,rfl⟩) | (go_at_call 112;refine(y.out _ k.out).mono ?_;rintro e d ⟨rfl,rfl⟩) | (go_at_call 113;refine(D.out _ E.out).mono ?_;rintro e d ⟨rfl,G⟩))
    go_ret3
    exact⟨rfl,G⟩
theorem KL (s:ByteArray) (N:s.size<=140737488351232) (F:∀c∈s.data.toList,c∈BC) (m:Nat) (p:Int) (n:Nat) (hn:n<=s.size) (a0:(s.data.toList.take n).head?≠some 45)
  (R:rf s.data.toList=⟨m,p,false,true,n,true⟩) (r:m≠0) (hm:m<10000000000000000000) (L : -345<=p) (M:p<=310):∃x v,PP x/\V9 s n x v:=by
 have Y:=aA (fun W=>Gc s W N F);have X:=aA (fun W=>E0 s W N F m p false true n true R);have bm:((m:Int)==0)=false:=beq_eq_false_iff_ne.2 (by omega);obtain⟨x,v,T,S,Q⟩:=Fw m p r (by omega) L M;obtain⟨P,Z⟩:∃P:Nat,P=m+1:=⟨_,rfl⟩;obtain⟨x1,v1,_,_,u⟩:=Fw P p (by omega) (by omega) L M;have f0:IntKind.u64.wrap ((m:Int)+1)=(P:Int):=by rw[IntKind.wrap_u64];omega
 have V:=aA Q;have D:=aA u;clear Z
 cases hq:(FloatKind.f64.format.order x x1==some .eq) with
 | true =>
   refine⟨x,v,T,by omega,U4 S,fun w k=>?_⟩;have h1:=k.lt.le.lf.opt;have y:=aA k.lt;clear F R r N k hm T Q S u
   all_goals
    go_in
    go_wp2_with (first | (go_at_call 101;refine(Y.out _).mono ?_;rintro e j ⟨rfl,rfl⟩) | (go_at_call 102;refine(X.out _).mono ?_;rintro e j ⟨rfl,rfl⟩) | (go_at_call 110;refine(Bb _ _).mono ?_;rintro e j ⟨rfl,rfl⟩) | (go_at_call 113;first | (with_reducible refine(V.out _ y.out).mono ?_;rintro e j ⟨rfl,g⟩) | (with_reducible refine(D.out _ (y.out.below g)).mono ?_;rintro e O ⟨rfl,a⟩)))
    go_ret3
    exact⟨rfl,g.trans (a.mono g.size)⟩
 | false =>
   have I:(s.data.toList.take n).length<=281474976710656:=by rw[List.length_take];have:s.data.toList.length=s.size:=rfl;omega
   have q:(s.extract 0 n).data.toList=s.data.toList.take n:=by rw[aF];simp
   have hD:=fun(W:World) (b:Nat) (f:Nat->Nat) (h:BO W b f 0 0 false false)=>Ud (s.extract 0 n) W b f (by rw[aG];omega) (by rw[q];exact fun c hc=>F c (List.mem_of_mem_take hc)) h;rw[q] at hD;have J:=VL (s.data.toList.take n) I;have H:=fun W=>hD _ _ _ (Vj W);have G:=aA H;clear H;have B:=aA J;clear hD J I
   cases o:Ik (s.data.toList.take n) with
   | none =>
     rw[o] at G;refine⟨0,FT,by unfold PP;omega,by omega,.inr (.inr rfl),fun w k=>?_⟩;have h1:=k.lt.le.lf.opt;have y:=aA k.lt;clear F R r N k hm T Q S u B o q
     all_goals
      go_in
      go_wp2_with (first | (go_at_call 101;refine(Y.out _).mono ?_;rintro e j ⟨rfl,rfl⟩) | (go_at_call 102;refine(X.out _).mono ?_;rintro e j ⟨rfl,rfl⟩) | (go_at_call 110;refine(Bb _ _).mono ?_;rintro e j ⟨rfl,rfl⟩) | (go_at_call 113;first | (with_reducible refine(V.out _ y.out).mono ?_;rintro e j ⟨rfl,g⟩) | (with_reducible refine(D.out _ (y.out.below g)).mono ?_;rintro e O ⟨rfl,a⟩)) | (go_at_call 108;refine(G.out _).mono ?_;rintro e w3 ⟨he,t,_⟩;obtain rfl:e = .returned (.bool false):=he))
      go_ret3
      have d0:=g.size;have e0:=a.size;exact⟨rfl,t.below_of ((g.trans (a.mono g.size)).alloc (by omega) _) (by omega) (by simp;omega)⟩
   | some d =>
     rw[o] at G;obtain⟨q1,q2,q3,q4⟩:=B.out d o;obtain⟨i,l⟩:∃i,decide ((s.data.toList.take n).head?=some 45)=i:=⟨_,rfl⟩;have A:i=false:=by rw[<- l];exact decide_eq_false a0
     have E:PP (G6 i (Bj d).1 (Bj d).2.1).toNat:=by rw[A];exact Rx d
     clear A;rw[l] at G;have hz:=T4 i (Bj d).1 (Bj d).2.1
     have C:Hid (∀(W:World) (b:Nat),Ho W b->C8 W b i d->Calls prog 109 #[.pointer (some ⟨b,0,none⟩),.pointer (some ⟨13,0,none⟩)] W fun e j=>e = .returned (.tuple #[.int .u64 (G6 i (Bj d).1 (Bj d).2.1),.bool (Bj d).2.2])/\Ae b W j) :=
      fun W b hU b0=>JJ W b i d hU q1 q2 b0 q3 q4
     generalize G6 i (Bj d).1 (Bj d).2.1=z at hz C E;generalize (Bj d).2.2=ov at C;have HF:=FO;refine⟨z.toNat,if ov=true then Ga else .nilIface,E,by omega,(match ov with | true => .inr (.inl rfl) | false => .inl rfl),fun w k=>?_⟩;have h1:=k.lt.le.lf.opt;have y:=aA k.lt;have U:=aA k;clear F R r N k hm T Q S u B o q q1 q2 q3 q4 l E
     cases ov <;>      all_goals
      go_in
      go_wp2_with (first | (go_at_call 101;refine(Y.out _).mono ?_;rintro e j ⟨rfl,rfl⟩) | (go_at_call 102;refine(X.out _).mono ?_;rintro e j ⟨rfl,rfl⟩) | (go_at_call 110;refine(Bb _ _).mono ?_;rintro e j ⟨rfl,rfl⟩) | (go_at_call 113;first | (with_reducible refine(V.out _ y.out).mono ?_;rintro e j ⟨rfl,g⟩) | (with_reducible refine(D.out _ (y.out.below g)).mono ?_;rintro e O ⟨rfl,a⟩)) | (go_at_call 108;refine(G.out _).mono ?_;rintro e w3 ⟨he,t,c0⟩;obtain rfl:e = .returned (.bool true):=he) | (go_at_call 109;refine(C.out _ _ ⟨w,U.out,t.below_of ((g.trans (a.mono g.size)).alloc (by have:=g.size;have:=a.size;omega) _) (by have:=g.size;have:=a.size;omega) (by have:=g.size;have:=a.size;simp;omega),(by have:=g.size;have:=a.size;omega)⟩ (c0 d rfl)).mono ?_;rintro e w4 ⟨rfl,K⟩))
      go_ret3
      have d0:=g.size;have e0:=a.size;exact⟨rfl,(t.trans K).below_of ((g.trans (a.mono g.size)).alloc (by omega) _) (by omega) (by simp;omega)⟩
theorem VK {l:List UInt8} (h:l.head?≠some 45):(rf l).neg=false:=by
 have a:decide (l.head?=some 45)=false:=decide_eq_false h;unfold rf;split
 ·rfl
 rw[a];unfold Ek GB Dc
 repeat' split
 all_goals rfl
theorem KA {l:List UInt8} (h:l.head?≠some 45) (n:Nat):(l.take n).head?≠some 45:=by
 cases l with
 | nil=>simp
 | cons c r =>
   cases n with
   | zero=>simp
   | succ n=>simpa using h
theorem MY (s:ByteArray) (g:s.size<=140737488351232) (f:∀c∈s.data.toList,c∈BC) (k:s.data.toList.head?≠some 45):∃x v,PP x/\V9 s (rf s.data.toList).i x v:=by
 obtain⟨y,r⟩:=Wv s.data.toList;have b:(rf s.data.toList).i<=s.size:=y;clear y;have o:=VK k;obtain⟨R,d⟩:∃R,rf s.data.toList=R:=⟨_,rfl⟩;rw[d] at r b o ⊢;obtain⟨m,p,A,q,n,ok⟩:=R;obtain rfl:A=false:=o;dsimp only at r b ⊢
 cases ok with
 | false=>exact⟨0,FT,by unfold PP;omega,O_ s g f m p false q n d⟩
 | true =>
   by_cases a:m=0
   ·subst a
    exact⟨Il false,.nilIface,by show (0:Nat)<=_;omega,by show (0:Nat)<_;omega,.inl rfl,fun w l=>(Lw s w g f l.lt.le.lf p false q n d).mono fun e z ⟨h,j⟩=>⟨h,j▸Below.refl _ _⟩⟩
   by_cases u:310<p
   ·exact⟨OD false,Ga,aP _,by show (9218868437227405312:Nat)<_;omega,.inr (.inl rfl),fun w l=>(MX s w g f l.lt.le.lf m p false q n d a u).mono fun e z ⟨h,j⟩=>⟨h,j▸Below.refl _ _⟩⟩
   by_cases t:p < -345
   ·exact⟨Il false,.nilIface,by show (0:Nat)<=_;omega,by show (0:Nat)<_;omega,.inl rfl,fun w l=>(KM s w g f l.lt.le.lf m p false q n d a t).mono fun e z ⟨h,j⟩=>⟨h,j▸Below.refl _ _⟩⟩
   cases q with
   | false=>exact KJ s g f m p n d a (by omega) (by omega) (by omega)
   | true=>exact KL s g f m p n b (KA k n) d a r (by omega) (by omega)
theorem Nk (s:ByteArray) (n x:Nat) (v:Value) (h:PP x) (c:V9 s n x v):∃m v',PP m/\Oo v' /\
  ∀w,DE w->Calls prog 49 #[.string s,.int .i64 64] w fun e b=>e = .returned (.tuple #[.float .f64 m,v'])/\Below w.heap.size w b:=by
 obtain⟨l,q,c⟩:=c
 have k:∀w,DE w->Calls prog 68 #[.string s,.int .i64 64] w fun e b=>e = .returned (.tuple #[.float .f64 x,.int .i64 n,v])/\Below w.heap.size w b:=fun w a =>
  Kk s w _ ((c w a).mono fun e b ⟨j,p⟩=>⟨x,n,v,j,j,p⟩)
 have i:=aA k;clear k c;by_cases g:n=s.size
 ·refine⟨x,v,h,q,fun w a=>?_⟩
  have d:=aA a;have o:((n:Int) != s.size)=false:=by rw[g];simp
  clear a g l h
  go_in
  go_wp2_with (go_at_call 68;refine(i.out _ d.out).mono ?_;rintro e b ⟨rfl,f⟩)
  go_ret2
  exact⟨rfl,f⟩
 refine⟨0,FT,by unfold PP;omega,.inr (.inr rfl),fun w a=>?_⟩;have d:=aA a;have o:((n:Int) != s.size)=true:=by rw[bne_iff_ne];omega
 clear a g l h
 go_in
 go_wp2_with (go_at_call 68;refine(i.out _ d.out).mono ?_;rintro e b ⟨rfl,f⟩)
 go_ret2
 exact⟨rfl,f⟩
theorem PX (s:ByteArray) (u:s.size<=140737488351232) (r:∀c∈s.data.toList,c∈BC) (g:s.data.toList.head?≠some 45):∃x,PP x /\
  ∀w,Fi w->Calls prog 28 #[.string s,.int .i64 64] w fun e D=>∃v,e = .returned (.tuple #[.float .f64 x,v])/\Below w.heap.size w D:=by
 obtain⟨F,C,h,q⟩:=MY s u r g;obtain⟨x,v,z,y,t⟩:=Nk s _ F C h q;refine⟨x,z,fun w i=>?_⟩;obtain⟨o,m,d⟩:=i.lg.lt.le.er;obtain⟨p,n,f⟩:=i.sy;have j:=aA (t w i.lg);have B:=aA (fun(W:World) (l:Below w.heap.size w W)=>JR ⟨#[80,97,114,115,101,70,108,111,97,116]⟩ s 0 64 o m W (by omega) ((l.cell (Lib.lt_of_cell d)).trans d));have k:=aA (fun(W:World) (l:Below w.heap.size w W)=>Ju ⟨#[80,97,114,115,101,70,108,111,97,116]⟩ s 0 64 p n W (by omega) ((l.cell (Lib.lt_of_cell f)).trans f));have G:∀(W:World),(binOp .neq 51 (.iface 102 (.int .i64 1)) .nilIface).run prog W = .ok (.bool true) W:=fun W=>run_neq_held_nil W 51 _ _ (by kernel_rfl)
 have H:∀(W:World),(binOp .neq 51 .nilIface .nilIface).run prog W = .ok (.bool false) W:=fun W=>run_neq_nil_nil W 51 (by kernel_rfl);have I:∀(W:World),(binOp .neq 51 (.iface 102 (.int .i64 2)) .nilIface).run prog W = .ok (.bool true) W:=fun W=>run_neq_held_nil W 51 _ _ (by kernel_rfl);clear h q t i d f r u z g;unfold Oo Ga FT at y;rcases y with rfl | rfl | rfl
 ·go_in
  go_wp2_with (go_at_call 49;refine j.out.mono ?_;rintro e A ⟨rfl,a⟩)
  go_ret2
  exact⟨_,rfl,a⟩
 ·go_in
  go_wp2_with (first | (go_at_call 49;refine j.out.mono ?_;rintro e A ⟨rfl,a⟩) | (go_at_call 50;refine(B.out _ a).mono ?_;rintro e E ⟨v,rfl,b⟩))
  go_ret2
  exact⟨_,rfl,a.trans (b.mono a.size)⟩
 go_in
 go_wp2_with (first | (go_at_call 49;refine j.out.mono ?_;rintro e A ⟨rfl,a⟩) | (go_at_call 50;refine(k.out _ a).mono ?_;rintro e E ⟨v,rfl,b⟩))
 go_ret2
 exact⟨_,rfl,a.trans (b.mono a.size)⟩
theorem Si {x:Nat} (h:PP x):(∃m e,FloatKind.f64.format.read x = .number false m e/\(m=0->x=0))\/FloatKind.f64.format.read x = .infinity false:=by
 unfold PP at h;have c:FloatKind.f64.format.signWeight=9223372036854775808:=(by decide);have d:FloatKind.f64.format.binade=4503599627370496:=(by decide);have f:FloatKind.f64.format.infRung=9218868437227405312:=by decide
 have g:(x/9223372036854775808%2==1)=false:=by
  rw[Nat.div_eq_of_lt (by omega)];rfl
 unfold Ieee.Format.read;simp only[c,d,f,g];by_cases a:x%9223372036854775808<4503599627370496
 ·rw[if_pos a];exact .inl ⟨_,_,rfl,fun h=>by omega⟩
 rw[if_neg a];by_cases b:x%9223372036854775808<9218868437227405312
 ·rw[if_pos b];exact .inl ⟨_,_,rfl,fun h=>by omega⟩
 rw[if_neg b,if_pos (by omega)];exact .inr rfl
theorem Sh {x:Nat} (h:PP x):EU x=x:=by
 unfold EU;by_cases d:x=0
 ·subst d;split<;>rfl
 rw[if_neg];intro a;have j:FloatKind.f64.format.read 0 = .number false 0 (-1074):=(by kernel_rfl);unfold Ieee.Format.order at a;rw[j] at a;rcases Si h with⟨m,e,c,g⟩ | c
 ·rw[c] at a
  have b:(some (compare (Ieee.signed false m (e-min e (-1074)).toNat) (Ieee.signed false 0 (-1074-min e (-1074)).toNat))==some Ordering.eq)=true:=a;have i:compare (Ieee.signed false m (e-min e (-1074)).toNat) (Ieee.signed false 0 (-1074-min e (-1074)).toNat)=Ordering.eq:=(by simpa using b);have f:=Int.compare_eq_eq.1 i;unfold Ieee.signed at f;simp at f;have k:0<2^(e-min e (-1074)).toNat:=Nat.pow_pos (by decide);have:m≠0:=fun h=>d (g h)
  simp_all
 rw[c] at a
 revert a;decide
theorem VH {x:Nat} (h:PP x):(FloatKind.f64.format.order x 9218868437227405311==some .gt)=KW x:=by
 unfold KW Ls;rw[Nat.mod_eq_of_lt (by unfold PP at h;omega)]
theorem Mm (s:ByteArray) (i:Nat) (J:s.size<=140737488351232) (G:CV s.data.toList i) :
  ∃x,PP x /\
   (∀w,Fi w->Calls prog 13 #[.string s,.int .i64 i] w fun e r=>e = .returned (F_ x (Bc s.data.toList i (i+An (s.data.toList.drop i))) i (i+An (s.data.toList.drop i):Nat))/\Below w.heap.size w r) /\
   (∀w,Fi w->Calls prog 28 #[.string (s.extract i (i+An (s.data.toList.drop i))),.int .i64 64] w fun e r=>∃v,e = .returned (.tuple #[.float .f64 x,v])/\Below w.heap.size w r):=by
 obtain⟨y,u⟩:=G;have F:i<s.size:=(by simpa using y);obtain⟨n,c⟩:∃n,An (s.data.toList.drop i)=n:=⟨_,rfl⟩;have j:=Aq s.data.toList i y;obtain⟨a,b⟩:=Ei s.data.toList[i] (s.data.toList.drop (i+1)) (u.imp id fun⟨h,z,A⟩=>⟨h,_,_,Aq _ _ z,A⟩);rw[<- j] at a b;have o:=D9 (s.data.toList.drop i);rw[c,aM] at o;have I:s.data.toList.length=s.size:=rfl;have m:i+n<=s.size:=(by omega);have H:n≠0:=by rw[<- c];exact b
 have l:(s.extract i s.size).data.toList=s.data.toList.drop i:=by
  rw[aF];exact List.take_of_length_le (by simp)
 have g:CC (s.data.toList.drop i)=0:=by unfold BH at a;omega
 have p:AR (s.data.toList.drop i)=0:=by
  unfold BH at a;rw[g,aI] at a;omega
 have k:EV (s.data.toList.drop i)=n:=by unfold EV;rw[a,aI,c];omega
 have C:(s.extract i s.size).extract (CC (s.extract i s.size).data.toList) (EV (s.extract i s.size).data.toList)=s.extract i (i+n):=by
  rw[l,g,k];apply GU;rw[aF,l,aF,aI,show n-0=n by omega,show i+n-i=n by omega]
 have f:(s.extract i (i+n)).data.toList=(s.data.toList.drop i).take n:=by
  rw[aF,show i+n-i=n by omega]
 have E:((s.data.toList.drop i).take n).head?≠some 45:=by
  refine KA ?_ n;rw[j];intro h;have d:s.data.toList[i]=45:=aD.inj h;rcases u with h | ⟨h,_⟩
  ·rw[d] at h;exact absurd h (by decide)
  rw[d] at h;exact absurd h (by decide)
 obtain⟨x,q,t⟩:=PX (s.extract i (i+n)) (by rw[aG];omega) (by
  rw[f];have h:=JN s.data.toList i;rw[p,Nat.zero_add,Nat.add_zero,c] at h
  exact h) (by rw[f];exact E)
 rw[c];refine⟨x,q,fun w B=>?_,t⟩;refine Ki s i n x w (by unfold maxLen;omega) m (by unfold PP at q;omega) fun W D=>?_;have h:=Hy (s.extract i s.size) W x (by rw[aG];unfold maxLen;omega) (by rw[l,a,aI];exact b) (by rw[C];exact t W (B.below D));rw[Sh q,l,k] at h;exact h
def JV (V:Value):Prop:=∃(kd:Int) (a:List UInt8) (nm:Nat) (f t:Int) (e:Int),V = .tuple #[Ap kd a nm f t,.int .i64 e]/\PP nm
theorem BD (kd:Int) (a:List UInt8) (f t e:Int):JV (.tuple #[Ap kd a 0 f t,.int .i64 e]):=⟨kd,a,0,f,t,e,rfl,by unfold PP;omega⟩
theorem Mj {l:List UInt8} {b:Bool} {nv:Value} {k:Nat} (a:JV nv):JV (AJ l b nv k):=by
 unfold AJ;split
 ·exact BD _ _ _ _ _
 split
 ·exact BD _ _ _ _ _
 split
 ·exact a
 split
 ·exact BD _ _ _ _ _
 split
 ·unfold C7
  dsimp only;split
  ·exact BD _ _ _ _ _
  split
  ·exact BD _ _ _ _ _
  exact BD _ _ _ _ _
 split
 ·unfold Cr
  dsimp only;split
  ·exact BD _ _ _ _ _
  exact BD _ _ _ _ _
 split
 ·exact BD _ _ _ _ _
 exact BD _ _ _ _ _
theorem PS (s:ByteArray) (a:Nat) (c:Bool) (j:s.size<=140737488351232) (ha:a<=s.size):∃V,KE s.data.toList a V/\JV V /\
  (∀w,Fi w->Calls prog 6 #[.string s,.int .i64 a,.bool c] w fun e q=>e = .returned V/\Below w.heap.size w q) /\
  (∀w,Fi w->Calls prog 7 #[.string s,.int .i64 a,.bool c] w fun e q=>e = .returned V/\Below w.heap.size w q):=by
 have u:a<=AL s.data.toList a/\AL s.data.toList a<=s.data.toList.length:=by
  unfold AL;have:=FC _ false (s.data.toList.drop a) (aP _);rw[aM] at this;have:s.data.toList.length=s.size:=rfl;omega
 have b:∀V,KE s.data.toList (AL s.data.toList a) V->KE s.data.toList a V:=by
  rintro V ⟨kd,p,nm,f,t,e,rfl,D,k⟩;exact⟨kd,p,nm,f,t,e,rfl,by omega,k⟩
 by_cases g:CV s.data.toList (AL s.data.toList a)
 ·obtain⟨x,o,y,z⟩:=Mm s _ j g
  obtain⟨r,A⟩:=g
  have C:An (s.data.toList.drop (AL s.data.toList a))≠0:=by
   rw[Aq _ _ r];exact(Ei _ _ (A.imp id fun⟨h,k,v⟩=>⟨h,_,_,Aq _ _ k,v⟩)).2
  have m:=D9 (s.data.toList.drop (AL s.data.toList a));rw[aM] at m
  have i:KE s.data.toList (AL s.data.toList a) (F_ x (Bc s.data.toList (AL s.data.toList a) (AL s.data.toList a+An (s.data.toList.drop (AL s.data.toList a)))) (AL s.data.toList a:Nat) (AL s.data.toList a+An (s.data.toList.drop (AL s.data.toList a)):Nat)):=by
   unfold F_;split
   ·exact⟨0,[],0,_,0,23,rfl,aP _,.inl ⟨by omega,r,rfl,rfl,rfl⟩⟩
   exact⟨2,_,x,_,_,0,rfl,aP _,.inr (.inr ⟨rfl,by omega,by omega,by omega⟩)⟩
  have n:JV (F_ x (Bc s.data.toList (AL s.data.toList a) (AL s.data.toList a+An (s.data.toList.drop (AL s.data.toList a)))) (AL s.data.toList a:Nat) (AL s.data.toList a+An (s.data.toList.drop (AL s.data.toList a)):Nat)):=by
   unfold F_;split
   ·exact BD _ _ _ _ _
   exact⟨2,_,x,_,_,0,rfl,o⟩
  refine⟨AJ s.data.toList c _ (AL s.data.toList a),b _ (Mi _ _ _ _ u.2 fun _=>i),Mj n,fun w d=>?_,fun w d=>?_⟩
  ·obtain⟨kd,p,nm,f,t,e,B,_⟩:=i
   exact Fs s a c w _ kd p nm f t e B j ha fun _ W l=>y W (d.below l)
  exact Kq s a c w _ j ha fun _=>⟨x,by unfold PP at o;omega,VH o,rfl,fun W l=>z W (d.below l)⟩
 refine⟨AJ s.data.toList c (.tuple #[Ap 0 [] 0 0 0,.int .i64 0]) (AL s.data.toList a),b _ (Mi _ _ _ _ u.2 fun h=>absurd h g),Mj (BD _ _ _ _ _),fun w d=>?_,fun w d=>?_⟩
 ·exact Fs s a c w _ 0 [] 0 0 0 0 rfl j ha fun h=>absurd h g
 exact Kq s a c w _ j ha fun h=>absurd h g
theorem OQ {x:Nat} (h:PP x):FloatKind.f64.format.order x x=some .eq:=by
 unfold Ieee.Format.order;rcases K8 h with⟨m,e,a⟩ | a
 ·rw[a]
  show some (compare _ _)=some Ordering.eq;rw[Int.compare_eq_eq.2 rfl]
 rw[a];rfl
theorem O6 {kd b:Int} {j c:List UInt8} {nm a:Nat} {f g t i e d:Int} (h:(Value.tuple #[Ap kd j nm f t,.int .i64 e]) = .tuple #[Ap b c a g i,.int .i64 d]):nm=a:=by
 simp[Ap] at h;exact h.1.2.2.1
theorem LQ (x:Nat) (h:FloatKind.f64.format.order x x=some .eq) (W:World):Sem.run prog (Op.equalIn 9999 25 (.float .f64 x) (.float .f64 x)) W = .ok true W:=by
 have e:Sem.run prog (Op.equalIn 9999 25 (.float .f64 x) (.float .f64 x)) W = .ok (FloatKind.f64.format.order x x==some .eq) W:=(by kernel_rfl);rw[e,h];rfl
theorem Lk (lv:Value) (a0 fr n:Int) (N:Bool) (w:World) (hL:Fi w)
  (hT:Calls prog 4 #[lv] w fun e u=>∃s:ByteArray,e = .returned (.string s)/\s.size<=35184372088832/\Below w.heap.size w u)
  (hB:∀(s:ByteArray) W,s.size<=35184372088832->Below w.heap.size w W->Calls prog 5 #[.string s,.int .i64 a0,.int .i64 fr,.int .i64 n] W fun e u=>∃t:ByteArray,e = .returned (.string t)/\t.size<=140737488351232/\Below W.heap.size W u) :
  Calls prog 3 #[lv,.int .i64 a0,.int .i64 fr,.int .i64 n,.bool N] w fun e u=>e = .returned (.bool true)/\Below w.heap.size w u:=by
 have HL:=aA hL;have HT:=aA hT;have K:=aA hB;have M:Hid (∀W,Below w.heap.size w W->Calls prog 8 #[] W fun e u=>e = .returned (.bool true)/\Below W.heap.size W u):=fun W hW=>No W (hL.below hW).lg.lt.le.lf
 have HN:Hid (∀(s:ByteArray) (a:Nat) (op:Bool),s.size<=140737488351232->a<=s.size->∃V,KE s.data.toList a V/\JV V /\
  (∀W,Below w.heap.size w W->Calls prog 6 #[.string s,.int .i64 a,.bool op] W fun e u=>e = .returned V/\Below W.heap.size W u) /\
  (∀W,Below w.heap.size w W->Calls prog 7 #[.string s,.int .i64 a,.bool op] W fun e u=>e = .returned V/\Below W.heap.size W u)):=fun s a op G P=>by
  obtain⟨V,v1,v2,T,U⟩:=PS s a op G P;exact⟨V,v1,v2,fun W hW=>T W (hL.below hW),fun W hW=>U W (hL.below hW)⟩
 clear hL hT hB
 go_in
 cases N with
 | false =>
   go_wp2_with (first
    | (go_at_call 4;refine HT.out.mono ?_;rintro e w1 ⟨s,rfl,hs,B⟩)
    | (go_at_call 5;refine(K.out s _ hs B).mono ?_;rintro e F ⟨t,rfl,ht,d⟩))
   have m:=aA B;clear B HT K
   go_loopg [12,13] 2000 (fun g O i wr=>∃a k:Nat,O = .int .i64 a/\i = .int .i64 k/\k+g=2000/\a<=s.size/\Hid (Below w.heap.size w wr))
   case atStart=>exact⟨0,0,rfl,rfl,by omega,by omega,m⟩
   obtain⟨a,k,rfl,rfl,hk,ha,m⟩:=hrel;by_cases e0:k<2000
   ·obtain⟨V,v1,v2,T,U⟩:=HN.out s a ((k:Int)%2==0) (by omega) ha
    obtain⟨kd,C,nm,f,t,e,rfl,hf,hw⟩:=v1;obtain⟨g0,h0,S,f',t',L,hV,I⟩:=v2;obtain rfl:nm=S:=O6 hV;have f0:=LQ nm (OQ I);have D:Hid (∀W,Below w.heap.size w W->Calls prog 6 #[.string s,.int .i64 a,.bool ((k:Int)%2==0)] W fun L u=>L = .returned (.tuple #[.agg #[.int .i64 kd,.string ⟨C.toArray⟩,.float .f64 nm,.int .i64 f,.int .i64 t],.int .i64 e])/\Below W.heap.size W u):=T;have E:Hid (∀W,Below w.heap.size w W->Calls prog 7 #[.string s,.int .i64 a,.bool ((k:Int)%2==0)] W fun L u=>L = .returned (.tuple #[.agg #[.int .i64 kd,.string ⟨C.toArray⟩,.float .f64 nm,.int .i64 f,.int .i64 t],.int .i64 e])/\Below W.heap.size W u):=U
    have J:s.data.toList.length=s.size:=rfl;clear hV I T U;rcases hw with⟨he,G,r,Q,R⟩ | ⟨rfl,r,G,P⟩ | ⟨rfl,H,G,P⟩
    ·have X:(e != 0)=true:=bne_iff_ne.2 he
     clear J G he r Q R
     go_wp2_with (first | (go_at_call 6;refine(D.out _ m.out).mono ?_;rintro e F ⟨rfl,d⟩;have h:=aA (m.out.trans (d.mono m.out.size));have j:=h.out.alloc h.out.size (.cells #[.int .i64 kd,.string ⟨C.toArray⟩,.float .f64 nm,.int .i64 f,.int .i64 t] 27);have c:=aA j;have o:=aA (T5.new F kd ⟨C.toArray⟩ nm f t 27);clear j) | (go_at_call 7;refine(E.out _ c.out).mono ?_;rintro e w3 ⟨rfl,l⟩;have b:=aA (c.out.trans (l.mono c.out.size));obtain⟨v,x,y,z,A,p⟩:=o.out.below l;obtain⟨Y,Z,d2,d3,d4⟩:=DV v x y z A;clear v x y z A p) | (go_at_call 8;refine(M.out _ (by first | exact b.out.alloc b.out.size _ | exact b.out)).mono ?_;rintro e w4 ⟨rfl,q⟩))
     go_ret;exact⟨rfl,(b.out.alloc b.out.size _).trans (q.mono (b.out.alloc b.out.size _).size)⟩
    ·have X:(kd==0)=true:=beq_iff_eq.2 r
     clear J G P r
     go_wp2_with (first | (go_at_call 6;refine(D.out _ m.out).mono ?_;rintro e F ⟨rfl,d⟩;have h:=aA (m.out.trans (d.mono m.out.size));have j:=h.out.alloc h.out.size (.cells #[.int .i64 kd,.string ⟨C.toArray⟩,.float .f64 nm,.int .i64 f,.int .i64 t] 27);have c:=aA j;have o:=aA (T5.new F kd ⟨C.toArray⟩ nm f t 27);clear j) | (go_at_call 7;refine(E.out _ c.out).mono ?_;rintro e w3 ⟨rfl,l⟩;have b:=aA (c.out.trans (l.mono c.out.size));obtain⟨v,x,y,z,A,p⟩:=o.out.below l;obtain⟨Y,Z,d2,d3,d4⟩:=DV v x y z A;clear v x y z A p) | (go_at_call 8;refine(M.out _ (by first | exact b.out.alloc b.out.size _ | exact b.out)).mono ?_;rintro e w4 ⟨rfl,q⟩))
     go_ret;exact⟨rfl,(b.out.alloc b.out.size _).trans (q.mono (b.out.alloc b.out.size _).size)⟩
    have X:(kd==0)=false:=beq_eq_false_iff_ne.2 H;clear H
    go_wp2_with (first | (go_at_call 6;refine(D.out _ m.out).mono ?_;rintro e F ⟨rfl,d⟩;have h:=aA (m.out.trans (d.mono m.out.size));have j:=h.out.alloc h.out.size (.cells #[.int .i64 kd,.string ⟨C.toArray⟩,.float .f64 nm,.int .i64 f,.int .i64 t] 27);have c:=aA j;have o:=aA (T5.new F kd ⟨C.toArray⟩ nm f t 27);clear j) | (go_at_call 7;refine(E.out _ c.out).mono ?_;rintro e w3 ⟨rfl,l⟩;have b:=aA (c.out.trans (l.mono c.out.size));obtain⟨v,x,y,z,A,p⟩:=o.out.below l;obtain⟨Y,Z,d2,d3,d4⟩:=DV v x y z A;clear v x y z A p) | (go_at_call 8;refine(M.out _ (by first | exact b.out.alloc b.out.size _ | exact b.out)).mono ?_;rintro e w4 ⟨rfl,q⟩))
    go_roundg (gk-1)
    ·exact⟨t,k+1,rfl,rfl,by omega,by omega,aA (b.out.alloc b.out.size _)⟩
    omega
   go_wp2_with (go_at_call 8;refine(M.out _ m.out).mono ?_;rintro e F ⟨rfl,d⟩)
   go_ret;exact⟨rfl,m.out.trans (d.mono m.out.size)⟩
 | true =>
   go_wp2_with (first
    | (go_at_call 4;refine HT.out.mono ?_;rintro e w1 ⟨s0,rfl,b0,B⟩)
    | (go_at_call 5;refine(K.out s0 _ b0 B).mono ?_;rintro e F ⟨s,rfl,hs,d⟩))
   have m:=aA (B.trans (d.mono B.size));clear B d b0 HT K
   go_loopg [12,13] 2000 (fun g O i wr=>∃a k:Nat,O = .int .i64 a/\i = .int .i64 k/\k+g=2000/\a<=s.size/\Hid (Below w.heap.size w wr))
   case atStart=>exact⟨0,0,rfl,rfl,by omega,by omega,m⟩
   obtain⟨a,k,rfl,rfl,hk,ha,m⟩:=hrel;by_cases e0:k<2000
   ·obtain⟨V,v1,v2,T,U⟩:=HN.out s a ((k:Int)%2==0) (by omega) ha
    obtain⟨kd,C,nm,f,t,e,rfl,hf,hw⟩:=v1;obtain⟨g0,h0,S,f',t',L,hV,I⟩:=v2;obtain rfl:nm=S:=O6 hV;have f0:=LQ nm (OQ I);have D:Hid (∀W,Below w.heap.size w W->Calls prog 6 #[.string s,.int .i64 a,.bool ((k:Int)%2==0)] W fun L u=>L = .returned (.tuple #[.agg #[.int .i64 kd,.string ⟨C.toArray⟩,.float .f64 nm,.int .i64 f,.int .i64 t],.int .i64 e])/\Below W.heap.size W u):=T;have E:Hid (∀W,Below w.heap.size w W->Calls prog 7 #[.string s,.int .i64 a,.bool ((k:Int)%2==0)] W fun L u=>L = .returned (.tuple #[.agg #[.int .i64 kd,.string ⟨C.toArray⟩,.float .f64 nm,.int .i64 f,.int .i64 t],.int .i64 e])/\Below W.heap.size W u):=U
    have J:s.data.toList.length=s.size:=rfl;clear hV I T U;rcases hw with⟨he,G,r,Q,R⟩ | ⟨rfl,r,G,P⟩ | ⟨rfl,H,G,P⟩
    ·have X:(e != 0)=true:=bne_iff_ne.2 he
     clear J G he r Q R
     go_wp2_with (first | (go_at_call 6;refine(D.out _ m.out).mono ?_;rintro e F ⟨rfl,d⟩;have h:=aA (m.out.trans (d.mono m.out.size));have j:=h.out.alloc h.out.size (.cells #[.int .i64 kd,.string ⟨C.toArray⟩,.float .f64 nm,.int .i64 f,.int .i64 t] 27);have c:=aA j;have o:=aA (T5.new F kd ⟨C.toArray⟩ nm f t 27);clear j) | (go_at_call 7;refine(E.out _ c.out).mono ?_;rintro e w3 ⟨rfl,l⟩;have b:=aA (c.out.trans (l.mono c.out.size));obtain⟨v,x,y,z,A,p⟩:=o.out.below l;obtain⟨Y,Z,d2,d3,d4⟩:=DV v x y z A;clear v x y z A p) | (go_at_call 8;refine(M.out _ (by first | exact b.out.alloc b.out.size _ | exact b.out)).mono ?_;rintro e w4 ⟨rfl,q⟩))
     go_ret;exact⟨rfl,(b.out.alloc b.out.size _).trans (q.mono (b.out.alloc b.out.size _).size)⟩
    ·have X:(kd==0)=true:=beq_iff_eq.2 r
     clear J G P r
     go_wp2_with (first | (go_at_call 6;refine(D.out _ m.out).mono ?_;rintro e F ⟨rfl,d⟩;have h:=aA (m.out.trans (d.mono m.out.size));have j:=h.out.alloc h.out.size (.cells #[.int .i64 kd,.string ⟨C.toArray⟩,.float .f64 nm,.int .i64 f,.int .i64 t] 27);have c:=aA j;have o:=aA (T5.new F kd ⟨C.toArray⟩ nm f t 27);clear j) | (go_at_call 7;refine(E.out _ c.out).mono ?_;rintro e w3 ⟨rfl,l⟩;have b:=aA (c.out.trans (l.mono c.out.size));obtain⟨v,x,y,z,A,p⟩:=o.out.below l;obtain⟨Y,Z,d2,d3,d4⟩:=DV v x y z A;clear v x y z A p) | (go_at_call 8;refine(M.out _ (by first | exact b.out.alloc b.out.size _ | exact b.out)).mono ?_;rintro e w4 ⟨rfl,q⟩))
     go_ret;exact⟨rfl,(b.out.alloc b.out.size _).trans (q.mono (b.out.alloc b.out.size _).size)⟩
    have X:(kd==0)=false:=beq_eq_false_iff_ne.2 H;clear H
    go_wp2_with (first | (go_at_call 6;refine(D.out _ m.out).mono ?_;rintro e F ⟨rfl,d⟩;have h:=aA (m.out.trans (d.mono m.out.size));have j:=h.out.alloc h.out.size (.cells #[.int .i64 kd,.string ⟨C.toArray⟩,.float .f64 nm,.int .i64 f,.int .i64 t] 27);have c:=aA j;have o:=aA (T5.new F kd ⟨C.toArray⟩ nm f t 27);clear j) | (go_at_call 7;refine(E.out _ c.out).mono ?_;rintro e w3 ⟨rfl,l⟩;have b:=aA (c.out.trans (l.mono c.out.size));obtain⟨v,x,y,z,A,p⟩:=o.out.below l;obtain⟨Y,Z,d2,d3,d4⟩:=DV v x y z A;clear v x y z A p) | (go_at_call 8;refine(M.out _ (by first | exact b.out.alloc b.out.size _ | exact b.out)).mono ?_;rintro e w4 ⟨rfl,q⟩))
    go_roundg (gk-1)
    ·exact⟨t,k+1,rfl,rfl,by omega,by omega,aA (b.out.alloc b.out.size _)⟩
    omega
   go_wp2_with (go_at_call 8;refine(M.out _ m.out).mono ?_;rintro e F ⟨rfl,d⟩)
   go_ret;exact⟨rfl,m.out.trans (d.mono m.out.size)⟩
theorem PI (n:Int) (a:1<=n) (b:n<=1048576):(Fp n).length<=64:=by
 have:=Lib.itoa_length_le n (by omega) (by omega);unfold Fp;omega
theorem JS (w:World) (l:Cp) (d:l.n=0\/∃i m,l.ao=some ⟨i,m,none⟩/\∀j,j<l.n->w.cell? ⟨i,m+j,none⟩=some (.int .i64 (l.Z j))) (o:Ce w) (h:Fi w) (p:aW prog w "internal/strconv.uint64pow10" .u64 aN) (q:l.n<=9223372036854775807) (b f n:Int) (a:Bool) :
  Calls prog 3 #[.slice l.ao l.n l.cap,.int .i64 b,.int .i64 f,.int .i64 n,.bool a] w fun e u=>e = .returned (.bool true)/\Below w.heap.size w u:=by
 refine Lk (.slice l.ao l.n l.cap) b f n a w h ?_ ?_
 ·refine UI w l d o q VS TI (fun x W t g=>?_) (fun k W v y g=>RI k (by omega) (by omega) W (MN p g)) PI
  have c:(ER x&&decide (x<18446744073709551616))=true:=t;rw[Bool.and_eq_true,decide_eq_true_eq] at c;exact Ql x W c.2 c.1 (h.below g).lg
 intro s W r _;exact Q4 s b f n W r
theorem E_ {W:World} {name:String} {G n:Nat} {T:TypeId} {L:List (List UInt8)} {D:DataW Unit} (o:D = .agg (L.map fun s => .lit (.string s))) (m:L.length=n) (u:prog.globalNamed name=some G) (v:(prog.globals[G]?).map (·.type)=some T) (w:prog.underlying T=some (.array n 9))
  (r:aC prog W name D):∀i,i<n->W.cell? ⟨G,i,none⟩=some (.string ⟨(L.getD i []).toArray⟩):=by
 obtain⟨g,t,B,j,p,l,h,c,k⟩:=r;obtain rfl:=aD.inj (u.symm.trans l);obtain rfl:=aD.inj (v.symm.trans h);intro i y;rw[o] at k;obtain⟨f,d,q,a,b⟩:=Lib.array_elem (e:=9) (n:=n) w k i y
 have z:L[i]?=some (L.getD i []):=by
  rw[aJ,aK (by omega)];rfl
 rw[aU,z] at a;obtain rfl:=(aD.inj a);have x:prog.cellsOf 9=1:=(by kernel_rfl);rw[x,Nat.mul_one] at b;have A:=Fe (by kernel_rfl) b;rw[World.var?_cell l c i,<- Array.getElem?_toList];have:=congrArg (·[0]?) A;simpa[aR,aS] using this
theorem TJ {W:World} {name:String} {G n:Nat} {T:TypeId} {L:List Nat} {D:DataW Unit} (u:D = .agg (L.map fun s => .lit (.float .f64 s))) (o:L.length=n) (v:prog.globalNamed name=some G) (w:(prog.globals[G]?).map (·.type)=some T) (x:prog.underlying T=some (.array n 25))
  (r:aC prog W name D):∀i,i<n->W.cell? ⟨G,i,none⟩=some (.float .f64 (L.getD i 0)):=by
 obtain⟨g,t,C,j,p,m,h,c,l⟩:=r;obtain rfl:=aD.inj (v.symm.trans m);obtain rfl:=aD.inj (w.symm.trans h);intro i z;rw[u] at l;obtain⟨f,d,q,a,b⟩:=Lib.array_elem (e:=25) (n:=n) x l i z
 have A:L[i]?=some (L.getD i 0):=by
  rw[aJ,aK (by omega)];rfl
 rw[aU,A] at a;obtain rfl:=(aD.inj a);have y:prog.cellsOf 25=1:=(by kernel_rfl);rw[y,Nat.mul_one] at b;have B:=FE (k:=.f64) (by kernel_rfl) b;rw[World.var?_cell m c i,<- Array.getElem?_toList];have:=congrArg (·[0]?) B;simpa[aR,aS] using this
theorem RP (W:World) (a:aC prog W "tailrace/tailracehand.scalars" Rows.laid_tailrace_tailracehand_scalars) (b:aC prog W "tailrace/tailracehand.specials" Rows.laid_tailrace_tailracehand_specials)
  (c:aC prog W "tailrace/tailracehand.regexes" Rows.laid_tailrace_tailracehand_regexes) (d:aC prog W "tailrace/tailracehand.texts" Rows.laid_tailrace_tailracehand_texts)
  (e:aC prog W "tailrace/tailracehand.signs" Rows.laid_tailrace_tailracehand_signs) (f:aC prog W "tailrace/tailracehand.compares" Rows.laid_tailrace_tailracehand_compares)
  (g:aC prog W "tailrace/tailracehand.assigns" Rows.laid_tailrace_tailracehand_assigns) (h:aC prog W "tailrace/tailracehand.numbers" Rows.laid_tailrace_tailracehand_numbers):Ce W :=
 ⟨E_ (L:=Du) (T:=110) (by kernel_rfl) rfl (by kernel_rfl) (by kernel_rfl) (by kernel_rfl) a,E_ (L:=DR) (T:=111) (by kernel_rfl) rfl (by kernel_rfl) (by kernel_rfl) (by kernel_rfl) b,
  E_ (L:=BF) (T:=93) (by kernel_rfl) rfl (by kernel_rfl) (by kernel_rfl) (by kernel_rfl) c,E_ (L:=Lj) (T:=96) (by kernel_rfl) rfl (by kernel_rfl) (by kernel_rfl) (by kernel_rfl) d,
  E_ (L:=CY) (T:=91) (by kernel_rfl) rfl (by kernel_rfl) (by kernel_rfl) (by kernel_rfl) e,E_ (L:=BA) (T:=91) (by kernel_rfl) rfl (by kernel_rfl) (by kernel_rfl) (by kernel_rfl) f,
  E_ (L:=Dl) (T:=88) (by kernel_rfl) rfl (by kernel_rfl) (by kernel_rfl) (by kernel_rfl) g,TJ (L:=Fv) (T:=95) (by kernel_rfl) rfl (by kernel_rfl) (by kernel_rfl) (by kernel_rfl) h⟩
theorem S6 (W:World) (r:aC prog W "internal/strconv.uint64pow10" Rows.laid_internal_strconv_uint64pow10):aW prog W "internal/strconv.uint64pow10" .u64 aN:=by
 obtain⟨g,t,i,d,p,h,c,a,f⟩:=r;obtain rfl:=aD.inj ((show prog.globalNamed "internal/strconv.uint64pow10" = some 14 by kernel_rfl).symm.trans h);obtain rfl:=aD.inj ((show (prog.globals[14]?).map (·.type)=some 159 by kernel_rfl).symm.trans c);have b:=Lib.cells_of_tab (t:=159) (e:=113) (n:=20) (k:=.u64) (zs:=aN) (by kernel_rfl) (by kernel_rfl) (by kernel_rfl) (by kernel_rfl) f;unfold aW;rw[a,<- b]
structure QS (w:World):Prop where
 h:Fi w
 m:Ce w
 t:aW prog w "internal/strconv.uint64pow10" .u64 aN
theorem Jv (f:Option Addr) (n cap:Nat) (Z:Nat->Int) (c j k:Int) (a:Bool) (w:World) (l:n<=9223372036854775807) (d:n=0\/∃b o,f=some ⟨b,o,none⟩/\∀i,i<n->w.cell? ⟨b,o+i,none⟩=some (.int .i64 (Z i))) (g:QS w) :
  Calls prog 3 #[.slice f n cap,.int .i64 c,.int .i64 j,.int .i64 k,.bool a] w fun e p=>e = .returned (.bool true)/\Below w.heap.size w p :=
 JS w ⟨f,n,cap,Z⟩ d g.m g.h g.t l c j k a
end Go.Proofs.YtipfpohlnhmlpaaGreatDoor
