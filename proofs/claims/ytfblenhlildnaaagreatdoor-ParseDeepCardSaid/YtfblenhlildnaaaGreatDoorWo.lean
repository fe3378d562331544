/- Wo -/
import Derived.Test.YtfblenhlildnaaaGreatDoorWe
import Derived.Test.YtfblenhlildnaaaGreatDoorMp
import Derived.Test.YtfblenhlildnaaaGreatDoorGl
import Derived.Test.YtfblenhlildnaaaGreatDoorPc
import Derived.Test.YtfblenhlildnaaaGreatDoorBb
import Derived.Test.YtfblenhlildnaaaGreatDoorBc
set_option maxRecDepth 100000
set_option maxHeartbeats 3200000
open Nat renaming le_refl->aA
open Go.RowKit.Below renaming refl->aB
open Go.Lib renaming hid->aC,extract_data->aF
open List renaming toArray->aD,getElem?_eq_getElem->aE,cons->aG,drop_eq_nil_of_le->aH,getElem?_eq_none->aI
namespace Go.Proofs.YtfblenhlildnaaaGreatDoor
open Go.Proofs.Tryz
open Go.RowKit
def AJ (l:List UInt8) (b:Bool) (a:Value) (k:Nat):Value :=
 match l.drop k with
 | [] => .tuple #[Ap 0 [] 0 k k,.int .i64 0]
 | c::r =>
   if c=10 then .tuple #[Ap 1 [] 0 k (k+1),.int .i64 0]
   else if Aj c=true\/(c=46/\(r.head?.map Aj)=some true) then a
   else if AbH c=true then .tuple #[DG l k,.int .i64 0]
   else if c=34 then C7 l k
   else if c=47/\b=true then Cr l k
   else if 0<B6 (c::r) then .tuple #[Ap 9 (Bc l k (k+B6 (c::r))) 0 k (k+B6 (c::r)),.int .i64 0]
   else .tuple #[Ap 0 [] 0 k 0,.int .i64 20]
abbrev W9:Obj:=.cells #[.int .i64 0,.string { data := #[] },.float .f64 0,.int .i64 0,.int .i64 0] 70
def J7 (s:ByteArray) (E:Bool) (w:World) (K:Nat) (C:Nat) (D:Act) (w':World):Prop :=
 w'=w.alloc W9/\∃(k:Nat) (c:Int),k<=s.size/\((C=0/\Hid (Abd s.data.toList k=K))\/(C=1/\Hid (Ec s.data.toList k=K)))/\∃(u v x y z A B:Xc),D={ tmps := #[.string s,.int .i64 k,.bool E,undef,undef,undef,.pointer (some ⟨w.heap.size,0,none⟩),.int .i64 0,.int .u8 c,u.a,u.b,u.c,u.d,u.e,u.f,u.g,u.h,u.i,u.j,u.k,u.l,u.m,u.n,u.o,u.p,u.q,u.r,u.s,u.t,v.a,v.b,v.c,v.d,v.e,v.f,v.g,v.h,v.i,v.j,v.k,v.l,v.m,v.n,v.o,v.p,v.q,v.r,v.s,v.t,x.a,x.b,x.c,x.d,x.e,x.f,x.g,x.h,x.i,x.j,x.k,x.l,x.m,x.n,x.o,x.p,x.q,x.r,x.s,x.t,y.a,y.b,y.c,y.d,y.e,y.f,y.g,y.h,y.i,y.j,y.k,y.l,y.m,y.n,y.o,y.p,y.q,y.r,y.s,y.t,z.a,z.b,z.c,z.d,z.e,z.f,z.g,z.h,z.i,z.j,z.k,z.l,z.m,z.n,z.o,z.p,z.q,z.r,z.s,z.t,A.a,A.b,A.c,A.d,A.e,A.f,A.g,A.h,A.i,A.j,A.k,A.l,A.m,A.n,A.o,A.p,A.q,A.r,A.s,A.t,B.a,B.b,B.c,B.d,B.e,B.f,B.g,B.h,B.i,B.j,B.k,B.l,B.m,B.n,B.o,B.p,B.q,B.r,B.s],defers:=[] }
def Vw (s:ByteArray) (a k:Nat):Nat:=if a=1 then 1 else if s.data.toList[k]?=some 35 then 2 else 0
def RV (s:ByteArray) (b:Nat) (a:Act) (_:World):Nat :=
 3*(s.size-(intOf (a.tmps.getD 1 undef)).toNat)+Vw s b (intOf (a.tmps.getD 1 undef)).toNat
theorem Fq (s:ByteArray) (b:Nat) (a:Act) (w:World) (k:Nat) (ha:a.tmps.getD 1 undef = .int .i64 k):RV s b a w=3*(s.size-k)+Vw s b k:=by
 unfold RV;rw[ha];rfl
theorem Vx (s:ByteArray) (a k:Nat):Vw s a k<=2:=by unfold Vw;split<;>(try split)<;>omega
theorem OH (s:ByteArray) (k:Nat):Vw s 1 k=1:=rfl
theorem Ij (s:ByteArray) (a b:Act) (w w':World) (k c:Nat) (h:k<c) (e:c<=s.size) (ha:a.tmps.getD 1 undef = .int .i64 k) (d:b.tmps.getD 1 undef = .int .i64 c):RV s 0 b w'<RV s 0 a w:=by
 rw[Fq s 0 a w k ha,Fq s 0 b w' c d];have:=Vx s 0 c;omega
theorem TU (s:ByteArray) (a b:Act) (w w':World) (k c:Nat) (h:k<c) (e:k<s.size) (ha:a.tmps.getD 1 undef = .int .i64 k) (d:b.tmps.getD 1 undef = .int .i64 c):RV s 1 b w'<RV s 1 a w:=by
 rw[Fq s 1 a w k ha,Fq s 1 b w' c d,OH,OH];omega
theorem RW (s:ByteArray) (a b:Act) (w w':World) (k:Nat) (ha:a.tmps.getD 1 undef = .int .i64 k) (c:b.tmps.getD 1 undef = .int .i64 k) (h:s.data.toList[k]?=some 35):RV s 1 b w'<RV s 0 a w:=by
 rw[Fq s 0 a w k ha,Fq s 1 b w' k c,OH,Vw,if_neg (by decide),if_pos h];omega
theorem Mf (s:ByteArray) (a b:Act) (w w':World) (k:Nat) (ha:a.tmps.getD 1 undef = .int .i64 k) (c:b.tmps.getD 1 undef = .int .i64 k) (h:s.data.toList[k]?≠some 35):RV s 0 b w'<RV s 1 a w:=by
 rw[Fq s 1 a w k ha,Fq s 0 b w' k c,OH,Vw,if_neg (by decide),if_neg h];omega
theorem S_:∀x∈He,x.length=2:=by decide
theorem D5 (l:List UInt8):B6 l<=l.length:=by
 cases l with
 | nil=>exact aA _
 | cons c r =>
   rw[B6];split
   ·rename_i h
    have:=S_ _ (List.contains_iff_mem.1 h);rw[List.length_take] at this;omega
   split<;>simp
theorem DZ (l:List UInt8) (b:Bool) (a:Value) (k:Nat) (h:k<l.length):AJ l b a k =
  if l[k]=10 then .tuple #[Ap 1 [] 0 k (k+1),.int .i64 0]
  else if Aj l[k]=true\/(l[k]=46/\((l.drop (k+1)).head?.map Aj)=some true) then a
  else if AbH l[k]=true then .tuple #[DG l k,.int .i64 0]
  else if l[k]=34 then C7 l k
  else if l[k]=47/\b=true then Cr l k
  else if 0<B6 (l.drop k) then .tuple #[Ap 9 (Bc l k (k+B6 (l.drop k))) 0 k (k+B6 (l.drop k)),.int .i64 0]
  else .tuple #[Ap 0 [] 0 k 0,.int .i64 20]:=by
 rw[AJ,Aq l k h]
theorem L6 (l:List UInt8) (k:Nat) (h:k+1<l.length):((l.drop (k+1)).head?.map Aj)=some (Aj l[k+1]):=by rw[Aq l (k+1) h];rfl
theorem Kb (l:List UInt8) (k:Nat) (h:l.length<=k+1):((l.drop (k+1)).head?.map Aj)=none:=by rw[aH h];rfl
theorem Ew (l:List UInt8) (f:Bool) (g:Value) (k:Nat) (h:k<l.length) (a:l[k]≠10) (e:¬ (Aj l[k]=true\/(l[k]=46/\((l.drop (k+1)).head?.map Aj)=some true)))
  (d:¬ AbH l[k]=true) (b:l[k]≠34) (c:¬ (l[k]=47/\f=true)):AJ l f g k =
  if 0<B6 (l.drop k) then .tuple #[Ap 9 (Bc l k (k+B6 (l.drop k))) 0 k (k+B6 (l.drop k)),.int .i64 0] else .tuple #[Ap 0 [] 0 k 0,.int .i64 20]:=by
 rw[DZ l f g k h,if_neg a,if_neg e,if_neg d,if_neg b,if_neg c]
theorem MO (l:List UInt8) (i:Nat):∃kd b f t a,C7 l i = .tuple #[Ap kd b 0 f t,.int .i64 a]:=by
 unfold C7;dsimp only;split
 ·exact⟨_,_,_,_,_,rfl⟩
 split<;>exact⟨_,_,_,_,_,rfl⟩
theorem Lb (l:List UInt8) (i:Nat):∃kd b f t a,Cr l i = .tuple #[Ap kd b 0 f t,.int .i64 a]:=by
 unfold Cr;dsimp only;split<;>exact⟨_,_,_,_,_,rfl⟩
theorem Ft (l:List UInt8) (k:Nat) (h:k<l.length) (d:Aj l[k]=true\/(l[k]=46/\((l.drop (k+1)).head?.map Aj)=some true)):CV l k:=by
 refine⟨h,d.imp id fun⟨c,a⟩=>⟨c,?_⟩⟩;rcases Nat.lt_or_ge (k+1) l.length with b | b
 ·rw[L6 l k b] at a;exact⟨b,Option.some.inj a⟩
 rw[Kb l k b] at a;exact absurd a (by simp)
theorem Fs (s:ByteArray) (a0:Nat) (C:Bool) (w:World) (z:Value) (kd:Int) (I:List UInt8) (nm:Nat) (f t Q:Int) (z0:z = .tuple #[Ap kd I nm f t,.int .i64 Q]) (hs:s.size<=140737488351232) (ha:a0<=s.size)
  (y:CV s.data.toList (Abd s.data.toList a0)->∀W,Below w.heap.size w W->Calls prog 124 #[.string s,.int .i64 (Abd s.data.toList a0:Nat)] W fun e g=>e = .returned z/\Below W.heap.size W g) :
  Calls prog 101 #[.string s,.int .i64 a0,.bool C] w fun e g=>e = .returned (AJ s.data.toList C z (Abd s.data.toList a0))/\Below w.heap.size w g:=by
 obtain⟨K,hK⟩:∃K,Abd s.data.toList a0=K:=⟨_,rfl⟩;rw[hK] at y ⊢;have HN:=aC y;have i0:=aC z0;have P:=aC hK;have hm:s.size<=maxLen:=by unfold maxLen;omega
 have HM:=aC hm;clear y hK hm z0;have m0:Hid (min (a0:Int) s.size=a0):=by unfold Hid;omega
 have HA:=aC ha;have k0:¬ ((s.size:Int)<(a0:Int)):=(by omega);clear ha
 go_in
 go_wp2;refine GN (J7 s C w K) (RV s) rfl rfl (fun l a w h=>?hJ) ?pass0 ?pass1 ?first
 case hJ =>
  obtain⟨_,k,c,_,h0,_⟩:=h;rcases h0 with⟨h,_⟩ | ⟨h,_⟩
  ·exact .inl h
  exact .inr h
 case first =>
  intro l0 pass1;clear pass1;have v0:=aC l0;clear l0;go_wp2;go_step3
  rename_i h1
  rw[m0.out];refine h1 _ _ (v0.out _ _ ⟨rfl,a0,0,HA.out,.inl ⟨rfl,P⟩,?_⟩)
  (refine⟨?_,?_,?_,?_,?_,?_,?_,?_⟩;(iterate 6 (refine⟨?_,?_,?_,?_,?_,?_,?_,?_,?_,?_,?_,?_,?_,?_,?_,?_,?_,?_,?_,?_⟩;rotate_left 20));refine⟨?_,?_,?_,?_,?_,?_,?_,?_,?_,?_,?_,?_,?_,?_,?_,?_,?_,?_,?_,undef⟩;rotate_left 19;refine @congrArg _ _ _ _ (fun x=>Act.mk (aD x) []) ?_;dsimp only;repeat (refine congr (congrArg aG (?_:_=_)) ?_;· exact rfl);exact rfl)
 case pass0 =>
  clear k0 HA m0 P;rintro a' g ⟨rfl,k,c,hk,h0,g0,g1,g2,g3,g4,g5,g6,rfl⟩;obtain⟨_,P⟩ | ⟨h,_⟩:=h0
  rotate_left
  ·exact absurd h (by omega)
  by_cases S:k=s.size
  ·have q:Hid (AJ s.data.toList C z K = .tuple #[Ap 0 [] 0 k k,.int .i64 0]):=by
    unfold Hid;rw[<- P.out,Kw _ _ (by rw[S];exact aA _),AJ,aH (by rw[S];exact aA _)]
   have bk:((k:Int)==s.size)=true:=beq_iff_eq.2 (by omega);clear S;go_wp2;refine bodyPost_ret (v:=.tuple #[Ap 0 [] 0 k k,.int .i64 0]) (by simp[results,results101,go_sem,Ap]) rfl ⟨by rw[q.out],(aB _ _).alloc (aA _) _⟩
  have j:k<s.size:=(by omega);have r:k<s.data.toList.length:=(by simpa using j);have bk:((k:Int)==s.size)=false:=beq_eq_false_iff_ne.2 (by omega);clear S;by_cases L:s[k]=32\/s[k]=9\/s[k]=13
  ·have T:=aC (H_ _ _ r L)
   obtain U | U | U:=L
   ·have o0:((s[k].toNat:Int)==32)=true:=AH (d:=32) U
    clear U;go_wp2;go_step3;have e1:((k:Int)+1)=((k+1:Nat):Int):=(by omega);rw[e1];refine⟨⟨rfl,(k+1),(s[k].toNat:Int),by omega,.inl ⟨rfl,by unfold Hid;rw[<- T.out];exact P.out⟩,?_⟩,?_⟩
    ·(refine⟨?_,?_,?_,?_,?_,?_,?_,?_⟩;(iterate 6 (refine⟨?_,?_,?_,?_,?_,?_,?_,?_,?_,?_,?_,?_,?_,?_,?_,?_,?_,?_,?_,?_⟩;rotate_left 20));refine⟨?_,?_,?_,?_,?_,?_,?_,?_,?_,?_,?_,?_,?_,?_,?_,?_,?_,?_,?_,undef⟩;rotate_left 19;refine @congrArg _ _ _ _ (fun x=>Act.mk (aD x) []) ?_;dsimp only;repeat (refine congr (congrArg aG (?_:_=_)) ?_;· exact rfl);exact rfl)
    exact Ij s _ _ _ _ k (k+1) (by omega) (by omega) rfl rfl
   ·have o0:((s[k].toNat:Int)==32)=false:=Ao (d:=32) (by rw[U];decide)
    have b9:((s[k].toNat:Int)==9)=true:=AH (d:=9) U;clear U;go_wp2;go_step3;have e1:((k:Int)+1)=((k+1:Nat):Int):=(by omega);rw[e1];refine⟨⟨rfl,(k+1),(s[k].toNat:Int),by omega,.inl ⟨rfl,by unfold Hid;rw[<- T.out];exact P.out⟩,?_⟩,?_⟩
    ·(refine⟨?_,?_,?_,?_,?_,?_,?_,?_⟩;(iterate 6 (refine⟨?_,?_,?_,?_,?_,?_,?_,?_,?_,?_,?_,?_,?_,?_,?_,?_,?_,?_,?_,?_⟩;rotate_left 20));refine⟨?_,?_,?_,?_,?_,?_,?_,?_,?_,?_,?_,?_,?_,?_,?_,?_,?_,?_,?_,undef⟩;rotate_left 19;refine @congrArg _ _ _ _ (fun x=>Act.mk (aD x) []) ?_;dsimp only;repeat (refine congr (congrArg aG (?_:_=_)) ?_;· exact rfl);exact rfl)
    exact Ij s _ _ _ _ k (k+1) (by omega) (by omega) rfl rfl
   have o0:((s[k].toNat:Int)==32)=false:=Ao (d:=32) (by rw[U];decide);have b9:((s[k].toNat:Int)==9)=false:=Ao (d:=9) (by rw[U];decide);have a1:((s[k].toNat:Int)==13)=true:=AH (d:=13) U;clear U;go_wp2;go_step3;have e1:((k:Int)+1)=((k+1:Nat):Int):=(by omega);rw[e1];refine⟨⟨rfl,(k+1),(s[k].toNat:Int),by omega,.inl ⟨rfl,by unfold Hid;rw[<- T.out];exact P.out⟩,?_⟩,?_⟩
   ·(refine⟨?_,?_,?_,?_,?_,?_,?_,?_⟩;(iterate 6 (refine⟨?_,?_,?_,?_,?_,?_,?_,?_,?_,?_,?_,?_,?_,?_,?_,?_,?_,?_,?_,?_⟩;rotate_left 20));refine⟨?_,?_,?_,?_,?_,?_,?_,?_,?_,?_,?_,?_,?_,?_,?_,?_,?_,?_,?_,undef⟩;rotate_left 19;refine @congrArg _ _ _ _ (fun x=>Act.mk (aD x) []) ?_;dsimp only;repeat (refine congr (congrArg aG (?_:_=_)) ?_;· exact rfl);exact rfl)
   exact Ij s _ _ _ _ k (k+1) (by omega) (by omega) rfl rfl
  have o0:((s[k].toNat:Int)==32)=false:=Ao (d:=32) (fun h=>L (.inl h));have b9:((s[k].toNat:Int)==9)=false:=Ao (d:=9) (fun h=>L (.inr (.inl h)));have a1:((s[k].toNat:Int)==13)=false:=Ao (d:=13) (fun h=>L (.inr (.inr h)));by_cases R:s[k]=92/\s.data.toList[k+1]?=some 10
  ·obtain⟨s0,hj⟩:=R
   have d0:k+1<s.data.toList.length:=by
    rcases Nat.lt_or_ge (k+1) s.data.toList.length with h | h
    ·exact h
    rw[aI h] at hj;exact absurd hj (by simp)
   have b0:k+1<s.size:=(by simpa using d0);have i:s[k+1]=10:=by rw[aE d0] at hj;exact Option.some.inj hj
   have T:=aC (Jl _ _ d0 s0 i);have r0:((s[k].toNat:Int)==92)=true:=AH (d:=92) s0;have n0:((s[k+1].toNat:Int)==10)=true:=AH (d:=10) i;have d1:decide ((k:Int)+1<s.size)=true:=decide_eq_true (by omega);clear s0 hj i L;go_wp2;go_step3;have e1:((k:Int)+2)=((k+2:Nat):Int):=(by omega);rw[e1];refine⟨⟨rfl,(k+2),(s[k].toNat:Int),by omega,.inl ⟨rfl,by unfold Hid;rw[<- T.out];exact P.out⟩,?_⟩,?_⟩
   ·(refine⟨?_,?_,?_,?_,?_,?_,?_,?_⟩;(iterate 6 (refine⟨?_,?_,?_,?_,?_,?_,?_,?_,?_,?_,?_,?_,?_,?_,?_,?_,?_,?_,?_,?_⟩;rotate_left 20));refine⟨?_,?_,?_,?_,?_,?_,?_,?_,?_,?_,?_,?_,?_,?_,?_,?_,?_,?_,?_,undef⟩;rotate_left 19;refine @congrArg _ _ _ _ (fun x=>Act.mk (aD x) []) ?_;dsimp only;repeat (refine congr (congrArg aG (?_:_=_)) ?_;· exact rfl);exact rfl)
   exact Ij s _ _ _ _ k (k+2) (by omega) (by omega) rfl rfl
  by_cases M:s[k]=35
  ·have T:=aC (Jk _ _ r M)
   have X:=aC (show s.data.toList[k]?=some 35 by rw[aE r];exact congrArg some M);have r0:((s[k].toNat:Int)==92)=false:=Ao (d:=92) (by rw[M];decide);have b1:((s[k].toNat:Int)==35)=true:=AH (d:=35) M;clear R L M;go_wp2;go_step3;refine⟨⟨rfl,k,(s[k].toNat:Int),hk,.inr ⟨rfl,by unfold Hid;rw[<- T.out];exact P.out⟩,?_⟩,?_⟩
   ·(refine⟨?_,?_,?_,?_,?_,?_,?_,?_⟩;(iterate 6 (refine⟨?_,?_,?_,?_,?_,?_,?_,?_,?_,?_,?_,?_,?_,?_,?_,?_,?_,?_,?_,?_⟩;rotate_left 20));refine⟨?_,?_,?_,?_,?_,?_,?_,?_,?_,?_,?_,?_,?_,?_,?_,?_,?_,?_,?_,undef⟩;rotate_left 19;refine @congrArg _ _ _ _ (fun x=>Act.mk (aD x) []) ?_;dsimp only;repeat (refine congr (congrArg aG (?_:_=_)) ?_;· exact rfl);exact rfl)
   exact RW s _ _ _ _ k rfl rfl X.out
  have D:Hid (K=k):=by unfold Hid;rw[<- P.out];exact Jm _ _ r L M R
  have b1:((s[k].toNat:Int)==35)=false:=Ao (d:=35) M;clear P L M;by_cases b:s[k]=92
  ·have p:¬ (Aj (s.data.toList[k]'r)=true\/(s.data.toList[k]'r=46/\((s.data.toList.drop (k+1)).head?.map Aj)=some true)):=by rw[<- AO s k j,b];simp;decide
   have A:¬ (s.data.toList[k]'r=47/\C=true):=by rw[<- AO s k j,b];simp
   have r0:((s[k].toNat:Int)==92)=true:=AH (d:=92) b;have n0:((s[k].toNat:Int)==10)=false:=Ao (d:=10) (by rw[b];decide);have w0:((s[k].toNat:Int)==46)=false:=Ao (d:=46) (by rw[b];decide);have p0:((s[k].toNat:Int)==34)=false:=Ao (d:=34) (by rw[b];decide);have q0:((s[k].toNat:Int)==47)=false:=Ao (d:=47) (by rw[b];decide);have x0:C3 (s[k].toNat:Int)=false:=by rw[b];decide
   have t0:DI (s[k].toNat:Int)=false:=by rw[b];decide
   have B:¬ AbH (s.data.toList[k]'r)=true:=by rw[<- AO s k j,b];decide
   have u:s.data.toList[k]'r≠34:=by rw[<- AO s k j,b];decide
   have i:s.data.toList[k]'r≠10:=by rw[<- AO s k j,b];decide
   by_cases b0:k+1<s.size
   ·have i1:((s[k+1].toNat:Int)==10)=false:=Ao (d:=10) (fun h=>R ⟨b,by rw[aE (by simpa using b0)];exact congrArg some h⟩)
    have d1:decide ((k:Int)+1<s.size)=true:=decide_eq_true (by omega);clear R b;have G:=aC ((congrArg (AJ s.data.toList C z) D.out).trans (Ew s.data.toList C z k r i p B u A));have m:=aC (fun W=>EC s k W HM.out j);have o:=D5 (s.data.toList.drop k);clear i p B u A;generalize B6 (s.data.toList.drop k)=n at G m o;have N:k+n<=s.size:=by simp at o;omega
    clear o;by_cases O:0<n
    ·have q:Hid (AJ s.data.toList C z K = .tuple #[Ap 9 (Bc s.data.toList k (k+n)) 0 k (k+n),.int .i64 0]):=by unfold Hid;rw[G.out,if_pos O]
     have Y:Hid ((⟨(Bc s.data.toList k (k+n)).toArray⟩:ByteArray)=s.extract k (k+n)):=by
      have:(s.extract k (k+n)).data.toList=Bc s.data.toList k (k+n):=aF _ _ _;unfold Hid;rw[<- this]
     have Z:decide (0<(n:Int))=true:=decide_eq_true (by omega)
     go_wp2_with (first | (go_at_call 35;refine(AV _ _).mono ?_;rintro e g ⟨rfl,rfl⟩) | (go_at_call 34;refine(AN _ _).mono ?_;rintro e g ⟨rfl,rfl⟩) | (go_at_call 128;refine(m.out _).mono ?_;rintro e g ⟨rfl,rfl⟩))
     refine bodyPost_ret (v:=.tuple #[Ap 9 (Bc s.data.toList k (k+n)) 0 k (k+n),.int .i64 0]) (by simp[results,results101,go_sem,Ap,Y.out]) rfl ⟨by rw[q.out],(aB _ _).alloc (aA _) _⟩
    have q:Hid (AJ s.data.toList C z K = .tuple #[Ap 0 [] 0 k 0,.int .i64 20]):=by unfold Hid;rw[G.out,if_neg O]
    have Z:decide (0<(n:Int))=false:=decide_eq_false (by omega)
    go_wp2_with (first | (go_at_call 35;refine(AV _ _).mono ?_;rintro e g ⟨rfl,rfl⟩) | (go_at_call 34;refine(AN _ _).mono ?_;rintro e g ⟨rfl,rfl⟩) | (go_at_call 128;refine(m.out _).mono ?_;rintro e g ⟨rfl,rfl⟩))
    refine bodyPost_ret (v:=.tuple #[Ap 0 [] 0 k 0,.int .i64 20]) (by simp[results,results101,go_sem,Ap]) rfl ⟨by rw[q.out],(aB _ _).alloc (aA _) _⟩
   have d1:decide ((k:Int)+1<s.size)=false:=decide_eq_false (by omega);clear R b;have G:=aC ((congrArg (AJ s.data.toList C z) D.out).trans (Ew s.data.toList C z k r i p B u A));have m:=aC (fun W=>EC s k W HM.out j);have o:=D5 (s.data.toList.drop k);clear i p B u A;generalize B6 (s.data.toList.drop k)=n at G m o;have N:k+n<=s.size:=by simp at o;omega
   clear o;by_cases O:0<n
   ·have q:Hid (AJ s.data.toList C z K = .tuple #[Ap 9 (Bc s.data.toList k (k+n)) 0 k (k+n),.int .i64 0]):=by unfold Hid;rw[G.out,if_pos O]
    have Y:Hid ((⟨(Bc s.data.toList k (k+n)).toArray⟩:ByteArray)=s.extract k (k+n)):=by
     have:(s.extract k (k+n)).data.toList=Bc s.data.toList k (k+n):=aF _ _ _;unfold Hid;rw[<- this]
    have Z:decide (0<(n:Int))=true:=decide_eq_true (by omega)
    go_wp2_with (first | (go_at_call 35;refine(AV _ _).mono ?_;rintro e g ⟨rfl,rfl⟩) | (go_at_call 34;refine(AN _ _).mono ?_;rintro e g ⟨rfl,rfl⟩) | (go_at_call 128;refine(m.out _).mono ?_;rintro e g ⟨rfl,rfl⟩))
    refine bodyPost_ret (v:=.tuple #[Ap 9 (Bc s.data.toList k (k+n)) 0 k (k+n),.int .i64 0]) (by simp[results,results101,go_sem,Ap,Y.out]) rfl ⟨by rw[q.out],(aB _ _).alloc (aA _) _⟩
   have q:Hid (AJ s.data.toList C z K = .tuple #[Ap 0 [] 0 k 0,.int .i64 20]):=by unfold Hid;rw[G.out,if_neg O]
   have Z:decide (0<(n:Int))=false:=decide_eq_false (by omega)
   go_wp2_with (first | (go_at_call 35;refine(AV _ _).mono ?_;rintro e g ⟨rfl,rfl⟩) | (go_at_call 34;refine(AN _ _).mono ?_;rintro e g ⟨rfl,rfl⟩) | (go_at_call 128;refine(m.out _).mono ?_;rintro e g ⟨rfl,rfl⟩))
   refine bodyPost_ret (v:=.tuple #[Ap 0 [] 0 k 0,.int .i64 20]) (by simp[results,results101,go_sem,Ap]) rfl ⟨by rw[q.out],(aB _ _).alloc (aA _) _⟩
  clear R;have r0:((s[k].toNat:Int)==92)=false:=Ao (d:=92) b;clear b;by_cases b:s[k]=10
  ·have n0:((s[k].toNat:Int)==10)=true:=AH (d:=10) b
   have q:Hid (AJ s.data.toList C z K = .tuple #[Ap 1 [] 0 k (k+1),.int .i64 0]):=by unfold Hid;rw[D.out,DZ _ _ _ _ r,if_pos (by rw[<- AO s k j];exact b)]
   clear b;go_wp2;refine bodyPost_ret (v:=.tuple #[Ap 1 [] 0 k (k+1),.int .i64 0]) (by simp[results,results101,go_sem,Ap]) rfl ⟨by rw[q.out],(aB _ _).alloc (aA _) _⟩
  have n0:((s[k].toNat:Int)==10)=false:=Ao (d:=10) b;have i:s.data.toList[k]'r≠10:=b;clear b;by_cases H:Aj (s.data.toList[k]'r)=true
  ·have y:Aj (s.data.toList[k]'r)=true\/(s.data.toList[k]'r=46/\((s.data.toList.drop (k+1)).head?.map Aj)=some true):=.inl H
   have x0:C3 (s[k].toNat:Int)=true:=H;clear H;have q:Hid (AJ s.data.toList C z K = .tuple #[Ap kd I nm f t,.int .i64 Q]):=by unfold Hid;rw[D.out,DZ _ _ _ _ r,if_neg i,if_pos y,i0.out]
   have HR:Hid (∀W,Below w.heap.size w W->Calls prog 124 #[.string s,.int .i64 k] W fun e g=>e = .returned (.tuple #[.agg #[.int .i64 kd,.string ⟨I.toArray⟩,.float .f64 nm,.int .i64 f,.int .i64 t],.int .i64 Q])/\Below W.heap.size W g):=by
    have h:=HN.out;rw[D.out,i0.out] at h;exact h (Ft _ _ r y)
   clear y i
   go_wp2_with (first | (go_at_call 35;refine(AV _ _).mono ?_;rintro e g ⟨rfl,rfl⟩) | (go_at_call 34;refine(AN _ _).mono ?_;rintro e g ⟨rfl,rfl⟩) | (go_at_call 124;refine(HR.out _ ((aB _ _).alloc (aA _) _)).mono ?_;rintro e w1 ⟨rfl,J⟩;have E:=J.mono (B':=w.heap.size+1) (by simp);obtain⟨c0,c1,c2,c3,c4,f0,f1,f2,f3,f4⟩:=DB E))
   refine bodyPost_ret (v:=.tuple #[Ap kd I nm f t,.int .i64 Q]) (by simp[results,results101,go_sem,Ap,c0,c1,c2,c3,c4]) rfl ⟨by rw[q.out],BR E _ _ _ _ _⟩
  have x0:C3 (s[k].toNat:Int)=false:=eq_false_of_ne_true H;by_cases b:s[k]=46
  ·have A:¬ (s.data.toList[k]'r=47/\C=true):=by rw[<- AO s k j,b];simp
   have w0:((s[k].toNat:Int)==46)=true:=AH (d:=46) b;have p0:((s[k].toNat:Int)==34)=false:=Ao (d:=34) (by rw[b];decide);have q0:((s[k].toNat:Int)==47)=false:=Ao (d:=47) (by rw[b];decide);have t0:DI (s[k].toNat:Int)=false:=by rw[b];decide
   have B:¬ AbH (s.data.toList[k]'r)=true:=by rw[<- AO s k j,b];decide
   have u:s.data.toList[k]'r≠34:=by rw[<- AO s k j,b];decide
   by_cases b0:k+1<s.size
   ·have d1:decide ((k:Int)+1<s.size)=true:=decide_eq_true (by omega)
    have j0:=L6 s.data.toList k (by simpa using b0);by_cases V:Aj (s.data.toList[k+1]'(by simpa using b0))=true
    ·have y:Aj (s.data.toList[k]'r)=true\/(s.data.toList[k]'r=46/\((s.data.toList.drop (k+1)).head?.map Aj)=some true):=.inr ⟨b,by rw[j0,V]⟩
     have y0:C3 (s[k+1].toNat:Int)=true:=V;clear H V j0 b B u A;have q:Hid (AJ s.data.toList C z K = .tuple #[Ap kd I nm f t,.int .i64 Q]):=by unfold Hid;rw[D.out,DZ _ _ _ _ r,if_neg i,if_pos y,i0.out]
     have HR:Hid (∀W,Below w.heap.size w W->Calls prog 124 #[.string s,.int .i64 k] W fun e g=>e = .returned (.tuple #[.agg #[.int .i64 kd,.string ⟨I.toArray⟩,.float .f64 nm,.int .i64 f,.int .i64 t],.int .i64 Q])/\Below W.heap.size W g):=by
      have h:=HN.out;rw[D.out,i0.out] at h;exact h (Ft _ _ r y)
     clear y i
     go_wp2_with (first | (go_at_call 35;refine(AV _ _).mono ?_;rintro e g ⟨rfl,rfl⟩) | (go_at_call 34;refine(AN _ _).mono ?_;rintro e g ⟨rfl,rfl⟩) | (go_at_call 124;refine(HR.out _ ((aB _ _).alloc (aA _) _)).mono ?_;rintro e w1 ⟨rfl,J⟩;have E:=J.mono (B':=w.heap.size+1) (by simp);obtain⟨c0,c1,c2,c3,c4,f0,f1,f2,f3,f4⟩:=DB E))
     refine bodyPost_ret (v:=.tuple #[Ap kd I nm f t,.int .i64 Q]) (by simp[results,results101,go_sem,Ap,c0,c1,c2,c3,c4]) rfl ⟨by rw[q.out],BR E _ _ _ _ _⟩
    have p:¬ (Aj (s.data.toList[k]'r)=true\/(s.data.toList[k]'r=46/\((s.data.toList.drop (k+1)).head?.map Aj)=some true)):=by
     rintro(h | ⟨_,h⟩)
     ·exact H h
     rw[j0] at h;exact V (Option.some.inj h)
    have y0:C3 (s[k+1].toNat:Int)=false:=eq_false_of_ne_true V;clear H V j0 b;have G:=aC ((congrArg (AJ s.data.toList C z) D.out).trans (Ew s.data.toList C z k r i p B u A));have m:=aC (fun W=>EC s k W HM.out j);have o:=D5 (s.data.toList.drop k);clear i p B u A;generalize B6 (s.data.toList.drop k)=n at G m o;have N:k+n<=s.size:=by simp at o;omega
    clear o;by_cases O:0<n
    ·have q:Hid (AJ s.data.toList C z K = .tuple #[Ap 9 (Bc s.data.toList k (k+n)) 0 k (k+n),.int .i64 0]):=by unfold Hid;rw[G.out,if_pos O]
     have Y:Hid ((⟨(Bc s.data.toList k (k+n)).toArray⟩:ByteArray)=s.extract k (k+n)):=by
      have:(s.extract k (k+n)).data.toList=Bc s.data.toList k (k+n):=aF _ _ _;unfold Hid;rw[<- this]
     have Z:decide (0<(n:Int))=true:=decide_eq_true (by omega)
     go_wp2_with (first | (go_at_call 35;refine(AV _ _).mono ?_;rintro e g ⟨rfl,rfl⟩) | (go_at_call 34;refine(AN _ _).mono ?_;rintro e g ⟨rfl,rfl⟩) | (go_at_call 128;refine(m.out _).mono ?_;rintro e g ⟨rfl,rfl⟩))
     refine bodyPost_ret (v:=.tuple #[Ap 9 (Bc s.data.toList k (k+n)) 0 k (k+n),.int .i64 0]) (by simp[results,results101,go_sem,Ap,Y.out]) rfl ⟨by rw[q.out],(aB _ _).alloc (aA _) _⟩
    have q:Hid (AJ s.data.toList C z K = .tuple #[Ap 0 [] 0 k 0,.int .i64 20]):=by unfold Hid;rw[G.out,if_neg O]
    have Z:decide (0<(n:Int))=false:=decide_eq_false (by omega)
    go_wp2_with (first | (go_at_call 35;refine(AV _ _).mono ?_;rintro e g ⟨rfl,rfl⟩) | (go_at_call 34;refine(AN _ _).mono ?_;rintro e g ⟨rfl,rfl⟩) | (go_at_call 128;refine(m.out _).mono ?_;rintro e g ⟨rfl,rfl⟩))
    refine bodyPost_ret (v:=.tuple #[Ap 0 [] 0 k 0,.int .i64 20]) (by simp[results,results101,go_sem,Ap]) rfl ⟨by rw[q.out],(aB _ _).alloc (aA _) _⟩
   have d1:decide ((k:Int)+1<s.size)=false:=decide_eq_false (by omega)
   have p:¬ (Aj (s.data.toList[k]'r)=true\/(s.data.toList[k]'r=46/\((s.data.toList.drop (k+1)).head?.map Aj)=some true)):=by
    rintro(h | ⟨_,h⟩)
    ·exact H h
    rw[Kb _ _ (by simp;omega)] at h;exact absurd h (by simp)
   clear H b;have G:=aC ((congrArg (AJ s.data.toList C z) D.out).trans (Ew s.data.toList C z k r i p B u A));have m:=aC (fun W=>EC s k W HM.out j);have o:=D5 (s.data.toList.drop k);clear i p B u A;generalize B6 (s.data.toList.drop k)=n at G m o;have N:k+n<=s.size:=by simp at o;omega
   clear o;by_cases O:0<n
   ·have q:Hid (AJ s.data.toList C z K = .tuple #[Ap 9 (Bc s.data.toList k (k+n)) 0 k (k+n),.int .i64 0]):=by unfold Hid;rw[G.out,if_pos O]
    have Y:Hid ((⟨(Bc s.data.toList k (k+n)).toArray⟩:ByteArray)=s.extract k (k+n)):=by
     have:(s.extract k (k+n)).data.toList=Bc s.data.toList k (k+n):=aF _ _ _;unfold Hid;rw[<- this]
    have Z:decide (0<(n:Int))=true:=decide_eq_true (by omega)
    go_wp2_with (first | (go_at_call 35;refine(AV _ _).mono ?_;rintro e g ⟨rfl,rfl⟩) | (go_at_call 34;refine(AN _ _).mono ?_;rintro e g ⟨rfl,rfl⟩) | (go_at_call 128;refine(m.out _).mono ?_;rintro e g ⟨rfl,rfl⟩))
    refine bodyPost_ret (v:=.tuple #[Ap 9 (Bc s.data.toList k (k+n)) 0 k (k+n),.int .i64 0]) (by simp[results,results101,go_sem,Ap,Y.out]) rfl ⟨by rw[q.out],(aB _ _).alloc (aA _) _⟩
   have q:Hid (AJ s.data.toList C z K = .tuple #[Ap 0 [] 0 k 0,.int .i64 20]):=by unfold Hid;rw[G.out,if_neg O]
   have Z:decide (0<(n:Int))=false:=decide_eq_false (by omega)
   go_wp2_with (first | (go_at_call 35;refine(AV _ _).mono ?_;rintro e g ⟨rfl,rfl⟩) | (go_at_call 34;refine(AN _ _).mono ?_;rintro e g ⟨rfl,rfl⟩) | (go_at_call 128;refine(m.out _).mono ?_;rintro e g ⟨rfl,rfl⟩))
   refine bodyPost_ret (v:=.tuple #[Ap 0 [] 0 k 0,.int .i64 20]) (by simp[results,results101,go_sem,Ap]) rfl ⟨by rw[q.out],(aB _ _).alloc (aA _) _⟩
  have w0:((s[k].toNat:Int)==46)=false:=Ao (d:=46) b
  have p:¬ (Aj (s.data.toList[k]'r)=true\/(s.data.toList[k]'r=46/\((s.data.toList.drop (k+1)).head?.map Aj)=some true)):=by
   rintro(h | ⟨h,_⟩)
   ·exact H h
   exact b h
  clear H b;by_cases F:AbH (s.data.toList[k]'r)=true
  ·have t0:DI (s[k].toNat:Int)=true:=F
   obtain⟨kd,I,f,t,hw⟩:∃kd I f t,DG s.data.toList k=Ap kd I 0 f t:=⟨_,_,_,_,rfl⟩;have q:Hid (AJ s.data.toList C z K = .tuple #[Ap kd I 0 f t,.int .i64 0]):=by unfold Hid;rw[D.out,DZ _ _ _ _ r,if_neg i,if_neg p,if_pos F,hw]
   have HR:Hid (∀W,Below w.heap.size w W->Calls prog 125 #[.string s,.int .i64 k] W fun e g=>e = .returned (.agg #[.int .i64 kd,.string ⟨I.toArray⟩,.float .f64 0,.int .i64 f,.int .i64 t])/\Below W.heap.size W g):=by
    intro W _;have h:=Zo s k W HM.out j;rw[hw] at h;exact h
   clear hw F p i
   go_wp2_with (first | (go_at_call 35;refine(AV _ _).mono ?_;rintro e g ⟨rfl,rfl⟩) | (go_at_call 34;refine(AN _ _).mono ?_;rintro e g ⟨rfl,rfl⟩) | (go_at_call 125;refine(HR.out _ ((aB _ _).alloc (aA _) _)).mono ?_;rintro e w1 ⟨rfl,J⟩;have E:=J.mono (B':=w.heap.size+1) (by simp);obtain⟨c0,c1,c2,c3,c4,f0,f1,f2,f3,f4⟩:=DB E))
   refine bodyPost_ret (v:=.tuple #[Ap kd I 0 f t,.int .i64 0]) (by simp[results,results101,go_sem,Ap,c0,c1,c2,c3,c4]) rfl ⟨by rw[q.out],BR E _ _ _ _ _⟩
  have t0:DI (s[k].toNat:Int)=false:=eq_false_of_ne_true F;by_cases b:s[k]=34
  ·have p0:((s[k].toNat:Int)==34)=true:=AH (d:=34) b
   obtain⟨kd,I,f,t,Q,hw⟩:=MO s.data.toList k;have q:Hid (AJ s.data.toList C z K = .tuple #[Ap kd I 0 f t,.int .i64 Q]):=by unfold Hid;rw[D.out,DZ _ _ _ _ r,if_neg i,if_neg p,if_neg F,if_pos (by rw[<- AO s k j];exact b),hw]
   have HR:Hid (∀W,Below w.heap.size w W->Calls prog 126 #[.string s,.int .i64 k] W fun e g=>e = .returned (.tuple #[.agg #[.int .i64 kd,.string ⟨I.toArray⟩,.float .f64 0,.int .i64 f,.int .i64 t],.int .i64 Q])/\Below W.heap.size W g):=by
    intro W _;have h:=S8 s k W hs j b;rw[hw] at h;exact h
   clear hw F p i b
   go_wp2_with (first | (go_at_call 35;refine(AV _ _).mono ?_;rintro e g ⟨rfl,rfl⟩) | (go_at_call 34;refine(AN _ _).mono ?_;rintro e g ⟨rfl,rfl⟩) | (go_at_call 126;refine(HR.out _ ((aB _ _).alloc (aA _) _)).mono ?_;rintro e w1 ⟨rfl,J⟩;have E:=J.mono (B':=w.heap.size+1) (by simp);obtain⟨c0,c1,c2,c3,c4,f0,f1,f2,f3,f4⟩:=DB E))
   refine bodyPost_ret (v:=.tuple #[Ap kd I 0 f t,.int .i64 Q]) (by simp[results,results101,go_sem,Ap,c0,c1,c2,c3,c4]) rfl ⟨by rw[q.out],BR E _ _ _ _ _⟩
  have p0:((s[k].toNat:Int)==34)=false:=Ao (d:=34) b;have u:s.data.toList[k]'r≠34:=b;clear b;by_cases b:s[k]=47
  ·have q0:((s[k].toNat:Int)==47)=true:=AH (d:=47) b
   cases C with
   | true =>
     obtain⟨kd,I,f,t,Q,hw⟩:=Lb s.data.toList k;have q:Hid (AJ s.data.toList true z K = .tuple #[Ap kd I 0 f t,.int .i64 Q]):=by unfold Hid;rw[D.out,DZ _ _ _ _ r,if_neg i,if_neg p,if_neg F,if_neg u,if_pos ⟨by rw[<- AO s k j];exact b,rfl⟩,hw]
     have HR:Hid (∀W,Below w.heap.size w W->Calls prog 127 #[.string s,.int .i64 k] W fun e g=>e = .returned (.tuple #[.agg #[.int .i64 kd,.string ⟨I.toArray⟩,.float .f64 0,.int .i64 f,.int .i64 t],.int .i64 Q])/\Below W.heap.size W g):=by
      intro W _;have h:=P_ s k W hs j b;rw[hw] at h;exact h
     clear hw F p i b u
     go_wp2_with (first | (go_at_call 35;refine(AV _ _).mono ?_;rintro e g ⟨rfl,rfl⟩) | (go_at_call 34;refine(AN _ _).mono ?_;rintro e g ⟨rfl,rfl⟩) | (go_at_call 127;refine(HR.out _ ((aB _ _).alloc (aA _) _)).mono ?_;rintro e w1 ⟨rfl,J⟩;have E:=J.mono (B':=w.heap.size+1) (by simp);obtain⟨c0,c1,c2,c3,c4,f0,f1,f2,f3,f4⟩:=DB E))
     refine bodyPost_ret (v:=.tuple #[Ap kd I 0 f t,.int .i64 Q]) (by simp[results,results101,go_sem,Ap,c0,c1,c2,c3,c4]) rfl ⟨by rw[q.out],BR E _ _ _ _ _⟩
   | false =>
     have A:¬ (s.data.toList[k]'r=47/\false=true):=(by simp);have B:=F;clear F b;have G:=aC ((congrArg (AJ s.data.toList false z) D.out).trans (Ew s.data.toList false z k r i p B u A));have m:=aC (fun W=>EC s k W HM.out j);have o:=D5 (s.data.toList.drop k);clear i p B u A;generalize B6 (s.data.toList.drop k)=n at G m o;have N:k+n<=s.size:=by simp at o;omega
     clear o;by_cases O:0<n
     ·have q:Hid (AJ s.data.toList false z K = .tuple #[Ap 9 (Bc s.data.toList k (k+n)) 0 k (k+n),.int .i64 0]):=by unfold Hid;rw[G.out,if_pos O]
      have Y:Hid ((⟨(Bc s.data.toList k (k+n)).toArray⟩:ByteArray)=s.extract k (k+n)):=by
       have:(s.extract k (k+n)).data.toList=Bc s.data.toList k (k+n):=aF _ _ _;unfold Hid;rw[<- this]
      have Z:decide (0<(n:Int))=true:=decide_eq_true (by omega)
      go_wp2_with (first | (go_at_call 35;refine(AV _ _).mono ?_;rintro e g ⟨rfl,rfl⟩) | (go_at_call 34;refine(AN _ _).mono ?_;rintro e g ⟨rfl,rfl⟩) | (go_at_call 128;refine(m.out _).mono ?_;rintro e g ⟨rfl,rfl⟩))
      refine bodyPost_ret (v:=.tuple #[Ap 9 (Bc s.data.toList k (k+n)) 0 k (k+n),.int .i64 0]) (by simp[results,results101,go_sem,Ap,Y.out]) rfl ⟨by rw[q.out],(aB _ _).alloc (aA _) _⟩
     have q:Hid (AJ s.data.toList false z K = .tuple #[Ap 0 [] 0 k 0,.int .i64 20]):=by unfold Hid;rw[G.out,if_neg O]
     have Z:decide (0<(n:Int))=false:=decide_eq_false (by omega)
     go_wp2_with (first | (go_at_call 35;refine(AV _ _).mono ?_;rintro e g ⟨rfl,rfl⟩) | (go_at_call 34;refine(AN _ _).mono ?_;rintro e g ⟨rfl,rfl⟩) | (go_at_call 128;refine(m.out _).mono ?_;rintro e g ⟨rfl,rfl⟩))
     refine bodyPost_ret (v:=.tuple #[Ap 0 [] 0 k 0,.int .i64 20]) (by simp[results,results101,go_sem,Ap]) rfl ⟨by rw[q.out],(aB _ _).alloc (aA _) _⟩
  have q0:((s[k].toNat:Int)==47)=false:=Ao (d:=47) b;have A:¬ (s.data.toList[k]'r=47/\C=true):=fun h=>b h.1;have B:=F;clear F b;have G:=aC ((congrArg (AJ s.data.toList C z) D.out).trans (Ew s.data.toList C z k r i p B u A));have m:=aC (fun W=>EC s k W HM.out j);have o:=D5 (s.data.toList.drop k);clear i p B u A;generalize B6 (s.data.toList.drop k)=n at G m o;have N:k+n<=s.size:=by simp at o;omega
  clear o;by_cases O:0<n
  ·have q:Hid (AJ s.data.toList C z K = .tuple #[Ap 9 (Bc s.data.toList k (k+n)) 0 k (k+n),.int .i64 0]):=by unfold Hid;rw[G.out,if_pos O]
   have Y:Hid ((⟨(Bc s.data.toList k (k+n)).toArray⟩:ByteArray)=s.extract k (k+n)):=by
    have:(s.extract k (k+n)).data.toList=Bc s.data.toList k (k+n):=aF _ _ _;unfold Hid;rw[<- this]
   have Z:decide (0<(n:Int))=true:=decide_eq_true (by omega)
   go_wp2_with (first | (go_at_call 35;refine(AV _ _).mono ?_;rintro e g ⟨rfl,rfl⟩) | (go_at_call 34;refine(AN _ _).mono ?_;rintro e g ⟨rfl,rfl⟩) | (go_at_call 128;refine(m.out _).mono ?_;rintro e g ⟨rfl,rfl⟩))
   refine bodyPost_ret (v:=.tuple #[Ap 9 (Bc s.data.toList k (k+n)) 0 k (k+n),.int .i64 0]) (by simp[results,results101,go_sem,Ap,Y.out]) rfl ⟨by rw[q.out],(aB _ _).alloc (aA _) _⟩
  have q:Hid (AJ s.data.toList C z K = .tuple #[Ap 0 [] 0 k 0,.int .i64 20]):=by unfold Hid;rw[G.out,if_neg O]
  have Z:decide (0<(n:Int))=false:=decide_eq_false (by omega)
  go_wp2_with (first | (go_at_call 35;refine(AV _ _).mono ?_;rintro e g ⟨rfl,rfl⟩) | (go_at_call 34;refine(AN _ _).mono ?_;rintro e g ⟨rfl,rfl⟩) | (go_at_call 128;refine(m.out _).mono ?_;rintro e g ⟨rfl,rfl⟩))
  refine bodyPost_ret (v:=.tuple #[Ap 0 [] 0 k 0,.int .i64 20]) (by simp[results,results101,go_sem,Ap]) rfl ⟨by rw[q.out],(aB _ _).alloc (aA _) _⟩
 clear k0 HA m0 P;rintro a' g ⟨rfl,k,c,hk,h0,g0,g1,g2,g3,g4,g5,g6,rfl⟩;obtain⟨h,_⟩ | ⟨_,P⟩:=h0
 ·exact absurd h (by omega)
 by_cases j:k<s.size
 ·by_cases b:s[k]=10
  ·have U:((s[k].toNat:Int) != 10)=false:=Et (d:=10) b
   have T:=aC (MI _ _ (by simpa using j) b);have X:=aC (show s.data.toList[k]?≠some 35 by rw[aE (by simpa using j)];rw[AO] at b;rw[b];decide);clear b;go_wp2;go_step3;refine⟨⟨rfl,k,c,hk,.inl ⟨rfl,by unfold Hid;rw[<- T.out];exact P.out⟩,?_⟩,?_⟩
   ·(refine⟨?_,?_,?_,?_,?_,?_,?_,?_⟩;(iterate 6 (refine⟨?_,?_,?_,?_,?_,?_,?_,?_,?_,?_,?_,?_,?_,?_,?_,?_,?_,?_,?_,?_⟩;rotate_left 20));refine⟨?_,?_,?_,?_,?_,?_,?_,?_,?_,?_,?_,?_,?_,?_,?_,?_,?_,?_,?_,undef⟩;rotate_left 19;refine @congrArg _ _ _ _ (fun x=>Act.mk (aD x) []) ?_;dsimp only;repeat (refine congr (congrArg aG (?_:_=_)) ?_;· exact rfl);exact rfl)
   exact Mf s _ _ _ _ k rfl rfl X.out
  have U:((s[k].toNat:Int) != 10)=true:=Cu (d:=10) b;have T:=aC (Jj _ _ (by simpa using j) b);clear b;go_wp2;go_step3;have e1:((k:Int)+1)=((k+1:Nat):Int):=(by omega);rw[e1];refine⟨⟨rfl,k+1,c,by omega,.inr ⟨rfl,by unfold Hid;rw[<- T.out];exact P.out⟩,?_⟩,?_⟩
  ·(refine⟨?_,?_,?_,?_,?_,?_,?_,?_⟩;(iterate 6 (refine⟨?_,?_,?_,?_,?_,?_,?_,?_,?_,?_,?_,?_,?_,?_,?_,?_,?_,?_,?_,?_⟩;rotate_left 20));refine⟨?_,?_,?_,?_,?_,?_,?_,?_,?_,?_,?_,?_,?_,?_,?_,?_,?_,?_,?_,undef⟩;rotate_left 19;refine @congrArg _ _ _ _ (fun x=>Act.mk (aD x) []) ?_;dsimp only;repeat (refine congr (congrArg aG (?_:_=_)) ?_;· exact rfl);exact rfl)
  exact TU s _ _ _ _ k (k+1) (by omega) j rfl rfl
 have T:=aC (Kv s.data.toList k (by simp;omega));have X:=aC (show s.data.toList[k]?≠some 35 by rw[aI (by simp;omega)];simp);have d1:decide ((k:Int)<s.size)=false:=decide_eq_false (by omega);go_wp2;go_step3;refine⟨⟨rfl,k,c,hk,.inl ⟨rfl,by unfold Hid;rw[<- T.out];exact P.out⟩,?_⟩,?_⟩
 ·(refine⟨?_,?_,?_,?_,?_,?_,?_,?_⟩;(iterate 6 (refine⟨?_,?_,?_,?_,?_,?_,?_,?_,?_,?_,?_,?_,?_,?_,?_,?_,?_,?_,?_,?_⟩;rotate_left 20));refine⟨?_,?_,?_,?_,?_,?_,?_,?_,?_,?_,?_,?_,?_,?_,?_,?_,?_,?_,?_,undef⟩;rotate_left 19;refine @congrArg _ _ _ _ (fun x=>Act.mk (aD x) []) ?_;dsimp only;repeat (refine congr (congrArg aG (?_:_=_)) ?_;· exact rfl);exact rfl)
 exact Mf s _ _ _ _ k rfl rfl X.out
end Go.Proofs.YtfblenhlildnaaaGreatDoor
