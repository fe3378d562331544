/- Wo -/
import Derived.Test.YtipfpohlnhmlpaaGreatDoorWe
import Derived.Test.YtipfpohlnhmlpaaGreatDoorWk
import Derived.Test.YtipfpohlnhmlpaaGreatDoorGl
import Derived.Test.YtipfpohlnhmlpaaGreatDoorNp
import Derived.Test.YtipfpohlnhmlpaaGreatDoorPc
import Derived.Test.YtipfpohlnhmlpaaGreatDoorNl
set_option maxRecDepth 100000
set_option maxHeartbeats 3200000
open Nat renaming le_refl->aA
open Go.RowKit.Below renaming refl->aB
open Go.Lib renaming hid->aC,extract_data->aF
open List renaming toArray->aD,getElem?_eq_getElem->aE,cons->aG,drop_eq_nil_of_le->aH,getElem?_eq_none->aI
namespace Go.Proofs.YtipfpohlnhmlpaaGreatDoor
open Go.Proofs.Tryz
open Go.RowKit
def AJ (l:List UInt8) (a:Bool) (nv:Value) (k:Nat):Value :=
 match l.drop k with
 | [] => .tuple #[Ap 0 [] 0 k k,.int .i64 0]
 | c::r =>
   if c=10 then .tuple #[Ap 1 [] 0 k (k+1),.int .i64 0]
   else if Aj c=true\/(c=46/\(r.head?.map Aj)=some true) then nv
   else if B2 c=true then .tuple #[DG l k,.int .i64 0]
   else if c=34 then C7 l k
   else if c=47/\a=true then Cr l k
   else if 0<B6 (c::r) then .tuple #[Ap 9 (Bc l k (k+B6 (c::r))) 0 k (k+B6 (c::r)),.int .i64 0]
   else .tuple #[Ap 0 [] 0 k 0,.int .i64 20]
abbrev W9:Obj:=.cells #[.int .i64 0,.string { data := #[] },.float .f64 0,.int .i64 0,.int .i64 0] 27
def J7 (s:ByteArray) (C:Bool) (w:World) (K:Nat) (A:Nat) (B:Act) (w':World):Prop :=
 w'=w.alloc W9/\∃(k:Nat) (c:Int),k<=s.size/\((A=0/\Hid (AL s.data.toList k=K))\/(A=1/\Hid (Ec s.data.toList k=K)))/\∃(u v x y z g5 g6:Xc),B={ tmps := #[.string s,.int .i64 k,.bool C,undef,undef,undef,.pointer (some ⟨w.heap.size,0,none⟩),.int .i64 0,.int .u8 c,u.a,u.b,u.c,u.d,u.e,u.f,u.g,u.h,u.i,u.j,u.k,u.l,u.m,u.n,u.o,u.p,u.q,u.r,u.s,u.t,v.a,v.b,v.c,v.d,v.e,v.f,v.g,v.h,v.i,v.j,v.k,v.l,v.m,v.n,v.o,v.p,v.q,v.r,v.s,v.t,x.a,x.b,x.c,x.d,x.e,x.f,x.g,x.h,x.i,x.j,x.k,x.l,x.m,x.n,x.o,x.p,x.q,x.r,x.s,x.t,y.a,y.b,y.c,y.d,y.e,y.f,y.g,y.h,y.i,y.j,y.k,y.l,y.m,y.n,y.o,y.p,y.q,y.r,y.s,y.t,z.a,z.b,z.c,z.d,z.e,z.f,z.g,z.h,z.i,z.j,z.k,z.l,z.m,z.n,z.o,z.p,z.q,z.r,z.s,z.t,g5.a,g5.b,g5.c,g5.d,g5.e,g5.f,g5.g,g5.h,g5.i,g5.j,g5.k,g5.l,g5.m,g5.n,g5.o,g5.p,g5.q,g5.r,g5.s,g5.t,g6.a,g6.b,g6.c,g6.d,g6.e,g6.f,g6.g,g6.h,g6.i,g6.j,g6.k,g6.l,g6.m,g6.n,g6.o,g6.p,g6.q,g6.r,g6.s],defers:=[] }
def Vw (s:ByteArray) (a k:Nat):Nat:=if a=1 then 1 else if s.data.toList[k]?=some 35 then 2 else 0
def RV (s:ByteArray) (b:Nat) (a:Act) (_:World):Nat :=
 3*(s.size-(intOf (a.tmps.getD 1 undef)).toNat)+Vw s b (intOf (a.tmps.getD 1 undef)).toNat
theorem Fq (s:ByteArray) (b:Nat) (a:Act) (w:World) (k:Nat) (ha:a.tmps.getD 1 undef = .int .i64 k):RV s b a w=3*(s.size-k)+Vw s b k:=by
 unfold RV;rw[ha];rfl
theorem Vx (s:ByteArray) (a k:Nat):Vw s a k<=2:=by unfold Vw;split<;>(try split)<;>omega
theorem OH (s:ByteArray) (k:Nat):Vw s 1 k=1:=rfl
theorem Ij (s:ByteArray) (a b:Act) (w w':World) (k c:Nat) (h:k<c) (e:c<=s.size) (ha:a.tmps.getD 1 undef = .int .i64 k) (d:b.tmps.getD 1 undef = .int .i64 c):RV s 0 b w'<RV s 0 a w:=by
 rw[Fq s 0 a w k ha,Fq s 0 b w' c d];have:=Vx s 0 c;omega
theorem TU (s:ByteArray) (a b:Act) (w w':World) (k c:Nat) (h:k<c) (e:k<s.size) (ha:a.tmps.getD 1 undef = .int .i64 k) (d:b.tmps.getD 1 undef = .int .i64 c):RV s 1 b w'<RV s 1 a w:=by
 rw[Fq s 1 a w k ha,Fq s 1 b w' c d,OH,OH];omega
theorem RW (s:ByteArray) (a b:Act) (w w':World) (k:Nat) (ha:a.tmps.getD 1 undef = .int .i64 k) (c:b.tmps.getD 1 undef = .int .i64 k) (h:s.data.toList[k]?=some 35):RV s 1 b w'<RV s 0 a w:=by
 rw[Fq s 0 a w k ha,Fq s 1 b w' k c,OH,Vw,if_neg (by decide),if_pos h];omega
theorem Mf (s:ByteArray) (a b:Act) (w w':World) (k:Nat) (ha:a.tmps.getD 1 undef = .int .i64 k) (c:b.tmps.getD 1 undef = .int .i64 k) (h:s.data.toList[k]?≠some 35):RV s 0 b w'<RV s 1 a w:=by
 rw[Fq s 1 a w k ha,Fq s 0 b w' k c,OH,Vw,if_neg (by decide),if_neg h];omega
theorem S_:∀x∈He,x.length=2:=by decide
theorem D5 (l:List UInt8):B6 l<=l.length:=by
 cases l with
 | nil=>exact aA _
 | cons c r =>
   rw[B6];split
   ·rename_i h
    have:=S_ _ (List.contains_iff_mem.1 h);rw[List.length_take] at this;omega
   split<;>simp
theorem DZ (l:List UInt8) (a:Bool) (nv:Value) (k:Nat) (h:k<l.length):AJ l a nv k =
  if l[k]=10 then .tuple #[Ap 1 [] 0 k (k+1),.int .i64 0]
  else if Aj l[k]=true\/(l[k]=46/\((l.drop (k+1)).head?.map Aj)=some true) then nv
  else if B2 l[k]=true then .tuple #[DG l k,.int .i64 0]
  else if l[k]=34 then C7 l k
  else if l[k]=47/\a=true then Cr l k
  else if 0<B6 (l.drop k) then .tuple #[Ap 9 (Bc l k (k+B6 (l.drop k))) 0 k (k+B6 (l.drop k)),.int .i64 0]
  else .tuple #[Ap 0 [] 0 k 0,.int .i64 20]:=by
 rw[AJ,Aq l k h]
theorem L6 (l:List UInt8) (k:Nat) (h:k+1<l.length):((l.drop (k+1)).head?.map Aj)=some (Aj l[k+1]):=by rw[Aq l (k+1) h];rfl
theorem Kb (l:List UInt8) (k:Nat) (h:l.length<=k+1):((l.drop (k+1)).head?.map Aj)=none:=by rw[aH h];rfl
theorem Ew (l:List UInt8) (f:Bool) (nv:Value) (k:Nat) (h:k<l.length) (a:l[k]≠10) (e:¬ (Aj l[k]=true\/(l[k]=46/\((l.drop (k+1)).head?.map Aj)=some true)))
  (d:¬ B2 l[k]=true) (b:l[k]≠34) (c:¬ (l[k]=47/\f=true)):AJ l f nv k =
  if 0<B6 (l.drop k) then .tuple #[Ap 9 (Bc l k (k+B6 (l.drop k))) 0 k (k+B6 (l.drop k)),.int .i64 0] else .tuple #[Ap 0 [] 0 k 0,.int .i64 20]:=by
 rw[DZ l f nv k h,if_neg a,if_neg e,if_neg d,if_neg b,if_neg c]
theorem MO (l:List UInt8) (i:Nat):∃kd b f t a,C7 l i = .tuple #[Ap kd b 0 f t,.int .i64 a]:=by
 unfold C7;dsimp only;split
 ·exact⟨_,_,_,_,_,rfl⟩
 split<;>exact⟨_,_,_,_,_,rfl⟩
theorem Lb (l:List UInt8) (i:Nat):∃kd b f t a,Cr l i = .tuple #[Ap kd b 0 f t,.int .i64 a]:=by
 unfold Cr;dsimp only;split<;>exact⟨_,_,_,_,_,rfl⟩
theorem Ft (l:List UInt8) (k:Nat) (h:k<l.length) (d:Aj l[k]=true\/(l[k]=46/\((l.drop (k+1)).head?.map Aj)=some true)):CV l k:=by
 refine⟨h,d.imp id fun⟨c,a⟩=>⟨c,?_⟩⟩;rcases Nat.lt_or_ge (k+1) l.length with b | b
 ·rw[L6 l k b] at a;exact⟨b,Option.some.inj a⟩
 rw[Kb l k b] at a;exact absurd a (by simp)
theorem Fs (s:ByteArray) (a0:Nat) (B:Bool) (w:World) (nv:Value) (kd:Int) (H:List UInt8) (nm:Nat) (f t P:Int) (y0:nv = .tuple #[Ap kd H nm f t,.int .i64 P]) (hs:s.size<=140737488351232) (ha:a0<=s.size)
  (y:CV s.data.toList (AL s.data.toList a0)->∀W,Below w.heap.size w W->Calls prog 13 #[.string s,.int .i64 (AL s.data.toList a0:Nat)] W fun e g=>e = .returned nv/\Below W.heap.size W g) :
  Calls prog 6 #[.string s,.int .i64 a0,.bool B] w fun e g=>e = .returned (AJ s.data.toList B nv (AL s.data.toList a0))/\Below w.heap.size w g:=by
 obtain⟨K,hK⟩:∃K,AL s.data.toList a0=K:=⟨_,rfl⟩;rw[hK] at y ⊢;have HN:=aC y;have h0:=aC y0;have O:=aC hK;have hm:s.size<=maxLen:=by unfold maxLen;omega
 have HM:=aC hm;clear y hK hm y0;have l0:Hid (min (a0:Int) s.size=a0):=by unfold Hid;omega
 have HA:=aC ha;have j0:¬ ((s.size:Int)<(a0:Int)):=(by omega);clear ha
 go_in
 go_wp2;refine GN (J7 s B w K) (RV s) rfl rfl (fun l a w h=>?hJ) ?pass0 ?pass1 ?first
 case hJ =>
  obtain⟨_,k,c,_,d0,_⟩:=h;rcases d0 with⟨h,_⟩ | ⟨h,_⟩
  ·exact .inl h
  exact .inr h
 case first =>
  intro k0 pass1;clear pass1;have t0:=aC k0;clear k0;go_wp2;go_step3
  rename_i b1
  rw[l0.out];refine b1 _ _ (t0.out _ _ ⟨rfl,a0,0,HA.out,.inl ⟨rfl,O⟩,?_⟩)
  (refine⟨?_,?_,?_,?_,?_,?_,?_,?_⟩;(iterate 6 (refine⟨?_,?_,?_,?_,?_,?_,?_,?_,?_,?_,?_,?_,?_,?_,?_,?_,?_,?_,?_,?_⟩;rotate_left 20));refine⟨?_,?_,?_,?_,?_,?_,?_,?_,?_,?_,?_,?_,?_,?_,?_,?_,?_,?_,?_,undef⟩;rotate_left 19;refine @congrArg _ _ _ _ (fun x=>Act.mk (aD x) []) ?_;dsimp only;repeat (refine congr (congrArg aG (?_:_=_)) ?_;· exact rfl);exact rfl)
 case pass0 =>
  clear j0 HA l0 O;rintro a' g ⟨rfl,k,c,hk,d0,g0,g1,g2,g3,g4,g5,g6,rfl⟩;obtain⟨_,O⟩ | ⟨h,_⟩:=d0
  rotate_left
  ·exact absurd h (by omega)
  by_cases R:k=s.size
  ·have q:Hid (AJ s.data.toList B nv K = .tuple #[Ap 0 [] 0 k k,.int .i64 0]):=by
    unfold Hid;rw[<- O.out,Kw _ _ (by rw[R];exact aA _),AJ,aH (by rw[R];exact aA _)]
   have bk:((k:Int)==s.size)=true:=beq_iff_eq.2 (by omega);clear R;go_wp2;refine bodyPost_ret (v:=.tuple #[Ap 0 [] 0 k k,.int .i64 0]) (by simp[results,results6,go_sem,Ap]) rfl ⟨by rw[q.out],(aB _ _).alloc (aA _) _⟩
  have j:k<s.size:=(by omega);have r:k<s.data.toList.length:=(by simpa using j);have bk:((k:Int)==s.size)=false:=beq_eq_false_iff_ne.2 (by omega);clear R;by_cases J:s[k]=32\/s[k]=9\/s[k]=13
  ·have S:=aC (H_ _ _ r J)
   obtain T | T | T:=J
   ·have n0:((s[k].toNat:Int)==32)=true:=AH (d:=32) T
    clear T;go_wp2;go_step3;have e1:((k:Int)+1)=((k+1:Nat):Int):=(by omega);rw[e1];refine⟨⟨rfl,(k+1),(s[k].toNat:Int),by omega,.inl ⟨rfl,by unfold Hid;rw[<- S.out];exact O.out⟩,?_⟩,?_⟩
    ·(refine⟨?_,?_,?_,?_,?_,?_,?_,?_⟩;(iterate 6 (refine⟨?_,?_,?_,?_,?_,?_,?_,?_,?_,?_,?_,?_,?_,?_,?_,?_,?_,?_,?_,?_⟩;rotate_left 20));refine⟨?_,?_,?_,?_,?_,?_,?_,?_,?_,?_,?_,?_,?_,?_,?_,?_,?_,?_,?_,undef⟩;rotate_left 19;refine @congrArg _ _ _ _ (fun x=>Act.mk (aD x) []) ?_;dsimp only;repeat (refine congr (congrArg aG (?_:_=_)) ?_;· exact rfl);exact rfl)
    exact Ij s _ _ _ _ k (k+1) (by omega) (by omega) rfl rfl
   ·have n0:((s[k].toNat:Int)==32)=false:=Ao (d:=32) (by rw[T];decide)
    have b9:((s[k].toNat:Int)==9)=true:=AH (d:=9) T;clear T;go_wp2;go_step3;have e1:((k:Int)+1)=((k+1:Nat):Int):=(by omega);rw[e1];refine⟨⟨rfl,(k+1),(s[k].toNat:Int),by omega,.inl ⟨rfl,by unfold Hid;rw[<- S.out];exact O.out⟩,?_⟩,?_⟩
    ·(refine⟨?_,?_,?_,?_,?_,?_,?_,?_⟩;(iterate 6 (refine⟨?_,?_,?_,?_,?_,?_,?_,?_,?_,?_,?_,?_,?_,?_,?_,?_,?_,?_,?_,?_⟩;rotate_left 20));refine⟨?_,?_,?_,?_,?_,?_,?_,?_,?_,?_,?_,?_,?_,?_,?_,?_,?_,?_,?_,undef⟩;rotate_left 19;refine @congrArg _ _ _ _ (fun x=>Act.mk (aD x) []) ?_;dsimp only;repeat (refine congr (congrArg aG (?_:_=_)) ?_;· exact rfl);exact rfl)
    exact Ij s _ _ _ _ k (k+1) (by omega) (by omega) rfl rfl
   have n0:((s[k].toNat:Int)==32)=false:=Ao (d:=32) (by rw[T];decide);have b9:((s[k].toNat:Int)==9)=false:=Ao (d:=9) (by rw[T];decide);have z0:((s[k].toNat:Int)==13)=true:=AH (d:=13) T;clear T;go_wp2;go_step3;have e1:((k:Int)+1)=((k+1:Nat):Int):=(by omega);rw[e1];refine⟨⟨rfl,(k+1),(s[k].toNat:Int),by omega,.inl ⟨rfl,by unfold Hid;rw[<- S.out];exact O.out⟩,?_⟩,?_⟩
   ·(refine⟨?_,?_,?_,?_,?_,?_,?_,?_⟩;(iterate 6 (refine⟨?_,?_,?_,?_,?_,?_,?_,?_,?_,?_,?_,?_,?_,?_,?_,?_,?_,?_,?_,?_⟩;rotate_left 20));refine⟨?_,?_,?_,?_,?_,?_,?_,?_,?_,?_,?_,?_,?_,?_,?_,?_,?_,?_,?_,undef⟩;rotate_left 19;refine @congrArg _ _ _ _ (fun x=>Act.mk (aD x) []) ?_;dsimp only;repeat (refine congr (congrArg aG (?_:_=_)) ?_;· exact rfl);exact rfl)
   exact Ij s _ _ _ _ k (k+1) (by omega) (by omega) rfl rfl
  have n0:((s[k].toNat:Int)==32)=false:=Ao (d:=32) (fun h=>J (.inl h));have b9:((s[k].toNat:Int)==9)=false:=Ao (d:=9) (fun h=>J (.inr (.inl h)));have z0:((s[k].toNat:Int)==13)=false:=Ao (d:=13) (fun h=>J (.inr (.inr h)));by_cases Q:s[k]=92/\s.data.toList[k+1]?=some 10
  ·obtain⟨r0,hj⟩:=Q
   have b0:k+1<s.data.toList.length:=by
    rcases Nat.lt_or_ge (k+1) s.data.toList.length with h | h
    ·exact h
    rw[aI h] at hj;exact absurd hj (by simp)
   have Z:k+1<s.size:=(by simpa using b0);have i:s[k+1]=10:=by rw[aE b0] at hj;exact Option.some.inj hj
   have S:=aC (Jl _ _ b0 r0 i);have q0:((s[k].toNat:Int)==92)=true:=AH (d:=92) r0;have m0:((s[k+1].toNat:Int)==10)=true:=AH (d:=10) i;have d1:decide ((k:Int)+1<s.size)=true:=decide_eq_true (by omega);clear r0 hj i J;go_wp2;go_step3;have e1:((k:Int)+2)=((k+2:Nat):Int):=(by omega);rw[e1];refine⟨⟨rfl,(k+2),(s[k].toNat:Int),by omega,.inl ⟨rfl,by unfold Hid;rw[<- S.out];exact O.out⟩,?_⟩,?_⟩
   ·(refine⟨?_,?_,?_,?_,?_,?_,?_,?_⟩;(iterate 6 (refine⟨?_,?_,?_,?_,?_,?_,?_,?_,?_,?_,?_,?_,?_,?_,?_,?_,?_,?_,?_,?_⟩;rotate_left 20));refine⟨?_,?_,?_,?_,?_,?_,?_,?_,?_,?_,?_,?_,?_,?_,?_,?_,?_,?_,?_,undef⟩;rotate_left 19;refine @congrArg _ _ _ _ (fun x=>Act.mk (aD x) []) ?_;dsimp only;repeat (refine congr (congrArg aG (?_:_=_)) ?_;· exact rfl);exact rfl)
   exact Ij s _ _ _ _ k (k+2) (by omega) (by omega) rfl rfl
  by_cases L:s[k]=35
  ·have S:=aC (Jk _ _ r L)
   have V:=aC (show s.data.toList[k]?=some 35 by rw[aE r];exact congrArg some L);have q0:((s[k].toNat:Int)==92)=false:=Ao (d:=92) (by rw[L];decide);have a1:((s[k].toNat:Int)==35)=true:=AH (d:=35) L;clear Q J L;go_wp2;go_step3;refine⟨⟨rfl,k,(s[k].toNat:Int),hk,.inr ⟨rfl,by unfold Hid;rw[<- S.out];exact O.out⟩,?_⟩,?_⟩
   ·(refine⟨?_,?_,?_,?_,?_,?_,?_,?_⟩;(iterate 6 (refine⟨?_,?_,?_,?_,?_,?_,?_,?_,?_,?_,?_,?_,?_,?_,?_,?_,?_,?_,?_,?_⟩;rotate_left 20));refine⟨?_,?_,?_,?_,?_,?_,?_,?_,?_,?_,?_,?_,?_,?_,?_,?_,?_,?_,?_,undef⟩;rotate_left 19;refine @congrArg _ _ _ _ (fun x=>Act.mk (aD x) []) ?_;dsimp only;repeat (refine congr (congrArg aG (?_:_=_)) ?_;· exact rfl);exact rfl)
   exact RW s _ _ _ _ k rfl rfl V.out
  have C:Hid (K=k):=by unfold Hid;rw[<- O.out];exact Jm _ _ r J L Q
  have a1:((s[k].toNat:Int)==35)=false:=Ao (d:=35) L;clear O J L;by_cases b:s[k]=92
  ·have p:¬ (Aj (s.data.toList[k]'r)=true\/(s.data.toList[k]'r=46/\((s.data.toList.drop (k+1)).head?.map Aj)=some true)):=by rw[<- AO s k j,b];simp;decide
   have z:¬ (s.data.toList[k]'r=47/\B=true):=by rw[<- AO s k j,b];simp
   have q0:((s[k].toNat:Int)==92)=true:=AH (d:=92) b;have m0:((s[k].toNat:Int)==10)=false:=Ao (d:=10) (by rw[b];decide);have v0:((s[k].toNat:Int)==46)=false:=Ao (d:=46) (by rw[b];decide);have o0:((s[k].toNat:Int)==34)=false:=Ao (d:=34) (by rw[b];decide);have p0:((s[k].toNat:Int)==47)=false:=Ao (d:=47) (by rw[b];decide);have w0:C3 (s[k].toNat:Int)=false:=by rw[b];decide
   have s0:DI (s[k].toNat:Int)=false:=by rw[b];decide
   have A:¬ B2 (s.data.toList[k]'r)=true:=by rw[<- AO s k j,b];decide
   have u:s.data.toList[k]'r≠34:=by rw[<- AO s k j,b];decide
   have i:s.data.toList[k]'r≠10:=by rw[<- AO s k j,b];decide
   by_cases Z:k+1<s.size
   ·have h1:((s[k+1].toNat:Int)==10)=false:=Ao (d:=10) (fun h=>Q ⟨b,by rw[aE (by simpa using Z)];exact congrArg some h⟩)
    have d1:decide ((k:Int)+1<s.size)=true:=decide_eq_true (by omega);clear Q b;have F:=aC ((congrArg (AJ s.data.toList B nv) C.out).trans (Ew s.data.toList B nv k r i p A u z));have m:=aC (fun W=>EC s k W HM.out j);have o:=D5 (s.data.toList.drop k);clear i p A u z;generalize B6 (s.data.toList.drop k)=n at F m o;have M:k+n<=s.size:=by simp at o;omega
    clear o;by_cases N:0<n
    ·have q:Hid (AJ s.data.toList B nv K = .tuple #[Ap 9 (Bc s.data.toList k (k+n)) 0 k (k+n),.int .i64 0]):=by unfold Hid;rw[F.out,if_pos N]
     have X:Hid ((⟨(Bc s.data.toList k (k+n)).toArray⟩:ByteArray)=s.extract k (k+n)):=by
      have:(s.extract k (k+n)).data.toList=Bc s.data.toList k (k+n):=aF _ _ _;unfold Hid;rw[<- this]
     have Y:decide (0<(n:Int))=true:=decide_eq_true (by omega)
     go_wp2_with (first | (go_at_call 12;refine(AV _ _).mono ?_;rintro e g ⟨rfl,rfl⟩) | (go_at_call 14;refine(AN _ _).mono ?_;rintro e g ⟨rfl,rfl⟩) | (go_at_call 18;refine(m.out _).mono ?_;rintro e g ⟨rfl,rfl⟩))
     refine bodyPost_ret (v:=.tuple #[Ap 9 (Bc s.data.toList k (k+n)) 0 k (k+n),.int .i64 0]) (by simp[results,results6,go_sem,Ap,X.out]) rfl ⟨by rw[q.out],(aB _ _).alloc (aA _) _⟩
    have q:Hid (AJ s.data.toList B nv K = .tuple #[Ap 0 [] 0 k 0,.int .i64 20]):=by unfold Hid;rw[F.out,if_neg N]
    have Y:decide (0<(n:Int))=false:=decide_eq_false (by omega)
    go_wp2_with (first | (go_at_call 12;refine(AV _ _).mono ?_;rintro e g ⟨rfl,rfl⟩) | (go_at_call 14;refine(AN _ _).mono ?_;rintro e g ⟨rfl,rfl⟩) | (go_at_call 18;refine(m.out _).mono ?_;rintro e g ⟨rfl,rfl⟩))
    refine bodyPost_ret (v:=.tuple #[Ap 0 [] 0 k 0,.int .i64 20]) (by simp[results,results6,go_sem,Ap]) rfl ⟨by rw[q.out],(aB _ _).alloc (aA _) _⟩
   have d1:decide ((k:Int)+1<s.size)=false:=decide_eq_false (by omega);clear Q b;have F:=aC ((congrArg (AJ s.data.toList B nv) C.out).trans (Ew s.data.toList B nv k r i p A u z));have m:=aC (fun W=>EC s k W HM.out j);have o:=D5 (s.data.toList.drop k);clear i p A u z;generalize B6 (s.data.toList.drop k)=n at F m o;have M:k+n<=s.size:=by simp at o;omega
   clear o;by_cases N:0<n
   ·have q:Hid (AJ s.data.toList B nv K = .tuple #[Ap 9 (Bc s.data.toList k (k+n)) 0 k (k+n),.int .i64 0]):=by unfold Hid;rw[F.out,if_pos N]
    have X:Hid ((⟨(Bc s.data.toList k (k+n)).toArray⟩:ByteArray)=s.extract k (k+n)):=by
     have:(s.extract k (k+n)).data.toList=Bc s.data.toList k (k+n):=aF _ _ _;unfold Hid;rw[<- this]
    have Y:decide (0<(n:Int))=true:=decide_eq_true (by omega)
    go_wp2_with (first | (go_at_call 12;refine(AV _ _).mono ?_;rintro e g ⟨rfl,rfl⟩) | (go_at_call 14;refine(AN _ _).mono ?_;rintro e g ⟨rfl,rfl⟩) | (go_at_call 18;refine(m.out _).mono ?_;rintro e g ⟨rfl,rfl⟩))
    refine bodyPost_ret (v:=.tuple #[Ap 9 (Bc s.data.toList k (k+n)) 0 k (k+n),.int .i64 0]) (by simp[results,results6,go_sem,Ap,X.out]) rfl ⟨by rw[q.out],(aB _ _).alloc (aA _) _⟩
   have q:Hid (AJ s.data.toList B nv K = .tuple #[Ap 0 [] 0 k 0,.int .i64 20]):=by unfold Hid;rw[F.out,if_neg N]
   have Y:decide (0<(n:Int))=false:=decide_eq_false (by omega)
   go_wp2_with (first | (go_at_call 12;refine(AV _ _).mono ?_;rintro e g ⟨rfl,rfl⟩) | (go_at_call 14;refine(AN _ _).mono ?_;rintro e g ⟨rfl,rfl⟩) | (go_at_call 18;refine(m.out _).mono ?_;rintro e g ⟨rfl,rfl⟩))
   refine bodyPost_ret (v:=.tuple #[Ap 0 [] 0 k 0,.int .i64 20]) (by simp[results,results6,go_sem,Ap]) rfl ⟨by rw[q.out],(aB _ _).alloc (aA _) _⟩
  clear Q;have q0:((s[k].toNat:Int)==92)=false:=Ao (d:=92) b;clear b;by_cases b:s[k]=10
  ·have m0:((s[k].toNat:Int)==10)=true:=AH (d:=10) b
   have q:Hid (AJ s.data.toList B nv K = .tuple #[Ap 1 [] 0 k (k+1),.int .i64 0]):=by unfold Hid;rw[C.out,DZ _ _ _ _ r,if_pos (by rw[<- AO s k j];exact b)]
   clear b;go_wp2;refine bodyPost_ret (v:=.tuple #[Ap 1 [] 0 k (k+1),.int .i64 0]) (by simp[results,results6,go_sem,Ap]) rfl ⟨by rw[q.out],(aB _ _).alloc (aA _) _⟩
  have m0:((s[k].toNat:Int)==10)=false:=Ao (d:=10) b;have i:s.data.toList[k]'r≠10:=b;clear b;by_cases G:Aj (s.data.toList[k]'r)=true
  ·have y:Aj (s.data.toList[k]'r)=true\/(s.data.toList[k]'r=46/\((s.data.toList.drop (k+1)).head?.map Aj)=some true):=.inl G
   have w0:C3 (s[k].toNat:Int)=true:=G;clear G;have q:Hid (AJ s.data.toList B nv K = .tuple #[Ap kd H nm f t,.int .i64 P]):=by unfold Hid;rw[C.out,DZ _ _ _ _ r,if_neg i,if_pos y,h0.out]
   have HR:Hid (∀W,Below w.heap.size w W->Calls prog 13 #[.string s,.int .i64 k] W fun e g=>e = .returned (.tuple #[.agg #[.int .i64 kd,.string ⟨H.toArray⟩,.float .f64 nm,.int .i64 f,.int .i64 t],.int .i64 P])/\Below W.heap.size W g):=by
    have h:=HN.out;rw[C.out,h0.out] at h;exact h (Ft _ _ r y)
   clear y i
   go_wp2_with (first | (go_at_call 12;refine(AV _ _).mono ?_;rintro e g ⟨rfl,rfl⟩) | (go_at_call 14;refine(AN _ _).mono ?_;rintro e g ⟨rfl,rfl⟩) | (go_at_call 13;refine(HR.out _ ((aB _ _).alloc (aA _) _)).mono ?_;rintro e w1 ⟨rfl,I⟩;have D:=I.mono (B':=w.heap.size+1) (by simp);obtain⟨c0,c1,c2,c3,c4,f0,f1,f2,f3,f4⟩:=DB D))
   refine bodyPost_ret (v:=.tuple #[Ap kd H nm f t,.int .i64 P]) (by simp[results,results6,go_sem,Ap,c0,c1,c2,c3,c4]) rfl ⟨by rw[q.out],BR D _ _ _ _ _⟩
  have w0:C3 (s[k].toNat:Int)=false:=eq_false_of_ne_true G;by_cases b:s[k]=46
  ·have z:¬ (s.data.toList[k]'r=47/\B=true):=by rw[<- AO s k j,b];simp
   have v0:((s[k].toNat:Int)==46)=true:=AH (d:=46) b;have o0:((s[k].toNat:Int)==34)=false:=Ao (d:=34) (by rw[b];decide);have p0:((s[k].toNat:Int)==47)=false:=Ao (d:=47) (by rw[b];decide);have s0:DI (s[k].toNat:Int)=false:=by rw[b];decide
   have A:¬ B2 (s.data.toList[k]'r)=true:=by rw[<- AO s k j,b];decide
   have u:s.data.toList[k]'r≠34:=by rw[<- AO s k j,b];decide
   by_cases Z:k+1<s.size
   ·have d1:decide ((k:Int)+1<s.size)=true:=decide_eq_true (by omega)
    have i0:=L6 s.data.toList k (by simpa using Z);by_cases U:Aj (s.data.toList[k+1]'(by simpa using Z))=true
    ·have y:Aj (s.data.toList[k]'r)=true\/(s.data.toList[k]'r=46/\((s.data.toList.drop (k+1)).head?.map Aj)=some true):=.inr ⟨b,by rw[i0,U]⟩
     have x0:C3 (s[k+1].toNat:Int)=true:=U;clear G U i0 b A u z;have q:Hid (AJ s.data.toList B nv K = .tuple #[Ap kd H nm f t,.int .i64 P]):=by unfold Hid;rw[C.out,DZ _ _ _ _ r,if_neg i,if_pos y,h0.out]
     have HR:Hid (∀W,Below w.heap.size w W->Calls prog 13 #[.string s,.int .i64 k] W fun e g=>e = .returned (.tuple #[.agg #[.int .i64 kd,.string ⟨H.toArray⟩,.float .f64 nm,.int .i64 f,.int .i64 t],.int .i64 P])/\Below W.heap.size W g):=by
      have h:=HN.out;rw[C.out,h0.out] at h;exact h (Ft _ _ r y)
     clear y i
     go_wp2_with (first | (go_at_call 12;refine(AV _ _).mono ?_;rintro e g ⟨rfl,rfl⟩) | (go_at_call 14;refine(AN _ _).mono ?_;rintro e g ⟨rfl,rfl⟩) | (go_at_call 13;refine(HR.out _ ((aB _ _).alloc (aA _) _)).mono ?_;rintro e w1 ⟨rfl,I⟩;have D:=I.mono (B':=w.heap.size+1) (by simp);obtain⟨c0,c1,c2,c3,c4,f0,f1,f2,f3,f4⟩:=DB D))
     refine bodyPost_ret (v:=.tuple #[Ap kd H nm f t,.int .i64 P]) (by simp[results,results6,go_sem,Ap,c0,c1,c2,c3,c4]) rfl ⟨by rw[q.out],BR D _ _ _ _ _⟩
    have p:¬ (Aj (s.data.toList[k]'r)=true\/(s.data.toList[k]'r=46/\((s.data.toList.drop (k+1)).head?.map Aj)=some true)):=by
     rintro(h | ⟨_,h⟩)
     ·exact G h
     rw[i0] at h;exact U (Option.some.inj h)
    have x0:C3 (s[k+1].toNat:Int)=false:=eq_false_of_ne_true U;clear G U i0 b;have F:=aC ((congrArg (AJ s.data.toList B nv) C.out).trans (Ew s.data.toList B nv k r i p A u z));have m:=aC (fun W=>EC s k W HM.out j);have o:=D5 (s.data.toList.drop k);clear i p A u z;generalize B6 (s.data.toList.drop k)=n at F m o;have M:k+n<=s.size:=by simp at o;omega
    clear o;by_cases N:0<n
    ·have q:Hid (AJ s.data.toList B nv K = .tuple #[Ap 9 (Bc s.data.toList k (k+n)) 0 k (k+n),.int .i64 0]):=by unfold Hid;rw[F.out,if_pos N]
     have X:Hid ((⟨(Bc s.data.toList k (k+n)).toArray⟩:ByteArray)=s.extract k (k+n)):=by
      have:(s.extract k (k+n)).data.toList=Bc s.data.toList k (k+n):=aF _ _ _;unfold Hid;rw[<- this]
     have Y:decide (0<(n:Int))=true:=decide_eq_true (by omega)
     go_wp2_with (first | (go_at_call 12;refine(AV _ _).mono ?_;rintro e g ⟨rfl,rfl⟩) | (go_at_call 14;refine(AN _ _).mono ?_;rintro e g ⟨rfl,rfl⟩) | (go_at_call 18;refine(m.out _).mono ?_;rintro e g ⟨rfl,rfl⟩))
     refine bodyPost_ret (v:=.tuple #[Ap 9 (Bc s.data.toList k (k+n)) 0 k (k+n),.int .i64 0]) (by simp[results,results6,go_sem,Ap,X.out]) rfl ⟨by rw[q.out],(aB _ _).alloc (aA _) _⟩
    have q:Hid (AJ s.data.toList B nv K = .tuple #[Ap 0 [] 0 k 0,.int .i64 20]):=by unfold Hid;rw[F.out,if_neg N]
    have Y:decide (0<(n:Int))=false:=decide_eq_false (by omega)
    go_wp2_with (first | (go_at_call 12;refine(AV _ _).mono ?_;rintro e g ⟨rfl,rfl⟩) | (go_at_call 14;refine(AN _ _).mono ?_;rintro e g ⟨rfl,rfl⟩) | (go_at_call 18;refine(m.out _).mono ?_;rintro e g ⟨rfl,rfl⟩))
    refine bodyPost_ret (v:=.tuple #[Ap 0 [] 0 k 0,.int .i64 20]) (by simp[results,results6,go_sem,Ap]) rfl ⟨by rw[q.out],(aB _ _).alloc (aA _) _⟩
   have d1:decide ((k:Int)+1<s.size)=false:=decide_eq_false (by omega)
   have p:¬ (Aj (s.data.toList[k]'r)=true\/(s.data.toList[k]'r=46/\((s.data.toList.drop (k+1)).head?.map Aj)=some true)):=by
    rintro(h | ⟨_,h⟩)
    ·exact G h
    rw[Kb _ _ (by simp;omega)] at h;exact absurd h (by simp)
   clear G b;have F:=aC ((congrArg (AJ s.data.toList B nv) C.out).trans (Ew s.data.toList B nv k r i p A u z));have m:=aC (fun W=>EC s k W HM.out j);have o:=D5 (s.data.toList.drop k);clear i p A u z;generalize B6 (s.data.toList.drop k)=n at F m o;have M:k+n<=s.size:=by simp at o;omega
   clear o;by_cases N:0<n
   ·have q:Hid (AJ s.data.toList B nv K = .tuple #[Ap 9 (Bc s.data.toList k (k+n)) 0 k (k+n),.int .i64 0]):=by unfold Hid;rw[F.out,if_pos N]
    have X:Hid ((⟨(Bc s.data.toList k (k+n)).toArray⟩:ByteArray)=s.extract k (k+n)):=by
     have:(s.extract k (k+n)).data.toList=Bc s.data.toList k (k+n):=aF _ _ _;unfold Hid;rw[<- this]
    have Y:decide (0<(n:Int))=true:=decide_eq_true (by omega)
    go_wp2_with (first | (go_at_call 12;refine(AV _ _).mono ?_;rintro e g ⟨rfl,rfl⟩) | (go_at_call 14;refine(AN _ _).mono ?_;rintro e g ⟨rfl,rfl⟩) | (go_at_call 18;refine(m.out _).mono ?_;rintro e g ⟨rfl,rfl⟩))
    refine bodyPost_ret (v:=.tuple #[Ap 9 (Bc s.data.toList k (k+n)) 0 k (k+n),.int .i64 0]) (by simp[results,results6,go_sem,Ap,X.out]) rfl ⟨by rw[q.out],(aB _ _).alloc (aA _) _⟩
   have q:Hid (AJ s.data.toList B nv K = .tuple #[Ap 0 [] 0 k 0,.int .i64 20]):=by unfold Hid;rw[F.out,if_neg N]
   have Y:decide (0<(n:Int))=false:=decide_eq_false (by omega)
   go_wp2_with (first | (go_at_call 12;refine(AV _ _).mono ?_;rintro e g ⟨rfl,rfl⟩) | (go_at_call 14;refine(AN _ _).mono ?_;rintro e g ⟨rfl,rfl⟩) | (go_at_call 18;refine(m.out _).mono ?_;rintro e g ⟨rfl,rfl⟩))
   refine bodyPost_ret (v:=.tuple #[Ap 0 [] 0 k 0,.int .i64 20]) (by simp[results,results6,go_sem,Ap]) rfl ⟨by rw[q.out],(aB _ _).alloc (aA _) _⟩
  have v0:((s[k].toNat:Int)==46)=false:=Ao (d:=46) b
  have p:¬ (Aj (s.data.toList[k]'r)=true\/(s.data.toList[k]'r=46/\((s.data.toList.drop (k+1)).head?.map Aj)=some true)):=by
   rintro(h | ⟨h,_⟩)
   ·exact G h
   exact b h
  clear G b;by_cases E:B2 (s.data.toList[k]'r)=true
  ·have s0:DI (s[k].toNat:Int)=true:=E
   obtain⟨kd,H,f,t,hw⟩:∃kd H f t,DG s.data.toList k=Ap kd H 0 f t:=⟨_,_,_,_,rfl⟩;have q:Hid (AJ s.data.toList B nv K = .tuple #[Ap kd H 0 f t,.int .i64 0]):=by unfold Hid;rw[C.out,DZ _ _ _ _ r,if_neg i,if_neg p,if_pos E,hw]
   have HR:Hid (∀W,Below w.heap.size w W->Calls prog 15 #[.string s,.int .i64 k] W fun e g=>e = .returned (.agg #[.int .i64 kd,.string ⟨H.toArray⟩,.float .f64 0,.int .i64 f,.int .i64 t])/\Below W.heap.size W g):=by
    intro W _;have h:=Tf s k W HM.out j;rw[hw] at h;exact h
   clear hw E p i
   go_wp2_with (first | (go_at_call 12;refine(AV _ _).mono ?_;rintro e g ⟨rfl,rfl⟩) | (go_at_call 14;refine(AN _ _).mono ?_;rintro e g ⟨rfl,rfl⟩) | (go_at_call 15;refine(HR.out _ ((aB _ _).alloc (aA _) _)).mono ?_;rintro e w1 ⟨rfl,I⟩;have D:=I.mono (B':=w.heap.size+1) (by simp);obtain⟨c0,c1,c2,c3,c4,f0,f1,f2,f3,f4⟩:=DB D))
   refine bodyPost_ret (v:=.tuple #[Ap kd H 0 f t,.int .i64 0]) (by simp[results,results6,go_sem,Ap,c0,c1,c2,c3,c4]) rfl ⟨by rw[q.out],BR D _ _ _ _ _⟩
  have s0:DI (s[k].toNat:Int)=false:=eq_false_of_ne_true E;by_cases b:s[k]=34
  ·have o0:((s[k].toNat:Int)==34)=true:=AH (d:=34) b
   obtain⟨kd,H,f,t,P,hw⟩:=MO s.data.toList k;have q:Hid (AJ s.data.toList B nv K = .tuple #[Ap kd H 0 f t,.int .i64 P]):=by unfold Hid;rw[C.out,DZ _ _ _ _ r,if_neg i,if_neg p,if_neg E,if_pos (by rw[<- AO s k j];exact b),hw]
   have HR:Hid (∀W,Below w.heap.size w W->Calls prog 16 #[.string s,.int .i64 k] W fun e g=>e = .returned (.tuple #[.agg #[.int .i64 kd,.string ⟨H.toArray⟩,.float .f64 0,.int .i64 f,.int .i64 t],.int .i64 P])/\Below W.heap.size W g):=by
    intro W _;have h:=S8 s k W hs j b;rw[hw] at h;exact h
   clear hw E p i b
   go_wp2_with (first | (go_at_call 12;refine(AV _ _).mono ?_;rintro e g ⟨rfl,rfl⟩) | (go_at_call 14;refine(AN _ _).mono ?_;rintro e g ⟨rfl,rfl⟩) | (go_at_call 16;refine(HR.out _ ((aB _ _).alloc (aA _) _)).mono ?_;rintro e w1 ⟨rfl,I⟩;have D:=I.mono (B':=w.heap.size+1) (by simp);obtain⟨c0,c1,c2,c3,c4,f0,f1,f2,f3,f4⟩:=DB D))
   refine bodyPost_ret (v:=.tuple #[Ap kd H 0 f t,.int .i64 P]) (by simp[results,results6,go_sem,Ap,c0,c1,c2,c3,c4]) rfl ⟨by rw[q.out],BR D _ _ _ _ _⟩
  have o0:((s[k].toNat:Int)==34)=false:=Ao (d:=34) b;have u:s.data.toList[k]'r≠34:=b;clear b;by_cases b:s[k]=47
  ·have p0:((s[k].toNat:Int)==47)=true:=AH (d:=47) b
   cases B with
   | true =>
     obtain⟨kd,H,f,t,P,hw⟩:=Lb s.data.toList k;have q:Hid (AJ s.data.toList true nv K = .tuple #[Ap kd H 0 f t,.int .i64 P]):=by unfold Hid;rw[C.out,DZ _ _ _ _ r,if_neg i,if_neg p,if_neg E,if_neg u,if_pos ⟨by rw[<- AO s k j];exact b,rfl⟩,hw]
     have HR:Hid (∀W,Below w.heap.size w W->Calls prog 17 #[.string s,.int .i64 k] W fun e g=>e = .returned (.tuple #[.agg #[.int .i64 kd,.string ⟨H.toArray⟩,.float .f64 0,.int .i64 f,.int .i64 t],.int .i64 P])/\Below W.heap.size W g):=by
      intro W _;have h:=P_ s k W hs j b;rw[hw] at h;exact h
     clear hw E p i b u
     go_wp2_with (first | (go_at_call 12;refine(AV _ _).mono ?_;rintro e g ⟨rfl,rfl⟩) | (go_at_call 14;refine(AN _ _).mono ?_;rintro e g ⟨rfl,rfl⟩) | (go_at_call 17;refine(HR.out _ ((aB _ _).alloc (aA _) _)).mono ?_;rintro e w1 ⟨rfl,I⟩;have D:=I.mono (B':=w.heap.size+1) (by simp);obtain⟨c0,c1,c2,c3,c4,f0,f1,f2,f3,f4⟩:=DB D))
     refine bodyPost_ret (v:=.tuple #[Ap kd H 0 f t,.int .i64 P]) (by simp[results,results6,go_sem,Ap,c0,c1,c2,c3,c4]) rfl ⟨by rw[q.out],BR D _ _ _ _ _⟩
   | false =>
     have z:¬ (s.data.toList[k]'r=47/\false=true):=(by simp);have A:=E;clear E b;have F:=aC ((congrArg (AJ s.data.toList false nv) C.out).trans (Ew s.data.toList false nv k r i p A u z));have m:=aC (fun W=>EC s k W HM.out j);have o:=D5 (s.data.toList.drop k);clear i p A u z;generalize B6 (s.data.toList.drop k)=n at F m o;have M:k+n<=s.size:=by simp at o;omega
     clear o;by_cases N:0<n
     ·have q:Hid (AJ s.data.toList false nv K = .tuple #[Ap 9 (Bc s.data.toList k (k+n)) 0 k (k+n),.int .i64 0]):=by unfold Hid;rw[F.out,if_pos N]
      have X:Hid ((⟨(Bc s.data.toList k (k+n)).toArray⟩:ByteArray)=s.extract k (k+n)):=by
       have:(s.extract k (k+n)).data.toList=Bc s.data.toList k (k+n):=aF _ _ _;unfold Hid;rw[<- this]
      have Y:decide (0<(n:Int))=true:=decide_eq_true (by omega)
      go_wp2_with (first | (go_at_call 12;refine(AV _ _).mono ?_;rintro e g ⟨rfl,rfl⟩) | (go_at_call 14;refine(AN _ _).mono ?_;rintro e g ⟨rfl,rfl⟩) | (go_at_call 18;refine(m.out _).mono ?_;rintro e g ⟨rfl,rfl⟩))
      refine bodyPost_ret (v:=.tuple #[Ap 9 (Bc s.data.toList k (k+n)) 0 k (k+n),.int .i64 0]) (by simp[results,results6,go_sem,Ap,X.out]) rfl ⟨by rw[q.out],(aB _ _).alloc (aA _) _⟩
     have q:Hid (AJ s.data.toList false nv K = .tuple #[Ap 0 [] 0 k 0,.int .i64 20]):=by unfold Hid;rw[F.out,if_neg N]
     have Y:decide (0<(n:Int))=false:=decide_eq_false (by omega)
     go_wp2_with (first | (go_at_call 12;refine(AV _ _).mono ?_;rintro e g ⟨rfl,rfl⟩) | (go_at_call 14;refine(AN _ _).mono ?_;rintro e g ⟨rfl,rfl⟩) | (go_at_call 18;refine(m.out _).mono ?_;rintro e g ⟨rfl,rfl⟩))
     refine bodyPost_ret (v:=.tuple #[Ap 0 [] 0 k 0,.int .i64 20]) (by simp[results,results6,go_sem,Ap]) rfl ⟨by rw[q.out],(aB _ _).alloc (aA _) _⟩
  have p0:((s[k].toNat:Int)==47)=false:=Ao (d:=47) b;have z:¬ (s.data.toList[k]'r=47/\B=true):=fun h=>b h.1;have A:=E;clear E b;have F:=aC ((congrArg (AJ s.data.toList B nv) C.out).trans (Ew s.data.toList B nv k r i p A u z));have m:=aC (fun W=>EC s k W HM.out j);have o:=D5 (s.data.toList.drop k);clear i p A u z;generalize B6 (s.data.toList.drop k)=n at F m o;have M:k+n<=s.size:=by simp at o;omega
  clear o;by_cases N:0<n
  ·have q:Hid (AJ s.data.toList B nv K = .tuple #[Ap 9 (Bc s.data.toList k (k+n)) 0 k (k+n),.int .i64 0]):=by unfold Hid;rw[F.out,if_pos N]
   have X:Hid ((⟨(Bc s.data.toList k (k+n)).toArray⟩:ByteArray)=s.extract k (k+n)):=by
    have:(s.extract k (k+n)).data.toList=Bc s.data.toList k (k+n):=aF _ _ _;unfold Hid;rw[<- this]
   have Y:decide (0<(n:Int))=true:=decide_eq_true (by omega)
   go_wp2_with (first | (go_at_call 12;refine(AV _ _).mono ?_;rintro e g ⟨rfl,rfl⟩) | (go_at_call 14;refine(AN _ _).mono ?_;rintro e g ⟨rfl,rfl⟩) | (go_at_call 18;refine(m.out _).mono ?_;rintro e g ⟨rfl,rfl⟩))
   refine bodyPost_ret (v:=.tuple #[Ap 9 (Bc s.data.toList k (k+n)) 0 k (k+n),.int .i64 0]) (by simp[results,results6,go_sem,Ap,X.out]) rfl ⟨by rw[q.out],(aB _ _).alloc (aA _) _⟩
  have q:Hid (AJ s.data.toList B nv K = .tuple #[Ap 0 [] 0 k 0,.int .i64 20]):=by unfold Hid;rw[F.out,if_neg N]
  have Y:decide (0<(n:Int))=false:=decide_eq_false (by omega)
  go_wp2_with (first | (go_at_call 12;refine(AV _ _).mono ?_;rintro e g ⟨rfl,rfl⟩) | (go_at_call 14;refine(AN _ _).mono ?_;rintro e g ⟨rfl,rfl⟩) | (go_at_call 18;refine(m.out _).mono ?_;rintro e g ⟨rfl,rfl⟩))
  refine bodyPost_ret (v:=.tuple #[Ap 0 [] 0 k 0,.int .i64 20]) (by simp[results,results6,go_sem,Ap]) rfl ⟨by rw[q.out],(aB _ _).alloc (aA _) _⟩
 clear j0 HA l0 O;rintro a' g ⟨rfl,k,c,hk,d0,g0,g1,g2,g3,g4,g5,g6,rfl⟩;obtain⟨h,_⟩ | ⟨_,O⟩:=d0
 ·exact absurd h (by omega)
 by_cases j:k<s.size
 ·by_cases b:s[k]=10
  ·have T:((s[k].toNat:Int) != 10)=false:=Et (d:=10) b
   have S:=aC (MI _ _ (by simpa using j) b);have V:=aC (show s.data.toList[k]?≠some 35 by rw[aE (by simpa using j)];rw[AO] at b;rw[b];decide);clear b;go_wp2;go_step3;refine⟨⟨rfl,k,c,hk,.inl ⟨rfl,by unfold Hid;rw[<- S.out];exact O.out⟩,?_⟩,?_⟩
   ·(refine⟨?_,?_,?_,?_,?_,?_,?_,?_⟩;(iterate 6 (refine⟨?_,?_,?_,?_,?_,?_,?_,?_,?_,?_,?_,?_,?_,?_,?_,?_,?_,?_,?_,?_⟩;rotate_left 20));refine⟨?_,?_,?_,?_,?_,?_,?_,?_,?_,?_,?_,?_,?_,?_,?_,?_,?_,?_,?_,undef⟩;rotate_left 19;refine @congrArg _ _ _ _ (fun x=>Act.mk (aD x) []) ?_;dsimp only;repeat (refine congr (congrArg aG (?_:_=_)) ?_;· exact rfl);exact rfl)
   exact Mf s _ _ _ _ k rfl rfl V.out
  have T:((s[k].toNat:Int) != 10)=true:=Cu (d:=10) b;have S:=aC (Jj _ _ (by simpa using j) b);clear b;go_wp2;go_step3;have e1:((k:Int)+1)=((k+1:Nat):Int):=(by omega);rw[e1];refine⟨⟨rfl,k+1,c,by omega,.inr ⟨rfl,by unfold Hid;rw[<- S.out];exact O.out⟩,?_⟩,?_⟩
  ·(refine⟨?_,?_,?_,?_,?_,?_,?_,?_⟩;(iterate 6 (refine⟨?_,?_,?_,?_,?_,?_,?_,?_,?_,?_,?_,?_,?_,?_,?_,?_,?_,?_,?_,?_⟩;rotate_left 20));refine⟨?_,?_,?_,?_,?_,?_,?_,?_,?_,?_,?_,?_,?_,?_,?_,?_,?_,?_,?_,undef⟩;rotate_left 19;refine @congrArg _ _ _ _ (fun x=>Act.mk (aD x) []) ?_;dsimp only;repeat (refine congr (congrArg aG (?_:_=_)) ?_;· exact rfl);exact rfl)
  exact TU s _ _ _ _ k (k+1) (by omega) j rfl rfl
 have S:=aC (Kv s.data.toList k (by simp;omega));have V:=aC (show s.data.toList[k]?≠some 35 by rw[aI (by simp;omega)];simp);have d1:decide ((k:Int)<s.size)=false:=decide_eq_false (by omega);go_wp2;go_step3;refine⟨⟨rfl,k,c,hk,.inl ⟨rfl,by unfold Hid;rw[<- S.out];exact O.out⟩,?_⟩,?_⟩
 ·(refine⟨?_,?_,?_,?_,?_,?_,?_,?_⟩;(iterate 6 (refine⟨?_,?_,?_,?_,?_,?_,?_,?_,?_,?_,?_,?_,?_,?_,?_,?_,?_,?_,?_,?_⟩;rotate_left 20));refine⟨?_,?_,?_,?_,?_,?_,?_,?_,?_,?_,?_,?_,?_,?_,?_,?_,?_,?_,?_,undef⟩;rotate_left 19;refine @congrArg _ _ _ _ (fun x=>Act.mk (aD x) []) ?_;dsimp only;repeat (refine congr (congrArg aG (?_:_=_)) ?_;· exact rfl);exact rfl)
 exact Mf s _ _ _ _ k rfl rfl V.out
end Go.Proofs.YtipfpohlnhmlpaaGreatDoor
