/- Go Fx Fy Fz -/
import Derived.Test.YtipfpohlnhmlpaaGreatDoorGy
import Derived.Test.YtipfpohlnhmlpaaGreatDoorHd
import Derived.Deep.DeepCutAuto
import Derived.Deep.CutBlock
set_option maxHeartbeats 8000000
set_option maxRecDepth 100000
open Go.RowKit renaming wrap64->aA
open Go.Lib renaming hid->aB
open Go.Value renaming int->aC,slice->aM
open Nat renaming le_trans->aD,le_div_iff_mul_le->aG,pow_le_pow_right->aH
open Go.Ending renaming returned->aE
open List renaming mem_singleton->aF,mem_append_left->aL
open Go.World renaming cell?_alloc_at->aI
open BitVec renaming ofInt->aJ
open Int renaming ediv_nonneg->aK,pow_pos->aN
namespace Go.Proofs.YtipfpohlnhmlpaaGreatDoor
open Go.RowKit
theorem Su (A:List Value) (f g i j l a b c d e:Value) (k:Nat) (h:A.length=k) :
  (((((A++[f,g,i,j,l]).set k a).set (k+1) b).set (k+2) c).set (k+3) d).set (k+4) e=A++[a,b,c,d,e]:=by
 subst h;simp[List.set_append_right]
theorem RR {D B c g V q m U:Nat} {w:World} {f:Fu} {pv:Value} {o:Option Addr} {y s:Nat}
  (h:GQ 60 68 A0 D c [(Gr f nO,pv,.slice (some ⟨q,0,none⟩) (m+1) U)] (.slice (some ⟨g,0,none⟩) 1 V) w) (hm:m=f.b.ks.length) (hk:Am 60 w (fun j=>B<=j/\j≠q) nS.ks (.slice o y s)) (hB:D<=B/\g<B) (g0:f.b.wt+3<=c) :
  (∀i,i<5->∃u,w.cell? ⟨q,m*5+i,none⟩=some u)/\(∀j,w.frozen? ⟨q,j,none⟩=false)/\D<=q /\
  GQ 60 68 A0 D c [(grown f,pv,.slice (some ⟨q,0,none⟩) (m+1) U)] (.slice (some ⟨g,0,none⟩) 1 V)
   (((((w.setCell ⟨q,m*5,none⟩ (.int .i64 nS.kd)).setCell ⟨q,m*5+1,none⟩ (.string ⟨nS.nm.toArray⟩)).setCell ⟨q,m*5+2,none⟩ (.float .f64 nS.x)).setCell ⟨q,m*5+3,none⟩ (.slice o y s)).setCell ⟨q,m*5+4,none⟩ (.complex .f64 nS.z.1 nS.z.2)):=by
 have W:=h.k _ (aF.2 rfl);dsimp only at W;obtain⟨R',H,Q,C,R⟩:=W.ks.owns D fun j E=>E.1;rcases Q.2 with⟨hv,_⟩ | ⟨q',h0,n,hv,hb,Y,hc,a0,hs,ht⟩
 ·cases hv
 injection hv with G e2 e3;injection G with G;injection G with G;subst G e3;have b0:R'≠[]:=by intro e;rw[e] at e2;simp at e2
 obtain⟨d,z,rfl⟩:∃d z,R'=d++[z]:=⟨_,_,(List.dropLast_concat_getLast b0).symm⟩;rw[List.map_append] at H;have a:=List.append_inj' (s₁:=d.map Prod.fst) (t₁:=[z].map Prod.fst) (s₂:=f.b.ks) (t₂:=[nO]) H rfl;obtain⟨zt,zv⟩:=z;obtain rfl:zt=nO:=by have:=a.2;simpa using this
 have l:d.length=m:=(by rw[hm,<- a.1,List.length_map]);have hA:(Ah d).length=m*5:=(by rw[BV,l]);have J:∀x:Tr×Value,Ah (d++[x])=Ah d++Ah [x]:=fun x=>by unfold Ah;rw[List.flatMap_append]
 have N:(d++[(nO,zv)]).length=m+1:=(by simp[l]);rw[N] at hc ht;rw[J] at ht;have X:∀j,w.frozen? ⟨q,j,none⟩=false:=fun j=>frozen_of_row w q j n _ Y;have A:Ae q w (((((w.setCell ⟨q,m*5,none⟩ (.int .i64 nS.kd)).setCell ⟨q,m*5+1,none⟩ (.string ⟨nS.nm.toArray⟩)).setCell ⟨q,m*5+2,none⟩ (.float .f64 nS.x)).setCell ⟨q,m*5+3,none⟩ (.slice o y s)).setCell ⟨q,m*5+4,none⟩ (.complex .f64 nS.z.1 nS.z.2)):=(((((Ae.refl q w).set _ _).set _ _).set _ _).set _ _).set _ _;have K:=heap_setCell_same _ q (m*5+4) _ _ (.complex .f64 nS.z.1 nS.z.2) (heap_setCell_same _ q (m*5+3) _ _ (.slice o y s) (heap_setCell_same _ q (m*5+2) _ _ (.float .f64 nS.x) (heap_setCell_same _ q (m*5+1) _ _ (.string ⟨nS.nm.toArray⟩) (heap_setCell_same w q (m*5) n _ (.int .i64 nS.kd) Y))))
 have hS:=C q rfl;refine⟨fun i hi=>⟨n[m*5+i]'(by omega),?_⟩,X,hb,?_⟩
 ·rw[cell_of_row w q _ n _ (0,0) Y,Array.getElem?_eq_getElem]
 generalize (((((w.setCell ⟨q,m*5,none⟩ (.int .i64 nS.kd)).setCell ⟨q,m*5+1,none⟩ (.string ⟨nS.nm.toArray⟩)).setCell ⟨q,m*5+2,none⟩ (.float .f64 nS.x)).setCell ⟨q,m*5+3,none⟩ (.slice o y s)).setCell ⟨q,m*5+4,none⟩ (.complex .f64 nS.z.1 nS.z.2))=w' at A K ⊢
 have F:w'.ownsRow D 60 5 (.slice (some ⟨q,0,none⟩) (m+1) U) (d++[(nS,aM o y s)]).length (Ah (d++[(nS,.slice o y s)])):=by
  refine⟨BV _,.inr ⟨q,U,_,by simp[l],hb,K,by simpa[l] using hc,a0,by simpa using hs,?_⟩⟩;rw[J,show (d++[(nS,aM o y s)]).length=m+1 by simp[l]];simp only[Array.toList_setIfInBounds,List.take_set,ht];exact Su (Ah d) _ _ _ _ _ _ _ _ _ _ (m*5) hA
 have M:=Ev (T:=60) (w:=w') (v:=.slice (some ⟨q,0,none⟩) (m+1) U) (S:=fun j=>D<=j/\some j≠(aM (some ⟨g,0,none⟩) 1 V).ownBlock) (L:=d++[(nS,.slice o y s)]) (B:=D) F (fun r hr=>C r hr) (fun p hp=>by
  rcases List.mem_append.1 hp with k | k
  ·exact(R p (aL _ k)).kept A.size fun j E Z=>A.block j Z (fun e=>by injection e with e;exact E.2 (by rw[e];rfl))
  obtain rfl:=aF.1 k
  exact((hk.kept A.size fun j E Z=>A.block j Z (fun e=>by injection e with e;exact E.2 e)).mono fun j _ E=>⟨⟨by omega,fun e=>by injection e with e;dsimp at e;omega⟩,fun e=>by injection e with e;exact E.2 e⟩))
 rw[List.map_append,a.1] at M;obtain⟨⟨p,d0,e0,O,P,f0⟩,j0,I,i0,c0⟩:=W;refine⟨h.row.kept A (.inr fun e=>hS.2 (by rw[<- e])),fun x hx=>?_⟩;obtain rfl:=aF.1 hx;refine⟨⟨p,d0,e0,Nat.lt_of_lt_of_le O A.size,P,fun i t hi=>by rw[World.cell?_of_block (A.block p O (fun e=>by injection e with e;exact P (by rw[e];rfl)))];exact f0 i t hi⟩,M,?_,?_,c0⟩
 ·refine .mk _ _ _ _ _ I.self fun u hu=>?_
  rcases List.mem_append.1 hu with k | k
  ·exact I.kid (aL _ k)
  obtain rfl:=aF.1 k;exact RX
 show (Tr.mk f.b.kd f.b.nm f.b.x f.b.z (f.b.ks++[nS])).wt<=c;rw[MR] at g0;rw[Tr.wt_mk,B9,AK,AM,U0];omega
def Qk (M:Nat) (e:Int):Bool:=decide (M=9223372036854775808)&&decide (-1085<e)
def GF (e:Int):Nat:=if -1085<=e then 11 else (11+(-1085-e)).toNat
def H9 (M:Nat) (e:Int):Int:=if Qk M e=true then -(((e+11)*631305-261663)/2097152) else -((e+GF e)*78913/262144)
def Uf (M:Nat) (e:Int):Nat:=(H9 M e+348).toNat
def Va (M:Nat) (e:Int):Nat:=(-(e+H9 M e*108853/32768+3)).toNat
def FB (M:Nat) (e:Int):Nat:=M-2^(if Qk M e=true then 9 else GF e-1)
def E5 (M:Nat) (e:Int):Nat:=M+2^(GF e-1)
def N4 (M:Nat) (e:Int):Nat:=M/2^GF e%2
def OY (M:Nat) (e:Int) (x:Nat):Nat:=Fa x (CL (Uf M e)) (Dq (Uf M e)) (Va M e)
def Jf (M:Nat) (e:Int):Nat:=(OY M e (FB M e)+N4 M e+3)/4
def H8 (M:Nat) (e:Int):Nat:=(OY M e (E5 M e)-N4 M e)/4
def OW (M:Nat) (e:Int):Nat×Int :=
 if Jf M e<=H8 M e/10*10 then (H8 M e/10,-(H9 M e-1))
 else if Jf M e<H8 M e then (Ch (OY M e M),-H9 M e)
 else (Jf M e,-H9 M e)
theorem T7:(Go.Pinned.pow10Rows.all fun x=>decide (9223372036854775808<=x.1))=true:=by decide +kernel
theorem OO:Go.Pinned.pow10Rows.length=696:=by decide +kernel
theorem R_ (i:Nat) (h:i<696):9223372036854775808<=CL i:=by
 have:=List.all_eq_true.1 T7 (Go.Pinned.pow10Rows[i]'(by rw[OO];exact h)) (List.getElem_mem _);unfold CL;rw[List.getD_eq_getElem?_getD,List.getElem?_eq_getElem (by rw[OO];exact h)];simpa using this
theorem U_ (a b:Int) (_h:0<=a):a.toNat<=GO a b:=Nat.left_le_or
theorem LL (a s:Nat):((a:Int)/2^s).toNat=a/2^s:=by
 have:((a:Int)/2^s)=((a/2^s:Nat):Int):=by push_cast;rfl
 rw[this];rfl
theorem UN (x a l s:Nat) (h:(4*2^s+1)*18446744073709551616<=x*a) (j:x*a<18446744073709551616*18446744073709551616):4<=Fa x a l s:=by
 obtain⟨H,c⟩:∃H,x*a/18446744073709551616=H:=⟨_,rfl⟩;have m:4*2^s+1<=H:=by rw[<- c,aG (by omega)];exact h
 have n:H<18446744073709551616:=by rw[<- c,Nat.div_lt_iff_lt_mul (by omega)];exact j
 have e:0<2^s:=Nat.pow_pos (by omega);have f:4<=H/2^s:=by rw[aG e];omega
 have k:4<=(H-1)/2^s:=by rw[aG e];omega
 have i:(((H:Nat):Int)-1)%18446744073709551616=((H-1:Nat):Int):=(by omega);unfold Fa;rw[c,i];have d:=fun b=>U_ ((H:Int)/2^s) b (aK (by omega) (Int.le_of_lt (aN (by omega))));have g:=fun b=>U_ (((H-1:Nat):Int)/2^s) b (aK (by omega) (Int.le_of_lt (aN (by omega))));rw[LL] at d g;split
 ·exact aD f (d _)
 split
 ·exact aD k (g _)
 exact aD f (d _)
open Go.Proofs.Tryz
theorem MC (w:World) (b u n cap:Nat) (p:Int) (f:Nat->Nat) (x:FV w b f n) (z:∀i,f i<256) (J:n<=32) (y:32<=cap) (A:u<10^n) (l:u<18446744073709551616) (F : -100000<=p) (G:p<=100000) :
  Calls prog 147 #[.slice (some ⟨b,0,none⟩) 32 cap,.int .u64 u,.int .i64 p,.int .i64 n] w fun e B=>e = .returned (.tuple #[.int .i64 (n+p),.int .i64 (Bk n u).1])/\FV B b (Ra u n) n/\Ae b w B:=by
 have C:=aB (Rs w b n cap u f x z (by omega) A l);clear x z A
 go_in
 go_wp2_with (go_at_call 96;refine C.out.mono ?_;rintro e K ⟨rfl,h,j⟩)
 have o:=aB h;clear h
 go_loop [3] (fun v=>∃(k M:Nat),k<=n/\v = .int .i64 k/\Hid (M=u/10^(n-k))/\Hid (Bk n u=Bk k M)) (fun v=>(intOf v).toNat)
 case atStart=>exact⟨n,u,Nat.le_refl _,rfl,by simp[Hid],rfl⟩
 obtain⟨k,M,I,rfl,m,c⟩:=hrel
 cases k with
 | zero =>
   have r:Hid ((Bk n u).1=0):=by unfold Hid;rw[c.out];rfl
   clear c;go_wp2
   go_ret2
   exact⟨by rw[r.out];rfl,o.out,j⟩
 | succ k =>
   have ck:=o.out.d k (by omega);have H:((k+1:Nat):Int)-1=(k:Int):=(by omega);have a:Ra u n k=48+M%10:=by unfold Ra;rw[m.out,show n-1-k=n-(k+1) by omega]
   rw[a] at ck;by_cases g:M%10=0
   ·rw[g] at ck
    have s:Hid (Bk n u=Bk k (M/10)):=by unfold Hid;rw[c.out,FU g]
    have q:Hid (M/10=u/10^(n-k)):=by unfold Hid;rw[m.out,Nat.div_div_eq_div_mul,show n-k=n-(k+1)+1 by omega,Nat.pow_succ]
    clear a g c m;go_wp2
    go_round
    case rel=>exact⟨k,M/10,by omega,by go_num,q,s⟩
    simp[intOf]
   have r:Hid ((Bk n u).1=k+1):=by unfold Hid;rw[c.out,GK g]
   obtain⟨D,t⟩:∃D,48+M%10=D:=⟨_,rfl⟩;rw[t] at ck;have E:((D:Int)==48)=false:=beq_eq_false_iff_ne.2 (by omega);clear a c t g m;go_wp2
   go_ret2
   exact⟨by rw[r.out];rfl,o.out,j⟩
theorem Oe (x:Int) (b : -1000000<=x) (c:x<=1000000) (w:World):Calls prog 161 #[.int .i64 x] w fun e a=>e = .returned (.int .i64 ((x*631305-261663)/2097152))/\w=a:=by
 go_in
 go_wp2;go_ret;exact⟨rfl,rfl⟩
theorem Q8 (u:Nat) (b:u<18446744073709551613) (w:World):Calls prog 163 #[.int .u64 u] w fun e a=>e = .returned (.int .u64 ((u+3)/4:Nat))/\w=a:=by
 go_in
 go_wp2;go_ret;exact⟨congrArg aE (congrArg (aC IntKind.u64) (by omega)),rfl⟩
theorem PB (u:Nat) (b:u<18446744073709551616) (w:World):Calls prog 164 #[.int .u64 u] w fun e a=>e = .returned (.int .u64 (u/4:Nat))/\w=a:=by
 go_in
 go_wp2;go_ret;exact⟨congrArg aE (congrArg (aC IntKind.u64) (by omega)),rfl⟩
theorem TX (u o:Nat) (c:u<18446744073709551612) (b:o<=1) (w:World):Calls prog 162 #[.int .u64 u,.int .i64 o] w fun e a=>e = .returned (.int .u64 (u+o:Nat))/\w=a:=by
 go_in
 go_wp2;go_ret;exact⟨congrArg aE (congrArg (aC IntKind.u64) (by omega)),rfl⟩
theorem TW (u o:Nat) (d:u<18446744073709551612) (c:o<=1) (a:o<=u) (w:World):Calls prog 162 #[.int .u64 u,.int .i64 (-(o:Int))] w fun e b=>e = .returned (.int .u64 (u-o:Nat))/\w=b:=by
 rcases (by omega:o=0\/o=1) with rfl | rfl
 ·go_in
  go_wp2;go_ret;exact⟨congrArg aE (congrArg (aC IntKind.u64) (by omega)),rfl⟩
 go_in
 go_wp2;go_ret;exact⟨congrArg aE (congrArg (aC IntKind.u64) (by simp only[IntKind.wrap_u64];omega)),rfl⟩
theorem IG (n:Int):bits .and .i64 n 1=n%2:=by
 have b:(aJ 64 1).toNat=2^1-1:=by decide
 have a:(aJ 64 n&&&aJ 64 1).toNat=(n%((2^64:Nat):Int)).toNat%2^1:=by
  rw[BitVec.toNat_and,BitVec.toNat_ofInt,b,Nat.and_two_pow_sub_one_eq_mod]
 show IntKind.i64.wrap ((aJ 64 n&&&aJ 64 1).toNat:Nat)=n%2;rw[a,IntKind.wrap_i64];omega
theorem SB (M:Nat) (e:Int) (g : -1137<=e) (h:e<=960) : -348<=H9 M e/\H9 M e<=347/\1 <= -(e+H9 M e*108853/32768+3) /\ -(e+H9 M e*108853/32768+3)<=58:=by
 unfold H9;split
 ·rename_i c
  have f : -1085<e:=by unfold Qk at c;simp at c;exact c.2
  obtain⟨a,b⟩:∃a,((e+11)*631305-261663)/2097152=a:=⟨_,rfl⟩;rw[b];have:2097152*a<=(e+11)*631305-261663/\(e+11)*631305-261663<2097152*a+2097152:=(by omega);clear b;refine⟨by omega,by omega,by omega,by omega⟩
 unfold GF;split
 ·obtain⟨a,b⟩:∃a,(e+(11:Nat))*78913/262144=a:=⟨_,rfl⟩
  rw[b];have:262144*a<=(e+11)*78913/\(e+11)*78913<262144*a+262144:=(by omega);clear b;refine⟨by omega,by omega,by omega,by omega⟩
 rename_i i
 have d:e+((11+(-1085-e)).toNat:Int) = -1074:=(by omega);rw[d];refine⟨by omega,by omega,by omega,by omega⟩
theorem Te (m H L s:Nat) (k:m<18446744073709551616) (j:H<18446744073709551616) (n:1<=s):Fa m H L s<18446744073709551612:=by
 have e:=Gs m H k j
 have o:(2:Int)<=2^s:=by
  obtain⟨t,rfl⟩:∃t,s=t+1:=⟨s-1,by omega⟩
  have:(1:Int)<=2^t:=by
   have:0<(2:Int)^t:=aN (by decide);omega
  rw[Int.pow_succ];omega
 obtain⟨X,b⟩:∃X,m*H/18446744073709551616=X:=⟨_,rfl⟩;rw[b] at e
 have a:∀(Y:Int) (c:Int),0<=Y->Y<18446744073709551616->0<=c->c<=1->GO (Y/2^s) c<18446744073709551612:=fun Y c d l f g=>by
  have h:0<=Y/2^s:=aK d (by omega)
  have i:Y/2^s<9223372036854775808:=by
   rw[Int.ediv_lt_iff_lt_mul (by omega)];omega
  have:GO (Y/2^s) c<2^63:=Nat.or_lt_two_pow (by omega) (by omega);omega
 unfold Fa;rw[b];split
 ·exact a _ _ (by omega) (by omega) (by omega) (by omega)
 split
 ·exact a _ _ (by omega) (by omega) (by split<;>omega) (by split<;>omega)
 exact a _ _ (by omega) (by omega) (by split<;>omega) (by split<;>omega)
theorem Sy (M:Nat) (e:Int):N4 M e<=1:=by unfold N4;omega
theorem SA (e:Int) (h : -1137<=e):11<=GF e/\GF e<=63:=by unfold GF;split<;>omega
theorem IY (n:Nat) (h:n<=62):1<=2^n/\2^n<=4611686018427387904:=⟨Nat.pow_pos (by decide),aD (aH (by decide) h) (by decide)⟩
theorem G' (M:Nat) (e:Int) (x:Nat) (f : -1137<=e) (g:e<=960) (k:4611686018427387904<=x) (a:x<18446744073709551616):4<=OY M e x/\OY M e x<18446744073709551612:=by
 obtain⟨l,m,n,o⟩:=SB M e f g;have c:1<=Va M e/\Va M e<=58:=by unfold Va;omega
 have i:Uf M e<696:=by unfold Uf;omega
 have h:=R_ (Uf M e) i;have b:=(G7 (Uf M e)).1;unfold OY;refine⟨UN _ _ _ _ ?_ ?_,Te _ _ _ _ a b c.1⟩
 ·have j:2^Va M e<=288230376151711744:=aD (aH (by decide) c.2) (by decide)
  have:4611686018427387904*9223372036854775808<=x*CL (Uf M e):=Nat.mul_le_mul k h;obtain⟨A,d⟩:∃A,2^Va M e=A:=⟨_,rfl⟩;rw[d] at j ⊢;exact aD (Nat.mul_le_mul_right _ (show 4*A+1<=1152921504606846977 by omega)) (aD (by decide) this)
 exact Nat.mul_lt_mul'' a b
theorem Ji (M:Nat) (e:Int) (w:World) (hL:DE w) (h1 : -1137<=e) (h2:e<=960) (g1:9223372036854775808<=M) (s0:M<18446744073709551616) (n0:E5 M e<18446744073709551616) :
  Calls prog 151 #[.int .u64 M,.int .i64 e] w fun F a=>F = .returned (.tuple #[.int .u64 (OW M e).1,.int .i64 (OW M e).2])/\Below w.heap.size w a:=by
 obtain⟨b1,b2,b3,b4⟩:=SB M e h1 h2;obtain⟨z1,z2⟩:=SA e h1;have ho:=Sy M e;obtain⟨Y,a0⟩:=IY (GF e-1) (by omega);obtain⟨TZ,D⟩:∃T,2^(GF e-1)=T:=⟨_,rfl⟩;rw[D] at Y a0;have h0:E5 M e=M+TZ:=by unfold E5;rw[D]
 have i0:FB M e=if Qk M e=true then M-512 else M-TZ:=by
  unfold FB;split
  ·rw[show 2^9=512 from rfl]
  rw[D]
 have d:4611686018427387904<=FB M e/\FB M e<18446744073709551616:=by
  rw[i0];split<;>omega
 have E:4611686018427387904<=E5 M e:=by rw[h0];omega
 obtain⟨u1,u2⟩:=G' M e (FB M e) h1 h2 d.1 d.2;obtain⟨v1,v2⟩:=G' M e (E5 M e) h1 h2 E n0;obtain⟨t1,t2⟩:=G' M e M h1 h2 (by omega) s0;obtain⟨k,ek⟩:∃k:Nat,H9 M e=(k:Int)-348:=⟨(H9 M e+348).toNat,by omega⟩;obtain⟨s,es⟩:∃s:Nat,-(e+H9 M e*108853/32768+3)=s:=⟨(-(e+H9 M e*108853/32768+3)).toNat,by omega⟩;have c0:s<=63:=(by omega);have hk:k<696:=(by omega);have eI:Uf M e=k:=by unfold Uf;omega
 have eS:Va M e=s:=by unfold Va;omega
 obtain⟨lp,m0⟩:∃lp,((k:Int)-348)*108853/32768=lp:=⟨_,rfl⟩;have a1 : -2000<=lp/\lp<=2000:=(by omega);have h5:=fun W=>Kd ((k:Int)-348) (by omega) (by omega) W;rw[m0] at h5;have H2:=aB h5;have h3:=fun W (hL:Hl W)=>GA k e lp (.int .u64 0) (.int .u64 0) (.int .i64 0) W hk hL (by omega) (by omega) (by omega) (by omega);rw[ek,m0] at es;rw[es] at h3;have H3:=aB h3;have hU:∀x,OY M e x=Fa x (CL k) (Dq k) s:=fun x=>by unfold OY;rw[eI,eS]
 have r:Hid (-1085<e->∀W,Calls prog 161 #[.int .i64 (e+11)] W fun F a=>F = .returned (.int .i64 (((e+11)*631305-261663)/2097152))/\W=a):=fun _ W=>Oe (e+11) (by omega) (by omega) W;have f:Hid (∀W,Calls prog 116 #[.int .i64 (e+GF e)] W fun F a=>F = .returned (.int .i64 ((e+GF e)*78913/262144))/\W=a):=fun W=>IK (e+GF e) (by omega) (by omega) W;have e0:=aB hL.lt;have m:=aB ek;have H:=aB i0;have G:=aB h0;have I:=aB D;clear h3 h5 D h0 i0 ek eI eS m0 b1 b2 b3 b4
 go_in
 go_upto_region 12 with fail
 go_cut [28] (fun v wx=>v = .bool (Qk M e)/\wx=w)
 case first =>
  as_aux_lemma =>
   by_cases q1:M=9223372036854775808
   ·have c1:((M:Int)==9223372036854775808)=true:=beq_iff_eq.2 (by omega)
    by_cases q2 : -1085<e
    ·have c2:Qk M e=true:=by unfold Qk;simp[q1,q2]
     clear q1;have C2:=aB c2;clear c2;go_wp2;go_meet;exact⟨by (rw[C2.out];try simp[q2]),rfl⟩
    have c2:Qk M e=false:=by unfold Qk;simp[q2]
    clear q1;have C2:=aB c2;clear c2;go_wp2;go_meet;exact⟨by (rw[C2.out];try simp[q2]),rfl⟩
   have c1:((M:Int)==9223372036854775808)=false:=beq_eq_false_iff_ne.2 (by omega);have c2:Qk M e=false:=by unfold Qk;simp[q1]
   clear q1;have C2:=aB c2;clear c2;go_wp2;go_meet;exact⟨by (rw[C2.out];try rfl),rfl⟩
 obtain⟨rfl,rfl⟩:=hcut
 go_upto_if 28 with fail
 go_cut [5,8,9,10,11] (fun p mn mx od z wx=>p = .int .i64 ((k:Int)-348)/\mn = .int .u64 (FB M e)/\mx = .int .u64 (E5 M e)/\od = .int .i64 (N4 M e)/\wx=wc)
 case first =>
  rcases b:Qk M e with _ | _
  ·by_cases hz : -1085<=e
   ·have l:GF e=11:=by unfold GF;rw[if_pos hz]
    have i:H9 M e = -((e+11)*78913/262144):=by unfold H9;rw[b,l];rfl
    have g:N4 M e=M/2048%2:=by unfold N4;rw[l]
    have e1:=m.out;have X:=H.out;have e3:=G.out;have C:=I.out;rw[l] at C;have e5:TZ=1024:=C.symm;rw[b,if_neg (by decide)] at X;have c:Hid (∀W,Calls prog 116 #[.int .i64 (e+11)] W fun F a=>F = .returned (.int .i64 ((e+11)*78913/262144))/\W=a):=by have:=f.out;rw[l] at this;exact this
    obtain⟨t,et⟩:∃t,(e+11)*78913/262144=t:=⟨_,rfl⟩;rw[et] at c i;have hw:aA (-t)=(k:Int)-348:=by unfold aA;omega
    have ha:bits .and .i64 ((M:Int)/2048) 1=(M:Int)/2048%2:=IG _;have R:Hid (FB M e=M-1024/\E5 M e=M+1024/\N4 M e=M/2048%2):=⟨by omega,by omega,g⟩;have hb:decide (-1085<=e)=true:=decide_eq_true hz;clear e1 X e3 C e5 i g l et b f hU H2 H3 r u1 u2 v1 v2 t1 t2 d E Y a0
    go_wp2_with (go_at_call 116;refine(c.out _).mono ?_;rintro e a ⟨rfl,rfl⟩)
    go_meet;obtain⟨r1,r2,r3⟩:=R.out;exact⟨congrArg (aC .i64) hw,congrArg (aC .u64) (by first | omega | (simp only[IntKind.wrap_u64];omega)),congrArg (aC .u64) (by first | omega | (simp only[IntKind.wrap_u64];omega)),congrArg (aC .i64) (by omega),rfl⟩
   have i:H9 M e = -((e+GF e)*78913/262144):=by unfold H9;rw[b];rfl
   have g:N4 M e=M/2^GF e%2:=rfl;have e1:=m.out;have X:=H.out;have e3:=G.out;have C:=I.out;rw[b,if_neg (by decide)] at X;have d1:(11:Int)+(-1085-e)=(GF e:Nat):=by unfold GF;rw[if_neg hz];omega
   obtain⟨Z,l⟩:∃Z,GF e=Z:=⟨_,rfl⟩;have c:=f;rw[l] at c i g d1 z1 z2 C;obtain⟨t,et⟩:∃t,(e+(Z:Nat))*78913/262144=t:=⟨_,rfl⟩;rw[et] at c i;have hw:aA (-t)=(k:Int)-348:=by unfold aA;omega
   have R:Hid (FB M e=M-TZ/\E5 M e=M+TZ/\N4 M e=M/2^Z%2):=⟨X,e3,g⟩;have hb:¬ -1085<=e:=hz;have HT:=aB C;clear e1 X e3 C i g l et b f hU H2 H3 r u1 u2 v1 v2 t1 t2 d E hz
   go_wp2_with (go_at_call 116;refine(c.out _).mono ?_;rintro e a ⟨rfl,rfl⟩)
   go_meet;obtain⟨r1,r2,r3⟩:=R.out;have p1:(2:Int)^(Z-1)=(TZ:Int):=by rw[<- HT.out];push_cast;rfl
   obtain⟨A,eA⟩:∃A,M/2^Z=A:=⟨_,rfl⟩;have p2:(M:Int)/2^Z=(A:Int):=by rw[<- eA];push_cast;rfl
   have p3:A<=9007199254740992:=by
    rw[<- eA];have x0:2^11<=2^Z:=aH (by decide) z1;have y0:M/2^Z<=M/2^11:=Nat.div_le_div_left x0 (by decide);have w0:(2:Nat)^11=2048:=rfl;rw[w0] at y0;omega
   rw[eA] at r3;have w3:aA (A:Int)=(A:Int):=by unfold aA;omega
   have w4:(A:Int)%2=((N4 M e:Nat):Int):=(by omega);rw[p1,p2,w3,IG,w4];refine⟨congrArg (aC .i64) hw,congrArg (aC .u64) (by simp only[IntKind.wrap_u64];omega),congrArg (aC .u64) (by simp only[IntKind.wrap_u64];omega),rfl,rfl⟩
  have v0:M=9223372036854775808 /\ -1085<e:=by unfold Qk at b;simpa using b
  have l:GF e=11:=by unfold GF;rw[if_pos (by omega)]
  have i:H9 M e = -(((e+11)*631305-261663)/2097152):=by unfold H9;rw[b];rfl
  have g:N4 M e=M/2048%2:=by unfold N4;rw[l]
  have e1:=m.out;have X:=H.out;have e3:=G.out;have C:=I.out;rw[l] at C;have e5:TZ=1024:=C.symm;rw[b,if_pos rfl] at X;have b0:=aB (r.out v0.2);obtain⟨t,et⟩:∃t,((e+11)*631305-261663)/2097152=t:=⟨_,rfl⟩;rw[et] at b0 i;have hw:aA (-t)=(k:Int)-348:=by unfold aA;omega
  have R:Hid (FB M e=M-512/\E5 M e=M+1024/\N4 M e=M/2048%2):=⟨by omega,by omega,g⟩;clear e1 X e3 C e5 i g l et b f hU H2 H3 r u1 u2 v1 v2 t1 t2 d E Y a0 v0;have ha:bits .and .i64 ((M:Int)/2048) 1=(M:Int)/2048%2:=IG _
  go_wp2_with (go_at_call 161;refine(b0.out _).mono ?_;rintro e a ⟨rfl,rfl⟩)
  go_meet;obtain⟨r1,r2,r3⟩:=R.out;exact⟨congrArg (aC .i64) hw,congrArg (aC .u64) (by first | omega | (simp only[IntKind.wrap_u64];omega)),congrArg (aC .u64) (by first | omega | (simp only[IntKind.wrap_u64];omega)),congrArg (aC .i64) (by omega),rfl⟩
 obtain⟨rfl,rfl,rfl,rfl,rfl⟩:=hcut;obtain⟨U1,j0⟩:∃U,OY M e (FB M e)=U:=⟨_,rfl⟩;obtain⟨U2,k0⟩:∃U,OY M e (E5 M e)=U:=⟨_,rfl⟩;obtain⟨U3,l0⟩:∃U,OY M e M=U:=⟨_,rfl⟩;obtain⟨O,g⟩:∃O,N4 M e=O:=⟨_,rfl⟩;have p0:=G7 k
 have hD:OW M e=if (U1+O+3)/4<=(U2-O)/4/10*10 then ((U2-O)/4/10,-(((k:Int)-348)-1)) else if (U1+O+3)/4<(U2-O)/4 then (Ch U3,-((k:Int)-348)) else ((U1+O+3)/4,-((k:Int)-348)):=by
  unfold OW Jf H8;rw[m.out,j0,k0,l0,g]
 have Q:=aB hD
 have V:∀x:Nat,x<18446744073709551616->∀W,(W=(wc.alloc (.cells #[.int .u64 (CL k),.int .u64 (Dq k),.int .i64 s] 170))\/∃q,W=(wc.alloc (.cells #[.int .u64 (CL k),.int .u64 (Dq k),.int .i64 s] 170)).drewN q)->Calls prog 130 #[.int .u64 x,.pointer (some ⟨wc.heap.size,0,none⟩)] W fun F a=>F = .returned (.int .u64 (OY M e x))/\∃n,a=(wc.alloc (.cells #[.int .u64 (CL k),.int .u64 (Dq k),.int .i64 s] 170)).drewN n:=fun x hx W hW=>by
  rw[hU]
  have hc:∀j v,(wc.alloc (.cells #[.int .u64 (CL k),.int .u64 (Dq k),.int .i64 s] 170)).cell? ⟨wc.heap.size,j,none⟩=some v->W.cell? ⟨wc.heap.size,j,none⟩=some v:=by
   rcases hW with rfl | ⟨q,rfl⟩
   ·exact fun _ _ h=>h
   exact fun _ _ h=>h
  refine(JA x (CL k) (Dq k) s wc.heap.size W hx p0.1 p0.2 c0 (hc _ _ ?_) (hc _ _ ?_) (hc _ _ ?_)).mono ?_
  ·rw[aI _ _ _ _ rfl];rfl
  ·rw[aI _ _ _ _ rfl];rfl
  ·rw[aI _ _ _ _ rfl];rfl
  rintro F a ⟨rfl,n,rfl⟩;rcases hW with rfl | ⟨q,rfl⟩
  ·exact⟨rfl,n,rfl⟩
  exact⟨rfl,q+n,World.drewN_drewN ..⟩
 have u:=aB (V (FB M e) d.2);have y:=aB (V (E5 M e) n0);have S:=aB (V M s0);rw[j0] at u u1 u2;rw[k0] at y v1 v2;rw[l0] at S t1 t2;rw[g] at ho ⊢;obtain⟨LO,r0⟩:∃L,FB M e=L:=⟨_,rfl⟩;obtain⟨HI,q0⟩:∃L,E5 M e=L:=⟨_,rfl⟩;rw[r0] at u ⊢;rw[q0] at y ⊢;have f0:=aB (fun W=>TX U1 O u2 ho W);have J:=aB (fun W=>Q8 (U1+O) (by omega) W);have g0:=aB (fun W=>TW U2 O v2 ho (by omega) W);have K:=aB (fun W=>PB (U2-O) (by omega) W);have N:=aB (fun W=>G_ U3 t2 W);have i1:aA (-(O:Int)) = -(O:Int):=by unfold aA;omega
 have z0 : -348<=(k:Int)-348/\(k:Int)-348<=347:=(by omega);obtain⟨P,i⟩:∃P,(k:Int)-348=P:=⟨_,rfl⟩;rw[i] at Q H2 H3 z0 ⊢;have j1:aA (-P) = -P:=by unfold aA;omega
 have f1:aA (-(P-1)) = -(P-1):=by unfold aA;omega
 obtain⟨A,eA⟩:∃A,(U1+O+3)/4=A:=⟨_,rfl⟩;obtain⟨B,eB⟩:∃B,(U2-O)/4=B:=⟨_,rfl⟩;rw[eA,eB] at Q;rw[eA] at J;rw[eB] at K;have hA:A<=4611686018427387904:=(by omega);have hB:B<=4611686018427387904:=(by omega);have hR:Ch U3<=4611686018427387904:=by unfold Ch;omega
 obtain⟨R,eR⟩:∃R,Ch U3=R:=⟨_,rfl⟩;rw[eR] at Q N hR;clear hD V hU r f H G I m j0 k0 l0 g r0 q0 i eA eB eR es a1 u1 u2 v1 v2 t1 t2 p0 d E Y a0 n0 c0 hk z1 z2 h1 h2 ho;have d0:Hid (∀(o:Obj) q,Below wc.heap.size wc ((wc.alloc o).drewN q)):=fun o q=>below_drewN ((Below.refl _ _).alloc (Nat.le_refl _) o) q;by_cases o0:A<=B/10*10
 ·have HR:Hid (OW M e=(B/10,-(P-1))):=by unfold Hid;rw[Q.out,if_pos o0]
  clear Q
  go_wp2_with (first | (go_at_call 128;refine(H2.out _).mono ?_;rintro e a ⟨rfl,rfl⟩) | (go_at_call 129;refine(H3.out _ e0.out).mono ?_;rintro e a ⟨rfl,rfl⟩) | (go_at_call 130;with_reducible refine(u.out _ (by first | exact .inl rfl | exact .inr ⟨_,rfl⟩)).mono ?_;rintro e a ⟨rfl,nq,rfl⟩) | (go_at_call 130;with_reducible refine(y.out _ (by first | exact .inl rfl | exact .inr ⟨_,rfl⟩)).mono ?_;rintro e a ⟨rfl,nq,rfl⟩) | (go_at_call 130;with_reducible refine(S.out _ (by first | exact .inl rfl | exact .inr ⟨_,rfl⟩)).mono ?_;rintro e a ⟨rfl,nq,rfl⟩) | (go_at_call 162;with_reducible refine(f0.out _).mono ?_;rintro e a ⟨rfl,rfl⟩) | (go_at_call 162;with_reducible refine(g0.out _).mono ?_;rintro e a ⟨rfl,rfl⟩) | (go_at_call 163;refine(J.out _).mono ?_;rintro e a ⟨rfl,rfl⟩) | (go_at_call 164;refine(K.out _).mono ?_;rintro e a ⟨rfl,rfl⟩) | (go_at_call 133;refine(N.out _).mono ?_;rintro e a ⟨rfl,rfl⟩))
  go_ret2
  exact⟨by rw[HR.out];rfl,d0.out _ _⟩
 by_cases t0:A<B
 ·have HR:Hid (OW M e=(R,-P)):=by unfold Hid;rw[Q.out,if_neg o0,if_pos t0]
  clear Q
  go_wp2_with (first | (go_at_call 128;refine(H2.out _).mono ?_;rintro e a ⟨rfl,rfl⟩) | (go_at_call 129;refine(H3.out _ e0.out).mono ?_;rintro e a ⟨rfl,rfl⟩) | (go_at_call 130;with_reducible refine(u.out _ (by first | exact .inl rfl | exact .inr ⟨_,rfl⟩)).mono ?_;rintro e a ⟨rfl,nq,rfl⟩) | (go_at_call 130;with_reducible refine(y.out _ (by first | exact .inl rfl | exact .inr ⟨_,rfl⟩)).mono ?_;rintro e a ⟨rfl,nq,rfl⟩) | (go_at_call 130;with_reducible refine(S.out _ (by first | exact .inl rfl | exact .inr ⟨_,rfl⟩)).mono ?_;rintro e a ⟨rfl,nq,rfl⟩) | (go_at_call 162;with_reducible refine(f0.out _).mono ?_;rintro e a ⟨rfl,rfl⟩) | (go_at_call 162;with_reducible refine(g0.out _).mono ?_;rintro e a ⟨rfl,rfl⟩) | (go_at_call 163;refine(J.out _).mono ?_;rintro e a ⟨rfl,rfl⟩) | (go_at_call 164;refine(K.out _).mono ?_;rintro e a ⟨rfl,rfl⟩) | (go_at_call 133;refine(N.out _).mono ?_;rintro e a ⟨rfl,rfl⟩))
  go_ret2
  exact⟨by rw[HR.out];rfl,d0.out _ _⟩
 have HR:Hid (OW M e=(A,-P)):=by unfold Hid;rw[Q.out,if_neg o0,if_neg t0]
 clear Q
 go_wp2_with (first | (go_at_call 128;refine(H2.out _).mono ?_;rintro e a ⟨rfl,rfl⟩) | (go_at_call 129;refine(H3.out _ e0.out).mono ?_;rintro e a ⟨rfl,rfl⟩) | (go_at_call 130;with_reducible refine(u.out _ (by first | exact .inl rfl | exact .inr ⟨_,rfl⟩)).mono ?_;rintro e a ⟨rfl,nq,rfl⟩) | (go_at_call 130;with_reducible refine(y.out _ (by first | exact .inl rfl | exact .inr ⟨_,rfl⟩)).mono ?_;rintro e a ⟨rfl,nq,rfl⟩) | (go_at_call 130;with_reducible refine(S.out _ (by first | exact .inl rfl | exact .inr ⟨_,rfl⟩)).mono ?_;rintro e a ⟨rfl,nq,rfl⟩) | (go_at_call 162;with_reducible refine(f0.out _).mono ?_;rintro e a ⟨rfl,rfl⟩) | (go_at_call 162;with_reducible refine(g0.out _).mono ?_;rintro e a ⟨rfl,rfl⟩) | (go_at_call 163;refine(J.out _).mono ?_;rintro e a ⟨rfl,rfl⟩) | (go_at_call 164;refine(K.out _).mono ?_;rintro e a ⟨rfl,rfl⟩) | (go_at_call 133;refine(N.out _).mono ?_;rintro e a ⟨rfl,rfl⟩))
 go_ret2
 exact⟨by rw[HR.out];rfl,d0.out _ _⟩
end Go.Proofs.YtipfpohlnhmlpaaGreatDoor
