/- Wc Pm Po Pq Pr Ps -/
import Derived.Test.YtipfpohlnhmlpaaGreatDoorWk
import Derived.Test.YtipfpohlnhmlpaaGreatDoorPc
import GoSem.PinnedTables
set_option maxHeartbeats 800000
open Nat renaming pow_add->aA,pow_succ->aB,mul_assoc->aC,div_div_eq_div_mul->aD,mul_comm->aE,mul_lt_mul_of_pos_right->aF,pow_pos->aG,div_lt_iff_lt_mul->aH,lt_of_lt_of_le->aI,add_sub_cancel->aJ,pow_lt_pow_iff_right->aK,div_mul_le_self->aL,lt_of_le_of_lt->aM,mul_pos->aN,lt_or_ge->aO,le_mul_of_pos_left->aP,dvd_of_mod_eq_zero->aQ,mul_div_mul_right->aR,mul_le_mul_right->aS,mul_le_mul_left->aT,mul_mod_left->aV,mul_div_cancel_left->aW,le_trans->aX,mod_eq_zero_of_dvd->aY,add_mul_div_right->aZ,le_refl->bA,mul_pow->bB,mul_lt_mul_right->bC,mod_mul_left_mod->bD,pow_le_pow_left->bE,eq_zero_or_pos->bF,mul_div_cancel->bG,mod_mul->bH,mod_one->bI,mod_lt->bJ
open Go.Lib renaming hid->aU
namespace Go.Proofs.YtipfpohlnhmlpaaGreatDoor
open Go.Proofs.Tryz
open Go.RowKit
theorem Hp (s:ByteArray) (i:Nat) (q:UInt8) (w:World) (F:s.size<=maxLen) (G:i<s.size) (E:s[i]=q):Calls prog 44 #[.string s,.int .i64 i] w fun e o=>e = .returned (.int .i64 (AF q s.data.toList (i+1)))/\w=o:=by
 unfold maxLen at F
 go_in
 go_wp2;refine Ll 0 (fun m o=>o=w/\∃k:Nat,i<k/\k<=s.size+1/\AF q s.data.toList (i+1)=AF q s.data.toList k/\∃(u7 u8 u9 u10 u11 u12 u13 u14 u15 u16 u17 u18 u19 u20 u21 u22 u23 u24 u25 u26 u27 u28 u29 u30 u31 u32 u33 u34 u35 u36 u37 u38 u39 u40 u41 u42 u43 u44 u45:Value),m={ tmps := #[.string s,.int .i64 i,undef,undef,.int .i64 0,.int .u8 q.toNat,.int .i64 k,u7,u8,u9,u10,u11,u12,u13,u14,u15,u16,u17,u18,u19,u20,u21,u22,u23,u24,u25,u26,u27,u28,u29,u30,u31,u32,u33,u34,u35,u36,u37,u38,u39,u40,u41,u42,u43,u44,u45],defers:=[] }) (fun m _=>s.size+2-(intOf (m.tmps.getD 6 undef)).toNat) rfl ?_ ?_
 ·rintro m o ⟨rfl,k,D,H,z,u7,u8,u9,u10,u11,u12,u13,u14,u15,u16,u17,u18,u19,u20,u21,u22,u23,u24,u25,u26,u27,u28,u29,u30,u31,u32,u33,u34,u35,u36,u37,u38,u39,u40,u41,u42,u43,u44,u45,rfl⟩
  have g:=aU z;clear z E;by_cases x:k<s.size
  ·have n:k<s.data.toList.length:=by simpa using x
   by_cases a:s[k]=10
   ·have p:((s[k].toNat:Int)==10)=true:=AH (d:=10) a
    have b:=aU (FM q _ _ n a);clear a;go_wp2;simp only[Exit.jump];go_ret;exact⟨AZ (g.out.trans (b.out)).symm,rfl⟩
   have p:((s[k].toNat:Int)==10)=false:=Ao (d:=10) a;by_cases c:s[k]=q
   ·have B:((s[k].toNat:Int)==q.toNat)=true:=AH c
    have b:=aU (Iz q _ _ n a c);clear a c;go_wp2;simp only[Exit.jump];go_ret;exact⟨AZ (g.out.trans (b.out)).symm,rfl⟩
   have B:((s[k].toNat:Int)==q.toNat)=false:=Ao c;by_cases f:s[k]=92
   ·have t:((s[k].toNat:Int)==92)=true:=AH (d:=92) f
    by_cases y:k+1<s.size
    ·have j:k+1<s.data.toList.length:=by simpa using y
     by_cases h:s[k+1]=10
     ·have r:((s[k+1].toNat:Int)==10)=true:=AH (d:=10) h
      have b:=aU (EL q _ _ j a c f h);clear a c f h;go_wp2;simp only[Exit.jump];go_ret;exact⟨AZ (g.out.trans (b.out)).symm,rfl⟩
     have r:((s[k+1].toNat:Int)==10)=false:=Ao (d:=10) h;have b:=aU (GX q _ _ j a c f h);clear a c f h;go_wp2;go_step3;have u:((k:Int)+1+1)=((k+2:Nat):Int):=(by omega);rw[u];refine⟨rfl,⟨rfl,k+2,by omega,by omega,g.out.trans b.out,?_⟩,by simp[intOf];omega⟩
     (repeat apply Exists.intro)
     rfl
    have b:=aU (Ef q _ _ n a c f (by simpa using y));clear a c f;go_wp2;simp only[Exit.jump];go_ret;exact⟨AZ (g.out.trans (b.out)).symm,rfl⟩
   have t:((s[k].toNat:Int)==92)=false:=Ao (d:=92) f;have b:=aU (Fm q _ _ n a c f);clear a c f;go_wp2;go_step3;have u:((k:Int)+1)=((k+1:Nat):Int):=(by omega);rw[u];refine⟨rfl,⟨rfl,k+1,by omega,by omega,g.out.trans b.out,?_⟩,by simp[intOf];omega⟩
   (repeat apply Exists.intro)
   rfl
  have b:=aU (F8 q s.data.toList k (by simpa using x));go_wp2;simp only[Exit.jump];go_ret;exact⟨AZ (g.out.trans (b.out)).symm,rfl⟩
 intro l;have v:((i:Int)+1)=((i+1:Nat):Int):=(by omega);have A:=aU v;clear v;go_wp2;go_step3
 rename_i C
 rw[A.out];refine C _ _ (l _ _ ⟨rfl,i+1,by omega,by omega,rfl,?_⟩)
 (repeat apply Exists.intro)
 rfl
def MS (f:Nat->Nat) (nd M:Nat):Prop:=M<10^nd/\∀i,i<nd->f i=48+M/10^(nd-1-i)%10
def Bk:Nat->Nat->Nat×Nat
 | 0,M=>(0,M)
 | n+1,M=>if M%10=0 then Bk n (M/10) else (n+1,M)
def Wb (n:Nat) (dp:Int):Int:=if n=0 then 0 else dp
theorem Rc {f:Nat->Nat} {n M:Nat} (h:MS f (n+1) M):f n=48+M%10:=by
 have:=h.2 n (by omega)
 rwa [show n+1-1-n=0 by omega,Nat.pow_zero,Nat.div_one] at this
theorem Rb {f:Nat->Nat} {n M:Nat} (h:MS f (n+1) M):MS f n (M/10):=by
 refine⟨?_,fun i a=>?_⟩
 ·have:=h.1;rw[aB] at this;omega
 rw[h.2 i (by omega),aD,show n+1-1-i=(n-1-i)+1 by omega,aB,aE]
theorem FU {n M:Nat} (h:M%10=0):Bk (n+1) M=Bk n (M/10):=by rw[Bk,if_pos h]
theorem GK {n M:Nat} (h:M%10≠0):Bk (n+1) M=(n+1,M):=by rw[Bk,if_neg h]
theorem Jx:∀n M,(Bk n M).1<=n
 | 0,_=>bA _
 | n+1,M=>by
   unfold Bk;split
   ·have:=Jx n (M/10);omega
   exact bA _
theorem AT (n:Nat):0<10^n:=aG (by decide)
theorem Gl {M S a c:Nat} (h:M/10^a<S/10^c):M*10^c<S*10^a:=by
 have d:M<(M/10^a+1)*10^a:=Nat.lt_mul_of_div_lt (Nat.lt_succ_self _) (AT a);have e:(M/10^a+1)*10^a<=S/10^c*10^a:=aS _ h;have f:S/10^c*10^c<=S:=aL _ _;have b:M*10^c<S/10^c*10^a*10^c:=aF (aI d e) (AT c);have g:S/10^c*10^a*10^c=S/10^c*10^c*10^a:=(by rw[aC,aE (10^a),<- aC]);rw[g] at b;exact aI b (aS _ f)
theorem I1 (M n i:Nat) (h:i<n):M/10^(n-(i+1))=M/10^(n-i)*10+M/10^(n-1-i)%10:=by
 have e:M/10^(n-i)=M/10^(n-1-i)/10:=by
  rw[aD,show n-i=(n-1-i)+1 by omega,aB]
 rw[e,show n-(i+1)=n-1-i by omega];omega
theorem Sd {M S nd L i:Nat} (d:i<nd) (c:i<L) (h:M*10^(L-1-i)<S*10^(nd-1-i)):M*10^L<S*10^nd:=by
 have a:10^L=10^(L-1-i)*10^(i+1):=by rw[<- aA];congr 1;omega
 have b:10^nd=10^(nd-1-i)*10^(i+1):=by rw[<- aA];congr 1;omega
 rw[a,b,<- aC,<- aC];exact aF h (AT _)
theorem Wn {M S nd L i:Nat} (b:i<nd) (a:i<L) (h:M/10^(nd-1-i)<S/10^(L-1-i)):M*10^L<S*10^nd:=Sd b a (Gl h)
theorem Wm {M S nd L i:Nat} (b:i<nd) (a:i<L) (h:S/10^(L-1-i)<M/10^(nd-1-i)):¬ M*10^L<S*10^nd:=Nat.lt_asymm (Sd a b (Gl h))
theorem VG {M S nd L:Nat} (h:L<=nd) (c:M/10^(nd-L)=S):¬ M*10^L<S*10^nd:=by
 have b:S*10^(nd-L)<=M:=by rw[<- c];exact aL _ _
 have a:10^nd=10^(nd-L)*10^L:=by rw[<- aA];congr 1;omega
 rw[a,<- aC];exact Nat.not_lt.2 (aS _ b)
theorem Se {M S nd L:Nat} (h:nd<L) (d:M=S/10^(L-nd)) (c:S%10≠0):M*10^L<S*10^nd:=by
 have a:10^L=10^(L-nd)*10^nd:=by rw[<- aA];congr 1;omega
 rw[a,<- aC];refine aF ?_ (AT _);have b:M*10^(L-nd)<=S:=by rw[d];exact aL _ _
 refine Nat.lt_of_le_of_ne b fun e=>c ?_;rw[<- e,show L-nd=(L-nd-1)+1 by omega,aB,<- aC];exact aV _ _
def DF (M k q:Nat):Nat:=M%10^q*2^k/10^q
theorem Me (M q:Nat):M%10^(q+1)=M/10^q%10*10^q+M%10^q:=by
 rw[aB,bH,aE];omega
theorem Ix (M k q:Nat):DF M k q+M/10^q%10*2^k=M%10^(q+1)*2^k/10^q:=by
 unfold DF;rw[Me,Nat.add_mul,aC,aE (10^q) (2^k),<- aC,Nat.add_comm (M/10^q%10*2^k*10^q),aZ _ _ (AT q)]
theorem Pg (M k q:Nat):(DF M k q+M/10^q%10*2^k)/10=DF M k (q+1):=by
 rw[Ix,DF,aD,<- aB]
theorem Ph (M k q:Nat):(DF M k q+M/10^q%10*2^k)%10=M*2^k/10^q%10:=by
 rw[Ix]
 have e:M*2^k=M%10^(q+1)*2^k+M/10^(q+1)*2^k*10*10^q:=by
  have h:=Nat.div_add_mod M (10^(q+1))
  have a:M/10^(q+1)*2^k*10*10^q=M/10^(q+1)*10^(q+1)*2^k:=by
   rw[aB];ac_rfl
  rw[a,<- Nat.add_mul];congr 1;rw[aE (M/10^(q+1))];omega
 rw[e,aZ _ _ (AT q)];omega
theorem LF (M k q:Nat):DF M k q<2^k:=by
 unfold DF;rw[aH (AT q),aE];exact Nat.mul_lt_mul_of_pos_left (bJ _ (AT q)) (aG (by decide))
theorem M8 (M k:Nat):DF M k 0=0:=by simp[DF,bI]
theorem Pf {M k nd:Nat} (h:M<10^nd):DF M k nd=M*2^k/10^nd:=by rw[DF,Nat.mod_eq_of_lt h]
def Fo (P T q:Nat):Bool:=decide (P%10^min q (T-800)≠0)
theorem Nc (P T:Nat):Fo P T 0=false:=by simp[Fo,bI]
theorem Re {P T q:Nat} (h:T-(q+1)<800):Fo P T (q+1)=Fo P T q:=by
 unfold Fo;rw[show min (q+1) (T-800)=min q (T-800) by omega]
theorem J1 {P T q:Nat} (h:¬ T-(q+1)<800):Fo P T (q+1)=(Fo P T q||decide (P/10^q%10≠0)):=by
 unfold Fo;rw[show min (q+1) (T-800)=q+1 by omega,show min q (T-800)=q by omega,Me];have d:=AT q;rcases bF (P/10^q%10) with a | a
 ·rw[a,Nat.zero_mul,Nat.zero_add];simp
 have b:P/10^q%10*10^q+P%10^q≠0:=by
  have:=aN a d;omega
 have c:P/10^q%10≠0:=(by omega);rw[decide_eq_true b,decide_eq_true c,Bool.or_true]
theorem Pr {P T q:Nat} (h:T-800<=q):Fo P T q=decide (P%10^(T-800)≠0):=by
 unfold Fo;rw[Nat.min_eq_right h]
def Cb (P T:Nat):Nat×Nat:=Bk (min T 800) (P/10^(T-800))
def VI (f:Nat->Nat) (P T q:Nat):Prop:=∀j,j<800->T-q<=j->j<T->f j=48+P/10^(T-1-j)%10
theorem P6 (f:Nat->Nat) (P T:Nat):VI f P T 0:=fun j _ b a=>absurd a (by omega)
theorem Sj {f:Nat->Nat} {P T:Nat} (h:VI f P T T) (a:P<10^T):MS f (min T 800) (P/10^(T-800)):=by
 refine⟨?_,fun i b=>?_⟩
 ·rw[aH (AT _),<- aA,show min T 800+(T-800)=T by omega];exact a
 rw[h i (by omega) (by omega) (by omega),aD,<- aA,show T-800+(min T 800-1-i)=T-1-i by omega]
structure QR (k delta L:Nat):Prop where
 sum:L+delta=k+1
 d1:1<=delta
 up:2^k<=10^delta
 lo:10^(delta-1)<=2^k
theorem M9 {M nd k a L:Nat} (h:QR k a L):decide (M*10^L<5^k*10^nd)=decide (M*2^k<10^(nd+a-1)):=by
 have f:=h.sum;have g:=h.d1
 have e:M*2^k<10^(nd+a-1)↔M*10^L<5^k*10^nd:=by
  have b:M*2^k*(5^k*10^L)=M*10^L*10^k:=by
   rw[show (10:Nat)^k=2^k*5^k by rw[<- bB]];ac_rfl
  have c:10^(nd+a-1)*(5^k*10^L)=5^k*10^nd*10^k:=by
   have:10^(nd+a-1)*10^L=10^nd*10^k:=by rw[<- aA,<- aA];congr 1;omega
   rw[aE (5^k) (10^L),<- aC,this];ac_rfl
  have d:0<5^k*10^L:=aN (aG (by decide)) (AT L);rw[<- bC d,b,c,bC (AT k)]
 exact decide_eq_decide.2 e.symm
def PL (P nd a:Nat):Nat:=if P<10^(nd+a-1) then nd+a-1 else nd+a
theorem TT {M nd k a L:Nat} (h:QR k a L) (d:M<10^nd) (b:10^(nd-1)<=M) (f:1<=nd) :
  M*2^k<10^PL (M*2^k) nd a/\10^(PL (M*2^k) nd a-1)<=M*2^k/\nd<=PL (M*2^k) nd a/\PL (M*2^k) nd a<=nd+a:=by
 have g:=h.d1;unfold PL;split
 ·rename_i c
  refine⟨c,?_,by omega,by omega⟩;have e:10^(nd+a-1-1)=10^(nd-1)*10^(a-1):=by rw[<- aA];congr 1;omega
  rw[e];exact Nat.mul_le_mul b h.lo
 rename_i c
 refine⟨?_,by omega,by omega,by omega⟩;have:M*2^k<10^nd*2^k:=aF d (aG (by decide));refine aI this ?_;rw[aA];exact aT _ h.up
def KN (k:Nat) (x:Nat×List UInt8):Bool :=
 decide (x.2.length+x.1=k+1)&&decide (1<=x.1)&&decide (2^k<=10^x.1)&&decide (10^(x.1-1)<=2^k)&&decide (5^k<10^x.2.length)&&decide (x.2.length<=100) &&
  (List.range x.2.length).all fun i=>decide ((x.2.getD i 0).toNat=48+5^k/10^(x.2.length-1-i)%10)
theorem Pk:((List.range 60).all fun i=>KN (i+1) (Go.Pinned.cheatRows.getD (i+1) (0,[])))=true:=by decide +kernel
theorem Sf (k:Nat) (h:1<=k):5^k%10≠0:=by
 have:∀n,5^(n+1)%10=5:=by
  intro n
  induction n with
  | zero=>rfl
  | succ n a=>rw[aB,Nat.mul_mod,a]
 obtain⟨n,rfl⟩:∃n,k=n+1:=⟨k-1,by omega⟩;rw[this n];decide
def nD (P:Nat):Nat:=if P=0 then 0 else nD (P/10)+1
decreasing_by omega
theorem Mg:∀(T P:Nat),10^(T-1)<=P->P<10^T->1<=T->nD P=T
 | 0,_,_,_,h=>absurd h (by omega)
 | 1,P,h1,h2,_=>by
   rw[nD,if_neg (by simp at h1;omega),Nat.div_eq_of_lt (by simpa using h2),nD,if_pos rfl]
 | T+2,P,h1,h2,_=>by
   have c:=AT T;have a:10^(T+2-1)=10^T*10:=(by rw[show T+2-1=T+1 by omega,aB]);have b:10^(T+2)=10^(T+1)*10:=aB ..;rw[a] at h1;rw[b] at h2;rw[nD,if_neg (by omega),Mg (T+1) (P/10) (by rw[aJ];omega) (by omega) (by omega)]
def Bw (M nd r:Nat):Nat:=M*10^r/10^nd
theorem G8 {M nd:Nat} (h:M<10^nd):Bw M nd 0=0:=by
 unfold Bw;rw[Nat.pow_zero,Nat.mul_one,Nat.div_eq_of_lt h]
theorem K_ {M nd r:Nat} (h:r<=nd):Bw M nd r=M/10^(nd-r):=by
 unfold Bw;have e:10^nd=10^(nd-r)*10^r:=by rw[<- aA];congr 1;omega
 rw[e,aR _ _ (AT r)]
theorem Fx {M nd r:Nat} (h:nd<=r):Bw M nd r=M*10^(r-nd):=by
 unfold Bw;have e:10^r=10^(r-nd)*10^nd:=by rw[<- aA];congr 1;omega
 rw[e,<- aC,bG _ (AT nd)]
theorem CW {M nd r:Nat} (h:r<nd):Bw M nd (r+1)=Bw M nd r*10+M/10^(nd-1-r)%10:=by
 rw[K_ (by omega),K_ (by omega)];exact I1 M nd r h
theorem Cx {M nd r:Nat} (h:nd<=r):Bw M nd (r+1)=Bw M nd r*10:=by
 rw[Fx (by omega),Fx h,show r+1-nd=(r-nd)+1 by omega,aB,aC]
theorem K' (M nd r:Nat):Bw M nd (r+1)<=Bw M nd r*10+9:=by
 rcases aO r nd with h | h
 ·rw[CW h];omega
 rw[Cx h];omega
theorem T8 (M nd:Nat):Bw M nd nd=M:=by rw[K_ (bA _)];simp
structure Lq (M nd k r0:Nat):Prop where
 pos:1<=r0
 before:∀r,r<r0->Bw M nd r<2^k
 at_:2^k<=Bw M nd r0
theorem S3 {M nd:Nat} (k:Nat) (j:M<10^nd) (i:0<M):∃o,Lq M nd k o:=by
 have e:∃r,2^k<=Bw M nd r:=by
  refine⟨nd+k,?_⟩;rw[Fx (by omega),show nd+k-nd=k by omega];have:2^k<=10^k:=bE (by decide) k;exact aX this (aP _ i)
 obtain⟨r,g⟩:=e
 induction r with
 | zero=>rw[G8 j] at g;have:=aG (n:=k) (show 0<2 by decide);omega
 | succ r m =>
   rcases aO (Bw M nd r) (2^k) with h | h
   ·by_cases b:∀a,a<r+1->Bw M nd a<2^k
    ·exact⟨r+1,by omega,b,g⟩
    exfalso;apply b;intro a l
    have mono:∀d,Bw M nd a<=Bw M nd (a+d):=by
     intro d
     induction d with
     | zero=>exact bA _
     | succ d f =>
       refine aX f ?_;rw[show a+(d+1)=(a+d)+1 by omega];rcases aO (a+d) nd with c | c
       ·rw[CW c];omega
       rw[Cx c];omega
    have:=mono (r-a);rw[show a+(r-a)=r by omega] at this;omega
   exact m h
theorem Lq.lt {M nd k a:Nat} (h:Lq M nd k a):Bw M nd a<10*2^k:=by
 have c:=h.before (a-1) (by have:=h.pos;omega);have b:=K' M nd (a-1);rw[show a-1+1=a by have:=h.pos;omega] at b;omega
theorem Mv (M nd k r:Nat):Bw M nd r/2^k=M*5^k*10^r/10^(nd+k):=by
 unfold Bw;have e:M*5^k*10^r=M*10^r*5^k:=(by ac_rfl);have a:10^(nd+k)=10^nd*2^k*5^k:=(by rw[aA,aC,<- bB]);rw[e,a,aR _ _ (aG (by decide)),aD]
theorem Lq.len {M nd k a:Nat} (h:Lq M nd k a) (m:0<M):a<=nd+k/\nD (M*5^k)=nd+k-a+1/\M*5^k<10^(nd+k-a+1):=by
 have o:=h.lt;have p:=h.at_;have i:0<2^k:=aG (by decide);have c:1<=Bw M nd a/2^k:=Nat.div_pos p i;have b:Bw M nd a/2^k<10:=by rw[aH i];exact o
 rw[Mv] at c b;have r:0<M*5^k:=aN m (aG (by decide))
 have d:10^(nd+k)<=M*5^k*10^a:=by
  have:=aL (M*5^k*10^a) (10^(nd+k));exact aX (aP _ c) this
 have e:M*5^k*10^a<10^(nd+k+1):=by
  rw[aH (AT _)] at b;rw[aB,aE (10^(nd+k))];exact b
 have q:a<=nd+k:=by
  rcases aO (nd+k) a with h | h
  ·have:=Nat.pow_le_pow_right (n:=10) (by decide) (show nd+k+1<=a by omega)
   have f:=aP (10^a) r;omega
  exact h
 have j:10^(nd+k)=10^(nd+k-a)*10^a:=by rw[<- aA];congr 1;omega
 have l:10^(nd+k+1)=10^(nd+k-a+1)*10^a:=by rw[<- aA];congr 1;omega
 rw[j] at d;rw[l] at e;have f:=Nat.le_of_mul_le_mul_right d (AT a);have g:=Nat.lt_of_mul_lt_mul_right e;exact⟨q,Mg _ _ (by rw[aJ];exact f) g (by omega),g⟩
theorem P7 {M nd k a T q:Nat} (c:T=nd+k-a+1) (f:a<=nd+k) (d:q<T):Bw M nd (a+q)%(10*2^k)/2^k=M*5^k/10^(T-1-q)%10:=by
 have e:Bw M nd (a+q)%(10*2^k)/2^k=Bw M nd (a+q)/2^k%10:=by
  rw[aE 10,Nat.mod_mul_right_div_self]
 rw[e,Mv];have b:10^(nd+k)=10^(T-1-q)*10^(a+q):=by rw[<- aA];congr 1;omega
 rw[b,aR _ _ (AT _)]
theorem T_ {M nd k r:Nat} (h:r<nd):Bw M nd (r+1)%(10*2^k)=Bw M nd r%(10*2^k)%2^k*10+M/10^(nd-1-r)%10:=by
 have c:0<2^k:=aG (by decide);rw[CW h,bD];have b:M/10^(nd-1-r)%10<10:=bJ _ (by decide);generalize M/10^(nd-1-r)%10=d at b;generalize Bw M nd r=A
 have e:A*10+d=10*2^k*(A/2^k)+(A%2^k*10+d):=by
  have:=Nat.div_add_mod A (2^k);have a:10*2^k*(A/2^k)=2^k*(A/2^k)*10:=(by ac_rfl);rw[a];omega
 rw[e,Nat.mul_add_mod,Nat.mod_eq_of_lt];have:=bJ A c;omega
theorem Sr {M nd k r:Nat} (h:nd<=r):Bw M nd (r+1)%(10*2^k)=Bw M nd r%(10*2^k)%2^k*10:=by
 rw[Cx h,bD,aE (Bw M nd r),Nat.mul_mod_mul_left,aE]
theorem Sq {M nd k a T q:Nat} (b:T=nd+k-a+1) (d:a<=nd+k) (c:T<=q):Bw M nd (a+q)%(10*2^k)=0:=by
 rw[Fx (by omega)]
 have e:10^(a+q-nd)=10^(a+q-nd-(k+1))*(5^k*(10*2^k)):=by
  have:5^k*(10*2^k)=10^(k+1):=by rw[aB,show (10:Nat)^k=5^k*2^k by rw[<- bB]];ac_rfl
  rw[this,<- aA];congr 1;omega
 rw[e,<- aC,<- aC];exact aV _ _
theorem P' {M nd k a T q:Nat} (g:T=nd+k-a+1) (j:a<=nd+k) (i:q<=T) (f:nd<=a+q) (h:Bw M nd (a+q)%(10*2^k)=0):M*5^k%10^(T-q)=0:=by
 rw[Fx f] at h;have e:10*2^k ∣ M*10^(a+q-nd):=aQ h;have b:10*2^k*5^k ∣ M*10^(a+q-nd)*5^k:=Nat.mul_dvd_mul_right e _
 have c:10*2^k*5^k=10^(T-q)*10^(a+q-nd):=by
  rw[aC,<- bB,<- Nat.pow_succ',<- aA];congr 1;omega
 have d:M*10^(a+q-nd)*5^k=M*5^k*10^(a+q-nd):=(by ac_rfl);rw[c,d] at b;exact aY (Nat.dvd_of_mul_dvd_mul_right (AT _) b)
theorem KB:∀(c a M:Nat),Bk (a+c) (M*10^c)=Bk a M
 | 0,a,M=>by simp
 | c+1,a,M=>by
   have e:M*10^(c+1)=M*10^c*10:=(by rw[aB,aC]);rw[show a+(c+1)=(a+c)+1 by omega,e,FU (aV _ _),bG _ (by decide)];exact KB c a M
theorem JE {P a c:Nat} (h:P%10^(a+c)=0):P/10^a=P/10^(a+c)*10^c:=by
 have b:10^(a+c) ∣ P:=aQ h;obtain⟨m,rfl⟩:=b;rw[aW _ (AT _),aA,aC,aW _ (AT a),aE]
theorem Sz {P T q:Nat} (e:q<=T) (h:P%10^(T-q)=0):Bk (min q 800) (P/10^(T-min q 800))=Cb P T:=by
 unfold Cb;rcases aO q 800 with d | d
 ·have a:min q 800=q:=by omega
  have b:min T 800=q+(min T 800-q):=(by omega);have c:T-q=(T-800)+(min T 800-q):=(by omega);rw[a,b,c];rw[c] at h;rw[JE h];exact(KB _ _ _).symm
 have a:min q 800=800:=(by omega);have b:min T 800=800:=(by omega);rw[a,b]
def Hq (P T q:Nat):Bool:=decide (P/10^(T-q)%10^(q-800)≠0)
theorem Gm {P T q:Nat} (h:q<=800):Hq P T q=false:=by
 unfold Hq;rw[show q-800=0 by omega];simp[bI]
theorem J2 {P T q:Nat} (h:800<=q) (c:q<T):Hq P T (q+1)=(Hq P T q||decide (P/10^(T-1-q)%10≠0)):=by
 unfold Hq
 have a:P/10^(T-q)=P/10^(T-1-q)/10:=by
  rw[aD,show T-q=(T-1-q)+1 by omega,aB]
 rw[a,show T-(q+1)=T-1-q by omega,show q+1-800=(q-800)+1 by omega];generalize P/10^(T-1-q)=X;generalize q-800=u
 have b:X%10^(u+1)=X/10%10^(u)*10+X%10:=by
  rw[aB,aE (10^(u)),bH];generalize X/10%10^(u)=Y;omega
 rw[b];generalize X/10%10^(u)=Y;rw[Bool.eq_iff_iff];simp only[decide_eq_true_eq,Bool.or_eq_true];omega
theorem Ps {P T q:Nat} (i:q<=T) (h:P%10^(T-q)=0):Hq P T q=decide (P%10^(T-800)≠0):=by
 rcases aO q 800 with d | d
 ·rw[Gm (by omega)]
  have f:10^(T-800) ∣ P:=Nat.dvd_trans (Nat.pow_dvd_pow 10 (by omega)) (aQ h);simp[aY f]
 unfold Hq;have e:10^(T-800)=10^(T-q)*10^(q-800):=(by rw[<- aA,show T-q+(q-800)=T-800 by omega]);rw[e,bH,h,Nat.zero_add];have g:=AT (T-q);refine decide_eq_decide.2 ⟨fun a b=>a ?_,fun a b=>a ?_⟩
 ·rcases Nat.mul_eq_zero.1 b with c | c
  ·omega
  exact c
 rw[b,Nat.mul_zero]
theorem T9 {f:Nat->Nat} {P T q:Nat} (h:∀j,j<q->j<800->f j=48+P/10^(T-1-j)%10) (a:P<10^T) (c:q<=T):MS f (min q 800) (P/10^(T-min q 800)):=by
 refine⟨?_,fun i b=>?_⟩
 ·rw[aH (AT _),<- aA,show min q 800+(T-min q 800)=T by omega];exact a
 rw[h i (by omega) (by omega),aD,<- aA,show T-min q 800+(min q 800-1-i)=T-1-i by omega]
structure DS where
 M:Nat
 nd:Nat
 dp:Int
 tr:Bool
def DS.ok (s:DS):Prop:=1<=s.nd/\s.nd<=800/\10^(s.nd-1)<=s.M/\s.M<10^s.nd
def DS.lead (s:DS):Nat:=s.M/10^(s.nd-1)
theorem K1 {s:DS} (h:s.ok):1<=s.lead/\s.lead<=9:=by
 obtain⟨d,_,a,b⟩:=h;unfold DS.lead;refine⟨Nat.div_pos a (AT _),?_⟩
 have:s.M/10^(s.nd-1)<10:=by
  have e:10^s.nd=10^(s.nd-1)*10:=by
   obtain⟨n,c⟩:∃n,s.nd=n+1:=⟨s.nd-1,by omega⟩;rw[c,aJ,aB]
  rw[aH (AT _),aE,<- e];exact b
 omega
theorem Kg (P:Nat) (h:0<P):1<=nD P/\10^(nD P-1)<=P/\P<10^nD P:=by
 induction P using Nat.strongRecOn with
 | _ P e =>
   rw[nD,if_neg (by omega)];rcases bF (P/10) with d | d
   ·rw[d,nD,if_pos rfl];exact⟨by omega,by simp;omega,by simp;omega⟩
   obtain⟨a,b,c⟩:=e (P/10) (by omega) d;refine⟨by omega,?_,?_⟩
   ·rw[aJ,show nD (P/10)=nD (P/10)-1+1 by omega,aB];omega
   rw[aB];omega
theorem MP:∀(n M:Nat),1<=n->10^(n-1)<=M->M<10^n->1<=(Bk n M).1/\(Bk n M).1<=n/\10^((Bk n M).1-1)<=(Bk n M).2/\(Bk n M).2<10^(Bk n M).1/\(Bk n M).2/10^((Bk n M).1-1)=M/10^(n-1)
 | 0,_,h,_,_=>absurd h (by omega)
 | 1,M,_,h1,h2=>by
   have:M%10≠0:=by simp at h1 h2;omega
   rw[GK this];exact⟨by omega,by omega,h1,h2,rfl⟩
 | n+2,M,_,h1,h2=>by
   by_cases h:M%10=0
   ·rw[FU h]
    have f:10^(n+2-1)=10^n*10:=(by rw[show n+2-1=n+1 by omega,aB]);have g:10^(n+2)=10^(n+1)*10:=aB ..;rw[f] at h1;rw[g] at h2;obtain⟨a,b,c,d,e⟩:=MP (n+1) (M/10) (by omega) (by rw[aJ];omega) (by omega);refine⟨a,by omega,c,d,?_⟩;rw[e,f,aJ,aE,<- aD]
   rw[GK h];exact⟨by omega,by omega,h1,h2,rfl⟩
theorem ME (P:Nat) (h:0<P):1<=(Cb P (nD P)).1/\(Cb P (nD P)).1<=800/\10^((Cb P (nD P)).1-1)<=(Cb P (nD P)).2/\(Cb P (nD P)).2<10^(Cb P (nD P)).1/\(Cb P (nD P)).2/10^((Cb P (nD P)).1-1)=P/10^(nD P-1):=by
 obtain⟨k,i,j⟩:=Kg P h;generalize nD P=T at *;unfold Cb;have f:10^(T-1)=10^(min T 800-1)*10^(T-800):=(by rw[<- aA,show min T 800-1+(T-800)=T-1 by omega]);have g:10^T=10^min T 800*10^(T-800):=(by rw[<- aA,show min T 800+(T-800)=T by omega]);obtain⟨a,b,c,d,e⟩:=MP (min T 800) (P/10^(T-800)) (by omega) (by rw[Nat.le_div_iff_mul_le (AT _),<- f];exact i) (by rw[aH (AT _),<- g];exact j);refine⟨a,by omega,c,d,?_⟩;rw[e,aD,aE,<- f]
def Dd (s:DS) (k:Nat):DS:=⟨(Cb (s.M*2^k) (nD (s.M*2^k))).2,(Cb (s.M*2^k) (nD (s.M*2^k))).1,Wb (Cb (s.M*2^k) (nD (s.M*2^k))).1 (s.dp+nD (s.M*2^k)-s.nd),s.tr||decide (s.M*2^k%10^(nD (s.M*2^k)-800)≠0)⟩
def E6 (s:DS) (k:Nat):DS:=⟨(Cb (s.M*5^k) (nD (s.M*5^k))).2,(Cb (s.M*5^k) (nD (s.M*5^k))).1,Wb (Cb (s.M*5^k) (nD (s.M*5^k))).1 (s.dp+nD (s.M*5^k)-s.nd-k),s.tr||decide (s.M*5^k%10^(nD (s.M*5^k)-800)≠0)⟩
theorem DS.ok.pos {s:DS} (h:s.ok):0<s.M:=aI (AT _) h.2.2.1
theorem D' {s:DS} (h:s.ok) (k:Nat):(Dd s k).ok/\(Dd s k).dp=s.dp+nD (s.M*2^k)-s.nd/\(Dd s k).lead=s.M*2^k/10^(nD (s.M*2^k)-1):=by
 obtain⟨a,b,c,d,e⟩:=ME (s.M*2^k) (aN h.pos (aG (by decide)));exact⟨⟨a,b,c,d⟩,if_neg (by omega),e⟩
theorem E7 {s:DS} (h:s.ok) (k:Nat):(E6 s k).ok/\(E6 s k).dp=s.dp+nD (s.M*5^k)-s.nd-k/\(E6 s k).lead=s.M*5^k/10^(nD (s.M*5^k)-1):=by
 obtain⟨a,b,c,d,e⟩:=ME (s.M*5^k) (aN h.pos (aG (by decide)));exact⟨⟨a,b,c,d⟩,if_neg (by omega),e⟩
theorem OZ {s:DS} (h:s.ok) {k a c:Nat} (b:10^a<=2^k) (d:2^k<=10^c):s.dp+a<=(Dd s k).dp/\(Dd s k).dp<=s.dp+c:=by
 obtain⟨_,e,_⟩:=D' h k;obtain⟨p,i,j⟩:=Kg (s.M*2^k) (aN h.pos (aG (by decide)));obtain⟨q,_,l,m⟩:=h;have f:10^(s.nd-1+a)<=s.M*2^k:=by rw[aA];exact Nat.mul_le_mul l b
 have g:s.M*2^k<10^(s.nd+c):=by
  rw[aA];exact aI (aF m (aG (by decide))) (aT _ d)
 have n:s.nd-1+a<nD (s.M*2^k):=(aK (by decide)).1 (aM f j);have o:nD (s.M*2^k)-1<s.nd+c:=(aK (a:=10) (by decide)).1 (aM i g);rw[e];omega
theorem GH {s:DS} (h:s.ok) (k:Nat):s.dp-k<=(E6 s k).dp/\(E6 s k).dp<=s.dp:=by
 obtain⟨_,e,_⟩:=E7 h k;obtain⟨m,d,f⟩:=Kg (s.M*5^k) (aN h.pos (aG (by decide)));obtain⟨n,_,g,i⟩:=h;have b:10^(s.nd-1)<=s.M*5^k:=aX g (Nat.le_mul_of_pos_right _ (aG (by decide)))
 have c:s.M*5^k<10^(s.nd+k):=by
  rw[aA];exact aI (aF i (aG (by decide))) (aT _ (bE (by decide) k))
 have j:s.nd-1<nD (s.M*5^k):=(aK (a:=10) (by decide)).1 (aM b f);have l:nD (s.M*5^k)-1<s.nd+k:=(aK (a:=10) (by decide)).1 (aM d c);rw[e];omega
end Go.Proofs.YtipfpohlnhmlpaaGreatDoor
