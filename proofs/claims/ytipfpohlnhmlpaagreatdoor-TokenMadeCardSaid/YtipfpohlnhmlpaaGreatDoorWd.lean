/- Wd Pt Pu Pv Pw Px -/
import Derived.Test.YtipfpohlnhmlpaaGreatDoorWc
import Derived.Test.YtipfpohlnhmlpaaGreatDoorGd
import Derived.Laws.RangeString
import Derived.Deep.QuietTactic
import Derived.Lib.Strings
import Derived.BigQuiet
import Derived.Test.YtipfpohlnhmlpaaGreatDoorPe
set_option maxHeartbeats 800000
open Nat renaming le_refl->aA,pow_succ->aB,le_div_iff_mul_le->aC,pow_le_pow_right->aE,pow_lt_pow_iff_right->aF,pow_pos->aK,pow_add->aL,div_mul_le_self->aM,pow_le_pow_left->aN,add_sub_cancel->aP,lt_of_le_of_lt->aQ,mul_pos->aR
open List renaming length_drop->aD,length_cons->aG,drop_eq_nil_of_le->aH
open UInt8 renaming ofNat->aJ,toNat_inj->aS
namespace Go.Proofs.YtipfpohlnhmlpaaGreatDoor
open Go.Proofs.Tryz
open Go.RowKit
def Cg:ByteArray:={ data := #[34,92,47,110,116,114,102,118,97,98] }
theorem Gu (w:World) (m k:Nat) (h:k<10) (a:TypeId) :
  (Instr.next (.pointer (some ⟨w.heap.size,0,none⟩)) true a).run prog ((w.iter Cg k).drewN m) = .ok (.tuple #[.bool true,.int .i64 k,.int .i32 (Cg[k]'h).toNat]) ((w.iter Cg (k+1)).drewN m) :=
 run_next_ascii (w.drewN m) Cg k a h (by
  have:∀j (b:j<10),(Cg[j]'b).toNat<128:=by decide
  exact this k h)
theorem L9 (w:World) (m:Nat) (a:TypeId) :
  (Instr.next (.pointer (some ⟨w.heap.size,0,none⟩)) true a).run prog ((w.iter Cg 10).drewN m) = .ok (.tuple #[.bool false]) ((w.iter Cg 10).drewN m) :=
 run_next_end (w.drewN m) Cg 10 a (by decide)
theorem Xh (w:World) (B:ByteArray) (L:List UInt8) (a:B.data.toList=L) (k:Nat) (h:k<L.length):(Instr.index 9 (.string B) (.int .i64 k)).run prog w = .ok (.int .u8 (L[k]'h).toNat) w:=by
 subst a;have b:k<B.size:=(by simpa using h);rw[run_index_string _ _ _ _ _ underlying9,dif_pos ⟨by omega,by omega⟩];simp only[Int.toNat_natCast];rfl
theorem Nd (s:ByteArray) (c:UInt8) (w:World) (R:s.size<=maxLen) (E:0<s.size) (D:s[0]=c):Calls prog 45 #[.string s] w fun e v=>e = .returned (.tuple #[.int .u8 (BZ s.data.toList).1.toNat,.int .i64 (BZ s.data.toList).2])/\Below w.heap.size w v:=by
 unfold maxLen at R
 go_in
 go_wp2
 go_loopw [4] (fun _ v=>∃k m:Nat,k<=10/\v=(w.iter Cg k).drewN m/\A4.idxOf c=k+(A4.drop k).idxOf c) (fun _ v=>10-v.iterPos w.heap.size)
 case atStart=>exact⟨0,0,by omega,rfl,by simp⟩
 obtain⟨k,m,T,rfl,d⟩:=hrel;by_cases b:k<10
 ·have f:=RE c A4 k b
  by_cases o:A4[k]=c
  ·rw[if_pos o] at f
   have q:Hid (A4.idxOf c=k):=by rw[d,f];rfl
   clear d f;have r:=Gu w m k b;have N:=fun W=>Xh W { data := #[34,92,47,110,116,114,102,118,97,98] } A4 rfl k b;have S:=fun W=>Xh W { data := #[34,92,47,10,9,13,12,11,7,8] } F7 rfl k b;have L:((A4[k].toNat:Int)==c.toNat)=true:=AH o;have J:=Lib.hid (LR c s.data.toList (by simpa using E) D k b q.out);clear o;go_wp2;go_quiet (fail);go_wp2
   go_ret2
   rw[J.out];exact⟨rfl,below_drewN ((Below.refl _ _).alloc (aA _) _) _⟩
  rw[if_neg o] at f;have q:Hid (A4.idxOf c=(k+1)+(A4.drop (k+1)).idxOf c):=by rw[d,f];show _=_;omega
  clear d f;have r:=Gu w m k b;have N:=fun W=>Xh W { data := #[34,92,47,110,116,114,102,118,97,98] } A4 rfl k b;have L:((A4[k].toNat:Int)==c.toNat)=false:=Ao o;clear o;go_wp2;go_quiet (fail);go_wp2
  go_roundw
  case rel=>exact⟨k+1,_,by omega,World.drewN_drewN _ _ _,q.out⟩
  show 10-(w.iter Cg (k+1)).iterPos w.heap.size<10-(w.iter Cg k).iterPos w.heap.size;simp;omega
 obtain rfl:k=10:=(by omega);have q:Hid (¬ A4.idxOf c<10):=by rw[d];show ¬ _;omega
 clear d;have r:=L9 w m;go_wp2
 go_loop [5,6] (fun n j=>∃a i:Nat,i<=3/\i<=s.size/\a<8^i/\n = .int .i64 a/\j = .int .i64 i/\(D_ 3 0 s.data.toList).1=(D_ (3-i) a (s.data.toList.drop i)).1/\(D_ 3 0 s.data.toList).2=i+(D_ (3-i) a (s.data.toList.drop i)).2) (fun _ j=>3-(intOf j).toNat)
 case atStart=>exact⟨0,0,by omega,by omega,by omega,rfl,rfl,rfl,by simp⟩
 obtain⟨a,i,M,Q,ha,rfl,rfl,t,u⟩:=hrel;have g:=Lib.hid (And.intro t u);clear t u
 have l:a<512:=by
  have:8^i<=8^3:=aE (by omega) M;omega
 have y:Hid (∀x C,BZ s.data.toList=(aJ x,C)->x<512->Value.tuple #[.int .u8 ((x:Int)%256),.int .i64 C]=Value.tuple #[.int .u8 (BZ s.data.toList).1.toNat,.int .i64 (BZ s.data.toList).2]):=fun x C h _=>by
  rw[h];simp
 have z:=Lib.hid (Rk c s.data.toList (by simpa using E) D q.out);by_cases U:i<3
 ·by_cases G:i<s.size
  ·have F:i<s.data.toList.length:=by simpa using G
   by_cases A:48<=s[i].toNat/\s[i].toNat<=55
   ·have B:=OM (2-i) a _ i F A
    obtain⟨O,P⟩:=A;rw[show 2-i+1=3-i by omega] at B;have K:=Lib.hid B;clear B;go_wp2
    go_round
    case rel =>
     obtain⟨H,I⟩:=g.out;rw[K.out] at H I;refine⟨8*a+(s[i].toNat-48),i+1,by omega,by omega,by rw[aB];omega,?_,by go_num,?_,?_⟩
     ·congr 1
      omega
     ·rw[H,show 2-i=3-(i+1) by omega];rfl
     rw[I,show 2-i=3-(i+1) by omega];show i+(_+1)=_;rw[Nat.add_assoc,Nat.add_comm 1];rfl
    simp[intOf];omega
   have p:Hid (BZ s.data.toList=(aJ a,i)):=by
    rw[z.out,g.out.1,g.out.2,R3 _ _ _ _ F A];rfl
   go_wp2
   all_goals (go_ret2;exact⟨congrArg Ending.returned (y.out a i p.out l),below_drewN ((Below.refl _ _).alloc (aA _) _) _⟩)
  have p:Hid (BZ s.data.toList=(aJ a,i)):=by
   rw[z.out,g.out.1,g.out.2,OL _ _ _ _ (by simpa using G)];rfl
  go_wp2
  go_ret2;exact⟨congrArg Ending.returned (y.out a i p.out l),below_drewN ((Below.refl _ _).alloc (aA _) _) _⟩
 have p:Hid (BZ s.data.toList=(aJ a,i)):=by
  rw[z.out,g.out.1,g.out.2,show 3-i=0 by omega];rfl
 go_wp2
 go_ret2;exact⟨congrArg Ending.returned (y.out a i p.out l),below_drewN ((Below.refl _ _).alloc (aA _) _) _⟩
theorem Nf (s:ByteArray) (k t:Nat) (w:World) (d:s.size<=maxLen) (c:k<t) (f:t<=s.size):Calls prog 45 #[.string (s.extract k t)] w fun e b=>e = .returned (.tuple #[.int .u8 (BZ (Bc s.data.toList k t)).1.toNat,.int .i64 (BZ (Bc s.data.toList k t)).2])/\Below w.heap.size w b:=by
 have a:(s.extract k t).size=t-k:=by simp;omega
 have:=Nd (s.extract k t) _ w (by omega) (by omega) rfl
 rwa [show (s.extract k t).data.toList=Bc s.data.toList k t from Lib.extract_data _ _ _] at this
def Mt:List Nat:=[1,3,6,9,13,16,19,23,26]
def Dt (d:Nat):Nat:=if 9<=d then 27 else Mt.getD d 0
theorem K7 (d:Nat):1<=Dt d/\Dt d<=27:=by
 unfold Dt;split
 ·omega
 obtain rfl | rfl | rfl | rfl | rfl | rfl | rfl | rfl | rfl:d=0\/d=1\/d=2\/d=3\/d=4\/d=5\/d=6\/d=7\/d=8:=by omega
 all_goals decide
theorem Mu (d:Nat) (h:2<=d):6<=Dt d:=by
 unfold Dt;split
 ·omega
 obtain rfl | rfl | rfl | rfl | rfl | rfl | rfl:d=2\/d=3\/d=4\/d=5\/d=6\/d=7\/d=8:=by omega
 all_goals decide
theorem OP (k:Nat) (h:4<=k):10<=2^k:=by
 have:=aE (n:=2) (by decide) h;omega
theorem IW {n:Nat} (h:1<=n):10^n=10^(n-1)*10:=by
 obtain⟨m,rfl⟩:∃m,n=m+1:=⟨n-1,by omega⟩;rw[aP,aB]
theorem Ku {s:DS} (h:s.ok) (k:Nat) (d:s.M<2^k*10^(s.nd-1)):(E6 s k).dp<=s.dp-1:=by
 obtain⟨_,e,_⟩:=E7 h k;obtain⟨j,g,l⟩:=Kg (s.M*5^k) (aR h.pos (aK (by decide)))
 have f:s.M*5^k<10^(s.nd-1+k):=by
  have c:s.M*5^k<2^k*10^(s.nd-1)*5^k:=Nat.mul_lt_mul_of_pos_right d (aK (by decide))
  have b:2^k*10^(s.nd-1)*5^k=10^(s.nd-1+k):=by
   rw[aL,show (10:Nat)^k=2^k*5^k by rw[<- Nat.mul_pow]];ac_rfl
  rwa [b] at c
 have i:nD (s.M*5^k)-1<s.nd-1+k:=(aF (a:=10) (by decide)).1 (aQ g f);have:=h.1;rw[e];omega
theorem MG {s:DS} (h:s.ok) (k:Nat) (a:4<=k):(E6 s k).dp<=s.dp-1:=by
 refine Ku h k (Nat.lt_of_lt_of_le h.2.2.2 ?_);rw[IW h.1,Nat.mul_comm];exact Nat.mul_le_mul_right _ (OP k a)
theorem N7 {s:DS} (h:s.ok) (d:¬ s.M<2^3*10^(s.nd-1)):(E6 s 3).lead=1:=by
 obtain⟨_,_,e⟩:=E7 h 3;obtain⟨g,i,j⟩:=Kg (s.M*5^3) (aR h.pos (aK (by decide)));obtain⟨b,_,k,c⟩:=h;have f:=AT (s.nd-1);rw[IW b] at c
 have a:nD (s.M*5^3)=s.nd+3:=by
  refine Mg _ _ ?_ ?_ (by omega)
  ·rw[show s.nd+3-1=s.nd-1+3 by omega,aL];omega
  rw[show s.nd+3=s.nd-1+4 by omega,aL];omega
 rw[e,a,show s.nd+3-1=s.nd-1+3 by omega,aL];generalize 10^(s.nd-1)=X at *;apply Nat.div_eq_of_lt_le<;>omega
def JD (s:DS):Nat:=2*s.dp.toNat+(if 8<=s.lead then 1 else 0)
theorem TQ {s:DS} (n:Nat) (h:¬ s.M<n*10^(s.nd-1)):n<=s.lead:=by
 unfold DS.lead;rw[aC (AT _)];omega
theorem Vu {s:DS} (h:s.ok) (e:0<s.dp):JD (E6 s (Dt s.dp.toNat))<JD s:=by
 unfold JD;by_cases c:2<=s.dp.toNat
 ·have:=MG h (Dt s.dp.toNat) (by have:=Mu _ c;omega)
  split<;>split<;>omega
 have b:s.dp.toNat=1:=(by omega);rw[b];have d:Dt 1=3:=rfl;rw[d];by_cases a:s.M<2^3*10^(s.nd-1)
 ·have:=Ku h 3 a
  split<;>split<;>omega
 have g:=TQ _ a;have l:=N7 h a;have:=(GH h 3).2;rw[l,if_neg (by omega),if_pos (by omega)];omega
def JI:Nat->DS->Int->DS×Int
 | 0,s,e=>(s,e)
 | n+1,s,e=>if 0<s.dp then JI n (E6 s (Dt s.dp.toNat)) (e+Dt s.dp.toNat) else (s,e)
theorem Ru (n:Nat) (s:DS) (e:Int) (h:¬ 0<s.dp):JI n s e=(s,e):=by
 cases n with
 | zero=>rfl
 | succ n=>rw[JI,if_neg h]
theorem SC {s:DS} (h:s.ok) (a:s.lead<5):(Dd s 1).dp=s.dp/\2*s.lead<=(Dd s 1).lead:=by
 obtain⟨_,e,c⟩:=D' h 1;obtain⟨b,_,g,i⟩:=h
 have f:s.M<5*10^(s.nd-1):=by
  unfold DS.lead at a;rwa [Nat.div_lt_iff_lt_mul (AT _)] at a
 have d:nD (s.M*2^1)=s.nd:=Mg _ _ (by omega) (by rw[IW b];omega) b;rw[e,c,d];refine⟨by omega,?_⟩;rw[aC (AT _)];have:=aM s.M (10^(s.nd-1));unfold DS.lead;rw[Nat.mul_assoc];omega
theorem N5 {s:DS} (h:s.ok):s.dp+1<=(Dd s 3).dp\/((Dd s 3).dp=s.dp/\8*s.lead<=(Dd s 3).lead):=by
 obtain⟨_,e,b⟩:=D' h 3;obtain⟨i,j,d⟩:=Kg (s.M*2^3) (aR h.pos (aK (by decide)));obtain⟨k,_,f,l⟩:=h;have g:s.nd-1<nD (s.M*2^3):=(aF (a:=10) (by decide)).1 (aQ (Nat.le_trans f (Nat.le_mul_of_pos_right _ (by decide))) d);by_cases c:nD (s.M*2^3)=s.nd
 ·right
  rw[e,b,c];refine⟨by omega,?_⟩;rw[aC (AT _)];have:=aM s.M (10^(s.nd-1));unfold DS.lead;rw[Nat.mul_assoc];omega
 left;rw[e];omega
def MT (s:DS):Nat:=if s.dp<0 then 20*(-s.dp).toNat+(10-s.lead) else if s.dp=0 then 10-s.lead else 0
def IA (s:DS):Prop:=s.dp<0\/(s.dp=0/\s.lead<5)
instance (s:DS):Decidable (IA s):=by unfold IA;infer_instance
theorem Vv {s:DS} (h:s.ok) (e:IA s):MT (Dd s (Dt (-s.dp).toNat))<MT s:=by
 have j:=K1 h;have d:=K1 (D' h (Dt (-s.dp).toNat)).1;rcases e with e | ⟨e,l⟩
 ·have n:s.dp+1<=(Dd s (Dt (-s.dp).toNat)).dp\/((Dd s (Dt (-s.dp).toNat)).dp=s.dp/\8*s.lead<=(Dd s (Dt (-s.dp).toNat)).lead):=by
   by_cases i:2<=(-s.dp).toNat
   ·left
    have o:=Mu _ i;have j:=K7 (-s.dp).toNat;have:=(OZ h (k:=Dt (-s.dp).toNat) (a:=1) (c:=Dt (-s.dp).toNat) (OP _ (by omega)) (aN (by decide) _)).1;omega
   have g:(-s.dp).toNat=1:=(by omega);rw[g];exact N5 h
  unfold MT;rw[if_pos e];split<;>(try split)<;>omega
 have f:(-s.dp).toNat=0:=(by omega);rw[f] at d ⊢;have m:Dt 0=1:=rfl;rw[m] at d ⊢;obtain⟨a,b⟩:=SC h l;unfold MT;rw[a,e];simp only[Int.lt_irrefl,if_false,if_true];omega
def OB:Nat->DS->Int->DS×Int
 | 0,s,e=>(s,e)
 | n+1,s,e=>if IA s then OB n (Dd s (Dt (-s.dp).toNat)) (e-Dt (-s.dp).toNat) else (s,e)
theorem Rv (n:Nat) (s:DS) (e:Int) (h:¬ IA s):OB n s e=(s,e):=by
 cases n with
 | zero=>rfl
 | succ n=>rw[OB,if_neg h]
def DD (s:DS) (k:Nat):DS:=if 60<k then DD (Dd s 60) (k-60) else Dd s k
def FX (s:DS) (k:Nat):DS:=if 60<k then FX (E6 s 60) (k-60) else E6 s k
theorem Im {s:DS} (h:s.ok) (k:Nat):s.dp<=(Dd s k).dp/\(Dd s k).dp<=s.dp+k:=by
 have:=OZ h (k:=k) (a:=0) (c:=k) (by simpa using Nat.one_le_two_pow) (aN (by decide) k);omega
theorem GG (k:Nat):∀(s:DS),s.ok->(DD s k).ok/\s.dp<=(DD s k).dp/\(DD s k).dp<=s.dp+k:=by
 induction k using Nat.strongRecOn with
 | _ k d =>
   intro s h;rw[DD];split
   ·have e:=Im h 60
    obtain⟨a,b,c⟩:=d (k-60) (by omega) _ (D' h 60).1;exact⟨a,by omega,by omega⟩
   exact⟨(D' h k).1,Im h k⟩
theorem Ug (k:Nat):∀(s:DS),s.ok->(FX s k).ok/\s.dp-k<=(FX s k).dp/\(FX s k).dp<=s.dp:=by
 induction k using Nat.strongRecOn with
 | _ k d =>
   intro s h;rw[FX];split
   ·have e:=GH h 60
    obtain⟨a,b,c⟩:=d (k-60) (by omega) _ (E7 h 60).1;exact⟨a,by omega,by omega⟩
   exact⟨(E7 h k).1,GH h k⟩
def Jo (s:DS) (i:Int):Bool :=
 if i<0\/(s.nd:Int)<=i then false
 else if s.M/10^(s.nd-1-i.toNat)%10=5/\i.toNat+1=s.nd then
  (if s.tr=true then true else decide (0<i.toNat/\s.M/10^(s.nd-1-(i.toNat-1))%10%2≠0))
 else decide (5<=s.M/10^(s.nd-1-i.toNat)%10)
structure SD where
 M:Nat
 nd:Nat
 dp:Int
 sd:Bool
 sg:Bool
 tr:Bool
def SD.init:SD:=⟨0,0,0,false,false,false⟩
def CX (a:SD) (c:UInt8):Option SD :=
 if c=46 then (if a.sd=true then none else some { a with sd:=true,dp:=a.nd })
 else if Aj c=true then
  (if c=48/\a.nd=0 then some { a with sg:=true,dp:=a.dp-1 }
   else if a.nd<800 then some { a with sg:=true,nd:=a.nd+1,M:=a.M*10+(c.toNat-48) }
   else some { a with sg:=true,tr:=if c=48 then a.tr else true })
 else none
def Bt:SD->List UInt8->SD×Nat
 | st,[]=>(st,0)
 | st,c::r=>match CX st c with
   | none=>(st,0)
   | some a=>((Bt a r).1,(Bt a r).2+1)
theorem N2 (a:SD) (l:List UInt8) (k:Nat) (h:l.length<=k):Bt a (l.drop k)=(a,0):=by
 rw[aH h];rfl
theorem Qg (a:SD) (l:List UInt8) (k:Nat) (h:k<l.length) (b:CX a l[k]=none):Bt a (l.drop k)=(a,0):=by
 rw[Aq l k h,Bt,b]
theorem N3 (b a:SD) (l:List UInt8) (k:Nat) (h:k<l.length) (c:CX b l[k]=some a):Bt b (l.drop k)=((Bt a (l.drop (k+1))).1,(Bt a (l.drop (k+1))).2+1):=by
 rw[Aq l k h,Bt,c]
def El (l:List UInt8) (a:SD) (dp:Int) (i:Nat):Option DS:=if i=l.length then some ⟨a.M,a.nd,dp,a.tr⟩ else none
def Jc (l:List UInt8) (a:SD) (dp:Int) (k:Nat):Option DS :=
 if l.length<=k then none
 else if Al Aj (l.drop (k+AR (l.drop k)))=0 then none
 else El l a (dp+(A7 0 (l.drop (k+AR (l.drop k)))).1*(if (l.drop k).head?=some 45 then -1 else 1)) (k+AR (l.drop k)+(A7 0 (l.drop (k+AR (l.drop k)))).2)
def D4 (l:List UInt8) (a:SD) (i:Nat):Option DS :=
 if (l.drop i).head?=some 46 then none
 else if a.sg=false then none
 else if (l.drop i).head?=some 101\/(l.drop i).head?=some 69 then Jc l a (if a.sd=true then a.dp else a.nd) (i+1)
 else El l a (if a.sd=true then a.dp else a.nd) i
def Ik (l:List UInt8):Option DS :=
 if l=[] then none
 else D4 l (Bt .init (l.drop (AR l))).1 (AR l+(Bt .init (l.drop (AR l))).2)
def SD.ok (a:SD) (k:Nat):Prop:=a.M<10^a.nd/\(a.nd=0\/10^(a.nd-1)<=a.M)/\a.nd<=800/\a.nd<=k /\ -(k:Int)<=a.dp/\a.dp<=k
theorem SD.init_ok:SD.init.ok 0:=⟨by show 0<1;omega,.inl rfl,by show 0<=800;omega,aA _,by show -((0:Nat):Int)<=0;omega,by show (0:Int)<=((0:Nat):Int);omega⟩
theorem SD.ok_mono {b:SD} {k a:Nat} (h:b.ok k) (j:k<=a):b.ok a:=by
 obtain⟨c,d,e,f,g,i⟩:=h;exact⟨c,d,e,by omega,by omega,by omega⟩
theorem Ks (l g:SD) (k:Nat) (c:UInt8) (h:l.ok k) (a:CX l c=some g):g.ok (k+1):=by
 obtain⟨M,nd,d,s,t,u⟩:=l;obtain⟨i,b,j,n,o,p⟩:=h;dsimp only at i b j n o p;unfold CX at a;dsimp only at a;split at a
 ·split at a
  ·cases a
  cases a;exact⟨i,b,j,by show nd<=k+1;omega,by show -((k+1:Nat):Int)<=(nd:Int);omega,by show (nd:Int)<=((k+1:Nat):Int);omega⟩
 split at a
 ·rename_i r
  have:=Cq r;split at a
  ·cases a;exact⟨i,b,j,by show nd<=k+1;omega,by show -((k+1:Nat):Int)<=d-1;omega,by show d-1<=((k+1:Nat):Int);omega⟩
  rename_i f
  split at a
  ·cases a
   refine⟨?_,.inr ?_,by show nd+1<=800;omega,by show nd+1<=k+1;omega,by show -((k+1:Nat):Int)<=d;omega,by show d<=((k+1:Nat):Int);omega⟩
   ·show M*10+(c.toNat-48)<10^(nd+1)
    rw[aB];omega
   show 10^(nd+1-1)<=M*10+(c.toNat-48);rw[aP];rcases b with b | b
   ·subst b
    have q:c.toNat≠48:=fun e=>f ⟨aS.1 e,rfl⟩;show 1<=_;omega
   rcases Nat.eq_zero_or_pos nd with m | m
   ·subst m
    have q:c.toNat≠48:=fun e=>f ⟨aS.1 e,rfl⟩;show 1<=_;omega
   rw[show nd=nd-1+1 by omega,aB];omega
  cases a;exact⟨i,b,j,by show nd<=k+1;omega,by show -((k+1:Nat):Int)<=d;omega,by show d<=((k+1:Nat):Int);omega⟩
 cases a
theorem Kr:∀(l:List UInt8) (b:SD) (k:Nat),b.ok k->(Bt b l).1.ok (k+(Bt b l).2)
 | [],b,k,h=>h
 | c::r,b,k,h=>by
   unfold Bt;split
   ·exact h
   rename_i a d
   have:=Kr r a (k+1) (Ks b a k c h d)
   rwa [show k+1+(Bt a r).2=k+((Bt a r).2+1) by omega] at this
theorem TB {f:Nat->Nat} {nd M c:Nat} (h:MS f nd M) (b:48<=c) (d:c<=57):MS (fun j=>if j=nd then c else f j) (nd+1) (M*10+(c-48)):=by
 refine⟨?_,fun i g=>?_⟩
 ·have:=h.1;rw[aB];omega
 show (if i=nd then c else f i)=_;by_cases e:i=nd
 ·subst e
  rw[if_pos rfl,show i+1-1-i=0 by omega,Nat.pow_zero,Nat.div_one];omega
 have a:=h.2 i (by omega);rw[if_neg e,a,show nd+1-1-i=(nd-1-i)+1 by omega,aB,Nat.mul_comm (10^(nd-1-i)) 10,<- Nat.div_div_eq_div_mul,show (M*10+(c-48))/10=M by omega]
theorem Oy (f:Nat->Nat):MS f 0 0:=⟨by decide,fun i a=>absurd a (by omega)⟩
theorem I7:∀(l:List UInt8) (a:RF),(Bq a l).2<=l.length
 | [],_=>aA _
 | c::r,a=>by
   rw[Bq]
   cases h:CF a c with
   | none=>simp
   | some b=>have:=I7 r b;simp only[aG];omega
theorem J4:∀(l:List UInt8) (e:Nat),(A7 e l).2<=l.length
 | [],_=>aA _
 | c::r,e=>by
   rw[A7];split
   ·have:=J4 r (if e<10000 then e*10+(c.toNat-48) else e);simp only[aG];omega
   simp
theorem I8:∀(l:List UInt8) (b:RF) (k:Nat),b.ok k->(Bq b l).1.ok (k+(Bq b l).2)
 | [],b,k,h=>h
 | c::r,b,k,h=>by
   rw[Bq]
   cases d:CF b c with
   | none=>exact h
   | some a =>
     have:=I8 r a (k+1) (Kn b a k c h d);dsimp only
     rwa [show k+((Bq a r).2+1)=k+1+(Bq a r).2 by omega]
theorem RF.init_okS:RF.init.ok 0:=⟨by show 0<1;omega,by show 0<=19;omega,aA _,aA _,by show -((0:Nat):Int)<=0;omega,by show (0:Int)<=((0:Nat):Int);omega⟩
theorem OV (l:List UInt8):AR l<=l.length:=by
 unfold AR;split
 ·cases l with
  | nil=>simp at *
  | cons c r=>simp
 omega
theorem My (a:Bool) (b:RF) (dp:Int) (i:Nat):(Dc a b dp i).i=i:=rfl
theorem H7 (b:Bool) (a:RF) (dp:Int) (i:Nat):(Dc b a dp i).mant=a.mant:=rfl
theorem Wv (l:List UInt8):(rf l).i<=l.length/\(rf l).mant<10000000000000000000:=by
 unfold rf;split
 ·exact⟨Nat.zero_le _,by show 0<10000000000000000000;omega⟩
 have j:=OV l;have c:=I7 (l.drop (AR l)) .init;have d:=I8 (l.drop (AR l)) .init 0 RF.init_okS;rw[aD] at c;generalize Bq .init (l.drop (AR l))=R at c d;generalize AR l=g at j c
 have a:R.1.mant<10000000000000000000:=by
  have:=d.1;have b:=d.2.1;have:=aE (n:=10) (by omega) b;have e:(10:Nat)^19=10000000000000000000:=(by decide);omega
 have p:∀k,(l.drop k).head?=some 101\/(l.drop k).head?=some 69->k<l.length:=by
  intro k f;by_cases q:k<l.length
  ·exact q
  rw[aH (by omega)] at f;simp at f
 unfold Ek;split
 ·exact⟨by show g+R.2<=_;omega,a⟩
 split
 ·rename_i h
  have:=p _ h;unfold GB;split
  ·exact⟨by show g+R.2+1<=_;omega,a⟩
  have m:=OV (l.drop (g+R.2+1));rw[aD] at m;split
  ·exact⟨by show g+R.2+1+_<=_;omega,a⟩
  rw[My,H7];have o:=J4 (l.drop (g+R.2+1+AR (l.drop (g+R.2+1)))) 0;rw[aD] at o;exact⟨by omega,a⟩
 rw[My,H7];exact⟨by omega,a⟩
theorem J5:∀(l:List UInt8) (e:Nat),e<=100000->(A7 e l).1<=100000
 | [],e,h=>h
 | c::r,e,h=>by
   rw[A7];split
   ·rename_i a
    have:=Cq a;refine J5 r _ ?_;split<;>omega
   exact h
theorem VL (l:List UInt8) (x:l.length<=281474976710656) (d:DS) (h:Ik l=some d) :
  d.nd<=800/\(d.nd=0\/d.ok) /\ -1152921504606846976<=d.dp/\d.dp<=1152921504606846976:=by
 unfold Ik at h;split at h
 ·cases h
 have m:=Kr (l.drop (AR l)) .init 0 SD.init_ok
 have q:(Bt .init (l.drop (AR l))).2<=l.length:=by
  have:∀(l:List UInt8) (b:SD),(Bt b l).2<=l.length:=by
   intro l
   induction l with
   | nil=>intro b;exact aA _
   | cons c r t =>
     intro b;rw[Bt]
     cases y:CX b c with
     | none=>simp
     | some e=>have:=t e;simp only[aG];omega
  have:=this (l.drop (AR l)) .init;rw[aD] at this;omega
 generalize Bt .init (l.drop (AR l))=R at h q m;generalize AR l=g at h;obtain⟨n,o,f,u,v,w⟩:=m
 have s:R.1.nd=0\/(1<=R.1.nd/\R.1.nd<=800/\10^(R.1.nd-1)<=R.1.M/\R.1.M<10^R.1.nd):=by
  rcases o with h | h
  ·exact .inl h
  by_cases p:R.1.nd=0
  ·exact .inl p
  exact .inr ⟨by omega,f,h,n⟩
 have done:∀(dp:Int) (i:Nat),-300000000000000<=dp->dp<=300000000000000->El l R.1 dp i=some d->d.nd<=800/\(d.nd=0\/d.ok) /\ -1152921504606846976<=d.dp/\d.dp<=1152921504606846976:=by
  intro dp i j k a;unfold El at a;split at a
  ·cases a;exact⟨f,s,by show _<=dp;omega,by show dp<=_;omega⟩
  cases a
 have j : -281474976710656<=(if R.1.sd=true then R.1.dp else (R.1.nd:Int)):=by split<;>omega
 have k:(if R.1.sd=true then R.1.dp else (R.1.nd:Int))<=281474976710656:=by split<;>omega
 unfold D4 at h;split at h
 ·cases h
 split at h
 ·cases h
 split at h
 ·unfold Jc at h
  split at h
  ·cases h
  split at h
  ·cases h
  refine done _ _ ?_ ?_ h
  all_goals
   have:=J5 (l.drop (g+R.2+1+AR (l.drop (g+R.2+1)))) 0 (by omega);generalize (A7 0 (l.drop (g+R.2+1+AR (l.drop (g+R.2+1))))).1=E at this;generalize (if R.1.sd=true then R.1.dp else (R.1.nd:Int))=D at j k;split<;>omega
 exact done _ _ (by omega) (by omega) h
end Go.Proofs.YtipfpohlnhmlpaaGreatDoor
