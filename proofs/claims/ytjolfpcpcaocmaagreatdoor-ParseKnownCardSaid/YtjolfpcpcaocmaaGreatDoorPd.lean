/- Pd Pe Wj -/
import Derived.Test.YtjolfpcpcaocmaaGreatDoorPc
import Derived.Test.YtjolfpcpcaocmaaGreatDoorMp
import Derived.Test.YtjolfpcpcaocmaaGreatDoorGm
set_option maxHeartbeats 800000
set_option maxRecDepth 20000
open List renaming drop_eq_nil_of_le->aA,length_drop->aC
open Array renaming eq_empty_of_size_eq_zero->aB
open ByteArray renaming empty->aD
namespace Go.Proofs.YtjolfpcpcaocmaaGreatDoor
def CU (l:List UInt8):Nat :=
 if (l.drop (Al Aj l)).head?=some 46 then
  (if Al Aj l=0/\Al Aj (l.drop (Al Aj l+1))=0 then 0 else Al Aj l+1+Al Aj (l.drop (Al Aj l+1)))
 else Al Aj l
def AR (l:List UInt8):Nat:=if l.head?=some 43\/l.head?=some 45 then 1 else 0
def GZ (l:List UInt8):Nat :=
 if l.head?=some 101\/l.head?=some 69 then
  (if Al Aj (l.drop (1+AR (l.drop 1)))=0 then 0 else 1+AR (l.drop 1)+Al Aj (l.drop (1+AR (l.drop 1))))
 else 0
def An (l:List UInt8):Nat:=if CU l=0 then 0 else CU l+GZ (l.drop (CU l))
theorem A' (l:List UInt8) (k:Nat) (h:k<l.length):(l.drop k).head?=some l[k]:=by rw[Aq l k h];rfl
theorem Bv (l:List UInt8) (k:Nat) (h:l.length<=k):(l.drop k).head?=none:=by rw[aA h];rfl
theorem RU (l:List UInt8):CU l<=l.length:=by
 have b:=Bp Aj l;have c:=Bp Aj (l.drop (Al Aj l+1));unfold CU;split
 ·rename_i h
  have:Al Aj l<l.length:=by
   rcases Nat.lt_or_ge (Al Aj l) l.length with a | a
   ·exact a
   rw[Bv l _ a] at h;cases h
  split
  ·omega
  simp only[aC] at c;omega
 exact b
theorem TG (l:List UInt8):GZ l<=l.length:=by
 have a:=Bp Aj (l.drop (1+AR (l.drop 1)));unfold GZ;split
 ·split
  ·omega
  simp only[aC] at a;omega
 omega
theorem D9 (l:List UInt8):An l<=l.length:=by
 have b:=RU l;have a:=TG (l.drop (CU l));unfold An;simp only[aC] at a;split<;>omega
def BC:List UInt8:=[43,45,46,48,49,50,51,52,53,54,55,56,57,69,101]
structure RF where
 mant:Nat
 nd:Nat
 ndm:Nat
 dp:Int
 sd:Bool
 sg:Bool
 tr:Bool
def RF.init:RF:=⟨0,0,0,0,false,false,false⟩
def CF (a:RF) (c:UInt8):Option RF :=
 if c=46 then (if a.sd=true then none else some { a with sd:=true,dp:=a.nd })
 else if Aj c=true then
  (if c=48/\a.nd=0 then some { a with sg:=true,dp:=a.dp-1 }
   else if a.ndm<19 then some { a with sg:=true,nd:=a.nd+1,mant:=a.mant*10+(c.toNat-48),ndm:=a.ndm+1 }
   else some { a with sg:=true,nd:=a.nd+1,tr:=if c=48 then a.tr else true })
 else none
def Bq:RF->List UInt8->RF×Nat
 | st,[]=>(st,0)
 | st,c::r=>match CF st c with
   | none=>(st,0)
   | some a=>((Bq a r).1,(Bq a r).2+1)
def A7:Nat->List UInt8->Nat×Nat
 | e,[]=>(e,0)
 | e,c::r=>if Aj c=true then ((A7 (if e<10000 then e*10+(c.toNat-48) else e) r).1,(A7 (if e<10000 then e*10+(c.toNat-48) else e) r).2+1) else (e,0)
structure Lm where
 mant:Nat
 exp:Int
 neg:Bool
 tr:Bool
 i:Nat
 ok:Bool
def Dc (neg:Bool) (a:RF) (dp:Int) (i:Nat):Lm:=⟨a.mant,if a.mant=0 then 0 else dp-a.ndm,neg,a.tr,i,true⟩
def GB (l:List UInt8) (neg:Bool) (a:RF) (dp:Int) (k:Nat):Lm :=
 if l.length<=k then ⟨a.mant,0,neg,a.tr,k,false⟩
 else if Al Aj (l.drop (k+AR (l.drop k)))=0 then ⟨a.mant,0,neg,a.tr,k+AR (l.drop k),false⟩
 else Dc neg a (dp+(A7 0 (l.drop (k+AR (l.drop k)))).1*(if (l.drop k).head?=some 45 then -1 else 1)) (k+AR (l.drop k)+(A7 0 (l.drop (k+AR (l.drop k)))).2)
def Ek (l:List UInt8) (neg:Bool) (a:RF) (i:Nat):Lm :=
 if a.sg=false then ⟨a.mant,0,neg,a.tr,i,false⟩
 else if (l.drop i).head?=some 101\/(l.drop i).head?=some 69 then GB l neg a (if a.sd=true then a.dp else a.nd) (i+1)
 else Dc neg a (if a.sd=true then a.dp else a.nd) i
def rf (l:List UInt8):Lm :=
 if l=[] then ⟨0,0,false,false,0,false⟩
 else Ek l (decide (l.head?=some 45)) (Bq .init (l.drop (AR l))).1 (AR l+(Bq .init (l.drop (AR l))).2)
theorem NP (a:RF) (l:List UInt8) (k:Nat) (h:l.length<=k):Bq a (l.drop k)=(a,0):=by
 rw[aA h];rfl
theorem Qa (a:RF) (l:List UInt8) (k:Nat) (h:k<l.length) (b:CF a l[k]=none):Bq a (l.drop k)=(a,0):=by
 rw[Aq l k h,Bq,b]
theorem NQ (b a:RF) (l:List UInt8) (k:Nat) (h:k<l.length) (c:CF b l[k]=some a):Bq b (l.drop k)=((Bq a (l.drop (k+1))).1,(Bq a (l.drop (k+1))).2+1):=by
 rw[Aq l k h,Bq,c]
theorem J3 (e:Nat) (l:List UInt8) (k:Nat) (h:l.length<=k):A7 e (l.drop k)=(e,0):=by
 rw[aA h];rfl
theorem LM (e:Nat) (l:List UInt8) (k:Nat) (h:k<l.length) (a:Aj l[k]=false):A7 e (l.drop k)=(e,0):=by
 rw[Aq l k h,A7,a];rfl
theorem J6 (e:Nat) (l:List UInt8) (k:Nat) (h:k<l.length) (a:Aj l[k]=true):A7 e (l.drop k)=((A7 (if e<10000 then e*10+(l[k].toNat-48) else e) (l.drop (k+1))).1,(A7 (if e<10000 then e*10+(l[k].toNat-48) else e) (l.drop (k+1))).2+1):=by
 rw[Aq l k h,A7,if_pos a]
def RF.ok (a:RF) (k:Nat):Prop:=a.mant<10^a.ndm/\a.ndm<=19/\a.nd<=k/\a.ndm<=a.nd /\ -(k:Int)<=a.dp/\a.dp<=k
theorem Cq {c:UInt8} (h:Aj c=true):48<=c.toNat/\c.toNat<=57:=by
 simp[Aj,C3] at h;omega
theorem AaG (a d:RF) (k:Nat) (c:UInt8) (h:a.ok k) (b:CF a c=some d):d.ok (k+1):=by
 obtain⟨e,f,j,g,l,m⟩:=h;unfold CF at b;split at b
 ·split at b
  ·cases b
  cases b;exact⟨e,f,by show a.nd<=k+1;omega,g,by show -((k+1:Nat):Int)<=(a.nd:Int);omega,by show (a.nd:Int)<=_;omega⟩
 split at b
 ·rename_i i
  have:=Cq i;split at b
  ·cases b;exact⟨e,f,by show a.nd<=k+1;omega,g,by show -((k+1:Nat):Int)<=a.dp-1;omega,by show a.dp-1<=_;omega⟩
  split at b
  ·cases b
   refine⟨?_,by show a.ndm+1<=19;omega,by show a.nd+1<=k+1;omega,by show a.ndm+1<=a.nd+1;omega,by show _<=a.dp;omega,by show a.dp<=_;omega⟩;show a.mant*10+(c.toNat-48)<10^(a.ndm+1);rw[Nat.pow_succ];omega
  cases b;exact⟨e,f,by show a.nd+1<=k+1;omega,by show a.ndm<=a.nd+1;omega,by show _<=a.dp;omega,by show a.dp<=_;omega⟩
 cases b
open Go.Proofs.Tryz
open Go.RowKit
theorem NZ {c:UInt8} (h:c∈BC):(65<=c.toNat/\c.toNat<=90->c=69)/\c≠105/\c≠73/\c≠110/\c≠78:=by
 simp only[BC,List.mem_cons,List.not_mem_nil,or_false] at h;rcases h with h | h | h | h | h | h | h | h | h | h | h | h | h | h | h<;>subst h<;>decide
theorem NH (s:ByteArray) (w:World) (m:s.size<=maxLen) (i:∀h:0<s.size,s[0]∈BC):Calls prog 106 #[.string s,.string { data := #[105,110,102,105,110,105,116,121] }] w fun e n=>e = .returned (.int .i64 0)/\w=n:=by
 have a:=Lib.hid i;clear i;unfold maxLen at m;by_cases g:s.size=0
 ·have k:s=aD:=by
   cases s with | mk d=>have:d = #[]:=aB g;subst this;rfl
  subst k
  go_in
  go_wp2;refine wp_loop_rounds 1 ?_;rw[rounds_succ];go_wp2;go_ret;exact⟨rfl,rfl⟩
 have b:0<s.size:=(by omega);have f:=NZ (a.out b)
 have c:(s[0].toNat=69)\/(¬ (65<=s[0].toNat/\s[0].toNat<=90)/\((s[0].toNat:Int) != 105)=true):=by
  by_cases h:65<=s[0].toNat/\s[0].toNat<=90
  ·exact .inl (by rw[f.1 h];rfl)
  exact .inr ⟨h,Cu (d:=105) f.2.1⟩
 have l:(({ data := #[105,110,102,105,110,105,116,121] }:ByteArray)[0]'(by decide)).toNat=105:=rfl;clear g f;by_cases o:8<=s.size<;>rcases c with c | ⟨c,j⟩
 ·go_in
  go_wp2;refine wp_loop_rounds 1 ?_;rw[rounds_succ];go_wp2;go_ret;exact⟨rfl,rfl⟩
 all_goals
  go_in
  go_wp2;refine wp_loop_rounds 1 ?_;rw[rounds_succ];go_wp2
  all_goals (go_ret;exact⟨rfl,rfl⟩)
theorem LX (x:Nat) (w:World):(callFunc 62 #[.float .f64 x]).run prog w = .ok (.value (.int .u64 x)) w:=by kernel_rfl
theorem KS (x:Nat) (w:World):(callFunc 63 #[.int .u64 x]).run prog w = .ok (.value (.float .f64 x)) w:=by kernel_rfl
def EU (x:Nat):Nat:=if FloatKind.f64.format.order x 0==some .eq then 0 else x
def Ls (x:Nat):Nat:=x%2^63
def KW (x:Nat):Bool:=FloatKind.f64.format.order (Ls x) 9218868437227405311==some .gt
theorem P2 (x:Nat) (w:World):Calls prog 67 #[.float .f64 x] w fun e b=>e = .returned (.float .f64 (EU x))/\w=b:=by
 cases h:(FloatKind.f64.format.order x 0==some .eq) with
 | true =>
   have a:Hid (EU x=0):=by unfold Hid;rw[EU,h];rfl
   go_in
   go_wp2;go_ret;exact⟨by rw[a.out];rfl,rfl⟩
 | false =>
   have a:Hid (EU x=x):=by unfold Hid;rw[EU,h];rfl
   go_in
   go_wp2;go_ret;exact⟨by rw[a.out];rfl,rfl⟩
theorem Q6 (x:Nat) (a:x<18446744073709551616):bits .andNot .u64 (x:Int) 9223372036854775808=(Ls x:Int):=by
 have h:=u64_andNot_nat x 9223372036854775808 a (by omega);rw[Ls,<- Nat.and_two_pow_sub_one_eq_mod];exact h
theorem Uc (x:Nat) (a:x<18446744073709551616) (w:World):(callFunc 63 #[.int .u64 (bits .andNot .u64 (x:Int) 9223372036854775808)]).run prog w = .ok (.value (.float .f64 (Ls x))) w:=by
 rw[Q6 x a];exact KS (Ls x) w
theorem Tp (x:Nat) (a:x<18446744073709551616) (w:World):Calls prog 60 #[.float .f64 x] w fun e b=>e = .returned (.float .f64 (Ls x))/\w=b:=by
 have c:=fun W=>LX x W;have d:=fun W=>Uc x a W;clear a
 go_in
 go_wp2_with (fail)
 go_ret;exact⟨rfl,rfl⟩
theorem PF (x:Nat) (a:x<18446744073709551616) (w:World):Calls prog 48 #[.float .f64 x,.int .i64 0] w fun e b=>e = .returned (.bool (KW x))/\w=b:=by
 have c:=Lib.hid (fun W=>Tp x a W);have d:Hid (KW x=(FloatKind.f64.format.order (Ls x) 9218868437227405311==some .gt)):=rfl;clear a
 go_in
 go_wp2_with (go_at_call 60;refine(c.out _).mono ?_;rintro e b ⟨rfl,rfl⟩)
 go_ret;exact⟨B3 d.out.symm,rfl⟩
theorem Dw (s:ByteArray) (w:World) (t:s.size<=maxLen) (j:∀k (h:k<s.size),s[k]∈BC):Calls prog 91 #[.string s] w fun e g=>e = .returned (.tuple #[.float .f64 0,.int .i64 0,.bool false])/\w=g:=by
 by_cases i:s.size=0
 ·have q:s=aD:=by
   cases s with | mk d=>have:d = #[]:=aB i;subst this;rfl
  subst q
  go_in
  go_wp2
  go_ret3
  exact⟨rfl,rfl⟩
 have c:0<s.size:=(by omega);have f:=(NZ (j 0 c)).2;have r:¬ s=aD:=fun e=>by subst e;simp at c
 have b1:((s[0].toNat:Int)==105)=false:=Ao (d:=105) f.1;have b2:((s[0].toNat:Int)==73)=false:=Ao (d:=73) f.2.1;have b3:((s[0].toNat:Int)==110)=false:=Ao (d:=110) f.2.2.1;have v:((s[0].toNat:Int)==78)=false:=Ao (d:=78) f.2.2.2;have bs:((s.size:Int)==0)=false:=beq_eq_false_iff_ne.2 (by omega);have u:s.extract 1 s.size=s.extract 1 s.size:=rfl
 have n:∀W,Calls prog 106 #[.string (s.extract 1 s.size),.string { data := #[105,110,102,105,110,105,116,121] }] W fun e g=>e = .returned (.int .i64 0)/\W=g:=fun W =>
  NH _ W (by have:(s.extract 1 s.size).size=s.size-1:=by simp
             omega) (fun h=>by
   have p:1<s.size:=by have:(s.extract 1 s.size).size=s.size-1:=by simp
                       omega
   have:=j 1 p
   rwa [show (s.extract 1 s.size)[0]=s[1] from by simp[ByteArray.getElem_extract]])
 have l:=Lib.hid n;clear n f j u;unfold maxLen at t;by_cases a:s[0]=43
 ·have o:((s[0].toNat:Int)==43)=true:=AH (d:=43) a
  have m:((s[0].toNat:Int)==45)=false:=Ao (d:=45) (by rw[a];decide);clear a i
  go_in
  go_wp2_with (go_at_call 106;refine(l.out _).mono ?_;rintro e g ⟨rfl,rfl⟩)
  go_ret3
  exact⟨rfl,rfl⟩
 have o:((s[0].toNat:Int)==43)=false:=Ao (d:=43) a;by_cases b:s[0]=45
 ·have m:((s[0].toNat:Int)==45)=true:=AH (d:=45) b
  clear a i b
  go_in
  go_wp2_with (go_at_call 106;refine(l.out _).mono ?_;rintro e g ⟨rfl,rfl⟩)
  go_ret3
  exact⟨rfl,rfl⟩
 have m:((s[0].toNat:Int)==45)=false:=Ao (d:=45) b;clear a i b
 go_in
 go_wp2
 go_ret3
 exact⟨rfl,rfl⟩
end Go.Proofs.YtjolfpcpcaocmaaGreatDoor
