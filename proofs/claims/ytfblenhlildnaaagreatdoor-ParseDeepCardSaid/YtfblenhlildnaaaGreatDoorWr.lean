/- Wr Pd Wh Pe Ws Ya -/
import Derived.Test.YtfblenhlildnaaaGreatDoorMp
import Derived.Test.YtfblenhlildnaaaGreatDoorPc
import Derived.Lib.Hide
import Derived.Lib.Strings
import Derived.Deep.DeepCutAuto
set_option maxRecDepth 100000
set_option maxHeartbeats 3200000
open Go.Lib renaming hid->aA
open List renaming drop_eq_nil_of_le->aB,length_drop->aC,drop_drop->aD,take_succ_cons->aE,contains_iff_mem->aG,contains_cons->aH,length_cons->aI
namespace Go.Proofs.YtfblenhlildnaaaGreatDoor
open Go.Proofs.Tryz
open Go.RowKit
theorem EY (c:Int) (w:World):Calls prog 77 #[.int .u8 c] w fun e a=>e = .returned (.bool (C3 c))/\w=a:=by
 go_in
 go_wp2
 all_goals (go_ret;exact⟨B3 (by simp[C3, *]<;>omega),rfl⟩)
theorem Ael (c:Int) (w:World):Calls prog 76 #[.int .u8 c] w fun e a=>e = .returned (.bool (DI c))/\w=a:=by
 go_in
 go_wp2
 all_goals (go_ret;refine⟨B3 ?_,rfl⟩)
 all_goals (rw[Bool.eq_iff_iff];simp[DI];omega)
def D2:List UInt8->List UInt8->List (List UInt8)
 | acc,[]=>[acc]
 | acc,c::r=>if c=32 then acc::D2 [] r else D2 (acc++[c]) r
theorem PY (T:List UInt8) (a:List UInt8) (k:Nat) (h:T.length<=k):D2 a (T.drop k)=[a]:=by rw[aB h];rfl
theorem PZ (T:List UInt8) (a:List UInt8) (k:Nat) (h:k<T.length) (b:T[k]=32):D2 a (T.drop k)=a::D2 [] (T.drop (k+1)):=by rw[Aq T k h,D2,if_pos b]
theorem RH (T:List UInt8) (f k:Nat) (a:f<=k) (h:k<T.length):Bc T f (k+1)=Bc T f k++[T[k]]:=by
 unfold Bc;rw[show k+1-f=(k-f)+1 by omega,List.take_add_one];congr 1;rw[List.getElem?_drop,show f+(k-f)=k by omega,List.getElem?_eq_getElem h];rfl
theorem Sa (T:List UInt8) (f k:Nat) (b:f<=k) (h:k<T.length) (a:T[k]≠32):D2 (Bc T f k) (T.drop k)=D2 (Bc T f (k+1)) (T.drop (k+1)):=by
 rw[Aq T k h,D2,if_neg a,RH T f k b h]
def Ts (T S:List UInt8):Bool:=(D2 [] T).contains S
theorem FI (T S:ByteArray) (w:World) (v:T.size<=140737488351232):Calls prog 104 #[.string T,.string S] w fun e u=>e = .returned (.bool (Ts T.data.toList S.data.toList))/\w=u:=by
 unfold Ts;obtain⟨B,q⟩:∃B,(D2 [] T.data.toList).contains S.data.toList=B:=⟨_,rfl⟩;rw[q]
 go_in
 go_wp2
 go_loop [5,6] (fun f n=>∃i k:Nat,f = .int .i64 i/\n = .int .i64 k/\((i<=k/\k<=T.size/\Hid ((D2 (Bc T.data.toList i k) (T.data.toList.drop k)).contains S.data.toList=B))\/(k=T.size+1/\Hid (B=false)))) (fun _ n=>T.size+1-(intOf n).toNat)
 case atStart=>exact⟨0,0,rfl,rfl,.inl ⟨by omega,by omega,by unfold Hid;rw[<- q];rfl⟩⟩
 clear q;obtain⟨i,k,rfl,rfl,⟨r,t,b⟩ | ⟨t,b⟩⟩:=hrel
 ·have j:Hid ((T.extract i k).data.toList=Bc T.data.toList i k):=Lib.extract_data _ _ _
  by_cases a:k=T.size
  ·have b0:((k:Int)==T.size)=true:=beq_iff_eq.2 (by omega)
   have c:=aA (PY T.data.toList (Bc T.data.toList i k) k (by rw[a];exact Nat.le_refl _));have o:=aA a;clear a
   cases l:((T.extract i k).toList==S.toList) with
   | true =>
     have g:Hid (B=true):=by
      rw[MV,MV] at l;unfold Hid;rw[<- b.out,c.out,<- j.out,eq_of_beq l];simp
     clear b c j;go_wp2;go_ret;exact⟨by rw[g.out];rfl,rfl⟩
   | false =>
     have g:Hid (B=false):=by
      rw[MV,MV] at l;unfold Hid;rw[<- b.out,c.out,<- j.out];simp only[aH,List.contains_nil,Bool.or_false];exact beq_eq_false_iff_ne.2 fun h=>(beq_eq_false_iff_ne.1 l) h.symm
     clear b c j;go_wp2;have a:=o.out;exact⟨⟨k+1,k+1,by go_num,by go_num,.inr ⟨by omega,g⟩⟩,by simp[intOf];omega⟩
  have s:k<T.size:=(by omega);have p:k<T.data.toList.length:=(by simpa using s);have b0:((k:Int)==T.size)=false:=beq_eq_false_iff_ne.2 (by omega);by_cases m:T[k]=32
  ·have b1:((T[k].toNat:Int)==32)=true:=AH (d:=32) m
   have c:=aA (PZ T.data.toList (Bc T.data.toList i k) k p m);clear m a
   cases l:((T.extract i k).toList==S.toList) with
   | true =>
     have g:Hid (B=true):=by
      rw[MV,MV] at l;unfold Hid;rw[<- b.out,c.out,<- j.out,eq_of_beq l];simp
     clear b c j;go_wp2;go_ret;exact⟨by rw[g.out];rfl,rfl⟩
   | false =>
     have g:Hid ((D2 (Bc T.data.toList (k+1) (k+1)) (T.data.toList.drop (k+1))).contains S.data.toList=B):=by
      rw[MV,MV] at l;unfold Hid;rw[<- b.out,c.out,<- j.out,KV,aH];rw[beq_eq_false_iff_ne.2 fun h=>(beq_eq_false_iff_ne.1 l) h.symm,Bool.false_or]
     clear b c j;go_wp2;exact⟨⟨k+1,k+1,by go_num,by go_num,.inl ⟨by omega,by omega,g⟩⟩,by simp[intOf];omega⟩
  have b1:((T[k].toNat:Int)==32)=false:=Ao (d:=32) m
  have g:Hid ((D2 (Bc T.data.toList i (k+1)) (T.data.toList.drop (k+1))).contains S.data.toList=B):=by
   unfold Hid;rw[<- b.out,Sa T.data.toList i k r p m]
  clear b j m a;go_wp2;exact⟨⟨i,k+1,by go_num,by go_num,.inl ⟨by omega,by omega,g⟩⟩,by simp[intOf];omega⟩
 have b0:decide ((k:Int)<=T.size)=false:=decide_eq_false (by omega);go_wp2;go_ret;exact⟨by rw[b.out];rfl,rfl⟩
def CU (l:List UInt8):Nat :=
 if (l.drop (Al Aj l)).head?=some 46 then
  (if Al Aj l=0/\Al Aj (l.drop (Al Aj l+1))=0 then 0 else Al Aj l+1+Al Aj (l.drop (Al Aj l+1)))
 else Al Aj l
def AR (l:List UInt8):Nat:=if l.head?=some 43\/l.head?=some 45 then 1 else 0
def GZ (l:List UInt8):Nat :=
 if l.head?=some 101\/l.head?=some 69 then
  (if Al Aj (l.drop (1+AR (l.drop 1)))=0 then 0 else 1+AR (l.drop 1)+Al Aj (l.drop (1+AR (l.drop 1))))
 else 0
def An (l:List UInt8):Nat:=if CU l=0 then 0 else CU l+GZ (l.drop (CU l))
theorem A' (l:List UInt8) (k:Nat) (h:k<l.length):(l.drop k).head?=some l[k]:=by rw[Aq l k h];rfl
theorem Bv (l:List UInt8) (k:Nat) (h:l.length<=k):(l.drop k).head?=none:=by rw[aB h];rfl
theorem RU (l:List UInt8):CU l<=l.length:=by
 have b:=Bp Aj l;have c:=Bp Aj (l.drop (Al Aj l+1));unfold CU;split
 ·rename_i h
  have:Al Aj l<l.length:=by
   rcases Nat.lt_or_ge (Al Aj l) l.length with a | a
   ·exact a
   rw[Bv l _ a] at h;cases h
  split
  ·omega
  simp only[aC] at c;omega
 exact b
theorem TG (l:List UInt8):GZ l<=l.length:=by
 have a:=Bp Aj (l.drop (1+AR (l.drop 1)));unfold GZ;split
 ·split
  ·omega
  simp only[aC] at a;omega
 omega
theorem D9 (l:List UInt8):An l<=l.length:=by
 have b:=RU l;have a:=TG (l.drop (CU l));unfold An;simp only[aC] at a;split<;>omega
theorem DP (s:ByteArray) (i d:Nat) (a:Int) (ha:a=(i:Int)) (w:World) (f:s.size<=maxLen) (c:i<=s.size) (b:i+Al Aj (s.data.toList.drop i)=d) :
  Calls prog 248 #[.string s,.int .i64 a] w fun e g=>e = .returned (.int .i64 d)/\w=g:=by
 subst ha;subst b;exact Na s i w f c
def Ip (l:List UInt8) (i:Nat) (m:Nat) (a:Bool):Prop:=i<=m/\m<=l.length/\(a=false->CU (l.drop i)=0)/\(a=true->i<m/\CU (l.drop i)=m-i)
theorem FP (l:List UInt8) (i m:Nat) (h:Ip l i m false):i+An (l.drop i)=i:=by
 rw[An,if_pos (h.2.2.1 rfl)];rfl
theorem D1 (l:List UInt8) (i m:Nat) (h:Ip l i m true):i+An (l.drop i)=m+GZ (l.drop m):=by
 obtain⟨b,a⟩:=h.2.2.2 rfl;rw[An,a,if_neg (by omega),aD,show i+(m-i)=m by omega];omega
theorem Gn (l:List UInt8) (m:Nat) (h:¬ ∃h:m<l.length,l[m]=101\/l[m]=69):GZ (l.drop m)=0:=by
 rw[GZ,if_neg];intro a;apply h;by_cases b:m<l.length
 ·rw[A' l m b] at a
  exact⟨b,by simpa using a⟩
 rw[Bv l m (by omega)] at a;simp at a
theorem ID (l:List UInt8) (m:Nat) (h:m<l.length) (a:l[m]=101\/l[m]=69) :
  GZ (l.drop m)=if Al Aj (l.drop (m+1+AR (l.drop (m+1))))=0 then 0 else 1+AR (l.drop (m+1))+Al Aj (l.drop (m+1+AR (l.drop (m+1)))):=by
 rw[GZ,A' l m h,if_pos (by rcases a with a | a<;>simp[a])];simp only[aD,Nat.add_assoc]
theorem Jd (l:List UInt8) (m:Nat) (h:¬ ∃h:m<l.length,l[m]=43\/l[m]=45):AR (l.drop m)=0:=by
 rw[AR,if_neg];intro a;apply h;by_cases b:m<l.length
 ·rw[A' l m b] at a
  exact⟨b,by simpa using a⟩
 rw[Bv l m (by omega)] at a;simp at a
theorem Je (l:List UInt8) (m:Nat) (h:m<l.length) (a:l[m]=43\/l[m]=45):AR (l.drop m)=1:=by
 rw[AR,A' l m h,if_pos (by rcases a with a | a<;>simp[a])]
theorem Mb (l:List UInt8) (i d:Nat) (f:i<=l.length) (c:i+Al Aj (l.drop i)=d) (h:¬ ∃h:d<l.length,l[d]=46):Ip l i d (decide (i<d)):=by
 have e:CU (l.drop i)=d-i:=by
  rw[CU,aD,c,if_neg]
  ·omega
  intro a;apply h;by_cases b:d<l.length
  ·rw[A' l d b] at a;exact⟨b,by simpa using a⟩
  rw[Bv l d (by omega)] at a;cases a
 have:=Bp Aj (l.drop i);simp only[aC] at this;refine⟨by omega,by omega,fun h=>?_,fun h=>?_⟩
 ·simp at h;omega
 simp at h;exact⟨h,e⟩
theorem Ma (l:List UInt8) (i d p:Nat) (b:i+Al Aj (l.drop i)=d) (h:d<l.length) (a:l[d]=46) (k:d+1+Al Aj (l.drop (d+1))=p) :
  (i<d\/d+1<p->Ip l i p true)/\(¬ i<d->¬ d+1<p->Ip l i d false):=by
 have e:=Bp Aj (l.drop (d+1));simp only[aC] at e
 have c:CU (l.drop i)=if Al Aj (l.drop i)=0/\Al Aj (l.drop (d+1))=0 then 0 else Al Aj (l.drop i)+1+Al Aj (l.drop (d+1)):=by
  rw[CU,aD,b,A' l d h,a,if_pos rfl,aD,<- Nat.add_assoc,b]
 constructor
 ·intro f
  refine⟨by omega,by omega,fun h=>by simp at h,fun _=>⟨by omega,?_⟩⟩;rw[c,if_neg (by omega)];omega
 intro g j;refine⟨by omega,by omega,fun _=>?_,fun h=>by simp at h⟩;rw[c,if_pos (by omega)]
theorem Mn (s:ByteArray) (i:Nat) (w:World) (X:s.size<=maxLen) (Y:i<=s.size):Calls prog 220 #[.string s,.int .i64 i] w fun e y=>e = .returned (.int .i64 (i+An (s.data.toList.drop i):Nat))/\w=y:=by
 obtain⟨d,T⟩:∃d,i+Al Aj (s.data.toList.drop i)=d:=⟨_,rfl⟩;have V:i<=s.data.toList.length:=(by simpa using Y);have b0:d<=s.size:=by have:=Bp Aj (s.data.toList.drop i);simp at this;omega
 have d0:i<=d:=(by omega);have O:=aA (fun W=>DP s i d i rfl W X Y T);have Z:=aA (Mb s.data.toList i d V T);have Q:=aA X;have HP:=aA (fun p h u S=>Ma s.data.toList i d p T h u S);clear T;unfold maxLen at X;by_cases z:∃h:d<s.size,s[d]=46
 ·obtain⟨K,u⟩:=z
  obtain⟨p,S⟩:∃p,d+1+Al Aj (s.data.toList.drop (d+1))=p:=⟨_,rfl⟩;have I:=aA (fun W=>DP s (d+1) p ((d:Int)+1) (by omega) W Q.out (by omega) S);have P:=aA (HP.out p (by simpa using K) u S);have a0:((s[d].toNat:Int)==46)=true:=AH (d:=46) u;have c0:d+1<=p:=(by omega);have f0:p<=s.size:=by have:=Bp Aj (s.data.toList.drop (d+1));simp at this;omega
  clear S u;by_cases N:i<d\/d+1<p
  ·have v:=aA (P.out.1 N)
   go_in
   go_upto_if 25 with(go_at_call 248;refine(O.out _).mono ?_;rintro e y ⟨rfl,rfl⟩)
   go_cut [5,6] (fun a wh wx=>a = .int .i64 p/\wh = .bool true/\wx=w)
   case first =>
    by_cases R:i<d
    ·go_wp2_with (go_at_call 248;refine(I.out _).mono ?_;rintro e y ⟨rfl,rfl⟩)
     go_meet;exact⟨rfl,rfl,rfl⟩
    have h2:d+1<p:=N.resolve_left R
    go_wp2_with (go_at_call 248;refine(I.out _).mono ?_;rintro e y ⟨rfl,rfl⟩)
    go_meet;exact⟨rfl,rfl,rfl⟩
   obtain⟨rfl,rfl,rfl⟩:=hcut;generalize hm:p=m at *;have e0:i<m:=(by omega);have o:=aA (D1 _ _ _ v.out);by_cases g:∃h:m<s.size,s[m]=101\/s[m]=69
   ·obtain⟨E,g⟩:=g
    have C:=aA (ID s.data.toList m (by simpa using E) g)
    have f:((s[m].toNat:Int)==101)=true\/(((s[m].toNat:Int)==101)=false/\((s[m].toNat:Int)==69)=true):=by
     rcases g with g | g
     ·exact .inl (AH (d:=101) g)
     exact .inr ⟨Ao (d:=101) (by rw[g];decide),AH (d:=69) g⟩
    have A:=aA f;clear g f;by_cases j:∃h:m+1<s.size,s[m+1]=43\/s[m+1]=45
    ·obtain⟨t,j⟩:=j
     have J:=aA (Je s.data.toList (m+1) (by simpa using t) j)
     have b:((s[m+1].toNat:Int)==43)=true\/(((s[m+1].toNat:Int)==43)=false/\((s[m+1].toNat:Int)==45)=true):=by
      rcases j with j | j
      ·exact .inl (AH (d:=43) j)
      exact .inr ⟨Ao (d:=43) (by rw[j];decide),AH (d:=45) j⟩
     have k:=aA b;clear j b;obtain⟨n,F⟩:∃n,m+1+1+Al Aj (s.data.toList.drop (m+1+1))=n:=⟨_,rfl⟩;have l:=aA (fun W=>DP s (m+1+1) n ((m:Int)+1+1) (by omega) W Q.out (by omega) F)
     have B:Hid (i+An (s.data.toList.drop i)=if m+1+1<n then n else m):=by
      unfold Hid;rw[o.out,C.out,J.out];by_cases D:Al Aj (s.data.toList.drop (m+1+1))=0
      ·rw[if_pos D,if_neg (by omega)];omega
      rw[if_neg D,if_pos (by omega)];omega
     have L:m+1+1<=n:=(by omega);have M:n<=s.size:=by have:=Bp Aj (s.data.toList.drop (m+1+1));simp at this;omega
     clear F;by_cases r:m+1+1<n
     ·have c:Hid (i+An (s.data.toList.drop i)=n):=by rw[B.out,if_pos r];exact rfl
      rcases A.out with f | ⟨f,x⟩<;>rcases k.out with b | ⟨b,q⟩ <;>
      ·go_wp2_with (first | (go_at_call 248;(with_reducible refine(l.out _).mono ?_);rintro e y ⟨rfl,rfl⟩))
       all_goals (go_ret;exact⟨AZ (by rw[c.out]),rfl⟩)
     have c:Hid (i+An (s.data.toList.drop i)=m):=by rw[B.out,if_neg r];exact rfl
     rcases A.out with f | ⟨f,x⟩<;>rcases k.out with b | ⟨b,q⟩ <;>
     ·go_wp2_with (first | (go_at_call 248;(with_reducible refine(l.out _).mono ?_);rintro e y ⟨rfl,rfl⟩))
      all_goals (go_ret;exact⟨AZ (by rw[c.out]),rfl⟩)
    have J:=aA (Jd s.data.toList (m+1) (fun⟨h,e⟩=>j ⟨by simpa using h,e⟩))
    have b:¬ m+1<s.size\/(∃h:m+1<s.size,((s[m+1].toNat:Int)==43)=false/\((s[m+1].toNat:Int)==45)=false):=by
     by_cases h:m+1<s.size
     ·exact .inr ⟨h,Ao (d:=43) (fun e=>j ⟨h,.inl e⟩),Ao (d:=45) (fun e=>j ⟨h,.inr e⟩)⟩
     exact .inl h
    have k:=aA b;clear j b;obtain⟨n,F⟩:∃n,m+1+Al Aj (s.data.toList.drop (m+1))=n:=⟨_,rfl⟩;have l:=aA (fun W=>DP s (m+1) n ((m:Int)+1) (by omega) W Q.out (by omega) F)
    have B:Hid (i+An (s.data.toList.drop i)=if m+1<n then n else m):=by
     unfold Hid;rw[o.out,C.out,J.out,Nat.add_zero];by_cases D:Al Aj (s.data.toList.drop (m+1))=0
     ·rw[if_pos D,if_neg (by omega)];omega
     rw[if_neg D,if_pos (by omega)];omega
    have L:m+1<=n:=(by omega);have M:n<=s.size:=by have:=Bp Aj (s.data.toList.drop (m+1));simp at this;omega
    clear F;by_cases r:m+1<n
    ·have c:Hid (i+An (s.data.toList.drop i)=n):=by rw[B.out,if_pos r];exact rfl
     rcases A.out with f | ⟨f,x⟩<;>rcases k.out with b | ⟨t,b,q⟩ <;>
     ·go_wp2_with (first | (go_at_call 248;(with_reducible refine(l.out _).mono ?_);rintro e y ⟨rfl,rfl⟩))
      all_goals (go_ret;exact⟨AZ (by rw[c.out]),rfl⟩)
    have c:Hid (i+An (s.data.toList.drop i)=m):=by rw[B.out,if_neg r];exact rfl
    rcases A.out with f | ⟨f,x⟩<;>rcases k.out with b | ⟨t,b,q⟩ <;>
    ·go_wp2_with (first | (go_at_call 248;(with_reducible refine(l.out _).mono ?_);rintro e y ⟨rfl,rfl⟩))
     all_goals (go_ret;exact⟨AZ (by rw[c.out]),rfl⟩)
   have C:=aA (Gn s.data.toList m (fun⟨h,e⟩=>g ⟨by simpa using h,e⟩));have c:Hid (i+An (s.data.toList.drop i)=m):=by rw[o.out,C.out];exact rfl
   have f:¬ m<s.size\/(∃h:m<s.size,((s[m].toNat:Int)==101)=false/\((s[m].toNat:Int)==69)=false):=by
    by_cases h:m<s.size
    ·exact .inr ⟨h,Ao (d:=101) (fun e=>g ⟨h,.inl e⟩),Ao (d:=69) (fun e=>g ⟨h,.inr e⟩)⟩
    exact .inl h
   have A:=aA f;clear g f;rcases A.out with f | ⟨E,f,x⟩ <;>
   ·go_wp2
    all_goals (go_ret;exact⟨AZ (by rw[c.out]),rfl⟩)
  have v:=aA (FP _ _ _ (P.out.2 (by omega) (by omega)));obtain⟨R,h2⟩:¬ i<d/\¬ d+1<p:=⟨by omega,by omega⟩;clear N
  go_in
  go_upto_if 25 with(go_at_call 248;refine(O.out _).mono ?_;rintro e y ⟨rfl,rfl⟩)
  go_wp2_with (go_at_call 248;refine(I.out _).mono ?_;rintro e y ⟨rfl,rfl⟩)
  go_ret;exact⟨AZ (by rw[v.out]),rfl⟩
 obtain⟨m,rfl⟩:∃m,m=d:=⟨d,rfl⟩;have v:=aA (Z.out (fun⟨h,e⟩=>z ⟨by simpa using h,e⟩))
 have H:¬ m<s.size\/(∃h:m<s.size,((s[m].toNat:Int)==46)=false):=by
  by_cases h:m<s.size
  ·exact .inr ⟨h,Ao (d:=46) (fun e=>z ⟨h,e⟩)⟩
  exact .inl h
 have G:=aA H;clear z H;by_cases R:i<m
 ·rw[decide_eq_true R] at v
  rcases G.out with u | ⟨K,u⟩
  ·have C:=aA (Gn s.data.toList m (fun⟨h,_⟩=>u (by simpa using h)))
   have c:Hid (i+An (s.data.toList.drop i)=m):=by rw[D1 _ _ _ v.out,C.out];exact rfl
   go_in
   go_wp2_with (go_at_call 248;refine(O.out _).mono ?_;rintro e y ⟨rfl,rfl⟩)
   all_goals (go_ret;exact⟨AZ (by rw[c.out]),rfl⟩)
  go_in
  go_upto_if 25 with(go_at_call 248;refine(O.out _).mono ?_;rintro e y ⟨rfl,rfl⟩)
  have o:=aA (D1 _ _ _ v.out);by_cases g:∃h:m<s.size,s[m]=101\/s[m]=69
  ·obtain⟨E,g⟩:=g
   have C:=aA (ID s.data.toList m (by simpa using E) g)
   have f:((s[m].toNat:Int)==101)=true\/(((s[m].toNat:Int)==101)=false/\((s[m].toNat:Int)==69)=true):=by
    rcases g with g | g
    ·exact .inl (AH (d:=101) g)
    exact .inr ⟨Ao (d:=101) (by rw[g];decide),AH (d:=69) g⟩
   have A:=aA f;clear g f;by_cases j:∃h:m+1<s.size,s[m+1]=43\/s[m+1]=45
   ·obtain⟨t,j⟩:=j
    have J:=aA (Je s.data.toList (m+1) (by simpa using t) j)
    have b:((s[m+1].toNat:Int)==43)=true\/(((s[m+1].toNat:Int)==43)=false/\((s[m+1].toNat:Int)==45)=true):=by
     rcases j with j | j
     ·exact .inl (AH (d:=43) j)
     exact .inr ⟨Ao (d:=43) (by rw[j];decide),AH (d:=45) j⟩
    have k:=aA b;clear j b;obtain⟨n,F⟩:∃n,m+1+1+Al Aj (s.data.toList.drop (m+1+1))=n:=⟨_,rfl⟩;have l:=aA (fun W=>DP s (m+1+1) n ((m:Int)+1+1) (by omega) W Q.out (by omega) F)
    have B:Hid (i+An (s.data.toList.drop i)=if m+1+1<n then n else m):=by
     unfold Hid;rw[o.out,C.out,J.out];by_cases D:Al Aj (s.data.toList.drop (m+1+1))=0
     ·rw[if_pos D,if_neg (by omega)];omega
     rw[if_neg D,if_pos (by omega)];omega
    have L:m+1+1<=n:=(by omega);have M:n<=s.size:=by have:=Bp Aj (s.data.toList.drop (m+1+1));simp at this;omega
    clear F;by_cases r:m+1+1<n
    ·have c:Hid (i+An (s.data.toList.drop i)=n):=by rw[B.out,if_pos r];exact rfl
     rcases A.out with f | ⟨f,x⟩<;>rcases k.out with b | ⟨b,q⟩ <;>
     ·go_wp2_with (first | (go_at_call 248;(with_reducible refine(l.out _).mono ?_);rintro e y ⟨rfl,rfl⟩))
      all_goals (go_ret;exact⟨AZ (by rw[c.out]),rfl⟩)
    have c:Hid (i+An (s.data.toList.drop i)=m):=by rw[B.out,if_neg r];exact rfl
    rcases A.out with f | ⟨f,x⟩<;>rcases k.out with b | ⟨b,q⟩ <;>
    ·go_wp2_with (first | (go_at_call 248;(with_reducible refine(l.out _).mono ?_);rintro e y ⟨rfl,rfl⟩))
     all_goals (go_ret;exact⟨AZ (by rw[c.out]),rfl⟩)
   have J:=aA (Jd s.data.toList (m+1) (fun⟨h,e⟩=>j ⟨by simpa using h,e⟩))
   have b:¬ m+1<s.size\/(∃h:m+1<s.size,((s[m+1].toNat:Int)==43)=false/\((s[m+1].toNat:Int)==45)=false):=by
    by_cases h:m+1<s.size
    ·exact .inr ⟨h,Ao (d:=43) (fun e=>j ⟨h,.inl e⟩),Ao (d:=45) (fun e=>j ⟨h,.inr e⟩)⟩
    exact .inl h
   have k:=aA b;clear j b;obtain⟨n,F⟩:∃n,m+1+Al Aj (s.data.toList.drop (m+1))=n:=⟨_,rfl⟩;have l:=aA (fun W=>DP s (m+1) n ((m:Int)+1) (by omega) W Q.out (by omega) F)
   have B:Hid (i+An (s.data.toList.drop i)=if m+1<n then n else m):=by
    unfold Hid;rw[o.out,C.out,J.out,Nat.add_zero];by_cases D:Al Aj (s.data.toList.drop (m+1))=0
    ·rw[if_pos D,if_neg (by omega)];omega
    rw[if_neg D,if_pos (by omega)];omega
   have L:m+1<=n:=(by omega);have M:n<=s.size:=by have:=Bp Aj (s.data.toList.drop (m+1));simp at this;omega
   clear F;by_cases r:m+1<n
   ·have c:Hid (i+An (s.data.toList.drop i)=n):=by rw[B.out,if_pos r];exact rfl
    rcases A.out with f | ⟨f,x⟩<;>rcases k.out with b | ⟨t,b,q⟩ <;>
    ·go_wp2_with (first | (go_at_call 248;(with_reducible refine(l.out _).mono ?_);rintro e y ⟨rfl,rfl⟩))
     all_goals (go_ret;exact⟨AZ (by rw[c.out]),rfl⟩)
   have c:Hid (i+An (s.data.toList.drop i)=m):=by rw[B.out,if_neg r];exact rfl
   rcases A.out with f | ⟨f,x⟩<;>rcases k.out with b | ⟨t,b,q⟩ <;>
   ·go_wp2_with (first | (go_at_call 248;(with_reducible refine(l.out _).mono ?_);rintro e y ⟨rfl,rfl⟩))
    all_goals (go_ret;exact⟨AZ (by rw[c.out]),rfl⟩)
  have C:=aA (Gn s.data.toList m (fun⟨h,e⟩=>g ⟨by simpa using h,e⟩));have c:Hid (i+An (s.data.toList.drop i)=m):=by rw[o.out,C.out];exact rfl
  have f:¬ m<s.size\/(∃h:m<s.size,((s[m].toNat:Int)==101)=false/\((s[m].toNat:Int)==69)=false):=by
   by_cases h:m<s.size
   ·exact .inr ⟨h,Ao (d:=101) (fun e=>g ⟨h,.inl e⟩),Ao (d:=69) (fun e=>g ⟨h,.inr e⟩)⟩
   exact .inl h
  have A:=aA f;clear g f;rcases A.out with f | ⟨E,f,x⟩ <;>
  ·go_wp2
   all_goals (go_ret;exact⟨AZ (by rw[c.out]),rfl⟩)
 rw[decide_eq_false R] at v;have U:=aA (FP _ _ _ v.out);rcases G.out with u | ⟨K,u⟩ <;>
 ·go_in
  go_wp2_with (go_at_call 248;refine(O.out _).mono ?_;rintro e y ⟨rfl,rfl⟩)
  go_ret;exact⟨AZ (by rw[U.out]),rfl⟩
def BC:List UInt8:=[43,45,46,48,49,50,51,52,53,54,55,56,57,69,101]
structure RF where
 mant:Nat
 nd:Nat
 ndm:Nat
 dp:Int
 sd:Bool
 sg:Bool
 tr:Bool
def RF.init:RF:=⟨0,0,0,0,false,false,false⟩
def CF (a:RF) (c:UInt8):Option RF :=
 if c=46 then (if a.sd=true then none else some { a with sd:=true,dp:=a.nd })
 else if Aj c=true then
  (if c=48/\a.nd=0 then some { a with sg:=true,dp:=a.dp-1 }
   else if a.ndm<19 then some { a with sg:=true,nd:=a.nd+1,mant:=a.mant*10+(c.toNat-48),ndm:=a.ndm+1 }
   else some { a with sg:=true,nd:=a.nd+1,tr:=if c=48 then a.tr else true })
 else none
def Bq:RF->List UInt8->RF×Nat
 | st,[]=>(st,0)
 | st,c::r=>match CF st c with
   | none=>(st,0)
   | some a=>((Bq a r).1,(Bq a r).2+1)
def A7:Nat->List UInt8->Nat×Nat
 | e,[]=>(e,0)
 | e,c::r=>if Aj c=true then ((A7 (if e<10000 then e*10+(c.toNat-48) else e) r).1,(A7 (if e<10000 then e*10+(c.toNat-48) else e) r).2+1) else (e,0)
structure Lm where
 mant:Nat
 exp:Int
 neg:Bool
 tr:Bool
 i:Nat
 ok:Bool
def Dc (neg:Bool) (a:RF) (dp:Int) (i:Nat):Lm:=⟨a.mant,if a.mant=0 then 0 else dp-a.ndm,neg,a.tr,i,true⟩
def GB (l:List UInt8) (neg:Bool) (a:RF) (dp:Int) (k:Nat):Lm :=
 if l.length<=k then ⟨a.mant,0,neg,a.tr,k,false⟩
 else if Al Aj (l.drop (k+AR (l.drop k)))=0 then ⟨a.mant,0,neg,a.tr,k+AR (l.drop k),false⟩
 else Dc neg a (dp+(A7 0 (l.drop (k+AR (l.drop k)))).1*(if (l.drop k).head?=some 45 then -1 else 1)) (k+AR (l.drop k)+(A7 0 (l.drop (k+AR (l.drop k)))).2)
def Ek (l:List UInt8) (neg:Bool) (a:RF) (i:Nat):Lm :=
 if a.sg=false then ⟨a.mant,0,neg,a.tr,i,false⟩
 else if (l.drop i).head?=some 101\/(l.drop i).head?=some 69 then GB l neg a (if a.sd=true then a.dp else a.nd) (i+1)
 else Dc neg a (if a.sd=true then a.dp else a.nd) i
def rf (l:List UInt8):Lm :=
 if l=[] then ⟨0,0,false,false,0,false⟩
 else Ek l (decide (l.head?=some 45)) (Bq .init (l.drop (AR l))).1 (AR l+(Bq .init (l.drop (AR l))).2)
theorem NP (a:RF) (l:List UInt8) (k:Nat) (h:l.length<=k):Bq a (l.drop k)=(a,0):=by
 rw[aB h];rfl
theorem Qa (a:RF) (l:List UInt8) (k:Nat) (h:k<l.length) (b:CF a l[k]=none):Bq a (l.drop k)=(a,0):=by
 rw[Aq l k h,Bq,b]
theorem NQ (b a:RF) (l:List UInt8) (k:Nat) (h:k<l.length) (c:CF b l[k]=some a):Bq b (l.drop k)=((Bq a (l.drop (k+1))).1,(Bq a (l.drop (k+1))).2+1):=by
 rw[Aq l k h,Bq,c]
theorem J3 (e:Nat) (l:List UInt8) (k:Nat) (h:l.length<=k):A7 e (l.drop k)=(e,0):=by
 rw[aB h];rfl
theorem LM (e:Nat) (l:List UInt8) (k:Nat) (h:k<l.length) (a:Aj l[k]=false):A7 e (l.drop k)=(e,0):=by
 rw[Aq l k h,A7,a];rfl
theorem J6 (e:Nat) (l:List UInt8) (k:Nat) (h:k<l.length) (a:Aj l[k]=true):A7 e (l.drop k)=((A7 (if e<10000 then e*10+(l[k].toNat-48) else e) (l.drop (k+1))).1,(A7 (if e<10000 then e*10+(l[k].toNat-48) else e) (l.drop (k+1))).2+1):=by
 rw[Aq l k h,A7,if_pos a]
def RF.ok (a:RF) (k:Nat):Prop:=a.mant<10^a.ndm/\a.ndm<=19/\a.nd<=k/\a.ndm<=a.nd /\ -(k:Int)<=a.dp/\a.dp<=k
theorem Cq {c:UInt8} (h:Aj c=true):48<=c.toNat/\c.toNat<=57:=by
 simp[Aj,C3] at h;omega
theorem AaG (a d:RF) (k:Nat) (c:UInt8) (h:a.ok k) (b:CF a c=some d):d.ok (k+1):=by
 obtain⟨e,f,j,g,l,m⟩:=h;unfold CF at b;split at b
 ·split at b
  ·cases b
  cases b;exact⟨e,f,by show a.nd<=k+1;omega,g,by show -((k+1:Nat):Int)<=(a.nd:Int);omega,by show (a.nd:Int)<=_;omega⟩
 split at b
 ·rename_i i
  have:=Cq i;split at b
  ·cases b;exact⟨e,f,by show a.nd<=k+1;omega,g,by show -((k+1:Nat):Int)<=a.dp-1;omega,by show a.dp-1<=_;omega⟩
  split at b
  ·cases b
   refine⟨?_,by show a.ndm+1<=19;omega,by show a.nd+1<=k+1;omega,by show a.ndm+1<=a.nd+1;omega,by show _<=a.dp;omega,by show a.dp<=_;omega⟩;show a.mant*10+(c.toNat-48)<10^(a.ndm+1);rw[Nat.pow_succ];omega
  cases b;exact⟨e,f,by show a.nd+1<=k+1;omega,by show a.ndm<=a.nd+1;omega,by show _<=a.dp;omega,by show a.dp<=_;omega⟩
 cases b
theorem Fy (s:ByteArray) (w:World):Calls prog 78 #[.string s] w fun e a=>e = .returned (.bool (Dj s.data.toList))/\w=a:=by
 go_in
 go_wp2_with (go_at_call 104;refine(FI _ _ _ (by decide)).mono ?_;rintro e a ⟨rfl,rfl⟩)
 go_ret;refine⟨B3 ?_,rfl⟩;unfold Ts Dj;refine congrArg (fun x=>List.contains x s.data.toList) ?_;kernel_rfl
theorem AcG (s:ByteArray) (w:World):Calls prog 79 #[.string s] w fun e a=>e = .returned (.bool (AbT s.data.toList))/\w=a:=by
 go_in
 go_wp2_with (go_at_call 104;refine(FI _ _ _ (by decide)).mono ?_;rintro e a ⟨rfl,rfl⟩)
 go_ret;refine⟨B3 ?_,rfl⟩;unfold Ts AbT;refine congrArg (fun x=>List.contains x s.data.toList) ?_;kernel_rfl
def BG:List UInt8->List UInt8
 | []=>[]
 | [c]=>[c]
 | c::d::r=>if c=92 then (if d=47 then d::BG r else 92::d::BG r) else c::BG (d::r)
theorem FH (q:UInt8):∀(N:Nat) (l:List UInt8) (n:Nat),l.length<=N->BY q l=some n->BG (l.take n)=Df (l.take n)
 | _,[],n,_,h=>by simp[BY] at h
 | 0,c::r,n,hN,_=>by simp at hN
 | N+1,c::r,n,hN,h=>by
   rw[BY.eq_def] at h;dsimp only at h;simp only[aI] at hN;split at h
   ·cases h
   split at h
   ·cases h;rfl
   split at h
   ·next h92 =>
    cases r with
    | nil=>cases h
    | cons d e =>
      dsimp only at h;split at h
      ·cases h
      obtain⟨m,b,rfl⟩:=Option.map_eq_some_iff.1 h;simp only[aI] at hN;have a:=FH q N e m (by omega) b;rw[aE,aE,BG,Df,if_pos h92,if_pos h92,a]
   next h92 =>
   obtain⟨m,b,rfl⟩:=Option.map_eq_some_iff.1 h;have a:=FH q N r m (by omega) b;rw[aE]
   cases f:r.take m with
   | nil=>rw[BG,Df,if_neg h92]
   | cons d e =>
     rw[f] at a;rw[BG,Df,if_neg h92,if_neg h92,a]
theorem Tc {q:UInt8} {l:List UInt8} {k t:Nat} (h:AF q l k=(t:Int)):BG (Bc l k t)=Df (Bc l k t):=by
 unfold AF at h;split at h
 ·next n hn =>
  have:k+n=t:=(by omega);unfold Bc;rw[show t-k=n by omega];exact FH q _ _ n (Nat.le_refl _) hn
 omega
theorem Ib {L M:List (List UInt8)} (a:∀x∈L,x∈M) (b:∀x∈M,x∈L) (T:List UInt8):L.contains T=M.contains T:=by
 rw[Bool.eq_iff_iff,aG,aG];exact⟨a T,b T⟩
theorem Vf (T:List UInt8):Ts [38,38,32,124,124,32,43,43,32,45,45,32,43,61,32,45,61,32,42,61,32,47,61,32,37,61,32,94,61,32,61,61,32,60,61,32,62,61,32,33,61,32,33,126,32,62,62] T=He.contains T:=by
 unfold Ts;exact Ib (by decide +kernel) (by decide +kernel) T
theorem Ve (c:UInt8):Ts [123,32,125,32,40,32,41,32,91,32,93,32,59,32,44,32,43,32,45,32,42,32,47,32,37,32,94,32,33,32,62,32,60,32,124,32,63,32,58,32,126,32,36,32,61] [c]=Mo.contains c:=by
 have a:∀k:Fin 256,Ts [123,32,125,32,40,32,41,32,91,32,93,32,59,32,44,32,43,32,45,32,42,32,47,32,37,32,94,32,33,32,62,32,60,32,124,32,63,32,58,32,126,32,36,32,61] [⟨⟨k⟩⟩]=Mo.contains ⟨⟨k⟩⟩:=(by decide +kernel);exact a c.toBitVec.toFin
end Go.Proofs.YtfblenhlildnaaaGreatDoor
