/- Wh -/
import Derived.Test.YtjolfpcpcaocmaaGreatDoorMp
import Derived.Test.YtjolfpcpcaocmaaGreatDoorPd
import Derived.Deep.DeepCutAuto
set_option maxRecDepth 100000
set_option maxHeartbeats 3200000
open Go.Lib renaming hid->aA
open List renaming drop_drop->aB,length_drop->aC
namespace Go.Proofs.YtjolfpcpcaocmaaGreatDoor
open Go.Proofs.Tryz
open Go.RowKit
theorem DP (s:ByteArray) (i d:Nat) (a:Int) (ha:a=(i:Int)) (w:World) (f:s.size<=maxLen) (c:i<=s.size) (b:i+Al Aj (s.data.toList.drop i)=d) :
  Calls prog 72 #[.string s,.int .i64 a] w fun e g=>e = .returned (.int .i64 d)/\w=g:=by
 subst ha;subst b;exact Na s i w f c
def Ip (l:List UInt8) (i:Nat) (m:Nat) (a:Bool):Prop:=i<=m/\m<=l.length/\(a=false->CU (l.drop i)=0)/\(a=true->i<m/\CU (l.drop i)=m-i)
theorem FP (l:List UInt8) (i m:Nat) (h:Ip l i m false):i+An (l.drop i)=i:=by
 rw[An,if_pos (h.2.2.1 rfl)];rfl
theorem D1 (l:List UInt8) (i m:Nat) (h:Ip l i m true):i+An (l.drop i)=m+GZ (l.drop m):=by
 obtain⟨b,a⟩:=h.2.2.2 rfl;rw[An,a,if_neg (by omega),aB,show i+(m-i)=m by omega];omega
theorem Gn (l:List UInt8) (m:Nat) (h:¬ ∃h:m<l.length,l[m]=101\/l[m]=69):GZ (l.drop m)=0:=by
 rw[GZ,if_neg];intro a;apply h;by_cases b:m<l.length
 ·rw[A' l m b] at a
  exact⟨b,by simpa using a⟩
 rw[Bv l m (by omega)] at a;simp at a
theorem ID (l:List UInt8) (m:Nat) (h:m<l.length) (a:l[m]=101\/l[m]=69) :
  GZ (l.drop m)=if Al Aj (l.drop (m+1+AR (l.drop (m+1))))=0 then 0 else 1+AR (l.drop (m+1))+Al Aj (l.drop (m+1+AR (l.drop (m+1)))):=by
 rw[GZ,A' l m h,if_pos (by rcases a with a | a<;>simp[a])];simp only[aB,Nat.add_assoc]
theorem Jd (l:List UInt8) (m:Nat) (h:¬ ∃h:m<l.length,l[m]=43\/l[m]=45):AR (l.drop m)=0:=by
 rw[AR,if_neg];intro a;apply h;by_cases b:m<l.length
 ·rw[A' l m b] at a
  exact⟨b,by simpa using a⟩
 rw[Bv l m (by omega)] at a;simp at a
theorem Je (l:List UInt8) (m:Nat) (h:m<l.length) (a:l[m]=43\/l[m]=45):AR (l.drop m)=1:=by
 rw[AR,A' l m h,if_pos (by rcases a with a | a<;>simp[a])]
theorem Mb (l:List UInt8) (i d:Nat) (f:i<=l.length) (c:i+Al Aj (l.drop i)=d) (h:¬ ∃h:d<l.length,l[d]=46):Ip l i d (decide (i<d)):=by
 have e:CU (l.drop i)=d-i:=by
  rw[CU,aB,c,if_neg]
  ·omega
  intro a;apply h;by_cases b:d<l.length
  ·rw[A' l d b] at a;exact⟨b,by simpa using a⟩
  rw[Bv l d (by omega)] at a;cases a
 have:=Bp Aj (l.drop i);simp only[aC] at this;refine⟨by omega,by omega,fun h=>?_,fun h=>?_⟩
 ·simp at h;omega
 simp at h;exact⟨h,e⟩
theorem Ma (l:List UInt8) (i d p:Nat) (b:i+Al Aj (l.drop i)=d) (h:d<l.length) (a:l[d]=46) (k:d+1+Al Aj (l.drop (d+1))=p) :
  (i<d\/d+1<p->Ip l i p true)/\(¬ i<d->¬ d+1<p->Ip l i d false):=by
 have e:=Bp Aj (l.drop (d+1));simp only[aC] at e
 have c:CU (l.drop i)=if Al Aj (l.drop i)=0/\Al Aj (l.drop (d+1))=0 then 0 else Al Aj (l.drop i)+1+Al Aj (l.drop (d+1)):=by
  rw[CU,aB,b,A' l d h,a,if_pos rfl,aB,<- Nat.add_assoc,b]
 constructor
 ·intro f
  refine⟨by omega,by omega,fun h=>by simp at h,fun _=>⟨by omega,?_⟩⟩;rw[c,if_neg (by omega)];omega
 intro g j;refine⟨by omega,by omega,fun _=>?_,fun h=>by simp at h⟩;rw[c,if_pos (by omega)]
theorem Mn (s:ByteArray) (i:Nat) (w:World) (X:s.size<=maxLen) (Y:i<=s.size):Calls prog 65 #[.string s,.int .i64 i] w fun e y=>e = .returned (.int .i64 (i+An (s.data.toList.drop i):Nat))/\w=y:=by
 obtain⟨d,T⟩:∃d,i+Al Aj (s.data.toList.drop i)=d:=⟨_,rfl⟩;have V:i<=s.data.toList.length:=(by simpa using Y);have b0:d<=s.size:=by have:=Bp Aj (s.data.toList.drop i);simp at this;omega
 have d0:i<=d:=(by omega);have O:=aA (fun W=>DP s i d i rfl W X Y T);have Z:=aA (Mb s.data.toList i d V T);have Q:=aA X;have HP:=aA (fun p h u S=>Ma s.data.toList i d p T h u S);clear T;unfold maxLen at X;by_cases z:∃h:d<s.size,s[d]=46
 ·obtain⟨K,u⟩:=z
  obtain⟨p,S⟩:∃p,d+1+Al Aj (s.data.toList.drop (d+1))=p:=⟨_,rfl⟩;have I:=aA (fun W=>DP s (d+1) p ((d:Int)+1) (by omega) W Q.out (by omega) S);have P:=aA (HP.out p (by simpa using K) u S);have a0:((s[d].toNat:Int)==46)=true:=AH (d:=46) u;have c0:d+1<=p:=(by omega);have f0:p<=s.size:=by have:=Bp Aj (s.data.toList.drop (d+1));simp at this;omega
  clear S u;by_cases N:i<d\/d+1<p
  ·have v:=aA (P.out.1 N)
   go_in
   go_upto_if 25 with(go_at_call 72;refine(O.out _).mono ?_;rintro e y ⟨rfl,rfl⟩)
   go_cut [5,6] (fun a wh wx=>a = .int .i64 p/\wh = .bool true/\wx=w)
   case first =>
    by_cases R:i<d
    ·go_wp2_with (go_at_call 72;refine(I.out _).mono ?_;rintro e y ⟨rfl,rfl⟩)
     go_meet;exact⟨rfl,rfl,rfl⟩
    have h2:d+1<p:=N.resolve_left R
    go_wp2_with (go_at_call 72;refine(I.out _).mono ?_;rintro e y ⟨rfl,rfl⟩)
    go_meet;exact⟨rfl,rfl,rfl⟩
   obtain⟨rfl,rfl,rfl⟩:=hcut;generalize hm:p=m at *;have e0:i<m:=(by omega);have o:=aA (D1 _ _ _ v.out);by_cases g:∃h:m<s.size,s[m]=101\/s[m]=69
   ·obtain⟨E,g⟩:=g
    have C:=aA (ID s.data.toList m (by simpa using E) g)
    have f:((s[m].toNat:Int)==101)=true\/(((s[m].toNat:Int)==101)=false/\((s[m].toNat:Int)==69)=true):=by
     rcases g with g | g
     ·exact .inl (AH (d:=101) g)
     exact .inr ⟨Ao (d:=101) (by rw[g];decide),AH (d:=69) g⟩
    have A:=aA f;clear g f;by_cases j:∃h:m+1<s.size,s[m+1]=43\/s[m+1]=45
    ·obtain⟨t,j⟩:=j
     have J:=aA (Je s.data.toList (m+1) (by simpa using t) j)
     have b:((s[m+1].toNat:Int)==43)=true\/(((s[m+1].toNat:Int)==43)=false/\((s[m+1].toNat:Int)==45)=true):=by
      rcases j with j | j
      ·exact .inl (AH (d:=43) j)
      exact .inr ⟨Ao (d:=43) (by rw[j];decide),AH (d:=45) j⟩
     have k:=aA b;clear j b;obtain⟨n,F⟩:∃n,m+1+1+Al Aj (s.data.toList.drop (m+1+1))=n:=⟨_,rfl⟩;have l:=aA (fun W=>DP s (m+1+1) n ((m:Int)+1+1) (by omega) W Q.out (by omega) F)
     have B:Hid (i+An (s.data.toList.drop i)=if m+1+1<n then n else m):=by
      unfold Hid;rw[o.out,C.out,J.out];by_cases D:Al Aj (s.data.toList.drop (m+1+1))=0
      ·rw[if_pos D,if_neg (by omega)];omega
      rw[if_neg D,if_pos (by omega)];omega
     have L:m+1+1<=n:=(by omega);have M:n<=s.size:=by have:=Bp Aj (s.data.toList.drop (m+1+1));simp at this;omega
     clear F;by_cases r:m+1+1<n
     ·have c:Hid (i+An (s.data.toList.drop i)=n):=by rw[B.out,if_pos r];exact rfl
      rcases A.out with f | ⟨f,x⟩<;>rcases k.out with b | ⟨b,q⟩ <;>
      ·go_wp2_with (first | (go_at_call 72;(with_reducible refine(l.out _).mono ?_);rintro e y ⟨rfl,rfl⟩))
       all_goals (go_ret;exact⟨AZ (by rw[c.out]),rfl⟩)
     have c:Hid (i+An (s.data.toList.drop i)=m):=by rw[B.out,if_neg r];exact rfl
     rcases A.out with f | ⟨f,x⟩<;>rcases k.out with b | ⟨b,q⟩ <;>
     ·go_wp2_with (first | (go_at_call 72;(with_reducible refine(l.out _).mono ?_);rintro e y ⟨rfl,rfl⟩))
      all_goals (go_ret;exact⟨AZ (by rw[c.out]),rfl⟩)
    have J:=aA (Jd s.data.toList (m+1) (fun⟨h,e⟩=>j ⟨by simpa using h,e⟩))
    have b:¬ m+1<s.size\/(∃h:m+1<s.size,((s[m+1].toNat:Int)==43)=false/\((s[m+1].toNat:Int)==45)=false):=by
     by_cases h:m+1<s.size
     ·exact .inr ⟨h,Ao (d:=43) (fun e=>j ⟨h,.inl e⟩),Ao (d:=45) (fun e=>j ⟨h,.inr e⟩)⟩
     exact .inl h
    have k:=aA b;clear j b;obtain⟨n,F⟩:∃n,m+1+Al Aj (s.data.toList.drop (m+1))=n:=⟨_,rfl⟩;have l:=aA (fun W=>DP s (m+1) n ((m:Int)+1) (by omega) W Q.out (by omega) F)
    have B:Hid (i+An (s.data.toList.drop i)=if m+1<n then n else m):=by
     unfold Hid;rw[o.out,C.out,J.out,Nat.add_zero];by_cases D:Al Aj (s.data.toList.drop (m+1))=0
     ·rw[if_pos D,if_neg (by omega)];omega
     rw[if_neg D,if_pos (by omega)];omega
    have L:m+1<=n:=(by omega);have M:n<=s.size:=by have:=Bp Aj (s.data.toList.drop (m+1));simp at this;omega
    clear F;by_cases r:m+1<n
    ·have c:Hid (i+An (s.data.toList.drop i)=n):=by rw[B.out,if_pos r];exact rfl
     rcases A.out with f | ⟨f,x⟩<;>rcases k.out with b | ⟨t,b,q⟩ <;>
     ·go_wp2_with (first | (go_at_call 72;(with_reducible refine(l.out _).mono ?_);rintro e y ⟨rfl,rfl⟩))
      all_goals (go_ret;exact⟨AZ (by rw[c.out]),rfl⟩)
    have c:Hid (i+An (s.data.toList.drop i)=m):=by rw[B.out,if_neg r];exact rfl
    rcases A.out with f | ⟨f,x⟩<;>rcases k.out with b | ⟨t,b,q⟩ <;>
    ·go_wp2_with (first | (go_at_call 72;(with_reducible refine(l.out _).mono ?_);rintro e y ⟨rfl,rfl⟩))
     all_goals (go_ret;exact⟨AZ (by rw[c.out]),rfl⟩)
   have C:=aA (Gn s.data.toList m (fun⟨h,e⟩=>g ⟨by simpa using h,e⟩));have c:Hid (i+An (s.data.toList.drop i)=m):=by rw[o.out,C.out];exact rfl
   have f:¬ m<s.size\/(∃h:m<s.size,((s[m].toNat:Int)==101)=false/\((s[m].toNat:Int)==69)=false):=by
    by_cases h:m<s.size
    ·exact .inr ⟨h,Ao (d:=101) (fun e=>g ⟨h,.inl e⟩),Ao (d:=69) (fun e=>g ⟨h,.inr e⟩)⟩
    exact .inl h
   have A:=aA f;clear g f;rcases A.out with f | ⟨E,f,x⟩ <;>
   ·go_wp2
    all_goals (go_ret;exact⟨AZ (by rw[c.out]),rfl⟩)
  have v:=aA (FP _ _ _ (P.out.2 (by omega) (by omega)));obtain⟨R,h2⟩:¬ i<d/\¬ d+1<p:=⟨by omega,by omega⟩;clear N
  go_in
  go_upto_if 25 with(go_at_call 72;refine(O.out _).mono ?_;rintro e y ⟨rfl,rfl⟩)
  go_wp2_with (go_at_call 72;refine(I.out _).mono ?_;rintro e y ⟨rfl,rfl⟩)
  go_ret;exact⟨AZ (by rw[v.out]),rfl⟩
 obtain⟨m,rfl⟩:∃m,m=d:=⟨d,rfl⟩;have v:=aA (Z.out (fun⟨h,e⟩=>z ⟨by simpa using h,e⟩))
 have H:¬ m<s.size\/(∃h:m<s.size,((s[m].toNat:Int)==46)=false):=by
  by_cases h:m<s.size
  ·exact .inr ⟨h,Ao (d:=46) (fun e=>z ⟨h,e⟩)⟩
  exact .inl h
 have G:=aA H;clear z H;by_cases R:i<m
 ·rw[decide_eq_true R] at v
  rcases G.out with u | ⟨K,u⟩
  ·have C:=aA (Gn s.data.toList m (fun⟨h,_⟩=>u (by simpa using h)))
   have c:Hid (i+An (s.data.toList.drop i)=m):=by rw[D1 _ _ _ v.out,C.out];exact rfl
   go_in
   go_wp2_with (go_at_call 72;refine(O.out _).mono ?_;rintro e y ⟨rfl,rfl⟩)
   all_goals (go_ret;exact⟨AZ (by rw[c.out]),rfl⟩)
  go_in
  go_upto_if 25 with(go_at_call 72;refine(O.out _).mono ?_;rintro e y ⟨rfl,rfl⟩)
  have o:=aA (D1 _ _ _ v.out);by_cases g:∃h:m<s.size,s[m]=101\/s[m]=69
  ·obtain⟨E,g⟩:=g
   have C:=aA (ID s.data.toList m (by simpa using E) g)
   have f:((s[m].toNat:Int)==101)=true\/(((s[m].toNat:Int)==101)=false/\((s[m].toNat:Int)==69)=true):=by
    rcases g with g | g
    ·exact .inl (AH (d:=101) g)
    exact .inr ⟨Ao (d:=101) (by rw[g];decide),AH (d:=69) g⟩
   have A:=aA f;clear g f;by_cases j:∃h:m+1<s.size,s[m+1]=43\/s[m+1]=45
   ·obtain⟨t,j⟩:=j
    have J:=aA (Je s.data.toList (m+1) (by simpa using t) j)
    have b:((s[m+1].toNat:Int)==43)=true\/(((s[m+1].toNat:Int)==43)=false/\((s[m+1].toNat:Int)==45)=true):=by
     rcases j with j | j
     ·exact .inl (AH (d:=43) j)
     exact .inr ⟨Ao (d:=43) (by rw[j];decide),AH (d:=45) j⟩
    have k:=aA b;clear j b;obtain⟨n,F⟩:∃n,m+1+1+Al Aj (s.data.toList.drop (m+1+1))=n:=⟨_,rfl⟩;have l:=aA (fun W=>DP s (m+1+1) n ((m:Int)+1+1) (by omega) W Q.out (by omega) F)
    have B:Hid (i+An (s.data.toList.drop i)=if m+1+1<n then n else m):=by
     unfold Hid;rw[o.out,C.out,J.out];by_cases D:Al Aj (s.data.toList.drop (m+1+1))=0
     ·rw[if_pos D,if_neg (by omega)];omega
     rw[if_neg D,if_pos (by omega)];omega
    have L:m+1+1<=n:=(by omega);have M:n<=s.size:=by have:=Bp Aj (s.data.toList.drop (m+1+1));simp at this;omega
    clear F;by_cases r:m+1+1<n
    ·have c:Hid (i+An (s.data.toList.drop i)=n):=by rw[B.out,if_pos r];exact rfl
     rcases A.out with f | ⟨f,x⟩<;>rcases k.out with b | ⟨b,q⟩ <;>
     ·go_wp2_with (first | (go_at_call 72;(with_reducible refine(l.out _).mono ?_);rintro e y ⟨rfl,rfl⟩))
      all_goals (go_ret;exact⟨AZ (by rw[c.out]),rfl⟩)
    have c:Hid (i+An (s.data.toList.drop i)=m):=by rw[B.out,if_neg r];exact rfl
    rcases A.out with f | ⟨f,x⟩<;>rcases k.out with b | ⟨b,q⟩ <;>
    ·go_wp2_with (first | (go_at_call 72;(with_reducible refine(l.out _).mono ?_);rintro e y ⟨rfl,rfl⟩))
     all_goals (go_ret;exact⟨AZ (by rw[c.out]),rfl⟩)
   have J:=aA (Jd s.data.toList (m+1) (fun⟨h,e⟩=>j ⟨by simpa using h,e⟩))
   have b:¬ m+1<s.size\/(∃h:m+1<s.size,((s[m+1].toNat:Int)==43)=false/\((s[m+1].toNat:Int)==45)=false):=by
    by_cases h:m+1<s.size
    ·exact .inr ⟨h,Ao (d:=43) (fun e=>j ⟨h,.inl e⟩),Ao (d:=45) (fun e=>j ⟨h,.inr e⟩)⟩
    exact .inl h
   have k:=aA b;clear j b;obtain⟨n,F⟩:∃n,m+1+Al Aj (s.data.toList.drop (m+1))=n:=⟨_,rfl⟩;have l:=aA (fun W=>DP s (m+1) n ((m:Int)+1) (by omega) W Q.out (by omega) F)
   have B:Hid (i+An (s.data.toList.drop i)=if m+1<n then n else m):=by
    unfold Hid;rw[o.out,C.out,J.out,Nat.add_zero];by_cases D:Al Aj (s.data.toList.drop (m+1))=0
    ·rw[if_pos D,if_neg (by omega)];omega
    rw[if_neg D,if_pos (by omega)];omega
   have L:m+1<=n:=(by omega);have M:n<=s.size:=by have:=Bp Aj (s.data.toList.drop (m+1));simp at this;omega
   clear F;by_cases r:m+1<n
   ·have c:Hid (i+An (s.data.toList.drop i)=n):=by rw[B.out,if_pos r];exact rfl
    rcases A.out with f | ⟨f,x⟩<;>rcases k.out with b | ⟨t,b,q⟩ <;>
    ·go_wp2_with (first | (go_at_call 72;(with_reducible refine(l.out _).mono ?_);rintro e y ⟨rfl,rfl⟩))
     all_goals (go_ret;exact⟨AZ (by rw[c.out]),rfl⟩)
   have c:Hid (i+An (s.data.toList.drop i)=m):=by rw[B.out,if_neg r];exact rfl
   rcases A.out with f | ⟨f,x⟩<;>rcases k.out with b | ⟨t,b,q⟩ <;>
   ·go_wp2_with (first | (go_at_call 72;(with_reducible refine(l.out _).mono ?_);rintro e y ⟨rfl,rfl⟩))
    all_goals (go_ret;exact⟨AZ (by rw[c.out]),rfl⟩)
  have C:=aA (Gn s.data.toList m (fun⟨h,e⟩=>g ⟨by simpa using h,e⟩));have c:Hid (i+An (s.data.toList.drop i)=m):=by rw[o.out,C.out];exact rfl
  have f:¬ m<s.size\/(∃h:m<s.size,((s[m].toNat:Int)==101)=false/\((s[m].toNat:Int)==69)=false):=by
   by_cases h:m<s.size
   ·exact .inr ⟨h,Ao (d:=101) (fun e=>g ⟨h,.inl e⟩),Ao (d:=69) (fun e=>g ⟨h,.inr e⟩)⟩
   exact .inl h
  have A:=aA f;clear g f;rcases A.out with f | ⟨E,f,x⟩ <;>
  ·go_wp2
   all_goals (go_ret;exact⟨AZ (by rw[c.out]),rfl⟩)
 rw[decide_eq_false R] at v;have U:=aA (FP _ _ _ v.out);rcases G.out with u | ⟨K,u⟩ <;>
 ·go_in
  go_wp2_with (go_at_call 72;refine(O.out _).mono ?_;rintro e y ⟨rfl,rfl⟩)
  go_ret;exact⟨AZ (by rw[U.out]),rfl⟩
end Go.Proofs.YtjolfpcpcaocmaaGreatDoor
