/- Wk Wt Wr Ws Wu Ya Wh -/
import Derived.Test.YtipfpohlnhmlpaaGreatDoorGd
import Derived.Test.YtipfpohlnhmlpaaGreatDoorPc
import Derived.Lib.Hide
import Derived.Lib.Strings
import Derived.Deep.DeepCutAuto
set_option maxHeartbeats 3200000
set_option maxRecDepth 100000
open Go.Lib renaming hid->aA
open List renaming contains_cons->aB,contains_nil->aD,drop_eq_nil_of_le->aE,drop_drop->aF,take_succ_cons->aH,contains_iff_mem->aM,not_mem_nil->aP,length_cons->aQ,length_drop->aR
open Bool renaming or_false->aC,eq_iff_iff->aG,false_eq_true->aI,true_or->aJ,or_true->aK
open Int renaming tmod_lt_of_pos->aN,lt_tmod_of_pos->aO
namespace Go.Proofs.YtipfpohlnhmlpaaGreatDoor
open Go.Proofs.Tryz
open Go.RowKit
theorem AV (c:Int) (w:World):Calls prog 12 #[.int .u8 c] w fun e a=>e = .returned (.bool (C3 c))/\w=a:=by
 go_in
 go_wp2
 all_goals (go_ret;exact⟨B3 (by simp[C3, *]<;>omega),rfl⟩)
theorem AN (c:Int) (w:World):Calls prog 14 #[.int .u8 c] w fun e a=>e = .returned (.bool (DI c))/\w=a:=by
 go_in
 go_wp2
 all_goals (go_ret;refine⟨B3 ?_,rfl⟩)
 all_goals (rw[aG];simp[DI];omega)
theorem MV (s:ByteArray):s.toList=s.data.toList:=ByteArray.toList_eq s
theorem Nm (s:ByteArray) (w:World):Calls prog 42 #[.string s] w fun e a=>e = .returned (.bool (wordL.contains s.data.toList))/\w=a:=by
 rw[<- MV]
 go_in
 go_wp2
 all_goals (go_ret;refine⟨B3 ?_,rfl⟩)
 all_goals (simp only[wordL,aB,aD,aC, *,aJ,aK])
 all_goals simp_all
theorem L7 (s:ByteArray) (w:World):Calls prog 43 #[.string s] w fun e a=>e = .returned (.bool (M7.contains s.data.toList))/\w=a:=by
 rw[<- MV]
 go_in
 go_wp2
 all_goals (go_ret;refine⟨B3 ?_,rfl⟩)
 all_goals (simp only[M7,aB,aD,aC, *,aJ,aK])
 all_goals simp_all
def Dj (l:List UInt8):Bool:=wordL.contains l
def B1 (l:List UInt8):Bool:=M7.contains l
theorem PH (s:ByteArray) (T:List UInt8) (h:s.data.toList=T) (w:World):Calls prog 42 #[.string s] w fun e a=>e = .returned (.bool (Dj T))/\w=a:=by
 subst h;exact Nm s w
theorem Nl (s:ByteArray) (T:List UInt8) (h:s.data.toList=T) (w:World):Calls prog 43 #[.string s] w fun e a=>e = .returned (.bool (B1 T))/\w=a:=by
 subst h;exact L7 s w
def IQ:Nat->List UInt8->Bool
 | _,[]=>true
 | i,c::r=>(B2 c||(i != 0&&Aj c))&&IQ (i+1) r
def BM (l:List UInt8):Bool:=IQ 0 l&&(l != [] && !wordL.contains l && !M7.contains l)
theorem EY (c:Int) (w:World):Calls prog 21 #[.int .u8 c] w fun e a=>e = .returned (.bool (C3 c))/\w=a:=by
 go_in
 go_wp2
 all_goals (go_ret;exact⟨B3 (by simp[C3, *]<;>omega),rfl⟩)
theorem CN (c:Int) (w:World):Calls prog 20 #[.int .u8 c] w fun e a=>e = .returned (.bool (DI c))/\w=a:=by
 go_in
 go_wp2
 all_goals (go_ret;refine⟨B3 ?_,rfl⟩)
 all_goals (rw[aG];simp[DI];omega)
def D2:List UInt8->List UInt8->List (List UInt8)
 | acc,[]=>[acc]
 | acc,c::r=>if c=32 then acc::D2 [] r else D2 (acc++[c]) r
theorem PY (T:List UInt8) (a:List UInt8) (k:Nat) (h:T.length<=k):D2 a (T.drop k)=[a]:=by rw[aE h];rfl
theorem PZ (T:List UInt8) (a:List UInt8) (k:Nat) (h:k<T.length) (b:T[k]=32):D2 a (T.drop k)=a::D2 [] (T.drop (k+1)):=by rw[Aq T k h,D2,if_pos b]
theorem RH (T:List UInt8) (f k:Nat) (a:f<=k) (h:k<T.length):Bc T f (k+1)=Bc T f k++[T[k]]:=by
 unfold Bc;rw[show k+1-f=(k-f)+1 by omega,List.take_add_one];congr 1;rw[List.getElem?_drop,show f+(k-f)=k by omega,List.getElem?_eq_getElem h];rfl
theorem Sa (T:List UInt8) (f k:Nat) (b:f<=k) (h:k<T.length) (a:T[k]≠32):D2 (Bc T f k) (T.drop k)=D2 (Bc T f (k+1)) (T.drop (k+1)):=by
 rw[Aq T k h,D2,if_neg a,RH T f k b h]
def Ts (T S:List UInt8):Bool:=(D2 [] T).contains S
theorem FI (T S:ByteArray) (w:World) (y:T.size<=140737488351232):Calls prog 46 #[.string T,.string S] w fun e x=>e = .returned (.bool (Ts T.data.toList S.data.toList))/\w=x:=by
 unfold Ts;obtain⟨B,q⟩:∃B,(D2 [] T.data.toList).contains S.data.toList=B:=⟨_,rfl⟩;rw[q]
 go_in
 go_wp2
 go_loop [5,6] (fun f n=>∃i k:Nat,f = .int .i64 i/\n = .int .i64 k/\((i<=k/\k<=T.size/\Hid ((D2 (Bc T.data.toList i k) (T.data.toList.drop k)).contains S.data.toList=B))\/(k=T.size+1/\Hid (B=false)))) (fun _ n=>T.size+1-(intOf n).toNat)
 case atStart=>exact⟨0,0,rfl,rfl,.inl ⟨by omega,by omega,by unfold Hid;rw[<- q];rfl⟩⟩
 clear q;obtain⟨i,k,rfl,rfl,⟨r,v,b⟩ | ⟨v,b⟩⟩:=hrel
 ·have j:Hid ((T.extract i k).data.toList=Bc T.data.toList i k):=Lib.extract_data _ _ _
  by_cases a:k=T.size
  ·have t:((k:Int)==T.size)=true:=beq_iff_eq.2 (by omega)
   have c:=aA (PY T.data.toList (Bc T.data.toList i k) k (by rw[a];exact Nat.le_refl _));have o:=aA a;clear a
   cases l:((T.extract i k).toList==S.toList) with
   | true =>
     have g:Hid (B=true):=by
      rw[MV,MV] at l;unfold Hid;rw[<- b.out,c.out,<- j.out,eq_of_beq l];simp
     clear b c j;go_wp2;go_ret;exact⟨by rw[g.out];rfl,rfl⟩
   | false =>
     have g:Hid (B=false):=by
      rw[MV,MV] at l;unfold Hid;rw[<- b.out,c.out,<- j.out];simp only[aB,aD,aC];exact beq_eq_false_iff_ne.2 fun h=>(beq_eq_false_iff_ne.1 l) h.symm
     clear b c j;go_wp2;have a:=o.out;exact⟨⟨k+1,k+1,by go_num,by go_num,.inr ⟨by omega,g⟩⟩,by simp[intOf];omega⟩
  have s:k<T.size:=(by omega);have p:k<T.data.toList.length:=(by simpa using s);have t:((k:Int)==T.size)=false:=beq_eq_false_iff_ne.2 (by omega);by_cases m:T[k]=32
  ·have u:((T[k].toNat:Int)==32)=true:=AH (d:=32) m
   have c:=aA (PZ T.data.toList (Bc T.data.toList i k) k p m);clear m a
   cases l:((T.extract i k).toList==S.toList) with
   | true =>
     have g:Hid (B=true):=by
      rw[MV,MV] at l;unfold Hid;rw[<- b.out,c.out,<- j.out,eq_of_beq l];simp
     clear b c j;go_wp2;go_ret;exact⟨by rw[g.out];rfl,rfl⟩
   | false =>
     have g:Hid ((D2 (Bc T.data.toList (k+1) (k+1)) (T.data.toList.drop (k+1))).contains S.data.toList=B):=by
      rw[MV,MV] at l;unfold Hid;rw[<- b.out,c.out,<- j.out,KV,aB];rw[beq_eq_false_iff_ne.2 fun h=>(beq_eq_false_iff_ne.1 l) h.symm,Bool.false_or]
     clear b c j;go_wp2;exact⟨⟨k+1,k+1,by go_num,by go_num,.inl ⟨by omega,by omega,g⟩⟩,by simp[intOf];omega⟩
  have u:((T[k].toNat:Int)==32)=false:=Ao (d:=32) m
  have g:Hid ((D2 (Bc T.data.toList i (k+1)) (T.data.toList.drop (k+1))).contains S.data.toList=B):=by
   unfold Hid;rw[<- b.out,Sa T.data.toList i k r p m]
  clear b j m a;go_wp2;exact⟨⟨i,k+1,by go_num,by go_num,.inl ⟨by omega,by omega,g⟩⟩,by simp[intOf];omega⟩
 have t:decide ((k:Int)<=T.size)=false:=decide_eq_false (by omega);go_wp2;go_ret;exact⟨by rw[b.out];rfl,rfl⟩
theorem Fy (s:ByteArray) (w:World):Calls prog 22 #[.string s] w fun e a=>e = .returned (.bool (Dj s.data.toList))/\w=a:=by
 go_in
 go_wp2_with (go_at_call 46;refine(FI _ _ _ (by decide)).mono ?_;rintro e a ⟨rfl,rfl⟩)
 go_ret;refine⟨B3 ?_,rfl⟩;unfold Ts Dj;refine congrArg (fun x=>List.contains x s.data.toList) ?_;kernel_rfl
theorem DK (s:ByteArray) (w:World):Calls prog 23 #[.string s] w fun e a=>e = .returned (.bool (B1 s.data.toList))/\w=a:=by
 go_in
 go_wp2_with (go_at_call 46;refine(FI _ _ _ (by decide)).mono ?_;rintro e a ⟨rfl,rfl⟩)
 go_ret;refine⟨B3 ?_,rfl⟩;unfold Ts B1;refine congrArg (fun x=>List.contains x s.data.toList) ?_;kernel_rfl
def OF (l:List UInt8):Bool:=l.all fun c=>B2 c||Aj c
theorem Vs (l:List UInt8) (k:Nat) (h:k<l.length):OF (l.drop k)=((B2 l[k]||Aj l[k])&&OF (l.drop (k+1))):=by rw[Aq l k h];rfl
theorem Kh:∀(l:List UInt8) (k:Nat),k≠0->IQ k l=OF l
 | [],_,_=>rfl
 | c::r,k,h=>by
   rw[IQ,Kh r (k+1) (by omega),show (k != 0)=true from by simpa using h,Bool.true_and];rfl
theorem F9 (l:List UInt8):BM l=(match l with | []=>false | c::_=>B2 c&&(OF l&&(!Dj l && !B1 l))):=by
 cases l with
 | nil=>rfl
 | cons c r =>
   unfold BM Dj B1;rw[IQ,Kh r 1 (by decide)];have e:OF (c::r)=((B2 c||Aj c)&&OF r):=rfl;have a:(c::r != [])=true:=rfl;dsimp only;rw[e,a];cases h:B2 c<;>simp
theorem KY {l:List UInt8} (h:0<l.length) (a:B2 l[0]=true) (b:OF l=true):BM l=(!Dj l && !B1 l):=by
 rw[F9];cases l with
 | nil=>exact absurd h (by simp)
 | cons c r=>dsimp only;rw[show B2 c=true from a,b];simp
theorem IH {l:List UInt8} (h:0<l.length) (a:B2 l[0]=false):BM l=false:=by
 rw[F9];cases l with
 | nil=>rfl
 | cons c r=>dsimp only;rw[show B2 c=false from a];rfl
theorem KZ {l:List UInt8} (a:OF l=false):BM l=false:=by
 rw[F9];cases l with
 | nil=>rfl
 | cons c r=>dsimp only;rw[a];cases B2 c<;>rfl
theorem CM (s:ByteArray) (w:World) (F:s.size<=9223372036854775807):Calls prog 53 #[.string s] w fun e b=>e = .returned (.bool (BM s.data.toList))/\w=b:=by
 have u:=aA (fun W=>Fy s W);have t:=aA (fun W=>DK s W);by_cases v:s.size=0
 ·have B:s=ByteArray.empty:=ByteArray.ext (Array.eq_empty_of_size_eq_zero v)
  subst B
  go_in
  go_wp2;go_ret;exact⟨rfl,rfl⟩
 have o:0<s.size:=(by omega);have c:0<s.data.toList.length:=by simpa using o
 have D:(s.toList==[])=false:=by
  rw[MV];refine beq_eq_false_iff_ne.2 fun h=>?_;rw[h] at c;exact absurd c (by simp)
 clear v;by_cases j:B2 (s.data.toList[0]'c)=true
 ·have r:DI (s[0].toNat:Int)=true:=j
  obtain⟨N,z⟩:∃N,OF s.data.toList=N:=⟨_,rfl⟩;have l:=aA (fun h:OF s.data.toList=true=>KY c j h);have m:=aA (fun h:OF s.data.toList=false=>KZ h);have p:=aA z;clear j z
  go_in
  go_wp2_with (go_at_call 20;refine(CN _ _).mono ?_;rintro e b ⟨rfl,rfl⟩)
  go_loop [3] (fun n=>∃k:Nat,k<=s.size/\n = .int .i64 k/\Hid (OF (s.data.toList.drop k)=N)) (fun n=>s.size-(intOf n).toNat)
  case atStart=>exact⟨0,by omega,rfl,p⟩
  obtain⟨k,E,rfl,d⟩:=hrel;by_cases a:k<s.size
  ·have i:=aA (Vs s.data.toList k (by simpa using a))
   cases q:DI (s[k].toNat:Int) with
   | true =>
      have g:Hid (OF (s.data.toList.drop (k+1))=N):=by
       unfold Hid;rw[<- d.out,i.out];rw[show B2 (s.data.toList[k]'(by simpa using a))=true from q];simp
      clear i d
      go_wp2_with (first | (go_at_call 20;refine(CN _ _).mono ?_;rintro e b ⟨rfl,rfl⟩) | (go_at_call 21;refine(EY _ _).mono ?_;rintro e b ⟨rfl,rfl⟩))
      exact⟨⟨k+1,by omega,by go_num,g⟩,by simp[intOf];omega⟩
   | false =>
     cases A:C3 (s[k].toNat:Int) with
     | true =>
       have g:Hid (OF (s.data.toList.drop (k+1))=N):=by
        unfold Hid;rw[<- d.out,i.out];rw[show B2 (s.data.toList[k]'(by simpa using a))=false from q,show Aj (s.data.toList[k]'(by simpa using a))=true from A];simp
       clear i d
       go_wp2_with (first | (go_at_call 20;refine(CN _ _).mono ?_;rintro e b ⟨rfl,rfl⟩) | (go_at_call 21;refine(EY _ _).mono ?_;rintro e b ⟨rfl,rfl⟩))
       exact⟨⟨k+1,by omega,by go_num,g⟩,by simp[intOf];omega⟩
     | false =>
       have f:Hid (BM s.data.toList=false):=by
        unfold Hid;refine m.out ?_;rw[p.out,<- d.out,i.out];rw[show B2 (s.data.toList[k]'(by simpa using a))=false from q,show Aj (s.data.toList[k]'(by simpa using a))=false from A];rfl
       clear i d
       go_wp2_with (first | (go_at_call 20;refine(CN _ _).mono ?_;rintro e b ⟨rfl,rfl⟩) | (go_at_call 21;refine(EY _ _).mono ?_;rintro e b ⟨rfl,rfl⟩))
       go_ret;exact⟨by rw[f.out];rfl,rfl⟩
  have f:Hid (BM s.data.toList=(!Dj s.data.toList && !B1 s.data.toList)):=by
   unfold Hid;refine l.out ?_;rw[p.out,<- d.out,aE (by simpa using a)];rfl
  have C:decide ((k:Int)<s.size)=false:=decide_eq_false (by omega);clear d l m p;generalize Dj s.data.toList=x at u f;generalize B1 s.data.toList=y at t f
  cases x<;>cases y<;>(go_wp2_with (first | (go_at_call 22;refine(u.out _).mono ?_;rintro e b ⟨rfl,rfl⟩) | (go_at_call 23;refine(t.out _).mono ?_;rintro e b ⟨rfl,rfl⟩)))<;>go_ret<;>exact⟨by rw[f.out];rfl,rfl⟩
 have r:DI (s[0].toNat:Int)=false:=eq_false_of_ne_true j;have f:=aA (IH c (eq_false_of_ne_true j));clear j
 go_in
 go_wp2_with (go_at_call 20;refine(CN _ _).mono ?_;rintro e b ⟨rfl,rfl⟩)
 go_ret;exact⟨by rw[f.out];rfl,rfl⟩
def C4 (n:Int) (m:Nat):Nat:=(if n.tmod m<0 then n.tmod m+m else n.tmod m).toNat
theorem Dr (n:Int) (m:Nat) (a:0<m):C4 n m<m:=by
 have c:=aN n (b:=(m:Int)) (by omega);have d:=aO n (b:=(m:Int)) (by omega);unfold C4;split<;>omega
theorem Ds (n:Int) (m:Nat) (w:World) (f:0<m) (c:m<=maxLen):Calls prog 11 #[.int .i64 n,.int .i64 m] w fun e d=>e = .returned (.int .i64 (C4 n m))/\w=d:=by
 have g:=aN n (b:=(m:Int)) (by omega);have i:=aO n (b:=(m:Int)) (by omega);unfold maxLen at c;by_cases h:n.tmod m<0
 ·have a:Hid ((C4 n m:Int)=n.tmod m+m):=by unfold Hid C4;rw[if_pos h];omega
  go_in
  go_wp2;go_ret;exact⟨by rw[a.out];rfl,rfl⟩
 have a:Hid ((C4 n m:Int)=n.tmod m):=by unfold Hid C4;rw[if_neg h];omega
 go_in
 go_wp2;go_ret;exact⟨by rw[a.out];rfl,rfl⟩
theorem Xe (s:ByteArray) (i:Nat):(s.extract i (i+2)).toList=(s.data.toList.drop i).take 2:=by
 rw[MV,Lib.extract_data];congr 1;omega
def VE (c:UInt8):Nat:=if Mo.contains c then 1 else 0
def B6:List UInt8->Nat
 | []=>0
 | c::r=>if He.contains ((c::r).take 2) then 2 else if Mo.contains c then 1 else 0
theorem SG (s:ByteArray) (i:Nat) (w:World) (b:s.size<=maxLen) (d:i+1<s.size) (a:(s.extract i (i+2)).toList∈He):Calls prog 18 #[.string s,.int .i64 i] w fun e c=>e = .returned (.int .i64 2)/\w=c:=by
 unfold maxLen at b;simp only[He,List.mem_cons,aP,or_false] at a;rcases a with a | a | a | a | a | a | a | a | a | a | a | a | a | a | a | a<;>(go_in;go_wp2;go_ret;exact⟨rfl,rfl⟩)
theorem Tw (c d:UInt8):(c==d)=((c.toNat:Int)==(d.toNat:Int)):=by
 rw[aG];simp[<- UInt8.toNat_inj];omega
theorem R8 (c:UInt8):Mo.contains c=(((c.toNat:Int)==123)||((c.toNat:Int)==125)||((c.toNat:Int)==40)||((c.toNat:Int)==41)||((c.toNat:Int)==91)||((c.toNat:Int)==93)||((c.toNat:Int)==59)||((c.toNat:Int)==44)||((c.toNat:Int)==43)||((c.toNat:Int)==45)||((c.toNat:Int)==42)||((c.toNat:Int)==47)||((c.toNat:Int)==37)||((c.toNat:Int)==94)||((c.toNat:Int)==33)||((c.toNat:Int)==62)||((c.toNat:Int)==60)||((c.toNat:Int)==124)||((c.toNat:Int)==63)||((c.toNat:Int)==58)||((c.toNat:Int)==126)||((c.toNat:Int)==36)||((c.toNat:Int)==61)):=by
 simp only[Mo,aB,aD,aC,Tw,Bool.or_assoc];rfl
theorem SF (s:ByteArray) (i:Nat) (w:World) (c:s.size<=maxLen) (n:i<s.size) (a:decide (i+1<s.size)=false\/(decide (i+1<s.size)=true/\¬ (s.extract i (i+2)).toList∈He)):Calls prog 18 #[.string s,.int .i64 i] w fun e d=>e = .returned (.int .i64 (VE s[i]:Nat))/\w=d:=by
 unfold maxLen at c;rcases a with a | ⟨a,b⟩
 ·simp only[decide_eq_false_iff_not] at a
  go_in
  go_wp2
  all_goals (go_ret;refine⟨AZ ?_,rfl⟩;rw[VE,R8];simp only[*,aJ,aK,aC,if_true,aI,if_false];rfl)
 simp only[decide_eq_true_eq] at a;simp only[He,List.mem_cons,aP,or_false,not_or,<- beq_eq_false_iff_ne] at b;obtain⟨o,p,q,r,t,u,v,x,y,f,g,h,j,k,l,m⟩:=b
 go_in
 go_wp2
 all_goals (go_ret;refine⟨AZ ?_,rfl⟩;rw[VE,R8];simp only[*,aJ,aK,aC,if_true,aI,if_false];rfl)
theorem EC (s:ByteArray) (i:Nat) (w:World) (j:s.size<=maxLen) (g:i<s.size):Calls prog 18 #[.string s,.int .i64 i] w fun e f=>e = .returned (.int .i64 (B6 (s.data.toList.drop i):Nat))/\w=f:=by
 have d:=Aq s.data.toList i (by simpa using g);by_cases a:i+1<s.size/\(s.extract i (i+2)).toList∈He
 ·refine(SG s i w j a.1 a.2).mono ?_
  rintro e f ⟨rfl,rfl⟩;refine⟨AZ ?_,rfl⟩;rw[d,B6,<- d,<- Xe,if_pos (by simpa using a.2)];rfl
 have k:He.contains ((s.data.toList.drop i).take 2)=false:=by
  by_cases b:i+1<s.size
  ·rw[<- Xe];simpa using fun h=>a ⟨b,h⟩
  rw[d,aE (by simp;omega)];generalize s.data.toList[i]=c;simp[He]
 refine(SF s i w j g ?_).mono ?_
 ·by_cases b:i+1<s.size
  ·exact .inr ⟨by simpa using b,fun h=>a ⟨b,h⟩⟩
  exact .inl (by simpa using b)
 rintro e f ⟨rfl,rfl⟩;refine⟨AZ ?_,rfl⟩;rw[d,B6,<- d,k];simp only[aI,if_false];rfl
def BG:List UInt8->List UInt8
 | []=>[]
 | [c]=>[c]
 | c::d::r=>if c=92 then (if d=47 then d::BG r else 92::d::BG r) else c::BG (d::r)
theorem FH (q:UInt8):∀(N:Nat) (l:List UInt8) (n:Nat),l.length<=N->BY q l=some n->BG (l.take n)=Df (l.take n)
 | _,[],n,_,h=>by simp[BY] at h
 | 0,c::r,n,hN,_=>by simp at hN
 | N+1,c::r,n,hN,h=>by
   rw[BY.eq_def] at h;dsimp only at h;simp only[aQ] at hN;split at h
   ·cases h
   split at h
   ·cases h;rfl
   split at h
   ·next h92 =>
    cases r with
    | nil=>cases h
    | cons d e =>
      dsimp only at h;split at h
      ·cases h
      obtain⟨m,b,rfl⟩:=Option.map_eq_some_iff.1 h;simp only[aQ] at hN;have a:=FH q N e m (by omega) b;rw[aH,aH,BG,Df,if_pos h92,if_pos h92,a]
   next h92 =>
   obtain⟨m,b,rfl⟩:=Option.map_eq_some_iff.1 h;have a:=FH q N r m (by omega) b;rw[aH]
   cases f:r.take m with
   | nil=>rw[BG,Df,if_neg h92]
   | cons d e =>
     rw[f] at a;rw[BG,Df,if_neg h92,if_neg h92,a]
theorem Tc {q:UInt8} {l:List UInt8} {k t:Nat} (h:AF q l k=(t:Int)):BG (Bc l k t)=Df (Bc l k t):=by
 unfold AF at h;split at h
 ·next n hn =>
  have:k+n=t:=(by omega);unfold Bc;rw[show t-k=n by omega];exact FH q _ _ n (Nat.le_refl _) hn
 omega
theorem Ib {L M:List (List UInt8)} (a:∀x∈L,x∈M) (b:∀x∈M,x∈L) (T:List UInt8):L.contains T=M.contains T:=by
 rw[aG,aM,aM];exact⟨a T,b T⟩
theorem Vf (T:List UInt8):Ts [38,38,32,124,124,32,43,43,32,45,45,32,43,61,32,45,61,32,42,61,32,47,61,32,37,61,32,94,61,32,61,61,32,60,61,32,62,61,32,33,61,32,33,126,32,62,62] T=He.contains T:=by
 unfold Ts;exact Ib (by decide +kernel) (by decide +kernel) T
theorem Ve (c:UInt8):Ts [123,32,125,32,40,32,41,32,91,32,93,32,59,32,44,32,43,32,45,32,42,32,47,32,37,32,94,32,33,32,62,32,60,32,124,32,63,32,58,32,126,32,36,32,61] [c]=Mo.contains c:=by
 have a:∀k:Fin 256,Ts [123,32,125,32,40,32,41,32,91,32,93,32,59,32,44,32,43,32,45,32,42,32,47,32,37,32,94,32,33,32,62,32,60,32,124,32,63,32,58,32,126,32,36,32,61] [⟨⟨k⟩⟩]=Mo.contains ⟨⟨k⟩⟩:=(by decide +kernel);exact a c.toBitVec.toFin
theorem DP (s:ByteArray) (i d:Nat) (a:Int) (ha:a=(i:Int)) (w:World) (f:s.size<=maxLen) (c:i<=s.size) (b:i+Al Aj (s.data.toList.drop i)=d) :
  Calls prog 83 #[.string s,.int .i64 a] w fun e g=>e = .returned (.int .i64 d)/\w=g:=by
 subst ha;subst b;exact Na s i w f c
def Ip (l:List UInt8) (i:Nat) (m:Nat) (a:Bool):Prop:=i<=m/\m<=l.length/\(a=false->CU (l.drop i)=0)/\(a=true->i<m/\CU (l.drop i)=m-i)
theorem FP (l:List UInt8) (i m:Nat) (h:Ip l i m false):i+An (l.drop i)=i:=by
 rw[An,if_pos (h.2.2.1 rfl)];rfl
theorem D1 (l:List UInt8) (i m:Nat) (h:Ip l i m true):i+An (l.drop i)=m+GZ (l.drop m):=by
 obtain⟨b,a⟩:=h.2.2.2 rfl;rw[An,a,if_neg (by omega),aF,show i+(m-i)=m by omega];omega
theorem Gn (l:List UInt8) (m:Nat) (h:¬ ∃h:m<l.length,l[m]=101\/l[m]=69):GZ (l.drop m)=0:=by
 rw[GZ,if_neg];intro a;apply h;by_cases b:m<l.length
 ·rw[A' l m b] at a
  exact⟨b,by simpa using a⟩
 rw[Bv l m (by omega)] at a;simp at a
theorem ID (l:List UInt8) (m:Nat) (h:m<l.length) (a:l[m]=101\/l[m]=69) :
  GZ (l.drop m)=if Al Aj (l.drop (m+1+AR (l.drop (m+1))))=0 then 0 else 1+AR (l.drop (m+1))+Al Aj (l.drop (m+1+AR (l.drop (m+1)))):=by
 rw[GZ,A' l m h,if_pos (by rcases a with a | a<;>simp[a])];simp only[aF,Nat.add_assoc]
theorem Jd (l:List UInt8) (m:Nat) (h:¬ ∃h:m<l.length,l[m]=43\/l[m]=45):AR (l.drop m)=0:=by
 rw[AR,if_neg];intro a;apply h;by_cases b:m<l.length
 ·rw[A' l m b] at a
  exact⟨b,by simpa using a⟩
 rw[Bv l m (by omega)] at a;simp at a
theorem Je (l:List UInt8) (m:Nat) (h:m<l.length) (a:l[m]=43\/l[m]=45):AR (l.drop m)=1:=by
 rw[AR,A' l m h,if_pos (by rcases a with a | a<;>simp[a])]
theorem Mb (l:List UInt8) (i d:Nat) (f:i<=l.length) (c:i+Al Aj (l.drop i)=d) (h:¬ ∃h:d<l.length,l[d]=46):Ip l i d (decide (i<d)):=by
 have e:CU (l.drop i)=d-i:=by
  rw[CU,aF,c,if_neg]
  ·omega
  intro a;apply h;by_cases b:d<l.length
  ·rw[A' l d b] at a;exact⟨b,by simpa using a⟩
  rw[Bv l d (by omega)] at a;cases a
 have:=Bp Aj (l.drop i);simp only[aR] at this;refine⟨by omega,by omega,fun h=>?_,fun h=>?_⟩
 ·simp at h;omega
 simp at h;exact⟨h,e⟩
theorem Ma (l:List UInt8) (i d p:Nat) (b:i+Al Aj (l.drop i)=d) (h:d<l.length) (a:l[d]=46) (k:d+1+Al Aj (l.drop (d+1))=p) :
  (i<d\/d+1<p->Ip l i p true)/\(¬ i<d->¬ d+1<p->Ip l i d false):=by
 have e:=Bp Aj (l.drop (d+1));simp only[aR] at e
 have c:CU (l.drop i)=if Al Aj (l.drop i)=0/\Al Aj (l.drop (d+1))=0 then 0 else Al Aj (l.drop i)+1+Al Aj (l.drop (d+1)):=by
  rw[CU,aF,b,A' l d h,a,if_pos rfl,aF,<- Nat.add_assoc,b]
 constructor
 ·intro f
  refine⟨by omega,by omega,fun h=>by simp at h,fun _=>⟨by omega,?_⟩⟩;rw[c,if_neg (by omega)];omega
 intro g j;refine⟨by omega,by omega,fun _=>?_,fun h=>by simp at h⟩;rw[c,if_pos (by omega)]
theorem Mn (s:ByteArray) (i:Nat) (w:World) (X:s.size<=maxLen) (Y:i<=s.size):Calls prog 65 #[.string s,.int .i64 i] w fun e y=>e = .returned (.int .i64 (i+An (s.data.toList.drop i):Nat))/\w=y:=by
 obtain⟨d,T⟩:∃d,i+Al Aj (s.data.toList.drop i)=d:=⟨_,rfl⟩;have V:i<=s.data.toList.length:=(by simpa using Y);have b0:d<=s.size:=by have:=Bp Aj (s.data.toList.drop i);simp at this;omega
 have d0:i<=d:=(by omega);have O:=aA (fun W=>DP s i d i rfl W X Y T);have Z:=aA (Mb s.data.toList i d V T);have Q:=aA X;have HP:=aA (fun p h u S=>Ma s.data.toList i d p T h u S);clear T;unfold maxLen at X;by_cases z:∃h:d<s.size,s[d]=46
 ·obtain⟨K,u⟩:=z
  obtain⟨p,S⟩:∃p,d+1+Al Aj (s.data.toList.drop (d+1))=p:=⟨_,rfl⟩;have I:=aA (fun W=>DP s (d+1) p ((d:Int)+1) (by omega) W Q.out (by omega) S);have P:=aA (HP.out p (by simpa using K) u S);have a0:((s[d].toNat:Int)==46)=true:=AH (d:=46) u;have c0:d+1<=p:=(by omega);have f0:p<=s.size:=by have:=Bp Aj (s.data.toList.drop (d+1));simp at this;omega
  clear S u;by_cases N:i<d\/d+1<p
  ·have v:=aA (P.out.1 N)
   go_in
   go_upto_if 25 with(go_at_call 83;refine(O.out _).mono ?_;rintro e y ⟨rfl,rfl⟩)
   go_cut [5,6] (fun a wh wx=>a = .int .i64 p/\wh = .bool true/\wx=w)
   case first =>
    by_cases R:i<d
    ·go_wp2_with (go_at_call 83;refine(I.out _).mono ?_;rintro e y ⟨rfl,rfl⟩)
     go_meet;exact⟨rfl,rfl,rfl⟩
    have h2:d+1<p:=N.resolve_left R
    go_wp2_with (go_at_call 83;refine(I.out _).mono ?_;rintro e y ⟨rfl,rfl⟩)
    go_meet;exact⟨rfl,rfl,rfl⟩
   obtain⟨rfl,rfl,rfl⟩:=hcut;generalize hm:p=m at *;have e0:i<m:=(by omega);have o:=aA (D1 _ _ _ v.out);by_cases g:∃h:m<s.size,s[m]=101\/s[m]=69
   ·obtain⟨E,g⟩:=g
    have C:=aA (ID s.data.toList m (by simpa using E) g)
    have f:((s[m].toNat:Int)==101)=true\/(((s[m].toNat:Int)==101)=false/\((s[m].toNat:Int)==69)=true):=by
     rcases g with g | g
     ·exact .inl (AH (d:=101) g)
     exact .inr ⟨Ao (d:=101) (by rw[g];decide),AH (d:=69) g⟩
    have A:=aA f;clear g f;by_cases j:∃h:m+1<s.size,s[m+1]=43\/s[m+1]=45
    ·obtain⟨t,j⟩:=j
     have J:=aA (Je s.data.toList (m+1) (by simpa using t) j)
     have b:((s[m+1].toNat:Int)==43)=true\/(((s[m+1].toNat:Int)==43)=false/\((s[m+1].toNat:Int)==45)=true):=by
      rcases j with j | j
      ·exact .inl (AH (d:=43) j)
      exact .inr ⟨Ao (d:=43) (by rw[j];decide),AH (d:=45) j⟩
     have k:=aA b;clear j b;obtain⟨n,F⟩:∃n,m+1+1+Al Aj (s.data.toList.drop (m+1+1))=n:=⟨_,rfl⟩;have l:=aA (fun W=>DP s (m+1+1) n ((m:Int)+1+1) (by omega) W Q.out (by omega) F)
     have B:Hid (i+An (s.data.toList.drop i)=if m+1+1<n then n else m):=by
      unfold Hid;rw[o.out,C.out,J.out];by_cases D:Al Aj (s.data.toList.drop (m+1+1))=0
      ·rw[if_pos D,if_neg (by omega)];omega
      rw[if_neg D,if_pos (by omega)];omega
     have L:m+1+1<=n:=(by omega);have M:n<=s.size:=by have:=Bp Aj (s.data.toList.drop (m+1+1));simp at this;omega
     clear F;by_cases r:m+1+1<n
     ·have c:Hid (i+An (s.data.toList.drop i)=n):=by rw[B.out,if_pos r];exact rfl
      rcases A.out with f | ⟨f,x⟩<;>rcases k.out with b | ⟨b,q⟩ <;>
      ·go_wp2_with (first | (go_at_call 83;(with_reducible refine(l.out _).mono ?_);rintro e y ⟨rfl,rfl⟩))
       all_goals (go_ret;exact⟨AZ (by rw[c.out]),rfl⟩)
     have c:Hid (i+An (s.data.toList.drop i)=m):=by rw[B.out,if_neg r];exact rfl
     rcases A.out with f | ⟨f,x⟩<;>rcases k.out with b | ⟨b,q⟩ <;>
     ·go_wp2_with (first | (go_at_call 83;(with_reducible refine(l.out _).mono ?_);rintro e y ⟨rfl,rfl⟩))
      all_goals (go_ret;exact⟨AZ (by rw[c.out]),rfl⟩)
    have J:=aA (Jd s.data.toList (m+1) (fun⟨h,e⟩=>j ⟨by simpa using h,e⟩))
    have b:¬ m+1<s.size\/(∃h:m+1<s.size,((s[m+1].toNat:Int)==43)=false/\((s[m+1].toNat:Int)==45)=false):=by
     by_cases h:m+1<s.size
     ·exact .inr ⟨h,Ao (d:=43) (fun e=>j ⟨h,.inl e⟩),Ao (d:=45) (fun e=>j ⟨h,.inr e⟩)⟩
     exact .inl h
    have k:=aA b;clear j b;obtain⟨n,F⟩:∃n,m+1+Al Aj (s.data.toList.drop (m+1))=n:=⟨_,rfl⟩;have l:=aA (fun W=>DP s (m+1) n ((m:Int)+1) (by omega) W Q.out (by omega) F)
    have B:Hid (i+An (s.data.toList.drop i)=if m+1<n then n else m):=by
     unfold Hid;rw[o.out,C.out,J.out,Nat.add_zero];by_cases D:Al Aj (s.data.toList.drop (m+1))=0
     ·rw[if_pos D,if_neg (by omega)];omega
     rw[if_neg D,if_pos (by omega)];omega
    have L:m+1<=n:=(by omega);have M:n<=s.size:=by have:=Bp Aj (s.data.toList.drop (m+1));simp at this;omega
    clear F;by_cases r:m+1<n
    ·have c:Hid (i+An (s.data.toList.drop i)=n):=by rw[B.out,if_pos r];exact rfl
     rcases A.out with f | ⟨f,x⟩<;>rcases k.out with b | ⟨t,b,q⟩ <;>
     ·go_wp2_with (first | (go_at_call 83;(with_reducible refine(l.out _).mono ?_);rintro e y ⟨rfl,rfl⟩))
      all_goals (go_ret;exact⟨AZ (by rw[c.out]),rfl⟩)
    have c:Hid (i+An (s.data.toList.drop i)=m):=by rw[B.out,if_neg r];exact rfl
    rcases A.out with f | ⟨f,x⟩<;>rcases k.out with b | ⟨t,b,q⟩ <;>
    ·go_wp2_with (first | (go_at_call 83;(with_reducible refine(l.out _).mono ?_);rintro e y ⟨rfl,rfl⟩))
     all_goals (go_ret;exact⟨AZ (by rw[c.out]),rfl⟩)
   have C:=aA (Gn s.data.toList m (fun⟨h,e⟩=>g ⟨by simpa using h,e⟩));have c:Hid (i+An (s.data.toList.drop i)=m):=by rw[o.out,C.out];exact rfl
   have f:¬ m<s.size\/(∃h:m<s.size,((s[m].toNat:Int)==101)=false/\((s[m].toNat:Int)==69)=false):=by
    by_cases h:m<s.size
    ·exact .inr ⟨h,Ao (d:=101) (fun e=>g ⟨h,.inl e⟩),Ao (d:=69) (fun e=>g ⟨h,.inr e⟩)⟩
    exact .inl h
   have A:=aA f;clear g f;rcases A.out with f | ⟨E,f,x⟩ <;>
   ·go_wp2
    all_goals (go_ret;exact⟨AZ (by rw[c.out]),rfl⟩)
  have v:=aA (FP _ _ _ (P.out.2 (by omega) (by omega)));obtain⟨R,h2⟩:¬ i<d/\¬ d+1<p:=⟨by omega,by omega⟩;clear N
  go_in
  go_upto_if 25 with(go_at_call 83;refine(O.out _).mono ?_;rintro e y ⟨rfl,rfl⟩)
  go_wp2_with (go_at_call 83;refine(I.out _).mono ?_;rintro e y ⟨rfl,rfl⟩)
  go_ret;exact⟨AZ (by rw[v.out]),rfl⟩
 obtain⟨m,rfl⟩:∃m,m=d:=⟨d,rfl⟩;have v:=aA (Z.out (fun⟨h,e⟩=>z ⟨by simpa using h,e⟩))
 have H:¬ m<s.size\/(∃h:m<s.size,((s[m].toNat:Int)==46)=false):=by
  by_cases h:m<s.size
  ·exact .inr ⟨h,Ao (d:=46) (fun e=>z ⟨h,e⟩)⟩
  exact .inl h
 have G:=aA H;clear z H;by_cases R:i<m
 ·rw[decide_eq_true R] at v
  rcases G.out with u | ⟨K,u⟩
  ·have C:=aA (Gn s.data.toList m (fun⟨h,_⟩=>u (by simpa using h)))
   have c:Hid (i+An (s.data.toList.drop i)=m):=by rw[D1 _ _ _ v.out,C.out];exact rfl
   go_in
   go_wp2_with (go_at_call 83;refine(O.out _).mono ?_;rintro e y ⟨rfl,rfl⟩)
   all_goals (go_ret;exact⟨AZ (by rw[c.out]),rfl⟩)
  go_in
  go_upto_if 25 with(go_at_call 83;refine(O.out _).mono ?_;rintro e y ⟨rfl,rfl⟩)
  have o:=aA (D1 _ _ _ v.out);by_cases g:∃h:m<s.size,s[m]=101\/s[m]=69
  ·obtain⟨E,g⟩:=g
   have C:=aA (ID s.data.toList m (by simpa using E) g)
   have f:((s[m].toNat:Int)==101)=true\/(((s[m].toNat:Int)==101)=false/\((s[m].toNat:Int)==69)=true):=by
    rcases g with g | g
    ·exact .inl (AH (d:=101) g)
    exact .inr ⟨Ao (d:=101) (by rw[g];decide),AH (d:=69) g⟩
   have A:=aA f;clear g f;by_cases j:∃h:m+1<s.size,s[m+1]=43\/s[m+1]=45
   ·obtain⟨t,j⟩:=j
    have J:=aA (Je s.data.toList (m+1) (by simpa using t) j)
    have b:((s[m+1].toNat:Int)==43)=true\/(((s[m+1].toNat:Int)==43)=false/\((s[m+1].toNat:Int)==45)=true):=by
     rcases j with j | j
     ·exact .inl (AH (d:=43) j)
     exact .inr ⟨Ao (d:=43) (by rw[j];decide),AH (d:=45) j⟩
    have k:=aA b;clear j b;obtain⟨n,F⟩:∃n,m+1+1+Al Aj (s.data.toList.drop (m+1+1))=n:=⟨_,rfl⟩;have l:=aA (fun W=>DP s (m+1+1) n ((m:Int)+1+1) (by omega) W Q.out (by omega) F)
    have B:Hid (i+An (s.data.toList.drop i)=if m+1+1<n then n else m):=by
     unfold Hid;rw[o.out,C.out,J.out];by_cases D:Al Aj (s.data.toList.drop (m+1+1))=0
     ·rw[if_pos D,if_neg (by omega)];omega
     rw[if_neg D,if_pos (by omega)];omega
    have L:m+1+1<=n:=(by omega);have M:n<=s.size:=by have:=Bp Aj (s.data.toList.drop (m+1+1));simp at this;omega
    clear F;by_cases r:m+1+1<n
    ·have c:Hid (i+An (s.data.toList.drop i)=n):=by rw[B.out,if_pos r];exact rfl
     rcases A.out with f | ⟨f,x⟩<;>rcases k.out with b | ⟨b,q⟩ <;>
     ·go_wp2_with (first | (go_at_call 83;(with_reducible refine(l.out _).mono ?_);rintro e y ⟨rfl,rfl⟩))
      all_goals (go_ret;exact⟨AZ (by rw[c.out]),rfl⟩)
    have c:Hid (i+An (s.data.toList.drop i)=m):=by rw[B.out,if_neg r];exact rfl
    rcases A.out with f | ⟨f,x⟩<;>rcases k.out with b | ⟨b,q⟩ <;>
    ·go_wp2_with (first | (go_at_call 83;(with_reducible refine(l.out _).mono ?_);rintro e y ⟨rfl,rfl⟩))
     all_goals (go_ret;exact⟨AZ (by rw[c.out]),rfl⟩)
   have J:=aA (Jd s.data.toList (m+1) (fun⟨h,e⟩=>j ⟨by simpa using h,e⟩))
   have b:¬ m+1<s.size\/(∃h:m+1<s.size,((s[m+1].toNat:Int)==43)=false/\((s[m+1].toNat:Int)==45)=false):=by
    by_cases h:m+1<s.size
    ·exact .inr ⟨h,Ao (d:=43) (fun e=>j ⟨h,.inl e⟩),Ao (d:=45) (fun e=>j ⟨h,.inr e⟩)⟩
    exact .inl h
   have k:=aA b;clear j b;obtain⟨n,F⟩:∃n,m+1+Al Aj (s.data.toList.drop (m+1))=n:=⟨_,rfl⟩;have l:=aA (fun W=>DP s (m+1) n ((m:Int)+1) (by omega) W Q.out (by omega) F)
   have B:Hid (i+An (s.data.toList.drop i)=if m+1<n then n else m):=by
    unfold Hid;rw[o.out,C.out,J.out,Nat.add_zero];by_cases D:Al Aj (s.data.toList.drop (m+1))=0
    ·rw[if_pos D,if_neg (by omega)];omega
    rw[if_neg D,if_pos (by omega)];omega
   have L:m+1<=n:=(by omega);have M:n<=s.size:=by have:=Bp Aj (s.data.toList.drop (m+1));simp at this;omega
   clear F;by_cases r:m+1<n
   ·have c:Hid (i+An (s.data.toList.drop i)=n):=by rw[B.out,if_pos r];exact rfl
    rcases A.out with f | ⟨f,x⟩<;>rcases k.out with b | ⟨t,b,q⟩ <;>
    ·go_wp2_with (first | (go_at_call 83;(with_reducible refine(l.out _).mono ?_);rintro e y ⟨rfl,rfl⟩))
     all_goals (go_ret;exact⟨AZ (by rw[c.out]),rfl⟩)
   have c:Hid (i+An (s.data.toList.drop i)=m):=by rw[B.out,if_neg r];exact rfl
   rcases A.out with f | ⟨f,x⟩<;>rcases k.out with b | ⟨t,b,q⟩ <;>
   ·go_wp2_with (first | (go_at_call 83;(with_reducible refine(l.out _).mono ?_);rintro e y ⟨rfl,rfl⟩))
    all_goals (go_ret;exact⟨AZ (by rw[c.out]),rfl⟩)
  have C:=aA (Gn s.data.toList m (fun⟨h,e⟩=>g ⟨by simpa using h,e⟩));have c:Hid (i+An (s.data.toList.drop i)=m):=by rw[o.out,C.out];exact rfl
  have f:¬ m<s.size\/(∃h:m<s.size,((s[m].toNat:Int)==101)=false/\((s[m].toNat:Int)==69)=false):=by
   by_cases h:m<s.size
   ·exact .inr ⟨h,Ao (d:=101) (fun e=>g ⟨h,.inl e⟩),Ao (d:=69) (fun e=>g ⟨h,.inr e⟩)⟩
   exact .inl h
  have A:=aA f;clear g f;rcases A.out with f | ⟨E,f,x⟩ <;>
  ·go_wp2
   all_goals (go_ret;exact⟨AZ (by rw[c.out]),rfl⟩)
 rw[decide_eq_false R] at v;have U:=aA (FP _ _ _ v.out);rcases G.out with u | ⟨K,u⟩ <;>
 ·go_in
  go_wp2_with (go_at_call 83;refine(O.out _).mono ?_;rintro e y ⟨rfl,rfl⟩)
  go_ret;exact⟨AZ (by rw[U.out]),rfl⟩
end Go.Proofs.YtipfpohlnhmlpaaGreatDoor
