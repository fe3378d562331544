/- We Wf Wg -/
import Derived.Test.YtjolfpcpcaocmaaGreatDoorWd
import Derived.Test.YtjolfpcpcaocmaaGreatDoorGm
import Derived.Test.YtjolfpcpcaocmaaGreatDoorMp
set_option maxRecDepth 100000
set_option maxHeartbeats 1600000
open Go.Lib renaming hid->aA
open Go.RowKit.Below renaming refl->aB
open Nat renaming le_refl->aC
open Go.Value renaming oneCell'->aD
namespace Go.Proofs.YtjolfpcpcaocmaaGreatDoor
open Go.Proofs.Tryz
open Go.RowKit
def Ap (kind:Int) (a:List UInt8) (num:Nat) (f t:Int):Value:=.agg #[.int .i64 kind,.string ⟨a.toArray⟩,.float .f64 num,.int .i64 f,.int .i64 t]
def C7 (l:List UInt8) (i:Nat):Value :=
 let t:=AF 34 l (i+1)
 if t<0 then .tuple #[Ap 0 [] 0 i 0,.int .i64 21]
 else match FN (Bc l (i+1) t.toNat) with
  | none => .tuple #[Ap 0 [] 0 i 0,.int .i64 22]
  | some x => .tuple #[Ap 3 x 0 i (t+1),.int .i64 0]
theorem S8 (s:ByteArray) (i:Nat) (w:World) (hs:s.size<=140737488351232) (hi:i<s.size) (hq:s[i]=34):Calls prog 33 #[.string s,.int .i64 i] w fun e w'=>e = .returned (C7 s.data.toList i)/\Below w.heap.size w w':=by
 have hm:s.size<=maxLen:=by unfold maxLen;omega
 have HI:=aA (Hp s i 34);obtain⟨i0,N,O,Q,R⟩:=info_parts Tryz.info_u8;by_cases q:AF 34 s.data.toList (i+1)<0
 ·have HV:Hid (C7 s.data.toList i = .tuple #[Ap 0 [] 0 i 0,.int .i64 21]):=by
   unfold C7;dsimp only;rw[if_pos q];exact rfl
  go_in
  go_wp2_with (go_at_call 51;refine(HI.out _ hm hi hq).mono ?_;rintro e w' ⟨rfl,rfl⟩)
  refine bodyPost_ret (v:=.tuple #[Ap 0 [] 0 i 0,.int .i64 21]) (by simp[results,results33,go_sem,Ap]) rfl ⟨by rw[HV.out],(aB _ _).alloc (aC _) _⟩
 obtain⟨t,U⟩:∃t:Nat,AF 34 s.data.toList (i+1)=t:=⟨(AF 34 s.data.toList (i+1)).toNat,by omega⟩;have F:=Cl _ _ _ _ U;have o0:t<s.size:=(by simpa using F.2);have e0:=F.1
 have HT:Hid (C7 s.data.toList i=match FN (Bc s.data.toList (i+1) t) with | none => .tuple #[Ap 0 [] 0 i 0,.int .i64 22] | some x => .tuple #[Ap 3 x 0 i (t+1),.int .i64 0]):=by
  unfold C7;dsimp only;rw[if_neg q,U];rfl
 have HC:=aA U;clear q F
 go_in
 go_wp2_with (go_at_call 51;refine(HI.out _ hm hi hq).mono ?_;rw[HC.out];rintro e w' ⟨rfl,rfl⟩)
 clear U
 go_loopw [7,8] (fun v j wr=>∃(k:Nat) (f:List UInt8),i+1<=k/\k<=t/\j = .int .i64 k/\AF 34 s.data.toList k=t/\FN (Bc s.data.toList (i+1) t)=(FN (Bc s.data.toList k t)).map (f ++ ·)/\f.length<=k/\wr.ownsRow (w.heap.size+1) 5 1 v f.length (Ge f)/\Below (w.heap.size+1) (w.alloc (.cells #[.int .i64 0,.string { data := #[] },.float .f64 0,.int .i64 0,.int .i64 0] 49)) wr) (fun _ j _=>t-(intOf j).toNat)
 case atStart=>exact⟨i+1,[],by omega,e0,by go_num,HC.out,by simp,by simp,World.ownsRow_nil _ _ _ _,aB _ _⟩
 obtain⟨k,f,k0,l0,rfl,L,hd,j0,o,G⟩:=hrel;have H:=aA hd;clear hd;have V:=aA L;clear L;by_cases E:k<t
 ·have D:k<s.data.toList.length:=by simp;omega
  have h0:k<s.size:=(by omega);obtain⟨I,J,B,C⟩:=GW 34 s.data.toList k t V.out E D;have hB:w.heap.size+1<=wr.heap.size:=by have:=G.size;simpa using this
  by_cases y:s[k]=92
  ·have K:((s[k].toNat:Int) != 92)=false:=Et (d:=92) y
   obtain⟨g0,A⟩:=C y;have S:=aA (fun W=>Nf s (k+1) t W hm (by omega) (by omega));have r:=aA (And.intro (Ov (Bc s.data.toList (k+1) t)) (Ow (Bc s.data.toList (k+1) t)));have u:=aA (KU s.data.toList k t E D);have p:=aA (Pt s.data.toList k t g0 A);rw[show (s.data.toList.drop (k+1)).take (t-(k+1))=Bc s.data.toList (k+1) t from rfl] at p;clear I J B C A;rw[AO] at y;have z:=aA y;clear y;generalize d0:BZ (Bc s.data.toList (k+1) t)=bn at S r p;obtain⟨b,n⟩:=bn;clear d0;dsimp only at S r p;by_cases T:n=0
   ·subst T
    have X:Hid (C7 s.data.toList i = .tuple #[Ap 0 [] 0 i 0,.int .i64 22]):=by
     rw[HT.out,H.out,u.out,z.out,r.out.1 rfl];rfl
    go_wp2_with (go_at_call 52;refine(S.out _).mono ?_;rintro e w1 ⟨rfl,g⟩;have h:=G.trans (g.mono hB);obtain⟨Z,c1,c2,c3,c4,f0,f1,f2,f3,f4⟩:=DB h)
    refine bodyPost_ret (v:=.tuple #[Ap 0 [] 0 i 0,.int .i64 22]) (by simp[results,results33,go_sem,Ap,Z,c1,c2,c3,c4]) rfl ⟨by rw[X.out],BR h _ _ _ _ _⟩
   have m0:((n:Int)==0)=false:=beq_eq_false_iff_ne.2 (by omega);have n0:=(p.out T).2;have Y:=aA (p.out T).1
   go_wp2_with (first | (go_at_call 52;refine(S.out _).mono ?_;rintro e w1 ⟨rfl,g⟩;have h:=G.trans (g.mono hB);have l:=PW o g) | (at_builtin;refine wpList_append_own _ rfl _ _ 78 rfl (w.heap.size+1) 5 i0 (.int .u8 0) 1 1 underlying78 N O Q R rfl (by decide) _ _ _ rfl (l.alloc _) ⟨w1.heap.size,0,none⟩ 1 1 [.int .u8 b.toNat] rfl rfl ?d1 ?d2 ?d3 ?d4 ?d5 ?_))
   case d1=>exact cell_one_new _ _ _
   case d2=>simp[aD]
   case d3=>unfold maxLen;omega
   case d4=>omega
   case d5=>have:=g.size;simp;omega
   intro v' w2 c a _;obtain⟨m,a0⟩:=Ca l h (by have:=g.size;omega) c a;clear c a l g h;go_wp2
   go_roundw
   case rel =>
    refine⟨k+1+n,f++[b],by omega,by omega,?_,Y.out,?_,by simp;omega,m,a0⟩
    ·congr 1;omega
    rw[H.out,u.out,z.out,r.out.2 T,RG];simp[Function.comp_def]
   simp[intOf];omega
  have K:((s[k].toNat:Int) != 92)=true:=Cu (d:=92) y;have Y:=aA (B y);have HP:=aA (JZ s[k] (Bc s.data.toList (k+1) t) y);have u:=aA (KU s.data.toList k t E D);clear I J B C y
  go_wp2_with (at_builtin;refine wpList_append_own _ rfl _ _ 78 rfl (w.heap.size+1) 5 i0 (.int .u8 0) 1 1 underlying78 N O Q R rfl (by decide) _ _ _ rfl (o.alloc _) ⟨wr.heap.size,0,none⟩ 1 1 [.int .u8 s[k].toNat] rfl rfl ?c1 ?c2 ?c3 ?c4 ?c5 ?_)
  case c1=>exact cell_one_new _ _ _
  case c2=>simp[aD]
  case c3=>unfold maxLen;omega
  case c4=>omega
  case c5=>simp;omega
  intro v' w1 c a _;obtain⟨m,h⟩:=Ca o G hB c a;clear c a;go_wp2
  go_roundw
  case rel =>
   refine⟨k+1,f++[s[k]],by omega,by omega,by go_num,Y.out,?_,by simp;omega,m,h⟩;rw[H.out,u.out,<- AO s k h0,HP.out];simp[Function.comp_def]
  simp[intOf];omega
 obtain rfl:k=t:=(by omega);have b0:=Ci (P:=prog) underlying78 underlying5 underlying9 o;obtain⟨Z,c1,c2,c3,c4,f0,f1,f2,f3,f4⟩:=DB G;have M:FN (Bc s.data.toList (i+1) k)=some f:=by rw[H.out,KV,Ox];simp
 have X:Hid (C7 s.data.toList i = .tuple #[Ap 3 f 0 i (k+1),.int .i64 0]):=by rw[HT.out,M];rfl
 clear H M;go_wp2;refine bodyPost_ret (v:=.tuple #[Ap 3 f 0 i (k+1),.int .i64 0]) (by simp[results,results33,go_sem,Ap,Z,c1,c2,c3,c4]) rfl ⟨by rw[X.out],BR G _ _ _ _ _⟩
def Cr (l:List UInt8) (i:Nat):Value :=
 let t:=AF 47 l (i+1)
 if t<0 then .tuple #[Ap 0 [] 0 i 0,.int .i64 21]
 else .tuple #[Ap 4 (Df (Bc l (i+1) t.toNat)) 0 i (t+1),.int .i64 0]
theorem P_ (s:ByteArray) (i:Nat) (w:World) (hs:s.size<=140737488351232) (hi:i<s.size) (hq:s[i]=47):Calls prog 34 #[.string s,.int .i64 i] w fun e w'=>e = .returned (Cr s.data.toList i)/\Below w.heap.size w w':=by
 have hm:s.size<=maxLen:=by unfold maxLen;omega
 have HI:=aA (Hp s i 47);obtain⟨W,r,u,x,y⟩:=info_parts Tryz.info_u8;by_cases o:AF 47 s.data.toList (i+1)<0
 ·have HV:Hid (Cr s.data.toList i = .tuple #[Ap 0 [] 0 i 0,.int .i64 21]):=by
   unfold Cr;dsimp only;rw[if_pos o];exact rfl
  go_in
  go_wp2_with (go_at_call 51;refine(HI.out _ hm hi hq).mono ?_;rintro e w' ⟨rfl,rfl⟩)
  refine bodyPost_ret (v:=.tuple #[Ap 0 [] 0 i 0,.int .i64 21]) (by simp[results,results34,go_sem,Ap]) rfl ⟨by rw[HV.out],(aB _ _).alloc (aC _) _⟩
 obtain⟨t,V⟩:∃t:Nat,AF 47 s.data.toList (i+1)=t:=⟨(AF 47 s.data.toList (i+1)).toNat,by omega⟩;have H:=Cl _ _ _ _ V;have n0:t<s.size:=(by simpa using H.2);have e0:=H.1
 have HT:Hid (Cr s.data.toList i = .tuple #[Ap 4 (Df (Bc s.data.toList (i+1) t)) 0 i (t+1),.int .i64 0]):=by
  unfold Cr;dsimp only;rw[if_neg o,V];rfl
 have HC:=aA V;clear o H
 go_in
 go_wp2_with (go_at_call 51;refine(HI.out _ hm hi hq).mono ?_;rw[HC.out];rintro e w' ⟨rfl,rfl⟩)
 clear V
 go_loopw [7,8] (fun v j wr=>∃(k:Nat) (h:List UInt8),i+1<=k/\k<=t/\j = .int .i64 k/\AF 47 s.data.toList k=t/\Df (Bc s.data.toList (i+1) t)=h++Df (Bc s.data.toList k t)/\h.length<=k/\wr.ownsRow (w.heap.size+1) 5 1 v h.length (Ge h)/\Below (w.heap.size+1) (w.alloc (.cells #[.int .i64 0,.string { data := #[] },.float .f64 0,.int .i64 0,.int .i64 0] 49)) wr) (fun _ j _=>t-(intOf j).toNat)
 case atStart=>exact⟨i+1,[],by omega,e0,by go_num,HC.out,by simp,by simp,World.ownsRow_nil _ _ _ _,aB _ _⟩
 obtain⟨k,h,k0,l0,rfl,Q,n,j0,g,p⟩:=hrel;have J:=aA n;clear n;have Y:=aA Q;clear Q;by_cases T:k<t
 ·have S:k<s.data.toList.length:=by simp;omega
  have g0:k<s.size:=(by omega);have Z:w.heap.size+1<=wr.heap.size:=by have:=p.size;simpa using this
  obtain⟨K,L,E,F⟩:=GW 47 s.data.toList k t Y.out T S;have D:=aA (KU s.data.toList k t T S);by_cases q:s[k]=92
  ·have O:((s[k].toNat:Int)==92)=true:=AH (d:=92) q
   obtain⟨m0,C⟩:=F q;have U:=aA C;have h0:k+1<s.size:=(by omega);have A:=aA (KU s.data.toList (k+1) t (by omega) (by simp;omega));clear K L E F C;rw[AO] at q;have z:=aA q;clear q;by_cases n:s[k+1]=47
   ·have N:((s[k+1].toNat:Int) != 47)=false:=Et (d:=47) n
    rw[AO] at n;have m:=aA n;clear n
    go_wp2_with (at_builtin;refine wpList_append_own _ rfl _ _ 78 rfl (w.heap.size+1) 5 W (.int .u8 0) 1 1 underlying78 r u x y rfl (by decide) _ _ _ rfl (g.alloc _) ⟨wr.heap.size,0,none⟩ 1 1 [.int .u8 s[k+1].toNat] rfl rfl ?a1 ?a2 ?a3 ?a4 ?a5 ?_)
    case a1=>exact cell_one_new _ _ _
    case a2=>simp[aD]
    case a3=>unfold maxLen;omega
    case a4=>omega
    case a5=>have:=p.size;simp;omega
    intro v' X b a _;obtain⟨f,l⟩:=Ca g p Z b a;clear b a;go_wp2
    go_roundw
    case rel =>
     refine⟨k+2,h++[s[k+1]],by omega,by omega,by congr 1,U.out,?_,by simp;omega,f,l⟩;rw[J.out,D.out,A.out,z.out,AO,m.out,Oj];simp
    simp[intOf];omega
   have N:((s[k+1].toNat:Int) != 47)=true:=Cu (d:=47) n;rw[AO] at n;have m:=aA n;clear n
   go_wp2_with (at_builtin;refine wpList_append_own _ rfl _ _ 78 rfl (w.heap.size+1) 5 W (.int .u8 0) 1 1 underlying78 r u x y rfl (by decide) _ _ _ rfl (g.alloc _) ⟨wr.heap.size,0,none⟩ 1 1 [.int .u8 92] rfl rfl ?b1 ?b2 ?b3 ?b4 ?b5 ?_)
   case b1=>exact cell_one_new _ _ _
   case b2=>simp[aD]
   case b3=>unfold maxLen;omega
   case b4=>omega
   case b5=>have:=p.size;simp;omega
   intro v' X b a _;obtain⟨f,l⟩:=Ca (c:=92) g p Z b a;have a0:w.heap.size+1<=X.heap.size:=by have:=l.size;simpa using this
   have M:(h++[92]).length<=k+1:=by simp;omega
   clear b a g p;generalize B:h++[92]=acc2 at f M;have I:=aA B;clear B
   go_wp2_with (at_builtin;refine wpList_append_own _ rfl _ _ 78 rfl (w.heap.size+1) 5 W (.int .u8 0) 1 1 underlying78 r u x y rfl (by decide) _ _ _ rfl (f.alloc _) ⟨X.heap.size,0,none⟩ 1 1 [.int .u8 s[k+1].toNat] rfl rfl ?e1 ?e2 ?e3 ?e4 ?e5 ?_)
   case e1=>exact cell_one_new _ _ _
   case e2=>simp[aD]
   case e3=>unfold maxLen;omega
   case e4=>omega
   case e5=>have:=l.size;simp;omega
   intro v2 w2 b a _;obtain⟨G,b0⟩:=Ca f l a0 b a;clear b a;go_wp2
   go_roundw
   case rel =>
    refine⟨k+2,acc2++[s[k+1]],by omega,by omega,by congr 1,U.out,?_,by simp;omega,G,b0⟩;rw[J.out,D.out,A.out,z.out,AO,UL _ _ m.out,<- I.out];simp
   simp[intOf];omega
  have O:((s[k].toNat:Int)==92)=false:=Ao (d:=92) q;have U:=aA (E q);have HP:=aA (Oi s[k] (Bc s.data.toList (k+1) t) q);clear K L E F q
  go_wp2_with (at_builtin;refine wpList_append_own _ rfl _ _ 78 rfl (w.heap.size+1) 5 W (.int .u8 0) 1 1 underlying78 r u x y rfl (by decide) _ _ _ rfl (g.alloc _) ⟨wr.heap.size,0,none⟩ 1 1 [.int .u8 s[k].toNat] rfl rfl ?c1 ?c2 ?c3 ?c4 ?c5 ?_)
  case c1=>exact cell_one_new _ _ _
  case c2=>simp[aD]
  case c3=>unfold maxLen;omega
  case c4=>omega
  case c5=>have:=p.size;simp;omega
  intro v' X b a _;obtain⟨f,l⟩:=Ca g p Z b a;clear b a;go_wp2
  go_roundw
  case rel =>
   refine⟨k+1,h++[s[k]],by omega,by omega,by go_num,U.out,?_,by simp;omega,f,l⟩;rw[J.out,D.out,<- AO s k g0,HP.out];simp
  simp[intOf];omega
 obtain rfl:k=t:=(by omega);have d0:=Ci (P:=prog) underlying78 underlying5 underlying9 g;obtain⟨c0,c1,c2,c3,c4,f0,f1,f2,f3,f4⟩:=DB p;have R:Df (Bc s.data.toList (i+1) k)=h:=by rw[J.out,KV,Td];simp
 have HF:Hid (Cr s.data.toList i = .tuple #[Ap 4 h 0 i (k+1),.int .i64 0]):=by rw[HT.out,R];exact rfl
 clear J R;go_wp2;refine bodyPost_ret (v:=.tuple #[Ap 4 h 0 i (k+1),.int .i64 0]) (by simp[results,results34,go_sem,Ap,c0,c1,c2,c3,c4]) rfl ⟨by rw[HF.out],BR p _ _ _ _ _⟩
def Co (l:List UInt8) (i:Nat):Nat:=i+Al BI (l.drop i)
def A6 (l:List UInt8) (i:Nat):Int :=
 if Dj (Bc l i (Co l i))=true then 8 else if B1 (Bc l i (Co l i))=true then 7
 else if l[Co l i]?=some 40 then 6 else 5
def DG (l:List UInt8) (i:Nat):Value:=Ap (A6 l i) (Bc l i (Co l i)) 0 i (Co l i)
theorem Zo (s:ByteArray) (i:Nat) (w:World) (N:s.size<=maxLen) (O:i<s.size):Calls prog 32 #[.string s,.int .i64 i] w fun e b=>e = .returned (DG s.data.toList i)/\Below w.heap.size w b:=by
 unfold maxLen at N
 go_in
 go_wp2
 go_loop [5] (fun n=>∃k:Nat,i<=k/\k<=s.size/\n = .int .i64 k/\Co s.data.toList i=k+Al BI (s.data.toList.drop k)) (fun n=>s.size-(intOf n).toNat)
 case atStart=>exact⟨i,aC _,by omega,rfl,rfl⟩
 obtain⟨k,M,P,rfl,A⟩:=hrel;have p:=aA A;clear A;by_cases f:∃h:k<s.size,BI s[k]=true
 ·obtain⟨a,z⟩:=f
  have K:=aA (Da BI s.data.toList k (by simpa using a) z)
  have E:DI s[k].toNat=true\/(DI s[k].toNat=false/\C3 s[k].toNat=true):=by
   cases t:DI s[k].toNat with
   | true=>exact .inl rfl
   | false=>exact .inr ⟨rfl,by simpa[BI,B2,t,Aj] using z⟩
  clear z;rcases E with t | ⟨t,F⟩ <;>
  ·go_wp2_with (first | (go_at_call 31;refine(AN _ _).mono ?_;rintro e b ⟨rfl,rfl⟩) | (go_at_call 29;refine(AV _ _).mono ?_;rintro e b ⟨rfl,rfl⟩))
   go_round
   case rel=>exact⟨k+1,by omega,by omega,by go_num,by rw[p.out,K.out];omega⟩
   simp[intOf];omega
 have D:Hid (Co s.data.toList i=k):=by
  have L:Al BI (s.data.toList.drop k)=0:=by
   by_cases a:k<s.size
   ·exact DQ _ _ _ (by simpa using a) (by cases r:BI s[k] with | true=>exact absurd ⟨a,r⟩ f | false=>exact r)
   exact C' _ _ _ (by simpa using a)
  rw[p.out,L];rfl
 clear p;have C:(s.extract i k).data.toList=Bc s.data.toList i k:=Lib.extract_data _ _ _;have I:(⟨(Bc s.data.toList i k).toArray⟩:ByteArray)=s.extract i k:=(by rw[<- C]);have q:=aA (fun W=>PH (s.extract i k) _ C W);have u:=aA (fun W=>Nl (s.extract i k) _ C W)
 have J:Hid (∀kd,A6 s.data.toList i=kd->DG s.data.toList i = .agg #[.int .i64 kd,.string (s.extract i k),.float .f64 0,.int .i64 i,.int .i64 k]):=fun kd h=>by
  rw[DG,h,D.out,Ap,I]
 have o:Hid (A6 s.data.toList i=if Dj (Bc s.data.toList i k)=true then 8 else if B1 (Bc s.data.toList i k)=true then 7 else if s.data.toList[k]?=some 40 then 6 else 5):=by
  rw[A6,D.out];exact rfl
 have H:Hid (∀h:k<s.size,s.data.toList[k]?=some s[k]):=fun h=>by
  rw[List.getElem?_eq_getElem (by simpa using h)];rfl
 have m:¬ k<s.size\/(∃h:k<s.size,DI s[k].toNat=false/\C3 s[k].toNat=false):=by
  by_cases a:k<s.size
  ·refine .inr ⟨a,?_⟩
   have z:BI s[k]=false:=by cases r:BI s[k] with | true=>exact absurd ⟨a,r⟩ f | false=>rfl
   simpa[BI,B2,Aj] using z
  exact .inl a
 have l:=aA m;clear m;clear I C D f;generalize Dj (Bc s.data.toList i k)=b1 at q o;generalize B1 (Bc s.data.toList i k)=b2 at u o;have x:∀kd (h:A6 s.data.toList i=kd) (G:World),Below w.heap.size w G->(fun e b=>e=Ending.returned (DG s.data.toList i)/\Below w.heap.size w b) (.returned (.agg #[.int .i64 kd,.string (s.extract i k),.float .f64 0,.int .i64 i,.int .i64 k])) G:=fun kd h G r=>⟨by rw[J.out kd h],r⟩;have j:=aA x;clear x
 cases b1 with
 | true =>
   have c:Hid (A6 s.data.toList i=8):=by rw[o.out];rfl
   rcases l.out with a | ⟨a,t,F⟩ <;>
   ·go_wp2_with (first | (go_at_call 49;refine(q.out _).mono ?_;rintro e b ⟨rfl,rfl⟩) | (go_at_call 31;refine(AN _ _).mono ?_;rintro e b ⟨rfl,rfl⟩) | (go_at_call 29;refine(AV _ _).mono ?_;rintro e b ⟨rfl,rfl⟩))
    refine bodyPost_ret (v:=.agg #[.int .i64 8,.string (s.extract i k),.float .f64 0,.int .i64 i,.int .i64 k]) (by simp[results,results32,go_sem]) rfl (j.out _ c.out _ (((aB _ _).alloc (aC _) _).alloc (by simp) _))
 | false =>
   cases b2 with
   | true =>
     have c:Hid (A6 s.data.toList i=7):=by rw[o.out];rfl
     rcases l.out with a | ⟨a,t,F⟩ <;>
     ·go_wp2_with (first | (go_at_call 49;refine(q.out _).mono ?_;rintro e b ⟨rfl,rfl⟩) | (go_at_call 50;refine(u.out _).mono ?_;rintro e b ⟨rfl,rfl⟩) | (go_at_call 31;refine(AN _ _).mono ?_;rintro e b ⟨rfl,rfl⟩) | (go_at_call 29;refine(AV _ _).mono ?_;rintro e b ⟨rfl,rfl⟩))
      refine bodyPost_ret (v:=.agg #[.int .i64 7,.string (s.extract i k),.float .f64 0,.int .i64 i,.int .i64 k]) (by simp[results,results32,go_sem]) rfl (j.out _ c.out _ (((aB _ _).alloc (aC _) _).alloc (by simp) _))
   | false =>
     rcases l.out with a | ⟨a,t,F⟩
     ·have c:Hid (A6 s.data.toList i=5):=by rw[o.out,List.getElem?_eq_none (by simpa using a)];rfl
      go_wp2_with (first | (go_at_call 49;refine(q.out _).mono ?_;rintro e b ⟨rfl,rfl⟩) | (go_at_call 50;refine(u.out _).mono ?_;rintro e b ⟨rfl,rfl⟩) | (go_at_call 31;refine(AN _ _).mono ?_;rintro e b ⟨rfl,rfl⟩) | (go_at_call 29;refine(AV _ _).mono ?_;rintro e b ⟨rfl,rfl⟩))
      refine bodyPost_ret (v:=.agg #[.int .i64 5,.string (s.extract i k),.float .f64 0,.int .i64 i,.int .i64 k]) (by simp[results,results32,go_sem]) rfl (j.out _ c.out _ (((aB _ _).alloc (aC _) _).alloc (by simp) _))
     by_cases g:s[k]=40
     ·have c:Hid (A6 s.data.toList i=6):=by rw[o.out,H.out a,g];rfl
      have y:((s[k].toNat:Int)==40)=true:=AH (d:=40) g;clear g
      go_wp2_with (first | (go_at_call 49;refine(q.out _).mono ?_;rintro e b ⟨rfl,rfl⟩) | (go_at_call 50;refine(u.out _).mono ?_;rintro e b ⟨rfl,rfl⟩) | (go_at_call 31;refine(AN _ _).mono ?_;rintro e b ⟨rfl,rfl⟩) | (go_at_call 29;refine(AV _ _).mono ?_;rintro e b ⟨rfl,rfl⟩))
      refine bodyPost_ret (v:=.agg #[.int .i64 6,.string (s.extract i k),.float .f64 0,.int .i64 i,.int .i64 k]) (by simp[results,results32,go_sem]) rfl (j.out _ c.out _ (((aB _ _).alloc (aC _) _).alloc (by simp) _))
     have B:A6 s.data.toList i=5:=by rw[o.out,H.out a];simp[g]
     have c:=aA B;clear B;have y:((s[k].toNat:Int)==40)=false:=Ao (d:=40) g;clear g
     go_wp2_with (first | (go_at_call 49;refine(q.out _).mono ?_;rintro e b ⟨rfl,rfl⟩) | (go_at_call 50;refine(u.out _).mono ?_;rintro e b ⟨rfl,rfl⟩) | (go_at_call 31;refine(AN _ _).mono ?_;rintro e b ⟨rfl,rfl⟩) | (go_at_call 29;refine(AV _ _).mono ?_;rintro e b ⟨rfl,rfl⟩))
     refine bodyPost_ret (v:=.agg #[.int .i64 5,.string (s.extract i k),.float .f64 0,.int .i64 i,.int .i64 k]) (by simp[results,results32,go_sem]) rfl (j.out _ c.out _ (((aB _ _).alloc (aC _) _).alloc (by simp) _))
end Go.Proofs.YtjolfpcpcaocmaaGreatDoor
