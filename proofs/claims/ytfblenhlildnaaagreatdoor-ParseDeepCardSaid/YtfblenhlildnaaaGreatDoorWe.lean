/- We Wf Wg Yc Yd -/
import Derived.Test.YtfblenhlildnaaaGreatDoorWd
import Derived.Test.YtfblenhlildnaaaGreatDoorGm
import Derived.Test.YtfblenhlildnaaaGreatDoorMp
import Derived.Test.YtfblenhlildnaaaGreatDoorYb
import Derived.OwnWalk
set_option maxRecDepth 100000
set_option maxHeartbeats 8000000
open Go.Lib renaming hid->aA
open Nat renaming le_refl->aB
open Go.RowKit.Below renaming refl->aC
open List renaming drop_eq_nil_of_le->aD
open Go.Value renaming oneCell'->aE
open Go.World renaming ownsRow_nil->aF
open UInt8 renaming ofNat->aG
namespace Go.Proofs.YtfblenhlildnaaaGreatDoor
open Go.Proofs.Tryz
open Go.RowKit
def Ap (kind:Int) (a:List UInt8) (num:Nat) (f t:Int):Value:=.agg #[.int .i64 kind,.string ⟨a.toArray⟩,.float .f64 num,.int .i64 f,.int .i64 t]
def C7 (l:List UInt8) (i:Nat):Value :=
 let t:=AF 34 l (i+1)
 if t<0 then .tuple #[Ap 0 [] 0 i 0,.int .i64 21]
 else match FN (Bc l (i+1) t.toNat) with
  | none => .tuple #[Ap 0 [] 0 i 0,.int .i64 22]
  | some x => .tuple #[Ap 3 x 0 i (t+1),.int .i64 0]
theorem S8 (s:ByteArray) (i:Nat) (w:World) (hs:s.size<=140737488351232) (hi:i<s.size) (hq:s[i]=34):Calls prog 126 #[.string s,.int .i64 i] w fun e w'=>e = .returned (C7 s.data.toList i)/\Below w.heap.size w w':=by
 have hm:s.size<=maxLen:=by unfold maxLen;omega
 have HI:=aA (Hp s i 34);obtain⟨i0,N,O,Q,R⟩:=info_parts Tryz.info_u8;by_cases q:AF 34 s.data.toList (i+1)<0
 ·have HV:Hid (C7 s.data.toList i = .tuple #[Ap 0 [] 0 i 0,.int .i64 21]):=by
   unfold C7;dsimp only;rw[if_pos q];exact rfl
  go_in
  go_wp2_with (go_at_call 175;refine(HI.out _ hm hi hq).mono ?_;rintro e w' ⟨rfl,rfl⟩)
  refine bodyPost_ret (v:=.tuple #[Ap 0 [] 0 i 0,.int .i64 21]) (by simp[results,results126,go_sem,Ap]) rfl ⟨by rw[HV.out],(aC _ _).alloc (aB _) _⟩
 obtain⟨t,U⟩:∃t:Nat,AF 34 s.data.toList (i+1)=t:=⟨(AF 34 s.data.toList (i+1)).toNat,by omega⟩;have F:=Cl _ _ _ _ U;have o0:t<s.size:=(by simpa using F.2);have e0:=F.1
 have HT:Hid (C7 s.data.toList i=match FN (Bc s.data.toList (i+1) t) with | none => .tuple #[Ap 0 [] 0 i 0,.int .i64 22] | some x => .tuple #[Ap 3 x 0 i (t+1),.int .i64 0]):=by
  unfold C7;dsimp only;rw[if_neg q,U];rfl
 have HC:=aA U;clear q F
 go_in
 go_wp2_with (go_at_call 175;refine(HI.out _ hm hi hq).mono ?_;rw[HC.out];rintro e w' ⟨rfl,rfl⟩)
 clear U
 go_loopw [7,8] (fun v j wr=>∃(k:Nat) (f:List UInt8),i+1<=k/\k<=t/\j = .int .i64 k/\AF 34 s.data.toList k=t/\FN (Bc s.data.toList (i+1) t)=(FN (Bc s.data.toList k t)).map (f ++ ·)/\f.length<=k/\wr.ownsRow (w.heap.size+1) 5 1 v f.length (Ge f)/\Below (w.heap.size+1) (w.alloc (.cells #[.int .i64 0,.string { data := #[] },.float .f64 0,.int .i64 0,.int .i64 0] 70)) wr) (fun _ j _=>t-(intOf j).toNat)
 case atStart=>exact⟨i+1,[],by omega,e0,by go_num,HC.out,by simp,by simp,aF _ _ _ _,aC _ _⟩
 obtain⟨k,f,k0,l0,rfl,L,hd,j0,o,G⟩:=hrel;have H:=aA hd;clear hd;have V:=aA L;clear L;by_cases E:k<t
 ·have D:k<s.data.toList.length:=by simp;omega
  have h0:k<s.size:=(by omega);obtain⟨I,J,B,C⟩:=GW 34 s.data.toList k t V.out E D;have hB:w.heap.size+1<=wr.heap.size:=by have:=G.size;simpa using this
  by_cases y:s[k]=92
  ·have K:((s[k].toNat:Int) != 92)=false:=Et (d:=92) y
   obtain⟨g0,A⟩:=C y;have S:=aA (fun W=>Nf s (k+1) t W hm (by omega) (by omega));have r:=aA (And.intro (Ov (Bc s.data.toList (k+1) t)) (Ow (Bc s.data.toList (k+1) t)));have u:=aA (KU s.data.toList k t E D);have p:=aA (Pt s.data.toList k t g0 A);rw[show (s.data.toList.drop (k+1)).take (t-(k+1))=Bc s.data.toList (k+1) t from rfl] at p;clear I J B C A;rw[AO] at y;have z:=aA y;clear y;generalize d0:BZ (Bc s.data.toList (k+1) t)=bn at S r p;obtain⟨b,n⟩:=bn;clear d0;dsimp only at S r p;by_cases T:n=0
   ·subst T
    have X:Hid (C7 s.data.toList i = .tuple #[Ap 0 [] 0 i 0,.int .i64 22]):=by
     rw[HT.out,H.out,u.out,z.out,r.out.1 rfl];rfl
    go_wp2_with (go_at_call 176;refine(S.out _).mono ?_;rintro e w1 ⟨rfl,g⟩;have h:=G.trans (g.mono hB);obtain⟨Z,c1,c2,c3,c4,f0,f1,f2,f3,f4⟩:=DB h)
    refine bodyPost_ret (v:=.tuple #[Ap 0 [] 0 i 0,.int .i64 22]) (by simp[results,results126,go_sem,Ap,Z,c1,c2,c3,c4]) rfl ⟨by rw[X.out],BR h _ _ _ _ _⟩
   have m0:((n:Int)==0)=false:=beq_eq_false_iff_ne.2 (by omega);have n0:=(p.out T).2;have Y:=aA (p.out T).1
   go_wp2_with (first | (go_at_call 176;refine(S.out _).mono ?_;rintro e w1 ⟨rfl,g⟩;have h:=G.trans (g.mono hB);have l:=PW o g) | (at_builtin;refine wpList_append_own _ rfl _ _ 119 rfl (w.heap.size+1) 5 i0 (.int .u8 0) 1 1 underlying119 N O Q R rfl (by decide) _ _ _ rfl (l.alloc _) ⟨w1.heap.size,0,none⟩ 1 1 [.int .u8 b.toNat] rfl rfl ?d1 ?d2 ?d3 ?d4 ?d5 ?_))
   case d1=>exact cell_one_new _ _ _
   case d2=>simp[aE]
   case d3=>unfold maxLen;omega
   case d4=>omega
   case d5=>have:=g.size;simp;omega
   intro v' w2 c a _;obtain⟨m,a0⟩:=Ca l h (by have:=g.size;omega) c a;clear c a l g h;go_wp2
   go_roundw
   case rel =>
    refine⟨k+1+n,f++[b],by omega,by omega,?_,Y.out,?_,by simp;omega,m,a0⟩
    ·congr 1;omega
    rw[H.out,u.out,z.out,r.out.2 T,RG];simp[Function.comp_def]
   simp[intOf];omega
  have K:((s[k].toNat:Int) != 92)=true:=Cu (d:=92) y;have Y:=aA (B y);have HP:=aA (JZ s[k] (Bc s.data.toList (k+1) t) y);have u:=aA (KU s.data.toList k t E D);clear I J B C y
  go_wp2_with (at_builtin;refine wpList_append_own _ rfl _ _ 119 rfl (w.heap.size+1) 5 i0 (.int .u8 0) 1 1 underlying119 N O Q R rfl (by decide) _ _ _ rfl (o.alloc _) ⟨wr.heap.size,0,none⟩ 1 1 [.int .u8 s[k].toNat] rfl rfl ?c1 ?c2 ?c3 ?c4 ?c5 ?_)
  case c1=>exact cell_one_new _ _ _
  case c2=>simp[aE]
  case c3=>unfold maxLen;omega
  case c4=>omega
  case c5=>simp;omega
  intro v' w1 c a _;obtain⟨m,h⟩:=Ca o G hB c a;clear c a;go_wp2
  go_roundw
  case rel =>
   refine⟨k+1,f++[s[k]],by omega,by omega,by go_num,Y.out,?_,by simp;omega,m,h⟩;rw[H.out,u.out,<- AO s k h0,HP.out];simp[Function.comp_def]
  simp[intOf];omega
 obtain rfl:k=t:=(by omega);have b0:=Ci (P:=prog) underlying119 underlying5 underlying9 o;obtain⟨Z,c1,c2,c3,c4,f0,f1,f2,f3,f4⟩:=DB G;have M:FN (Bc s.data.toList (i+1) k)=some f:=by rw[H.out,KV,Ox];simp
 have X:Hid (C7 s.data.toList i = .tuple #[Ap 3 f 0 i (k+1),.int .i64 0]):=by rw[HT.out,M];rfl
 clear H M;go_wp2;refine bodyPost_ret (v:=.tuple #[Ap 3 f 0 i (k+1),.int .i64 0]) (by simp[results,results126,go_sem,Ap,Z,c1,c2,c3,c4]) rfl ⟨by rw[X.out],BR G _ _ _ _ _⟩
def Cr (l:List UInt8) (i:Nat):Value :=
 let t:=AF 47 l (i+1)
 if t<0 then .tuple #[Ap 0 [] 0 i 0,.int .i64 21]
 else .tuple #[Ap 4 (Df (Bc l (i+1) t.toNat)) 0 i (t+1),.int .i64 0]
theorem P_ (s:ByteArray) (i:Nat) (w:World) (hs:s.size<=140737488351232) (hi:i<s.size) (hq:s[i]=47):Calls prog 127 #[.string s,.int .i64 i] w fun e w'=>e = .returned (Cr s.data.toList i)/\Below w.heap.size w w':=by
 have hm:s.size<=maxLen:=by unfold maxLen;omega
 have HI:=aA (Hp s i 47);obtain⟨W,r,u,x,y⟩:=info_parts Tryz.info_u8;by_cases o:AF 47 s.data.toList (i+1)<0
 ·have HV:Hid (Cr s.data.toList i = .tuple #[Ap 0 [] 0 i 0,.int .i64 21]):=by
   unfold Cr;dsimp only;rw[if_pos o];exact rfl
  go_in
  go_wp2_with (go_at_call 175;refine(HI.out _ hm hi hq).mono ?_;rintro e w' ⟨rfl,rfl⟩)
  refine bodyPost_ret (v:=.tuple #[Ap 0 [] 0 i 0,.int .i64 21]) (by simp[results,results127,go_sem,Ap]) rfl ⟨by rw[HV.out],(aC _ _).alloc (aB _) _⟩
 obtain⟨t,V⟩:∃t:Nat,AF 47 s.data.toList (i+1)=t:=⟨(AF 47 s.data.toList (i+1)).toNat,by omega⟩;have H:=Cl _ _ _ _ V;have n0:t<s.size:=(by simpa using H.2);have e0:=H.1
 have HT:Hid (Cr s.data.toList i = .tuple #[Ap 4 (Df (Bc s.data.toList (i+1) t)) 0 i (t+1),.int .i64 0]):=by
  unfold Cr;dsimp only;rw[if_neg o,V];rfl
 have HC:=aA V;clear o H
 go_in
 go_wp2_with (go_at_call 175;refine(HI.out _ hm hi hq).mono ?_;rw[HC.out];rintro e w' ⟨rfl,rfl⟩)
 clear V
 go_loopw [7,8] (fun v j wr=>∃(k:Nat) (h:List UInt8),i+1<=k/\k<=t/\j = .int .i64 k/\AF 47 s.data.toList k=t/\Df (Bc s.data.toList (i+1) t)=h++Df (Bc s.data.toList k t)/\h.length<=k/\wr.ownsRow (w.heap.size+1) 5 1 v h.length (Ge h)/\Below (w.heap.size+1) (w.alloc (.cells #[.int .i64 0,.string { data := #[] },.float .f64 0,.int .i64 0,.int .i64 0] 70)) wr) (fun _ j _=>t-(intOf j).toNat)
 case atStart=>exact⟨i+1,[],by omega,e0,by go_num,HC.out,by simp,by simp,aF _ _ _ _,aC _ _⟩
 obtain⟨k,h,k0,l0,rfl,Q,n,j0,g,p⟩:=hrel;have J:=aA n;clear n;have Y:=aA Q;clear Q;by_cases T:k<t
 ·have S:k<s.data.toList.length:=by simp;omega
  have g0:k<s.size:=(by omega);have Z:w.heap.size+1<=wr.heap.size:=by have:=p.size;simpa using this
  obtain⟨K,L,E,F⟩:=GW 47 s.data.toList k t Y.out T S;have D:=aA (KU s.data.toList k t T S);by_cases q:s[k]=92
  ·have O:((s[k].toNat:Int)==92)=true:=AH (d:=92) q
   obtain⟨m0,C⟩:=F q;have U:=aA C;have h0:k+1<s.size:=(by omega);have A:=aA (KU s.data.toList (k+1) t (by omega) (by simp;omega));clear K L E F C;rw[AO] at q;have z:=aA q;clear q;by_cases n:s[k+1]=47
   ·have N:((s[k+1].toNat:Int) != 47)=false:=Et (d:=47) n
    rw[AO] at n;have m:=aA n;clear n
    go_wp2_with (at_builtin;refine wpList_append_own _ rfl _ _ 119 rfl (w.heap.size+1) 5 W (.int .u8 0) 1 1 underlying119 r u x y rfl (by decide) _ _ _ rfl (g.alloc _) ⟨wr.heap.size,0,none⟩ 1 1 [.int .u8 s[k+1].toNat] rfl rfl ?a1 ?a2 ?a3 ?a4 ?a5 ?_)
    case a1=>exact cell_one_new _ _ _
    case a2=>simp[aE]
    case a3=>unfold maxLen;omega
    case a4=>omega
    case a5=>have:=p.size;simp;omega
    intro v' X b a _;obtain⟨f,l⟩:=Ca g p Z b a;clear b a;go_wp2
    go_roundw
    case rel =>
     refine⟨k+2,h++[s[k+1]],by omega,by omega,by congr 1,U.out,?_,by simp;omega,f,l⟩;rw[J.out,D.out,A.out,z.out,AO,m.out,Oj];simp
    simp[intOf];omega
   have N:((s[k+1].toNat:Int) != 47)=true:=Cu (d:=47) n;rw[AO] at n;have m:=aA n;clear n
   go_wp2_with (at_builtin;refine wpList_append_own _ rfl _ _ 119 rfl (w.heap.size+1) 5 W (.int .u8 0) 1 1 underlying119 r u x y rfl (by decide) _ _ _ rfl (g.alloc _) ⟨wr.heap.size,0,none⟩ 1 1 [.int .u8 92] rfl rfl ?b1 ?b2 ?b3 ?b4 ?b5 ?_)
   case b1=>exact cell_one_new _ _ _
   case b2=>simp[aE]
   case b3=>unfold maxLen;omega
   case b4=>omega
   case b5=>have:=p.size;simp;omega
   intro v' X b a _;obtain⟨f,l⟩:=Ca (c:=92) g p Z b a;have a0:w.heap.size+1<=X.heap.size:=by have:=l.size;simpa using this
   have M:(h++[92]).length<=k+1:=by simp;omega
   clear b a g p;generalize B:h++[92]=acc2 at f M;have I:=aA B;clear B
   go_wp2_with (at_builtin;refine wpList_append_own _ rfl _ _ 119 rfl (w.heap.size+1) 5 W (.int .u8 0) 1 1 underlying119 r u x y rfl (by decide) _ _ _ rfl (f.alloc _) ⟨X.heap.size,0,none⟩ 1 1 [.int .u8 s[k+1].toNat] rfl rfl ?e1 ?e2 ?e3 ?e4 ?e5 ?_)
   case e1=>exact cell_one_new _ _ _
   case e2=>simp[aE]
   case e3=>unfold maxLen;omega
   case e4=>omega
   case e5=>have:=l.size;simp;omega
   intro v2 w2 b a _;obtain⟨G,b0⟩:=Ca f l a0 b a;clear b a;go_wp2
   go_roundw
   case rel =>
    refine⟨k+2,acc2++[s[k+1]],by omega,by omega,by congr 1,U.out,?_,by simp;omega,G,b0⟩;rw[J.out,D.out,A.out,z.out,AO,UL _ _ m.out,<- I.out];simp
   simp[intOf];omega
  have O:((s[k].toNat:Int)==92)=false:=Ao (d:=92) q;have U:=aA (E q);have HP:=aA (Oi s[k] (Bc s.data.toList (k+1) t) q);clear K L E F q
  go_wp2_with (at_builtin;refine wpList_append_own _ rfl _ _ 119 rfl (w.heap.size+1) 5 W (.int .u8 0) 1 1 underlying119 r u x y rfl (by decide) _ _ _ rfl (g.alloc _) ⟨wr.heap.size,0,none⟩ 1 1 [.int .u8 s[k].toNat] rfl rfl ?c1 ?c2 ?c3 ?c4 ?c5 ?_)
  case c1=>exact cell_one_new _ _ _
  case c2=>simp[aE]
  case c3=>unfold maxLen;omega
  case c4=>omega
  case c5=>have:=p.size;simp;omega
  intro v' X b a _;obtain⟨f,l⟩:=Ca g p Z b a;clear b a;go_wp2
  go_roundw
  case rel =>
   refine⟨k+1,h++[s[k]],by omega,by omega,by go_num,U.out,?_,by simp;omega,f,l⟩;rw[J.out,D.out,<- AO s k g0,HP.out];simp
  simp[intOf];omega
 obtain rfl:k=t:=(by omega);have d0:=Ci (P:=prog) underlying119 underlying5 underlying9 g;obtain⟨c0,c1,c2,c3,c4,f0,f1,f2,f3,f4⟩:=DB p;have R:Df (Bc s.data.toList (i+1) k)=h:=by rw[J.out,KV,Td];simp
 have HF:Hid (Cr s.data.toList i = .tuple #[Ap 4 h 0 i (k+1),.int .i64 0]):=by rw[HT.out,R];exact rfl
 clear J R;go_wp2;refine bodyPost_ret (v:=.tuple #[Ap 4 h 0 i (k+1),.int .i64 0]) (by simp[results,results127,go_sem,Ap,c0,c1,c2,c3,c4]) rfl ⟨by rw[HF.out],BR p _ _ _ _ _⟩
def Co (l:List UInt8) (i:Nat):Nat:=i+Al BI (l.drop i)
def A6 (l:List UInt8) (i:Nat):Int :=
 if Dj (Bc l i (Co l i))=true then 8 else if AbT (Bc l i (Co l i))=true then 7
 else if l[Co l i]?=some 40 then 6 else 5
def DG (l:List UInt8) (i:Nat):Value:=Ap (A6 l i) (Bc l i (Co l i)) 0 i (Co l i)
theorem Zo (s:ByteArray) (i:Nat) (w:World) (N:s.size<=maxLen) (O:i<s.size):Calls prog 125 #[.string s,.int .i64 i] w fun e b=>e = .returned (DG s.data.toList i)/\Below w.heap.size w b:=by
 unfold maxLen at N
 go_in
 go_wp2
 go_loop [5] (fun n=>∃k:Nat,i<=k/\k<=s.size/\n = .int .i64 k/\Co s.data.toList i=k+Al BI (s.data.toList.drop k)) (fun n=>s.size-(intOf n).toNat)
 case atStart=>exact⟨i,aB _,by omega,rfl,rfl⟩
 obtain⟨k,M,P,rfl,A⟩:=hrel;have p:=aA A;clear A;by_cases f:∃h:k<s.size,BI s[k]=true
 ·obtain⟨a,z⟩:=f
  have K:=aA (Da BI s.data.toList k (by simpa using a) z)
  have E:DI s[k].toNat=true\/(DI s[k].toNat=false/\C3 s[k].toNat=true):=by
   cases t:DI s[k].toNat with
   | true=>exact .inl rfl
   | false=>exact .inr ⟨rfl,by simpa[BI,AbH,t,Aj] using z⟩
  clear z;rcases E with t | ⟨t,F⟩ <;>
  ·go_wp2_with (first | (go_at_call 34;refine(AN _ _).mono ?_;rintro e b ⟨rfl,rfl⟩) | (go_at_call 35;refine(AV _ _).mono ?_;rintro e b ⟨rfl,rfl⟩))
   go_round
   case rel=>exact⟨k+1,by omega,by omega,by go_num,by rw[p.out,K.out];omega⟩
   simp[intOf];omega
 have D:Hid (Co s.data.toList i=k):=by
  have L:Al BI (s.data.toList.drop k)=0:=by
   by_cases a:k<s.size
   ·exact DQ _ _ _ (by simpa using a) (by cases r:BI s[k] with | true=>exact absurd ⟨a,r⟩ f | false=>exact r)
   exact C' _ _ _ (by simpa using a)
  rw[p.out,L];rfl
 clear p;have C:(s.extract i k).data.toList=Bc s.data.toList i k:=Lib.extract_data _ _ _;have I:(⟨(Bc s.data.toList i k).toArray⟩:ByteArray)=s.extract i k:=(by rw[<- C]);have q:=aA (fun W=>PH (s.extract i k) _ C W);have u:=aA (fun W=>Nl (s.extract i k) _ C W)
 have J:Hid (∀kd,A6 s.data.toList i=kd->DG s.data.toList i = .agg #[.int .i64 kd,.string (s.extract i k),.float .f64 0,.int .i64 i,.int .i64 k]):=fun kd h=>by
  rw[DG,h,D.out,Ap,I]
 have o:Hid (A6 s.data.toList i=if Dj (Bc s.data.toList i k)=true then 8 else if AbT (Bc s.data.toList i k)=true then 7 else if s.data.toList[k]?=some 40 then 6 else 5):=by
  rw[A6,D.out];exact rfl
 have H:Hid (∀h:k<s.size,s.data.toList[k]?=some s[k]):=fun h=>by
  rw[List.getElem?_eq_getElem (by simpa using h)];rfl
 have m:¬ k<s.size\/(∃h:k<s.size,DI s[k].toNat=false/\C3 s[k].toNat=false):=by
  by_cases a:k<s.size
  ·refine .inr ⟨a,?_⟩
   have z:BI s[k]=false:=by cases r:BI s[k] with | true=>exact absurd ⟨a,r⟩ f | false=>rfl
   simpa[BI,AbH,Aj] using z
  exact .inl a
 have l:=aA m;clear m;clear I C D f;generalize Dj (Bc s.data.toList i k)=b1 at q o;generalize AbT (Bc s.data.toList i k)=b2 at u o;have x:∀kd (h:A6 s.data.toList i=kd) (G:World),Below w.heap.size w G->(fun e b=>e=Ending.returned (DG s.data.toList i)/\Below w.heap.size w b) (.returned (.agg #[.int .i64 kd,.string (s.extract i k),.float .f64 0,.int .i64 i,.int .i64 k])) G:=fun kd h G r=>⟨by rw[J.out kd h],r⟩;have j:=aA x;clear x
 cases b1 with
 | true =>
   have c:Hid (A6 s.data.toList i=8):=by rw[o.out];rfl
   rcases l.out with a | ⟨a,t,F⟩ <;>
   ·go_wp2_with (first | (go_at_call 36;refine(q.out _).mono ?_;rintro e b ⟨rfl,rfl⟩) | (go_at_call 34;refine(AN _ _).mono ?_;rintro e b ⟨rfl,rfl⟩) | (go_at_call 35;refine(AV _ _).mono ?_;rintro e b ⟨rfl,rfl⟩))
    refine bodyPost_ret (v:=.agg #[.int .i64 8,.string (s.extract i k),.float .f64 0,.int .i64 i,.int .i64 k]) (by simp[results,results125,go_sem]) rfl (j.out _ c.out _ (((aC _ _).alloc (aB _) _).alloc (by simp) _))
 | false =>
   cases b2 with
   | true =>
     have c:Hid (A6 s.data.toList i=7):=by rw[o.out];rfl
     rcases l.out with a | ⟨a,t,F⟩ <;>
     ·go_wp2_with (first | (go_at_call 36;refine(q.out _).mono ?_;rintro e b ⟨rfl,rfl⟩) | (go_at_call 37;refine(u.out _).mono ?_;rintro e b ⟨rfl,rfl⟩) | (go_at_call 34;refine(AN _ _).mono ?_;rintro e b ⟨rfl,rfl⟩) | (go_at_call 35;refine(AV _ _).mono ?_;rintro e b ⟨rfl,rfl⟩))
      refine bodyPost_ret (v:=.agg #[.int .i64 7,.string (s.extract i k),.float .f64 0,.int .i64 i,.int .i64 k]) (by simp[results,results125,go_sem]) rfl (j.out _ c.out _ (((aC _ _).alloc (aB _) _).alloc (by simp) _))
   | false =>
     rcases l.out with a | ⟨a,t,F⟩
     ·have c:Hid (A6 s.data.toList i=5):=by rw[o.out,List.getElem?_eq_none (by simpa using a)];rfl
      go_wp2_with (first | (go_at_call 36;refine(q.out _).mono ?_;rintro e b ⟨rfl,rfl⟩) | (go_at_call 37;refine(u.out _).mono ?_;rintro e b ⟨rfl,rfl⟩) | (go_at_call 34;refine(AN _ _).mono ?_;rintro e b ⟨rfl,rfl⟩) | (go_at_call 35;refine(AV _ _).mono ?_;rintro e b ⟨rfl,rfl⟩))
      refine bodyPost_ret (v:=.agg #[.int .i64 5,.string (s.extract i k),.float .f64 0,.int .i64 i,.int .i64 k]) (by simp[results,results125,go_sem]) rfl (j.out _ c.out _ (((aC _ _).alloc (aB _) _).alloc (by simp) _))
     by_cases g:s[k]=40
     ·have c:Hid (A6 s.data.toList i=6):=by rw[o.out,H.out a,g];rfl
      have y:((s[k].toNat:Int)==40)=true:=AH (d:=40) g;clear g
      go_wp2_with (first | (go_at_call 36;refine(q.out _).mono ?_;rintro e b ⟨rfl,rfl⟩) | (go_at_call 37;refine(u.out _).mono ?_;rintro e b ⟨rfl,rfl⟩) | (go_at_call 34;refine(AN _ _).mono ?_;rintro e b ⟨rfl,rfl⟩) | (go_at_call 35;refine(AV _ _).mono ?_;rintro e b ⟨rfl,rfl⟩))
      refine bodyPost_ret (v:=.agg #[.int .i64 6,.string (s.extract i k),.float .f64 0,.int .i64 i,.int .i64 k]) (by simp[results,results125,go_sem]) rfl (j.out _ c.out _ (((aC _ _).alloc (aB _) _).alloc (by simp) _))
     have B:A6 s.data.toList i=5:=by rw[o.out,H.out a];simp[g]
     have c:=aA B;clear B;have y:((s[k].toNat:Int)==40)=false:=Ao (d:=40) g;clear g
     go_wp2_with (first | (go_at_call 36;refine(q.out _).mono ?_;rintro e b ⟨rfl,rfl⟩) | (go_at_call 37;refine(u.out _).mono ?_;rintro e b ⟨rfl,rfl⟩) | (go_at_call 34;refine(AN _ _).mono ?_;rintro e b ⟨rfl,rfl⟩) | (go_at_call 35;refine(AV _ _).mono ?_;rintro e b ⟨rfl,rfl⟩))
     refine bodyPost_ret (v:=.agg #[.int .i64 5,.string (s.extract i k),.float .f64 0,.int .i64 i,.int .i64 k]) (by simp[results,results125,go_sem]) rfl (j.out _ c.out _ (((aC _ _).alloc (aB _) _).alloc (by simp) _))
def Ez (c:UInt8):UInt8:=if c=110 then 10 else if c=116 then 9 else if c=114 then 13 else if c=102 then 12 else if c=118 then 11 else if c=97 then 7 else if c=98 then 8 else c
def OT (c:Int):Int:=if c=110 then 10 else if c=116 then 9 else if c=114 then 13 else if c=102 then 12 else if c=118 then 11 else if c=97 then 7 else if c=98 then 8 else c
theorem Sm (c:UInt8):((Ez c).toNat:Int)=OT c.toNat:=by
 have a:∀k:Fin 256,(((Ez ⟨⟨k⟩⟩).toNat:Nat):Int)=OT (((⟨⟨k⟩⟩:UInt8).toNat:Nat):Int):=(by decide +kernel);exact a c.toBitVec.toFin
theorem KQ (c:Int) (w:World):Calls prog 105 #[.int .u8 c] w fun e a=>e = .returned (.int .u8 (OT c))/\w=a:=by
 go_in
 go_wp2
 all_goals
  go_ret;refine⟨AZ ?_,rfl⟩;unfold OT
  simp_all
theorem Xj (c:UInt8) (w:World):Calls prog 105 #[.int .u8 c.toNat] w fun e a=>e = .returned (.int .u8 (Ez c).toNat)/\w=a:=by
 rw[Sm];exact KQ _ w
theorem LS (c:UInt8):(A4.idxOf c<10/\(c=34\/c=92\/c=47\/Ez c≠c)/\F7.getD (A4.idxOf c) 0=Ez c/\¬ (48<=c.toNat/\c.toNat<=55))\/(¬ A4.idxOf c<10/\c≠34/\c≠92/\c≠47/\Ez c=c):=by
 have a:∀k:Fin 256,(A4.idxOf (⟨⟨k⟩⟩:UInt8)<10/\((⟨⟨k⟩⟩:UInt8)=34\/(⟨⟨k⟩⟩:UInt8)=92\/(⟨⟨k⟩⟩:UInt8)=47\/Ez ⟨⟨k⟩⟩≠⟨⟨k⟩⟩)/\F7.getD (A4.idxOf (⟨⟨k⟩⟩:UInt8)) 0=Ez ⟨⟨k⟩⟩/\¬ (48<=(⟨⟨k⟩⟩:UInt8).toNat/\(⟨⟨k⟩⟩:UInt8).toNat<=55))\/(¬ A4.idxOf (⟨⟨k⟩⟩:UInt8)<10/\(⟨⟨k⟩⟩:UInt8)≠34/\(⟨⟨k⟩⟩:UInt8)≠92/\(⟨⟨k⟩⟩:UInt8)≠47/\Ez ⟨⟨k⟩⟩=⟨⟨k⟩⟩):=(by decide +kernel);exact a c.toBitVec.toFin
theorem MQ {l:List UInt8} {k:Nat} (h:k<l.length) (b:l[k]≠92\/¬ k+1<l.length):BG (l.drop k)=l[k]::BG (l.drop (k+1)):=by
 rw[Aq l k h];by_cases a:k+1<l.length
 ·rw[Aq l (k+1) a,BG,if_neg (by rcases b with h | h;exact h;exact absurd a h)]
 rw[aD (by omega)];rfl
theorem Oh {l:List UInt8} {k:Nat} (h:k+1<l.length) (a:l[k]=92):BG (l.drop k)=if l[k+1]=47 then l[k+1]::BG (l.drop (k+2)) else 92::l[k+1]::BG (l.drop (k+2)):=by
 rw[Aq l k (by omega),Aq l (k+1) h,BG,if_pos a]
theorem OA (s:ByteArray) (k:Nat) (h:k<s.size):(s.extract k (k+1)).data.toList=[s[k]]:=by
 rw[Lib.extract_data,Aq s.data.toList k (by simpa using h),show k+1-k=1 by omega];rfl
theorem MH (a b:ByteArray):(a++b).size=a.size+b.size:=by simp
theorem LH (a b:ByteArray):(a++b).data.toList=a.data.toList++b.data.toList:=by simp
theorem Fz (s:ByteArray) (w:World) (B:s.size<=140737488351232) :
  Calls prog 81 #[.string s] w fun e y=>e = .returned (.string ⟨(BG s.data.toList).toArray⟩)/\w=y:=by
 obtain⟨U,q⟩:∃U,BG s.data.toList=U:=⟨_,rfl⟩;rw[q];have u:=aA q;clear q
 go_in
 go_wp2
 go_loopw [3,4] (fun t i wr=>∃(k:Nat) (T:ByteArray),t = .string T/\i = .int .i64 k/\k<=s.size/\T.size<=k/\Hid (T.data.toList++BG (s.data.toList.drop k)=U)/\w=wr) (fun _ i _=>s.size-(intOf i).toNat)
 case atStart=>exact⟨0,⟨#[]⟩,rfl,rfl,by omega,aB _,u,rfl⟩
 obtain⟨k,T,rfl,rfl,A,z,c,rfl⟩:=hrel;clear u;by_cases j:k<s.size
 ·have v:k<s.data.toList.length:=by simpa using j
  have m:=aA (OA s k j);by_cases a:s[k]=92
  ·have b1:((s[k].toNat:Int)==92)=true:=AH (d:=92) a
   by_cases p:k+1<s.size
   ·have o:=aA (OA s (k+1) p)
    have n:Hid (BG (s.data.toList.drop k)=if s[k+1]=47 then s[k+1]::BG (s.data.toList.drop (k+2)) else 92::s[k+1]::BG (s.data.toList.drop (k+2))):=Oh (l:=s.data.toList) (k:=k) (by simpa using p) a;have f:(s.extract (k+1) (k+1+1)).size=1:=by show (s.extract (k+1) (k+1+1)).data.toList.length=1;rw[o.out];rfl
    have h:=aA f;clear f;by_cases b:s[k+1]=47
    ·have b2:((s[k+1].toNat:Int) != 47)=false:=Et (d:=47) b
     have g:Hid ((T++s.extract (k+1) (k+1+1)).data.toList++BG (s.data.toList.drop (k+2))=U):=by
      unfold Hid;rw[<- c.out,n.out,if_pos b,LH,o.out];simp
     clear c n b a;go_wp2
     go_roundw
     case rel=>exact⟨k+2,_,rfl,by go_num,by omega,by rw[MH,h.out];omega,g,by first | rfl | trivial⟩
     simp[intOf];omega
    have b2:((s[k+1].toNat:Int) != 47)=true:=Cu (d:=47) b
    have g:Hid ((T++⟨#[92]⟩++s.extract (k+1) (k+1+1)).data.toList++BG (s.data.toList.drop (k+2))=U):=by
     unfold Hid;rw[<- c.out,n.out,if_neg b,LH,LH,o.out];simp
    clear c n b a;go_wp2
    go_roundw
    case rel=>exact⟨k+2,_,rfl,by go_num,by omega,by rw[MH,MH,h.out];show T.size+1+1<=_;omega,g,by first | rfl | trivial⟩
    simp[intOf];omega
   have g:Hid ((T++s.extract k (k+1)).data.toList++BG (s.data.toList.drop (k+1))=U):=by
    unfold Hid;have r:BG (s.data.toList.drop k)=s[k]::BG (s.data.toList.drop (k+1)):=MQ v (.inr (by simpa using p));rw[<- c.out,r,LH,m.out];simp
   have f:(s.extract k (k+1)).size=1:=by show (s.extract k (k+1)).data.toList.length=1;rw[m.out];rfl
   have h:=aA f;clear c a f;go_wp2
   go_roundw
   case rel=>exact⟨k+1,_,rfl,by go_num,by omega,by rw[MH,h.out];omega,g,by first | rfl | trivial⟩
   simp[intOf];omega
  have b1:((s[k].toNat:Int)==92)=false:=Ao (d:=92) a
  have g:Hid ((T++s.extract k (k+1)).data.toList++BG (s.data.toList.drop (k+1))=U):=by
   unfold Hid;have r:BG (s.data.toList.drop k)=s[k]::BG (s.data.toList.drop (k+1)):=MQ v (.inl a);rw[<- c.out,r,LH,m.out];simp
  have f:(s.extract k (k+1)).size=1:=by show (s.extract k (k+1)).data.toList.length=1;rw[m.out];rfl
  have h:=aA f;clear c a f;go_wp2
  go_roundw
  case rel=>exact⟨k+1,_,rfl,by go_num,by omega,by rw[MH,h.out];omega,g,by first | rfl | trivial⟩
  simp[intOf];omega
 have x:Hid (T=⟨U.toArray⟩):=by
  apply GU;rw[<- c.out,aD (by simp;omega)];simp[BG]
 clear c;go_wp2;go_ret;exact⟨by rw[x.out];rfl,rfl⟩
def GJ (l:List UInt8):Value:=match FN l with | none => .tuple #[.string ⟨#[]⟩,.bool false] | some x => .tuple #[.string ⟨x.toArray⟩,.bool true]
theorem Gd {l:List UInt8} (h:FN l=none):GJ l = .tuple #[.string ⟨#[]⟩,.bool false]:=by unfold GJ;rw[h]
theorem Jw {l x:List UInt8} (h:FN l=some x):GJ l = .tuple #[.string ⟨x.toArray⟩,.bool true]:=by unfold GJ;rw[h]
theorem QG (m:Nat):3-(m+1)=2-m:=by omega
theorem Og {m:Nat} (h:m<3):3-m=2-m+1:=by omega
theorem QH {W:World} {B:Nat} {v:Value} {a:List UInt8} (h:W.ownsRow B 5 1 v a.length (Ge a)):(convert 119 9 v).run prog W = .ok (.string ⟨a.toArray⟩) W :=
 Ci (P:=prog) underlying119 underlying5 underlying9 h
theorem DO (wr:World) (T:TypeId) (x:Int):∀j u,[Value.int .u8 x][j]?=some u->(wr.alloc (.cells #[.int .u8 x] T)).cell? ((⟨wr.heap.size,0,none⟩:Addr).add j)=some u:=by
 intro j u h;rw[Addr.add_lit,World.cell?_alloc_at _ _ _ _ rfl];simpa using h
theorem Ey (x:Int):∀u∈[Value.int .u8 x],u.oneCell'=true:=by
 intro u a;rw[List.mem_singleton.1 a];rfl
theorem Vk {l:List UInt8} {k:Nat} (h:k<l.length) (a:l[k]≠92):FN (l.drop k)=(FN (l.drop (k+1))).map (l[k] :: ·):=by
 rw[Aq l k h,JZ _ _ a]
theorem Q_ {l:List UInt8} {k:Nat} (h:k<l.length) (a:l[k]=92):FN (l.drop k)=if (BZ (l.drop (k+1))).2=0 then none else (FN (l.drop (k+1+(BZ (l.drop (k+1))).2))).map ((BZ (l.drop (k+1))).1 :: ·):=by
 rw[Aq l k h,a];split
 ·next h0=>rw[Ov _ h0]
 next h0=>rw[Ow _ h0,List.drop_drop]
theorem S9 (s:ByteArray) (w:World) (hs:s.size<=140737488351232) :
  Calls prog 82 #[.string s] w fun e S=>e = .returned (GJ s.data.toList)/\Below w.heap.size w S:=by
 obtain⟨D,hD⟩:∃D,FN s.data.toList=D:=⟨_,rfl⟩;have HD:=aA hD;have G:=aA (fun c W=>Xj c W);obtain⟨R,A,B,C,E⟩:=info_parts Tryz.info_u8;clear hD
 go_in
 go_wp2
 go_loopw [4,5] (fun v j wr=>∃(k:Nat) (g:List UInt8),k<=s.size/\j = .int .i64 k/\g.length<=k/\Hid (D=(FN (s.data.toList.drop k)).map (g ++ ·))/\Hid (wr.ownsRow w.heap.size 5 1 v g.length (Ge g))/\Hid (Below w.heap.size w wr)) (fun _ j _=>s.size-(intOf j).toNat)
 case atStart=>exact⟨0,[],by omega,rfl,by simp,by unfold Hid;rw[List.drop_zero,HD.out];cases D<;>simp,aF _ _ _ _,aC _ _⟩
 obtain⟨k,g,hk,rfl,q0,F,z,o⟩:=hrel;by_cases k0:k<s.size
 ·have hl:k<s.data.toList.length:=by simpa using k0
  by_cases q:s[k]=92
  ·have b1:((s[k].toNat:Int) != 92)=false:=Et (d:=92) q
   have N:=aA (Q_ hl q);by_cases h1:k+1<s.size
   ·have Z:k+1<s.data.toList.length:=by simpa using h1
    by_cases l:48<=s[k+1].toNat/\s[k+1].toNat<=55
    ·rcases LS s[k+1] with⟨_,_,_,I⟩ | ⟨I,_⟩
     ·exact absurd l I
     have i:BZ (s.data.toList.drop (k+1))=(aG (D_ 3 0 (s.data.toList.drop (k+1))).1,(D_ 3 0 (s.data.toList.drop (k+1))).2):=by
      rw[Aq _ _ Z];exact if_neg I
     have m0:(48:Int)<=(s[k+1].toNat:Int):=(by omega);have n0:(s[k+1].toNat:Int)<=55:=(by omega);have L:=aA i;clear i I q;go_wp2
     go_loopw [7,8] (fun a b wx=>∃m n:Nat,a = .int .i64 n/\b = .int .i64 (k+1+m:Nat)/\k+1+m<=s.size/\Hid (D_ 3 0 (s.data.toList.drop (k+1))=((D_ (3-m) n (s.data.toList.drop (k+1+m))).1,(D_ (3-m) n (s.data.toList.drop (k+1+m))).2+m))/\((m=0/\n=0)\/(m=1/\n<8)\/(m=2/\n<64)\/(m=3/\n<512))/\wr=wx) (fun _ b _=>k+4-(intOf b).toNat)
     case atStart=>exact⟨0,0,rfl,by go_num,by omega,rfl,.inl ⟨rfl,rfl⟩,rfl⟩
     obtain⟨m,n,rfl,rfl,hm,HM,a0,rfl⟩:=hrel;by_cases H:(k+1+m<s.size/\m<3)/\∃h:k+1+m<s.size,48<=s[k+1+m].toNat/\s[k+1+m].toNat<=55
     ·obtain⟨⟨X,Y⟩,_,h0,j0⟩:=H
      have g1:(48:Int)<=(s[k+1+m].toNat:Int):=(by omega);have g2:(s[k+1+m].toNat:Int)<=55:=by omega
      have f0:Hid (D_ 3 0 (s.data.toList.drop (k+1))=((D_ (3-(m+1)) (8*n+(s[k+1+m].toNat-48)) (s.data.toList.drop (k+1+(m+1)))).1,(D_ (3-(m+1)) (8*n+(s[k+1+m].toNat-48)) (s.data.toList.drop (k+1+(m+1)))).2+(m+1))):=by
       have hq:=OM (2-m) n s.data.toList (k+1+m) (by simpa using X) ⟨h0,j0⟩;have o0:D_ (2-m+1) n (s.data.toList.drop (k+1+m))=((D_ (2-m) (8*n+(s[k+1+m].toNat-48)) (s.data.toList.drop (k+1+m+1))).1,(D_ (2-m) (8*n+(s[k+1+m].toNat-48)) (s.data.toList.drop (k+1+m+1))).2+1):=hq;unfold Hid;rw[HM.out,Og Y,o0,QG,<- Nat.add_assoc (k+1) m 1];exact Prod.ext rfl (by show _+1+m=_+(m+1);rw[Nat.add_assoc,Nat.add_comm 1 m])
      clear HM;go_wp2
      go_roundw
      case rel=>exact⟨m+1,8*n+(s[k+1+m].toNat-48),by go_num,by go_num,by omega,f0,by omega,by first | rfl | trivial⟩
      simp[intOf];omega
     have l0:n<512:=by rcases a0 with⟨_,h⟩ | ⟨_,h⟩ | ⟨_,h⟩ | ⟨_,h⟩<;>omega
     have s0:m≠0:=by
      rintro rfl;exact H ⟨⟨h1,by omega⟩,h1,l.1,l.2⟩
     have O:D_ (3-m) n (s.data.toList.drop (k+1+m))=(n,0):=by
      by_cases y:k+1+m<s.size
      ·by_cases r:m<3
       ·exact R3 _ _ _ _ (by simpa using y) fun h=>H ⟨⟨y,r⟩,y,h.1,h.2⟩
       rw[show 3-m=0 by omega];rfl
      exact OL _ _ _ _ (by simp;omega)
     have i:BZ (s.data.toList.drop (k+1))=(aG n,m):=by rw[L.out,HM.out,O];simp
     have M:Hid (D=(FN (s.data.toList.drop (k+1+m))).map ((g++[aG n]) ++ ·)):=by
      unfold Hid;rw[F.out,N.out,i,if_neg (show ¬ (m=0) by omega)];cases FN (s.data.toList.drop (k+1+m))<;>simp
     have Q:¬ k+1+m<s.size\/(k+1+m<s.size/\¬ m<3)\/(m<3/\∃h:k+1+m<s.size,(s[k+1+m].toNat:Int)<48)\/(m<3/\∃h:k+1+m<s.size,48<=(s[k+1+m].toNat:Int)/\55<(s[k+1+m].toNat:Int)):=by
      by_cases y:k+1+m<s.size
      ·by_cases r:m<3
       ·by_cases hC:48<=s[k+1+m].toNat
        ·exact .inr (.inr (.inr ⟨r,y,by omega,by rcases Nat.lt_or_ge 55 s[k+1+m].toNat with h | h;omega;exact absurd ⟨⟨y,r⟩,y,hC,h⟩ H⟩))
        exact .inr (.inr (.inl ⟨r,y,by omega⟩))
       exact .inr (.inl ⟨y,r⟩)
      exact .inl y
     have V:(n:Int)%256=((aG n).toNat:Int):=by rw[UInt8.toNat_ofNat'];omega
     have e0:=aA V;clear H O i HM L N F a0 l m0 n0 V;rcases Q with y | ⟨y,r⟩ | ⟨r,y,hC⟩ | ⟨r,y,hC,p0⟩
     all_goals
      go_wp2_with (at_builtin;refine wpList_append_own _ rfl _ _ 119 rfl w.heap.size 5 R (.int .u8 0) 1 1 underlying119 A B C E rfl (by decide) _ _ _ rfl (z.out.alloc _) ⟨wr.heap.size,0,none⟩ 1 1 [.int .u8 ((n:Int)%256)] rfl rfl (DO _ _ _) (Ey _) (by unfold maxLen;omega) (by omega) (by have:=o.out.size;simp;omega) ?_;intro v' w1 t x _;rw[e0.out] at t;have f:=aA (Ca z.out o.out o.out.size t x);clear t x)
      go_roundw
      case rel=>exact⟨k+1+m,g++[aG n],by omega,by go_num,by simp;omega,M,f.out.1,f.out.2⟩
      simp[intOf];omega
    have i:BZ (s.data.toList.drop (k+1))=if A4.idxOf s[k+1]<10 then (F7.getD (A4.idxOf s[k+1]) 0,1) else (0,0):=by
     rw[Aq _ _ Z,BZ];show (if A4.idxOf s[k+1]<10 then _ else _)=_;split
     ·rfl
     have ho:D_ 3 0 (s.data.toList[k+1]::List.drop (k+1+1) s.data.toList)=(0,0):=by rw[D_];exact if_neg l
     rw[ho];rfl
    have u:(s[k+1].toNat:Int)<48\/(48<=(s[k+1].toNat:Int)/\55<(s[k+1].toNat:Int)):=(by omega);rcases LS s[k+1] with⟨I,hw,hv,_⟩ | ⟨I,b0,d0,c0,he⟩
    ·rw[if_pos I,hv] at i
     have M:Hid (D=(FN (s.data.toList.drop (k+2))).map ((g++[Ez s[k+1]]) ++ ·)):=by
      unfold Hid;rw[F.out,N.out,i,if_neg (show ¬ (1=0) by decide)];show Option.map _ (Option.map _ (FN (s.data.toList.drop (k+1+1))))=_;rw[show k+1+1=k+2 by omega];cases FN (s.data.toList.drop (k+2))<;>simp
     clear F N i hv I q l;rcases hw with p | p | p | p
     ·have c1:((s[k+1].toNat:Int) != 34)=false:=Et (d:=34) p
      clear p;rcases u with J | ⟨J,K⟩
      all_goals
       go_wp2_with (first
        | (go_at_call 105;refine(G.out s[k+1] _).mono ?_;rintro e S ⟨rfl,rfl⟩)
        | (at_builtin;refine wpList_append_own _ rfl _ _ 119 rfl w.heap.size 5 R (.int .u8 0) 1 1 underlying119 A B C E rfl (by decide) _ _ _ rfl (z.out.alloc _) ⟨wr.heap.size,0,none⟩ 1 1 [.int .u8 (Ez s[k+1]).toNat] rfl rfl (DO _ _ _) (Ey _) (by unfold maxLen;omega) (by omega) (by have:=o.out.size;simp;omega) ?_;intro v' w1 t x _;have f:=aA (Ca z.out o.out o.out.size t x);clear t x))
       go_roundw
       case rel=>exact⟨k+2,g++[Ez s[k+1]],by omega,by go_num,by simp;omega,M,f.out.1,f.out.2⟩
       simp[intOf];omega
     ·have P:((s[k+1].toNat:Int) != 34)=true:=Cu (d:=34) (by rw[p];decide)
      have c1:((s[k+1].toNat:Int) != 92)=false:=Et (d:=92) p;clear p;rcases u with J | ⟨J,K⟩
      all_goals
       go_wp2_with (first
        | (go_at_call 105;refine(G.out s[k+1] _).mono ?_;rintro e S ⟨rfl,rfl⟩)
        | (at_builtin;refine wpList_append_own _ rfl _ _ 119 rfl w.heap.size 5 R (.int .u8 0) 1 1 underlying119 A B C E rfl (by decide) _ _ _ rfl (z.out.alloc _) ⟨wr.heap.size,0,none⟩ 1 1 [.int .u8 (Ez s[k+1]).toNat] rfl rfl (DO _ _ _) (Ey _) (by unfold maxLen;omega) (by omega) (by have:=o.out.size;simp;omega) ?_;intro v' w1 t x _;have f:=aA (Ca z.out o.out o.out.size t x);clear t x))
       go_roundw
       case rel=>exact⟨k+2,g++[Ez s[k+1]],by omega,by go_num,by simp;omega,M,f.out.1,f.out.2⟩
       simp[intOf];omega
     ·have P:((s[k+1].toNat:Int) != 34)=true:=Cu (d:=34) (by rw[p];decide)
      have U:((s[k+1].toNat:Int) != 92)=true:=Cu (d:=92) (by rw[p];decide);have c1:((s[k+1].toNat:Int) != 47)=false:=Et (d:=47) p;clear p;rcases u with J | ⟨J,K⟩
      all_goals
       go_wp2_with (first
        | (go_at_call 105;refine(G.out s[k+1] _).mono ?_;rintro e S ⟨rfl,rfl⟩)
        | (at_builtin;refine wpList_append_own _ rfl _ _ 119 rfl w.heap.size 5 R (.int .u8 0) 1 1 underlying119 A B C E rfl (by decide) _ _ _ rfl (z.out.alloc _) ⟨wr.heap.size,0,none⟩ 1 1 [.int .u8 (Ez s[k+1]).toNat] rfl rfl (DO _ _ _) (Ey _) (by unfold maxLen;omega) (by omega) (by have:=o.out.size;simp;omega) ?_;intro v' w1 t x _;have f:=aA (Ca z.out o.out o.out.size t x);clear t x))
       go_roundw
       case rel=>exact⟨k+2,g++[Ez s[k+1]],by omega,by go_num,by simp;omega,M,f.out.1,f.out.2⟩
       simp[intOf];omega
     have P:((s[k+1].toNat:Int) != 34)=true:=Cu (d:=34) (by intro h;rw[h] at p;exact absurd (by decide) p);have U:((s[k+1].toNat:Int) != 92)=true:=Cu (d:=92) (by intro h;rw[h] at p;exact absurd (by decide) p);have g0:((s[k+1].toNat:Int) != 47)=true:=Cu (d:=47) (by intro h;rw[h] at p;exact absurd (by decide) p);have c1:(((Ez s[k+1]).toNat:Int)==(s[k+1].toNat:Int))=false:=beq_eq_false_iff_ne.2 fun h=>p (UInt8.toNat_inj.1 (by omega));clear p;rcases u with J | ⟨J,K⟩
     all_goals
      go_wp2_with (first
       | (go_at_call 105;refine(G.out s[k+1] _).mono ?_;rintro e S ⟨rfl,rfl⟩)
       | (at_builtin;refine wpList_append_own _ rfl _ _ 119 rfl w.heap.size 5 R (.int .u8 0) 1 1 underlying119 A B C E rfl (by decide) _ _ _ rfl (z.out.alloc _) ⟨wr.heap.size,0,none⟩ 1 1 [.int .u8 (Ez s[k+1]).toNat] rfl rfl (DO _ _ _) (Ey _) (by unfold maxLen;omega) (by omega) (by have:=o.out.size;simp;omega) ?_;intro v' w1 t x _;have f:=aA (Ca z.out o.out o.out.size t x);clear t x))
      go_roundw
      case rel=>exact⟨k+2,g++[Ez s[k+1]],by omega,by go_num,by simp;omega,M,f.out.1,f.out.2⟩
      simp[intOf];omega
    rw[if_neg I] at i;have T:Hid (GJ s.data.toList = .tuple #[.string ⟨#[]⟩,.bool false]):=Gd (by rw[HD.out,F.out,N.out,i,if_pos rfl];rfl);have P:((s[k+1].toNat:Int) != 34)=true:=Cu (d:=34) b0;have U:((s[k+1].toNat:Int) != 92)=true:=Cu (d:=92) d0;have g0:((s[k+1].toNat:Int) != 47)=true:=Cu (d:=47) c0;have c1:(((Ez s[k+1]).toNat:Int)==(s[k+1].toNat:Int))=true:=by rw[he];exact beq_self_eq_true _
    clear F N i I q b0 d0 c0 he l;rcases u with J | ⟨J,K⟩
    all_goals
     go_wp2_with (go_at_call 105;refine(G.out s[k+1] _).mono ?_;rintro e S ⟨rfl,rfl⟩)
     go_ret2
     exact⟨by rw[T.out];rfl,o.out⟩
   have i:BZ (s.data.toList.drop (k+1))=(0,0):=by rw[aD (by simp;omega)];rfl
   have T:Hid (GJ s.data.toList = .tuple #[.string ⟨#[]⟩,.bool false]):=Gd (by rw[HD.out,F.out,N.out,i,if_pos rfl];rfl);clear F N i q;go_wp2
   go_ret2
   exact⟨by rw[T.out];rfl,o.out⟩
  have b1:((s[k].toNat:Int) != 92)=true:=Cu (d:=92) q
  have M:Hid (D=(FN (s.data.toList.drop (k+1))).map ((g++[s[k]]) ++ ·)):=by
   have hq:FN (s.data.toList.drop k)=(FN (s.data.toList.drop (k+1))).map (s[k] :: ·):=Vk hl q;unfold Hid;rw[F.out,hq];cases FN (s.data.toList.drop (k+1))<;>simp
  clear F q
  go_wp2_with (at_builtin;refine wpList_append_own _ rfl _ _ 119 rfl w.heap.size 5 R (.int .u8 0) 1 1 underlying119 A B C E rfl (by decide) _ _ _ rfl (z.out.alloc _) ⟨wr.heap.size,0,none⟩ 1 1 [.int .u8 s[k].toNat] rfl rfl (DO _ _ _) (Ey _) (by unfold maxLen;omega) (by omega) (by have:=o.out.size;simp;omega) ?_;intro v' w1 t x _;have f:=aA (Ca z.out o.out o.out.size t x);clear t x)
  go_roundw
  case rel=>exact⟨k+1,g++[s[k]],by omega,by go_num,by simp;omega,M,f.out.1,f.out.2⟩
  simp[intOf];omega
 have T:Hid (GJ s.data.toList = .tuple #[.string ⟨g.toArray⟩,.bool true]):=Jw (by rw[HD.out,F.out,aD (by simp;omega),Ox];simp);have r0:=QH z.out;clear F;go_wp2
 go_ret2
 exact⟨by rw[T.out];rfl,o.out⟩
end Go.Proofs.YtfblenhlildnaaaGreatDoor
