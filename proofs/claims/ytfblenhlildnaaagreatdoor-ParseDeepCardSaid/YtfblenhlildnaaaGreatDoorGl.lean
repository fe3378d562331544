/- Gl Wl Wn Va Wm Xb Rl -/
import Derived.WalkKit
import Derived.Lib.LaidU8
import Derived.OpenShut
import Derived.Test.YtfblenhlildnaaaGreatDoorWj
import Derived.Test.YtfblenhlildnaaaGreatDoorWr
import Derived.Deep.DeepCutAuto
import Derived.Deep.CutBlock
import Derived.Test.YtfblenhlildnaaaGreatDoorWi
import Derived.WideLaws
import Derived.Lib.BufferWrite
import Derived.Lib.UnsafeStr
import Derived.Lib.IfaceEq
import Derived.Lib.AtoiErrMem
import Derived.Laws.MakeOwn
import Derived.Deep.RegionWith
import Derived.RegionTactic
import Derived.BigCall
import Derived.Test.YtfblenhlildnaaaGreatDoorRows
import Derived.ProofKit
import Derived.ShutString
import Derived.Lay
import Derived.LaidOnce
set_option maxHeartbeats 3200000
set_option maxRecDepth 100000
open Go.Lib renaming hid->aA,VarReads->aJ
open Option renaming some->aB,bind_eq_some_iff->aG
open List renaming getElem?_eq_none->aC,getElem?_eq_getElem->aF,getElem?_map->aI,length_drop->aK
open Array renaming getElem?_toList->aD
open Nat renaming lt_or_ge->aE,le_refl->aL
namespace Go
open Go.RowKit
section
variable {H:Type} {enc:TypeId×Value->H} {P:Program} {w:World} {held:Bool} {base:Nat} {sp:Nat->Bool}
theorem JT {a:Nat} {t:TypeId} {c:List Value} {b:Bool} {p:List MemPlace} (d:P.underlying t=some .bool) (h:DataW.trod enc P w base sp held a t c=some (.lit (.bool b),p)):c=[.bool b]:=by
 cases a with
 | zero=>simp[DataW.trod] at h
 | succ n =>
   unfold DataW.trod at h;rw[d] at h;split at h<;>simp_all
theorem C1 {a:Nat} {t:TypeId} {b:List Value} {k:IntKind} {z:Int} {p:List MemPlace} (c:P.underlying t=some (.int k)) (h:DataW.trod enc P w base sp held a t b=some (.lit (.int k z),p)):b=[.int k z]:=by
 cases a with
 | zero=>simp[DataW.trod] at h
 | succ n =>
   unfold DataW.trod at h;rw[c] at h;split at h<;>simp_all
theorem FE {a:Nat} {t:TypeId} {b:List Value} {k:FloatKind} {z:Nat} {p:List MemPlace} (c:P.underlying t=some (.float k)) (h:DataW.trod enc P w base sp held a t b=some (.lit (.float k z),p)):b=[.float k z]:=by
 cases a with
 | zero=>simp[DataW.trod] at h
 | succ n =>
   unfold DataW.trod at h;rw[c] at h;split at h<;>simp_all
theorem Mc {c e j:Type} {f:c->Option (e×j)} {l:List c} {r:List (e×j)} (h:l.mapM f=some r) (i:Nat) (a:c) (d:e) (ha:l[i]?=some a) (g:(r.map (·.1))[i]?=some d):∃q,f a=some (d,q):=by
 obtain⟨b,k,m⟩:=Lib.mapM_at h i a ha;simp only[aI,k,Option.map_some,aB.injEq] at g;exact⟨b.2,by rw[m,<- g]⟩
theorem FF {f:Nat} {t e:TypeId} {x:List Value} {m l:List (DataW H)} {p:List MemPlace} (F:P.underlying t=some (.slice e)) (C:P.cellsOf e=1)
  (h:DataW.trod enc P w base sp held f t x=some (.slice m l,p)) :
  ∃a g,x=[.slice (some a) m.length g]/\∀i d,m[i]?=some d->∃v B q,w.cell? (a.add i)=some v/\DataW.trod enc P w base sp held B e [v]=some (d,q):=by
 cases f with
 | zero=>simp[DataW.trod] at h
 | succ n =>
   unfold DataW.trod at h;rw[F] at h;split at h<;>try (simp at *;done)
   rename_i G a len g s
   cases s;dsimp only at h;split at h
   ·simp only[aG,Option.map_eq_some_iff] at h
    obtain⟨j,z,u,J,A⟩:=h;simp only[Prod.mk.injEq,DataW.slice.injEq] at A;obtain⟨⟨y,I⟩,_⟩:=A;have k:j.length=len:=by have:=Lib.mapM_length z;simpa using this
    have E:m.length=len:=by rw[<- y];simpa using k
    refine⟨a,g,by rw[E],fun i d r=>?_⟩
    have D:i<len:=by
     rcases aE i len with h | h
     ·exact h
     rw[aC (by omega)] at r;cases r
    obtain⟨q,o⟩:=Mc z i i d (by simp[D]) (by rw[y];exact r);simp only[aG] at o;obtain⟨K,c,o⟩:=o;rw[C] at c;unfold World.cells? at c;split at c
    ·simp only[show List.range 1=[0] from rfl,List.mapM_cons,List.mapM_nil,Nat.mul_one] at c
     cases b:w.cell? ((a.add i).add 0) with
     | none=>rw[b] at c;cases c
     | some v =>
       rw[b] at c;cases c;refine⟨v,n,q,?_,o⟩;have:(a.add i).add 0=a.add i:=by cases a;simp[Addr.add]
       rwa [this] at b
    cases c
   cases h
end
end Go
namespace Go.Proofs.YtfblenhlildnaaaGreatDoor
open Go.RowKit
def Db:List Nat:=[4607182418800017408,4621819117588971520,4636737291354636288,4652007308841189376,4666723172467343360,4681608360884174848,4696837146684686336,4711630319722168320,4726483295884279808,4741671816366391296,4756540486875873280,4771362005757984768,4786511204640096256,4801453603149578240,4816244402031689728,4831355200913801216,4846369599423283200,4861130398305394688,4876203697187506176,4891288408196988160,4906019910204099648,4921056587992461136,4936209963552724370]
structure CG (w:World):Prop where
 opt:w.cell? ⟨2,0,none⟩=some (.bool true)
 mb:w.cell? ⟨6,0,none⟩=some (.int .u64 52)
 pow:∃b o cap,w.cell? ⟨13,0,none⟩=some (.slice (some ⟨b,o,none⟩) 23 cap)/\∀i,i<23->w.cell? ⟨b,o+i,none⟩=some (.float .f64 (Db.getD i 0))
theorem CG.below {w w':World} (h:CG w) (k:Below w.heap.size w w'):CG w':=by
 obtain⟨e,f,b,o,c,g,j⟩:=h
 have keep:∀(a:Addr) (v:Value),w.cell? a=some v->w'.cell? a=some v:=fun a v d=>by
  rw[k.cell (World.block_lt_of_cell? w a d)];exact d
 exact⟨keep _ _ e,keep _ _ f,b,o,c,keep _ _ g,fun i l=>keep _ _ (j i l)⟩
open Go.Proofs.Tryz
def CC (l:List UInt8):Nat:=Al DH l
def BH (l:List UInt8):Nat:=CC l+AR (l.drop (CC l))
theorem Pc (s:ByteArray) (w:World) (u:s.size<=maxLen):Calls prog 219 #[.string s] w fun e p=>e = .returned (.tuple #[.int .i64 (CC s.data.toList),.int .i64 (BH s.data.toList)])/\w=p:=by
 unfold maxLen at u
 go_in
 go_wp2
 go_loop [2] (fun n=>∃k:Nat,k<=s.size/\n = .int .i64 k/\CC s.data.toList=k+Al DH (s.data.toList.drop k)) (fun n=>s.size-(intOf n).toNat)
 case atStart=>exact⟨0,by omega,rfl,by simp[CC]⟩
 obtain⟨k,v,rfl,m⟩:=hrel;by_cases i:∃h:k<s.size,DH s[k]=true
 ·obtain⟨a,i⟩:=i
  have t:=aA (Da DH s.data.toList k (by simpa using a) i);have r:=aA m;have l:GT s[k].toNat=true:=i;clear i m
  go_wp2_with (go_at_call 247;refine(FL _ _).mono ?_;rintro e p ⟨rfl,rfl⟩)
  go_round
  case rel=>exact⟨k+1,by omega,by go_num,by rw[r.out,t.out];omega⟩
  simp[intOf];omega
 have q:CC s.data.toList=k:=by
  have:Al DH (s.data.toList.drop k)=0:=by
   by_cases a:k<s.size
   ·exact DQ _ _ _ (by simpa using a) (by cases l:DH s[k] with | true=>exact absurd ⟨a,l⟩ i | false=>exact l)
   exact C' _ _ _ (by simpa using a)
  omega
 have g:=aA q
 have f:¬ k<s.size\/(∃h:k<s.size,GT s[k].toNat=false):=by
  by_cases a:k<s.size
  ·exact .inr ⟨a,by cases l:DH s[k] with | true=>exact absurd ⟨a,l⟩ i | false=>exact l⟩
  exact .inl a
 clear i m q;rcases f with f | ⟨a,l⟩
 ·have j:Hid (BH s.data.toList=k):=by
   unfold Hid;rw[BH,g.out,AR,Bv _ _ (by simpa using f)];simp
  go_wp2
  go_ret2
  rw[g.out,j.out];exact⟨rfl,rfl⟩
 have o:k<s.data.toList.length:=(by simpa using a);by_cases b:s[k]=43
 ·have b1:((s[k].toNat:Int)==43)=true:=AH (d:=43) b
  have j:Hid (BH s.data.toList=k+1):=by
   unfold Hid;rw[BH,g.out,AR,A' _ _ o,if_pos (.inl (by rw[<- AO s k a,b]))]
  clear b
  go_wp2_with (go_at_call 247;refine(FL _ _).mono ?_;rintro e p ⟨rfl,rfl⟩)
  go_ret2
  rw[g.out,j.out];exact⟨rfl,rfl⟩
 have b1:((s[k].toNat:Int)==43)=false:=Ao (d:=43) b;by_cases c:s[k]=45
 ·have b2:((s[k].toNat:Int)==45)=true:=AH (d:=45) c
  have j:Hid (BH s.data.toList=k+1):=by
   unfold Hid;rw[BH,g.out,AR,A' _ _ o,if_pos (.inr (by rw[<- AO s k a,c]))]
  clear b c
  go_wp2_with (go_at_call 247;refine(FL _ _).mono ?_;rintro e p ⟨rfl,rfl⟩)
  go_ret2
  rw[g.out,j.out];exact⟨rfl,rfl⟩
 have b2:((s[k].toNat:Int)==45)=false:=Ao (d:=45) c
 have j:Hid (BH s.data.toList=k):=by
  unfold Hid;rw[BH,g.out,AR,A' _ _ o,if_neg (fun e=>e.elim (fun e=>b (aB.inj e)) (fun e=>c (aB.inj e)))];rfl
 clear b c
 go_wp2_with (go_at_call 247;refine(FL _ _).mono ?_;rintro e p ⟨rfl,rfl⟩)
 go_ret2
 rw[g.out,j.out];exact⟨rfl,rfl⟩
theorem Pb (l:List UInt8):CC l<=l.length:=Bp _ _
theorem Pa (l:List UInt8):CC l<=BH l/\BH l<=l.length:=by
 have b:=Pb l;unfold BH AR;split
 ·rename_i h
  rcases aE (CC l) l.length with a | a
  ·omega
  rw[Bv l _ a] at h;simp at h
 omega
def Ac5 (l:List UInt8):Nat:=BH l+An (l.drop (BH l))
theorem Hy (s:ByteArray) (w:World) (x:Nat) (k:s.size<=maxLen) (o:An (s.data.toList.drop (BH s.data.toList))≠0)
  (j:Calls prog 84 #[.string (s.extract (CC s.data.toList) (Ac5 s.data.toList)),.int .i64 64] w fun e c=>∃v,e = .returned (.tuple #[.float .f64 x,v])/\Below w.heap.size w c) :
  Calls prog 174 #[.string s] w fun e c=>e = .returned (.tuple #[.float .f64 (EU x),.int .i64 (Ac5 s.data.toList)])/\Below w.heap.size w c:=by
 obtain⟨a,ha⟩:∃a,BH s.data.toList=a:=⟨_,rfl⟩;obtain⟨b,g⟩:∃b,CC s.data.toList=b:=⟨_,rfl⟩;obtain⟨n,i⟩:∃n,Ac5 s.data.toList=n:=⟨_,rfl⟩;have h:=Pa s.data.toList;have d:=D9 (s.data.toList.drop (BH s.data.toList));have f:BH s.data.toList+An (s.data.toList.drop (BH s.data.toList))=n:=i;rw[ha,g] at h;rw[ha] at o d f;rw[i,g] at j;simp only[aK] at d;have l:s.data.toList.length=s.size:=rfl;have m:=aA (fun W=>Pc s W k);rw[ha,g] at m
 have p:Hid (∀W,Calls prog 220 #[.string s,.int .i64 a] W fun e c=>e = .returned (.int .i64 n)/\W=c):=fun W=>by
  have:=Mn s a W k (by omega)
  rwa [f] at this
 have q:=aA j;have r:b<=n:=(by omega);have t:n<=s.size:=(by omega);have u:((n:Int)==a)=false:=beq_eq_false_iff_ne.2 (by omega);rw[i];unfold maxLen at k;clear o ha h g i f d l j
 go_in
 go_wp2_with (first | (go_at_call 219;refine(m.out _).mono ?_;rintro e c ⟨rfl,rfl⟩) | (go_at_call 220;refine(p.out _).mono ?_;rintro e c ⟨rfl,rfl⟩) | (go_at_call 84;refine q.out.mono ?_;rintro e c ⟨v,rfl,g⟩) | (go_at_call 221;refine(P2 _ _).mono ?_;rintro e c ⟨rfl,rfl⟩))
 go_ret2
 exact⟨rfl,g⟩
def Cv (l:List UInt8) (k:Nat):Bool:=match l[k]? with | some c=>Aj c | none=>false
theorem Gk {l:List UInt8} {k:Nat} (h:Cv l k=true):k<l.length:=by
 rcases aE k l.length with a | a
 ·exact a
 unfold Cv at h;rw[aC a] at h;cases h
theorem IB {l:List UInt8} {k:Nat} (h:k<l.length):Cv l k=Aj l[k]:=by unfold Cv;rw[aF h]
theorem Po {l:List UInt8} {k:Nat} (h:l.length<=k):Cv l k=false:=by unfold Cv;rw[aC h]
theorem Mh {l:List UInt8} {k:Nat} (h:Cv l k=true):Al Aj (l.drop k)=Al Aj (l.drop (k+1))+1 :=
 Da Aj l k (Gk h) (by rw[<- IB (Gk h)];exact h)
theorem IP {l:List UInt8} {k:Nat} (h:Cv l k=false):Al Aj (l.drop k)=0:=by
 rcases aE k l.length with a | a
 ·exact DQ _ _ _ a (by rw[<- IB a];exact h)
 exact C' _ _ _ a
theorem OI {l:List UInt8} {k:Nat} (h:Al Aj (l.drop k)=0):Cv l k=false:=by
 cases a:Cv l k with
 | false=>rfl
 | true=>have:=Mh a;omega
theorem Sn (s:ByteArray) (k:Nat) (a:Int) (ha:a=k) (w:World) (_hs:s.size<=maxLen):Calls prog 106 #[.string s,.int .i64 a] w fun e d=>e = .returned (.bool (Cv s.data.toList k))/\w=d:=by
 subst ha;unfold maxLen at _hs;by_cases c:k<s.size
 ·have b:Cv s.data.toList k=C3 (s[k].toNat:Int):=IB (l:=s.data.toList) c
  rw[b];clear b
  go_in
  go_wp2
  all_goals (go_ret;exact⟨B3 (by simp[C3, *]<;>omega),rfl⟩)
 have b:Cv s.data.toList k=false:=Po (by simpa using c);rw[b];clear b
 go_in
 go_wp2;go_ret;exact⟨rfl,rfl⟩
theorem Nw (s:ByteArray) (i d:Nat) (q:i<=s.size) (n:i+Al Aj (s.data.toList.drop i)=d) :
  (i+An (s.data.toList.drop i)=i/\d=i/\(¬ i<s.size\/(∃h:i<s.size,((s[i].toNat:Int)==46)=false)\/(∃h:i<s.size,((s[i].toNat:Int)==46)=true/\Cv s.data.toList (i+1)=false))) \/
  (∃m,i+An (s.data.toList.drop i)=m+GZ (s.data.toList.drop m)/\i<m/\m<=s.size /\
    (i<d\/(d=i/\∃h:i<s.size,((s[i].toNat:Int)==46)=true/\Cv s.data.toList (i+1)=true)) /\
    ((∃h:d<s.size,((s[d].toNat:Int)==46)=true/\d+1+Al Aj (s.data.toList.drop (d+1))=m)\/((¬ d<s.size\/∃h:d<s.size,((s[d].toNat:Int)==46)=false)/\d=m))):=by
 have j:i<=s.data.toList.length:=(by simpa using q);have r:i<=d:=(by omega);by_cases b:∃h:d<s.size,s[d]=46
 ·obtain⟨c,g⟩:=b
  have f:((s[d].toNat:Int)==46)=true:=AH (d:=46) g;obtain⟨o,p⟩:=Ma s.data.toList i d _ n (by simpa using c) g rfl;by_cases k:i<d\/d+1<d+1+Al Aj (s.data.toList.drop (d+1))
  ·right
   have a:=o k;refine⟨_,D1 _ _ _ a,(a.2.2.2 rfl).1,by simpa using a.2.1,?_,.inl ⟨c,f,rfl⟩⟩;rcases aE i d with h | h
   ·exact .inl h
   obtain rfl:d=i:=(by omega);refine .inr ⟨rfl,c,f,?_⟩
   cases t:Cv s.data.toList (d+1) with
   | true=>rfl
   | false=>have:=IP t;omega
  left;have a:=p (by omega) (by omega);obtain rfl:d=i:=(by omega);exact⟨FP _ _ _ a,rfl,.inr (.inr ⟨c,f,OI (by omega)⟩)⟩
 have a:=Mb s.data.toList i d j n (fun⟨h,e⟩=>b ⟨by simpa using h,e⟩)
 have l:¬ d<s.size\/∃h:d<s.size,((s[d].toNat:Int)==46)=false:=by
  by_cases h:d<s.size
  ·exact .inr ⟨h,Ao (d:=46) (fun e=>b ⟨h,e⟩)⟩
  exact .inl h
 by_cases h:i<d
 ·right
  rw[decide_eq_true h] at a;exact⟨d,D1 _ _ _ a,h,by simpa using a.2.1,.inl h,.inr ⟨l,rfl⟩⟩
 left;rw[decide_eq_false h] at a;obtain rfl:d=i:=(by omega);exact⟨FP _ _ _ a,rfl,l.imp id .inl⟩
theorem Qi (s:ByteArray) (k:Nat):(∃h:k<s.size,(((s[k].toNat:Int)==43)=true\/(((s[k].toNat:Int)==43)=false/\((s[k].toNat:Int)==45)=true))/\AR (s.data.toList.drop k)=1) \/
  ((¬ k<s.size\/∃h:k<s.size,((s[k].toNat:Int)==43)=false/\((s[k].toNat:Int)==45)=false)/\AR (s.data.toList.drop k)=0):=by
 by_cases a:∃h:k<s.size,s[k]=43\/s[k]=45
 ·obtain⟨b,a⟩:=a
  left;refine⟨b,?_,Je s.data.toList k (by simpa using b) a⟩;rcases a with a | a
  ·exact .inl (AH (d:=43) a)
  exact .inr ⟨Ao (d:=43) (by rw[a];decide),AH (d:=45) a⟩
 right;refine⟨?_,Jd s.data.toList k (fun⟨h,e⟩=>a ⟨by simpa using h,e⟩)⟩;by_cases h:k<s.size
 ·exact .inr ⟨h,Ao (d:=43) (fun e=>a ⟨h,.inl e⟩),Ao (d:=45) (fun e=>a ⟨h,.inr e⟩)⟩
 exact .inl h
theorem Pv (s:ByteArray) (m:Nat):(∃h:m<s.size,(((s[m].toNat:Int)==101)=true\/(((s[m].toNat:Int)==101)=false/\((s[m].toNat:Int)==69)=true)) /\
   GZ (s.data.toList.drop m)=if Al Aj (s.data.toList.drop (m+1+AR (s.data.toList.drop (m+1))))=0 then 0 else 1+AR (s.data.toList.drop (m+1))+Al Aj (s.data.toList.drop (m+1+AR (s.data.toList.drop (m+1))))) \/
  ((¬ m<s.size\/∃h:m<s.size,((s[m].toNat:Int)==101)=false/\((s[m].toNat:Int)==69)=false)/\GZ (s.data.toList.drop m)=0):=by
 by_cases a:∃h:m<s.size,s[m]=101\/s[m]=69
 ·obtain⟨b,a⟩:=a
  left;refine⟨b,?_,ID s.data.toList m (by simpa using b) a⟩;rcases a with a | a
  ·exact .inl (AH (d:=101) a)
  exact .inr ⟨Ao (d:=101) (by rw[a];decide),AH (d:=69) a⟩
 right;refine⟨?_,Gn s.data.toList m (fun⟨h,e⟩=>a ⟨by simpa using h,e⟩)⟩;by_cases h:m<s.size
 ·exact .inr ⟨h,Ao (d:=101) (fun e=>a ⟨h,.inl e⟩),Ao (d:=69) (fun e=>a ⟨h,.inr e⟩)⟩
 exact .inl h
theorem Lc (s:ByteArray) (i:Nat) (w:World) (hs:s.size<=maxLen) (hi:i<=s.size):Calls prog 83 #[.string s,.int .i64 i] w fun e q=>e = .returned (.int .i64 (i+An (s.data.toList.drop i):Nat))/\w=q:=by
 obtain⟨d,U⟩:∃d,i+Al Aj (s.data.toList.drop i)=d:=⟨_,rfl⟩;have f0:d<=s.size:=by have:=Bp Aj (s.data.toList.drop i);simp at this;omega
 have a0:i<=d:=(by omega);have z:=aA (fun W (k:Nat) (a:Int) (ha:a=k)=>Sn s k a ha W hs);have hc:=Nw s i d hi U;have HD:=aA U;unfold maxLen at hs;clear U;rcases hc with⟨F,V,f⟩ | ⟨m,F,i0,j0,f,x⟩
 ·have E:=aA F
  subst V;clear F
  go_in
  go_wp2_with (fail)
  refine wp_loop_rounds 1 ?_;rw[rounds_succ];have O:Cv s.data.toList d=false:=OI (by have:=HD.out;omega);have l:=aA (fun W=>z.out W d d rfl);rw[O] at l;rcases f with f | ⟨p,f⟩ | ⟨p,f,B⟩
  iterate 2
   focus
    go_wp2_with (go_at_call 106;refine(l.out _).mono ?_;rintro e q ⟨rfl,rfl⟩)
    go_ret;exact⟨AZ (by rw[E.out]),rfl⟩
  have C:=aA (fun W=>z.out W (d+1) ((d:Int)+1) (by omega));rw[B] at C
  go_wp2_with (go_at_call 106;first | (with_reducible refine(l.out _).mono ?_;rintro e q ⟨rfl,rfl⟩) | (with_reducible refine(C.out _).mono ?_;rintro e q ⟨rfl,rfl⟩))
  go_ret;exact⟨AZ (by rw[E.out]),rfl⟩
 have E:=aA F;have HB:=aA f;have D:=aA x;clear F f x
 go_in
 go_upto_block 0 with(fail)
 go_cut [5] (fun v t=>v = .int .i64 d/\w=t)
 case first =>
  as_aux_lemma =>
   go_wp2
   go_loop [5] (fun n=>∃k:Nat,i<=k/\k<=d/\n = .int .i64 k/\Hid (k+Al Aj (s.data.toList.drop k)=d)) (fun n=>d-(intOf n).toNat)
   case atStart=>exact⟨i,aL _,a0,rfl,HD⟩
   obtain⟨k,I,J,rfl,u⟩:=hrel;have l:=aA (fun W=>z.out W k k rfl)
   cases c:Cv s.data.toList k with
   | true =>
     rw[c] at l;have j:=Mh c;have p:=Gk c;have o:=u.out;have K:k<d:=(by omega);have r:Hid (k+1+Al Aj (s.data.toList.drop (k+1))=d):=by unfold Hid;omega
     clear c j o p
     go_wp2_with (go_at_call 106;refine(l.out _).mono ?_;rintro e q ⟨rfl,rfl⟩)
     go_round
     case rel=>exact⟨k+1,by omega,by omega,by go_num,r⟩
     simp[intOf];omega
   | false =>
     rw[c] at l;have j:=IP c;have o:=u.out;obtain rfl:k=d:=(by omega);clear c j o
     go_wp2_with (go_at_call 106;refine(l.out _).mono ?_;rintro e q ⟨rfl,rfl⟩)
     go_meet;exact⟨rfl,rfl⟩
 obtain⟨rfl,rfl⟩:=hcut
 go_upto_region 4 with(fail)
 go_cut [34] (fun v t=>v = .bool false/\w=t)
 case first =>
  as_aux_lemma =>
   rcases HB.out with f | ⟨rfl,p,f,B⟩
   ·go_wp2
    go_meet;exact⟨rfl,rfl⟩
   have C:=aA (fun W=>z.out W (d+1) ((d:Int)+1) (by omega));rw[B] at C
   go_wp2_with (go_at_call 106;with_reducible refine(C.out _).mono ?_;rintro e q ⟨rfl,rfl⟩)
   go_meet;exact⟨rfl,rfl⟩
 obtain⟨rfl,rfl⟩:=hcut
 go_upto_region 6 with(fail)
 go_cut [45] (fun v t=>∃b:Bool,v = .bool b/\Hid ((b=true/\d+1+Al Aj (s.data.toList.drop (d+1))=m)\/(b=false/\d=m))/\w=t)
 case first =>
  as_aux_lemma =>
   rcases D.out with⟨p,f,L⟩ | ⟨f | ⟨p,f⟩,rfl⟩
   ·have S:=aA L
    clear L;go_wp2;go_meet;exact⟨true,rfl,by have:=S.out;simp[Hid,this],rfl⟩
   iterate 2
    focus
     go_wp2;go_meet;exact⟨false,rfl,by simp[Hid],rfl⟩
 case rest =>
 obtain⟨d0,rfl,P,rfl⟩:=hcut
 go_upto_if 45 with(fail)
 go_cut [5] (fun v t=>v = .int .i64 m/\w=t)
 case first =>
  as_aux_lemma =>
   rcases P.out with⟨rfl,L⟩ | ⟨rfl,rfl⟩
   ·have S:=aA L
    have X:d+1<=m:=(by omega);clear L;go_wp2
    go_loop [5] (fun n=>∃k:Nat,d+1<=k/\k<=m/\n = .int .i64 k/\Hid (k+Al Aj (s.data.toList.drop k)=m)) (fun n=>m-(intOf n).toNat)
    case atStart=>exact⟨d+1,aL _,X,by go_num,S⟩
    obtain⟨k,I,J,rfl,u⟩:=hrel;have l:=aA (fun W=>z.out W k k rfl)
    cases c:Cv s.data.toList k with
    | true =>
      rw[c] at l;have j:=Mh c;have o:=u.out;have K:k<m:=(by omega);have r:Hid (k+1+Al Aj (s.data.toList.drop (k+1))=m):=by unfold Hid;omega
      clear c j o
      go_wp2_with (go_at_call 106;refine(l.out _).mono ?_;rintro e q ⟨rfl,rfl⟩)
      go_round
      case rel=>exact⟨k+1,by omega,by omega,by go_num,r⟩
      simp[intOf];omega
    | false =>
      rw[c] at l;have j:=IP c;have o:=u.out;obtain rfl:k=m:=(by omega);clear c j o
      go_wp2_with (go_at_call 106;refine(l.out _).mono ?_;rintro e q ⟨rfl,rfl⟩)
      go_meet;exact⟨rfl,rfl⟩
   go_wp2;go_meet;exact⟨rfl,rfl⟩
 obtain⟨rfl,rfl⟩:=hcut;rcases Pv s m with⟨p,f,G⟩ | ⟨f,G⟩
 ·obtain⟨g,hg⟩:∃g,m+1+AR (s.data.toList.drop (m+1))=g:=⟨_,rfl⟩
  obtain⟨n,hn⟩:∃n,g+Al Aj (s.data.toList.drop g)=n:=⟨_,rfl⟩;have H:=Qi s (m+1);have b0:AR (s.data.toList.drop (m+1))<=1:=by unfold AR;split<;>omega
  have N:Hid (i+An (s.data.toList.drop i)=if g<n then n else m):=by
   unfold Hid;rw[E.out,G,hg];by_cases O:Al Aj (s.data.toList.drop g)=0
   ·rw[if_pos O,if_neg (by omega)];omega
   rw[if_neg O,if_pos (by omega)];omega
  have R:Hid ((∃h:m+1<s.size,(((s[m+1].toNat:Int)==43)=true\/(((s[m+1].toNat:Int)==43)=false/\((s[m+1].toNat:Int)==45)=true))/\g=m+1+1)\/((¬ m+1<s.size\/∃h:m+1<s.size,((s[m+1].toNat:Int)==43)=false/\((s[m+1].toNat:Int)==45)=false)/\g=m+1)):=by
   rcases H with⟨h,f,e⟩ | ⟨h,e⟩
   ·exact .inl ⟨h,f,by omega⟩
   exact .inr ⟨h,by omega⟩
  have g0:m+1<=g/\g<=m+2:=(by omega);have Z:g<=n:=(by omega);have y:=aA hn;clear G hg hn H b0;rcases f with f | ⟨f,T⟩ <;>
  ·go_upto_region 13 with(fail)
   go_cut [87] (fun v t=>∃b:Bool,v = .bool b/\Hid ((b=true/\m+1<s.size/\g=m+1+1)\/(b=false/\g=m+1))/\w=t)
   case first =>
    as_aux_lemma =>
     rcases R.out with⟨j,o | ⟨o,h3⟩,rfl⟩ | ⟨j | ⟨j,o,h3⟩,rfl⟩
     iterate 2
      focus
       go_wp2;go_meet;exact⟨true,rfl,by simp[Hid,j],rfl⟩
     iterate 2
      focus
       go_wp2;go_meet;exact⟨false,rfl,by simp[Hid],rfl⟩
   case rest =>
   obtain⟨e0,rfl,Q,rfl⟩:=hcut
   go_upto_if 87 with(fail)
   go_cut [6] (fun v t=>v = .int .i64 g/\w=t)
   case first =>
    as_aux_lemma =>
     rcases Q.out with⟨rfl,c0,rfl⟩ | ⟨rfl,rfl⟩ <;>
     ·go_wp2
      go_meet;exact⟨by go_num,rfl⟩
   obtain⟨rfl,rfl⟩:=hcut;have l:=aA (fun W=>z.out W g g rfl)
   cases c:Cv s.data.toList g with
   | false =>
     rw[c] at l;have j:=IP c;have o:=y.out;have A:Hid (i+An (s.data.toList.drop i)=m):=by unfold Hid;rw[N.out,if_neg (by omega)]
     clear c j o
     go_wp2_with (go_at_call 106;refine(l.out _).mono ?_;rintro e q ⟨rfl,rfl⟩)
     go_ret;exact⟨AZ (by rw[A.out]),rfl⟩
   | true =>
     rw[c] at l;have j:=Mh c;have o:=y.out;have Y:=Gk c;have A:Hid (i+An (s.data.toList.drop i)=n):=by unfold Hid;rw[N.out,if_pos (by omega)]
     have k0:n<=s.size:=by
      have:=Bp Aj (s.data.toList.drop g);have e:s.data.toList.length=s.size:=rfl;simp only[aK] at this;omega
     clear c j o Y
     go_wp2_with (go_at_call 106;refine(l.out _).mono ?_;rintro e q ⟨rfl,rfl⟩)
     go_loop [6] (fun v=>∃k:Nat,g<=k/\k<=n/\v = .int .i64 k/\Hid (k+Al Aj (s.data.toList.drop k)=n)) (fun v=>n-(intOf v).toNat)
     case atStart=>exact⟨g,aL _,Z,rfl,y⟩
     obtain⟨k,I,J,rfl,u⟩:=hrel;have M:=aA (fun W=>z.out W k k rfl)
     cases c:Cv s.data.toList k with
     | true =>
       rw[c] at M;have j:=Mh c;have o:=u.out;have K:k<n:=(by omega);have r:Hid (k+1+Al Aj (s.data.toList.drop (k+1))=n):=by unfold Hid;omega
       clear c j o
       go_wp2_with (go_at_call 106;refine(M.out _).mono ?_;rintro e q ⟨rfl,rfl⟩)
       go_round
       case rel=>exact⟨k+1,by omega,by omega,by go_num,r⟩
       simp[intOf];omega
     | false =>
       rw[c] at M;have j:=IP c;have o:=u.out;obtain rfl:k=n:=(by omega);clear c j o
       go_wp2_with (go_at_call 106;refine(M.out _).mono ?_;rintro e q ⟨rfl,rfl⟩)
       go_ret;exact⟨AZ (by rw[A.out]),rfl⟩
 have N:Hid (i+An (s.data.toList.drop i)=m):=by unfold Hid;rw[E.out,G];rfl
 clear G;rcases f with f | ⟨p,f,T⟩ <;>
 ·go_wp2
  go_ret;exact⟨AZ (by rw[N.out]),rfl⟩
theorem Bb (b:Bool) (w:World):Calls prog 234 #[.bool b] w fun e a=>e = .returned (.int .u64 (if b then 1 else 0))/\w=a:=by
 cases b<;>(go_in;go_wp2;go_ret;exact⟨rfl,rfl⟩)
theorem Kk (s:ByteArray) (w:World) (R:Ending->World->Prop) (a:Calls prog 185 #[.string s] w fun e b=>∃x n v,e = .returned (.tuple #[.float .f64 x,.int .i64 n,v])/\R e b) :
  Calls prog 138 #[.string s,.int .i64 64] w R:=by
 have c:=aA a;clear a
 go_in
 go_wp2_with (go_at_call 185;refine c.out.mono ?_;rintro e b ⟨x,n,v,rfl,d⟩)
 go_ret3
 exact d
theorem PE (s:ByteArray) (w w1:World) (x:Nat) (v:Value) (b:Calls prog 138 #[.string s,.int .i64 64] w fun e a=>e = .returned (.tuple #[.float .f64 x,.int .i64 s.size,v])/\w1=a) :
  Calls prog 107 #[.string s,.int .i64 64] w fun e a=>e = .returned (.tuple #[.float .f64 x,v])/\w1=a:=by
 have c:=aA b;clear b
 go_in
 go_wp2_with (go_at_call 138;refine c.out.mono ?_;rintro e a ⟨rfl,rfl⟩)
 go_ret2
 exact⟨rfl,rfl⟩
theorem Mr (s:ByteArray) (w:World) (x:Nat) (c:∀W,CG W->Calls prog 185 #[.string s] W fun e a=>e = .returned (.tuple #[.float .f64 x,.int .i64 s.size,.nilIface])/\W=a) (d:CG w) :
  Calls prog 84 #[.string s,.int .i64 64] w fun e a=>e = .returned (.tuple #[.float .f64 x,.nilIface])/\w=a:=by
 have b:=PE s w w x .nilIface (Kk s w _ ((c w d).mono fun e a h=>⟨x,s.size,.nilIface,h.1,h⟩));have f:=aA b;clear c d b
 go_in
 go_wp2_with (go_at_call 107;refine f.out.mono ?_;rintro e a ⟨rfl,rfl⟩)
 go_ret2
 exact⟨rfl,rfl⟩
def Il (neg:Bool):Nat:=if neg=true then 9223372036854775808 else 0
theorem FO (n:Int) (w:World):(callFunc 235 #[.int .u64 n]).run prog w = .ok (.value (.float .f64 n.toNat)) w:=by kernel_rfl
theorem Lw (s:ByteArray) (w:World) (j:s.size<=140737488351232) (d:∀c∈s.data.toList,c∈BC) (f:CG w) (p:Int) (b tr:Bool) (n:Nat)
  (i:rf s.data.toList=⟨0,p,b,tr,n,true⟩) :
  Calls prog 185 #[.string s] w fun e a=>e = .returned (.tuple #[.float .f64 (Il b),.int .i64 n,.nilIface])/\w=a:=by
 have o:=aA (fun W=>Dw s W (by unfold maxLen;omega) (fun k h=>d _ (List.getElem_mem (l:=s.data.toList) (by simpa using h))))
 have g:∀W,Calls prog 226 #[.string s] W fun e a=>e = .returned (.tuple #[.int .u64 (0:Nat),.int .i64 p,.bool b,.bool tr,.bool false,.int .i64 n,.bool true])/\W=a:=fun W=>by
  have:=Cy s W j d;rw[i] at this;exact this
 have m:=aA g;have r:=f.opt;have q:=FO;clear g f d i j;cases b
 all_goals
  go_in
  go_wp2_with (first | (go_at_call 225;refine(o.out _).mono ?_;rintro e a ⟨rfl,rfl⟩) | (go_at_call 226;refine(m.out _).mono ?_;rintro e a ⟨rfl,rfl⟩) | (go_at_call 234;refine(Bb _ _).mono ?_;rintro e a ⟨rfl,rfl⟩))
  go_ret3
  exact⟨rfl,rfl⟩
open Go.ChangeShapes Go.WideShapes Go.ChangeAt
theorem own:ownKnob prog.godebug=none:=by kernel_rfl
theorem RN (W:World) (N:aJ prog W "internal/strconv.optimize" Rows.laid_internal_strconv_optimize)
  (O:aJ prog W "internal/strconv.float64info" Rows.laid_internal_strconv_float64info)
  (P:aJ prog W "internal/strconv.float64pow10" Rows.laid_internal_strconv_float64pow10):CG W:=by
 refine⟨?_,?_,?_⟩
 ·obtain⟨g,t,B,m,p,s,j,d,z⟩:=N
  obtain rfl:=aB.inj ((show prog.globalNamed "internal/strconv.optimize" = some 2 by kernel_rfl).symm.trans s);obtain rfl:=aB.inj ((show (prog.globals[2]?).map (·.type)=some 4 by kernel_rfl).symm.trans j);have u:=JT underlying4 z;rw[World.var?_cell s d 0,<- aD,u];rfl
 ·obtain⟨g,t,B,m,p,s,j,d,z⟩:=O
  obtain rfl:=aB.inj ((show prog.globalNamed "internal/strconv.float64info" = some 6 by kernel_rfl).symm.trans s);obtain rfl:=aB.inj ((show (prog.globals[6]?).map (·.type)=some 232 by kernel_rfl).symm.trans j);obtain⟨H,n,_,L,R,M,f⟩:=DataW.trod_struct underlying232 z
  have w:H.map (·.1)=[(.lit (.int .u64 52):DataW Unit),.lit (.int .u64 11),.lit (.int .i64 (-1023))]:=by
   have:=congrArg Prod.fst L;simpa[Rows.laid_internal_strconv_float64info] using this.symm
  have I:=f 0 _ rfl
  cases H with
  | nil=>simp at w
  | cons b r =>
    simp only[List.map_cons,List.cons.injEq] at w;obtain⟨b1,b2⟩:=b;obtain rfl:b1=_:=w.1;have E:prog.cellsOf 120=1:=(by kernel_rfl);have D:(B.toList.drop 0).take 1=[.int .u64 52]:=by rw[<- E];exact C1 (k:=.u64) (by kernel_rfl) I
    rw[World.var?_cell s d 0,<- aD];generalize B.toList=l at D
    cases l with
    | nil=>simp at D
    | cons c S=>exact congrArg List.head? D
 obtain⟨g,t,B,m,p,s,j,d,z⟩:=P;obtain rfl:=aB.inj ((show prog.globalNamed "internal/strconv.float64pow10" = some 13 by kernel_rfl).symm.trans s);obtain rfl:=aB.inj ((show (prog.globals[13]?).map (·.type)=some 268 by kernel_rfl).symm.trans j);obtain⟨a,C,u,f⟩:=FF (e:=39) (by kernel_rfl) (by kernel_rfl) z
 have F:∀i,i<23->([(.lit (.float .f64 0):DataW Unit)].take 0++Db.map fun x => .lit (.float .f64 x))[i]?=some (.lit (.float .f64 (Db.getD i 0))):=by
  intro i A;simp only[List.take_zero,List.nil_append,aI,List.getD_eq_getElem?_getD];rw[aF (show i<Db.length from A)];rfl
 have h:∀i,i<23->W.cell? (a.add i)=some (.float .f64 (Db.getD i 0)):=by
  intro i A;obtain⟨v,Q,q,J,K⟩:=f i _ (F i A);have:=FE (k:=.f64) (by kernel_rfl) K;rw[J];exact congrArg some (List.cons.inj this).1
 obtain⟨b,o,G⟩:=a
 obtain rfl:G=none:=by
  have y:=h 0 (by omega);have:(Addr.add ⟨b,o,G⟩ 0)=⟨b,o,G⟩:=(by simp[Addr.add]);rw[this] at y;exact cell_spot y
 refine⟨b,o,C,?_,fun i A=>?_⟩
 ·rw[World.var?_cell s d 0,<- aD,u];rfl
 have:=h i A
 rwa [Addr.add_lit] at this
end Go.Proofs.YtfblenhlildnaaaGreatDoor
