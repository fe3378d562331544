/- Gl Wl Wn Wm Xb Rl -/
import Derived.WalkKit
import Derived.Lib.LaidU8
import Derived.OpenShut
import Derived.Test.YtjolfpcpcaocmaaGreatDoorPd
import Derived.Test.YtjolfpcpcaocmaaGreatDoorWh
import Derived.Test.YtjolfpcpcaocmaaGreatDoorWi
import Derived.WideLaws
import Derived.Lib.BufferWrite
import Derived.Lib.UnsafeStr
import Derived.Lib.IfaceEq
import Derived.Lib.AtoiErrMem
import Derived.Laws.MakeOwn
import Derived.Deep.RegionWith
import Derived.RegionTactic
import Derived.BigCall
import Derived.Test.YtjolfpcpcaocmaaGreatDoorRows
import Derived.ProofKit
import Derived.ShutString
import Derived.Lay
import Derived.LaidOnce
set_option maxHeartbeats 1600000
set_option maxRecDepth 100000
open Option renaming some->aA,bind_eq_some_iff->aD
open Array renaming getElem?_toList->aB
open Go.Lib renaming hid->aC,VarReads->aG
namespace Go
open Go.RowKit
section
variable {H:Type} {enc:TypeId×Value->H} {P:Program} {w:World} {held:Bool} {base:Nat} {sp:Nat->Bool}
theorem JT {a:Nat} {t:TypeId} {c:List Value} {b:Bool} {p:List MemPlace} (d:P.underlying t=some .bool) (h:DataW.trod enc P w base sp held a t c=some (.lit (.bool b),p)):c=[.bool b]:=by
 cases a with
 | zero=>simp[DataW.trod] at h
 | succ n =>
   unfold DataW.trod at h;rw[d] at h;split at h<;>simp_all
theorem C1 {a:Nat} {t:TypeId} {b:List Value} {k:IntKind} {z:Int} {p:List MemPlace} (c:P.underlying t=some (.int k)) (h:DataW.trod enc P w base sp held a t b=some (.lit (.int k z),p)):b=[.int k z]:=by
 cases a with
 | zero=>simp[DataW.trod] at h
 | succ n =>
   unfold DataW.trod at h;rw[c] at h;split at h<;>simp_all
theorem FE {a:Nat} {t:TypeId} {b:List Value} {k:FloatKind} {z:Nat} {p:List MemPlace} (c:P.underlying t=some (.float k)) (h:DataW.trod enc P w base sp held a t b=some (.lit (.float k z),p)):b=[.float k z]:=by
 cases a with
 | zero=>simp[DataW.trod] at h
 | succ n =>
   unfold DataW.trod at h;rw[c] at h;split at h<;>simp_all
theorem Mc {c e j:Type} {f:c->Option (e×j)} {l:List c} {r:List (e×j)} (h:l.mapM f=some r) (i:Nat) (a:c) (d:e) (ha:l[i]?=some a) (g:(r.map (·.1))[i]?=some d):∃q,f a=some (d,q):=by
 obtain⟨b,k,m⟩:=Lib.mapM_at h i a ha;simp only[List.getElem?_map,k,Option.map_some,aA.injEq] at g;exact⟨b.2,by rw[m,<- g]⟩
theorem FF {f:Nat} {t e:TypeId} {x:List Value} {m l:List (DataW H)} {p:List MemPlace} (F:P.underlying t=some (.slice e)) (C:P.cellsOf e=1)
  (h:DataW.trod enc P w base sp held f t x=some (.slice m l,p)) :
  ∃a g,x=[.slice (some a) m.length g]/\∀i d,m[i]?=some d->∃v B q,w.cell? (a.add i)=some v/\DataW.trod enc P w base sp held B e [v]=some (d,q):=by
 cases f with
 | zero=>simp[DataW.trod] at h
 | succ n =>
   unfold DataW.trod at h;rw[F] at h;split at h<;>try (simp at *;done)
   rename_i G a len g s
   cases s;dsimp only at h;split at h
   ·simp only[aD,Option.map_eq_some_iff] at h
    obtain⟨j,z,u,J,A⟩:=h;simp only[Prod.mk.injEq,DataW.slice.injEq] at A;obtain⟨⟨y,I⟩,_⟩:=A;have k:j.length=len:=by have:=Lib.mapM_length z;simpa using this
    have E:m.length=len:=by rw[<- y];simpa using k
    refine⟨a,g,by rw[E],fun i d r=>?_⟩
    have D:i<len:=by
     rcases Nat.lt_or_ge i len with h | h
     ·exact h
     rw[List.getElem?_eq_none (by omega)] at r;cases r
    obtain⟨q,o⟩:=Mc z i i d (by simp[D]) (by rw[y];exact r);simp only[aD] at o;obtain⟨K,c,o⟩:=o;rw[C] at c;unfold World.cells? at c;split at c
    ·simp only[show List.range 1=[0] from rfl,List.mapM_cons,List.mapM_nil,Nat.mul_one] at c
     cases b:w.cell? ((a.add i).add 0) with
     | none=>rw[b] at c;cases c
     | some v =>
       rw[b] at c;cases c;refine⟨v,n,q,?_,o⟩;have:(a.add i).add 0=a.add i:=by cases a;simp[Addr.add]
       rwa [this] at b
    cases c
   cases h
end
end Go
namespace Go.Proofs.YtjolfpcpcaocmaaGreatDoor
open Go.RowKit
def Db:List Nat:=[4607182418800017408,4621819117588971520,4636737291354636288,4652007308841189376,4666723172467343360,4681608360884174848,4696837146684686336,4711630319722168320,4726483295884279808,4741671816366391296,4756540486875873280,4771362005757984768,4786511204640096256,4801453603149578240,4816244402031689728,4831355200913801216,4846369599423283200,4861130398305394688,4876203697187506176,4891288408196988160,4906019910204099648,4921056587992461136,4936209963552724370]
structure CG (w:World):Prop where
 opt:w.cell? ⟨4,0,none⟩=some (.bool true)
 mb:w.cell? ⟨5,0,none⟩=some (.int .u64 52)
 pow:∃b o cap,w.cell? ⟨8,0,none⟩=some (.slice (some ⟨b,o,none⟩) 23 cap)/\∀i,i<23->w.cell? ⟨b,o+i,none⟩=some (.float .f64 (Db.getD i 0))
theorem CG.below {w w':World} (h:CG w) (k:Below w.heap.size w w'):CG w':=by
 obtain⟨e,f,b,o,c,g,j⟩:=h
 have keep:∀(a:Addr) (v:Value),w.cell? a=some v->w'.cell? a=some v:=fun a v d=>by
  rw[k.cell (World.block_lt_of_cell? w a d)];exact d
 exact⟨keep _ _ e,keep _ _ f,b,o,c,keep _ _ g,fun i l=>keep _ _ (j i l)⟩
open Go.Proofs.Tryz
def CC (l:List UInt8):Nat:=Al DH l
def BH (l:List UInt8):Nat:=CC l+AR (l.drop (CC l))
theorem Pc (s:ByteArray) (w:World) (u:s.size<=maxLen):Calls prog 64 #[.string s] w fun e p=>e = .returned (.tuple #[.int .i64 (CC s.data.toList),.int .i64 (BH s.data.toList)])/\w=p:=by
 unfold maxLen at u
 go_in
 go_wp2
 go_loop [2] (fun n=>∃k:Nat,k<=s.size/\n = .int .i64 k/\CC s.data.toList=k+Al DH (s.data.toList.drop k)) (fun n=>s.size-(intOf n).toNat)
 case atStart=>exact⟨0,by omega,rfl,by simp[CC]⟩
 obtain⟨k,v,rfl,m⟩:=hrel;by_cases i:∃h:k<s.size,DH s[k]=true
 ·obtain⟨a,i⟩:=i
  have t:=aC (Da DH s.data.toList k (by simpa using a) i);have r:=aC m;have l:GT s[k].toNat=true:=i;clear i m
  go_wp2_with (go_at_call 71;refine(FL _ _).mono ?_;rintro e p ⟨rfl,rfl⟩)
  go_round
  case rel=>exact⟨k+1,by omega,by go_num,by rw[r.out,t.out];omega⟩
  simp[intOf];omega
 have q:CC s.data.toList=k:=by
  have:Al DH (s.data.toList.drop k)=0:=by
   by_cases a:k<s.size
   ·exact DQ _ _ _ (by simpa using a) (by cases l:DH s[k] with | true=>exact absurd ⟨a,l⟩ i | false=>exact l)
   exact C' _ _ _ (by simpa using a)
  omega
 have g:=aC q
 have f:¬ k<s.size\/(∃h:k<s.size,GT s[k].toNat=false):=by
  by_cases a:k<s.size
  ·exact .inr ⟨a,by cases l:DH s[k] with | true=>exact absurd ⟨a,l⟩ i | false=>exact l⟩
  exact .inl a
 clear i m q;rcases f with f | ⟨a,l⟩
 ·have j:Hid (BH s.data.toList=k):=by
   unfold Hid;rw[BH,g.out,AR,Bv _ _ (by simpa using f)];simp
  go_wp2
  go_ret2
  rw[g.out,j.out];exact⟨rfl,rfl⟩
 have o:k<s.data.toList.length:=(by simpa using a);by_cases b:s[k]=43
 ·have b1:((s[k].toNat:Int)==43)=true:=AH (d:=43) b
  have j:Hid (BH s.data.toList=k+1):=by
   unfold Hid;rw[BH,g.out,AR,A' _ _ o,if_pos (.inl (by rw[<- AO s k a,b]))]
  clear b
  go_wp2_with (go_at_call 71;refine(FL _ _).mono ?_;rintro e p ⟨rfl,rfl⟩)
  go_ret2
  rw[g.out,j.out];exact⟨rfl,rfl⟩
 have b1:((s[k].toNat:Int)==43)=false:=Ao (d:=43) b;by_cases c:s[k]=45
 ·have b2:((s[k].toNat:Int)==45)=true:=AH (d:=45) c
  have j:Hid (BH s.data.toList=k+1):=by
   unfold Hid;rw[BH,g.out,AR,A' _ _ o,if_pos (.inr (by rw[<- AO s k a,c]))]
  clear b c
  go_wp2_with (go_at_call 71;refine(FL _ _).mono ?_;rintro e p ⟨rfl,rfl⟩)
  go_ret2
  rw[g.out,j.out];exact⟨rfl,rfl⟩
 have b2:((s[k].toNat:Int)==45)=false:=Ao (d:=45) c
 have j:Hid (BH s.data.toList=k):=by
  unfold Hid;rw[BH,g.out,AR,A' _ _ o,if_neg (fun e=>e.elim (fun e=>b (aA.inj e)) (fun e=>c (aA.inj e)))];rfl
 clear b c
 go_wp2_with (go_at_call 71;refine(FL _ _).mono ?_;rintro e p ⟨rfl,rfl⟩)
 go_ret2
 rw[g.out,j.out];exact⟨rfl,rfl⟩
theorem Pb (l:List UInt8):CC l<=l.length:=Bp _ _
theorem Pa (l:List UInt8):CC l<=BH l/\BH l<=l.length:=by
 have b:=Pb l;unfold BH AR;split
 ·rename_i h
  rcases Nat.lt_or_ge (CC l) l.length with a | a
  ·omega
  rw[Bv l _ a] at h;simp at h
 omega
def EV (l:List UInt8):Nat:=BH l+An (l.drop (BH l))
theorem Hy (s:ByteArray) (w:World) (x:Nat) (k:s.size<=maxLen) (o:An (s.data.toList.drop (BH s.data.toList))≠0)
  (j:Calls prog 66 #[.string (s.extract (CC s.data.toList) (EV s.data.toList)),.int .i64 64] w fun e c=>∃v,e = .returned (.tuple #[.float .f64 x,v])/\Below w.heap.size w c) :
  Calls prog 47 #[.string s] w fun e c=>e = .returned (.tuple #[.float .f64 (EU x),.int .i64 (EV s.data.toList)])/\Below w.heap.size w c:=by
 obtain⟨a,ha⟩:∃a,BH s.data.toList=a:=⟨_,rfl⟩;obtain⟨b,g⟩:∃b,CC s.data.toList=b:=⟨_,rfl⟩;obtain⟨n,i⟩:∃n,EV s.data.toList=n:=⟨_,rfl⟩;have h:=Pa s.data.toList;have d:=D9 (s.data.toList.drop (BH s.data.toList));have f:BH s.data.toList+An (s.data.toList.drop (BH s.data.toList))=n:=i;rw[ha,g] at h;rw[ha] at o d f;rw[i,g] at j;simp only[List.length_drop] at d;have l:s.data.toList.length=s.size:=rfl;have m:=aC (fun W=>Pc s W k);rw[ha,g] at m
 have p:Hid (∀W,Calls prog 65 #[.string s,.int .i64 a] W fun e c=>e = .returned (.int .i64 n)/\W=c):=fun W=>by
  have:=Mn s a W k (by omega)
  rwa [f] at this
 have q:=aC j;have r:b<=n:=(by omega);have t:n<=s.size:=(by omega);have u:((n:Int)==a)=false:=beq_eq_false_iff_ne.2 (by omega);rw[i];unfold maxLen at k;clear o ha h g i f d l j
 go_in
 go_wp2_with (first | (go_at_call 64;refine(m.out _).mono ?_;rintro e c ⟨rfl,rfl⟩) | (go_at_call 65;refine(p.out _).mono ?_;rintro e c ⟨rfl,rfl⟩) | (go_at_call 66;refine q.out.mono ?_;rintro e c ⟨v,rfl,g⟩) | (go_at_call 67;refine(P2 _ _).mono ?_;rintro e c ⟨rfl,rfl⟩))
 go_ret2
 exact⟨rfl,g⟩
theorem Bb (b:Bool) (w:World):Calls prog 100 #[.bool b] w fun e a=>e = .returned (.int .u64 (if b then 1 else 0))/\w=a:=by
 cases b<;>(go_in;go_wp2;go_ret;exact⟨rfl,rfl⟩)
theorem Kk (s:ByteArray) (w:World) (R:Ending->World->Prop) (a:Calls prog 86 #[.string s] w fun e b=>∃x n v,e = .returned (.tuple #[.float .f64 x,.int .i64 n,v])/\R e b) :
  Calls prog 78 #[.string s,.int .i64 64] w R:=by
 have c:=aC a;clear a
 go_in
 go_wp2_with (go_at_call 86;refine c.out.mono ?_;rintro e b ⟨x,n,v,rfl,d⟩)
 go_ret3
 exact d
theorem PE (s:ByteArray) (w w1:World) (x:Nat) (v:Value) (b:Calls prog 78 #[.string s,.int .i64 64] w fun e a=>e = .returned (.tuple #[.float .f64 x,.int .i64 s.size,v])/\w1=a) :
  Calls prog 73 #[.string s,.int .i64 64] w fun e a=>e = .returned (.tuple #[.float .f64 x,v])/\w1=a:=by
 have c:=aC b;clear b
 go_in
 go_wp2_with (go_at_call 78;refine c.out.mono ?_;rintro e a ⟨rfl,rfl⟩)
 go_ret2
 exact⟨rfl,rfl⟩
theorem Mr (s:ByteArray) (w:World) (x:Nat) (c:∀W,CG W->Calls prog 86 #[.string s] W fun e a=>e = .returned (.tuple #[.float .f64 x,.int .i64 s.size,.nilIface])/\W=a) (d:CG w) :
  Calls prog 66 #[.string s,.int .i64 64] w fun e a=>e = .returned (.tuple #[.float .f64 x,.nilIface])/\w=a:=by
 have b:=PE s w w x .nilIface (Kk s w _ ((c w d).mono fun e a h=>⟨x,s.size,.nilIface,h.1,h⟩));have f:=aC b;clear c d b
 go_in
 go_wp2_with (go_at_call 73;refine f.out.mono ?_;rintro e a ⟨rfl,rfl⟩)
 go_ret2
 exact⟨rfl,rfl⟩
def Il (neg:Bool):Nat:=if neg=true then 9223372036854775808 else 0
theorem FO (n:Int) (w:World):(callFunc 101 #[.int .u64 n]).run prog w = .ok (.value (.float .f64 n.toNat)) w:=by kernel_rfl
theorem Lw (s:ByteArray) (w:World) (j:s.size<=140737488351232) (d:∀c∈s.data.toList,c∈BC) (f:CG w) (p:Int) (b tr:Bool) (n:Nat)
  (i:rf s.data.toList=⟨0,p,b,tr,n,true⟩) :
  Calls prog 86 #[.string s] w fun e a=>e = .returned (.tuple #[.float .f64 (Il b),.int .i64 n,.nilIface])/\w=a:=by
 have o:=aC (fun W=>Dw s W (by unfold maxLen;omega) (fun k h=>d _ (List.getElem_mem (l:=s.data.toList) (by simpa using h))))
 have g:∀W,Calls prog 92 #[.string s] W fun e a=>e = .returned (.tuple #[.int .u64 (0:Nat),.int .i64 p,.bool b,.bool tr,.bool false,.int .i64 n,.bool true])/\W=a:=fun W=>by
  have:=Cy s W j d;rw[i] at this;exact this
 have m:=aC g;have r:=f.opt;have q:=FO;clear g f d i j;cases b
 all_goals
  go_in
  go_wp2_with (first | (go_at_call 91;refine(o.out _).mono ?_;rintro e a ⟨rfl,rfl⟩) | (go_at_call 92;refine(m.out _).mono ?_;rintro e a ⟨rfl,rfl⟩) | (go_at_call 100;refine(Bb _ _).mono ?_;rintro e a ⟨rfl,rfl⟩))
  go_ret3
  exact⟨rfl,rfl⟩
open Go.ChangeShapes Go.WideShapes Go.ChangeAt
theorem own:ownKnob prog.godebug=none:=by kernel_rfl
theorem RN (W:World) (N:aG prog W "internal/strconv.optimize" Rows.laid_internal_strconv_optimize)
  (O:aG prog W "internal/strconv.float64info" Rows.laid_internal_strconv_float64info)
  (P:aG prog W "internal/strconv.float64pow10" Rows.laid_internal_strconv_float64pow10):CG W:=by
 refine⟨?_,?_,?_⟩
 ·obtain⟨g,t,B,m,p,s,j,d,z⟩:=N
  obtain rfl:=aA.inj ((show prog.globalNamed "internal/strconv.optimize" = some 4 by kernel_rfl).symm.trans s);obtain rfl:=aA.inj ((show (prog.globals[4]?).map (·.type)=some 4 by kernel_rfl).symm.trans j);have u:=JT underlying4 z;rw[World.var?_cell s d 0,<- aB,u];rfl
 ·obtain⟨g,t,B,m,p,s,j,d,z⟩:=O
  obtain rfl:=aA.inj ((show prog.globalNamed "internal/strconv.float64info" = some 5 by kernel_rfl).symm.trans s);obtain rfl:=aA.inj ((show (prog.globals[5]?).map (·.type)=some 125 by kernel_rfl).symm.trans j);obtain⟨H,n,_,L,R,M,f⟩:=DataW.trod_struct underlying125 z
  have w:H.map (·.1)=[(.lit (.int .u64 52):DataW Unit),.lit (.int .u64 11),.lit (.int .i64 (-1023))]:=by
   have:=congrArg Prod.fst L;simpa[Rows.laid_internal_strconv_float64info] using this.symm
  have I:=f 0 _ rfl
  cases H with
  | nil=>simp at w
  | cons b r =>
    simp only[List.map_cons,List.cons.injEq] at w;obtain⟨b1,b2⟩:=b;obtain rfl:b1=_:=w.1;have E:prog.cellsOf 89=1:=(by kernel_rfl);have D:(B.toList.drop 0).take 1=[.int .u64 52]:=by rw[<- E];exact C1 (k:=.u64) (by kernel_rfl) I
    rw[World.var?_cell s d 0,<- aB];generalize B.toList=l at D
    cases l with
    | nil=>simp at D
    | cons c S=>exact congrArg List.head? D
 obtain⟨g,t,B,m,p,s,j,d,z⟩:=P;obtain rfl:=aA.inj ((show prog.globalNamed "internal/strconv.float64pow10" = some 8 by kernel_rfl).symm.trans s);obtain rfl:=aA.inj ((show (prog.globals[8]?).map (·.type)=some 166 by kernel_rfl).symm.trans j);obtain⟨a,C,u,f⟩:=FF (e:=32) (by kernel_rfl) (by kernel_rfl) z
 have F:∀i,i<23->([(.lit (.float .f64 0):DataW Unit)].take 0++Db.map fun x => .lit (.float .f64 x))[i]?=some (.lit (.float .f64 (Db.getD i 0))):=by
  intro i A;simp only[List.take_zero,List.nil_append,List.getElem?_map,List.getD_eq_getElem?_getD];rw[List.getElem?_eq_getElem (show i<Db.length from A)];rfl
 have h:∀i,i<23->W.cell? (a.add i)=some (.float .f64 (Db.getD i 0)):=by
  intro i A;obtain⟨v,Q,q,J,K⟩:=f i _ (F i A);have:=FE (k:=.f64) (by kernel_rfl) K;rw[J];exact congrArg some (List.cons.inj this).1
 obtain⟨b,o,G⟩:=a
 obtain rfl:G=none:=by
  have y:=h 0 (by omega);have:(Addr.add ⟨b,o,G⟩ 0)=⟨b,o,G⟩:=(by simp[Addr.add]);rw[this] at y;exact cell_spot y
 refine⟨b,o,C,?_,fun i A=>?_⟩
 ·rw[World.var?_cell s d 0,<- aB,u];rfl
 have:=h i A
 rwa [Addr.add_lit] at this
end Go.Proofs.YtjolfpcpcaocmaaGreatDoor
