/- Mp Ba Gd Pa Wa Wk Wt Pb Wu -/
import Derived.WalkKit
import Derived.Deep.Draws
import Derived.Laws.AppendOwn
import Derived.OwnWalk
import Derived.Test.YtfblenhlildnaaaGreatDoorRows
import Derived.WalkSpells
import Derived.WalkLawsBesides
import Derived.Lib.Hide
import Derived.Lib.Strings
set_option maxHeartbeats 1600000
open Go.World renaming block_lt_of_cell?->aA,cell?_setCell_other->aB,cell?_setCell_same->aC
open List renaming drop_eq_nil_of_le->aD,contains_cons->aF,drop_eq_getElem_cons->aH,contains_nil->aI,not_mem_nil->aN
open Bool renaming or_false->aE,false_eq_true->aG,true_or->aJ,or_true->aK,eq_iff_iff->aL
namespace Go
inductive Tr where
 | mk (k:Int) (nm:List UInt8) (x:Nat) (z:Nat×Nat) (ks:List Tr)
def Tr.kd:Tr->Int | .mk k _ _ _ _=>k
def Tr.nm:Tr->List UInt8 | .mk _ n _ _ _=>n
def Tr.x:Tr->Nat | .mk _ _ x _ _=>x
def Tr.z:Tr->Nat×Nat | .mk _ _ _ z _=>z
def Tr.ks:Tr->List Tr | .mk _ _ _ _ ks=>ks
mutual
/-- How many nodes. -/
def Tr.wt:Tr->Nat | .mk _ _ _ _ ks=>1+DN ks
def DN:List Tr->Nat | []=>0 | t::ts=>t.wt+DN ts
end
theorem Tr.wt_mk (k:Int) (nm:List UInt8) (x:Nat) (z:Nat×Nat) (ks:List Tr):(Tr.mk k nm x z ks).wt=1+DN ks:=by rw[Tr.wt]
theorem AM:DN []=0:=by rw[DN]
theorem AK (t:Tr) (a:List Tr):DN (t::a)=t.wt+DN a:=by rw[DN]
theorem B9 (a b:List Tr):DN (a++b)=DN a+DN b:=by
 induction a with
 | nil=>simp[AM]
 | cons t d c=>rw[List.cons_append,AK,AK,c];omega
theorem A9 {t:Tr} {ks:List Tr} (h:t∈ks):t.wt<=DN ks:=by
 induction ks with
 | nil=>cases h
 | cons a ks b=>rw[AK];cases h with
   | head=>omega
   | tail _ h=>have:=b h;omega
inductive Tr.All (P:Int->List UInt8->Nat->Prop):Tr->Prop
 | mk (k:Int) (nm:List UInt8) (x:Nat) (z:Nat×Nat) (ks:List Tr) (h:P k nm x) (hk:∀t∈ks,Tr.All P t):Tr.All P (.mk k nm x z ks)
theorem Tr.All.kid {P:Int->List UInt8->Nat->Prop} {t u:Tr} (h:Tr.All P t) (b:u∈t.ks):Tr.All P u:=by cases h with | mk k nm x z ks h a=>exact a u b
def A3 (s:List UInt8):List (List UInt8)->List UInt8
 | []=>[]
 | [a]=>a
 | a::b::r=>a++s++A3 s (b::r)
def q1 (c:UInt8):List UInt8:=if c=34\/c=92 then [92,c] else if 32<=c/\c<=126 then [c] else [92,48+c/64,48+c/8%8,48+c%8]
def s1 (c:UInt8):List UInt8:=if c=47 then [92,47] else [c]
def Ys (w:List UInt8) (a:List (List UInt8)):List UInt8:=if a=[] then w else w++[32]++A3 [44,32] a
end Go
namespace Go.Proofs.YtfblenhlildnaaaGreatDoor
structure Tk where
 kd:Int
 tx:List UInt8
 nm:Nat
 f:Nat
 t:Nat
 e:Int
structure Ps where
 a:Nat
 deep:Int
 outs:Int
inductive Hf (α:Type) where
 | ok (x:α) (p:Ps)
 | bad (f:Nat) (e:Int)
 | hush
def Hf.bind {a b:Type} (r:Hf a) (k:a->Ps->Hf b):Hf b :=
 match r with
 | .ok x p=>k x p
 | .bad f e => .bad f e
 | .hush => .hush
def isS (t:Tk) (x:List UInt8):Bool:=decide (t.kd=9)&&decide (t.tx=x)
def XI (t:Tk) (x:List UInt8):Bool:=decide (t.kd=8)&&decide (t.tx=x)
inductive NT where
 | expr | cond | or | orL (t:Tr) | and | andL (t:Tr) | inn | innL (t:Tr) | mat | matL (t:Tr) | cmp | cat | catL (t:Tr) | sum | sumL (t:Tr) | prod | prodL (t:Tr)
 | unary | power | post | primary | operand | target | dollar | cond1 | list | listL (l:List Tr) | args | index | has (l:List Tr)
section
variable (nx:Nat->Bool->Tk) (pl:Nat->Nat×Nat)
def Eb (b:Bool) (p:Ps):Hf Tk:=if (nx p.a b).e=0 then .ok (nx p.a b) p else .bad (nx p.a b).f (nx p.a b).e
def CQ (t:Tk) (p:Ps):Ps:={ p with a:=t.t }
def Yd (t:Tk) (p:Ps):Int:=if XI t [103,101,116,108,105,110,101]=true\/isS t [124]=true\/isS t [62,62]=true\/(isS t [62]=true/\p.outs=p.deep) then 27 else 25
def JF {a:Type} (t:Tk) (p:Ps):Hf a:=.bad t.f (Yd t p)
def ZT (x:List UInt8):Bool:=decide (x=[40])||decide (x=[91])||decide (x=[123])
def ZV (x:List UInt8):Bool:=decide (x=[41])||decide (x=[93])||decide (x=[125])
def Abb (x:List UInt8) (p:Ps):Hf (Nat×Nat) :=
 (Eb nx false p).bind fun t p =>
   if isS t x=true then
    if ZT x=true then (if 40<p.deep+1 then .bad t.f 26 else .ok (pl t.f) { p with a:=t.t,deep:=p.deep+1 })
    else if ZV x=true then .ok (pl t.f) { p with a:=t.t,deep:=p.deep-1 }
    else .ok (pl t.f) { p with a:=t.t }
   else JF t p
def Ab_ (x:List UInt8) (p:Ps):Hf Bool:=(Eb nx false p).bind fun t p => .ok (isS t x) p
def Lf (a:Bool):Nat->Ps->Hf Unit
 | 0,_ => .hush
 | n+1,p=>(Eb nx a p).bind fun t p=>if t.kd=1 then Lf a n (CQ t p) else .ok () p
def LB (a:Bool):Nat->Ps->Hf Tk
 | 0,_ => .hush
 | n+1,p=>(Eb nx a p).bind fun t p=>if t.kd=1\/isS t [59]=true then LB a n (CQ t p) else .ok t p
def Z1 (t:Tr):Bool:=decide (t.kd=4)||decide (t.kd=5)||decide (t.kd=6)
def I0 (t:Tk):Bool:=decide (t.kd=2\/t.kd=3\/t.kd=4\/t.kd=5\/t.kd=6\/t.kd=7)||(decide (t.kd=9)&&decide (t.tx=[36]\/t.tx=[40]\/t.tx=[43,43]\/t.tx=[45,45]\/t.tx=[43]\/t.tx=[45]\/t.tx=[33]))
def O3 (t:Tk):Bool:=I0 t && !isS t [43] && !isS t [45] && !isS t [33]
def hd1 (l:List Tr):Tr:=l.headD (.mk 0 [] 0 (0,0) [])
variable (ere:List UInt8->Option Bool)
def Dn:Nat->NT->Ps->Hf (List Tr)
 | 0,_,_ => .hush
 | n+1,k,p =>
   match k with
   | .expr=>(Dn n .cond p).bind fun l p=>(Eb nx false p).bind fun t p =>
      if t.kd=9/\Z1 (hd1 l)=true/\(t.tx=[61]\/t.tx=[43,61]\/t.tx=[45,61]\/t.tx=[42,61]\/t.tx=[47,61]\/t.tx=[37,61]\/t.tx=[94,61]) then
       (Dn n .expr (CQ t p)).bind fun m p => .ok [.mk 7 t.tx 0 (pl t.f) (l++m)] p
      else .ok l p
   | .cond=>(Dn n .or p).bind fun l p=>(Ab_ nx [63] p).bind fun q p=>if q=true then
       (Abb nx pl [63] p).bind fun z p=>(Dn n .expr p).bind fun x p=>(Abb nx pl [58] p).bind fun _ p=>(Dn n .expr p).bind fun y p => .ok [.mk 8 [] 0 z (l++x++y)] p
      else .ok l p
   | .or=>(Dn n .and p).bind fun l p=>Dn n (.orL (hd1 l)) p
   | .orL t=>(Ab_ nx [124,124] p).bind fun q p=>if q=true then
       (Abb nx pl [124,124] p).bind fun z p=>(Lf nx true n p).bind fun _ p=>(Dn n .and p).bind fun x p=>Dn n (.orL (.mk 9 [] 0 z (t::x))) p
      else .ok [t] p
   | .and=>(Dn n .inn p).bind fun l p=>Dn n (.andL (hd1 l)) p
   | .andL t=>(Ab_ nx [38,38] p).bind fun q p=>if q=true then
       (Abb nx pl [38,38] p).bind fun z p=>(Lf nx true n p).bind fun _ p=>(Dn n .inn p).bind fun x p=>Dn n (.andL (.mk 10 [] 0 z (t::x))) p
      else .ok [t] p
   | .inn=>(Dn n .mat p).bind fun l p=>Dn n (.innL (hd1 l)) p
   | .innL t=>(Eb nx false p).bind fun u p=>if XI u [105,110]=true then (Dn n (.has [t]) p).bind fun l p=>Dn n (.innL (hd1 l)) p else .ok [t] p
   | .has l=>(Eb nx false p).bind fun t p=>if XI t [105,110]=true then
       (Eb nx false (CQ t p)).bind fun u p=>if u.kd=5 then .ok [.mk 11 u.tx 0 (pl t.f) l] (CQ u p) else JF u p
      else JF t p
   | .mat=>(Dn n .cmp p).bind fun l p=>Dn n (.matL (hd1 l)) p
   | .matL x=>(Eb nx false p).bind fun t p=>if isS t [126]=true\/isS t [33,126]=true then
       (Dn n .cmp (CQ t p)).bind fun y p=>Dn n (.matL (.mk 12 t.tx 0 (pl t.f) (x::y))) p
      else .ok [x] p
   | .cmp=>(Dn n .cat p).bind fun l p=>(Eb nx false p).bind fun t p =>
      if t.kd=9/\((t.tx=[62]/\p.outs≠p.deep)\/t.tx=[60]\/t.tx=[60,61]\/t.tx=[61,61]\/t.tx=[33,61]\/t.tx=[62,61]) then
       (Dn n .cat (CQ t p)).bind fun m p => .ok [.mk 13 t.tx 0 (pl t.f) (l++m)] p
      else .ok l p
   | .cat=>(Dn n .sum p).bind fun l p=>Dn n (.catL (hd1 l)) p
   | .catL x=>(Eb nx false p).bind fun t p=>if O3 t=true then (Dn n .sum p).bind fun y p=>Dn n (.catL (.mk 14 [] 0 x.z (x::y))) p else .ok [x] p
   | .sum=>(Dn n .prod p).bind fun l p=>Dn n (.sumL (hd1 l)) p
   | .sumL x=>(Eb nx false p).bind fun t p=>if isS t [43]=true\/isS t [45]=true then
       (Dn n .prod (CQ t p)).bind fun y p=>Dn n (.sumL (.mk 15 t.tx 0 (pl t.f) (x::y))) p
      else .ok [x] p
   | .prod=>(Dn n .unary p).bind fun l p=>Dn n (.prodL (hd1 l)) p
   | .prodL x=>(Eb nx false p).bind fun t p=>if isS t [42]=true\/isS t [47]=true\/isS t [37]=true then
       (Dn n .unary (CQ t p)).bind fun y p=>Dn n (.prodL (.mk 15 t.tx 0 (pl t.f) (x::y))) p
      else .ok [x] p
   | .unary=>(Eb nx true p).bind fun t p=>if isS t [33]=true\/isS t [45]=true\/isS t [43]=true then
       (Dn n .unary (CQ t p)).bind fun x p => .ok [.mk 16 t.tx 0 (pl t.f) x] p
      else Dn n .power p
   | .power=>(Dn n .post p).bind fun l p=>(Ab_ nx [94] p).bind fun q p=>if q=true then
       (Abb nx pl [94] p).bind fun z p=>(Dn n .unary p).bind fun x p => .ok [.mk 15 [94] 0 z (l++x)] p
      else .ok l p
   | .post=>(Dn n .primary p).bind fun l p=>(Eb nx false p).bind fun t p =>
      if Z1 (hd1 l)=true/\(isS t [43,43]=true\/isS t [45,45]=true) then .ok [.mk 18 t.tx 0 (pl t.f) l] (CQ t p) else .ok l p
   | .primary=>(Eb nx true p).bind fun t p=>if isS t [40]=true then
       (Abb nx pl [40] p).bind fun _ p=>(Dn n .list p).bind fun l p=>(Abb nx pl [41] p).bind fun _ p=>if l.length=1 then .ok l p else Dn n (.has l) p
      else Dn n .operand p
   | .operand=>(Eb nx true p).bind fun t p =>
      if t.kd=2 then .ok [.mk 1 [] t.nm (pl t.f) []] (CQ t p)
      else if t.kd=3 then (if 256<t.tx.length then .bad t.f 12 else .ok [.mk 2 t.tx 0 (pl t.f) []] (CQ t p))
      else if t.kd=4 then (match ere t.tx with | some true => .ok [.mk 3 t.tx 0 (pl t.f) []] (CQ t p) | some false => .bad t.f 24 | none => .hush)
      else if t.kd=6 then (if t.tx=[115,121,115,116,101,109] then .bad t.f 27 else (Dn n .args (CQ t p)).bind fun l p => .ok [.mk 19 t.tx 0 (pl t.f) l] p)
      else if t.kd=7 then
       (if t.tx=[108,101,110,103,116,104] then (Ab_ nx [40] (CQ t p)).bind fun q p=>if q=true then (Dn n .args p).bind fun l p => .ok [.mk 20 t.tx 0 (pl t.f) l] p else .ok [.mk 20 t.tx 0 (pl t.f) []] p
        else (Dn n .args (CQ t p)).bind fun l p => .ok [.mk 20 t.tx 0 (pl t.f) l] p)
      else if isS t [43,43]=true\/isS t [45,45]=true then (Dn n .target (CQ t p)).bind fun l p => .ok [.mk 17 t.tx 0 (pl t.f) l] p
      else Dn n .target p
   | .args=>(Abb nx pl [40] p).bind fun _ p=>(Eb nx true p).bind fun t p =>
      if isS t [41]=true then (Abb nx pl [41] p).bind fun _ p => .ok [] p else (Dn n .list p).bind fun l p=>(Abb nx pl [41] p).bind fun _ p => .ok l p
   | .list=>(Dn n .expr p).bind fun l p=>Dn n (.listL l) p
   | .listL l=>(Ab_ nx [44] p).bind fun q p=>if q=true then
       (Abb nx pl [44] p).bind fun _ p=>(Lf nx true n p).bind fun _ p=>(Dn n .expr p).bind fun x p=>Dn n (.listL (l++x)) p
      else .ok l p
   | .index=>(Abb nx pl [91] p).bind fun _ p=>(Dn n .list p).bind fun l p=>(Abb nx pl [93] p).bind fun _ p => .ok l p
   | .target=>(Eb nx true p).bind fun t p =>
      if t.kd=5 then (Ab_ nx [91] (CQ t p)).bind fun q p=>if q=true then (Dn n .index p).bind fun l p => .ok [.mk 5 t.tx 0 (pl t.f) l] p else .ok [.mk 4 t.tx 0 (pl t.f) []] p
      else if isS t [36]=true then (Dn n .dollar (CQ t p)).bind fun l p => .ok [.mk 6 [] 0 (pl t.f) l] p
      else JF t p
   | .dollar=>(Eb nx true p).bind fun t p=>if isS t [40]=true then Dn n .cond1 p else Dn n .operand p
   | .cond1=>(Abb nx pl [40] p).bind fun _ p=>(Dn n .expr p).bind fun l p=>(Abb nx pl [41] p).bind fun _ p => .ok l p
end
end Go.Proofs.YtfblenhlildnaaaGreatDoor
namespace Go
open Go.RowKit
structure BO (w:World) (b:Nat) (f:Nat->Nat) (nd dp:Int) (ng tr:Bool):Prop where
 d:∀i,i<800->w.cell? ⟨b,i,none⟩=some (.int .u8 (f i))
 nd:w.cell? ⟨b,800,none⟩=some (.int .i64 nd)
 dp:w.cell? ⟨b,801,none⟩=some (.int .i64 dp)
 ng:w.cell? ⟨b,802,none⟩=some (.bool ng)
 tr:w.cell? ⟨b,803,none⟩=some (.bool tr)
 fz:∀i,w.frozen? ⟨b,i,none⟩=false
def upd (f:Nat->Nat) (i v:Nat):Nat->Nat:=fun j=>if j=i then v else f j
section
variable {w:World} {b:Nat} {f:Nat->Nat} {nd dp:Int} {ng tr:Bool}
theorem A8 {w:World} {a:Addr} {u v:Value} (h:w.cell? a=some u):(w.setCell a v).cell? a=some v:=by
 first | exact aC _ _ h | exact aC _ _ _ h | simp[aC,h]
theorem Ag {w:World} {a b:Addr} {v:Value} (h:a≠b):(w.setCell a v).cell? b=w.cell? b:=by
 first | exact aB _ _ h | exact aB _ _ _ h | exact aB _ _ _ _ h
theorem Ai {b i j:Nat} (h:i≠j):(⟨b,i,none⟩:Addr)≠⟨b,j,none⟩:=fun e=>h (by injection e)
theorem BO.below {w':World} (h:BO w b f nd dp ng tr) (a:Below w.heap.size w w'):BO w' b f nd dp ng tr where
 d:=fun j c=>by rw[a.cell (aA w _ (h.d j c))];exact h.d j c
 nd:=by rw[a.cell (aA w _ h.nd)];exact h.nd
 dp:=by rw[a.cell (aA w _ h.dp)];exact h.dp
 ng:=by rw[a.cell (aA w _ h.ng)];exact h.ng
 tr:=by rw[a.cell (aA w _ h.tr)];exact h.tr
 fz:=fun j=>by rw[a.frozen (p:=⟨b,j,none⟩) (aA w ⟨b,800,none⟩ h.nd)];exact h.fz j
theorem BO.drewN (h:BO w b f nd dp ng tr) (n:Nat):BO (w.drewN n) b f nd dp ng tr:=⟨h.d,h.nd,h.dp,h.ng,h.tr,h.fz⟩
theorem BO.drew (h:BO w b f nd dp ng tr):BO w.drew b f nd dp ng tr:=⟨h.d,h.nd,h.dp,h.ng,h.tr,h.fz⟩
theorem BO.lt (h:BO w b f nd dp ng tr):b<w.heap.size:=aA w ⟨b,800,none⟩ h.nd
def Ae (b:Nat) (a w:World):Prop:=a.grownBy w (some b)
theorem Ae.refl (b:Nat) (w:World):Ae b w w:=World.grownBy.refl w _
theorem Ae.trans {b:Nat} {a w w':World} (h:Ae b a w) (c:Ae b w w'):Ae b a w' :=
 ⟨c.os.trans h.os,c.tape.trans h.tape,c.output.trans h.output,Nat.le_trans h.size c.size,fun i d e=>(c.block i (Nat.lt_of_lt_of_le d h.size) e).trans (h.block i d e)⟩
theorem Ae.drewN {b:Nat} {a w:World} (h:Ae b a w) (n:Nat):Ae b a (w.drewN n):=⟨h.os,h.tape,h.output,h.size,h.block⟩
theorem Ae.drew {b:Nat} {a w:World} (h:Ae b a w):Ae b a w.drew:=⟨h.os,h.tape,h.output,h.size,h.block⟩
theorem Ae.set {a w:World} {b:Nat} (h:Ae b a w) (i:Nat) (u:Value):Ae b a (w.setCell ⟨b,i,none⟩ u) :=
 ⟨h.os,h.tape,h.output,by simpa[World.setCell] using h.size,fun d e c=>(Below.heap_setCell w ⟨b,i,none⟩ u d (by
   rintro rfl
   exact c rfl)).trans (h.block d e c)⟩
theorem Ae.of_below {a w:World} (b:Nat) (h:Below a.heap.size a w):Ae b a w:=⟨h.os,h.tape,h.output,h.size,fun i c _=>h.block i c⟩
theorem Ae.cell {a w:World} {b:Nat} (h:Ae b a w) {p:Addr} (d:p.block≠b) (c:p.block<a.heap.size):w.cell? p=a.cell? p :=
 World.cell?_of_block (h.block p.block c (fun e=>d (by injection e)))
theorem Ae.below_of {a w:World} {b B:Nat} (h:Ae b a w) {f:World} (c:Below B f a) (j:B<=b) (g:B<=a.heap.size):Below B f w :=
 ⟨h.os.trans c.os,h.tape.trans c.tape,h.output.trans c.output,Nat.le_trans c.size h.size,fun i d=>(h.block i (Nat.lt_of_lt_of_le d g) (fun e=>by injection e with e;omega)).trans (c.block i d)⟩
end
end Go
namespace Go.Proofs.YtfblenhlildnaaaGreatDoor
def C3 (c:Int):Bool:=decide (48<=c)&&decide (c<=57)
def DI (c:Int):Bool:=(decide (65<=c)&&decide (c<=90))||(decide (97<=c)&&decide (c<=122))||decide (c=95)
def GT (c:Int):Bool:=(decide (9<=c)&&decide (c<=13))||decide (c=32)
def Al (p:UInt8->Bool):List UInt8->Nat
 | []=>0
 | c::r=>if p c then Al p r+1 else 0
theorem Bp (p:UInt8->Bool):∀l,Al p l<=l.length
 | []=>Nat.le_refl _
 | c::r=>by unfold Al;split<;>simp;exact Bp p r
def Aj (c:UInt8):Bool:=C3 c.toNat
def AbH (c:UInt8):Bool:=DI c.toNat
def DH (c:UInt8):Bool:=GT c.toNat
def BI (c:UInt8):Bool:=AbH c||Aj c
theorem Aq (l:List UInt8) (k:Nat) (h:k<l.length):l.drop k=l[k]::l.drop (k+1):=aH h
theorem Da (p:UInt8->Bool) (l:List UInt8) (k:Nat) (h:k<l.length) (a:p l[k]=true):Al p (l.drop k)=Al p (l.drop (k+1))+1:=by
 rw[Aq l k h,Al,if_pos a]
theorem DQ (p:UInt8->Bool) (l:List UInt8) (k:Nat) (h:k<l.length) (a:p l[k]=false):Al p (l.drop k)=0:=by
 rw[Aq l k h,Al,if_neg (by simp[a])]
theorem C' (p:UInt8->Bool) (l:List UInt8) (k:Nat) (h:l.length<=k):Al p (l.drop k)=0:=by
 rw[aD h];rfl
def Ys:List (List UInt8):=[[66,69,71,73,78],[69,78,68],[69,86,69,82,89],[71,65,80],[102,117,110,99,116,105,111,110],[105,102],[101,108,115,101],[119,104,105,108,101],[102,111,114],[100,111],[98,114,101,97,107],[99,111,110,116,105,110,117,101],[110,101,120,116],[101,120,105,116],[114,101,116,117,114,110],[100,101,108,101,116,101],[105,110],[103,101,116,108,105,110,101],[112,114,105,110,116],[112,114,105,110,116,102]]
def M7:List (List UInt8):=[[108,101,110,103,116,104],[115,117,98,115,116,114],[105,110,100,101,120],[115,112,108,105,116],[115,117,98],[103,115,117,98],[109,97,116,99,104],[115,112,114,105,110,116,102],[116,111,108,111,119,101,114],[116,111,117,112,112,101,114],[105,110,116],[115,113,114,116],[101,120,112],[108,111,103],[115,105,110],[99,111,115],[97,116,97,110,50],[114,97,110,100],[115,114,97,110,100],[101,120,112,105,114,101]]
def He:List (List UInt8):=[[38,38],[124,124],[43,43],[45,45],[43,61],[45,61],[42,61],[47,61],[37,61],[94,61],[61,61],[60,61],[62,61],[33,61],[33,126],[62,62]]
def Mo:List UInt8:=[123,125,40,41,91,93,59,44,43,45,42,47,37,94,33,62,60,124,63,58,126,36,61]
def BY (q:UInt8):List UInt8->Option Nat
 | []=>none
 | c::r=>if c=10 then none else if c=q then some 0 else if c=92 then (match r with | []=>none | d::r'=>if d=10 then none else (BY q r').map (· + 2)) else (BY q r).map (· + 1)
open Go.Proofs.Tryz
open Go.RowKit
theorem AZ {k:IntKind} {a b:Int} (h:a=b):Ending.returned (.int k a) = .returned (.int k b):=by rw[h]
theorem B3 {a b:Bool} (h:a=b):Ending.returned (.bool a) = .returned (.bool b):=by rw[h]
theorem QI {c:UInt8} {d:UInt8} (h:((c.toNat:Int)==(d.toNat:Int))=true):c=d:=UInt8.toNat_inj.1 (by have:=eq_of_beq h;omega)
theorem AH {c d:UInt8} (h:c=d):((c.toNat:Int)==(d.toNat:Int))=true:=by subst h;simp
theorem Ao {c d:UInt8} (h:c≠d):((c.toNat:Int)==(d.toNat:Int))=false:=by
 cases a:((c.toNat:Int)==(d.toNat:Int)) with
 | false=>rfl
 | true=>exact absurd (QI a) h
theorem Cu {c d:UInt8} (h:c≠d):((c.toNat:Int) != (d.toNat:Int))=true:=by rw[bne,Ao h];rfl
theorem Et {c d:UInt8} (h:c=d):((c.toNat:Int) != (d.toNat:Int))=false:=by rw[bne,AH h];rfl
theorem AO (s:ByteArray) (k:Nat) (h:k<s.size):s[k]=s.data.toList[k]'(by simpa using h):=rfl
theorem Tryz.info_u8:(prog.info? 5).map (fun i=>(i.zero,i.size,i.bytes))=some (some (.int .u8 0),1,1):=by kernel_rfl
theorem Nz (c:Int) (w:World):Calls prog 263 #[.int .u8 c] w fun e a=>e = .returned (.bool (C3 c))/\w=a:=by
 go_in
 go_wp2
 all_goals (go_ret;exact⟨B3 (by simp[C3, *]<;>omega),rfl⟩)
theorem FL (c:Int) (w:World):Calls prog 247 #[.int .u8 c] w fun e a=>e = .returned (.bool (GT c))/\w=a:=by
 go_in
 go_wp2
 all_goals (go_ret;refine⟨B3 ?_,rfl⟩)
 all_goals (rw[aL];simp[GT];omega)
theorem Na (s:ByteArray) (i:Nat) (w:World) (h:s.size<=maxLen) (g:i<=s.size) :
  Calls prog 248 #[.string s,.int .i64 i] w fun e f=>e = .returned (.int .i64 (i+Al Aj (s.data.toList.drop i):Nat))/\w=f:=by
 unfold maxLen at h
 go_in
 go_wp2
 go_loop [1] (fun n=>∃k:Nat,k<=s.size/\n = .int .i64 k/\i+Al Aj (s.data.toList.drop i)=k+Al Aj (s.data.toList.drop k)) (fun n=>s.size-(intOf n).toNat)
 case atStart=>exact⟨i,g,rfl,rfl⟩
 obtain⟨k,j,rfl,b⟩:=hrel;have c:=Lib.hid b;clear b;by_cases a:k<s.size
 ·go_wp2_with (go_at_call 263;refine(Nz _ _).mono ?_;rintro e f ⟨rfl,rfl⟩)
  ·rename_i d
   go_round
   case rel=>exact⟨k+1,by omega,by go_num,by rw[c.out,Da Aj _ k (by simpa using a) d];omega⟩
   simp[intOf];omega
  rename_i d
  go_ret;exact⟨AZ (by rw[c.out,DQ Aj _ k (by simpa using a) d];rfl),rfl⟩
 go_wp2;go_ret;exact⟨AZ (by rw[<- Int.natCast_add,c.out,C' Aj _ k (by simpa using a)];rfl),rfl⟩
theorem AV (c:Int) (w:World):Calls prog 35 #[.int .u8 c] w fun e a=>e = .returned (.bool (C3 c))/\w=a:=by
 go_in
 go_wp2
 all_goals (go_ret;exact⟨B3 (by simp[C3, *]<;>omega),rfl⟩)
theorem AN (c:Int) (w:World):Calls prog 34 #[.int .u8 c] w fun e a=>e = .returned (.bool (DI c))/\w=a:=by
 go_in
 go_wp2
 all_goals (go_ret;refine⟨B3 ?_,rfl⟩)
 all_goals (rw[aL];simp[DI];omega)
theorem MV (s:ByteArray):s.toList=s.data.toList:=ByteArray.toList_eq s
theorem Nm (s:ByteArray) (w:World):Calls prog 36 #[.string s] w fun e a=>e = .returned (.bool (Ys.contains s.data.toList))/\w=a:=by
 rw[<- MV]
 go_in
 go_wp2
 all_goals (go_ret;refine⟨B3 ?_,rfl⟩)
 all_goals (simp only[Ys,aF,aI,aE, *,aJ,aK])
 all_goals simp_all
theorem L7 (s:ByteArray) (w:World):Calls prog 37 #[.string s] w fun e a=>e = .returned (.bool (M7.contains s.data.toList))/\w=a:=by
 rw[<- MV]
 go_in
 go_wp2
 all_goals (go_ret;refine⟨B3 ?_,rfl⟩)
 all_goals (simp only[M7,aF,aI,aE, *,aJ,aK])
 all_goals simp_all
def Dj (l:List UInt8):Bool:=Ys.contains l
def AbT (l:List UInt8):Bool:=M7.contains l
theorem PH (s:ByteArray) (T:List UInt8) (h:s.data.toList=T) (w:World):Calls prog 36 #[.string s] w fun e a=>e = .returned (.bool (Dj T))/\w=a:=by
 subst h;exact Nm s w
theorem Nl (s:ByteArray) (T:List UInt8) (h:s.data.toList=T) (w:World):Calls prog 37 #[.string s] w fun e a=>e = .returned (.bool (AbT T))/\w=a:=by
 subst h;exact L7 s w
def A4:List UInt8:=[34,92,47,110,116,114,102,118,97,98]
def F7:List UInt8:=[34,92,47,10,9,13,12,11,7,8]
def D_:Nat->Nat->List UInt8->Nat×Nat
 | 0,n,_=>(n,0)
 | _+1,n,[]=>(n,0)
 | f+1,n,c::r=>if 48<=c.toNat/\c.toNat<=55 then ((D_ f (8*n+(c.toNat-48)) r).1,(D_ f (8*n+(c.toNat-48)) r).2+1) else (n,0)
def BZ (l:List UInt8):UInt8×Nat :=
 match l with
 | []=>(0,0)
 | c::_=>if A4.idxOf c<10 then (F7.getD (A4.idxOf c) 0,1) else (UInt8.ofNat (D_ 3 0 l).1,(D_ 3 0 l).2)
theorem OM (f n:Nat) (l:List UInt8) (k:Nat) (h:k<l.length) (a:48<=l[k].toNat/\l[k].toNat<=55) :
  D_ (f+1) n (l.drop k)=((D_ f (8*n+(l[k].toNat-48)) (l.drop (k+1))).1,(D_ f (8*n+(l[k].toNat-48)) (l.drop (k+1))).2+1):=by
 rw[Aq l k h,D_,if_pos a]
theorem R3 (f n:Nat) (l:List UInt8) (k:Nat) (h:k<l.length) (a:¬ (48<=l[k].toNat/\l[k].toNat<=55)):D_ f n (l.drop k)=(n,0):=by
 cases f with
 | zero=>rfl
 | succ f=>rw[Aq l k h,D_,if_neg a]
theorem OL (f n:Nat) (l:List UInt8) (k:Nat) (h:l.length<=k):D_ f n (l.drop k)=(n,0):=by
 rw[aD h];cases f<;>rfl
theorem R2:∀(f n:Nat) (l:List UInt8),(D_ f n l).2<=f/\(D_ f n l).2<=l.length
 | 0,_,_=>by simp[D_]
 | _+1,_,[]=>by simp[D_]
 | f+1,n,c::r=>by
   unfold D_;split
   ·have:=R2 f (8*n+(c.toNat-48)) r;simp;omega
   simp
theorem TD (l:List UInt8):(BZ l).2<=l.length:=by
 unfold BZ;split
 ·simp
 rename_i c r
 split
 ·simp
 exact(R2 3 0 (c::r)).2
theorem RE (c:UInt8) (L:List UInt8) (k:Nat) (h:k<L.length):(L.drop k).idxOf c=if L[k]=c then 0 else (L.drop (k+1)).idxOf c+1:=by
 rw[aH h,List.idxOf_cons];by_cases a:L[k]=c
 ·simp[a]
 rw[if_neg a,beq_eq_false_iff_ne.2 a];rfl
theorem Ad' (c:UInt8) (l:List UInt8) (b:0<l.length) (a:l[0]=c) (k:Nat) (h:k<10) (e:A4.idxOf c=k):BZ l=(F7[k]'h,1):=by
 cases l with
 | nil=>simp at b
 | cons d r =>
   simp at a;subst a;rw[BZ,e,if_pos h];congr 1;rw[List.getD_eq_getElem?_getD,List.getElem?_eq_getElem (show k<F7.length from h)];rfl
theorem Rk (c:UInt8) (l:List UInt8) (b:0<l.length) (a:l[0]=c) (e:¬ A4.idxOf c<10):BZ l=(UInt8.ofNat (D_ 3 0 l).1,(D_ 3 0 l).2):=by
 cases l with
 | nil=>simp at b
 | cons d r =>
   simp at a;subst a;rw[BZ,if_neg e]
def KO:Nat->List UInt8->Option (List UInt8)
 | 0,_=>none
 | _+1,[]=>some []
 | f+1,c::r=>if c≠92 then (KO f r).map (c :: ·) else if (BZ r).2=0 then none else (KO f (r.drop (BZ r).2)).map ((BZ r).1 :: ·)
def FN (l:List UInt8):Option (List UInt8):=KO (l.length+1) l
theorem GY:∀(f g:Nat) (l:List UInt8),l.length<f->l.length<g->KO f l=KO g l
 | 0,_,_,h,_=>absurd h (by omega)
 | _,0,_,_,h=>absurd h (by omega)
 | f+1,g+1,[],_,_=>rfl
 | f+1,g+1,c::r,h,h'=>by
   simp only[List.length_cons] at h h';unfold KO;rw[GY f g r (by omega) (by omega),GY f g (r.drop (BZ r).2) (by simp;omega) (by simp;omega)]
theorem Ox:FN []=some []:=rfl
theorem JZ (c:UInt8) (r:List UInt8) (h:c≠92):FN (c::r)=(FN r).map (c :: ·):=by
 rw[FN,KO,if_pos h];rfl
theorem Ov (r:List UInt8) (h:(BZ r).2=0):FN (92::r)=none:=by
 rw[FN,KO,if_neg (by simp),if_pos h]
theorem Ow (r:List UInt8) (h:(BZ r).2≠0):FN (92::r)=(FN (r.drop (BZ r).2)).map ((BZ r).1 :: ·):=by
 rw[FN,KO,if_neg (by simp),if_neg h,FN,GY ((92::r).length) ((r.drop (BZ r).2).length+1) _ (by simp;omega) (by omega)]
def Df:List UInt8->List UInt8
 | []=>[]
 | [c]=>if c=92 then [] else [c]
 | c::d::r=>if c=92 then (if d=47 then Df r |>.cons d else 92::d::Df r) else c::Df (d::r)
theorem Xe (s:ByteArray) (i:Nat):(s.extract i (i+2)).toList=(s.data.toList.drop i).take 2:=by
 rw[MV,Lib.extract_data];congr 1;omega
def oneN (c:UInt8):Nat:=if Mo.contains c then 1 else 0
def B6:List UInt8->Nat
 | []=>0
 | c::r=>if He.contains ((c::r).take 2) then 2 else if Mo.contains c then 1 else 0
theorem SG (s:ByteArray) (i:Nat) (w:World) (b:s.size<=maxLen) (d:i+1<s.size) (a:(s.extract i (i+2)).toList∈He):Calls prog 128 #[.string s,.int .i64 i] w fun e c=>e = .returned (.int .i64 2)/\w=c:=by
 unfold maxLen at b;simp only[He,List.mem_cons,aN,or_false] at a;rcases a with a | a | a | a | a | a | a | a | a | a | a | a | a | a | a | a<;>(go_in;go_wp2;go_ret;exact⟨rfl,rfl⟩)
theorem Tw (c d:UInt8):(c==d)=((c.toNat:Int)==(d.toNat:Int)):=by
 rw[aL];simp[<- UInt8.toNat_inj];omega
theorem R8 (c:UInt8):Mo.contains c=(((c.toNat:Int)==123)||((c.toNat:Int)==125)||((c.toNat:Int)==40)||((c.toNat:Int)==41)||((c.toNat:Int)==91)||((c.toNat:Int)==93)||((c.toNat:Int)==59)||((c.toNat:Int)==44)||((c.toNat:Int)==43)||((c.toNat:Int)==45)||((c.toNat:Int)==42)||((c.toNat:Int)==47)||((c.toNat:Int)==37)||((c.toNat:Int)==94)||((c.toNat:Int)==33)||((c.toNat:Int)==62)||((c.toNat:Int)==60)||((c.toNat:Int)==124)||((c.toNat:Int)==63)||((c.toNat:Int)==58)||((c.toNat:Int)==126)||((c.toNat:Int)==36)||((c.toNat:Int)==61)):=by
 simp only[Mo,aF,aI,aE,Tw,Bool.or_assoc];rfl
theorem SF (s:ByteArray) (i:Nat) (w:World) (c:s.size<=maxLen) (n:i<s.size) (a:decide (i+1<s.size)=false\/(decide (i+1<s.size)=true/\¬ (s.extract i (i+2)).toList∈He)):Calls prog 128 #[.string s,.int .i64 i] w fun e d=>e = .returned (.int .i64 (oneN s[i]:Nat))/\w=d:=by
 unfold maxLen at c;rcases a with a | ⟨a,b⟩
 ·simp only[decide_eq_false_iff_not] at a
  go_in
  go_wp2
  all_goals (go_ret;refine⟨AZ ?_,rfl⟩;rw[oneN,R8];simp only[*,aJ,aK,aE,if_true,aG,if_false];rfl)
 simp only[decide_eq_true_eq] at a;simp only[He,List.mem_cons,aN,or_false,not_or,<- beq_eq_false_iff_ne] at b;obtain⟨o,p,q,r,t,u,v,x,y,f,g,h,j,k,l,m⟩:=b
 go_in
 go_wp2
 all_goals (go_ret;refine⟨AZ ?_,rfl⟩;rw[oneN,R8];simp only[*,aJ,aK,aE,if_true,aG,if_false];rfl)
theorem EC (s:ByteArray) (i:Nat) (w:World) (j:s.size<=maxLen) (g:i<s.size):Calls prog 128 #[.string s,.int .i64 i] w fun e f=>e = .returned (.int .i64 (B6 (s.data.toList.drop i):Nat))/\w=f:=by
 have d:=Aq s.data.toList i (by simpa using g);by_cases a:i+1<s.size/\(s.extract i (i+2)).toList∈He
 ·refine(SG s i w j a.1 a.2).mono ?_
  rintro e f ⟨rfl,rfl⟩;refine⟨AZ ?_,rfl⟩;rw[d,B6,<- d,<- Xe,if_pos (by simpa using a.2)];rfl
 have k:He.contains ((s.data.toList.drop i).take 2)=false:=by
  by_cases b:i+1<s.size
  ·rw[<- Xe];simpa using fun h=>a ⟨b,h⟩
  rw[d,aD (by simp;omega)];generalize s.data.toList[i]=c;simp[He]
 refine(SF s i w j g ?_).mono ?_
 ·by_cases b:i+1<s.size
  ·exact .inr ⟨by simpa using b,fun h=>a ⟨b,h⟩⟩
  exact .inl (by simpa using b)
 rintro e f ⟨rfl,rfl⟩;refine⟨AZ ?_,rfl⟩;rw[d,B6,<- d,k];simp only[aG,if_false];rfl
end Go.Proofs.YtfblenhlildnaaaGreatDoor
