/- Gm Mp -/
import Derived.WalkKit
import Derived.Laws.BytesArg
open List renaming length_append->aA,length_cons->aB,cons_append->aD,length_nil->aE,mem_cons_of_mem->aF,getD_eq_getElem?_getD->aG,mem_cons_self->aH,map_cons->aI,getElem?_map->aJ,flatMap_cons->aK
open Nat renaming le_refl->aC
namespace Go
open Go.RowKit
def Ge (l:List UInt8):List Value:=l.map fun c => .int .u8 c.toNat
theorem E9 (l:List UInt8):strOfNums (l.map fun c=>(c.toNat:Int))=⟨l.toArray⟩:=by
 simp only[strOfNums,List.map_map];congr 2
 have:((fun n:Int=>UInt8.ofNat n.toNat) ∘ fun c:UInt8=>(c.toNat:Int))=id:=by
  funext c;simp
 rw[this,List.map_id]
theorem Ci {P:Program} {w:World} {base:Nat} {b a e:TypeId} {v:Value} {l:List UInt8} (m:P.underlying b=some (.slice e)) (k:P.underlying e=some (.int .u8)) (j:P.underlying a=some .string)
  (h:w.ownsRow base e 1 v l.length (Ge l)):(convert b a v).run P w = .ok (.string ⟨l.toArray⟩) w:=by
 obtain⟨s,o⟩:=h;rcases o with⟨rfl,n⟩ | ⟨g,f,d,rfl,_,p,_,_,r,c⟩
 ·have:l=[]:=List.eq_nil_of_length_eq_zero n
  subst this;exact run_convert_bytes_nil w b e m k _ _ a j
 rw[<- E9];refine run_convert_bytes_arg w b e m k g 0 l.length f _ (by simp) (fun i q=>?_) a j
 have:d.toList[i]?=(Ge l)[i]?:=by
  rw[<- c,List.getElem?_take,if_pos (by omega)]
 rw[cell_of_row w g (0+i) d e (0,0) p];simp only[Nat.zero_add];rw[<- Array.getElem?_toList,this];simp[Ge,q]
@[go_sem] theorem QO {P:Program} {w:World} {a:Addr} {m:Mode} (k:FloatKind) (b:Nat):(store a (.float k b) m).run P w=stored P w a (.float k b) m:=run_store P w a _ m rfl
@[go_sem] theorem OU {P:Program} {w:World} {a:Addr} {m:Mode} (k:FloatKind) (b c:Nat):(store a (.complex k b c) m).run P w=stored P w a (.complex k b c) m:=run_store P w a _ m rfl
theorem Ta (l:List UInt8) (c:UInt8):Ge (l++[c])=Ge l++[.int .u8 c.toNat]:=by simp[Ge]
theorem E' (l:List UInt8):(Ge l).length=l.length:=by simp[Ge]
theorem DB {w a:World} {c d e f g:Value} {T:TypeId} (b:Below (w.heap.size+1) (w.alloc (.cells #[c,d,e,f,g] T)) a) :
  a.cell? ⟨w.heap.size,0,none⟩=some c/\a.cell? ⟨w.heap.size,1,none⟩=some d/\a.cell? ⟨w.heap.size,2,none⟩=some e/\a.cell? ⟨w.heap.size,3,none⟩=some f/\a.cell? ⟨w.heap.size,4,none⟩=some g /\
  a.frozen? ⟨w.heap.size,0,none⟩=false/\a.frozen? ⟨w.heap.size,1,none⟩=false/\a.frozen? ⟨w.heap.size,2,none⟩=false/\a.frozen? ⟨w.heap.size,3,none⟩=false/\a.frozen? ⟨w.heap.size,4,none⟩=false:=by
 have hF:∀j,a.frozen? ⟨w.heap.size,j,none⟩=false:=fun j=>by rw[b.frozen (by simp)];exact World.frozen?_alloc_at _ _ _ _ rfl
 refine⟨?_,?_,?_,?_,?_,hF 0,hF 1,hF 2,hF 3,hF 4⟩<;>(rw[b.cell (by simp),World.cell?_alloc_at _ _ _ _ rfl];rfl)
theorem PW {w w':World} {B:Nat} {e:TypeId} {sz n:Nat} {v:Value} {xs:List Value} (h:w.ownsRow B e sz v n xs) (a:Below w.heap.size w w'):w'.ownsRow B e sz v n xs :=
 h.kept (row:=none) ⟨a.os,a.tape,a.output,a.size,fun k b _=>a.block k b⟩ (by cases v.ownBlock<;>simp)
theorem BR {w a:World} {o:Obj} (b:Below (w.heap.size+1) (w.alloc o) a) (c d e f g:Value) :
  Below w.heap.size w (((((a.setCell ⟨w.heap.size,0,none⟩ c).setCell ⟨w.heap.size,1,none⟩ d).setCell ⟨w.heap.size,2,none⟩ e).setCell ⟨w.heap.size,3,none⟩ f).setCell ⟨w.heap.size,4,none⟩ g) :=
 ((((((((Below.refl _ _).alloc (aC _) _).trans (b.mono (by omega))).setCell (p:=⟨w.heap.size,0,none⟩) (aC _) _)).setCell (p:=⟨w.heap.size,1,none⟩) (aC _) _).setCell (p:=⟨w.heap.size,2,none⟩) (aC _) _).setCell (p:=⟨w.heap.size,3,none⟩) (aC _) _).setCell (p:=⟨w.heap.size,4,none⟩) (aC _) _
theorem Ca {W wr f:World} {B:Nat} {e:TypeId} {v v':Value} {a:List UInt8} {c:UInt8} {o:Obj} (d:wr.ownsRow B e 1 v a.length (Ge a)) (h:Below B W wr) (g:B<=wr.heap.size)
  (b:f.ownsRow B e 1 v' (a.length+1) (Ge a++[.int .u8 c.toNat])) (i:(wr.alloc o).grownBy f v.ownBlock) :
  f.ownsRow B e 1 v' (a++[c]).length (Ge (a++[c]))/\Below B W f :=
 ⟨by rw[Ta];simpa using b,(h.alloc g o).grown i (by simp;omega) (fun j k=>(d.lt j k).1)⟩
inductive Tr where
 | mk (k:Int) (nm:List UInt8) (x:Nat) (z:Nat×Nat) (ks:List Tr)
def Tr.kd:Tr->Int | .mk k _ _ _ _=>k
def Tr.nm:Tr->List UInt8 | .mk _ n _ _ _=>n
def Tr.x:Tr->Nat | .mk _ _ x _ _=>x
def Tr.z:Tr->Nat×Nat | .mk _ _ _ z _=>z
def Tr.ks:Tr->List Tr | .mk _ _ _ _ ks=>ks
mutual
/-- How many nodes. -/
def Tr.wt:Tr->Nat | .mk _ _ _ _ ks=>1+DN ks
def DN:List Tr->Nat | []=>0 | t::ts=>t.wt+DN ts
end
theorem Tr.wt_mk (k:Int) (nm:List UInt8) (x:Nat) (z:Nat×Nat) (ks:List Tr):(Tr.mk k nm x z ks).wt=1+DN ks:=by rw[Tr.wt]
theorem AM:DN []=0:=by rw[DN]
theorem AK (t:Tr) (a:List Tr):DN (t::a)=t.wt+DN a:=by rw[DN]
theorem B9 (a b:List Tr):DN (a++b)=DN a+DN b:=by
 induction a with
 | nil=>simp[AM]
 | cons t d c=>rw[aD,AK,AK,c];omega
theorem A9 {t:Tr} {ks:List Tr} (h:t∈ks):t.wt<=DN ks:=by
 induction ks with
 | nil=>cases h
 | cons a ks b=>rw[AK];cases h with
   | head=>omega
   | tail _ h=>have:=b h;omega
theorem Om {t u:Tr} (h:u∈t.ks):u.wt<t.wt:=by
 obtain⟨k,nm,x,z,ks⟩:=t;have:u.wt<=DN ks:=A9 h;rw[Tr.wt_mk];omega
inductive Tr.All (P:Int->List UInt8->Nat->Prop):Tr->Prop
 | mk (k:Int) (nm:List UInt8) (x:Nat) (z:Nat×Nat) (ks:List Tr) (h:P k nm x) (hk:∀t∈ks,Tr.All P t):Tr.All P (.mk k nm x z ks)
theorem Tr.All.self {P:Int->List UInt8->Nat->Prop} {t:Tr} (h:Tr.All P t):P t.kd t.nm t.x:=by cases h;assumption
theorem Tr.All.kid {P:Int->List UInt8->Nat->Prop} {t u:Tr} (h:Tr.All P t) (b:u∈t.ks):Tr.All P u:=by cases h with | mk k nm x z ks h a=>exact a u b
def A3 (s:List UInt8):List (List UInt8)->List UInt8
 | []=>[]
 | [a]=>a
 | a::b::r=>a++s++A3 s (b::r)
theorem Nn (s:List UInt8) (L:List (List UInt8)) (a:List UInt8) (h:L≠[]):A3 s (L++[a])=A3 s L++s++a:=by
 induction L with
 | nil=>exact absurd rfl h
 | cons b L d=>cases L with
   | nil=>simp[A3]
   | cons c L=>rw[aD,aD,A3,A3,<- aD,d (by simp)];simp
def q1 (c:UInt8):List UInt8:=if c=34\/c=92 then [92,c] else if 32<=c/\c<=126 then [c] else [92,48+c/64,48+c/8%8,48+c%8]
def G9 (nm:List UInt8):List UInt8:=34::(nm.flatMap q1++[34])
def s1 (c:UInt8):List UInt8:=if c=47 then [92,47] else [c]
def Jn (nm:List UInt8):List UInt8:=nm.flatMap s1
def CI (b:Nat->List UInt8) (k:Int) (nm:List UInt8) (x:Nat) (a:List (List UInt8)):List UInt8 :=
 if k=1 then b x
 else if k=2 then G9 nm
 else if k=3 then [40,47]++Jn nm++[47,41]
 else if k=4 then nm
 else if k=5 then nm++[91]++A3 [44] a++[93]
 else if k=6 then [36,40]++a.getD 0 []++[41]
 else if k=7\/k=12\/k=13\/k=15 then [40]++a.getD 0 []++[32]++nm++[32]++a.getD 1 []++[41]
 else if k=8 then [40]++a.getD 0 []++[32,63,32]++a.getD 1 []++[32,58,32]++a.getD 2 []++[41]
 else if k=9 then [40]++a.getD 0 []++[32,124,124,32]++a.getD 1 []++[41]
 else if k=10 then [40]++a.getD 0 []++[32,38,38,32]++a.getD 1 []++[41]
 else if k=14 then [40]++a.getD 0 []++[32]++a.getD 1 []++[41]
 else if k=11 then [40,40]++A3 [44] a++[41,32,105,110,32]++nm++[41]
 else if k=16\/k=17 then [40]++nm++a.getD 0 []++[41]
 else if k=18 then [40]++a.getD 0 []++nm++[41]
 else if k=19\/k=20 then nm++[40]++A3 [44] a++[41]
 else []
mutual
def AD (ff:Nat->List UInt8):Tr->List UInt8
 | .mk k nm x _ ks=>CI ff k nm x (AP ff ks)
def AP (ff:Nat->List UInt8):List Tr->List (List UInt8)
 | []=>[]
 | t::ts=>AD ff t::AP ff ts
end
theorem Ba (a:Nat->List UInt8) (k:Int) (nm:List UInt8) (x:Nat) (z:Nat×Nat) (ks:List Tr):AD a (.mk k nm x z ks)=CI a k nm x (AP a ks):=by rw[AD]
theorem Au (a:Nat->List UInt8) (ks:List Tr):AP a ks=ks.map (AD a):=by
 induction ks with
 | nil=>rw[AP];rfl
 | cons t c b=>rw[AP,b];rfl
def wordL (w:List UInt8) (a:List (List UInt8)):List UInt8:=if a=[] then w else w++[32]++A3 [44,32] a
def Cd:List (List UInt8)->List UInt8 | []=>[] | a::r=>a++[10]++Cd r
theorem L_ (L:List (List UInt8)) (a:List UInt8):Cd (L++[a])=Cd L++a++[10]:=by
 induction L with
 | nil=>simp[Cd]
 | cons b L c=>rw[aD,Cd,Cd,c];simp
def Xg (k:Int) (nm c:List UInt8) (a b:List (List UInt8)):List UInt8 :=
 if k=30 then [123,10]++Cd b++[125]
 else if k=31 then if b.length=3 then [105,102,32,40]++a.getD 0 []++[41,32]++b.getD 1 []++[32,101,108,115,101,32]++b.getD 2 [] else [105,102,32,40]++a.getD 0 []++[41,32]++b.getD 1 []
 else if k=32 then [119,104,105,108,101,32,40]++a.getD 0 []++[41,32]++b.getD 1 []
 else if k=33 then [100,111,32]++b.getD 0 []++[32,119,104,105,108,101,32,40]++a.getD 1 []++[41]
 else if k=34 then [102,111,114,32,40]++b.getD 0 []++[59,32]++a.getD 1 []++[59,32]++b.getD 2 []++[41,32]++b.getD 3 []
 else if k=35 then [102,111,114,32,40]++c++[32,105,110,32]++nm++[41,32]++b.getD 1 []
 else if k=36 then [98,114,101,97,107]
 else if k=37 then [99,111,110,116,105,110,117,101]
 else if k=38 then [110,101,120,116]
 else if k=39 then wordL [101,120,105,116] a
 else if k=40 then wordL [114,101,116,117,114,110] a
 else if k=41 then if a=[] then [100,101,108,101,116,101,32]++nm else [100,101,108,101,116,101,32]++nm++[91]++A3 [44] a++[93]
 else if k=42 then wordL [112,114,105,110,116] a
 else if k=43 then wordL [112,114,105,110,116,102] a
 else if k=44 then a.getD 0 []
 else []
mutual
def AX (ff:Nat->List UInt8):Tr->List UInt8
 | .mk k nm _ _ ks=>Xg k nm ((ks.map Tr.nm).getD 0 []) (AP ff ks) (Hc ff ks)
def Hc (ff:Nat->List UInt8):List Tr->List (List UInt8)
 | []=>[]
 | t::ts=>AX ff t::Hc ff ts
end
theorem Bn (a:Nat->List UInt8) (k:Int) (nm:List UInt8) (x:Nat) (z:Nat×Nat) (ks:List Tr):AX a (.mk k nm x z ks)=Xg k nm ((ks.map Tr.nm).getD 0 []) (AP a ks) (Hc a ks):=by rw[AX]
theorem B8 (a:Nat->List UInt8) (ks:List Tr):Hc a ks=ks.map (AX a):=by
 induction ks with
 | nil=>rw[Hc];rfl
 | cons t c b=>rw[Hc,b];rfl
structure Aw where
 pat:List UInt8->Bool
 name:List UInt8->Bool
 built:List UInt8->Bool
 bare:Nat->Bool
 num:Nat->Bool
def PM (k:Int):Bool:=k==4||k==5||k==6
def Gh (l:List (List UInt8)) (nm:List UInt8):Bool:=l.contains nm
def UH:List UInt8:=[115,121,115,116,101,109]
def Bi (N:Aw) (k:Int) (nm:List UInt8) (x:Nat) (n:Nat) (a:Int):Bool :=
 if k=1 then decide (n=0)&&(decide (nm=[])&&N.num x)
 else if k=2 then decide (n=0)&&decide (nm.length<=256)
 else if k=3 then decide (n=0)&&N.pat nm
 else if k=4 then decide (n=0)&&N.name nm
 else if k=5\/k=11 then decide (1<=n)&&N.name nm
 else if k=6 then decide (n=1)&&decide (nm=[])
 else if k=7 then decide (n=2)&&(Gh [[61],[43,61],[45,61],[42,61],[47,61],[37,61],[94,61]] nm&&PM a)
 else if k=8 then decide (n=3)&&decide (nm=[])
 else if k=9\/k=10\/k=14 then decide (n=2)&&decide (nm=[])
 else if k=12 then decide (n=2)&&Gh [[126],[33,126]] nm
 else if k=13 then decide (n=2)&&Gh [[60],[60,61],[61,61],[33,61],[62],[62,61]] nm
 else if k=15 then decide (n=2)&&Gh [[43],[45],[42],[47],[37],[94]] nm
 else if k=16 then decide (n=1)&&Gh [[33],[45],[43]] nm
 else if k=17\/k=18 then decide (n=1)&&(Gh [[43,43],[45,45]] nm&&PM a)
 else if k=19 then N.name nm&&decide (nm≠UH)
 else if k=20 then N.built nm
 else false
def Fg (ks:List Tr):Int:=(ks.map Tr.kd).getD 0 0
def CZ (N:Aw) (t:Tr):Bool:=Bi N t.kd t.nm t.x t.ks.length (Fg t.ks)
mutual
/-- Is an expression right,at a depth? -/
def Bu (N:Aw):Nat->Tr->Bool
 | d,.mk k nm x z ks=>decide (d<=200)&&((decide (k=1)||N.bare x)&&(CZ N (.mk k nm x z ks)&&A5 N (d+1) ks))
def A5 (N:Aw):Nat->List Tr->Bool
 | _,[]=>true
 | d,t::ts=>Bu N d t&&A5 N d ts
end
theorem LW (N:Aw) (d:Nat) (t:Tr):Bu N d t=(decide (d<=200)&&((decide (t.kd=1)||N.bare t.x)&&(CZ N t&&A5 N (d+1) t.ks))):=by
 obtain⟨k,nm,x,z,ks⟩:=t;rw[Bu];rfl
theorem BU (N:Aw) (d:Nat) (ks:List Tr):A5 N d ks=ks.all (Bu N d):=by
 induction ks with
 | nil=>rw[A5];rfl
 | cons t b a=>rw[A5,a];rfl
def CK (N:Aw) (t:Tr):Bool:=decide (t.kd=0)&&(decide (t.nm=[])&&(N.bare t.x&&decide (t.ks.length=0)))
def Dm (p:Int×Bool):Bool:=decide (p.1=30)&&p.2
def Ie (p:Int×Bool):Bool:=decide (36<=p.1/\p.1<=44)&&p.2
mutual
/-- Is a statement right,at a depth? -/
def Av (N:Aw):Nat->Tr->Bool
 | d,.mk k nm x _ ks =>
   decide (d<=200)&&(N.bare x&&((decide (nm=[])||decide (k=35\/k=41))&&(
    if k=30 then Ha N (d+1) ks
    else if k=31 then (decide (ks.length=2)||decide (ks.length=3)&&Dm ((B4 N (d+1) ks).getD 2 (0,false)))&&((ks.map (Bu N (d+1))).getD 0 false&&Dm ((B4 N (d+1) ks).getD 1 (0,false)))
    else if k=32 then decide (ks.length=2)&&((ks.map (Bu N (d+1))).getD 0 false&&Dm ((B4 N (d+1) ks).getD 1 (0,false)))
    else if k=33 then decide (ks.length=2)&&(Dm ((B4 N (d+1) ks).getD 0 (0,false))&&(ks.map (Bu N (d+1))).getD 1 false)
    else if k=34 then decide (ks.length=4)&&(((ks.map (CK N)).getD 0 false||Ie ((B4 N (d+1) ks).getD 0 (0,false)))&&(((ks.map (CK N)).getD 1 false||(ks.map (Bu N (d+1))).getD 1 false)&&(((ks.map (CK N)).getD 2 false||Ie ((B4 N (d+1) ks).getD 2 (0,false)))&&Dm ((B4 N (d+1) ks).getD 3 (0,false)))))
    else if k=35 then N.name nm&&(decide (ks.length=2)&&(decide (Fg ks=4)&&((ks.map (Bu N (d+1))).getD 0 false&&Dm ((B4 N (d+1) ks).getD 1 (0,false)))))
    else if k=36\/k=37\/k=38 then decide (ks.length=0)
    else if k=39\/k=40 then decide (ks.length<=1)&&A5 N (d+1) ks
    else if k=41 then N.name nm&&A5 N (d+1) ks
    else if k=42 then A5 N (d+1) ks
    else if k=43 then decide (1<=ks.length)&&A5 N (d+1) ks
    else if k=44 then decide (ks.length=1)&&A5 N (d+1) ks
    else false)))
def Ha (N:Aw):Nat->List Tr->Bool
 | _,[]=>true
 | d,t::ts=>Av N d t&&Ha N d ts
def B4 (N:Aw):Nat->List Tr->List (Int×Bool)
 | _,[]=>[]
 | d,t::ts=>(t.kd,Av N d t)::B4 N d ts
end
mutual
/-- A bound of the texts. -/
def Tr.big:Tr->Nat | .mk _ nm _ _ ks=>64+5*nm.length+Bh ks
def Bh:List Tr->Nat | []=>0 | t::ts=>t.big+8+Bh ts
end
theorem CD (k:Int) (nm:List UInt8) (x:Nat) (z:Nat×Nat) (ks:List Tr):(Tr.mk k nm x z ks).big=64+5*nm.length+Bh ks:=by rw[Tr.big]
theorem CT:Bh []=0:=by rw[Bh]
theorem AU (t:Tr) (a:List Tr):Bh (t::a)=t.big+8+Bh a:=by rw[Bh]
theorem Ax {t:Tr} {ks:List Tr} (h:t∈ks):t.big+8<=Bh ks:=by
 induction ks with
 | nil=>cases h
 | cons a ks b=>rw[AU];cases h with
   | head=>omega
   | tail _ h=>have:=b h;omega
def bg (ks:List Tr) (i:Nat):Nat:=(ks.map Tr.big).getD i 0
theorem Xd (ks:List Tr):bg ks 0+bg ks 1+bg ks 2+bg ks 3<=Bh ks:=by
 unfold bg
 match ks with
 | []=>simp
 | [a]=>simp[AU,CT]
 | [a,b]=>simp[AU,CT];omega
 | [a,b,c]=>simp[AU,CT];omega
 | a::b::c::d::r=>simp[AU];omega
theorem Di (f:Tr->List UInt8) (ks:List Tr) (h:∀t∈ks,(f t).length<=t.big) (i:Nat):((ks.map f).getD i []).length<=bg ks i:=by
 unfold bg;rw[aG,aG,aJ,aJ]
 cases a:ks[i]? with
 | none=>simp
 | some t=>simpa using h t (List.mem_of_getElem? a)
theorem Wj (ks:List Tr) (i:Nat):((ks.map Tr.nm).getD i []).length<=bg ks i :=
 Di Tr.nm ks (fun t _=>by obtain⟨k,nm,x,z,l⟩:=t;rw[CD];show nm.length<=_;omega) i
theorem Cn (s:List UInt8) (i:s.length<=8) (f:Tr->List UInt8) (ks:List Tr) (h:∀t∈ks,(f t).length<=t.big):(A3 s (ks.map f)).length<=Bh ks:=by
 induction ks with
 | nil=>simp[A3]
 | cons a ks d =>
   have e:=h a (aH ..);have g:=d fun t c=>h t (aF _ c)
   cases ks with
   | nil=>simp[A3,AU,CT];omega
   | cons b ks =>
     rw[aI,aI,A3,<- aI,AU];simp only[aA];omega
theorem Np (f:Tr->List UInt8) (ks:List Tr) (h:∀t∈ks,(f t).length<=t.big):(Cd (ks.map f)).length<=Bh ks:=by
 induction ks with
 | nil=>simp[Cd]
 | cons a ks c =>
   have d:=h a (aH ..);have e:=c fun t b=>h t (aF _ b);rw[aI,Cd,AU];simp only[aA,aB,aE];omega
theorem P8 (nm:List UInt8):(G9 nm).length<=4*nm.length+2:=by
 have:(nm.flatMap q1).length<=4*nm.length:=by
  induction nm with
  | nil=>simp
  | cons c r a =>
    have:(q1 c).length<=4:=by unfold q1;split<;>(try split)<;>simp
    rw[aK,aA,aB];omega
 unfold G9;simp only[aB,aA,aE];omega
theorem Qp (nm:List UInt8):(Jn nm).length<=2*nm.length:=by
 unfold Jn
 induction nm with
 | nil=>simp
 | cons c r a =>
   have:(s1 c).length<=2:=by unfold s1;split<;>simp
   rw[aK,aA,aB];omega
theorem OE {P:Prop} [Decidable P] {a b:List UInt8} {n:Nat} (h:a.length<=n) (c:b.length<=n):(if P then a else b).length<=n:=by by_cases d:P<;>simp[d,h,c]
theorem Pw (a:Nat->List UInt8) (k:Int) (nm:List UInt8) (x:Nat) (ks:List Tr) (f:Tr->List UInt8) (g:(a x).length<=64) (h:∀t∈ks,(f t).length<=t.big):(CI a k nm x (ks.map f)).length<=64+5*nm.length+Bh ks:=by
 have b:=Di f ks h 0;have c:=Di f ks h 1;have d:=Di f ks h 2;have e:=Xd ks;have j:=Cn [44] (by decide) f ks h;have q:=P8 nm;have s:=Qp nm;unfold CI
 repeat' with_reducible refine OE ?_ ?_
 all_goals ((try simp only[aA,aB,aE]);omega)
theorem Bs (a:Nat->List UInt8) (b:∀x,(a x).length<=64) (t:Tr):(AD a t).length<=t.big:=by
 obtain⟨n,c⟩:∃n,t.wt<=n:=⟨_,aC _⟩
 induction n generalizing t with
 | zero=>obtain⟨k,nm,x,z,ks⟩:=t;rw[Tr.wt_mk] at c;omega
 | succ n e =>
   obtain⟨k,nm,x,z,ks⟩:=t;rw[Ba,Au,CD];exact Pw a k nm x ks _ (b x) fun t d=>e t (by have:t.wt<(Tr.mk k nm x z ks).wt:=Om d;omega)
theorem GM (w:List UInt8) (a:w.length<=8) (ks:List Tr) (f:Tr->List UInt8) (h:∀t∈ks,(f t).length<=t.big):(wordL w (ks.map f)).length<=16+Bh ks:=by
 have j:=Cn [44,32] (by decide) f ks h;unfold wordL;split
 ·omega
 simp only[aA,aB,aE];omega
theorem Qz (k:Int) (nm:List UInt8) (ks:List Tr) (f g:Tr->List UInt8) (h:∀t∈ks,(f t).length<=t.big) (a:∀t∈ks,(g t).length<=t.big):(Xg k nm ((ks.map Tr.nm).getD 0 []) (ks.map f) (ks.map g)).length<=64+5*nm.length+Bh ks:=by
 have b:=Di f ks h 0;have c:=Di f ks h 1;have i:=Di g ks a 0;have s1:=Di g ks a 1;have m:=Di g ks a 2;have n:=Di g ks a 3;have e:=Wj ks 0;have d:=Xd ks;have j:=Cn [44] (by decide) f ks h;have l:=Np g ks a;have o:=GM [101,120,105,116] (by decide) ks f h;have p:=GM [114,101,116,117,114,110] (by decide) ks f h;have q:=GM [112,114,105,110,116] (by decide) ks f h;have r:=GM [112,114,105,110,116,102] (by decide) ks f h;unfold Xg
 repeat' with_reducible refine OE ?_ ?_
 all_goals ((try simp only[aA,aB,aE]);omega)
theorem BB (a:Nat->List UInt8) (b:∀x,(a x).length<=64) (t:Tr):(AX a t).length<=t.big:=by
 obtain⟨n,c⟩:∃n,t.wt<=n:=⟨_,aC _⟩
 induction n generalizing t with
 | zero=>obtain⟨k,nm,x,z,ks⟩:=t;rw[Tr.wt_mk] at c;omega
 | succ n e =>
   obtain⟨k,nm,x,z,ks⟩:=t;rw[Bn,Au,B8,CD];exact Qz k nm ks _ _ (fun t _=>Bs a b t) fun t d=>e t (by have:t.wt<(Tr.mk k nm x z ks).wt:=Om d;omega)
theorem Vi (M:Nat) (t:Tr) (h:Tr.All (fun _ nm _=>nm.length<=M) t):t.big+8<=(72+5*M)*t.wt:=by
 obtain⟨n,f⟩:∃n,t.wt<=n:=⟨_,aC _⟩
 induction n generalizing t with
 | zero=>obtain⟨k,nm,x,z,ks⟩:=t;rw[Tr.wt_mk] at f;omega
 | succ n g =>
   cases h with
   | mk k nm x z ks h e =>
     have c:∀l:List Tr,(∀t∈l,t.big+8<=(72+5*M)*t.wt)->Bh l<=(72+5*M)*DN l:=by
      intro l d
      induction l with
      | nil=>rw[CT];omega
      | cons a l i =>
        have j:=d a (aH ..);have m:=i fun t b=>d t (aF _ b);rw[AU,AK,Nat.mul_add];omega
     have:=c ks fun t b=>g t (e t b) (by have:t.wt<(Tr.mk k nm x z ks).wt:=Om b;omega);rw[CD,Tr.wt_mk,Nat.mul_add];omega
end Go
