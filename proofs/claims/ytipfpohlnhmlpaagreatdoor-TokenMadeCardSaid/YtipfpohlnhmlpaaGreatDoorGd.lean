/- Gd Pa Wa Pb Wp -/
import Derived.WalkKit
import Derived.Deep.Draws
import Derived.Laws.AppendOwn
import Derived.OwnWalk
import Derived.Test.YtipfpohlnhmlpaaGreatDoorRows
import Derived.WalkSpells
import Derived.WalkLawsBesides
import Derived.Lib.Hide
set_option maxHeartbeats 1600000
set_option maxRecDepth 100000
open Go.World renaming block_lt_of_cell?->aA,frozen?_setCell->aB,cell?_setCell_other->aC,cell?_setCell_same->aD
open List renaming drop_eq_getElem_cons->aE,drop_eq_nil_of_le->aF
namespace Go
open Go.RowKit
structure BO (w:World) (b:Nat) (f:Nat->Nat) (nd dp:Int) (ng tr:Bool):Prop where
 d:∀i,i<800->w.cell? ⟨b,i,none⟩=some (.int .u8 (f i))
 nd:w.cell? ⟨b,800,none⟩=some (.int .i64 nd)
 dp:w.cell? ⟨b,801,none⟩=some (.int .i64 dp)
 ng:w.cell? ⟨b,802,none⟩=some (.bool ng)
 tr:w.cell? ⟨b,803,none⟩=some (.bool tr)
 fz:∀i,w.frozen? ⟨b,i,none⟩=false
def Vb (f:Nat->Nat) (i v:Nat):Nat->Nat:=fun j=>if j=i then v else f j
theorem GL (f:Nat->Nat) (i v:Nat):Vb f i v i=v:=by simp[Vb]
theorem DT (f:Nat->Nat) {i j:Nat} (v:Nat) (h:j≠i):Vb f i v j=f j:=by simp[Vb,h]
section
variable {w:World} {b:Nat} {f:Nat->Nat} {nd dp:Int} {ng tr:Bool}
theorem A8 {w:World} {a:Addr} {u v:Value} (h:w.cell? a=some u):(w.setCell a v).cell? a=some v:=by
 first | exact aD _ _ h | exact aD _ _ _ h | simp[aD,h]
theorem Ag {w:World} {a b:Addr} {v:Value} (h:a≠b):(w.setCell a v).cell? b=w.cell? b:=by
 first | exact aC _ _ h | exact aC _ _ _ h | exact aC _ _ _ _ h
theorem Ai {b i j:Nat} (h:i≠j):(⟨b,i,none⟩:Addr)≠⟨b,j,none⟩:=fun e=>h (by injection e)
theorem BO.setD (h:BO w b f nd dp ng tr) {i:Nat} (c:i<800) (v:Nat):BO (w.setCell ⟨b,i,none⟩ (.int .u8 v)) b (Vb f i v) nd dp ng tr where
 d:=fun j a=>by
  by_cases e:j=i
  ·subst e;rw[GL];exact A8 (h.d j a)
  rw[DT f v e,Ag (Ai (Ne.symm e))];exact h.d j a
 nd:=by rw[Ag (Ai (by omega))];exact h.nd
 dp:=by rw[Ag (Ai (by omega))];exact h.dp
 ng:=by rw[Ag (Ai (by omega))];exact h.ng
 tr:=by rw[Ag (Ai (by omega))];exact h.tr
 fz:=fun j=>by rw[aB];exact h.fz j
theorem BO.setNd (h:BO w b f nd dp ng tr) (v:Int):BO (w.setCell ⟨b,800,none⟩ (.int .i64 v)) b f v dp ng tr where
 d:=fun j a=>by rw[Ag (Ai (by omega))];exact h.d j a
 nd:=A8 h.nd
 dp:=by rw[Ag (Ai (by omega))];exact h.dp
 ng:=by rw[Ag (Ai (by omega))];exact h.ng
 tr:=by rw[Ag (Ai (by omega))];exact h.tr
 fz:=fun j=>by rw[aB];exact h.fz j
theorem BO.setDp (h:BO w b f nd dp ng tr) (v:Int):BO (w.setCell ⟨b,801,none⟩ (.int .i64 v)) b f nd v ng tr where
 d:=fun j a=>by rw[Ag (Ai (by omega))];exact h.d j a
 nd:=by rw[Ag (Ai (by omega))];exact h.nd
 dp:=A8 h.dp
 ng:=by rw[Ag (Ai (by omega))];exact h.ng
 tr:=by rw[Ag (Ai (by omega))];exact h.tr
 fz:=fun j=>by rw[aB];exact h.fz j
theorem BO.setNg (h:BO w b f nd dp ng tr) (v:Bool):BO (w.setCell ⟨b,802,none⟩ (.bool v)) b f nd dp v tr where
 d:=fun j a=>by rw[Ag (Ai (by omega))];exact h.d j a
 nd:=by rw[Ag (Ai (by omega))];exact h.nd
 dp:=by rw[Ag (Ai (by omega))];exact h.dp
 ng:=A8 h.ng
 tr:=by rw[Ag (Ai (by omega))];exact h.tr
 fz:=fun j=>by rw[aB];exact h.fz j
theorem BO.setTr (h:BO w b f nd dp ng tr) (v:Bool):BO (w.setCell ⟨b,803,none⟩ (.bool v)) b f nd dp ng v where
 d:=fun j a=>by rw[Ag (Ai (by omega))];exact h.d j a
 nd:=by rw[Ag (Ai (by omega))];exact h.nd
 dp:=by rw[Ag (Ai (by omega))];exact h.dp
 ng:=by rw[Ag (Ai (by omega))];exact h.ng
 tr:=A8 h.tr
 fz:=fun j=>by rw[aB];exact h.fz j
theorem BO.below {w':World} (h:BO w b f nd dp ng tr) (a:Below w.heap.size w w'):BO w' b f nd dp ng tr where
 d:=fun j c=>by rw[a.cell (aA w _ (h.d j c))];exact h.d j c
 nd:=by rw[a.cell (aA w _ h.nd)];exact h.nd
 dp:=by rw[a.cell (aA w _ h.dp)];exact h.dp
 ng:=by rw[a.cell (aA w _ h.ng)];exact h.ng
 tr:=by rw[a.cell (aA w _ h.tr)];exact h.tr
 fz:=fun j=>by rw[a.frozen (p:=⟨b,j,none⟩) (aA w ⟨b,800,none⟩ h.nd)];exact h.fz j
theorem BO.drewN (h:BO w b f nd dp ng tr) (n:Nat):BO (w.drewN n) b f nd dp ng tr:=⟨h.d,h.nd,h.dp,h.ng,h.tr,h.fz⟩
theorem BO.drew (h:BO w b f nd dp ng tr):BO w.drew b f nd dp ng tr:=⟨h.d,h.nd,h.dp,h.ng,h.tr,h.fz⟩
theorem BO.lt (h:BO w b f nd dp ng tr):b<w.heap.size:=aA w ⟨b,800,none⟩ h.nd
def Ae (b:Nat) (a w:World):Prop:=a.grownBy w (some b)
theorem Ae.refl (b:Nat) (w:World):Ae b w w:=World.grownBy.refl w _
theorem Ae.trans {b:Nat} {a w w':World} (h:Ae b a w) (c:Ae b w w'):Ae b a w' :=
 ⟨c.os.trans h.os,c.tape.trans h.tape,c.output.trans h.output,Nat.le_trans h.size c.size,fun i d e=>(c.block i (Nat.lt_of_lt_of_le d h.size) e).trans (h.block i d e)⟩
theorem Ae.drewN {b:Nat} {a w:World} (h:Ae b a w) (n:Nat):Ae b a (w.drewN n):=⟨h.os,h.tape,h.output,h.size,h.block⟩
theorem Ae.drew {b:Nat} {a w:World} (h:Ae b a w):Ae b a w.drew:=⟨h.os,h.tape,h.output,h.size,h.block⟩
theorem Ae.set {a w:World} {b:Nat} (h:Ae b a w) (i:Nat) (u:Value):Ae b a (w.setCell ⟨b,i,none⟩ u) :=
 ⟨h.os,h.tape,h.output,by simpa[World.setCell] using h.size,fun d e c=>(Below.heap_setCell w ⟨b,i,none⟩ u d (by
   rintro rfl
   exact c rfl)).trans (h.block d e c)⟩
theorem Ae.of_below {a w:World} (b:Nat) (h:Below a.heap.size a w):Ae b a w:=⟨h.os,h.tape,h.output,h.size,fun i c _=>h.block i c⟩
theorem Ae.cell {a w:World} {b:Nat} (h:Ae b a w) {p:Addr} (d:p.block≠b) (c:p.block<a.heap.size):w.cell? p=a.cell? p :=
 World.cell?_of_block (h.block p.block c (fun e=>d (by injection e)))
theorem Ae.below_of {a w:World} {b B:Nat} (h:Ae b a w) {f:World} (c:Below B f a) (j:B<=b) (g:B<=a.heap.size):Below B f w :=
 ⟨h.os.trans c.os,h.tape.trans c.tape,h.output.trans c.output,Nat.le_trans c.size h.size,fun i d=>(h.block i (Nat.lt_of_lt_of_le d g) (fun e=>by injection e with e;omega)).trans (c.block i d)⟩
end
end Go
namespace Go.Proofs.YtipfpohlnhmlpaaGreatDoor
def C3 (c:Int):Bool:=decide (48<=c)&&decide (c<=57)
def DI (c:Int):Bool:=(decide (65<=c)&&decide (c<=90))||(decide (97<=c)&&decide (c<=122))||decide (c=95)
def GT (c:Int):Bool:=(decide (9<=c)&&decide (c<=13))||decide (c=32)
def Al (p:UInt8->Bool):List UInt8->Nat
 | []=>0
 | c::r=>if p c then Al p r+1 else 0
theorem Bp (p:UInt8->Bool):∀l,Al p l<=l.length
 | []=>Nat.le_refl _
 | c::r=>by unfold Al;split<;>simp;exact Bp p r
def Aj (c:UInt8):Bool:=C3 c.toNat
def B2 (c:UInt8):Bool:=DI c.toNat
def DH (c:UInt8):Bool:=GT c.toNat
def BI (c:UInt8):Bool:=B2 c||Aj c
theorem Aq (l:List UInt8) (k:Nat) (h:k<l.length):l.drop k=l[k]::l.drop (k+1):=aE h
theorem Da (p:UInt8->Bool) (l:List UInt8) (k:Nat) (h:k<l.length) (a:p l[k]=true):Al p (l.drop k)=Al p (l.drop (k+1))+1:=by
 rw[Aq l k h,Al,if_pos a]
theorem DQ (p:UInt8->Bool) (l:List UInt8) (k:Nat) (h:k<l.length) (a:p l[k]=false):Al p (l.drop k)=0:=by
 rw[Aq l k h,Al,if_neg (by simp[a])]
theorem C' (p:UInt8->Bool) (l:List UInt8) (k:Nat) (h:l.length<=k):Al p (l.drop k)=0:=by
 rw[aF h];rfl
def wordL:List (List UInt8):=[[66,69,71,73,78],[69,78,68],[69,86,69,82,89],[71,65,80],[102,117,110,99,116,105,111,110],[105,102],[101,108,115,101],[119,104,105,108,101],[102,111,114],[100,111],[98,114,101,97,107],[99,111,110,116,105,110,117,101],[110,101,120,116],[101,120,105,116],[114,101,116,117,114,110],[100,101,108,101,116,101],[105,110],[103,101,116,108,105,110,101],[112,114,105,110,116],[112,114,105,110,116,102]]
def M7:List (List UInt8):=[[108,101,110,103,116,104],[115,117,98,115,116,114],[105,110,100,101,120],[115,112,108,105,116],[115,117,98],[103,115,117,98],[109,97,116,99,104],[115,112,114,105,110,116,102],[116,111,108,111,119,101,114],[116,111,117,112,112,101,114],[105,110,116],[115,113,114,116],[101,120,112],[108,111,103],[115,105,110],[99,111,115],[97,116,97,110,50],[114,97,110,100],[115,114,97,110,100],[101,120,112,105,114,101]]
def He:List (List UInt8):=[[38,38],[124,124],[43,43],[45,45],[43,61],[45,61],[42,61],[47,61],[37,61],[94,61],[61,61],[60,61],[62,61],[33,61],[33,126],[62,62]]
def Mo:List UInt8:=[123,125,40,41,91,93,59,44,43,45,42,47,37,94,33,62,60,124,63,58,126,36,61]
def BY (q:UInt8):List UInt8->Option Nat
 | []=>none
 | c::r=>if c=10 then none else if c=q then some 0 else if c=92 then (match r with | []=>none | d::r'=>if d=10 then none else (BY q r').map (· + 2)) else (BY q r).map (· + 1)
open Go.Proofs.Tryz
open Go.RowKit
theorem AZ {k:IntKind} {a b:Int} (h:a=b):Ending.returned (.int k a) = .returned (.int k b):=by rw[h]
theorem B3 {a b:Bool} (h:a=b):Ending.returned (.bool a) = .returned (.bool b):=by rw[h]
theorem QI {c:UInt8} {d:UInt8} (h:((c.toNat:Int)==(d.toNat:Int))=true):c=d:=UInt8.toNat_inj.1 (by have:=eq_of_beq h;omega)
theorem AH {c d:UInt8} (h:c=d):((c.toNat:Int)==(d.toNat:Int))=true:=by subst h;simp
theorem Ao {c d:UInt8} (h:c≠d):((c.toNat:Int)==(d.toNat:Int))=false:=by
 cases a:((c.toNat:Int)==(d.toNat:Int)) with
 | false=>rfl
 | true=>exact absurd (QI a) h
theorem Cu {c d:UInt8} (h:c≠d):((c.toNat:Int) != (d.toNat:Int))=true:=by rw[bne,Ao h];rfl
theorem Et {c d:UInt8} (h:c=d):((c.toNat:Int) != (d.toNat:Int))=false:=by rw[bne,AH h];rfl
theorem AO (s:ByteArray) (k:Nat) (h:k<s.size):s[k]=s.data.toList[k]'(by simpa using h):=rfl
theorem Tryz.info_u8:(prog.info? 5).map (fun i=>(i.zero,i.size,i.bytes))=some (some (.int .u8 0),1,1):=by kernel_rfl
theorem Nz (c:Int) (w:World):Calls prog 100 #[.int .u8 c] w fun e a=>e = .returned (.bool (C3 c))/\w=a:=by
 go_in
 go_wp2
 all_goals (go_ret;exact⟨B3 (by simp[C3, *]<;>omega),rfl⟩)
theorem FL (c:Int) (w:World):Calls prog 82 #[.int .u8 c] w fun e a=>e = .returned (.bool (GT c))/\w=a:=by
 go_in
 go_wp2
 all_goals (go_ret;refine⟨B3 ?_,rfl⟩)
 all_goals (rw[Bool.eq_iff_iff];simp[GT];omega)
theorem Na (s:ByteArray) (i:Nat) (w:World) (h:s.size<=maxLen) (g:i<=s.size) :
  Calls prog 83 #[.string s,.int .i64 i] w fun e f=>e = .returned (.int .i64 (i+Al Aj (s.data.toList.drop i):Nat))/\w=f:=by
 unfold maxLen at h
 go_in
 go_wp2
 go_loop [1] (fun n=>∃k:Nat,k<=s.size/\n = .int .i64 k/\i+Al Aj (s.data.toList.drop i)=k+Al Aj (s.data.toList.drop k)) (fun n=>s.size-(intOf n).toNat)
 case atStart=>exact⟨i,g,rfl,rfl⟩
 obtain⟨k,j,rfl,b⟩:=hrel;have c:=Lib.hid b;clear b;by_cases a:k<s.size
 ·go_wp2_with (go_at_call 100;refine(Nz _ _).mono ?_;rintro e f ⟨rfl,rfl⟩)
  ·rename_i d
   go_round
   case rel=>exact⟨k+1,by omega,by go_num,by rw[c.out,Da Aj _ k (by simpa using a) d];omega⟩
   simp[intOf];omega
  rename_i d
  go_ret;exact⟨AZ (by rw[c.out,DQ Aj _ k (by simpa using a) d];rfl),rfl⟩
 go_wp2;go_ret;exact⟨AZ (by rw[<- Int.natCast_add,c.out,C' Aj _ k (by simpa using a)];rfl),rfl⟩
def A4:List UInt8:=[34,92,47,110,116,114,102,118,97,98]
def F7:List UInt8:=[34,92,47,10,9,13,12,11,7,8]
def D_:Nat->Nat->List UInt8->Nat×Nat
 | 0,n,_=>(n,0)
 | _+1,n,[]=>(n,0)
 | f+1,n,c::r=>if 48<=c.toNat/\c.toNat<=55 then ((D_ f (8*n+(c.toNat-48)) r).1,(D_ f (8*n+(c.toNat-48)) r).2+1) else (n,0)
def BZ (l:List UInt8):UInt8×Nat :=
 match l with
 | []=>(0,0)
 | c::_=>if A4.idxOf c<10 then (F7.getD (A4.idxOf c) 0,1) else (UInt8.ofNat (D_ 3 0 l).1,(D_ 3 0 l).2)
theorem OM (f n:Nat) (l:List UInt8) (k:Nat) (h:k<l.length) (a:48<=l[k].toNat/\l[k].toNat<=55) :
  D_ (f+1) n (l.drop k)=((D_ f (8*n+(l[k].toNat-48)) (l.drop (k+1))).1,(D_ f (8*n+(l[k].toNat-48)) (l.drop (k+1))).2+1):=by
 rw[Aq l k h,D_,if_pos a]
theorem R3 (f n:Nat) (l:List UInt8) (k:Nat) (h:k<l.length) (a:¬ (48<=l[k].toNat/\l[k].toNat<=55)):D_ f n (l.drop k)=(n,0):=by
 cases f with
 | zero=>rfl
 | succ f=>rw[Aq l k h,D_,if_neg a]
theorem OL (f n:Nat) (l:List UInt8) (k:Nat) (h:l.length<=k):D_ f n (l.drop k)=(n,0):=by
 rw[aF h];cases f<;>rfl
theorem R2:∀(f n:Nat) (l:List UInt8),(D_ f n l).2<=f/\(D_ f n l).2<=l.length
 | 0,_,_=>by simp[D_]
 | _+1,_,[]=>by simp[D_]
 | f+1,n,c::r=>by
   unfold D_;split
   ·have:=R2 f (8*n+(c.toNat-48)) r;simp;omega
   simp
theorem TD (l:List UInt8):(BZ l).2<=l.length:=by
 unfold BZ;split
 ·simp
 rename_i c r
 split
 ·simp
 exact(R2 3 0 (c::r)).2
theorem RE (c:UInt8) (L:List UInt8) (k:Nat) (h:k<L.length):(L.drop k).idxOf c=if L[k]=c then 0 else (L.drop (k+1)).idxOf c+1:=by
 rw[aE h,List.idxOf_cons];by_cases a:L[k]=c
 ·simp[a]
 rw[if_neg a,beq_eq_false_iff_ne.2 a];rfl
theorem LR (c:UInt8) (l:List UInt8) (b:0<l.length) (a:l[0]=c) (k:Nat) (h:k<10) (e:A4.idxOf c=k):BZ l=(F7[k]'h,1):=by
 cases l with
 | nil=>simp at b
 | cons d r =>
   simp at a;subst a;rw[BZ,e,if_pos h];congr 1;rw[List.getD_eq_getElem?_getD,List.getElem?_eq_getElem (show k<F7.length from h)];rfl
theorem Rk (c:UInt8) (l:List UInt8) (b:0<l.length) (a:l[0]=c) (e:¬ A4.idxOf c<10):BZ l=(UInt8.ofNat (D_ 3 0 l).1,(D_ 3 0 l).2):=by
 cases l with
 | nil=>simp at b
 | cons d r =>
   simp at a;subst a;rw[BZ,if_neg e]
def KO:Nat->List UInt8->Option (List UInt8)
 | 0,_=>none
 | _+1,[]=>some []
 | f+1,c::r=>if c≠92 then (KO f r).map (c :: ·) else if (BZ r).2=0 then none else (KO f (r.drop (BZ r).2)).map ((BZ r).1 :: ·)
def FN (l:List UInt8):Option (List UInt8):=KO (l.length+1) l
theorem GY:∀(f g:Nat) (l:List UInt8),l.length<f->l.length<g->KO f l=KO g l
 | 0,_,_,h,_=>absurd h (by omega)
 | _,0,_,_,h=>absurd h (by omega)
 | f+1,g+1,[],_,_=>rfl
 | f+1,g+1,c::r,h,h'=>by
   simp only[List.length_cons] at h h';unfold KO;rw[GY f g r (by omega) (by omega),GY f g (r.drop (BZ r).2) (by simp;omega) (by simp;omega)]
theorem Ox:FN []=some []:=rfl
theorem JZ (c:UInt8) (r:List UInt8) (h:c≠92):FN (c::r)=(FN r).map (c :: ·):=by
 rw[FN,KO,if_pos h];rfl
theorem Ov (r:List UInt8) (h:(BZ r).2=0):FN (92::r)=none:=by
 rw[FN,KO,if_neg (by simp),if_pos h]
theorem Ow (r:List UInt8) (h:(BZ r).2≠0):FN (92::r)=(FN (r.drop (BZ r).2)).map ((BZ r).1 :: ·):=by
 rw[FN,KO,if_neg (by simp),if_neg h,FN,GY ((92::r).length) ((r.drop (BZ r).2).length+1) _ (by simp;omega) (by omega)]
def Df:List UInt8->List UInt8
 | []=>[]
 | [c]=>if c=92 then [] else [c]
 | c::d::r=>if c=92 then (if d=47 then Df r |>.cons d else 92::d::Df r) else c::Df (d::r)
def Wl (k:Nat):Value:=.complex .f64 (if k=3 then 4611686018427387904 else 4607182418800017408) (if k=1 then 4611686018427387904 else if k=2 then 4613937818241073152 else 4607182418800017408)
theorem V' (w:World):Sem.run prog (binOp .add 55 (.complex .f64 4607182418800017408 4607182418800017408) (.complex .f64 0 4607182418800017408)) w = .ok (.complex .f64 4607182418800017408 4611686018427387904) w:=by kernel_rfl
theorem Wa (w:World):Sem.run prog (binOp .add 55 (.complex .f64 4607182418800017408 4611686018427387904) (.complex .f64 0 4607182418800017408)) w = .ok (.complex .f64 4607182418800017408 4613937818241073152) w:=by kernel_rfl
theorem W3 (w:World):Sem.run prog (Builtin.real_ #[55] 25 #[.complex .f64 4607182418800017408 4613937818241073152]) w = .ok (.float .f64 4607182418800017408) w:=by kernel_rfl
theorem Wd (w:World):Sem.run prog (binOp .add 25 (.float .f64 4607182418800017408) (.float .f64 4607182418800017408)) w = .ok (.float .f64 4611686018427387904) w:=by kernel_rfl
theorem W2 (w:World):Sem.run prog (Builtin.complex_ #[25,25] 55 #[.float .f64 4611686018427387904,.float .f64 4607182418800017408]) w = .ok (.complex .f64 4611686018427387904 4607182418800017408) w:=by kernel_rfl
theorem P1 (w:World):Calls prog 30 #[.string ⟨#[97,98,10,99]⟩,.int .i64 3] w fun e d=>e = .returned (.complex .f64 4611686018427387904 4607182418800017408)/\w=d:=by
 go_in
 go_wp2
 go_loop [5,6] (fun z n=>∃k:Nat,k<=3/\n = .int .i64 k/\z=Wl k) (fun _ n=>3-(intOf n).toNat)
 case atStart=>exact⟨0,by omega,rfl,rfl⟩
 obtain⟨k,i,rfl,rfl⟩:=hrel;have c:k=0\/k=1\/k=2\/k=3:=(by omega);obtain rfl | rfl | rfl | rfl:=c
 ·have b:(((⟨#[97,98,10,99]⟩:ByteArray)[0].toNat:Int)==10)=false:=by decide
  have e:Wl 0 = .complex .f64 4607182418800017408 4607182418800017408:=rfl;have a:=V';rw[e];go_wp2;refine⟨⟨1,by omega,rfl,rfl⟩,?_⟩;simp[intOf]
 ·have b:(((⟨#[97,98,10,99]⟩:ByteArray)[1].toNat:Int)==10)=false:=by decide
  have e:Wl 1 = .complex .f64 4607182418800017408 4611686018427387904:=rfl;have a:=Wa;rw[e];go_wp2;refine⟨⟨2,by omega,rfl,rfl⟩,?_⟩;simp[intOf]
 ·have b:(((⟨#[97,98,10,99]⟩:ByteArray)[2].toNat:Int)==10)=true:=by decide
  have e:Wl 2 = .complex .f64 4607182418800017408 4613937818241073152:=rfl;have f:=W3;have g:=Wd;have h:=W2;rw[e];go_wp2;refine⟨⟨3,by omega,rfl,rfl⟩,?_⟩;simp[intOf]
 have e:Wl 3 = .complex .f64 4611686018427387904 4607182418800017408:=rfl;rw[e];go_wp2;go_ret;exact⟨rfl,rfl⟩
end Go.Proofs.YtipfpohlnhmlpaaGreatDoor
