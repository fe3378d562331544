/- Gm -/
import Derived.WalkKit
import Derived.Laws.BytesArg
open Nat renaming le_refl->aA
namespace Go
open Go.RowKit
def Ge (l:List UInt8):List Value:=l.map fun c => .int .u8 c.toNat
theorem E9 (l:List UInt8):strOfNums (l.map fun c=>(c.toNat:Int))=⟨l.toArray⟩:=by
 simp only[strOfNums,List.map_map];congr 2
 have:((fun n:Int=>UInt8.ofNat n.toNat) ∘ fun c:UInt8=>(c.toNat:Int))=id:=by
  funext c;simp
 rw[this,List.map_id]
theorem Ci {P:Program} {w:World} {d:Nat} {b a e:TypeId} {v:Value} {l:List UInt8} (n:P.underlying b=some (.slice e)) (m:P.underlying e=some (.int .u8)) (k:P.underlying a=some .string)
  (h:w.ownsRow d e 1 v l.length (Ge l)):(convert b a v).run P w = .ok (.string ⟨l.toArray⟩) w:=by
 obtain⟨t,p⟩:=h;rcases p with⟨rfl,o⟩ | ⟨g,j,f,rfl,_,q,_,_,s,c⟩
 ·have:l=[]:=List.eq_nil_of_length_eq_zero o
  subst this;exact run_convert_bytes_nil w b e n m _ _ a k
 rw[<- E9];refine run_convert_bytes_arg w b e n m g 0 l.length j _ (by simp) (fun i r=>?_) a k
 have:f.toList[i]?=(Ge l)[i]?:=by
  rw[<- c,List.getElem?_take,if_pos (by omega)]
 rw[cell_of_row w g (0+i) f e (0,0) q];simp only[Nat.zero_add];rw[<- Array.getElem?_toList,this];simp[Ge,r]
@[go_sem] theorem QO {P:Program} {w:World} {a:Addr} {m:Mode} (k:FloatKind) (b:Nat):(store a (.float k b) m).run P w=stored P w a (.float k b) m:=run_store P w a _ m rfl
@[go_sem] theorem OU {P:Program} {w:World} {a:Addr} {m:Mode} (k:FloatKind) (b c:Nat):(store a (.complex k b c) m).run P w=stored P w a (.complex k b c) m:=run_store P w a _ m rfl
theorem Ta (l:List UInt8) (c:UInt8):Ge (l++[c])=Ge l++[.int .u8 c.toNat]:=by simp[Ge]
theorem DB {w a:World} {v0 v1 v2 v3 v4:Value} {T:TypeId} (b:Below (w.heap.size+1) (w.alloc (.cells #[v0,v1,v2,v3,v4] T)) a) :
  a.cell? ⟨w.heap.size,0,none⟩=some v0/\a.cell? ⟨w.heap.size,1,none⟩=some v1/\a.cell? ⟨w.heap.size,2,none⟩=some v2/\a.cell? ⟨w.heap.size,3,none⟩=some v3/\a.cell? ⟨w.heap.size,4,none⟩=some v4 /\
  a.frozen? ⟨w.heap.size,0,none⟩=false/\a.frozen? ⟨w.heap.size,1,none⟩=false/\a.frozen? ⟨w.heap.size,2,none⟩=false/\a.frozen? ⟨w.heap.size,3,none⟩=false/\a.frozen? ⟨w.heap.size,4,none⟩=false:=by
 have hF:∀j,a.frozen? ⟨w.heap.size,j,none⟩=false:=fun j=>by rw[b.frozen (by simp)];exact World.frozen?_alloc_at _ _ _ _ rfl
 refine⟨?_,?_,?_,?_,?_,hF 0,hF 1,hF 2,hF 3,hF 4⟩<;>(rw[b.cell (by simp),World.cell?_alloc_at _ _ _ _ rfl];rfl)
theorem PW {w w':World} {B:Nat} {e:TypeId} {b n:Nat} {v:Value} {c:List Value} (h:w.ownsRow B e b v n c) (a:Below w.heap.size w w'):w'.ownsRow B e b v n c :=
 h.kept (row:=none) ⟨a.os,a.tape,a.output,a.size,fun k d _=>a.block k d⟩ (by cases v.ownBlock<;>simp)
theorem BR {w a:World} {o:Obj} (b:Below (w.heap.size+1) (w.alloc o) a) (v0 v1 v2 v3 v4:Value) :
  Below w.heap.size w (((((a.setCell ⟨w.heap.size,0,none⟩ v0).setCell ⟨w.heap.size,1,none⟩ v1).setCell ⟨w.heap.size,2,none⟩ v2).setCell ⟨w.heap.size,3,none⟩ v3).setCell ⟨w.heap.size,4,none⟩ v4) :=
 ((((((((Below.refl _ _).alloc (aA _) _).trans (b.mono (by omega))).setCell (p:=⟨w.heap.size,0,none⟩) (aA _) _)).setCell (p:=⟨w.heap.size,1,none⟩) (aA _) _).setCell (p:=⟨w.heap.size,2,none⟩) (aA _) _).setCell (p:=⟨w.heap.size,3,none⟩) (aA _) _).setCell (p:=⟨w.heap.size,4,none⟩) (aA _) _
theorem Ca {W wr w1:World} {B:Nat} {e:TypeId} {v f:Value} {a:List UInt8} {c:UInt8} {o:Obj} (d:wr.ownsRow B e 1 v a.length (Ge a)) (h:Below B W wr) (g:B<=wr.heap.size)
  (b:w1.ownsRow B e 1 f (a.length+1) (Ge a++[.int .u8 c.toNat])) (i:(wr.alloc o).grownBy w1 v.ownBlock) :
  w1.ownsRow B e 1 f (a++[c]).length (Ge (a++[c]))/\Below B W w1 :=
 ⟨by rw[Ta];simpa using b,(h.alloc g o).grown i (by simp;omega) (fun j k=>(d.lt j k).1)⟩
end Go
