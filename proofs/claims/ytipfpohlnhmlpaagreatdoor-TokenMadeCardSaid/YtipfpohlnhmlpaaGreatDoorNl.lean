/- Nl Lx Ea Gv Rs -/
import Derived.Test.YtipfpohlnhmlpaaGreatDoorMa
import Derived.Lib.ItoaNum
import Derived.Test.YtipfpohlnhmlpaaGreatDoorMi
import Derived.Deep.WholeRow
import Derived.WalkKit
import Derived.Test.YtipfpohlnhmlpaaGreatDoorRows
import Derived.ProofKit
import Derived.OpenShut
import Derived.Carry
import Derived.ChangeSlices
import Derived.Lay
import Derived.LaidOnce
set_option maxRecDepth 1000000
set_option maxHeartbeats 4000000
open Go.World renaming cell?_alloc_at->aA,frozen?_setCell->aB,frozen?_of_block->aE,frozen?_alloc_at->aF
open Go.Lib renaming hid->aC
open List renaming getElem?_cons_succ->aD,flatMap_append->aH
namespace Go
open Go.RowKit
structure Rl where
 k:Int
 n:Int
 ps:List Tr
 b:Tr
 z:Nat×Nat
structure Fu where
 nm:List UInt8
 ps:List (List UInt8)
 b:Tr
 z:Nat×Nat
def AW (L:List (Rl×Value×Value)):List Value:=L.flatMap fun p=>[.int .i64 p.1.k,.int .i64 p.1.n,p.2.1,.int .i64 p.1.b.kd,.string ⟨p.1.b.nm.toArray⟩,.float .f64 p.1.b.x,p.2.2,.complex .f64 p.1.b.z.1 p.1.b.z.2,.complex .f64 p.1.z.1 p.1.z.2]
theorem I' (p:Rl×Value×Value) (L:List (Rl×Value×Value)):AW (p::L) = .int .i64 p.1.k :: .int .i64 p.1.n::p.2.1 :: .int .i64 p.1.b.kd :: .string ⟨p.1.b.nm.toArray⟩ :: .float .f64 p.1.b.x::p.2.2 :: .complex .f64 p.1.b.z.1 p.1.b.z.2 :: .complex .f64 p.1.z.1 p.1.z.2::AW L:=rfl
theorem JO (L M:List (Rl×Value×Value)):AW (L++M)=AW L++AW M:=by unfold AW;rw[aH]
theorem Ld (L:List (Rl×Value×Value)) (i:Nat) (p:Rl×Value×Value) (h:L[i]?=some p):(AW L)[9*i]?=some (.int .i64 p.1.k)/\(AW L)[9*i+1]?=some (.int .i64 p.1.n)/\(AW L)[9*i+2]?=some p.2.1/\(AW L)[9*i+3]?=some (.int .i64 p.1.b.kd) /\
  (AW L)[9*i+4]?=some (.string ⟨p.1.b.nm.toArray⟩)/\(AW L)[9*i+5]?=some (.float .f64 p.1.b.x)/\(AW L)[9*i+6]?=some p.2.2/\(AW L)[9*i+7]?=some (.complex .f64 p.1.b.z.1 p.1.b.z.2)/\(AW L)[9*i+8]?=some (.complex .f64 p.1.z.1 p.1.z.2):=by
 induction L generalizing i with
 | nil=>simp at h
 | cons q L a =>
   rw[I']
   cases i with
   | zero=>simp at h;subst h;simp
   | succ i =>
     rw[show 9*(i+1)=9*i+1+1+1+1+1+1+1+1+1 by omega];simp only[aD] at h ⊢;exact a i h
def AI (L:List (Fu×Value×Value)):List Value:=L.flatMap fun p=>[.string ⟨p.1.nm.toArray⟩,p.2.1,.int .i64 p.1.b.kd,.string ⟨p.1.b.nm.toArray⟩,.float .f64 p.1.b.x,p.2.2,.complex .f64 p.1.b.z.1 p.1.b.z.2,.complex .f64 p.1.z.1 p.1.z.2]
theorem IF (p:Fu×Value×Value) (L:List (Fu×Value×Value)):AI (p::L) = .string ⟨p.1.nm.toArray⟩::p.2.1 :: .int .i64 p.1.b.kd :: .string ⟨p.1.b.nm.toArray⟩ :: .float .f64 p.1.b.x::p.2.2 :: .complex .f64 p.1.b.z.1 p.1.b.z.2 :: .complex .f64 p.1.z.1 p.1.z.2::AI L:=rfl
theorem JK (L M:List (Fu×Value×Value)):AI (L++M)=AI L++AI M:=by unfold AI;rw[aH]
theorem KT (L:List (Fu×Value×Value)) (i:Nat) (p:Fu×Value×Value) (h:L[i]?=some p):(AI L)[8*i]?=some (.string ⟨p.1.nm.toArray⟩)/\(AI L)[8*i+1]?=some p.2.1/\(AI L)[8*i+2]?=some (.int .i64 p.1.b.kd) /\
  (AI L)[8*i+3]?=some (.string ⟨p.1.b.nm.toArray⟩)/\(AI L)[8*i+4]?=some (.float .f64 p.1.b.x)/\(AI L)[8*i+5]?=some p.2.2/\(AI L)[8*i+6]?=some (.complex .f64 p.1.b.z.1 p.1.b.z.2)/\(AI L)[8*i+7]?=some (.complex .f64 p.1.z.1 p.1.z.2):=by
 induction L generalizing i with
 | nil=>simp at h
 | cons q L a =>
   rw[IF]
   cases i with
   | zero=>simp at h;subst h;simp
   | succ i =>
     rw[show 8*(i+1)=8*i+1+1+1+1+1+1+1+1 by omega];simp only[aD] at h ⊢;exact a i h
def ED (T:TypeId) (w:World) (c:List Rl) (v:Value):Prop:=∃a cap,v = .slice a c.length cap/\∀i,i<c.length->∃b e d r,a=some ⟨b,0,none⟩/\c[i]?=some r/\Am T w (fun _=>True) r.ps e/\Am T w (fun _=>True) r.b.ks d /\
 w.cell? ⟨b,9*i,none⟩=some (.int .i64 r.k)/\w.cell? ⟨b,9*i+1,none⟩=some (.int .i64 r.n)/\w.cell? ⟨b,9*i+2,none⟩=some e/\w.cell? ⟨b,9*i+3,none⟩=some (.int .i64 r.b.kd)/\w.cell? ⟨b,9*i+4,none⟩=some (.string ⟨r.b.nm.toArray⟩) /\
 w.cell? ⟨b,9*i+5,none⟩=some (.float .f64 r.b.x)/\w.cell? ⟨b,9*i+6,none⟩=some d/\w.cell? ⟨b,9*i+7,none⟩=some (.complex .f64 r.b.z.1 r.b.z.2)/\w.cell? ⟨b,9*i+8,none⟩=some (.complex .f64 r.z.1 r.z.2)
def Ii (w:World) (c:List (List UInt8)) (v:Value):Prop:=∃a cap,v = .slice a c.length cap/\∀i,i<c.length->∃b p,a=some ⟨b,0,none⟩/\c[i]?=some p/\w.cell? ⟨b,i,none⟩=some (.string ⟨p.toArray⟩)
def Fh (T:TypeId) (w:World) (c:List Fu) (v:Value):Prop:=∃a cap,v = .slice a c.length cap/\∀i,i<c.length->∃b e d f,a=some ⟨b,0,none⟩/\c[i]?=some f/\Ii w f.ps e/\Am T w (fun _=>True) f.b.ks d /\
 w.cell? ⟨b,8*i,none⟩=some (.string ⟨f.nm.toArray⟩)/\w.cell? ⟨b,8*i+1,none⟩=some e/\w.cell? ⟨b,8*i+2,none⟩=some (.int .i64 f.b.kd)/\w.cell? ⟨b,8*i+3,none⟩=some (.string ⟨f.b.nm.toArray⟩) /\
 w.cell? ⟨b,8*i+4,none⟩=some (.float .f64 f.b.x)/\w.cell? ⟨b,8*i+5,none⟩=some d/\w.cell? ⟨b,8*i+6,none⟩=some (.complex .f64 f.b.z.1 f.b.z.2)/\w.cell? ⟨b,8*i+7,none⟩=some (.complex .f64 f.z.1 f.z.2)
section
variable {T:TypeId} {w w':World} {v:Value}
theorem Ii.bel {d:List (List UInt8)} (h:Ii w d v) (j:Below w.heap.size w w'):Ii w' d v:=by
 obtain⟨a,c,rfl,h⟩:=h;refine⟨a,c,rfl,fun i k=>?_⟩;obtain⟨b,p,e,f,g⟩:=h i k;exact⟨b,p,e,f,Aa g j⟩
theorem ED.bel {e:List Rl} (h:ED T w e v) (c:Below w.heap.size w w'):ED T w' e v:=by
 obtain⟨a,d,rfl,h⟩:=h;refine⟨a,d,rfl,fun i x=>?_⟩;obtain⟨b,z,y,r,q,s,t,u,f,g,j,k,l,m,n,o,p⟩:=h i x;exact⟨b,z,y,r,q,s,t.bel c,u.bel c,Aa f c,Aa g c,Aa j c,Aa k c,Aa l c,Aa m c,Aa n c,Aa o c,Aa p c⟩
theorem Fh.bel {e:List Fu} (h:Fh T w e v) (c:Below w.heap.size w w'):Fh T w' e v:=by
 obtain⟨a,d,rfl,h⟩:=h;refine⟨a,d,rfl,fun i u=>?_⟩;obtain⟨b,y,x,f,q,r,s,t,g,j,k,l,m,n,o,p⟩:=h i u;exact⟨b,y,x,f,q,r,s.bel c,t.bel c,Aa g c,Aa j c,Aa k c,Aa l c,Aa m c,Aa n c,Aa o c,Aa p c⟩
end
def Hx (k:Int):Nat:=if k=6 then 1 else if k=7 then 2 else 0
def BL (N:Aw) (r:Rl):Bool:=decide (1<=r.k/\r.k<=7)&&(decide (r.ps.length=Hx r.k)&&(A5 N 1 r.ps&&((decide (r.b.kd=30)&&Av N 1 r.b)&&(if r.k=3 then decide (1<=r.n/\r.n<=1048576) else decide (r.n=0)))))
def Eu (N:Aw) (f:Fu):Bool:=N.name f.nm&&(decide (f.ps.length<=8)&&((decide (f.b.kd=30)&&Av N 1 f.b)&&f.ps.all N.name))
def Fc (N:Aw) (b:List Rl) (a:List Fu):Bool:=b.all (BL N)&&a.all (Eu N)
def Fp (n:Int):List UInt8:=Lib.itoa n
def FZ (a:Nat->List UInt8) (r:Rl):List UInt8 :=
 if r.k=1 then [66,69,71,73,78,32] else if r.k=2 then [69,78,68,32] else if r.k=4 then [71,65,80,32] else if r.k=3 then [69,86,69,82,89,32]++Fp r.n++[32]
 else if r.k=6\/r.k=7 then A3 [44,32] (AP a r.ps)++[32] else []
def BQ (a:Nat->List UInt8) (r:Rl):List UInt8:=FZ a r++AX a r.b++[10]
def Hs (a:Nat->List UInt8) (f:Fu):List UInt8:=[102,117,110,99,116,105,111,110,32]++f.nm++[40]++A3 [44] f.ps++[41,32]++AX a f.b++[10]
def OR (a:Nat->List UInt8) (c:List Rl) (b:List Fu):List UInt8:=c.flatMap (BQ a)++b.flatMap (Hs a)
theorem CellsA.new9 (w:World) (a b c d e f g h i:Value) (T:TypeId) :
  (w.alloc (.cells #[a,b,c,d,e,f,g,h,i] T)).cell? ⟨w.heap.size,0,none⟩=some a/\(w.alloc (.cells #[a,b,c,d,e,f,g,h,i] T)).cell? ⟨w.heap.size,1,none⟩=some b/\(w.alloc (.cells #[a,b,c,d,e,f,g,h,i] T)).cell? ⟨w.heap.size,2,none⟩=some c /\
  (w.alloc (.cells #[a,b,c,d,e,f,g,h,i] T)).cell? ⟨w.heap.size,3,none⟩=some d/\(w.alloc (.cells #[a,b,c,d,e,f,g,h,i] T)).cell? ⟨w.heap.size,4,none⟩=some e/\(w.alloc (.cells #[a,b,c,d,e,f,g,h,i] T)).cell? ⟨w.heap.size,5,none⟩=some f /\
  (w.alloc (.cells #[a,b,c,d,e,f,g,h,i] T)).cell? ⟨w.heap.size,6,none⟩=some g/\(w.alloc (.cells #[a,b,c,d,e,f,g,h,i] T)).cell? ⟨w.heap.size,7,none⟩=some h/\(w.alloc (.cells #[a,b,c,d,e,f,g,h,i] T)).cell? ⟨w.heap.size,8,none⟩=some i:=by
 refine⟨?_,?_,?_,?_,?_,?_,?_,?_,?_⟩<;>(rw[aA _ _ _ _ rfl];rfl)
theorem CellsA.new8 (w:World) (a b c d e f g h:Value) (T:TypeId) :
  (w.alloc (.cells #[a,b,c,d,e,f,g,h] T)).cell? ⟨w.heap.size,0,none⟩=some a/\(w.alloc (.cells #[a,b,c,d,e,f,g,h] T)).cell? ⟨w.heap.size,1,none⟩=some b/\(w.alloc (.cells #[a,b,c,d,e,f,g,h] T)).cell? ⟨w.heap.size,2,none⟩=some c /\
  (w.alloc (.cells #[a,b,c,d,e,f,g,h] T)).cell? ⟨w.heap.size,3,none⟩=some d/\(w.alloc (.cells #[a,b,c,d,e,f,g,h] T)).cell? ⟨w.heap.size,4,none⟩=some e/\(w.alloc (.cells #[a,b,c,d,e,f,g,h] T)).cell? ⟨w.heap.size,5,none⟩=some f /\
  (w.alloc (.cells #[a,b,c,d,e,f,g,h] T)).cell? ⟨w.heap.size,6,none⟩=some g/\(w.alloc (.cells #[a,b,c,d,e,f,g,h] T)).cell? ⟨w.heap.size,7,none⟩=some h:=by
 refine⟨?_,?_,?_,?_,?_,?_,?_,?_⟩<;>(rw[aA _ _ _ _ rfl];rfl)
theorem DX (t:Tr):t.ks.length<=t.big:=by
 obtain⟨k,nm,x,z,ks⟩:=t;rw[CD]
 have:∀l:List Tr,l.length<=Bh l:=by
  intro l
  induction l with
  | nil=>simp
  | cons t b a=>rw[AU,List.length_cons];omega
 have:=this ks;show ks.length<=_;omega
theorem Ad (W:World) (o:Obj):Below W.heap.size W (W.alloc o):=(Below.refl _ _).alloc (Nat.le_refl _) _
theorem AC (W:World) (o:Obj):Below W.heap.size W (W.alloc o).drew:=⟨rfl,rfl,rfl,(Ad W o).size,(Ad W o).block⟩
theorem Az {W:World} {a:Addr} {v:Value} (h:W.cell? a=some v) (o:Obj):(W.alloc o).cell? a=some v:=((Ad W o).cell (World.block_lt_of_cell? W a h)).trans h
theorem Ab {W:World} {a:Addr} {v:Value} (h:W.cell? a=some v) (o:Obj):(W.alloc o).drew.cell? a=some v:=Az h o
end Go
namespace Go.Proofs.YtipfpohlnhmlpaaGreatDoor
open Go.Proofs.Tryz
open Go.RowKit
theorem F' (arr:Array Value) (_hs:arr.size=256) (hb:∀i,i<256->∃b,arr[i]?=some (.bool b)) (W:World) :
  Calls prog 182 #[.agg arr] W fun e w'=>∃a b c d:Int,e = .returned (.agg #[.int .u64 a,.int .u64 b,.int .u64 c,.int .u64 d])/\Below W.heap.size W w':=by
 obtain⟨X,r⟩:∃X,X=((W.alloc (.cells arr 230)).alloc (.cells #[.int .u64 0,.int .u64 0,.int .u64 0,.int .u64 0] 183)).alloc (.cells #[.int .u64 0,.int .u64 0,.int .u64 0,.int .u64 0] 183):=⟨_,rfl⟩;have R:(W.alloc (.cells arr 230)).heap.size=W.heap.size+1:=(by simp);have S:((W.alloc (.cells arr 230)).alloc (.cells #[.int .u64 0,.int .u64 0,.int .u64 0,.int .u64 0] 183)).heap.size=W.heap.size+2:=(by simp);have B:Below W.heap.size W X:=by rw[r];exact(((Below.refl _ _).alloc (Nat.le_refl _) _).alloc (by simp) _).alloc (by simp;omega) _
 have C:∀i v,arr[i]?=some v->X.cell? ⟨W.heap.size,i,none⟩=some v:=fun i v h=>by
  rw[r];refine Az (Az ?_ _) _;rw[aA _ _ _ _ rfl];exact h
 have G:∀i,i<4->X.cell? ⟨W.heap.size+1,i,none⟩=some (.int .u64 0):=fun i h=>by
  rw[r];refine Az ?_ _;rw[aA _ _ _ _ (by rw[R])];rcases (by omega:i=0\/i=1\/i=2\/i=3) with rfl | rfl | rfl | rfl<;>rfl
 have F:∀i,i<4->X.cell? ⟨W.heap.size+2,i,none⟩=some (.int .u64 0):=fun i h=>by
  rw[r,aA _ _ _ _ (by rw[S])];rcases (by omega:i=0\/i=1\/i=2\/i=3) with rfl | rfl | rfl | rfl<;>rfl
 have D:∀j,X.frozen? ⟨W.heap.size+1,j,none⟩=false:=fun j=>by
  rw[r];rw[aE ((Ad _ _).block _ (by simp))];exact aF _ _ _ _ (by rw[R])
 have E:∀j,X.frozen? ⟨W.heap.size+2,j,none⟩=false:=fun j=>by
  rw[r];exact aF _ _ _ _ (by rw[S])
 have a0:W.heap.size+2<X.heap.size:=by rw[r];simp
 have P:=aC D;have Q:=aC E;have HX:=aC r;have A:=aC B;have O:=aC C;have q:=aC G;have o:=aC F;have N:=aC hb;clear B C G F R S hb r D E
 go_in
 go_wp2_with fail
 rw[show W.heap.size+1+1=W.heap.size+2 from rfl,<- HX.out]
 go_loopg [4] 256 (fun g i wr=>∃(k:Nat) (a b c d:Int),i = .int .i64 k/\k+g=256/\Hid (Ae (W.heap.size+2) X wr)/\(∀j,wr.frozen? ⟨W.heap.size+2,j,none⟩=false) /\
  wr.cell? ⟨W.heap.size+2,0,none⟩=some (.int .u64 a)/\wr.cell? ⟨W.heap.size+2,1,none⟩=some (.int .u64 b)/\wr.cell? ⟨W.heap.size+2,2,none⟩=some (.int .u64 c)/\wr.cell? ⟨W.heap.size+2,3,none⟩=some (.int .u64 d))
 case atStart=>exact⟨0,0,0,0,0,rfl,rfl,aC (Ae.refl _ _),Q.out,o.out 0 (by omega),o.out 1 (by omega),o.out 2 (by omega),o.out 3 (by omega)⟩
 obtain⟨k,a,b,c,d,rfl,b0,n,L,H,I,J,K⟩:=hrel;by_cases hk:k<256
 ·obtain⟨bb,T⟩:=N.out k hk
  have cb:=(n.out.cell (p:=⟨W.heap.size,k,none⟩) (by show W.heap.size≠W.heap.size+2;omega) (by show W.heap.size<X.heap.size;omega)).trans (O.out k _ T)
  cases bb with
  | false =>
    go_wp2
    go_roundg (gk-1)
    case measure=>omega
    exact⟨k+1,a,b,c,d,congrArg (Value.int .i64) (by omega),by omega,n,L,H,I,J,K⟩
  | true =>
    obtain⟨m,M⟩:∃m,k%64=m:=⟨_,rfl⟩;have hr:(k:Int)%64=(m:Int):=(by omega);have c0:m<64:=(by omega);rcases (by omega:k/64=0\/k/64=1\/k/64=2\/k/64=3) with t | t | t | t
    ·have U:(k:Int)/64=0:=by omega
     clear t M
     go_wp2_with fail
     generalize bits BinOp.or IntKind.u64 a (IntKind.u64.wrap (2^m))=u;have f:Hid (Ae (W.heap.size+2) X (wr.setCell ⟨W.heap.size+2,0,none⟩ (.int .u64 u))):=n.out.set 0 _;have l:∀j,(wr.setCell ⟨W.heap.size+2,0,none⟩ (.int .u64 u)).frozen? ⟨W.heap.size+2,j,none⟩=false:=fun j=>by rw[aB];exact L j
     have w:(wr.setCell ⟨W.heap.size+2,0,none⟩ (.int .u64 u)).cell? ⟨W.heap.size+2,0,none⟩=some (.int .u64 u):=A8 H;have x:(wr.setCell ⟨W.heap.size+2,0,none⟩ (.int .u64 u)).cell? ⟨W.heap.size+2,1,none⟩=some (.int .u64 b):=(Ag (Ai (by omega))).trans I;have y:(wr.setCell ⟨W.heap.size+2,0,none⟩ (.int .u64 u)).cell? ⟨W.heap.size+2,2,none⟩=some (.int .u64 c):=(Ag (Ai (by omega))).trans J;have z:(wr.setCell ⟨W.heap.size+2,0,none⟩ (.int .u64 u)).cell? ⟨W.heap.size+2,3,none⟩=some (.int .u64 d):=(Ag (Ai (by omega))).trans K
     go_roundg (gk-1)
     case measure=>omega
     exact⟨k+1,u,b,c,d,congrArg (Value.int .i64) (by omega),by omega,f,l,w,x,y,z⟩
    ·have U:(k:Int)/64=1:=by omega
     clear t M
     go_wp2_with fail
     generalize bits BinOp.or IntKind.u64 b (IntKind.u64.wrap (2^m))=u;have f:Hid (Ae (W.heap.size+2) X (wr.setCell ⟨W.heap.size+2,1,none⟩ (.int .u64 u))):=n.out.set 1 _;have l:∀j,(wr.setCell ⟨W.heap.size+2,1,none⟩ (.int .u64 u)).frozen? ⟨W.heap.size+2,j,none⟩=false:=fun j=>by rw[aB];exact L j
     have w:(wr.setCell ⟨W.heap.size+2,1,none⟩ (.int .u64 u)).cell? ⟨W.heap.size+2,0,none⟩=some (.int .u64 a):=(Ag (Ai (by omega))).trans H;have x:(wr.setCell ⟨W.heap.size+2,1,none⟩ (.int .u64 u)).cell? ⟨W.heap.size+2,1,none⟩=some (.int .u64 u):=A8 I;have y:(wr.setCell ⟨W.heap.size+2,1,none⟩ (.int .u64 u)).cell? ⟨W.heap.size+2,2,none⟩=some (.int .u64 c):=(Ag (Ai (by omega))).trans J;have z:(wr.setCell ⟨W.heap.size+2,1,none⟩ (.int .u64 u)).cell? ⟨W.heap.size+2,3,none⟩=some (.int .u64 d):=(Ag (Ai (by omega))).trans K
     go_roundg (gk-1)
     case measure=>omega
     exact⟨k+1,a,u,c,d,congrArg (Value.int .i64) (by omega),by omega,f,l,w,x,y,z⟩
    ·have U:(k:Int)/64=2:=by omega
     clear t M
     go_wp2_with fail
     generalize bits BinOp.or IntKind.u64 c (IntKind.u64.wrap (2^m))=u;have f:Hid (Ae (W.heap.size+2) X (wr.setCell ⟨W.heap.size+2,2,none⟩ (.int .u64 u))):=n.out.set 2 _;have l:∀j,(wr.setCell ⟨W.heap.size+2,2,none⟩ (.int .u64 u)).frozen? ⟨W.heap.size+2,j,none⟩=false:=fun j=>by rw[aB];exact L j
     have w:(wr.setCell ⟨W.heap.size+2,2,none⟩ (.int .u64 u)).cell? ⟨W.heap.size+2,0,none⟩=some (.int .u64 a):=(Ag (Ai (by omega))).trans H;have x:(wr.setCell ⟨W.heap.size+2,2,none⟩ (.int .u64 u)).cell? ⟨W.heap.size+2,1,none⟩=some (.int .u64 b):=(Ag (Ai (by omega))).trans I;have y:(wr.setCell ⟨W.heap.size+2,2,none⟩ (.int .u64 u)).cell? ⟨W.heap.size+2,2,none⟩=some (.int .u64 u):=A8 J;have z:(wr.setCell ⟨W.heap.size+2,2,none⟩ (.int .u64 u)).cell? ⟨W.heap.size+2,3,none⟩=some (.int .u64 d):=(Ag (Ai (by omega))).trans K
     go_roundg (gk-1)
     case measure=>omega
     exact⟨k+1,a,b,u,d,congrArg (Value.int .i64) (by omega),by omega,f,l,w,x,y,z⟩
    have U:(k:Int)/64=3:=(by omega);clear t M
    go_wp2_with fail
    generalize bits BinOp.or IntKind.u64 d (IntKind.u64.wrap (2^m))=u;have f:Hid (Ae (W.heap.size+2) X (wr.setCell ⟨W.heap.size+2,3,none⟩ (.int .u64 u))):=n.out.set 3 _;have l:∀j,(wr.setCell ⟨W.heap.size+2,3,none⟩ (.int .u64 u)).frozen? ⟨W.heap.size+2,j,none⟩=false:=fun j=>by rw[aB];exact L j
    have w:(wr.setCell ⟨W.heap.size+2,3,none⟩ (.int .u64 u)).cell? ⟨W.heap.size+2,0,none⟩=some (.int .u64 a):=(Ag (Ai (by omega))).trans H;have x:(wr.setCell ⟨W.heap.size+2,3,none⟩ (.int .u64 u)).cell? ⟨W.heap.size+2,1,none⟩=some (.int .u64 b):=(Ag (Ai (by omega))).trans I;have y:(wr.setCell ⟨W.heap.size+2,3,none⟩ (.int .u64 u)).cell? ⟨W.heap.size+2,2,none⟩=some (.int .u64 c):=(Ag (Ai (by omega))).trans J;have z:(wr.setCell ⟨W.heap.size+2,3,none⟩ (.int .u64 u)).cell? ⟨W.heap.size+2,3,none⟩=some (.int .u64 u):=A8 K
    go_roundg (gk-1)
    case measure=>omega
    exact⟨k+1,a,b,c,u,congrArg (Value.int .i64) (by omega),by omega,f,l,w,x,y,z⟩
 have r0:=(n.out.cell (p:=⟨W.heap.size+1,0,none⟩) (by show W.heap.size+1≠W.heap.size+2;omega) (by show W.heap.size+1<X.heap.size;omega)).trans (q.out 0 (by omega));have r1:=(n.out.cell (p:=⟨W.heap.size+1,1,none⟩) (by show W.heap.size+1≠W.heap.size+2;omega) (by show W.heap.size+1<X.heap.size;omega)).trans (q.out 1 (by omega));have r2:=(n.out.cell (p:=⟨W.heap.size+1,2,none⟩) (by show W.heap.size+1≠W.heap.size+2;omega) (by show W.heap.size+1<X.heap.size;omega)).trans (q.out 2 (by omega));have r3:=(n.out.cell (p:=⟨W.heap.size+1,3,none⟩) (by show W.heap.size+1≠W.heap.size+2;omega) (by show W.heap.size+1<X.heap.size;omega)).trans (q.out 3 (by omega))
 have rf:∀j,wr.frozen? ⟨W.heap.size+1,j,none⟩=false:=fun j=>by
  rw[aE (n.out.block (W.heap.size+1) (by omega) (fun e=>by injection e with e;omega))];exact P.out j
 go_wp2;obtain⟨Z,s⟩:∃Z,Z=((((wr.setCell ⟨W.heap.size+1,0,none⟩ (.int .u64 a)).setCell ⟨W.heap.size+1,1,none⟩ (.int .u64 b)).setCell ⟨W.heap.size+1,2,none⟩ (.int .u64 c)).setCell ⟨W.heap.size+1,3,none⟩ (.int .u64 d)):=⟨_,rfl⟩;have z0:Z.cell? ⟨W.heap.size+1,0,none⟩=some (.int .u64 a):=by rw[s,Ag (Ai (by omega)),Ag (Ai (by omega)),Ag (Ai (by omega))];exact A8 r0
 have z1:Z.cell? ⟨W.heap.size+1,1,none⟩=some (.int .u64 b):=by rw[s,Ag (Ai (by omega)),Ag (Ai (by omega))];exact A8 (by rw[Ag (Ai (by omega))];exact r1)
 have z2:Z.cell? ⟨W.heap.size+1,2,none⟩=some (.int .u64 c):=by rw[s,Ag (Ai (by omega))];exact A8 (by rw[Ag (Ai (by omega)),Ag (Ai (by omega))];exact r2)
 have z3:Z.cell? ⟨W.heap.size+1,3,none⟩=some (.int .u64 d):=by rw[s];exact A8 (by rw[Ag (Ai (by omega)),Ag (Ai (by omega)),Ag (Ai (by omega))];exact r3)
 have V:Below W.heap.size W Z:=by
  rw[s];have Y:=n.out.below_of A.out (by omega) A.out.size;exact(((((Ae.refl (W.heap.size+1) wr).set 0 _).set 1 _).set 2 _).set 3 _).below_of Y (by omega) Y.size
 rw[<- s];clear s;exact bodyPost_ret (v:=.agg #[.int .u64 a,.int .u64 b,.int .u64 c,.int .u64 d]) (by simp[results,results182,go_sem,z0,z1,z2,z3]<;>exact rfl) rfl ⟨a,b,c,d,rfl,V⟩
end Go.Proofs.YtipfpohlnhmlpaaGreatDoor
namespace Go
structure Xc where
 a:Value
 b:Value
 c:Value
 d:Value
 e:Value
 f:Value
 g:Value
 h:Value
 i:Value
 j:Value
 k:Value
 l:Value
 m:Value
 n:Value
 o:Value
 p:Value
 q:Value
 r:Value
 s:Value
 t:Value
end Go
namespace Go.Proofs.YtipfpohlnhmlpaaGreatDoor
open Go.Proofs.Tryz
open Go.ChangeShapes Go.WideShapes Go.ChangeAt Go.RowKit
theorem RQ:laidOutB prog=true:=by kernel_rfl
theorem ND {H:Type} {enc:TypeId×Value->H} {W:World} {base:Nat} {v:Value} {d:DataW H} {p:List MemPlace} (g:Value.okWide prog W .any base 22 v) (h:DataW.Trod enc prog W 0 (fun _=>true) true 22 v d p) :
  ∃(k:Option Addr) (n cap:Nat) (Z:Nat->Int),v = .slice k n cap/\n<=9223372036854775807/\(n=0\/∃b o,k=some ⟨b,o,none⟩/\∀i,i<n->W.cell? ⟨b,o+i,none⟩=some (.int .i64 (Z i))):=by
 obtain⟨A,len,cap,rfl⟩:=okWide_slice underlying22 g;obtain⟨m,t⟩:=h;rcases open_ints underlying22 underlying3 (by kernel_rfl) t with⟨e,x⟩ | ⟨a,q,l,z,e,_,C,u,y,x,c,w⟩
 ·simp[Value.cells] at e
  obtain⟨rfl,rfl,rfl⟩:=e;exact⟨none,0,0,fun _=>0,rfl,by omega,.inl rfl⟩
 simp[Value.cells] at e;obtain⟨rfl,rfl,rfl⟩:=e;simp only[if_true] at y;refine⟨some a,len,cap,fun i=>z.getD i 0,rfl,by unfold maxLen at u;omega,?_⟩;by_cases s:len=0
 ·exact .inl s
 right;obtain⟨r,k,j⟩:=a;have f:j=none:=(by simpa[Addr.add] using World.cell?_spot (c 0 (by omega)));subst f;refine⟨r,k,rfl,fun i B=>?_⟩;have:=c i (by omega)
 rwa [Addr.add_lit] at this
end Go.Proofs.YtipfpohlnhmlpaaGreatDoor
