/- Mb Mc Md Me Mf Mq Mr Mn -/
import Derived.Test.YtipfpohlnhmlpaaGreatDoorMa
import Derived.Test.YtipfpohlnhmlpaaGreatDoorWk
import Derived.Deep.DeepCutAuto
import Derived.Deep.CutBlock
import Derived.IntWalk
import Derived.BigQuiet
import Derived.Deep.QuietTactic
import Derived.Lib.Explode
import Derived.Deep.LoopGhost
import Derived.Lib.ConvBytes
import Derived.Deep.WholeRow
import Derived.BigRegion
set_option maxRecDepth 100000
set_option maxHeartbeats 8000000
open Go.Lib renaming hid->aA,bytesWorld->aQ
open Go.Value renaming slice->aB,int->aI
open ByteArray renaming size->aC
open Go.RowKit.Below renaming refl->aD
open List renaming take_succ_eq_append_getElem->aE,getD_eq_getElem?_getD->aJ,getElem?_eq_getElem->aK,take_of_length_le->aM,append_nil->aN,mem_of_getElem?->aO,all_eq_true->aR,getElem_mem->aS,range->aV
open UInt8 renaming toNat_inj->aF,toNat_lt->aP
open Nat renaming le_refl->aG
open Go.World renaming cell?_alloc_at->aH,block_lt_of_cell?->aL
namespace Go.Proofs.YtipfpohlnhmlpaaGreatDoor
open Go.Proofs.Tryz
open Go.RowKit
theorem FJ {B:Nat} {a w:World} (h:Below B a w) (n:Nat):Below B a (w.drewN n):=⟨h.os,h.tape,h.output,h.size,h.block⟩
theorem Kl {P:Program} {f:FuncId} {args:Array Value} {w:World} {n:Nat} {v:Value}
  (h:Calls P f args (w.drewN n) fun e d=>e = .returned v/\w.drewN n=d):Calls P f args (w.drewN n) fun e a=>e = .returned v/\∃m,a=w.drewN m :=
 h.mono fun _ _ ⟨b,c⟩=>⟨b,n,c.symm⟩
def W0 (a:World) (l:Cp) (b:Nat) (W:World) (I:Nat) (M:Int) (e:Ending) (w':World):Prop :=
 ∃q:Nat,(q:Int)<M/\e = .returned (.int .i64 q)/\CH a l b (I+1) w'/\Ae b W w'
theorem Ar (v:World) (l:Cp) (b I:Nat) (M:Int) (W:World) (d:CH v l b I W) (h0:0<M) (h1:M<=1000) (R:I+1<=1099511627776) (N:l.n<=9223372036854775807) :
  Calls prog 35 #[.pointer (some ⟨b,0,none⟩),.int .i64 M] W (W0 v l b W I M):=by
 obtain⟨m,rfl⟩:∃m:Nat,M=m:=⟨M.toNat,by omega⟩;obtain⟨i,T,d⟩:=d;obtain⟨x,y,f,F⟩:=d.c;obtain⟨J,K⟩:∃J,J=i+1:=⟨_,rfl⟩;have E:=d;have t:=F.set1 (.int .i64 (J:Int));have S:=F.lt
 have o:∀n,CH v l b (I+1) ((W.setCell ⟨b,1,none⟩ (.int .i64 (J:Int))).drewN n)/\Ae b W ((W.setCell ⟨b,1,none⟩ (.int .i64 (J:Int))).drewN n):=fun n=>by
  have O:Ae b W (W.setCell ⟨b,1,none⟩ (.int .i64 (J:Int))):=(Ae.refl _ _).set 1 _;refine⟨⟨J,by omega,(O.drewN n).below_of d.below d.hb d.below.size,d.hb,d.row,x,y,f,?_⟩,O.drewN n⟩;exact t.below (FJ (aD _ _) n)
 have w:=aA o;have j:=d.row;have g:=d.below;have s:=d.hb;have V:J<=1099511627776:=(by omega);have Q:(i:Int)+1=(J:Int):=(by omega);have U:i<=1099511627776:=(by omega);obtain⟨C,c1,c2,c3,c4,cf⟩:=F;obtain⟨D,d1,d2,d3,d4,df⟩:=t;clear o d E R T;by_cases k:l.n=0
 ·rw[k] at C D
  clear j g k N s K
  go_in
  go_wp2;go_ret;exact⟨0,by omega,rfl,(w.out 0).1,(w.out 0).2⟩
 obtain⟨A,lo,q,a⟩:=j.resolve_left k;obtain⟨n,u⟩:∃n,l.n=n:=⟨_,rfl⟩;rw[u] at C D a N k;rw[q] at C D;have H:J%n<n:=Nat.mod_lt _ (by omega);have h:=a (J%n) H;obtain⟨r,z⟩:∃r,J%n=r:=⟨_,rfl⟩;rw[z] at h H;obtain⟨Z,L⟩:∃Z,l.Z r=Z:=⟨_,rfl⟩;rw[L] at h;have G:A<v.heap.size:=aL v ⟨A,_,none⟩ h
 have cz:(W.setCell ⟨b,1,none⟩ (.int .i64 (J:Int))).cell? ⟨A,lo+r,none⟩=some (.int .i64 Z):=by
  rw[Ag (fun e=>by injection e with Q _ _;omega),g.cell (p:=⟨A,_,none⟩) G];exact h
 have b0:((n:Int)==0)=false:=beq_eq_false_iff_ne.2 (by omega);have t1:(J:Int).tmod (n:Int)=(r:Int):=congrArg Int.ofNat z;have t2:(J:Int)%(n:Int)=(r:Int):=congrArg Int.ofNat z;have P:Hid (∀(x:Int) W,Calls prog 11 #[.int .i64 x,.int .i64 m] W fun e w'=>e = .returned (.int .i64 (C4 x m))/\W=w'):=fun x W=>Ds x m W (by omega) (by unfold maxLen;omega);have B:Hid (∀x:Int,C4 x m<m):=fun x=>Dr x m (by omega);have X:(r:Int)<(n:Int):=(by omega);have Y:(0:Int)<=(r:Int):=(by omega);clear a h L j g u q z K s H
 go_in
 go_upto_region 4 with fail
 go_quiet ((go_at_call 11;exact Kl (P.out _ _)));go_wp2;go_ret;exact⟨_,by have:=B.out;exact Int.ofNat_lt.2 (this _),rfl,(w.out _).1,(w.out _).2⟩
theorem As (k:Int) (nm:ByteArray) (a:Option Addr) (c b:Nat) (W:World):Calls prog 38 #[.int .i64 k,.string nm,.slice a c b] W fun e d=>e = .returned (.agg #[.int .i64 k,.string nm,.float .f64 0,.slice a c b,.complex .f64 0 0])/\Below W.heap.size W d:=by
 go_in
 go_wp2;refine bodyPost_ret (v:=.agg #[.int .i64 k,.string nm,.float .f64 0,.slice a c b,.complex .f64 0 0]) (by simp[results,results38,go_sem]) rfl ⟨rfl,(aD _ _).alloc (aG _) _⟩
theorem ES (x:Nat) (W:World):Calls prog 62 #[.float .f64 x] W fun e a=>e = .returned (.agg #[.int .i64 1,.string ⟨#[]⟩,.float .f64 x,.slice none 0 0,.complex .f64 0 0])/\Below W.heap.size W a:=by
 go_in
 go_wp2;refine bodyPost_ret (v:=.agg #[.int .i64 1,.string ⟨#[]⟩,.float .f64 x,.slice none 0 0,.complex .f64 0 0]) (by simp[results,results62,go_sem]) rfl ⟨rfl,(aD _ _).alloc (aG _) _⟩
end Go.Proofs.YtipfpohlnhmlpaaGreatDoor
namespace Go
def Du:List (List UInt8):=[[120],[121],[110],[115]]
def DR:List (List UInt8):=[[78,82],[78,70],[70,83],[79,70,83],[79,82,83],[82,83],[78,79,87],[71,65,80,83],[82,83,84,65,82,84],[82,76,69,78,71,84,72],[83,85,66,83,69,80]]
def BF:List (List UInt8):=[[97],[94,98],[91,48,45,57,93,43],[97,124,98,98],[120,42],[98,36],[40,97,98,41,43],[46]]
def Lj:List (List UInt8):=[[],[97],[97,98],[49,48],[32,50,32],[45,49],[58],[98,49,97],[37,100,124,37,115,124,37,53,46,49,102]]
def CY:List (List UInt8):=[[43],[45],[42],[47],[37],[94]]
def BA:List (List UInt8):=[[60],[60,61],[61,61],[33,61],[62],[62,61]]
def Dl:List (List UInt8):=[[61],[61],[61],[43,61],[45,61],[42,61],[47,61]]
def Fv:List Nat:=[0,4607182418800017408,4611686018427387904,4613937818241073152,4621819117588971520,4602678819172646912,4636737291354636288,4619567317775286272]
end Go
namespace Go.Proofs.YtipfpohlnhmlpaaGreatDoor
open Go.RowKit
structure Ce (w:World):Prop where
 scalars:∀i,i<4->w.cell? ⟨7,i,none⟩=some (.string ⟨(Du.getD i []).toArray⟩)
 specials:∀i,i<11->w.cell? ⟨8,i,none⟩=some (.string ⟨(DR.getD i []).toArray⟩)
 regexes:∀i,i<8->w.cell? ⟨3,i,none⟩=some (.string ⟨(BF.getD i []).toArray⟩)
 texts:∀i,i<9->w.cell? ⟨5,i,none⟩=some (.string ⟨(Lj.getD i []).toArray⟩)
 signs:∀i,i<6->w.cell? ⟨2,i,none⟩=some (.string ⟨(CY.getD i []).toArray⟩)
 compares:∀i,i<6->w.cell? ⟨1,i,none⟩=some (.string ⟨(BA.getD i []).toArray⟩)
 assigns:∀i,i<7->w.cell? ⟨0,i,none⟩=some (.string ⟨(Dl.getD i []).toArray⟩)
 numbers:∀i,i<8->w.cell? ⟨4,i,none⟩=some (.float .f64 (Fv.getD i 0))
theorem Ce.below {w w':World} (h:Ce w) (d:Below w.heap.size w w'):Ce w':=by
 have keep:∀(a:Addr) (v:Value),w.cell? a=some v->w'.cell? a=some v:=fun a v c=>by
  rw[d.cell (aL w a c)];exact c
 exact⟨fun i b=>keep _ _ (h.scalars i b),fun i b=>keep _ _ (h.specials i b),fun i b=>keep _ _ (h.regexes i b),fun i b=>keep _ _ (h.texts i b),fun i b=>keep _ _ (h.signs i b),fun i b=>keep _ _ (h.compares i b),fun i b=>keep _ _ (h.assigns i b),fun i b=>keep _ _ (h.numbers i b)⟩
end Go.Proofs.YtipfpohlnhmlpaaGreatDoor
namespace Go
def Kj:List Nat:=[0,4607182418800017408,4611686018427387904,4613937818241073152,4616189618054758400,4617315517961601024,4618441417868443648,4619567317775286272,4620693217682128896,4621819117588971520,4602678819172646912,4636737291354636288]
def A0 (k:Int) (nm:List UInt8) (x:Nat):Prop:=nm.length<=24/\(k=3->nm∈BF)/\x∈Kj
theorem BN (k:Int) (nm:List UInt8) (a:k≠3) (h:nm.length<=24):A0 k nm 0:=⟨h,fun e=>absurd e a,by decide⟩
theorem DM (L:List (List UInt8)) (h:L.all (fun s=>decide (s.length<=24))=true) (i:Nat):(L.getD i []).length<=24:=by
 rw[aJ]
 cases a:L[i]? with
 | none=>simp
 | some s=>simpa using aR.1 h s (aO a)
theorem L5 {a:Type} (L:List a) (d:a) (i:Nat) (h:i<L.length):L.getD i d∈L:=by
 rw[aJ,aK h];exact aS h
def V3 (a:World) (l:Cp) (b:Nat) (W:World) (I:Nat) (e:Ending) (w':World):Prop :=
 ∃nm:List UInt8,nm.length<=24/\e = .returned (.string ⟨nm.toArray⟩)/\CH a l b I w'/\Ae b W w'
end Go
namespace Go.Proofs.YtipfpohlnhmlpaaGreatDoor
open Go.Proofs.Tryz
open Go.RowKit
theorem BJ (j:World) (l:Cp) (b I:Nat) (W:World) (s:CH j l b I W) (J:I+10<=1099511627776) (o:l.n<=9223372036854775807) :
  Calls prog 58 #[.pointer (some ⟨b,0,none⟩)] W (V3 j l b W (I+2)):=by
 have r:=aA s;obtain⟨i,D,h⟩:=s;obtain⟨x,y,f,C⟩:=h.c;obtain⟨u,v,w,G,z,A⟩:=C;clear h u v w z A D
 cases f with
 | false =>
   go_in
   go_wp2_with fail
   (go_at_call 35;refine(Ar j l b I 2 _ r.out (by omega) (by omega) (by omega) o).mono ?_;rintro e F ⟨q,E,rfl,d,a⟩)
   by_cases B:q=0
   ·have m:((q:Int)==0)=true:=beq_iff_eq.2 (by omega)
    go_wp2;go_ret;exact⟨[97],by decide,rfl,d.mono (by omega),a⟩
   have m:((q:Int)==0)=false:=beq_eq_false_iff_ne.2 (by omega);go_wp2;go_ret;exact⟨[98],by decide,rfl,d.mono (by omega),a⟩
 | true =>
   go_in
   go_wp2_with fail
   (go_at_call 35;refine(Ar j l b I 3 _ r.out (by omega) (by omega) (by omega) o).mono ?_;rintro e F ⟨q,E,rfl,d,a⟩)
   by_cases B:q=0
   ·have m:((q:Int)==0)=true:=beq_iff_eq.2 (by omega)
    go_wp2;go_ret;exact⟨[113],by decide,rfl,d.mono (by omega),a⟩
   have m:((q:Int)==0)=false:=beq_eq_false_iff_ne.2 (by omega);have k:=aA d;have g:=aA a;clear d a
   go_wp2_with fail
   (go_at_call 35;refine(Ar j l b (I+1) 2 _ k.out (by omega) (by omega) (by omega) o).mono ?_;rintro e L ⟨p,K,rfl,d,a⟩)
   by_cases H:p=0
   ·have t:((p:Int)==0)=true:=beq_iff_eq.2 (by omega)
    go_wp2;go_ret;exact⟨[97],by decide,rfl,d.mono (by omega),g.out.trans a⟩
   have t:((p:Int)==0)=false:=beq_eq_false_iff_ne.2 (by omega);go_wp2;go_ret;exact⟨[98],by decide,rfl,d.mono (by omega),g.out.trans a⟩
end Go.Proofs.YtipfpohlnhmlpaaGreatDoor
namespace Go
open Go.RowKit
theorem AE {a W:World} {l:Cp} {b I:Nat} (h:CH a l b I W):Below a.heap.size a W:=by obtain⟨i,_,h⟩:=h;exact h.below
theorem Ff.more {T:TypeId} {P:Int->List UInt8->Nat->Prop} {a:World} {l:Cp} {b:Nat} {W:World} {I c d:Nat} {e:Ending} {w':World} (h:Ff T P a l b W I c e w') (q:c<=d):Ff T P a l b W I d e w':=by
 obtain⟨k,nm,x,m,o,n,ks,rfl,f,g,p,i,j⟩:=h;exact⟨k,nm,x,m,o,n,ks,rfl,f,g,by omega,i.mono (by omega),j⟩
theorem T0 (i:Nat) (h:i<8):Fv.getD i 0∈Kj:=by
 have:∀i:Fin 8,Fv.getD i.1 0∈Kj:=(by decide);exact this ⟨i,h⟩
theorem Gp (i:Nat) (h:i<9):floatOfInt .f64 (i:Int)∈Kj:=by
 have:∀i:Fin 9,floatOfInt .f64 (i.1:Int)∈Kj:=(by decide +kernel);exact this ⟨i,h⟩
end Go
namespace Go.Proofs.YtipfpohlnhmlpaaGreatDoor
open Go.Proofs.Tryz
open Go.RowKit
theorem Gb (h:World) (l:Cp) (b I:Nat) (W:World) (H:CH h l b I W) (G:Ce h) (hI:I+10<=1099511627776) (u:l.n<=9223372036854775807) :
  Calls prog 63 #[.pointer (some ⟨b,0,none⟩)] W (V3 h l b W (I+3)):=by
 have F:=aA H;have J:=aA (Ae.refl b W);have w:=aA G;obtain⟨i,S,v⟩:=H;obtain⟨x,y,f,R⟩:=v.c;obtain⟨K,L,M,Y,N,O⟩:=R;clear v K L M N O S G
 cases f with
 | false =>
   go_in
   go_wp2_with fail
   (go_at_call 35;refine(Ar h l b I 12 _ F.out (by omega) (by omega) (by omega) u).mono ?_;rintro e V ⟨q,T,rfl,a,d⟩)
   have j:=aA a;have m:=aA (J.out.trans d);clear a d;by_cases Q:q=0
   ·have z:((q:Int)==0)=true:=beq_iff_eq.2 (by omega)
    go_wp2_with fail
    (go_at_call 35;refine(Ar h l b _ 11 _ j.out (by omega) (by omega) (by omega) u).mono ?_;rintro e B ⟨r,A,rfl,a,d⟩)
    have t:=(w.out.below (AE a)).specials r (by omega);have g:=DM DR (by decide) r;generalize DR.getD r []=nm at t g;have s:=aA g;clear g;go_wp2;go_ret;exact⟨nm,s.out,rfl,a.mono (by omega),m.out.trans d⟩
   have z:((q:Int)==0)=false:=beq_eq_false_iff_ne.2 (by omega)
   go_wp2_with fail
   (go_at_call 35;refine(Ar h l b _ 4 _ j.out (by omega) (by omega) (by omega) u).mono ?_;rintro e B ⟨r,A,rfl,a,d⟩)
   have t:=(w.out.below (AE a)).scalars r (by omega);have g:=DM Du (by decide) r;generalize Du.getD r []=nm at t g;have s:=aA g;clear g;go_wp2;go_ret;exact⟨nm,s.out,rfl,a.mono (by omega),m.out.trans d⟩
 | true =>
   go_in
   go_wp2_with fail
   (go_at_call 35;refine(Ar h l b I 2 _ F.out (by omega) (by omega) (by omega) u).mono ?_;rintro e U ⟨p,hp,rfl,a,d⟩)
   have D:=aA a;have E:=aA d;clear a d;by_cases Z:p=0
   ·have P:((p:Int)==0)=true:=beq_iff_eq.2 (by omega)
    go_wp2;go_ret;exact⟨[112],by decide,rfl,D.out.mono (by omega),E.out⟩
   have P:((p:Int)==0)=false:=beq_eq_false_iff_ne.2 (by omega)
   go_wp2_with fail
   (go_at_call 35;refine(Ar h l b _ 12 _ D.out (by omega) (by omega) (by omega) u).mono ?_;rintro e X ⟨q,T,rfl,a,d⟩)
   have k:=aA a;have o:=aA (E.out.trans d);clear a d;by_cases Q:q=0
   ·have z:((q:Int)==0)=true:=beq_iff_eq.2 (by omega)
    go_wp2_with fail
    (go_at_call 35;refine(Ar h l b _ 11 _ k.out (by omega) (by omega) (by omega) u).mono ?_;rintro e C ⟨r,A,rfl,a,d⟩)
    have t:=(w.out.below (AE a)).specials r (by omega);have g:=DM DR (by decide) r;generalize DR.getD r []=nm at t g;have s:=aA g;clear g;go_wp2;go_ret;exact⟨nm,s.out,rfl,a.mono (by omega),o.out.trans d⟩
   have z:((q:Int)==0)=false:=beq_eq_false_iff_ne.2 (by omega)
   go_wp2_with fail
   (go_at_call 35;refine(Ar h l b _ 4 _ k.out (by omega) (by omega) (by omega) u).mono ?_;rintro e C ⟨r,A,rfl,a,d⟩)
   have t:=(w.out.below (AE a)).scalars r (by omega);have g:=DM Du (by decide) r;generalize Du.getD r []=nm at t g;have s:=aA g;clear g;go_wp2;go_ret;exact⟨nm,s.out,rfl,a.mono (by omega),o.out.trans d⟩
theorem Br (t:World) (l:Cp) (b I:Nat) (W:World) (hS:CH t l b I W) (hM:Ce t) (hI:I+20<=1099511627776) (C:l.n<=9223372036854775807) :
  Calls prog 39 #[.pointer (some ⟨b,0,none⟩)] W (Ff 60 A0 t l b W I 6):=by
 have E:=aA (Fr.start (T:=60) (P:=A0) 60 hS);have R:=aA hM;clear hS hM
 go_in
 go_wp2_with fail
 (go_at_call 35;refine(Ar t l b _ 6 _ E.out.s (by omega) (by omega) (by omega) C).mono ?_;rintro e w1 ⟨q,hq,rfl,j,i⟩)
 have f:=aA (E.out.step (d:=1) j i);clear j i;by_cases a0:q=0
 ·have b0:((q:Int)==0)=true:=beq_iff_eq.2 (by omega)
  go_wp2_with fail
  (go_at_call 35;refine(Ar t l b _ 8 _ f.out.s (by omega) (by omega) (by omega) C).mono ?_;rintro e O ⟨r,V,rfl,j,i⟩)
  have c:=aA (f.out.step (d:=1) j i);clear j i;have S:=(R.out.below (AE c.out.s)).numbers r (by omega);have X:=T0 r (by omega);generalize Fv.getD r 0=x at S X;have F:=aA X;clear X
  go_wp2_with fail
  (go_at_call 62;refine(ES x _).mono ?_;rintro e D ⟨rfl,g⟩)
  have a:=aA (c.out.leaf (k:=1) (nm:=[]) (x:=x) ⟨by decide,fun e=>absurd e (by decide),F.out⟩ g);clear g;have v:=a.out.r;obtain⟨J,K,L,M,N,rf⟩:=v;go_wp2;obtain⟨Z,m,u,h⟩:=a.out.out;rw[<- m];obtain⟨w,y,z,A,B,Q⟩:=u;clear m;exact bodyPost_ret (by simp[results,results39,go_sem,w,y,z,A,B]<;>exact rfl) rfl (h.more (by omega))
 have b0:((q:Int)==0)=false:=beq_eq_false_iff_ne.2 (by omega);by_cases c0:q=1
 ·have b1:((q:Int)==1)=true:=beq_iff_eq.2 (by omega)
  go_wp2_with fail
  (go_at_call 35;refine(Ar t l b _ 9 _ f.out.s (by omega) (by omega) (by omega) C).mono ?_;rintro e O ⟨r,V,rfl,j,i⟩)
  have c:=aA (f.out.step (d:=1) j i);clear j i;have S:=(R.out.below (AE c.out.s)).texts r (by omega);have U:=DM Lj (by decide) r;generalize Lj.getD r []=nm at S U;have p:=aA U;clear U
  go_wp2_with fail
  (go_at_call 38;refine(As 2 ⟨(nm:List UInt8).toArray⟩ none 0 0 _).mono ?_;rintro e D ⟨rfl,g⟩)
  have a:=aA (c.out.leaf (k:=2) (nm:=nm) (x:=0) (BN 2 nm (by decide) p.out) g);clear g;have v:=a.out.r;obtain⟨J,K,L,M,N,rf⟩:=v;go_wp2;obtain⟨Z,m,u,h⟩:=a.out.out;rw[<- m];obtain⟨w,y,z,A,B,Q⟩:=u;clear m;exact bodyPost_ret (by simp[results,results39,go_sem,w,y,z,A,B]<;>exact rfl) rfl (h.more (by omega))
 have b1:((q:Int)==1)=false:=beq_eq_false_iff_ne.2 (by omega);by_cases d0:q=2
 ·have b2:((q:Int)==2)=true:=beq_iff_eq.2 (by omega)
  go_wp2_with fail
  (go_at_call 35;refine(Ar t l b _ 4 _ f.out.s (by omega) (by omega) (by omega) C).mono ?_;rintro e O ⟨r,V,rfl,j,i⟩)
  have c:=aA (f.out.step (d:=1) j i);clear j i;have F:=aA (Gp r (by omega))
  go_wp2_with fail
  (go_at_call 62;refine(ES (floatOfInt .f64 (r:Int)) _).mono ?_;rintro e D ⟨rfl,g⟩)
  have a:=aA (c.out.leaf (k:=1) (nm:=[]) (x:=(floatOfInt .f64 (r:Int))) ⟨by decide,fun e=>absurd e (by decide),F.out⟩ g);clear g
  go_wp2_with fail
  (go_at_call 38;refine(As 6 ⟨([]:List UInt8).toArray⟩ _ _ _ _).mono ?_;rintro e Y ⟨rfl,g⟩)
  have G:=a.out.join (L1:=[]) (L2:=[(Tr.mk 1 [] ((floatOfInt .f64 (r:Int))) (0,0) [],aB none 0 0)]) (cap:=1) (k:=6) (nm:=[]) (x:=0) (BN 6 [] (by decide) (by decide)) g;have o:Hid (Fr 60 A0 t l b W I _ [(Tr.mk 6 [] 0 (0,0) [Tr.mk 1 [] ((floatOfInt .f64 (r:Int))) (0,0) []],aB (some ⟨D.heap.size,0,none⟩) 1 1)] Y none 0 (.slice none 0 0)):=G;clear g G;have v:=o.out.r;obtain⟨J,K,L,M,N,rf⟩:=v;go_wp2;obtain⟨Z,m,u,h⟩:=o.out.out;rw[<- m];obtain⟨w,y,z,A,B,Q⟩:=u;clear m;exact bodyPost_ret (by simp[results,results39,go_sem,w,y,z,A,B]<;>exact rfl) rfl (h.more (by omega))
 have b2:((q:Int)==2)=false:=beq_eq_false_iff_ne.2 (by omega);by_cases e0:q=3
 ·have b3:((q:Int)==3)=true:=beq_iff_eq.2 (by omega)
  go_wp2_with fail
  (go_at_call 35;refine(Ar t l b _ 3 _ f.out.s (by omega) (by omega) (by omega) C).mono ?_;rintro e O ⟨r,V,rfl,j,i⟩)
  have c:=aA (f.out.step (d:=1) j i);clear j i;have F:=aA (Gp r (by omega))
  go_wp2_with fail
  (go_at_call 62;refine(ES (floatOfInt .f64 (r:Int)) _).mono ?_;rintro e D ⟨rfl,g⟩)
  have a:=aA (c.out.leaf (k:=1) (nm:=[]) (x:=(floatOfInt .f64 (r:Int))) ⟨by decide,fun e=>absurd e (by decide),F.out⟩ g);clear g
  go_wp2_with fail
  (go_at_call 38;refine(As 6 ⟨([]:List UInt8).toArray⟩ _ _ _ _).mono ?_;rintro e Y ⟨rfl,g⟩)
  have G:=a.out.join (L1:=[]) (L2:=[(Tr.mk 1 [] ((floatOfInt .f64 (r:Int))) (0,0) [],aB none 0 0)]) (cap:=1) (k:=6) (nm:=[]) (x:=0) (BN 6 [] (by decide) (by decide)) g;have o:Hid (Fr 60 A0 t l b W I _ [(Tr.mk 6 [] 0 (0,0) [Tr.mk 1 [] ((floatOfInt .f64 (r:Int))) (0,0) []],aB (some ⟨D.heap.size,0,none⟩) 1 1)] Y none 0 (.slice none 0 0)):=G;clear g G;have v:=o.out.r;obtain⟨J,K,L,M,N,rf⟩:=v;go_wp2;obtain⟨Z,m,u,h⟩:=o.out.out;rw[<- m];obtain⟨w,y,z,A,B,Q⟩:=u;clear m;exact bodyPost_ret (by simp[results,results39,go_sem,w,y,z,A,B]<;>exact rfl) rfl (h.more (by omega))
 have b3:((q:Int)==3)=false:=beq_eq_false_iff_ne.2 (by omega)
 go_wp2_with fail
 (go_at_call 63;refine(Gb t l b _ _ f.out.s R.out (by omega) C).mono ?_;rintro e O ⟨nm,H,rfl,j,i⟩)
 have c:=aA (f.out.step (d:=3) j i);have p:=aA H;clear j i H
 go_wp2_with fail
 (go_at_call 38;refine(As 4 ⟨(nm:List UInt8).toArray⟩ none 0 0 _).mono ?_;rintro e D ⟨rfl,g⟩)
 have a:=aA (c.out.leaf (k:=4) (nm:=nm) (x:=0) (BN 4 nm (by decide) p.out) g);clear g;have v:=a.out.r;obtain⟨J,K,L,M,N,rf⟩:=v;go_wp2;obtain⟨Z,m,u,h⟩:=a.out.out;rw[<- m];obtain⟨w,y,z,A,B,Q⟩:=u;clear m;exact bodyPost_ret (by simp[results,results39,go_sem,w,y,z,A,B]<;>exact rfl) rfl (h.more (by omega))
end Go.Proofs.YtipfpohlnhmlpaaGreatDoor
namespace Go
open Go.RowKit
theorem CO {w:World} {B:Nat} {e:TypeId} {k n:Nat} {v:Value} {x:List Value} (h:w.ownsRow B e k v n x):∃a f c,v = .slice a f c:=by
 rcases h.2 with⟨rfl,_⟩ | ⟨g,b,d,rfl,_⟩
 ·exact⟨_,_,_,rfl⟩
 exact⟨_,_,_,rfl⟩
theorem CE (W:World) (L:List Value) (T:TypeId):∀j u,L[j]?=some u->(W.alloc (.cells L.toArray T)).cell? ((⟨W.heap.size,0,none⟩:Addr).add j)=some u:=by
 intro j u h;rw[Addr.add_lit,aH _ _ _ _ rfl];simpa using h
theorem B7 (t:Tr) (a:Option Addr) (n c:Nat):∀u∈Ah [(t,.slice a n c)],u.oneCell'=true:=by
 intro u b;simp only[Ah,List.flatMap_cons,List.flatMap_nil,aN,List.mem_cons,List.not_mem_nil,or_false] at b;rcases b with rfl | rfl | rfl | rfl | rfl<;>rfl
theorem DA.made {T:TypeId} {P:Int->List UInt8->Nat->Prop} {m W a:World} {l:Cp} {b I c:Nat} {L1 R:List (Tr×Value)} {g:Int} {i:Value} (h:Fr T P m l b W I c (L1++R) a none g i) (n:R.length<=1000) :
  DA T P m l b W I c L1 R [] (.slice (some ⟨a.heap.size,0,none⟩) R.length R.length) (a.alloc (.cells (Ah R).toArray T)) g i:=by
 have d:(Ah R).length=R.length*5:=by
  clear h n
  induction R with
  | nil=>rfl
  | cons p R u=>rw[D0];simp[u];omega
 refine⟨?_,d,.inr ⟨a.heap.size,R.length,_,rfl,by have:=h.size;omega,heap_alloc_new a _,aG _,by unfold maxLen;omega,by simpa using d,by rw[<- d];simp⟩⟩;rw[aN];have ha:=h.alloc (.cells (Ah R).toArray T);refine⟨ha.s,ha.o,ha.hbW,ha.r,fun p f=>⟨?_,(ha.k p f).2⟩,ha.wt⟩;have t:=(h.k p f).1.mono (S':=fun j=>W.heap.size+1<=j/\some j≠(aB (some ⟨a.heap.size,0,none⟩) R.length R.length).ownBlock) fun j v q=>⟨q.1,by simp only[Value.ownBlock];intro e;injection e with e;omega⟩;exact t.bel ((aD _ _).alloc (aG _) _)
end Go
namespace Go.Proofs.YtipfpohlnhmlpaaGreatDoor
open Go.Proofs.Tryz
open Go.RowKit
theorem A.infoNd:(prog.info? 60).map (fun i=>(i.zero,i.size,i.bytes))=some (some (.agg #[.int .i64 0,.string ⟨#[]⟩,.float .f64 0,.slice none 0 0,.complex .f64 0 0]),5,72):=by kernel_rfl
def MW (a:World) (l:Cp) (b n c:Nat):Prop:=∀(d:Int) (I:Nat) (W:World),d<=n -> -1<=d->CH a l b I W->I+c+1000<=1099511627776 ->
 Calls prog 36 #[.pointer (some ⟨b,0,none⟩),.int .i64 d] W (Ff 60 A0 a l b W I c)
theorem DY (i:World) (l:Cp) (b I:Nat) (W:World) (O:CH i l b I W) (N:Ce i) (z:l.n<=9223372036854775807) (hI:I+100<=1099511627776) :
  Calls prog 59 #[.pointer (some ⟨b,0,none⟩)] W (Ff 60 A0 i l b W I (8)):=by
 have j:=aA (Fr.start (T:=60) (P:=A0) 60 O);have G:=aA N;clear O N
 go_in
 go_wp2_with fail
 (go_at_call 35;refine(Ar i l b _ 4 _ j.out.s (by omega) (by omega) (by omega) z).mono ?_;rintro e w1 ⟨q,hq,rfl,u,t⟩)
 have c:=aA (j.out.step (d:=1) u t);clear u t;by_cases U:q=0
 ·have R:((q:Int)==0)=true:=beq_iff_eq.2 (by omega)
  go_wp2_with fail
  (go_at_call 39;refine(Br i l b _ _ c.out.s G.out (by omega) z).mono ?_;rintro e w2 ⟨ke,ne,xe,ae,le,ce,se,rfl,H,J,K,L,M⟩)
  have a:=aA (c.out.node (fun _ h=>by cases h) H J K L M);clear H J K L M;have A:=a.out.r;obtain⟨V,X,Y,r3,r4,rf⟩:=A;go_wp2;obtain⟨Z,p,w,f⟩:=a.out.out;rw[<- p];obtain⟨B,C,D,E,F,zf⟩:=w;clear p;exact bodyPost_ret (by simp[results,results59,go_sem,B,C,D,E,F]<;>exact rfl) rfl (f.more (by omega))
 have R:((q:Int)==0)=false:=beq_eq_false_iff_ne.2 (by omega)
 go_wp2_with fail
 (go_at_call 35;refine(Ar i l b _ 8 _ c.out.s (by omega) (by omega) (by omega) z).mono ?_;rintro e w2 ⟨r,hr,rfl,u,t⟩)
 have a:=aA (c.out.step (d:=1) u t);clear u t;have S:=(G.out.below (AE a.out.s)).regexes r (by omega);have g:=L5 BF [] r (by have:BF.length=8:=rfl;omega);have y:=DM BF (by decide) r;generalize BF.getD r []=nm at S y g;have v:=aA g;clear g;have o:=aA y;clear y
 go_wp2_with fail
 (go_at_call 38;refine(As 3 ⟨(nm:List UInt8).toArray⟩ none 0 0 _).mono ?_;rintro e w3 ⟨rfl,Q⟩)
 have m:=aA (a.out.leaf (k:=3) (nm:=nm) (x:=0) ⟨o.out,fun _=>v.out,by decide⟩ Q);clear Q;have A:=m.out.r;obtain⟨V,X,Y,r3,r4,rf⟩:=A;go_wp2;obtain⟨Z,p,w,f⟩:=m.out.out;rw[<- p];obtain⟨B,C,D,E,F,zf⟩:=w;clear p;exact bodyPost_ret (by simp[results,results59,go_sem,B,C,D,E,F]<;>exact rfl) rfl (f.more (by omega))
theorem D8 (t:World) (l:Cp) (b I:Nat) (W:World) (hS:CH t l b I W) (hM:Ce t) (N:l.n<=9223372036854775807) (n c:Nat) (d:Int) (h0:0<=d) (z:d<=n+1) (hd:d<=1000) (hI:I+c+1100<=1099511627776) (hE:MW t l b n c) :
  Calls prog 57 #[.pointer (some ⟨b,0,none⟩),.int .i64 d] W (Ff 60 A0 t l b W I (c+20)):=by
 have c0:=aA (Fr.start (T:=60) (P:=A0) 60 hS);have HM:=aA hM;have HE:=aA hE;clear hE;obtain⟨i0,e0,f0,g0,j0⟩:=info_parts A.infoNd;clear hS hM
 go_in
 go_wp2_with fail
 (go_at_call 35;refine(Ar t l b _ 6 _ c0.out.s (by omega) (by omega) (by omega) N).mono ?_;rintro e w1 ⟨q,hq,rfl,o,m⟩)
 have u:=aA (c0.out.step (d:=1) o m);clear o m;by_cases o0:q=0
 ·have b0:((q:Int)==0)=true:=beq_iff_eq.2 (by omega)
  go_wp2_with fail
  (go_at_call 36;refine(HE.out (d-1) _ _ (by omega) (by omega) u.out.s (by omega)).mono ?_;rintro e w2 ⟨Y,ne,xe,ae,le,ce,se,rfl,z,B,C,D,E⟩)
  have y:=aA (u.out.node (fun _ h=>by cases h) z B C D E);clear z B C D E;have K:Hid (DA 60 A0 t l b W I _ [] [(Tr.mk Y ne xe (0,0) se,aB ae le ce)] [] (.slice (some ⟨w2.heap.size,0,none⟩) 1 1) _ 0 (.slice none 0 0)):=DA.made (L1:=[]) (R:=[(Tr.mk Y ne xe (0,0) se,aB ae le ce)]) y.out (by simp)
  go_wp2_with fail
  (go_at_call 35;refine(Ar t l b _ 5 _ K.out.f.s (by omega) (by omega) (by omega) N).mono ?_;rintro e w3 ⟨r,hr,rfl,o,m⟩)
  have p:=aA (K.out.step (d:=1) o m);clear o m;by_cases k0:r=0
  ·have d0:((r:Int)==0)=true:=beq_iff_eq.2 (by omega)
   go_wp2_with fail
   (go_at_call 39;refine(Br t l b _ _ p.out.f.s HM.out (by omega) N).mono ?_;rintro e w4 ⟨kf,nf,xf,af,lf,cf,sf,rfl,z,B,C,D,E⟩)
   have i:=aA (p.out.node z B C D E);clear z B C D E
   go_wp2_with (at_builtin;refine Bg _ rfl (.tmp 19) (.tmp 22) 58 rfl (W.heap.size+1) 60 i0 _ 5 72 underlying58 e0 f0 g0 j0 rfl (by decide) _ _ _ rfl (i.out.alloc _).row ⟨w4.heap.size,0,none⟩ 1 1 (Ah [(Tr.mk kf nf xf (0,0) sf,aB af lf cf)]) rfl rfl (CE _ _ _) (B7 _ _ _ _) (by unfold maxLen;simp<;>omega) (by simp<;>omega) (by have:=i.out.f.size;simp<;>omega) (by decide) ?_;intro v5 w5 o1 o2 o3;have hg:=i.out.grow o1 o2 o3;obtain⟨l0,n0,m0,rfl⟩:=CO hg.row;have L:=aA hg;clear o1 o2 o3 hg)
   go_wp2_with fail
   (go_at_call 58;refine(BJ t l b _ _ L.out.f.s (by omega) N).mono ?_;rintro e w6 ⟨nm,g,rfl,o,m⟩)
   have a0:=aA (L.out.step (d:=2) o m);have a:=aA g;clear o m g
   go_wp2_with fail
   (go_at_call 38;refine(As 5 ⟨(nm:List UInt8).toArray⟩ _ _ _ _).mono ?_;rintro e w7 ⟨rfl,w⟩)
   have F:=a0.out.join (k:=5) (nm:=nm) (x:=0) (BN 5 nm (by decide) a.out) w;have J:=aA F;clear w F;have O:=J.out.r;obtain⟨r0,r1,r2,r3,r4,rf⟩:=O;go_wp2;obtain⟨Z,v,M,j⟩:=J.out.out;rw[<- v];obtain⟨Q,S,U,V,X,zf⟩:=M;clear v;exact bodyPost_ret (by simp[results,results57,go_sem,Q,S,U,V,X]<;>exact rfl) rfl (j.more (by omega))
  have d0:((r:Int)==0)=false:=beq_eq_false_iff_ne.2 (by omega)
  go_wp2_with fail
  (go_at_call 58;refine(BJ t l b _ _ p.out.f.s (by omega) N).mono ?_;rintro e w4 ⟨nm,g,rfl,o,m⟩)
  have i:=aA (p.out.step (d:=2) o m);have a:=aA g;clear o m g
  go_wp2_with fail
  (go_at_call 38;refine(As 5 ⟨(nm:List UInt8).toArray⟩ _ _ _ _).mono ?_;rintro e w5 ⟨rfl,w⟩)
  have F:=i.out.join (k:=5) (nm:=nm) (x:=0) (BN 5 nm (by decide) a.out) w;have H:=aA F;clear w F;have O:=H.out.r;obtain⟨r0,r1,r2,r3,r4,rf⟩:=O;go_wp2;obtain⟨Z,v,M,j⟩:=H.out.out;rw[<- v];obtain⟨Q,S,U,V,X,zf⟩:=M;clear v;exact bodyPost_ret (by simp[results,results57,go_sem,Q,S,U,V,X]<;>exact rfl) rfl (j.more (by omega))
 have b0:((q:Int)==0)=false:=beq_eq_false_iff_ne.2 (by omega);by_cases p0:q=1
 ·have b1:((q:Int)==1)=true:=beq_iff_eq.2 (by omega)
  go_wp2_with fail
  (go_at_call 36;refine(HE.out (d-1) _ _ (by omega) (by omega) u.out.s (by omega)).mono ?_;rintro e w2 ⟨Y,ne,xe,ae,le,ce,se,rfl,z,B,C,D,E⟩)
  have y:=aA (u.out.node (fun _ h=>by cases h) z B C D E);clear z B C D E;have K:Hid (DA 60 A0 t l b W I _ [] [(Tr.mk Y ne xe (0,0) se,aB ae le ce)] [] (.slice (some ⟨w2.heap.size,0,none⟩) 1 1) _ 0 (.slice none 0 0)):=DA.made (L1:=[]) (R:=[(Tr.mk Y ne xe (0,0) se,aB ae le ce)]) y.out (by simp)
  go_wp2_with fail
  (go_at_call 35;refine(Ar t l b _ 5 _ K.out.f.s (by omega) (by omega) (by omega) N).mono ?_;rintro e w3 ⟨r,hr,rfl,o,m⟩)
  have p:=aA (K.out.step (d:=1) o m);clear o m;by_cases k0:r=0
  ·have d0:((r:Int)==0)=true:=beq_iff_eq.2 (by omega)
   go_wp2_with fail
   (go_at_call 39;refine(Br t l b _ _ p.out.f.s HM.out (by omega) N).mono ?_;rintro e w4 ⟨kf,nf,xf,af,lf,cf,sf,rfl,z,B,C,D,E⟩)
   have i:=aA (p.out.node z B C D E);clear z B C D E
   go_wp2_with (at_builtin;refine Bg _ rfl (.tmp 19) (.tmp 22) 58 rfl (W.heap.size+1) 60 i0 _ 5 72 underlying58 e0 f0 g0 j0 rfl (by decide) _ _ _ rfl (i.out.alloc _).row ⟨w4.heap.size,0,none⟩ 1 1 (Ah [(Tr.mk kf nf xf (0,0) sf,aB af lf cf)]) rfl rfl (CE _ _ _) (B7 _ _ _ _) (by unfold maxLen;simp<;>omega) (by simp<;>omega) (by have:=i.out.f.size;simp<;>omega) (by decide) ?_;intro v5 w5 o1 o2 o3;have hg:=i.out.grow o1 o2 o3;obtain⟨l0,n0,m0,rfl⟩:=CO hg.row;have L:=aA hg;clear o1 o2 o3 hg)
   go_wp2_with fail
   (go_at_call 58;refine(BJ t l b _ _ L.out.f.s (by omega) N).mono ?_;rintro e w6 ⟨nm,g,rfl,o,m⟩)
   have a0:=aA (L.out.step (d:=2) o m);have a:=aA g;clear o m g
   go_wp2_with fail
   (go_at_call 38;refine(As 5 ⟨(nm:List UInt8).toArray⟩ _ _ _ _).mono ?_;rintro e w7 ⟨rfl,w⟩)
   have F:=a0.out.join (k:=5) (nm:=nm) (x:=0) (BN 5 nm (by decide) a.out) w;have J:=aA F;clear w F;have O:=J.out.r;obtain⟨r0,r1,r2,r3,r4,rf⟩:=O;go_wp2;obtain⟨Z,v,M,j⟩:=J.out.out;rw[<- v];obtain⟨Q,S,U,V,X,zf⟩:=M;clear v;exact bodyPost_ret (by simp[results,results57,go_sem,Q,S,U,V,X]<;>exact rfl) rfl (j.more (by omega))
  have d0:((r:Int)==0)=false:=beq_eq_false_iff_ne.2 (by omega)
  go_wp2_with fail
  (go_at_call 58;refine(BJ t l b _ _ p.out.f.s (by omega) N).mono ?_;rintro e w4 ⟨nm,g,rfl,o,m⟩)
  have i:=aA (p.out.step (d:=2) o m);have a:=aA g;clear o m g
  go_wp2_with fail
  (go_at_call 38;refine(As 5 ⟨(nm:List UInt8).toArray⟩ _ _ _ _).mono ?_;rintro e w5 ⟨rfl,w⟩)
  have F:=i.out.join (k:=5) (nm:=nm) (x:=0) (BN 5 nm (by decide) a.out) w;have H:=aA F;clear w F;have O:=H.out.r;obtain⟨r0,r1,r2,r3,r4,rf⟩:=O;go_wp2;obtain⟨Z,v,M,j⟩:=H.out.out;rw[<- v];obtain⟨Q,S,U,V,X,zf⟩:=M;clear v;exact bodyPost_ret (by simp[results,results57,go_sem,Q,S,U,V,X]<;>exact rfl) rfl (j.more (by omega))
 have b1:((q:Int)==1)=false:=beq_eq_false_iff_ne.2 (by omega);by_cases q0:q=2
 ·have b2:((q:Int)==2)=true:=beq_iff_eq.2 (by omega)
  go_wp2_with fail
  (go_at_call 39;refine(Br t l b _ _ u.out.s HM.out (by omega) N).mono ?_;rintro e w2 ⟨Y,ne,xe,ae,le,ce,se,rfl,z,B,C,D,E⟩)
  have y:=aA (u.out.node (fun _ h=>by cases h) z B C D E);clear z B C D E
  go_wp2_with fail
  (go_at_call 38;refine(As 6 ⟨([]:List UInt8).toArray⟩ _ _ _ _).mono ?_;rintro e w3 ⟨rfl,w⟩)
  have F:=y.out.join (L1:=[]) (L2:=[(Tr.mk Y ne xe (0,0) se,aB ae le ce)]) (cap:=1) (k:=6) (nm:=[]) (x:=0) (BN 6 [] (by decide) (by decide)) w;have G:Hid (Fr 60 A0 t l b W I _ [(Tr.mk 6 [] 0 (0,0) [Tr.mk Y ne xe (0,0) se],aB (some ⟨w2.heap.size,0,none⟩) 1 1)] w3 none 0 (.slice none 0 0)):=F;clear w F;have O:=G.out.r;obtain⟨r0,r1,r2,r3,r4,rf⟩:=O;go_wp2;obtain⟨Z,v,M,j⟩:=G.out.out;rw[<- v];obtain⟨Q,S,U,V,X,zf⟩:=M;clear v;exact bodyPost_ret (by simp[results,results57,go_sem,Q,S,U,V,X]<;>exact rfl) rfl (j.more (by omega))
 have b2:((q:Int)==2)=false:=beq_eq_false_iff_ne.2 (by omega)
 go_wp2_with fail
 (go_at_call 63;refine(Gb t l b _ _ u.out.s HM.out (by omega) N).mono ?_;rintro e w2 ⟨nm,g,rfl,o,m⟩)
 have y:=aA (u.out.step (d:=3) o m);have a:=aA g;clear o m g
 go_wp2_with fail
 (go_at_call 38;refine(As 4 ⟨(nm:List UInt8).toArray⟩ none 0 0 _).mono ?_;rintro e w3 ⟨rfl,w⟩)
 have G:=aA (y.out.leaf (k:=4) (nm:=nm) (x:=0) (BN 4 nm (by decide) a.out) w);clear w;have O:=G.out.r;obtain⟨r0,r1,r2,r3,r4,rf⟩:=O;go_wp2;obtain⟨Z,v,M,j⟩:=G.out.out;rw[<- v];obtain⟨Q,S,U,V,X,zf⟩:=M;clear v;exact bodyPost_ret (by simp[results,results57,go_sem,Q,S,U,V,X]<;>exact rfl) rfl (j.more (by omega))
end Go.Proofs.YtipfpohlnhmlpaaGreatDoor
namespace Go
open Go.RowKit
theorem J_ (f:UInt8->List UInt8) (l:List UInt8) (k:Nat) (h:k<l.length):(l.take (k+1)).flatMap f=(l.take k).flatMap f++f (l[k]'h):=by
 rw[aE h,List.flatMap_append];simp
theorem Wc (s:ByteArray) (k:Nat) (h:k<s.size):(s.extract k (k+1)).data.toList=[s[k]]:=by
 rw[Lib.extract_data,show s.data.toList.drop k=s[k]::s.data.toList.drop (k+1) from List.drop_eq_getElem_cons (by simpa using h),show k+1-k=1 by omega];rfl
theorem A1 (a b:ByteArray):(a++b).data.toList=a.data.toList++b.data.toList:=by simp
theorem AQ (a b:ByteArray):(a++b).size=a.size+b.size:=by simp
theorem BK {a:ByteArray} {l:List UInt8} (h:a.data.toList=l):a=⟨l.toArray⟩:=by subst h;rfl
theorem Q7 {a:ByteArray} {l:List UInt8} (h:a.data.toList=l):a.size=l.length:=by subst h;rfl
end Go
namespace Go.Proofs.YtipfpohlnhmlpaaGreatDoor
open Go.Proofs.Tryz
open Go.RowKit
def PU (c:UInt8):List UInt8:=[92,48+c/64,48+c/8%8,48+c%8]
theorem T1 (c:UInt8):(48+(c.toNat:Int)/64)=((48+c/64:UInt8).toNat:Int)/\(48+(c.toNat:Int)/8%8)=((48+c/8%8:UInt8).toNat:Int)/\(48+(c.toNat:Int)%8)=((48+c%8:UInt8).toNat:Int):=by
 have h:=aP c;refine⟨?_,?_,?_⟩<;>simp[UInt8.toNat_add,UInt8.toNat_div,UInt8.toNat_mod]<;>omega
theorem NB (c:UInt8) (W:World):Calls prog 99 #[.int .u8 c.toNat] W fun e q=>e = .returned (.string ⟨(PU c).toArray⟩)/\Below W.heap.size W q:=by
 obtain⟨l,m,n⟩:=T1 c;have p:=aP c;obtain⟨b,g⟩:∃a:UInt8,a=48+c/64:=⟨_,rfl⟩;obtain⟨d,h⟩:∃a:UInt8,a=48+c/8%8:=⟨_,rfl⟩;obtain⟨f,j⟩:∃a:UInt8,a=48+c%8:=⟨_,rfl⟩;rw[<- g] at l;rw[<- h] at m;rw[<- j] at n;have k:Hid (PU c=[92,b,d,f]):=by unfold Hid PU;rw[g,h,j]
 have o:Sem.run prog (convert 41 9 (.slice (some ⟨W.heap.size,0,none⟩) 3 3)) (W.alloc (.cells #[.int .u8 b.toNat,.int .u8 d.toNat,.int .u8 f.toNat] 5)) = .ok (.string ⟨[b,d,f].toArray⟩) (W.alloc (.cells #[.int .u8 b.toNat,.int .u8 d.toNat,.int .u8 f.toNat] 5)):=by
  rw[<- E9];refine run_convert_bytes_arg _ 41 5 underlying41 underlying5 W.heap.size 0 3 3 _ (by simp) (fun i r=>?_) 9 underlying9;rw[aH _ _ _ _ rfl];obtain rfl | rfl | rfl:i=0\/i=1\/i=2:=by omega
  ·rfl
  ·rfl
  rfl
 clear g h j
 go_in
 go_wp2;go_ret;exact⟨by rw[k.out];rfl,(aD _ _).alloc (aG _) _⟩
theorem Sk (c:UInt8):(c=34\/c=92)/\q1 c=[92,c]\/(c≠34/\c≠92)/\((32<=c.toNat/\c.toNat<=126)/\q1 c=[c]\/¬ (32<=c.toNat/\c.toNat<=126)/\q1 c=PU c):=by
 have e:(32<=c/\c<=126)↔(32<=c.toNat/\c.toNat<=126):=(by simp[UInt8.le_iff_toNat_le]);unfold q1;by_cases h:c=34\/c=92
 ·exact .inl ⟨h,if_pos h⟩
 refine .inr ⟨⟨fun e=>h (.inl e),fun e=>h (.inr e)⟩,?_⟩;rw[if_neg h];by_cases a:32<=c/\c<=126
 ·exact .inl ⟨e.1 a,if_pos a⟩
 exact .inr ⟨fun x=>a (e.2 x),if_neg a⟩
theorem NI (s:ByteArray) (W:World) (O:s.size<=8796093022208):Calls prog 78 #[.string s] W fun e K=>e = .returned (.string ⟨(G9 s.data.toList).toArray⟩)/\Below W.heap.size W K:=by
 have G:=aA (aD W.heap.size W);have u:=aA NB
 go_in
 go_wp2
 go_loopg [3,4] s.size (fun g E i wr=>∃(k:Nat) (T:ByteArray),E = .string T/\i = .int .i64 k/\k+g=s.size/\T.size<=1+4*k/\Hid (T.data.toList=34::(s.data.toList.take k).flatMap q1)/\Hid (Below W.heap.size W wr))
 case atStart=>exact⟨0,_,rfl,rfl,by omega,by decide,rfl,G⟩
 obtain⟨k,T,rfl,rfl,N,M,t,b⟩:=hrel;by_cases z:k<s.size
 ·have v:Hid ((s.data.toList.take (k+1)).flatMap q1=(s.data.toList.take k).flatMap q1++q1 s[k]):=J_ q1 s.data.toList k z
  have B:Hid ((s.extract k (k+1)).data.toList=[s[k]]):=Wc s k z;have A:(s.extract k (k+1)).size=1:=Q7 B.out;have o:=aA A;have r:=aA (Sk s[k]);have J:=aP s[k];clear A;rcases r.out with⟨D,m⟩ | ⟨⟨f,j⟩,⟨⟨l,I⟩,m⟩ | ⟨l,m⟩⟩
  ·have n:=aA m
   clear m;by_cases c:s[k]=34
   ·have p:((s[k].toNat:Int)==34)=true:=by rw[c];rfl
    clear D c;have a:=b;clear r;go_wp2
    go_roundg (gk-1)
    case measure=>omega
    exact⟨k+1,_,rfl,congrArg (aI .i64) (by omega),by omega,by rw[AQ,AQ,o.out];show T.size+1+1<=_;omega,by unfold Hid;rw[A1,A1,t.out,B.out,v.out,n.out];simp,a⟩
   have p:((s[k].toNat:Int)==34)=false:=beq_eq_false_iff_ne.2 fun e=>c (aF.1 (by show s[k].toNat=34;omega));have y:s[k]=92:=D.resolve_left c;have w:((s[k].toNat:Int)==92)=true:=by rw[y];rfl
   clear D c y;have a:=b;clear r;go_wp2
   go_roundg (gk-1)
   case measure=>omega
   exact⟨k+1,_,rfl,congrArg (aI .i64) (by omega),by omega,by rw[AQ,AQ,o.out];show T.size+1+1<=_;omega,by unfold Hid;rw[A1,A1,t.out,B.out,v.out,n.out];simp,a⟩
  ·have n:=aA m
   have p:((s[k].toNat:Int)==34)=false:=beq_eq_false_iff_ne.2 fun e=>f (aF.1 (by show s[k].toNat=34;omega));have w:((s[k].toNat:Int)==92)=false:=beq_eq_false_iff_ne.2 fun e=>j (aF.1 (by show s[k].toNat=92;omega));clear m f j;have a:=b;clear r;go_wp2
   go_roundg (gk-1)
   case measure=>omega
   exact⟨k+1,_,rfl,congrArg (aI .i64) (by omega),by omega,by rw[AQ,o.out];omega,by unfold Hid;rw[A1,t.out,B.out,v.out,n.out];simp,a⟩
  have n:=aA m;have p:((s[k].toNat:Int)==34)=false:=beq_eq_false_iff_ne.2 fun e=>f (aF.1 (by show s[k].toNat=34;omega));have w:((s[k].toNat:Int)==92)=false:=beq_eq_false_iff_ne.2 fun e=>j (aF.1 (by show s[k].toNat=92;omega));clear m f j;by_cases C:32<=s[k].toNat
  ·have F:¬ s[k].toNat<=126:=fun h=>l ⟨C,h⟩
   clear l;clear r;have q:(PU s[k]).length=4:=rfl
   go_wp2_with (go_at_call 99;refine(u.out s[k] _).mono ?_;rintro e L ⟨rfl,d⟩)
   clear q;have a:=aA (b.out.trans (d.mono b.out.size));clear d
   go_roundg (gk-1)
   case measure=>omega
   exact⟨k+1,_,rfl,congrArg (aI .i64) (by omega),by omega,by rw[AQ];show T.size+4<=_;omega,by unfold Hid;rw[A1,t.out,v.out,n.out];simp,a⟩
  clear l;clear r;have q:(PU s[k]).length=4:=rfl
  go_wp2_with (go_at_call 99;refine(u.out s[k] _).mono ?_;rintro e L ⟨rfl,d⟩)
  clear q;have a:=aA (b.out.trans (d.mono b.out.size));clear d
  go_roundg (gk-1)
  case measure=>omega
  exact⟨k+1,_,rfl,congrArg (aI .i64) (by omega),by omega,by rw[AQ];show T.size+4<=_;omega,by unfold Hid;rw[A1,t.out,v.out,n.out];simp,a⟩
 go_wp2;go_ret;refine⟨?_,b.out⟩;have e:k=s.size:=by omega
 have H:(T++⟨#[34]⟩).data.toList=G9 s.data.toList:=by
  rw[A1,t.out,aM (by show s.size<=k;omega)];rfl
 exact congrArg (fun x=>Ending.returned (.string x)) (BK H)
end Go.Proofs.YtipfpohlnhmlpaaGreatDoor
namespace Go
open Go.RowKit
def CJ (t:Tr) (a:Value):Value:=.agg #[.int .i64 t.kd,.string ⟨t.nm.toArray⟩,.float .f64 t.x,a,.complex .f64 t.z.1 t.z.2]
theorem Kc (s:List UInt8) (L:List (List UInt8)) (k:Nat) (h:k<L.length):A3 s (L.take (k+1))=A3 s (L.take k)++(if k=0 then [] else s)++L[k]:=by
 rw[aE h]
 cases k with
 | zero=>simp[A3]
 | succ k =>
   rw[Nn _ _ _ (by intro e;have:=congrArg List.length e;rw[List.length_take,Nat.min_eq_left (by omega)] at this;simp at this),if_neg (by omega)]
theorem FK (ks:List Tr) (k:Nat) (h:k<ks.length):Bh (ks.take (k+1))=Bh (ks.take k)+((ks[k]'h).big+8):=by
 have c:∀a b:List Tr,Bh (a++b)=Bh a+Bh b:=by
  intro a b
  induction a with
  | nil=>simp[CT]
  | cons t e d=>rw[List.cons_append,AU,AU,d];omega
 rw[aE h,c,AU,CT]
theorem Gj (ks:List Tr) (k:Nat):Bh (ks.take k)<=Bh ks:=by
 induction ks generalizing k with
 | nil=>simp
 | cons t b a=>cases k with
   | zero=>rw[List.take_zero,CT];omega
   | succ k=>rw[List.take_succ_cons,AU,AU];have:=a k;omega
end Go
namespace Go.Proofs.YtipfpohlnhmlpaaGreatDoor
open Go.Proofs.Tryz
open Go.RowKit
def Hj (c:Nat->List UInt8) (N:Aw) (b:World) (n:Nat):Prop:=∀(t:Tr) (d:Nat) (a:Value) (W:World),t.wt<=n->Bu N d t=true->t.big<=8796093022208->Am 60 W (fun _=>True) t.ks a->Below b.heap.size b W ->
 Calls prog 55 #[CJ t a] W fun e f=>e = .returned (.string ⟨(AD c t).toArray⟩)/\Below W.heap.size W f
theorem EN (f:Nat->List UInt8) (O:∀x,(f x).length<=64) (N:Aw) (w0:World) (n:Nat) (hE:Hj f N w0 n) (ks:List Tr) (d:Nat) (kv:Value) (s:List UInt8) (W:World) (hn:DN ks<=n) (M:A5 N d ks=true) (hz:Bh ks<=8796093022208)
  (hs:s.length<=4) (P:Am 60 W (fun _=>True) ks kv) (hW:Below w0.heap.size w0 W) :
  Calls prog 33 #[kv,.string ⟨s.toArray⟩] W fun e w'=>e = .returned (.string ⟨(A3 s (AP f ks)).toArray⟩)/\Below W.heap.size W w':=by
 have HK:=aA P;have HW:=aA hW;have HE:=aA hE;have F:Hid (∀t∈ks,Bu N d t=true):=by rw[BU] at M;exact fun t w=>aR.1 M t w
 have E:=aA (aD W.heap.size W);have HZ:Hid (∀k,Bh (ks.take k)<=8796093022208):=fun k=>Nat.le_trans (Gj ks k) hz
 have i0:ks.length<=8796093022208:=by
  have:∀l:List Tr,l.length<=Bh l:=by
   intro l
   induction l with
   | nil=>simp
   | cons t ts ih=>rw[AU,List.length_cons];omega
  have:=this ks;omega
 obtain⟨a,c0,rfl⟩:=P.slice;clear P hW hE M hz;rw[Au]
 go_in
 go_wp2
 go_loopg [5,6] ks.length (fun g a0 i wr=>∃(k:Nat) (T:ByteArray),a0 = .string T/\i = .int .i64 k/\k+g=ks.length/\Hid (T.size<=Bh (ks.take k))/\Hid (T.data.toList=A3 s ((ks.map (AD f)).take k))/\Hid (Below W.heap.size W wr))
 case atStart=>exact⟨0,_,rfl,rfl,by omega,Nat.zero_le _,by simp[Hid,A3],E⟩
 obtain⟨k,T,rfl,rfl,h0,r,G,c⟩:=hrel;by_cases m:k<ks.length
 ·obtain⟨b,b0,Z,hv,t,w,A,e0,H,I,e3,e4⟩:=(HK.out.bel c.out).cells k m
  injection hv with V _ X;subst V;have o:ks[k]'m=t:=by rw[aK m] at w;exact Option.some.inj w
  have v:t∈ks:=aO w;have C:t.wt<=n:=Nat.le_trans (A9 v) hn;have z:=F.out t v;have hbg:t.big<=8796093022208:=by have:=FK ks k m;rw[o] at this;have:=HZ.out (k+1);omega
  have HC:Hid (∀u,Below W.heap.size W u->Am 60 u (fun _=>True) t.ks Z->Calls prog 55 #[CJ t Z] u fun e w'=>e = .returned (.string ⟨(AD f t).toArray⟩)/\Below u.heap.size u w') :=
   fun u L Q=>HE.out t d Z u C z hbg Q (HW.out.trans (L.mono HW.out.size))
  have y:=aA A;have p:Hid ((AD f t).length<=t.big):=Bs f O t;have q:Hid (Bh (ks.take (k+1))=Bh (ks.take k)+(t.big+8)):=by unfold Hid;rw[FK ks k m,o]
  have D:Hid (A3 s ((ks.map (AD f)).take (k+1))=A3 s ((ks.map (AD f)).take k)++(if k=0 then [] else s)++AD f t):=by
   unfold Hid;rw[Kc _ _ _ (by simpa using m)];congr 1;rw[List.getElem_map,o]
  have Y:=HZ.out (k+1);have U:=r.out;have R:=p.out;have S:=q.out;obtain⟨BT,K⟩:∃B,Bh (ks.take k)=B:=⟨_,rfl⟩;have d0:T.size<=8796093022208:=(by omega);have f0:(AD f t).length<=8796093022208:=(by omega);clear X o v C z hbg A w Y U R S K;rw[Nat.mul_comm 5 k] at e0 H I e3 e4;by_cases g0:0<k
  ·go_wp2_with (go_at_call 55;refine(HC.out _ c.out y.out).mono ?_;rintro e w4 ⟨rfl,j⟩)
   have h:=aA (c.out.trans (j.mono c.out.size));clear j
   go_roundg (gk-1)
   case measure=>omega
   refine⟨k+1,_,rfl,congrArg (aI .i64) (by omega),by omega,?_,?_,h⟩
   ·have h1:=r.out
    have J:=q.out;have h3:=p.out;unfold Hid;rw[J];simp only[AQ];have H:aC ⟨s.toArray⟩=s.length:=(by simp[aC]);have I:aC ⟨(AD f t).toArray⟩=(AD f t).length:=(by simp[aC]);omega
   unfold Hid;rw[D.out];simp only[A1,G.out];rw[if_neg (by omega)]
  go_wp2_with (go_at_call 55;refine(HC.out _ c.out y.out).mono ?_;rintro e w4 ⟨rfl,j⟩)
  have h:=aA (c.out.trans (j.mono c.out.size));clear j
  go_roundg (gk-1)
  case measure=>omega
  refine⟨k+1,_,rfl,congrArg (aI .i64) (by omega),by omega,?_,?_,h⟩
  ·have h1:=r.out
   have J:=q.out;have h3:=p.out;unfold Hid;rw[J];simp only[AQ];have H:aC ⟨s.toArray⟩=s.length:=(by simp[aC]);have I:aC ⟨(AD f t).toArray⟩=(AD f t).length:=(by simp[aC]);omega
  unfold Hid;rw[D.out];simp only[A1,G.out];rw[if_pos (by omega),aN]
 have D:Hid (T.data.toList=A3 s (ks.map (AD f))):=by
  have:=G.out
  rwa [aM (by rw[List.length_map];omega)] at this
 go_wp2;go_ret;exact⟨congrArg (fun x=>Ending.returned (.string x)) (BK D.out),c.out⟩
end Go.Proofs.YtipfpohlnhmlpaaGreatDoor
namespace Go
open Go.RowKit
def UV (N:Nat) (W:World) (e:Ending) (w':World):Prop:=∃t:ByteArray,e = .returned (.string t)/\t.size<=N/\Below W.heap.size W w'
theorem DW (s:ByteArray) (a b:Nat):(s.extract a b).size<=s.size:=by simp;omega
theorem Xo (a b:ByteArray):(a++b).size=a.size+b.size:=by simp
end Go
namespace Go.Proofs.YtipfpohlnhmlpaaGreatDoor
open Go.Proofs.Tryz
open Go.RowKit
def Ly:List (List UInt8):=[[40],[41],[123],[125],[91],[93],[44],[59],[10],[32],[47],[124],[103,101,116,108,105,110,101],[120],[49],[34],[36],[105,110],[43,43],[61]]
def Iu:Array Value:=(Ly.map fun l=>Value.string ⟨l.toArray⟩).toArray
theorem Q3 (j:Nat) (h:j<20):∃s:ByteArray,s.size<=15/\Iu[j]?=some (.string s):=by
 have b:Ly.length=20:=(by decide);have ha:∀l∈Ly,l.length<=15:=(by decide);have a:j<Ly.length:=(by omega);refine⟨⟨Ly[j].toArray⟩,?_,?_⟩
 ·have:=ha _ (aS a)
  simpa[aC] using this
 simp[Iu,b,h]
theorem QL {P:Program} {o:Oper} {a:Act} {w:World} {K:Act->World->Prop} {Q:Exit->Act->World->Prop} (v:Value) (h:(execOp a.eval o).run P w = .ok (.value v) w) (b:K (a.put o.dst v) w):o.wp P a w K Q:=by
 unfold Oper.wp;rw[h];exact b
theorem Ol {P:Program} {o:Oper} {a:Act} {w w':World} {K:Act->World->Prop} {Q:Exit->Act->World->Prop} (v:Value) (h:(execOp a.eval o).run P w = .ok (.value v) w') (b:K (a.put o.dst v) w'):o.wp P a w K Q:=by
 unfold Oper.wp;rw[h];exact b
theorem Tg {P:Program} {o:Oper} {a:Act} {w w':World} {K:Act->World->Prop} {Q:Exit->Act->World->Prop} (h:(execOp a.eval o).run P w = .ok .skip w') (b:K (a.put o.dst undef) w'):o.wp P a w K Q:=by
 unfold Oper.wp;rw[h];exact b
structure QU (w:World) (b n:Nat) (f:Nat->UInt8):Prop where
 d:∀i,i<n->w.cell? ⟨b,i,none⟩=some (.int .u8 (f i).toNat)
 fz:∀i,i<n->w.frozen? ⟨b,i,none⟩=false
theorem QU.set {w:World} {b n j:Nat} {f:Nat->UInt8} (h:QU w b n f) (g:j<n) (c:UInt8):QU (w.setCell ⟨b,j,none⟩ (.int .u8 c.toNat)) b n (fun i=>if i=j then c else f i) where
 d:=fun i a=>by
  by_cases e:i=j
  ·subst e;simp only[if_pos];exact A8 (h.d i a)
  simp only[if_neg e];rw[Ag (Ai (Ne.symm e))];exact h.d i a
 fz:=fun i a=>by rw[World.frozen?_setCell];exact h.fz i a
theorem Pl {w:World} {b n cap:Nat} {f:Nat->UInt8} {l:List UInt8} (h:QU w b n f) (c:l.length=n) (e:∀i (a:i<l.length),f i=l[i]) :
  Sem.run prog (convert 41 9 (.slice (some ⟨b,0,none⟩) n cap)) w = .ok (.string ⟨l.toArray⟩) w:=by
 rw[<- E9];refine run_convert_bytes_arg w 41 5 underlying41 underlying5 b 0 n cap _ (by simp[c]) (fun i a=>?_) 9 underlying9;rw[Nat.zero_add,h.d i a,e i (by omega)];simp[show i<l.length by omega]
theorem UT (s:ByteArray) (W:World):QU (aQ W 5 s) W.heap.size s.size (fun i=>s.data.toList.getD i 0)/\Below W.heap.size W (aQ W 5 s):=by
 refine⟨⟨fun i a=>?_,fun i a=>?_⟩,?_⟩
 ·rw[Lib.bytesWorld_cell _ _ _ _ a]
 ·unfold World.frozen?
  rw[Lib.bytesWorld_at_new];have:(Lib.bytesCells W 5 s).size>=s.size:=by unfold Lib.bytesCells;simp
  simp;omega
 refine⟨rfl,rfl,rfl,by rw[Lib.bytesWorld_size];omega,fun k b=>Lib.bytesWorld_at_old _ _ _ _ b⟩
theorem Q5 (s:ByteArray) (d l n:Int) (W:World) (hs:s.size<=35184372088832) (H:¬ s.size=0) (B:C4 d 5=2) :
  Calls prog 5 #[.string s,.int .i64 d,.int .i64 l,.int .i64 n] W (UV 140737488351232 W):=by
 have t:s.toList≠[]:=by rw[MV];intro h;exact H (by have:s.data.toList.length=s.size:=rfl;rw[h] at this;exact this.symm)
 have R:(s.toList==[])=false:=by cases S:s.toList with | nil=>exact absurd S t | cons a b=>rfl
 obtain⟨k,E⟩:∃k,C4 l s.size=k:=⟨_,rfl⟩;have M:k<s.size:=by rw[<- E];exact Dr l s.size (by omega)
 have v:Hid (∀W,Calls prog 11 #[.int .i64 l,.int .i64 s.size] W fun e f=>e = .returned (.int .i64 k)/\W=f):=fun W=>by rw[<- E];exact Ds l s.size W (by omega) (by unfold maxLen;omega)
 obtain⟨q,F⟩:∃q,C4 n 6=q:=⟨_,rfl⟩;have Q:q<6:=by rw[<- F];exact Dr n 6 (by omega)
 have w:Hid (∀W,Calls prog 11 #[.int .i64 n,.int .i64 6] W fun e f=>e = .returned (.int .i64 q)/\W=f):=fun W=>by rw[<- F];exact Ds n 6 W (by omega) (by unfold maxLen;omega)
 obtain⟨c,A⟩:∃c,C4 d 5=c:=⟨_,rfl⟩;have J:c<5:=by rw[<- A];exact Dr d 5 (by omega)
 have x:Hid (∀W,Calls prog 11 #[.int .i64 d,.int .i64 5] W fun e f=>e = .returned (.int .i64 c)/\W=f):=fun W=>by rw[<- A];exact Ds d 5 W (by omega) (by unfold maxLen;omega)
 obtain⟨m,g,N,O⟩:∃m:Nat,(if (s.size:Int)-(k:Int)<1+(q:Int) then (s.size:Int)-(k:Int) else 1+(q:Int))=(m:Int)/\1<=m/\k+m<=s.size:=by
  by_cases h:s.size-k<1+q
  ·exact⟨s.size-k,by rw[if_pos (by omega)];omega,by omega,by omega⟩
  exact⟨1+q,by rw[if_neg (by omega)];omega,by omega,by omega⟩
 have i:=aA g;have d0:((c:Int)==0)=false:=beq_eq_false_iff_ne.2 (by omega);have d1:((c:Int)==1)=false:=beq_eq_false_iff_ne.2 (by omega);have d2:((c:Int)==2)=true:=beq_iff_eq.2 (by omega);clear E F A t B g
 go_in
 go_wp2_with fail
 (go_at_call 11;refine(v.out _).mono ?_;rintro e f ⟨rfl,rfl⟩)
 go_wp2_with fail
 (go_at_call 11;refine(w.out _).mono ?_;rintro e f ⟨rfl,rfl⟩)
 go_upto_region 5 with fail
 rw[i.out];have o:=IntWalk.i64_in ((k:Int)+(m:Int)) (by omega);have G:=aA o;have U:(0:Int)<=(k:Int):=(by omega);have V:(k:Int)<=(s.size:Int):=(by omega);have X:(0:Int)<=(k:Int)+(m:Int):=(by omega);have Y:(k:Int)+(m:Int)<=(s.size:Int):=(by omega);clear o
 go_wp2_with fail
 (go_at_call 11;refine(x.out _).mono ?_;rintro e f ⟨rfl,rfl⟩)
 go_upto_region 11 with fail
 go_cut [11] (fun p T=>p = .pointer (some ⟨W.heap.size,0,none⟩)/\T=W.alloc (.cells Iu 40))
 case first =>
  go_step
  go_step
  refine QL (.agg Iu) (by kernel_rfl) ?_
  go_simp
  go_step
  go_step
  obtain⟨Z,I,z⟩:∃Z:Array Value,(∀W:World,Sem.run prog (Instr.alloc 40 true (.tuple #[])) W = .ok (.pointer (some ⟨W.heap.size,0,none⟩)) (W.alloc (.cells Z 40)))/\Z.size=20 :=
   ⟨(List.replicate 20 (Value.string ⟨#[]⟩)).toArray,fun W=>by kernel_rfl,by simp⟩
  refine Ol (w':=W.alloc (.cells Z 40)) (.pointer (some ⟨W.heap.size,0,none⟩)) (by
   have:=I W
   simp only[execOp,Sem.run_bind,this,Result.andThen_ok,Sem.run_pure]) ?_
  go_simp
  go_step
  go_step
  refine Tg (w':=W.alloc (.cells Iu 40)) (by
   have:=run_storeAt_new (P:=prog) W 40 Z Iu (by kernel_rfl) (by rw[z];kernel_rfl) (by kernel_rfl);simp only[execOp,Sem.run_bind]
   exact(congrArg (fun r=>Result.andThen r _) this)) ?_
  go_simp
  go_wp2;go_meet;exact⟨rfl,rfl⟩
 obtain⟨rfl,rfl⟩:=hcut;obtain⟨j,C⟩:∃j,C4 n 20=j:=⟨_,rfl⟩;have D:j<20:=by rw[<- C];exact Dr n 20 (by omega)
 have y:Hid (∀W,Calls prog 11 #[.int .i64 n,.int .i64 20] W fun e f=>e = .returned (.int .i64 j)/\W=f):=fun W=>by rw[<- C];exact Ds n 20 W (by omega) (by unfold maxLen;omega)
 obtain⟨p,hp,u⟩:=Q3 j D;have cj:(W.alloc (.cells Iu 40)).cell? ⟨W.heap.size,j,none⟩=some (.string p):=by rw[aH _ _ _ _ rfl];exact u
 have K:(0:Int)<=(j:Int):=(by omega);have L:(j:Int)<20:=(by omega);clear C u
 go_wp2_with fail
 go_quiet ((go_at_call 11;exact Kl (y.out _)));go_wp2;go_ret;exact⟨_,rfl,by rw[Xo,Xo];have:=DW s 0 k;have:=DW s k s.size;omega,FJ ((aD _ _).alloc (aG _) _) _⟩
theorem Q4 (s:ByteArray) (f v n:Int) (W:World) (hs:s.size<=35184372088832) :
  Calls prog 5 #[.string s,.int .i64 f,.int .i64 v,.int .i64 n] W (UV 140737488351232 W):=by
 by_cases J:s.size=0
 ·have Q:s.toList=[]:=by rw[MV];exact List.eq_nil_of_length_eq_zero J
  have e0:(!s.toList.isEmpty)=false:=by rw[Q];rfl
  have N:(s.toList==[])=true:=by rw[Q];rfl
  go_in
  go_wp2;go_ret;exact⟨s,rfl,by omega,aD _ _⟩
 by_cases B:C4 f 5=2
 ·exact Q5 s f v n W hs J B
 have E:s.toList≠[]:=by rw[MV];intro h;exact J (by have:s.data.toList.length=s.size:=rfl;rw[h] at this;exact this.symm)
 have N:(s.toList==[])=false:=by cases hx:s.toList with | nil=>exact absurd hx E | cons a b=>rfl
 obtain⟨k,K⟩:∃k,C4 v s.size=k:=⟨_,rfl⟩;have u:k<s.size:=by rw[<- K];exact Dr v s.size (by omega)
 have H:Hid (∀W,Calls prog 11 #[.int .i64 v,.int .i64 s.size] W fun e g=>e = .returned (.int .i64 k)/\W=g):=fun W=>by rw[<- K];exact Ds v s.size W (by omega) (by unfold maxLen;omega)
 obtain⟨q,M⟩:∃q,C4 n 6=q:=⟨_,rfl⟩;have b0:q<6:=by rw[<- M];exact Dr n 6 (by omega)
 have I:Hid (∀W,Calls prog 11 #[.int .i64 n,.int .i64 6] W fun e g=>e = .returned (.int .i64 q)/\W=g):=fun W=>by rw[<- M];exact Ds n 6 W (by omega) (by unfold maxLen;omega)
 obtain⟨c,F⟩:∃c,C4 f 5=c:=⟨_,rfl⟩;have V:c<5:=by rw[<- F];exact Dr f 5 (by omega)
 have j:Hid (∀W,Calls prog 11 #[.int .i64 f,.int .i64 5] W fun e g=>e = .returned (.int .i64 c)/\W=g):=fun W=>by rw[<- F];exact Ds f 5 W (by omega) (by unfold maxLen;omega)
 obtain⟨m,r,Z,a0⟩:∃m:Nat,(if (s.size:Int)-(k:Int)<1+(q:Int) then (s.size:Int)-(k:Int) else 1+(q:Int))=(m:Int)/\1<=m/\k+m<=s.size:=by
  by_cases h:s.size-k<1+q
  ·exact⟨s.size-k,by rw[if_pos (by omega)];omega,by omega,by omega⟩
  exact⟨1+q,by rw[if_neg (by omega)];omega,by omega,by omega⟩
 have z:=aA r;rw[F] at B;clear K M F E r
 go_in
 go_wp2_with fail
 (go_at_call 11;refine(H.out _).mono ?_;rintro e g ⟨rfl,rfl⟩)
 go_wp2_with fail
 (go_at_call 11;refine(I.out _).mono ?_;rintro e g ⟨rfl,rfl⟩)
 go_upto_region 5 with fail
 rw[z.out];have p:=IntWalk.i64_in ((k:Int)+(m:Int)) (by omega);have w:=aA p;have b1:(0:Int)<=(k:Int):=(by omega);have b2:(k:Int)<=(s.size:Int):=(by omega);have b3:(0:Int)<=(k:Int)+(m:Int):=(by omega);have b4:(k:Int)+(m:Int)<=(s.size:Int):=(by omega);clear p;by_cases c0:c=0
 ·have R:((c:Int)==0)=true:=beq_iff_eq.2 (by omega)
  go_wp2_with (go_at_call 11;refine(j.out _).mono ?_;rintro e g ⟨rfl,rfl⟩)
  have p:=w.out;go_quiet (fail);go_wp2;go_ret;exact⟨_,rfl,by rw[Xo];have:=DW s 0 k;have:=DW s (k+m) s.size;omega,FJ (aD _ _) _⟩
 have R:((c:Int)==0)=false:=beq_eq_false_iff_ne.2 (by omega);by_cases c1:c=1
 ·have S:((c:Int)==1)=true:=beq_iff_eq.2 (by omega)
  go_wp2_with (go_at_call 11;refine(j.out _).mono ?_;rintro e g ⟨rfl,rfl⟩)
  have p:=w.out;go_quiet (fail);go_wp2;go_ret;exact⟨_,rfl,by rw[Xo];have:=DW s 0 (k+m);have:=DW s k s.size;omega,FJ (aD _ _) _⟩
 have S:((c:Int)==1)=false:=beq_eq_false_iff_ne.2 (by omega);by_cases c2:c=2
 ·omega
 have d2:((c:Int)==2)=false:=beq_eq_false_iff_ne.2 (by omega);by_cases c3:c=3
 ·have T:((c:Int)==3)=true:=beq_iff_eq.2 (by omega)
  go_wp2_with fail
  (go_at_call 11;refine(j.out _).mono ?_;rintro e g ⟨rfl,rfl⟩)
  have C:=Lib.run_convert_string_bytes (P:=prog) W 9 41 5 s underlying9 underlying41 underlying5;have O:=UT s W;generalize aQ W 5 s=W1 at C O;generalize grownCap W s.size 0 5=cap at C;obtain⟨o,A⟩:=O;obtain⟨y,hy⟩:∃y:UInt8,(n%256:Int)=(y.toNat:Int):=⟨UInt8.ofNat (n%256).toNat,by rw[UInt8.toNat_ofNat'];omega⟩;have U:=o.d k u;have X:=o.fz k u;have t:=o.set u y;have D:=Pl (cap:=cap) (l:=(aV s.size).map fun i=>if i=k then y else s.data.toList.getD i 0) t (by simp) (fun i hi=>by simp);have G:=aA A;have x:Hid (((aV s.size).map fun i=>if i=k then y else s.data.toList.getD i 0).length=s.size):=by unfold Hid;simp
  generalize ((aV s.size).map fun i=>if i=k then y else s.data.toList.getD i 0)=L at D x;have Y:(k:Int)<(s.size:Int):=(by omega);clear t o A;go_wp2;go_ret;exact⟨_,rfl,by show L.length<=_;have:=x.out;omega,G.out.setCell (aG _) _⟩
 have T:((c:Int)==3)=false:=beq_eq_false_iff_ne.2 (by omega)
 go_wp2_with (go_at_call 11;refine(j.out _).mono ?_;rintro e g ⟨rfl,rfl⟩)
 go_ret;exact⟨_,rfl,by have:=DW s 0 k;omega,aD _ _⟩
end Go.Proofs.YtipfpohlnhmlpaaGreatDoor
