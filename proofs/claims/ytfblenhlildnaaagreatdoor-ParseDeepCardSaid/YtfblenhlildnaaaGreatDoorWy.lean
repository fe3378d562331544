/- Wy Wb Yl Ye -/
import Derived.Test.YtfblenhlildnaaaGreatDoorWo
import Derived.Test.YtfblenhlildnaaaGreatDoorGl
import Derived.Test.YtfblenhlildnaaaGreatDoorWe
import Derived.Test.YtfblenhlildnaaaGreatDoorWr
import Derived.Test.YtfblenhlildnaaaGreatDoorMp
import Derived.Deep.DeepCutAuto
import Derived.Deep.CutBlock
set_option maxRecDepth 100000
set_option maxHeartbeats 8000000
open Go.Lib renaming hid->aA,extract_data->aD
open Nat renaming le_refl->aB
open Go.World renaming frozen?_setCell->aC,cell?_of_block->aF,block_lt_of_cell?->aJ
open List renaming drop_eq_nil_of_le->aE,length_drop->aG,getElem?_eq_getElem->aI,drop_succ_cons->aL
open Int renaming toNat_natCast->aH
namespace Go.Proofs.YtfblenhlildnaaaGreatDoor
open Go.RowKit
def KE (l:List UInt8) (k:Nat) (V:Value):Prop :=
 ∃(kd:Int) (a:List UInt8) (nm f t:Nat) (e:Int),V = .tuple #[Ap kd a nm f t,.int .i64 e]/\k<=f /\
  ((e≠0/\f<l.length/\t=0/\kd=0/\a=[])\/(e=0/\kd=0/\f=l.length/\t=l.length)\/(e=0/\kd≠0/\f<t/\t<=l.length))
theorem Mi (l:List UInt8) (p:Bool) (i:Value) (k:Nat) (q:k<=l.length) (o:CV l k->KE l k i):KE l k (AJ l p i k):=by
 unfold AJ;by_cases d:k<l.length
 ·rw[Aq l k d]
  dsimp only;have bad:∀e:Int,e≠0->KE l k (.tuple #[Ap 0 [] 0 k 0,.int .i64 e]):=fun e n=>⟨0,[],0,k,0,e,rfl,aB _,.inl ⟨n,d,rfl,rfl,rfl⟩⟩;have a:∀(kd:Int) (f:List UInt8) (t:Nat),kd≠0->k<t->t<=l.length->KE l k (.tuple #[Ap kd f 0 k t,.int .i64 0]):=fun kd f t g b j=>⟨kd,f,0,k,t,0,rfl,aB _,.inr (.inr ⟨rfl,g,b,j⟩)⟩;split
  ·exact a 1 [] (k+1) (by omega) (by omega) (by omega)
  split
  ·rename_i h
   refine o ⟨d,h.elim .inl fun h => .inr ⟨h.1,?_⟩⟩;by_cases b:k+1<l.length
   ·refine⟨b,?_⟩
    have:=h.2;rw[Aq l (k+1) b] at this;exact Option.some.inj this
   have:=h.2;rw[aE (by omega)] at this;simp at this
  split
  ·rename_i h
   unfold DG
   have g:0<Al BI (l.drop k):=by
    rw[Aq l k d,Al,if_pos (by simp[BI,h])];omega
   have b:=Bp BI (l.drop k);rw[aG] at b;refine a _ _ _ ?_ (by unfold Co;omega) (by unfold Co;omega);unfold A6;repeat' split
   all_goals omega
  split
  ·unfold C7
   dsimp only;split
   ·exact bad 21 (by omega)
   rename_i r
   obtain⟨t,c⟩:∃t:Nat,AF 34 l (k+1)=t:=⟨(AF 34 l (k+1)).toNat,by omega⟩;have m:=Cl 34 l (k+1) t c;rw[c];split
   ·exact bad 22 (by omega)
   exact a 3 _ (t+1) (by omega) (by omega) (by omega)
  split
  ·unfold Cr
   dsimp only;split
   ·exact bad 21 (by omega)
   obtain⟨t,c⟩:∃t:Nat,AF 47 l (k+1)=t:=⟨(AF 47 l (k+1)).toNat,by omega⟩;have m:=Cl 47 l (k+1) t c;rw[c];exact a 4 _ (t+1) (by omega) (by omega) (by omega)
  split
  ·rename_i h
   have b:=D5 (l.drop k);rw[aG,Aq l k d] at b;exact a 9 _ _ (by omega) (by omega) (by omega)
  exact bad 20 (by omega)
 rw[aE (by omega)];exact⟨0,[],0,k,k,0,rfl,aB _,.inr (.inl ⟨rfl,rfl,by omega,by omega⟩)⟩
open Go.Proofs.Tryz
def F_ (x:Nat) (t:List UInt8) (i e:Int):Value:=if KW x=true then .tuple #[Ap 0 [] 0 i 0,.int .i64 23] else .tuple #[Ap 2 t x i e,.int .i64 0]
theorem Ki (s:ByteArray) (i n x:Nat) (w:World) (B:s.size<=maxLen) (D:i+n<=s.size) (q:x<18446744073709551616)
  (p:∀W,Below w.heap.size w W->Calls prog 174 #[.string (s.extract i s.size)] W fun e d=>e = .returned (.tuple #[.float .f64 x,.int .i64 n])/\Below W.heap.size W d) :
  Calls prog 124 #[.string s,.int .i64 i] w fun e d=>e = .returned (F_ x (Bc s.data.toList i (i+n)) i (i+n:Nat))/\Below w.heap.size w d:=by
 have r:Hid ((⟨(Bc s.data.toList i (i+n)).toArray⟩:ByteArray)=s.extract i (i+n)):=by
  have:(s.extract i (i+n)).data.toList=Bc s.data.toList i (i+n):=aD _ _ _;unfold Hid;rw[<- this]
 have o:=aA p;have f:=aA (fun W=>PF x q W);unfold maxLen at B;clear p q
 cases a:KW x with
 | true =>
   have g:Hid (F_ x (Bc s.data.toList i (i+n)) i (i+n:Nat) = .tuple #[Ap 0 [] 0 i 0,.int .i64 23]):=by unfold Hid;rw[F_,if_pos a]
   rw[a] at f;clear a
   go_in
   go_wp2_with (first | (go_at_call 174;refine(o.out _ ((Below.refl _ _).alloc (aB _) _)).mono ?_;rintro e C ⟨rfl,c⟩;have b:=c.mono (B':=w.heap.size+1) (by simp)) | (go_at_call 116;refine(f.out _).mono ?_;rintro e d ⟨rfl,rfl⟩;obtain⟨h,j,k,l,m,t,u,y,z,A⟩:=DB b))
   refine bodyPost_ret (v:=.tuple #[Ap 0 [] 0 i 0,.int .i64 23]) (by simp[results,results124,go_sem,Ap,h,j,k,l,m]) rfl ⟨by rw[g.out],BR b _ _ _ _ _⟩
 | false =>
   have g:Hid (F_ x (Bc s.data.toList i (i+n)) i (i+n:Nat) = .tuple #[Ap 2 (Bc s.data.toList i (i+n)) x i (i+n:Nat),.int .i64 0]):=by unfold Hid;rw[F_,if_neg (by simp[a])]
   rw[a] at f;clear a
   go_in
   go_wp2_with (first | (go_at_call 174;refine(o.out _ ((Below.refl _ _).alloc (aB _) _)).mono ?_;rintro e C ⟨rfl,c⟩;have b:=c.mono (B':=w.heap.size+1) (by simp)) | (go_at_call 116;refine(f.out _).mono ?_;rintro e d ⟨rfl,rfl⟩;obtain⟨h,j,k,l,m,t,u,y,z,A⟩:=DB b))
   refine bodyPost_ret (v:=.tuple #[Ap 2 (Bc s.data.toList i (i+n)) x i (i+n:Nat),.int .i64 0]) (by simp[results,results124,go_sem,Ap,h,j,k,l,m,r.out]) rfl ⟨by rw[g.out],BR b _ _ _ _ _⟩
theorem Ei (c:UInt8) (r:List UInt8) (g:Aj c=true\/(c=46/\∃d i,r=d::i/\Aj d=true)):BH (c::r)=0/\An (c::r)≠0:=by
 have a:DH c=false/\c≠43/\c≠45:=by
  rcases g with h | ⟨h,_⟩
  ·have:=Cq h
   refine⟨?_,fun e=>?_,fun e=>?_⟩
   ·simp[DH,GT];omega
   iterate 2
    focus
     rw[e] at this;exact absurd this (by decide)
  rw[h];decide
 have f:CC (c::r)=0:=by
  unfold CC;rw[Al,if_neg (by simp[a.1])]
 have b:BH (c::r)=0:=by
  unfold BH;rw[f,AR,if_neg (by simp[a.2])]
 refine⟨b,?_⟩
 have m:CU (c::r)≠0:=by
  rcases g with h | ⟨h,d,i,k,l⟩
  ·unfold CU
   have:Al Aj (c::r)≠0:=by rw[Al,if_pos h];omega
   split
   ·split<;>omega
   exact this
  have j:Al Aj (c::r)=0:=by rw[Al,if_neg (by rw[h];decide)]
  have n:Al Aj r≠0:=by rw[k,Al,if_pos l];omega
  unfold CU;rw[j];rw[if_pos (by simp[h])];simp only[Nat.zero_add,aL,List.drop_zero];split<;>omega
 unfold An;rw[if_neg m];omega
theorem L8 {c:UInt8} (h:Aj c=true):AbH c=false:=by
 have a:∀k:Fin 256,Aj (⟨⟨k⟩⟩:UInt8)=true->AbH (⟨⟨k⟩⟩:UInt8)=false:=(by decide +kernel);exact a c.toBitVec.toFin h
theorem NA {l:List UInt8} {c:Bool} {b:Value} {k:Nat} (h:k<l.length) (a:l[k]=34):AJ l c b k=C7 l k:=by
 unfold AJ;rw[Aq l k h,a];dsimp only;rw[if_neg (by decide),if_neg (by rintro(h | ⟨h,_⟩)<;>exact absurd h (by decide)),if_neg (by decide),if_pos rfl]
theorem Mk {l:List UInt8} {b:Value} {k:Nat} (h:k<l.length) (a:l[k]=47):AJ l true b k=Cr l k:=by
 unfold AJ;rw[Aq l k h,a];dsimp only;rw[if_neg (by decide),if_neg (by rintro(h | ⟨h,_⟩)<;>exact absurd h (by decide)),if_neg (by decide),if_neg (by decide),if_pos ⟨rfl,rfl⟩]
theorem SE {l:List UInt8} {k:Nat} (h:k<l.length):k+B6 (l.drop k)<=l.length:=by
 rw[Aq l k h,B6];split
 ·next h2 =>
  by_cases a:k+1<l.length
  ·omega
  exfalso;rw[aE (by omega)] at h2
  revert h2
  generalize l[k]=c;simp[He]
 split<;>omega
theorem VD {c:UInt8} {r:List UInt8} (h:An (c::r)≠0):Aj c=true\/(c=46/\(r.head?.map Aj)=some true):=by
 have a:CU (c::r)≠0:=fun i=>h (by unfold An;rw[if_pos i]);cases j:Aj c
 ·right
  have f:Al Aj (c::r)=0:=by rw[Al,if_neg (by rw[j];decide)]
  unfold CU at a;rw[f] at a;by_cases b:c=46
  ·refine⟨b,?_⟩
   rw[if_pos (by simp[b])] at a;simp only[Nat.zero_add,aL,List.drop_zero] at a
   cases r with
   | nil=>exact absurd (if_pos ⟨trivial,rfl⟩) a
   | cons d k =>
     cases e:Aj d
     ·exfalso
      have g:Al Aj (d::k)=0:=by rw[Al,if_neg (by rw[e];decide)]
      rw[g] at a;exact a (if_pos ⟨trivial,rfl⟩)
     show some (Aj d)=some true;rw[e]
  rw[if_neg (by simp[b])] at a;exact absurd rfl a
 exact .inl rfl
structure T5 (w:World) (b:Nat) (k:Int) (tx:ByteArray) (n:Nat) (f t:Int):Prop where
 c0:w.cell? ⟨b,0,none⟩=some (.int .i64 k)
 c1:w.cell? ⟨b,1,none⟩=some (.string tx)
 c2:w.cell? ⟨b,2,none⟩=some (.float .f64 n)
 c3:w.cell? ⟨b,3,none⟩=some (.int .i64 f)
 c4:w.cell? ⟨b,4,none⟩=some (.int .i64 t)
 fz:∀j,w.frozen? ⟨b,j,none⟩=false
theorem T5.new (w:World) (k:Int) (a:ByteArray) (n:Nat) (f t:Int) (T:TypeId):T5 (w.alloc (.cells #[.int .i64 k,.string a,.float .f64 n,.int .i64 f,.int .i64 t] T)) w.heap.size k a n f t:=by
 refine⟨?_,?_,?_,?_,?_,fun j=>World.frozen?_alloc_at _ _ _ _ rfl⟩<;>(rw[World.cell?_alloc_at _ _ _ _ rfl];rfl)
theorem T5.kept {w w':World} {b:Nat} {k:Int} {c:ByteArray} {n:Nat} {f t:Int} (h:T5 w b k c n f t) (a:w'.heap[b]?=w.heap[b]?):T5 w' b k c n f t :=
 ⟨by rw[aF a];exact h.c0,by rw[aF a];exact h.c1,by rw[aF a];exact h.c2,by rw[aF a];exact h.c3,by rw[aF a];exact h.c4,fun j=>by rw[World.frozen?_of_block a];exact h.fz j⟩
theorem T5.alloc {w:World} {b:Nat} {k:Int} {a:ByteArray} {n:Nat} {f t:Int} (h:T5 w b k a n f t) (o:Obj):T5 (w.alloc o) b k a n f t :=
 h.kept (Go.heap_alloc_old _ _ (aJ w _ h.c0))
theorem T5.below {w w':World} {b:Nat} {k:Int} {a:ByteArray} {n:Nat} {f t:Int} (h:T5 w b k a n f t) (c:Below w.heap.size w w'):T5 w' b k a n f t :=
 h.kept (c.block b (aJ w _ h.c0))
theorem T5.other {w:World} {b:Nat} {k:Int} {a:ByteArray} {n:Nat} {f t:Int} (h:T5 w b k a n f t) (p:Addr) (v:Value) (c:b≠p.block):T5 (w.setCell p v) b k a n f t :=
 h.kept (Below.heap_setCell _ _ _ _ c)
theorem T5.set4 {w:World} {b:Nat} {k:Int} {a:ByteArray} {n:Nat} {f t:Int} (h:T5 w b k a n f t) (x:Int):T5 (w.setCell ⟨b,4,none⟩ (.int .i64 x)) b k a n f x :=
 ⟨by rw[Ag (Ai (by omega))];exact h.c0,by rw[Ag (Ai (by omega))];exact h.c1,by rw[Ag (Ai (by omega))];exact h.c2,by rw[Ag (Ai (by omega))];exact h.c3,A8 h.c4,fun j=>by rw[aC];exact h.fz j⟩
theorem T5.set1 {w:World} {b:Nat} {k:Int} {a:ByteArray} {n:Nat} {f t:Int} (h:T5 w b k a n f t) (x:ByteArray):T5 (w.setCell ⟨b,1,none⟩ (.string x)) b k x n f t :=
 ⟨by rw[Ag (Ai (by omega))];exact h.c0,A8 h.c1,by rw[Ag (Ai (by omega))];exact h.c2,by rw[Ag (Ai (by omega))];exact h.c3,by rw[Ag (Ai (by omega))];exact h.c4,fun j=>by rw[aC];exact h.fz j⟩
theorem T5.set0 {w:World} {b:Nat} {k:Int} {a:ByteArray} {n:Nat} {f t:Int} (h:T5 w b k a n f t) (x:Int):T5 (w.setCell ⟨b,0,none⟩ (.int .i64 x)) b x a n f t :=
 ⟨A8 h.c0,by rw[Ag (Ai (by omega))];exact h.c1,by rw[Ag (Ai (by omega))];exact h.c2,by rw[Ag (Ai (by omega))];exact h.c3,by rw[Ag (Ai (by omega))];exact h.c4,fun j=>by rw[aC];exact h.fz j⟩
theorem Bf {w:World} {b:Nat} {k:Int} {o:ByteArray} {n:Nat} {f t:Int} (h:T5 w b k o n f t) (g:Int) (c:ByteArray) (i:Nat) (e l:Int) :
  ∃Z,Z=((((w.setCell ⟨b,0,none⟩ (.int .i64 g)).setCell ⟨b,1,none⟩ (.string c)).setCell ⟨b,2,none⟩ (.float .f64 i)).setCell ⟨b,3,none⟩ (.int .i64 e)).setCell ⟨b,4,none⟩ (.int .i64 l)/\T5 Z b g c i e l/\∀N d,Below N d w->N<=b->Below N d Z:=by
 refine⟨_,rfl,⟨?_,?_,?_,?_,?_,fun j=>?_⟩,fun N d m a=>((((m.setCell (p:=⟨b,0,none⟩) a _).setCell (p:=⟨b,1,none⟩) a _).setCell (p:=⟨b,2,none⟩) a _).setCell (p:=⟨b,3,none⟩) a _).setCell (p:=⟨b,4,none⟩) a _⟩
 ·rw[Ag (Ai (by omega)),Ag (Ai (by omega)),Ag (Ai (by omega)),Ag (Ai (by omega))];exact A8 h.c0
 ·rw[Ag (Ai (by omega)),Ag (Ai (by omega)),Ag (Ai (by omega))];exact A8 (by rw[Ag (Ai (by omega))];exact h.c1)
 ·rw[Ag (Ai (by omega)),Ag (Ai (by omega))];exact A8 (by rw[Ag (Ai (by omega)),Ag (Ai (by omega))];exact h.c2)
 ·rw[Ag (Ai (by omega))];exact A8 (by rw[Ag (Ai (by omega)),Ag (Ai (by omega)),Ag (Ai (by omega))];exact h.c3)
 ·exact A8 (by rw[Ag (Ai (by omega)),Ag (Ai (by omega)),Ag (Ai (by omega)),Ag (Ai (by omega))];exact h.c4)
 rw[aC,aC,aC,aC,aC];exact h.fz j
theorem WK (w:World) (K:Int) (T:TypeId) (W:World) (h:(((w.alloc (.cells #[.int .i64 0,.string ⟨#[]⟩,.float .f64 0,.int .i64 0,.int .i64 0] T)).alloc (.cells #[.int .i64 0,.string ⟨#[]⟩,.float .f64 0,.int .i64 K,.int .i64 K] T)).alloc (.cells #[.int .i64 0,.string ⟨#[]⟩,.float .f64 0,.int .i64 K,.int .i64 0] T))=W) :
  T5 W w.heap.size 0 ⟨#[]⟩ 0 0 0/\T5 W (w.heap.size+1) 0 ⟨#[]⟩ 0 K K/\T5 W (w.heap.size+1+1) 0 ⟨#[]⟩ 0 K 0/\Below w.heap.size w W:=by
 subst h;refine⟨((T5.new w 0 ⟨#[]⟩ 0 0 0 T).alloc _).alloc _,?_,?_,?_⟩
 ·have h:=(T5.new (w.alloc (.cells #[.int .i64 0,.string ⟨#[]⟩,.float .f64 0,.int .i64 0,.int .i64 0] T)) 0 ⟨#[]⟩ 0 K K T).alloc (.cells #[.int .i64 0,.string ⟨#[]⟩,.float .f64 0,.int .i64 K,.int .i64 0] T)
  rw[show (w.alloc (.cells #[.int .i64 0,.string ⟨#[]⟩,.float .f64 0,.int .i64 0,.int .i64 0] T)).heap.size=w.heap.size+1 by simp] at h;exact h
 ·have h:=T5.new ((w.alloc (.cells #[.int .i64 0,.string ⟨#[]⟩,.float .f64 0,.int .i64 0,.int .i64 0] T)).alloc (.cells #[.int .i64 0,.string ⟨#[]⟩,.float .f64 0,.int .i64 K,.int .i64 K] T)) 0 ⟨#[]⟩ 0 K 0 T
  rw[show ((w.alloc (.cells #[.int .i64 0,.string ⟨#[]⟩,.float .f64 0,.int .i64 0,.int .i64 0] T)).alloc (.cells #[.int .i64 0,.string ⟨#[]⟩,.float .f64 0,.int .i64 K,.int .i64 K] T)).heap.size=w.heap.size+1+1 by simp] at h;exact h
 exact(((Below.refl _ _).alloc (aB _) _).alloc (by simp) _).alloc (by simp;omega) _
theorem Kq (s:ByteArray) (a:Nat) (T:Bool) (w:World) (S:Value) (hs:s.size<=140737488351232) (ha:a<=s.size)
  (s0:CV s.data.toList (Abd s.data.toList a)->∃x,x<18446744073709551616/\(FloatKind.f64.format.order x 9218868437227405311==some .gt)=KW x/\S=F_ x (Bc s.data.toList (Abd s.data.toList a) (Abd s.data.toList a+An (s.data.toList.drop (Abd s.data.toList a)))) (Abd s.data.toList a:Nat) (Abd s.data.toList a+An (s.data.toList.drop (Abd s.data.toList a)):Nat) /\
    ∀W,Below w.heap.size w W->Calls prog 84 #[.string (s.extract (Abd s.data.toList a) (Abd s.data.toList a+An (s.data.toList.drop (Abd s.data.toList a)))),.int .i64 64] W fun e m=>∃v,e = .returned (.tuple #[.float .f64 x,v])/\Below W.heap.size W m) :
  Calls prog 49 #[.string s,.int .i64 a,.bool T] w fun e m=>e = .returned (AJ s.data.toList T S (Abd s.data.toList a))/\Below w.heap.size w m:=by
 obtain⟨K,hK⟩:∃K,Abd s.data.toList a=K:=⟨_,rfl⟩
 have n1:Hid (∀W,Calls prog 75 #[.string s,.int .i64 (min (a:Int) s.size)] W fun e m=>e = .returned (.int .i64 (K:Nat))/\W=m):=fun W=>by
  have h:=Qe s a W hs ha;rw[show min (a:Int) s.size=a by omega];rw[hK] at h;exact h
 rw[hK] at s0 ⊢;have P:=aA s0;clear hK s0
 go_in
 go_upto_region 4 with(go_at_call 75;refine(n1.out _).mono ?_;rintro e m ⟨rfl,rfl⟩)
 generalize hW:(((w.alloc (.cells #[.int .i64 0,.string ⟨#[]⟩,.float .f64 0,.int .i64 0,.int .i64 0] 70)).alloc (.cells #[.int .i64 0,.string ⟨#[]⟩,.float .f64 0,.int .i64 K,.int .i64 K] 70)).alloc (.cells #[.int .i64 0,.string ⟨#[]⟩,.float .f64 0,.int .i64 K,.int .i64 0] 70))=W;obtain⟨t6,t8,t9,hB⟩:=WK w K _ W hW;have f:=aA t6;have j:=aA t8;have r:=aA t9;have o:=aA hB;obtain⟨a0,a1,a2,a3,a4,z⟩:=t6;obtain⟨b0,b1,b2,b3,b4,A⟩:=t8;obtain⟨d0,d1,d2,d3,d4,N⟩:=t9;clear hW hB n1;by_cases f1:K<s.size
 ·have hl:K<s.data.toList.length:=by simpa using f1
  have HD:Hid (s.data.toList.drop K=s[K]::s.data.toList.drop (K+1)):=Aq s.data.toList K hl;have V:=aA (fun(c:UInt8) W=>Ael (c.toNat:Int) W);by_cases O:s[K]=10
  ·have HV:Hid (AJ s.data.toList T S K = .tuple #[Ap 1 [] 0 K (K+1),.int .i64 0]):=by
    unfold Hid AJ;rw[HD.out];exact if_pos O
   have e1:((s[K].toNat:Int)==10)=true:=AH (d:=10) O;clear O;go_wp2;obtain⟨Z,u,D,y⟩:=Bf ((f.out.other ⟨w.heap.size+1,0,none⟩ (.int .i64 1) (by dsimp only;omega)).other ⟨w.heap.size+1,4,none⟩ (.int .i64 (K+1)) (by dsimp only;omega)) 1 ⟨#[]⟩ 0 K (K+1);rw[<- u];have l:=y w.heap.size w ((o.out.setCell (p:=⟨w.heap.size+1,0,none⟩) (by dsimp only;omega) _).setCell (p:=⟨w.heap.size+1,4,none⟩) (by dsimp only;omega) _) (aB _);obtain⟨E,F,G,H,I,_⟩:=D;clear u y;refine bodyPost_ret (v:=.tuple #[Ap 1 [] 0 K (K+1),.int .i64 0]) (by simp[results,results49,go_sem,Ap,E,F,G,H,I]) rfl ⟨by rw[HV.out],l⟩
  have e1:((s[K].toNat:Int)==10)=false:=Ao (d:=10) O;by_cases hL:AbH s[K]=true
  ·have g1:Hid (∀W,Calls prog 76 #[.int .u8 s[K].toNat] W fun e m=>e = .returned (.bool true)/\W=m):=fun W=>by
    have h:=V.out s[K] W;rw[show DI (s[K].toNat:Int)=true from hL] at h;exact h
   have HV:Hid (AJ s.data.toList T S K = .tuple #[DG s.data.toList K,.int .i64 0]):=by
    unfold Hid AJ;rw[HD.out];dsimp only;rw[if_neg O,if_neg ?_,if_pos hL];rintro(h | ⟨h,_⟩)
    ·exact absurd hL (by rw[L8 h];decide)
    rw[h] at hL;exact absurd hL (by decide)
   clear O;have i1:=aA (fun(c:UInt8) W=>EY (c.toNat:Int) W)
   go_wp2_with (go_at_call 76;refine(g1.out _).mono ?_;rintro e m ⟨rfl,rfl⟩)
   go_loopg [] (s.size-K) (fun g wr=>∃k:Nat,g+k=s.size/\K<=k/\Hid (T5 wr w.heap.size 0 ⟨#[]⟩ 0 0 0)/\Hid (T5 wr (w.heap.size+1) 0 ⟨#[]⟩ 0 K k)/\Hid (Below w.heap.size w wr)/\Hid (Co s.data.toList K=k+Al BI (s.data.toList.drop k)))
   case atStart=>exact⟨K,by omega,aB _,f,j,o,rfl⟩
   clear a0 a1 a2 a3 a4 z b0 b1 b2 b3 b4 A d0 d1 d2 d3 d4 N f j r o P g1;obtain⟨k,x1,i2,f,j,o,HW⟩:=hrel;obtain⟨a0,a1,a2,a3,a4,z⟩:=f.out;obtain⟨b0,b1,b2,b3,b4,A⟩:=j.out;by_cases k1:k<s.size
   ·have c2:k<s.data.toList.length:=by simpa using k1
    have c1:Hid (Al BI (s.data.toList.drop k)=if BI s[k]=true then Al BI (s.data.toList.drop (k+1))+1 else 0):=by
     unfold Hid;rw[Aq _ _ c2];rfl
    by_cases q0:BI s[k]=true
    ·have HN:Hid (Co s.data.toList K=(k+1)+Al BI (s.data.toList.drop (k+1))):=by
      unfold Hid;rw[HW.out,c1.out,if_pos q0];omega
     have r1:DI (s[k].toNat:Int)=true\/(DI (s[k].toNat:Int)=false/\C3 (s[k].toNat:Int)=true):=by
      have h:(DI (s[k].toNat:Int)||C3 (s[k].toNat:Int))=true:=q0
      cases hx:DI (s[k].toNat:Int)
      ·rw[hx] at h;exact .inr ⟨rfl,h⟩
      exact .inl rfl
     clear HW c1 q0;rcases r1 with hq | ⟨hq,f2⟩
     all_goals
      go_wp2_with (first | (go_at_call 76;refine(V.out _ _).mono ?_;rintro e m ⟨rfl,rfl⟩) | (go_at_call 77;refine(i1.out _ _).mono ?_;rintro e m ⟨rfl,rfl⟩))
      go_roundg (gk-1)
      case measure=>omega
      exact⟨k+1,by omega,by omega,f.out.other ⟨w.heap.size+1,4,none⟩ _ (by dsimp only;omega),j.out.set4 _,o.out.setCell (p:=⟨w.heap.size+1,4,none⟩) (by dsimp only;omega) _,HN⟩
    have J:Hid (Co s.data.toList K=k):=by unfold Hid;rw[HW.out,c1.out,if_neg q0];rfl
    have hq:DI (s[k].toNat:Int)=false/\C3 (s[k].toNat:Int)=false:=by
     have h:(DI (s[k].toNat:Int)||C3 (s[k].toNat:Int))=false:=Bool.eq_false_iff.2 q0;exact Bool.or_eq_false_iff.1 h
    obtain⟨hq,f2⟩:=hq;clear HW c1 q0 x1;obtain⟨iw,B⟩:∃b,Dj (Bc s.data.toList K k)=b:=⟨_,rfl⟩;obtain⟨ib,L⟩:∃b,AbT (Bc s.data.toList K k)=b:=⟨_,rfl⟩
    have HX:Hid ((⟨(Bc s.data.toList K k).toArray⟩:ByteArray)=s.extract K k):=by
     have h:(s.extract K k).data.toList=Bc s.data.toList K k:=aD _ _ _;unfold Hid;rw[<- h]
    have f0:Hid (∀W,Calls prog 78 #[.string (s.extract K k)] W fun e m=>e = .returned (.bool iw)/\W=m):=fun W=>by
     have h:=Fy (s.extract K k) W;rw[aD] at h;rw[<- B];exact h
    have e0:Hid (∀W,Calls prog 79 #[.string (s.extract K k)] W fun e m=>e = .returned (.bool ib)/\W=m):=fun W=>by
     have h:=AcG (s.extract K k) W;rw[aD] at h;rw[<- L];exact h
    go_upto_region 16 with(first | (go_at_call 76;refine(V.out _ _).mono ?_;rintro e m ⟨rfl,rfl⟩) | (go_at_call 77;refine(i1.out _ _).mono ?_;rintro e m ⟨rfl,rfl⟩))
    have t6:=(f.out.other ⟨w.heap.size+1,1,none⟩ (.string (s.extract K k)) (by dsimp only;omega)).other ⟨w.heap.size+1,0,none⟩ (.int .i64 5) (by dsimp only;omega);have t8:=(j.out.set1 (s.extract K k)).set0 5;have hb:=(o.out.setCell (p:=⟨w.heap.size+1,1,none⟩) (by dsimp only;omega) (.string (s.extract K k))).setCell (p:=⟨w.heap.size+1,0,none⟩) (by dsimp only;omega) (.int .i64 5);clear a0 a1 a2 a3 a4 z b0 b1 b2 b3 b4 A f j o;generalize (wr.setCell ⟨w.heap.size+1,1,none⟩ (.string (s.extract K k))).setCell ⟨w.heap.size+1,0,none⟩ (.int .i64 5)=W5 at *;have f:=aA t6;have o:=aA hb;obtain⟨a0,a1,a2,a3,a4,z⟩:=t6;obtain⟨b0,b1,b2,b3,b4,A⟩:=t8
    clear hb
    cases iw with
    | true =>
      have hk:A6 s.data.toList K=8:=by
       unfold A6;rw[J.out,if_pos B]
      have q:Hid (AJ s.data.toList T S K = .tuple #[Ap 8 (Bc s.data.toList K k) 0 K k,.int .i64 0]):=by
       unfold Hid;rw[HV.out,DG,hk,J.out]
      clear B L hk
      go_wp2_with (first | (go_at_call 78;refine(f0.out _).mono ?_;rintro e m ⟨rfl,rfl⟩) | (go_at_call 79;refine(e0.out _).mono ?_;rintro e m ⟨rfl,rfl⟩))
      obtain⟨Z,u,D,y⟩:=Bf (f.out.other ⟨w.heap.size+1,0,none⟩ (.int .i64 8) (by dsimp only;omega)) 8 (s.extract K k) 0 K k;rw[<- u];have l:=y w.heap.size w (o.out.setCell (p:=⟨w.heap.size+1,0,none⟩) (by dsimp only;omega) (.int .i64 8)) (aB _);obtain⟨E,F,G,H,I,_⟩:=D;clear u y;refine bodyPost_ret (v:=.tuple #[.agg #[.int .i64 8,.string (s.extract K k),.float .f64 0,.int .i64 K,.int .i64 k],.int .i64 0]) (by simp[results,results49,go_sem,E,F,G,H,I]) rfl ⟨by rw[q.out,Ap,HX.out],l⟩
    | false =>
      cases ib with
      | true =>
        have hk:A6 s.data.toList K=7:=by
         unfold A6;rw[J.out,if_neg (by rw[B];decide),if_pos L]
        have q:Hid (AJ s.data.toList T S K = .tuple #[Ap 7 (Bc s.data.toList K k) 0 K k,.int .i64 0]):=by
         unfold Hid;rw[HV.out,DG,hk,J.out]
        clear B L hk
        go_wp2_with (first | (go_at_call 78;refine(f0.out _).mono ?_;rintro e m ⟨rfl,rfl⟩) | (go_at_call 79;refine(e0.out _).mono ?_;rintro e m ⟨rfl,rfl⟩))
        obtain⟨Z,u,D,y⟩:=Bf (f.out.other ⟨w.heap.size+1,0,none⟩ (.int .i64 7) (by dsimp only;omega)) 7 (s.extract K k) 0 K k;rw[<- u];have l:=y w.heap.size w (o.out.setCell (p:=⟨w.heap.size+1,0,none⟩) (by dsimp only;omega) (.int .i64 7)) (aB _);obtain⟨E,F,G,H,I,_⟩:=D;clear u y;refine bodyPost_ret (v:=.tuple #[.agg #[.int .i64 7,.string (s.extract K k),.float .f64 0,.int .i64 K,.int .i64 k],.int .i64 0]) (by simp[results,results49,go_sem,E,F,G,H,I]) rfl ⟨by rw[q.out,Ap,HX.out],l⟩
      | false =>
        by_cases m0:s[k]=40
        ·have v1:((s[k].toNat:Int)==40)=true:=AH (d:=40) m0
         have Q:s.data.toList[k]?=some 40:=by rw[aI (by simpa using k1)];exact congrArg some m0
         have hk:A6 s.data.toList K=6:=by
          unfold A6;rw[J.out,if_neg (by rw[B];decide),if_neg (by rw[L];decide),if_pos Q]
         have q:Hid (AJ s.data.toList T S K = .tuple #[Ap 6 (Bc s.data.toList K k) 0 K k,.int .i64 0]):=by
          unfold Hid;rw[HV.out,DG,hk,J.out]
         clear B L m0 hk Q
         go_wp2_with (first | (go_at_call 78;refine(f0.out _).mono ?_;rintro e m ⟨rfl,rfl⟩) | (go_at_call 79;refine(e0.out _).mono ?_;rintro e m ⟨rfl,rfl⟩))
         obtain⟨Z,u,D,y⟩:=Bf (f.out.other ⟨w.heap.size+1,0,none⟩ (.int .i64 6) (by dsimp only;omega)) 6 (s.extract K k) 0 K k;rw[<- u];have l:=y w.heap.size w (o.out.setCell (p:=⟨w.heap.size+1,0,none⟩) (by dsimp only;omega) (.int .i64 6)) (aB _);obtain⟨E,F,G,H,I,_⟩:=D;clear u y;refine bodyPost_ret (v:=.tuple #[.agg #[.int .i64 6,.string (s.extract K k),.float .f64 0,.int .i64 K,.int .i64 k],.int .i64 0]) (by simp[results,results49,go_sem,E,F,G,H,I]) rfl ⟨by rw[q.out,Ap,HX.out],l⟩
        have v1:((s[k].toNat:Int)==40)=false:=Ao (d:=40) m0;have Q:¬ s.data.toList[k]?=some 40:=by rw[aI (by simpa using k1)];exact fun h=>m0 (Option.some.inj h)
        have hk:A6 s.data.toList K=5:=by
         unfold A6;rw[J.out,if_neg (by rw[B];decide),if_neg (by rw[L];decide),if_neg Q]
        have q:Hid (AJ s.data.toList T S K = .tuple #[Ap 5 (Bc s.data.toList K k) 0 K k,.int .i64 0]):=by
         unfold Hid;rw[HV.out,DG,hk,J.out]
        clear B L m0 hk Q
        go_wp2_with (first | (go_at_call 78;refine(f0.out _).mono ?_;rintro e m ⟨rfl,rfl⟩) | (go_at_call 79;refine(e0.out _).mono ?_;rintro e m ⟨rfl,rfl⟩))
        obtain⟨Z,u,D,y⟩:=Bf f.out 5 (s.extract K k) 0 K k;rw[<- u];have l:=y w.heap.size w o.out (aB _);obtain⟨E,F,G,H,I,_⟩:=D;clear u y;refine bodyPost_ret (v:=.tuple #[.agg #[.int .i64 5,.string (s.extract K k),.float .f64 0,.int .i64 K,.int .i64 k],.int .i64 0]) (by simp[results,results49,go_sem,E,F,G,H,I]) rfl ⟨by rw[q.out,Ap,HX.out],l⟩
   have J:Hid (Co s.data.toList K=k):=by unfold Hid;rw[HW.out,aE (by simp;omega)];rfl
   clear HW;obtain⟨iw,B⟩:∃b,Dj (Bc s.data.toList K k)=b:=⟨_,rfl⟩;obtain⟨ib,L⟩:∃b,AbT (Bc s.data.toList K k)=b:=⟨_,rfl⟩
   have HX:Hid ((⟨(Bc s.data.toList K k).toArray⟩:ByteArray)=s.extract K k):=by
    have h:(s.extract K k).data.toList=Bc s.data.toList K k:=aD _ _ _;unfold Hid;rw[<- h]
   have f0:Hid (∀W,Calls prog 78 #[.string (s.extract K k)] W fun e m=>e = .returned (.bool iw)/\W=m):=fun W=>by
    have h:=Fy (s.extract K k) W;rw[aD] at h;rw[<- B];exact h
   have e0:Hid (∀W,Calls prog 79 #[.string (s.extract K k)] W fun e m=>e = .returned (.bool ib)/\W=m):=fun W=>by
    have h:=AcG (s.extract K k) W;rw[aD] at h;rw[<- L];exact h
   go_upto_region 16 with(first | (go_at_call 76;refine(V.out _ _).mono ?_;rintro e m ⟨rfl,rfl⟩) | (go_at_call 77;refine(i1.out _ _).mono ?_;rintro e m ⟨rfl,rfl⟩))
   have t6:=(f.out.other ⟨w.heap.size+1,1,none⟩ (.string (s.extract K k)) (by dsimp only;omega)).other ⟨w.heap.size+1,0,none⟩ (.int .i64 5) (by dsimp only;omega);have t8:=(j.out.set1 (s.extract K k)).set0 5;have hb:=(o.out.setCell (p:=⟨w.heap.size+1,1,none⟩) (by dsimp only;omega) (.string (s.extract K k))).setCell (p:=⟨w.heap.size+1,0,none⟩) (by dsimp only;omega) (.int .i64 5);clear a0 a1 a2 a3 a4 z b0 b1 b2 b3 b4 A f j o;generalize (wr.setCell ⟨w.heap.size+1,1,none⟩ (.string (s.extract K k))).setCell ⟨w.heap.size+1,0,none⟩ (.int .i64 5)=W5 at *;have f:=aA t6;have o:=aA hb;obtain⟨a0,a1,a2,a3,a4,z⟩:=t6;obtain⟨b0,b1,b2,b3,b4,A⟩:=t8
   clear hb
   cases iw with
   | true =>
     have hk:A6 s.data.toList K=8:=by
      unfold A6;rw[J.out,if_pos B]
     have q:Hid (AJ s.data.toList T S K = .tuple #[Ap 8 (Bc s.data.toList K k) 0 K k,.int .i64 0]):=by
      unfold Hid;rw[HV.out,DG,hk,J.out]
     clear B L hk
     go_wp2_with (first | (go_at_call 78;refine(f0.out _).mono ?_;rintro e m ⟨rfl,rfl⟩) | (go_at_call 79;refine(e0.out _).mono ?_;rintro e m ⟨rfl,rfl⟩))
     obtain⟨Z,u,D,y⟩:=Bf (f.out.other ⟨w.heap.size+1,0,none⟩ (.int .i64 8) (by dsimp only;omega)) 8 (s.extract K k) 0 K k;rw[<- u];have l:=y w.heap.size w (o.out.setCell (p:=⟨w.heap.size+1,0,none⟩) (by dsimp only;omega) (.int .i64 8)) (aB _);obtain⟨E,F,G,H,I,_⟩:=D;clear u y;refine bodyPost_ret (v:=.tuple #[.agg #[.int .i64 8,.string (s.extract K k),.float .f64 0,.int .i64 K,.int .i64 k],.int .i64 0]) (by simp[results,results49,go_sem,E,F,G,H,I]) rfl ⟨by rw[q.out,Ap,HX.out],l⟩
   | false =>
     cases ib with
     | true =>
       have hk:A6 s.data.toList K=7:=by
        unfold A6;rw[J.out,if_neg (by rw[B];decide),if_pos L]
       have q:Hid (AJ s.data.toList T S K = .tuple #[Ap 7 (Bc s.data.toList K k) 0 K k,.int .i64 0]):=by
        unfold Hid;rw[HV.out,DG,hk,J.out]
       clear B L hk
       go_wp2_with (first | (go_at_call 78;refine(f0.out _).mono ?_;rintro e m ⟨rfl,rfl⟩) | (go_at_call 79;refine(e0.out _).mono ?_;rintro e m ⟨rfl,rfl⟩))
       obtain⟨Z,u,D,y⟩:=Bf (f.out.other ⟨w.heap.size+1,0,none⟩ (.int .i64 7) (by dsimp only;omega)) 7 (s.extract K k) 0 K k;rw[<- u];have l:=y w.heap.size w (o.out.setCell (p:=⟨w.heap.size+1,0,none⟩) (by dsimp only;omega) (.int .i64 7)) (aB _);obtain⟨E,F,G,H,I,_⟩:=D;clear u y;refine bodyPost_ret (v:=.tuple #[.agg #[.int .i64 7,.string (s.extract K k),.float .f64 0,.int .i64 K,.int .i64 k],.int .i64 0]) (by simp[results,results49,go_sem,E,F,G,H,I]) rfl ⟨by rw[q.out,Ap,HX.out],l⟩
     | false =>
       have Q:¬ s.data.toList[k]?=some 40:=by rw[List.getElem?_eq_none (by simp;omega)];simp
       have hk:A6 s.data.toList K=5:=by
        unfold A6;rw[J.out,if_neg (by rw[B];decide),if_neg (by rw[L];decide),if_neg Q]
       have q:Hid (AJ s.data.toList T S K = .tuple #[Ap 5 (Bc s.data.toList K k) 0 K k,.int .i64 0]):=by
        unfold Hid;rw[HV.out,DG,hk,J.out]
       clear B L hk Q
       go_wp2_with (first | (go_at_call 78;refine(f0.out _).mono ?_;rintro e m ⟨rfl,rfl⟩) | (go_at_call 79;refine(e0.out _).mono ?_;rintro e m ⟨rfl,rfl⟩))
       obtain⟨Z,u,D,y⟩:=Bf f.out 5 (s.extract K k) 0 K k;rw[<- u];have l:=y w.heap.size w o.out (aB _);obtain⟨E,F,G,H,I,_⟩:=D;clear u y;refine bodyPost_ret (v:=.tuple #[.agg #[.int .i64 5,.string (s.extract K k),.float .f64 0,.int .i64 K,.int .i64 k],.int .i64 0]) (by simp[results,results49,go_sem,E,F,G,H,I]) rfl ⟨by rw[q.out,Ap,HX.out],l⟩
  have h0:DI (s[K].toNat:Int)=false:=Bool.eq_false_iff.2 hL
  have M:Hid (∀W,Calls prog 76 #[.int .u8 s[K].toNat] W fun e m=>e = .returned (.bool false)/\W=m):=fun W=>by
   have h:=V.out s[K] W;rw[h0] at h;exact h
  by_cases hc:s[K]=34
  ·clear hL h0 O V HD
   obtain⟨C,hC⟩:∃C,AF 34 s.data.toList (K+1)=C:=⟨_,rfl⟩
   have l0:Hid (∀W,Calls prog 80 #[.string s,.int .i64 K] W fun e m=>e = .returned (.int .i64 C)/\Below W.heap.size W m):=fun W=>by
    have h:=Hz s K W hs f1 (by rw[hc];decide);rw[hc,hC] at h;exact h
   have e2:((s[K].toNat:Int)==34)=true:=AH (d:=34) hc;have e4:((s[K].toNat:Int)==47)=false:=Ao (d:=47) (by rw[hc];decide);have HV:Hid (AJ s.data.toList T S K=C7 s.data.toList K):=NA hl hc;clear hc a0 a1 a2 a3 a4 z b0 b1 b2 b3 b4 A d0 d1 d2 d3 d4 N P;by_cases g0:C<0
   ·have q:Hid (AJ s.data.toList T S K = .tuple #[Ap 0 [] 0 K 0,.int .i64 21]):=by
     unfold Hid;rw[HV.out];unfold C7;dsimp only;rw[hC,if_pos g0]
    clear hC
    go_wp2_with (first | (go_at_call 76;refine(M.out _).mono ?_;rintro e m ⟨rfl,rfl⟩) | (go_at_call 80;refine(l0.out _).mono ?_;rintro e w1 ⟨rfl,i⟩;have f:=aA (f.out.below i);have o:=aA (o.out.trans (i.mono o.out.size));obtain⟨a0,a1,a2,a3,a4,z⟩:=f.out;obtain⟨b0,b1,b2,b3,b4,A⟩:=j.out.below i;have j:=aA (j.out.below i);obtain⟨d0,d1,d2,d3,d4,N⟩:=r.out.below i;have r:=aA (r.out.below i);clear i))
    obtain⟨Z,u,D,y⟩:=Bf f.out 0 ⟨#[]⟩ 0 K 0;rw[<- u];have l:=y w.heap.size w o.out (aB _);obtain⟨E,F,G,H,I,_⟩:=D;clear u y;refine bodyPost_ret (v:=.tuple #[.agg #[.int .i64 0,.string ⟨#[]⟩,.float .f64 0,.int .i64 K,.int .i64 0],.int .i64 21]) (by simp[results,results49,go_sem,E,F,G,H,I]) rfl ⟨by rw[q.out];rfl,l⟩
   obtain⟨t,ht⟩:∃t:Nat,C=t:=⟨C.toNat,by omega⟩;subst ht;have j0:=Cl _ _ _ _ hC;have g2:t<s.size:=(by simpa using j0.2);have y1:=j0.1;clear j0 g0;obtain⟨X,hX⟩:∃X,s.extract (K+1) t=X:=⟨_,rfl⟩;have n0:X.data.toList=Bc s.data.toList (K+1) t:=by rw[<- hX];exact aD _ _ _
   have o0:X.size<=140737488351232:=by rw[<- hX,ByteArray.size_extract];omega
   have w0:Hid (∀W,Calls prog 82 #[.string X] W fun e m=>e = .returned (GJ (Bc s.data.toList (K+1) t))/\Below W.heap.size W m):=fun W=>by rw[<- n0];exact S9 X W o0
   cases p0:FN (Bc s.data.toList (K+1) t) with
   | none =>
     have q:Hid (AJ s.data.toList T S K = .tuple #[Ap 0 [] 0 K 0,.int .i64 22]):=by
      unfold Hid;rw[HV.out];unfold C7;dsimp only;rw[hC,if_neg (by omega),aH,p0]
     have j1:=aA (Gd p0);clear hC p0 n0 o0
     go_upto_region 33 with(first | (go_at_call 76;refine(M.out _).mono ?_;rintro e m ⟨rfl,rfl⟩) | (go_at_call 80;refine(l0.out _).mono ?_;rintro e w1 ⟨rfl,i⟩;have f:=aA (f.out.below i);have o:=aA (o.out.trans (i.mono o.out.size));obtain⟨a0,a1,a2,a3,a4,z⟩:=f.out;obtain⟨b0,b1,b2,b3,b4,A⟩:=j.out.below i;have j:=aA (j.out.below i);obtain⟨d0,d1,d2,d3,d4,N⟩:=r.out.below i;have r:=aA (r.out.below i);clear i))
     have t6:=f.out.other ⟨w.heap.size+1,4,none⟩ (.int .i64 (t+1)) (by dsimp only;omega);have t8:=j.out.set4 ((t:Int)+1);have t9:=r.out.other ⟨w.heap.size+1,4,none⟩ (.int .i64 (t+1)) (by dsimp only;omega);have hb:=o.out.setCell (p:=⟨w.heap.size+1,4,none⟩) (by dsimp only;omega) (.int .i64 (t+1));clear a0 a1 a2 a3 a4 z b0 b1 b2 b3 b4 A d0 d1 d2 d3 d4 N f j r o;generalize World.setCell _ ⟨w.heap.size+1,4,none⟩ (.int .i64 (t+1))=W5 at *;have f:=aA t6;have j:=aA t8;have r:=aA t9;have o:=aA hb;clear t6 t8 t9 hb
     go_wp2_with (go_at_call 82;(try rw[hX]);refine(w0.out _).mono ?_;rw[j1.out];rintro e w2 ⟨rfl,i⟩;have f:=aA (f.out.below i);obtain⟨a0,a1,a2,a3,a4,z⟩:=f.out;have j:=aA (j.out.below i);obtain⟨b0,b1,b2,b3,b4,A⟩:=j.out;obtain⟨d0,d1,d2,d3,d4,N⟩:=r.out.below i;have o:=aA (o.out.trans (i.mono o.out.size));clear i)
     obtain⟨Z,u,D,y⟩:=Bf f.out 0 ⟨#[]⟩ 0 K 0;rw[<- u];have l:=y w.heap.size w o.out (aB _);obtain⟨E,F,G,H,I,_⟩:=D;clear u y;refine bodyPost_ret (v:=.tuple #[.agg #[.int .i64 0,.string ⟨#[]⟩,.float .f64 0,.int .i64 K,.int .i64 0],.int .i64 22]) (by simp[results,results49,go_sem,E,F,G,H,I]) rfl ⟨by rw[q.out];rfl,l⟩
   | some x =>
     have q:Hid (AJ s.data.toList T S K = .tuple #[Ap 3 x 0 K (t+1),.int .i64 0]):=by
      unfold Hid;rw[HV.out];unfold C7;dsimp only;rw[hC,if_neg (by omega),aH,p0]
     have j1:=aA (Jw p0);clear hC p0 n0 o0
     go_upto_region 33 with(first | (go_at_call 76;refine(M.out _).mono ?_;rintro e m ⟨rfl,rfl⟩) | (go_at_call 80;refine(l0.out _).mono ?_;rintro e w1 ⟨rfl,i⟩;have f:=aA (f.out.below i);have o:=aA (o.out.trans (i.mono o.out.size));obtain⟨a0,a1,a2,a3,a4,z⟩:=f.out;obtain⟨b0,b1,b2,b3,b4,A⟩:=j.out.below i;have j:=aA (j.out.below i);obtain⟨d0,d1,d2,d3,d4,N⟩:=r.out.below i;have r:=aA (r.out.below i);clear i))
     have t6:=f.out.other ⟨w.heap.size+1,4,none⟩ (.int .i64 (t+1)) (by dsimp only;omega);have t8:=j.out.set4 ((t:Int)+1);have t9:=r.out.other ⟨w.heap.size+1,4,none⟩ (.int .i64 (t+1)) (by dsimp only;omega);have hb:=o.out.setCell (p:=⟨w.heap.size+1,4,none⟩) (by dsimp only;omega) (.int .i64 (t+1));clear a0 a1 a2 a3 a4 z b0 b1 b2 b3 b4 A d0 d1 d2 d3 d4 N f j r o;generalize World.setCell _ ⟨w.heap.size+1,4,none⟩ (.int .i64 (t+1))=W5 at *;have f:=aA t6;have j:=aA t8;have r:=aA t9;have o:=aA hb;clear t6 t8 t9 hb
     go_wp2_with (go_at_call 82;(try rw[hX]);refine(w0.out _).mono ?_;rw[j1.out];rintro e w2 ⟨rfl,i⟩;have f:=aA (f.out.below i);obtain⟨a0,a1,a2,a3,a4,z⟩:=f.out;have j:=aA (j.out.below i);obtain⟨b0,b1,b2,b3,b4,A⟩:=j.out;obtain⟨d0,d1,d2,d3,d4,N⟩:=r.out.below i;have o:=aA (o.out.trans (i.mono o.out.size));clear i)
     obtain⟨Z,u,D,y⟩:=Bf ((f.out.other ⟨w.heap.size+1,0,none⟩ (.int .i64 3) (by dsimp only;omega)).other ⟨w.heap.size+1,1,none⟩ (.string ⟨x.toArray⟩) (by dsimp only;omega)) 3 ⟨x.toArray⟩ 0 K (t+1);rw[<- u];have l:=y w.heap.size w ((o.out.setCell (p:=⟨w.heap.size+1,0,none⟩) (by dsimp only;omega) (.int .i64 3)).setCell (p:=⟨w.heap.size+1,1,none⟩) (by dsimp only;omega) (.string ⟨x.toArray⟩)) (aB _);obtain⟨E,F,G,H,I,_⟩:=D;clear u y;refine bodyPost_ret (v:=.tuple #[.agg #[.int .i64 3,.string ⟨x.toArray⟩,.float .f64 0,.int .i64 K,.int .i64 (t+1)],.int .i64 0]) (by simp[results,results49,go_sem,E,F,G,H,I]) rfl ⟨by rw[q.out];rfl,l⟩
  by_cases i0:s[K]=47/\T=true
  ·obtain⟨hc,rfl⟩:=i0
   clear hL h0 O V HD;obtain⟨C,hC⟩:∃C,AF 47 s.data.toList (K+1)=C:=⟨_,rfl⟩
   have l0:Hid (∀W,Calls prog 80 #[.string s,.int .i64 K] W fun e m=>e = .returned (.int .i64 C)/\Below W.heap.size W m):=fun W=>by
    have h:=Hz s K W hs f1 (by rw[hc];decide);rw[hc,hC] at h;exact h
   have e2:((s[K].toNat:Int)==34)=false:=Ao (d:=34) (by rw[hc];decide);have e4:((s[K].toNat:Int)==47)=true:=AH (d:=47) hc;have HV:Hid (AJ s.data.toList true S K=Cr s.data.toList K):=Mk hl hc;clear hc a0 a1 a2 a3 a4 z b0 b1 b2 b3 b4 A d0 d1 d2 d3 d4 N P;by_cases g0:C<0
   ·have q:Hid (AJ s.data.toList true S K = .tuple #[Ap 0 [] 0 K 0,.int .i64 21]):=by
     unfold Hid;rw[HV.out];unfold Cr;dsimp only;rw[hC,if_pos g0]
    clear hC
    go_wp2_with (first | (go_at_call 76;refine(M.out _).mono ?_;rintro e m ⟨rfl,rfl⟩) | (go_at_call 80;refine(l0.out _).mono ?_;rintro e w1 ⟨rfl,i⟩;have f:=aA (f.out.below i);have o:=aA (o.out.trans (i.mono o.out.size));obtain⟨a0,a1,a2,a3,a4,z⟩:=f.out;obtain⟨b0,b1,b2,b3,b4,A⟩:=j.out.below i;have j:=aA (j.out.below i);obtain⟨d0,d1,d2,d3,d4,N⟩:=r.out.below i;have r:=aA (r.out.below i);clear i))
    obtain⟨Z,u,D,y⟩:=Bf f.out 0 ⟨#[]⟩ 0 K 0;rw[<- u];have l:=y w.heap.size w o.out (aB _);obtain⟨E,F,G,H,I,_⟩:=D;clear u y;refine bodyPost_ret (v:=.tuple #[.agg #[.int .i64 0,.string ⟨#[]⟩,.float .f64 0,.int .i64 K,.int .i64 0],.int .i64 21]) (by simp[results,results49,go_sem,E,F,G,H,I]) rfl ⟨by rw[q.out];rfl,l⟩
   obtain⟨t,ht⟩:∃t:Nat,C=t:=⟨C.toNat,by omega⟩;subst ht;have j0:=Cl _ _ _ _ hC;have g2:t<s.size:=(by simpa using j0.2);have y1:=j0.1;clear j0 g0;obtain⟨X,hX⟩:∃X,s.extract (K+1) t=X:=⟨_,rfl⟩;have n0:X.data.toList=Bc s.data.toList (K+1) t:=by rw[<- hX];exact aD _ _ _
   have o0:X.size<=140737488351232:=by rw[<- hX,ByteArray.size_extract];omega
   have s1:BG (Bc s.data.toList (K+1) t)=Df (Bc s.data.toList (K+1) t):=Tc hC;obtain⟨U,hU⟩:∃U:ByteArray,U=⟨(Df (Bc s.data.toList (K+1) t)).toArray⟩:=⟨_,rfl⟩
   have w0:Hid (∀W,Calls prog 81 #[.string X] W fun e m=>e = .returned (.string U)/\W=m):=fun W=>by
    have h:=Fz X W o0;rw[n0,s1,<- hU] at h;exact h
   have q:Hid (AJ s.data.toList true S K = .tuple #[Ap 4 (Df (Bc s.data.toList (K+1) t)) 0 K (t+1),.int .i64 0]):=by
    unfold Hid;rw[HV.out];unfold Cr;dsimp only;rw[hC,if_neg (by omega),aH]
   have HU:=aA hU;clear hC n0 o0 s1 hU
   go_wp2_with (first | (go_at_call 76;refine(M.out _).mono ?_;rintro e m ⟨rfl,rfl⟩) | (go_at_call 80;refine(l0.out _).mono ?_;rintro e w1 ⟨rfl,i⟩;have f:=aA (f.out.below i);have o:=aA (o.out.trans (i.mono o.out.size));obtain⟨a0,a1,a2,a3,a4,z⟩:=f.out;obtain⟨b0,b1,b2,b3,b4,A⟩:=j.out.below i;have j:=aA (j.out.below i);obtain⟨d0,d1,d2,d3,d4,N⟩:=r.out.below i;have r:=aA (r.out.below i);clear i) | (go_at_call 81;(try rw[hX]);refine(w0.out _).mono ?_;rintro e m ⟨rfl,rfl⟩))
   obtain⟨Z,u,D,y⟩:=Bf (((f.out.other ⟨w.heap.size+1,4,none⟩ (.int .i64 (t+1)) (by dsimp only;omega)).other ⟨w.heap.size+1,0,none⟩ (.int .i64 4) (by dsimp only;omega)).other ⟨w.heap.size+1,1,none⟩ (.string U) (by dsimp only;omega)) 4 U 0 K (t+1);rw[<- u];have l:=y w.heap.size w (((o.out.setCell (p:=⟨w.heap.size+1,4,none⟩) (by dsimp only;omega) (.int .i64 (t+1))).setCell (p:=⟨w.heap.size+1,0,none⟩) (by dsimp only;omega) (.int .i64 4)).setCell (p:=⟨w.heap.size+1,1,none⟩) (by dsimp only;omega) (.string U)) (aB _);obtain⟨E,F,G,H,I,_⟩:=D;clear u y;refine bodyPost_ret (v:=.tuple #[.agg #[.int .i64 4,.string U,.float .f64 0,.int .i64 K,.int .i64 (t+1)],.int .i64 0]) (by simp[results,results49,go_sem,E,F,G,H,I]) rfl ⟨by rw[q.out,Ap,<- HU.out],l⟩
  have e2:((s[K].toNat:Int)==34)=false:=Ao (d:=34) hc;obtain⟨n,hn⟩:∃n,An (s.data.toList.drop K)=n:=⟨_,rfl⟩
  have v0:Hid (∀W,Calls prog 83 #[.string s,.int .i64 K] W fun e m=>e = .returned (.int .i64 ((K:Int)+n))/\W=m):=fun W=>by
   have h:=Lc s K W (by unfold maxLen;omega) (by omega);rw[hn] at h;exact h
  have k2:K+n<=s.size:=by
   have:=D9 (s.data.toList.drop K);rw[hn,aG] at this;have h2:s.data.toList.length=s.size:=rfl;omega
  have k0:((s[K].toNat:Int)==47)=false\/(((s[K].toNat:Int)==47)=true/\T=false):=by
   by_cases Y:s[K]=47
   ·exact .inr ⟨AH (d:=47) Y,by cases T;rfl;exact absurd ⟨Y,rfl⟩ i0⟩
   exact .inl (Ao (d:=47) Y)
  have hd:(Aj s[K]=true\/(s[K]=46/\((s.data.toList.drop (K+1)).head?.map Aj)=some true))↔n≠0:=by
   constructor
   ·intro h hz
    refine(Ei s[K] (s.data.toList.drop (K+1)) ?_).2 (by rw[<- HD.out,hn];exact hz);rcases h with h | ⟨h1,h2⟩
    ·exact .inl h
    refine .inr ⟨h1,?_⟩
    cases hr:s.data.toList.drop (K+1) with
    | nil=>rw[hr] at h2;cases h2
    | cons d r'=>rw[hr] at h2;exact⟨d,r',rfl,Option.some.inj h2⟩
   intro h;exact VD (by rw[<- HD.out,hn];exact h)
  by_cases l1:n=0
  ·obtain⟨g,hg⟩:∃g,B6 (s.data.toList.drop K)=g:=⟨_,rfl⟩
   obtain⟨R,hR⟩:∃R:ByteArray,R=⟨(Bc s.data.toList K (K+g)).toArray⟩:=⟨_,rfl⟩
   have m1:Hid (∀W,Calls prog 85 #[.string s,.int .i64 K] W fun e m=>e = .returned (.string R)/\W=m):=fun W=>by
    have h:=MB s K W hs f1;unfold GI at h;rw[hg,<- hR] at h;exact h
   have j2:K+g<=s.size:=by rw[<- hg];exact SE hl
   have o1:R.size=g:=by
    rw[hR];show (Bc s.data.toList K (K+g)).toArray.size=g;rw[List.size_toArray];unfold Bc;rw[List.length_take,aG];have h2:s.data.toList.length=s.size:=rfl;omega
   have y0:Hid (AJ s.data.toList T S K=if 0<g then .tuple #[Ap 9 (Bc s.data.toList K (K+g)) 0 K (K+g),.int .i64 0] else .tuple #[Ap 0 [] 0 K 0,.int .i64 20]):=by
    unfold Hid AJ;rw[HD.out];dsimp only;rw[if_neg O,if_neg (fun h=>hd.1 h l1),if_neg hL,if_neg hc,if_neg i0,<- HD.out,hg]
   by_cases p1:0<g
   ·have q:Hid (AJ s.data.toList T S K = .tuple #[Ap 9 (Bc s.data.toList K (K+g)) 0 K (K+g),.int .i64 0]):=by unfold Hid;rw[y0.out,if_pos p1]
    have l2:(R.toList==[])=false:=by
     rw[MV];refine beq_eq_false_iff_ne.2 fun h=>?_;have:R.data.toList.length=g:=o1;rw[h] at this;simp at this;omega
    have t1:=aA hR;clear hL h0 O V hc i0 hd hg hR y0 P HD hn;rcases k0 with Y | ⟨Y,rfl⟩
    all_goals
     go_wp2_with (first | (go_at_call 76;refine(M.out _).mono ?_;rintro e m ⟨rfl,rfl⟩) | (go_at_call 83;refine(v0.out _).mono ?_;rintro e m ⟨rfl,rfl⟩) | (go_at_call 85;refine(m1.out _).mono ?_;rintro e m ⟨rfl,rfl⟩))
     trace_state
     obtain⟨Z,u,D,y⟩:=Bf f.out 9 R 0 K (K+g);rw[<- u];have l:=y w.heap.size w o.out (aB _);obtain⟨E,F,G,H,I,_⟩:=D;clear u y;refine bodyPost_ret (v:=.tuple #[.agg #[.int .i64 9,.string R,.float .f64 0,.int .i64 K,.int .i64 (K+g)],.int .i64 0]) (by simp[results,results49,go_sem,E,F,G,H,I]) rfl ⟨by rw[q.out,Ap,<- t1.out],l⟩
   obtain rfl:g=0:=(by omega);have q:Hid (AJ s.data.toList T S K = .tuple #[Ap 0 [] 0 K 0,.int .i64 20]):=by unfold Hid;rw[y0.out,if_neg p1]
   obtain rfl:R=⟨#[]⟩:=by rw[hR];apply GU;unfold Bc;simp
   clear hL h0 O V hc i0 hd hg hR y0 P HD hn o1;rcases k0 with Y | ⟨Y,rfl⟩
   all_goals
    go_wp2_with (first | (go_at_call 76;refine(M.out _).mono ?_;rintro e m ⟨rfl,rfl⟩) | (go_at_call 83;refine(v0.out _).mono ?_;rintro e m ⟨rfl,rfl⟩) | (go_at_call 85;refine(m1.out _).mono ?_;rintro e m ⟨rfl,rfl⟩))
    obtain⟨Z,u,D,y⟩:=Bf f.out 0 ⟨#[]⟩ 0 K 0;rw[<- u];have l:=y w.heap.size w o.out (aB _);obtain⟨E,F,G,H,I,_⟩:=D;clear u y;refine bodyPost_ret (v:=.tuple #[.agg #[.int .i64 0,.string ⟨#[]⟩,.float .f64 0,.int .i64 K,.int .i64 0],.int .i64 20]) (by simp[results,results49,go_sem,E,F,G,H,I]) rfl ⟨by rw[q.out];rfl,l⟩
  have c0:CV s.data.toList K:=Ft s.data.toList K hl (hd.2 l1);obtain⟨x,hx,q1,t0,hP⟩:=P.out c0;rw[hn] at t0 hP;have HP:=aA hP
  have x0:Hid (AJ s.data.toList T S K=S):=by
   unfold Hid AJ;rw[HD.out];dsimp only;rw[if_neg O,if_pos (hd.2 l1)]
  have HX:Hid ((⟨(Bc s.data.toList K (K+n)).toArray⟩:ByteArray)=s.extract K (K+n)):=by
   have h:(s.extract K (K+n)).data.toList=Bc s.data.toList K (K+n):=aD _ _ _;unfold Hid;rw[<- h]
  obtain⟨bi,r0⟩:∃b,KW x=b:=⟨_,rfl⟩;rw[r0] at q1
  cases bi with
  | true =>
    have q:Hid (AJ s.data.toList T S K = .tuple #[Ap 0 [] 0 K 0,.int .i64 23]):=by unfold Hid;rw[x0.out,t0];unfold F_;rw[if_pos r0]
    clear hL h0 O V hc i0 hd x0 t0 hP P HD hn r0 c0;rcases k0 with Y | ⟨Y,rfl⟩
    all_goals
     go_wp2_with (first | (go_at_call 76;refine(M.out _).mono ?_;rintro e m ⟨rfl,rfl⟩) | (go_at_call 83;refine(v0.out _).mono ?_;rintro e m ⟨rfl,rfl⟩) | (go_at_call 84;refine(HP.out _ o.out).mono ?_;rintro e w2 ⟨pv,rfl,i⟩;have f:=aA (f.out.below i);obtain⟨a0,a1,a2,a3,a4,z⟩:=f.out;obtain⟨d0,d1,d2,d3,d4,N⟩:=r.out.below i;have o:=aA (o.out.trans (i.mono o.out.size));clear i))
     obtain⟨Z,u,D,y⟩:=Bf f.out 0 ⟨#[]⟩ 0 K 0;rw[<- u];have l:=y w.heap.size w o.out (aB _);obtain⟨E,F,G,H,I,_⟩:=D;clear u y;refine bodyPost_ret (v:=.tuple #[.agg #[.int .i64 0,.string ⟨#[]⟩,.float .f64 0,.int .i64 K,.int .i64 0],.int .i64 23]) (by simp[results,results49,go_sem,E,F,G,H,I]) rfl ⟨by rw[q.out];rfl,l⟩
  | false =>
    have q:Hid (AJ s.data.toList T S K = .tuple #[Ap 2 (Bc s.data.toList K (K+n)) x K (K+n),.int .i64 0]):=by unfold Hid;rw[x0.out,t0];unfold F_;rw[if_neg (by rw[r0];decide)];rfl
    clear hL h0 O V hc i0 hd x0 t0 hP P HD hn r0 c0;rcases k0 with Y | ⟨Y,rfl⟩
    all_goals
     go_wp2_with (first | (go_at_call 76;refine(M.out _).mono ?_;rintro e m ⟨rfl,rfl⟩) | (go_at_call 83;refine(v0.out _).mono ?_;rintro e m ⟨rfl,rfl⟩) | (go_at_call 84;refine(HP.out _ o.out).mono ?_;rintro e w2 ⟨pv,rfl,i⟩;have f:=aA (f.out.below i);obtain⟨a0,a1,a2,a3,a4,z⟩:=f.out;obtain⟨d0,d1,d2,d3,d4,N⟩:=r.out.below i;have o:=aA (o.out.trans (i.mono o.out.size));clear i))
     obtain⟨Z,u,D,y⟩:=Bf f.out 2 (s.extract K (K+n)) x K (K+n);rw[<- u];have l:=y w.heap.size w o.out (aB _);obtain⟨E,F,G,H,I,_⟩:=D;clear u y;refine bodyPost_ret (v:=.tuple #[.agg #[.int .i64 2,.string (s.extract K (K+n)),.float .f64 x,.int .i64 K,.int .i64 (K+n)],.int .i64 0]) (by simp[results,results49,go_sem,E,F,G,H,I]) rfl ⟨by rw[q.out,Ap,HX.out],l⟩
 have HV:Hid (AJ s.data.toList T S K = .tuple #[Ap 0 [] 0 K K,.int .i64 0]):=by
  unfold Hid AJ;rw[aE (by simp;omega)]
 go_wp2
 trace_state
 refine bodyPost_ret (v:=.tuple #[Ap 0 [] 0 K K,.int .i64 0]) (by simp[results,results49,go_sem,Ap,a0,a1,a2,a3,a4]) rfl ⟨by rw[HV.out],?_⟩
 repeat' (first | (with_reducible exact o.out) | (refine Below.setCell ?_ (by dsimp only;omega) _))
end Go.Proofs.YtfblenhlildnaaaGreatDoor
