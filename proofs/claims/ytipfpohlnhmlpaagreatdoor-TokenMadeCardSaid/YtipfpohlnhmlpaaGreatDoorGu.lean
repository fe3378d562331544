/- Gu Gw Gz Xp Fi Xq Pn Xh Xi Pi Vf Yg Pk Pl Yf Rn -/
import Derived.Test.YtipfpohlnhmlpaaGreatDoorGs
import Derived.Test.YtipfpohlnhmlpaaGreatDoorNp
import Derived.RegionTactic
import Derived.BigCall
import Derived.Deep.RegionWith
import Derived.Laws.FloatArith
import GoSem.Core.Float
import Derived.WalkKit
import Derived.Test.YtipfpohlnhmlpaaGreatDoorPe
import Derived.Test.YtipfpohlnhmlpaaGreatDoorGl
import Derived.LaidLaws
import Derived.Lib.LaidU8
set_option maxHeartbeats 4000000
set_option maxRecDepth 100000
open Array renaming getElem?_toList->aA
open Go.Lib renaming hid->aB,VarReads->aE,bitLenAux->aH,bitLen->aP
open List renaming getElem?_eq_getElem->aC,mem_singleton->aI,getElem?_map->aJ,getElem?_take->aM,getElem?_drop->aN,eq_nil_of_length_eq_zero->aR,length_map->aS,getD_eq_getElem?_getD->aW,mem_of_getElem?->bA,cons->bG
open Option renaming some->aD
open Go.World renaming cell?_alloc_at->aF,var?_cell->aG
open Int renaming toNat_natCast->aK
open Nat renaming or_lt_two_pow->aL,mul_comm->aO,div_eq_of_lt->aQ,and_div_two_pow->aU,and_mod_two_pow->aV,le_refl->aX,pow_succ->aZ,lt_of_lt_of_le->bB,add_zero->bD,zero_add->bE
open Go.Ending renaming returned->aT
open Go.Value renaming int->aY
namespace Go
open Go.RowKit
section
variable {T:TypeId} {P:Int->List UInt8->Nat->Prop} {n0 c:Nat} {w w':World} {v:Value}
def NX (T:TypeId) (n0:Nat) (w:World) (v:Value) (t:Tr):Prop:=∃a c b,v = .agg #[.int .i64 t.kd,.string ⟨t.nm.toArray⟩,.float .f64 t.x,.slice a c b,.complex .f64 t.z.1 t.z.2]/\Am T w (n0 <= ·) t.ks (.slice a c b)
def BX (T:TypeId) (n0:Nat) (w:World) (v:Value) (t:Tr):Prop:=∃p a c b,v = .slice (some ⟨p,0,none⟩) 1 1/\n0<=p/\w.heap[p]?=some (.cells (Ah [(t,.slice a c b)]).toArray T (0,0))/\Am T w (fun j=>n0<=j/\j≠p) t.ks (.slice a c b)
theorem NX.kp {t:Tr} (h:NX T n0 w v t) (k:Kp n0 w w'):NX T n0 w' v t:=by
 obtain⟨e,g,f,a,b⟩:=h;exact⟨e,g,f,a,b.kept k.size fun j c d=>k.block j c d⟩
theorem BX.kp {t:Tr} (h:BX T n0 w v t) (k:Kp n0 w w'):BX T n0 w' v t:=by
 obtain⟨p,g,l,i,c,a,b,d⟩:=h;exact⟨p,g,l,i,c,a,(k.block p a (Array.getElem?_eq_some_iff.1 b).1).trans b,d.kept k.size fun j e f=>k.block j e.1 f⟩
theorem NX.box {t:Tr} (h:NX T n0 w v t) (g:n0<=w.heap.size):∃a c b,v = .agg #[.int .i64 t.kd,.string ⟨t.nm.toArray⟩,.float .f64 t.x,.slice a c b,.complex .f64 t.z.1 t.z.2] /\
  BX T n0 (w.alloc (.cells #[.int .i64 t.kd,.string ⟨t.nm.toArray⟩,.float .f64 t.x,.slice a c b,.complex .f64 t.z.1 t.z.2] T)) (.slice (some ⟨w.heap.size,0,none⟩) 1 1) t:=by
 obtain⟨a,c,b,d,e⟩:=h;exact⟨a,c,b,d,w.heap.size,a,c,b,rfl,g,heap_alloc_new w _,(e.mono (S':=fun j=>n0<=j/\j≠w.heap.size) fun j i f=>⟨f,by omega⟩).bel (Ad w _)⟩
theorem BX.kids {t:Tr} (h:BX T n0 w v t):∃p,v = .slice (some ⟨p,0,none⟩) 1 1/\Am T w (n0 <= ·) [t] (.slice (some ⟨p,0,none⟩) 1 1):=by
 obtain⟨p,g,k,i,a,b,c,d⟩:=h
 exact⟨p,a,.row _ [(t,.slice g k i)] p 1 _ b c (aX _) (by unfold maxLen;simp) rfl rfl fun q f=>by
  obtain rfl:=aI.1 f
  exact d.mono fun j _ e=>e⟩
theorem BX.node {t:Tr} (h:BX T n0 w v t) (k:Int) (nm:List UInt8):∃p,v = .slice (some ⟨p,0,none⟩) 1 1/\NX T n0 w (.agg #[.int .i64 k,.string ⟨nm.toArray⟩,.float .f64 0,.slice (some ⟨p,0,none⟩) 1 1,.complex .f64 0 0]) (.mk k nm 0 (0,0) [t]):=by
 obtain⟨p,a,b⟩:=h.kids;exact⟨p,a,_,_,_,rfl,b⟩
end
end Go
namespace Go.Proofs.YtipfpohlnhmlpaaGreatDoor
open Go.RowKit
def nP:Tr:=.mk 4 [112] 0 (0,0) []
def nQ:Tr:=.mk 5 [113] 0 (0,0) [nP]
def nS:Tr:=.mk 44 [] 0 (0,0) [nQ]
def Gr (f:Fu) (s:Tr):Fu:=⟨f.nm,f.ps,.mk f.b.kd f.b.nm f.b.x f.b.z (f.b.ks++[s]),f.z⟩
abbrev grown (f:Fu):Fu:=Gr f nS
def nO:Tr:=.mk 0 [] 0 (0,0) []
theorem Vz:Tr.All A0 nO:=.mk _ _ _ _ _ (BN 0 [] (by decide) (by decide)) fun u a=>by cases a
theorem RX:Tr.All A0 nS:=by
 refine .mk _ _ _ _ _ (BN 44 [] (by decide) (by decide)) fun u a=>?_;obtain rfl:=aI.1 a;refine .mk _ _ _ _ _ (BN 5 [113] (by decide) (by decide)) fun u a=>?_;obtain rfl:=aI.1 a;exact .mk _ _ _ _ _ (BN 4 [112] (by decide) (by decide)) fun u a=>by cases a
theorem U0:nS.wt=3:=by unfold nS nQ nP;rw[Tr.wt_mk,AK,AM,Tr.wt_mk,AK,AM,Tr.wt_mk,AM]
theorem Wi:nO.wt=1:=by unfold nO;rw[Tr.wt_mk,AM]
theorem MR (t:Tr):t.wt=1+DN t.ks:=by obtain⟨k,nm,x,z,ks⟩:=t;exact Tr.wt_mk ..
theorem LP (s:Tr) (Q:Tr.All A0 s) (b0:s.wt<=3) {k B g c:Nat} {w w':World} {f:Fu} {V o a v':Value} {R:List (Tr×Value)} (Y:Dz 60 A0 c (fun j=>k<=j/\j≠g) w f V o) (X:R.map Prod.fst=f.b.ks) (l:∀q,o.ownBlock=some q->(k<=q/\q≠g)/\q<B) (hk:∀p∈R,Am 60 w (fun j=>(k<=j/\j≠g)/\some j≠o.ownBlock) p.1.ks p.2)
  (hs:Am 60 w (fun j=>B<=j) s.ks a) (hB:k<=B/\g<B/\B<=w.heap.size) (W:w'.ownsRow k 60 5 v' (R.length+1) (Ah R++Ah [(s,a)])) (y:w.grownBy w' o.ownBlock) (H:v'.ownBlock=o.ownBlock\/v'.ownBlock=some w.heap.size) :
  Dz 60 A0 (c+3) (fun j=>k<=j/\j≠g) w' (Gr f s) V v':=by
 have M:∀j,B<=j->some j≠o.ownBlock:=fun j r e=>by have:=(l j e.symm).2;omega
 have d:∀(ks:List Tr) (u:Value),Am 60 w (fun j=>(k<=j/\j≠g)/\some j≠o.ownBlock) ks u->Am 60 w' (fun j=>(k<=j/\j≠g)/\some j≠v'.ownBlock) ks u:=fun ks u G=>by
  rcases H with e | e
  ·rw[e];exact G.kept y.size fun j r J=>y.block j J r.2
  exact((G.mono (S':=fun j=>(k<=j/\j≠g)/\some j≠v'.ownBlock/\some j≠o.ownBlock) fun j r A=>⟨A.1,by rw[e];intro h;injection h with h;omega,A.2⟩).kept y.size fun j r J=>y.block j J r.2.2).mono fun j _ A=>⟨A.1,A.2.1⟩
 have D:(R++[(s,a)]).length=R.length+1:=(by simp);have I:Ah (R++[(s,a)])=Ah R++Ah [(s,a)]:=by unfold Ah;rw[List.flatMap_append]
 obtain⟨⟨p,N,O,E,F,P⟩,a0,C,U,K⟩:=Y;refine⟨⟨p,N,O,bB E y.size,?_,fun i t Z=>by rw[World.cell?_of_block (y.block p E F)];exact P i t Z⟩,?_,?_,?_,K⟩
 ·rcases H with e | e
  ·rw[e];exact F
  rw[e];intro h;injection h with h;omega
 ·have:=Ev (T:=60) (w:=w') (v:=v') (S:=fun j=>k<=j/\j≠g) (L:=R++[(s,a)]) (B:=k) (by rw[I,D];exact W) (fun q n=>by
   rcases H with e | e
   ·rw[e] at n;exact(l q n).1
   ·rw[e] at n;injection n with n;subst n;exact⟨by omega,by omega⟩) (fun q n=>by
   rcases List.mem_append.1 n with m | m
   ·exact d _ _ (hk q m)
   obtain rfl:=aI.1 m
   exact d _ _ (hs.mono fun j _ r=>⟨⟨by omega,by omega⟩,M j r⟩))
  rw[List.map_append,X] at this;exact this
 ·refine .mk _ _ _ _ _ C.self fun u G=>?_
  rcases List.mem_append.1 G with m | m
  ·exact C.kid m
  obtain rfl:=aI.1 m;exact Q
 show (Tr.mk f.b.kd f.b.nm f.b.x f.b.z (f.b.ks++[s])).wt<=c+3;rw[MR] at U;rw[Tr.wt_mk,B9,AK,AM];omega
theorem Ka (f:Fu) (c a:Value):AI [(f,c,a)]=[.string ⟨f.nm.toArray⟩,c,.int .i64 f.b.kd,.string ⟨f.b.nm.toArray⟩,.float .f64 f.b.x,a,.complex .f64 f.b.z.1 f.b.z.2,.complex .f64 f.z.1 f.z.2]:=rfl
theorem OC (f:Fu) (s:Tr) (a b v':Value):(AI [(f,a,b)]).set 5 v'=AI [(Gr f s,a,v')]:=rfl
theorem take_set (a:Array Value) (v':Value) (l:List Value) (h:a.toList.take 8=l):(a.setIfInBounds 5 v').toList.take 8=l.set 5 v':=by
 rw[<- h,Array.toList_setIfInBounds,List.take_set]
end Go.Proofs.YtipfpohlnhmlpaaGreatDoor
namespace Go
open Go.RowKit
section
variable {T TR TF:TypeId} {P:Int->List UInt8->Nat->Prop} {w:World}
theorem Bx {B k n g cap:Nat} {e:TypeId} {xs:List Value} {a:Array Value} (c:w.heap[g]?=some (.cells a e (0,0))) (f:a.toList.take (n*k)=xs) (j:Nat) (u:Value) (d:j<n*k) (b:xs[j]?=some u):w.cell? ⟨g,j,none⟩=some u:=by
 have _:=B;have _:=cap;rw[cell_of_row w g j a e (0,0) c];rw[<- f,List.getElem?_take_of_lt d] at b;simpa using b
theorem Qf {bg:Nat} {S:Nat->Prop} {L:List (Rl×Value×Value)} {v:Value} (e:w.ownsRow bg TR 9 v L.length (AW L)) (x:∀p∈L,Am T w S p.1.ps p.2.1/\Am T w S p.1.b.ks p.2.2):ED T w (L.map Prod.fst) v:=by
 rcases e.2 with⟨rfl,u⟩ | ⟨g,a,t,rfl,A,c,C,D,E,d⟩
 ·have:L=[]:=aR u
  subst this;exact⟨none,0,rfl,fun i f=>by simp at f⟩
 refine⟨_,a,by rw[aS],fun i f=>?_⟩;rw[aS] at f;obtain⟨p,h⟩:∃p,L[i]?=some p:=⟨L[i]'f,aC f⟩;obtain⟨y,z⟩:=x p (bA h);obtain⟨j,k,l,m,n,o,q,r,s⟩:=Ld L i p h;exact⟨g,p.2.1,p.2.2,p.1,rfl,by rw[aJ,h];rfl,y.mono fun _ _ _=>trivial,z.mono fun _ _ _=>trivial,Bx (B:=0) (cap:=0) c d _ _ (by omega) j,Bx (B:=0) (cap:=0) c d _ _ (by omega) k,Bx (B:=0) (cap:=0) c d _ _ (by omega) l,Bx (B:=0) (cap:=0) c d _ _ (by omega) m,Bx (B:=0) (cap:=0) c d _ _ (by omega) n,Bx (B:=0) (cap:=0) c d _ _ (by omega) o,Bx (B:=0) (cap:=0) c d _ _ (by omega) q,Bx (B:=0) (cap:=0) c d _ _ (by omega) r,Bx (B:=0) (cap:=0) c d _ _ (by omega) s⟩
theorem GR.rules {w':World} {q:World} {l:Cp} {f b bg I K:Nat} {L:List (Rl×Value×Value)} {v i:Value} (h:GR T TR P q l f b bg I K L v i w) (c:Ae f w w'):ED T w' (L.map Prod.fst) v:=by
 have r:=h.hbg;have s:=h.hrb;have a:∀j,(bg<j/\some j≠v.ownBlock)->j<w.heap.size->w'.heap[j]?=w.heap[j]?:=fun j m n=>c.block j n (fun e=>by injection e with e;have:=m.1;omega);refine Qf (h.row.kept c ?_) (S:=fun j=>bg<j/\some j≠v.ownBlock) fun p d=>⟨(h.k p d).1.kept c.size a,(h.k p d).2.1.kept c.size a⟩
 cases o:v.ownBlock with
 | none=>exact .inl rfl
 | some g=>right;intro e;injection e with e;have:=h.own g o;omega
theorem PD {I c:Nat} {e:List (Fu×Value×Value)} {o:Value} (h:GQ T TF P I c e o w):Fh T w (e.map Prod.fst) o:=by
 rcases h.row.2 with⟨rfl,E⟩ | ⟨g,a,D,rfl,J,b,K,L,M,d⟩
 ·have:e=[]:=aR E
  subst this;exact⟨none,0,rfl,fun i f=>by simp at f⟩
 refine⟨_,a,by rw[aS],fun i f=>?_⟩;rw[aS] at f;obtain⟨p,l⟩:∃p,e[i]?=some p:=⟨e[i]'f,aC f⟩;have r:=h.k p (bA l);obtain⟨t,u,v,x,y,z,A,C⟩:=KT e i p l;obtain⟨q,m,F,G,H,n⟩:=r.ps;exact⟨g,p.2.1,p.2.2,p.1,rfl,by rw[aJ,l];rfl,⟨_,_,m,fun j s=>⟨q,p.1.ps[j],rfl,aC s,n j _ (aC s)⟩⟩,r.ks.mono fun _ _ _=>trivial,Bx (B:=0) (cap:=0) b d _ _ (by omega) t,Bx (B:=0) (cap:=0) b d _ _ (by omega) u,Bx (B:=0) (cap:=0) b d _ _ (by omega) v,Bx (B:=0) (cap:=0) b d _ _ (by omega) x,Bx (B:=0) (cap:=0) b d _ _ (by omega) y,Bx (B:=0) (cap:=0) b d _ _ (by omega) z,Bx (B:=0) (cap:=0) b d _ _ (by omega) A,Bx (B:=0) (cap:=0) b d _ _ (by omega) C⟩
end
end Go
namespace Go.Proofs.YtipfpohlnhmlpaaGreatDoor
open Go.Proofs.Tryz
open Go.RowKit
theorem Q9 {w:World} {b:Nat} {j:Bool} {s:DS} (e:C8 w b j s) (k:s.nd<=800) {i:Nat} (g:i<s.nd):w.cell? ⟨b,i,none⟩=some (.int .u8 (((s.M/10^(s.nd-1-i)%10:Nat):Int)+48)):=by
 obtain⟨f,a,c⟩:=e;have h:=a.d i (by omega);rw[c.2 i g] at h;rw[h];congr 2;omega
theorem Ur (w:World) (b:Nat) (O:Bool) (s:DS) (i:Int) (N:s.nd<=800) (y:C8 w b O s) (C : -1000000000<=i) (D:i<=1000000000) :
  Calls prog 155 #[.pointer (some ⟨b,0,none⟩),.int .i64 i] w fun e P=>e = .returned (.bool (Jo s i))/\w=P:=by
 obtain⟨f,hF,A⟩:=id y;have E:=hF.nd;have m:=hF.tr;have a:=fun j K=>Q9 y N (i:=j) K;obtain⟨R,r⟩:∃R,Jo s i=R:=⟨_,rfl⟩;unfold Jo at r;clear hF A y;by_cases x:i<0
 ·rw[if_pos (.inl x)] at r
  have Q:=aB r;unfold Jo;rw[if_pos (.inl x)];clear r a
  go_in
  go_wp2;go_ret;exact⟨rfl,rfl⟩
 obtain⟨k,rfl⟩:∃k:Nat,i=k:=⟨i.toNat,by omega⟩;by_cases T:s.nd<=k
 ·have t:(s.nd:Int)<=k:=by omega
  have e:Jo s k=false:=by unfold Jo;rw[if_pos (.inr t)]
  rw[e];clear r a
  go_in
  go_wp2;go_ret;exact⟨rfl,rfl⟩
 have t:¬ (s.nd:Int)<=k:=(by omega);clear C D
 have e:Jo s k=(if s.M/10^(s.nd-1-k)%10=5/\k+1=s.nd then (if s.tr=true then true else decide (0<k/\s.M/10^(s.nd-1-(k-1))%10%2≠0)) else decide (5<=s.M/10^(s.nd-1-k)%10)):=by
  unfold Jo;rw[if_neg (by omega),aK]
 rw[e];clear r e R;have I:=a k (by omega);obtain⟨d,n⟩:∃d,s.M/10^(s.nd-1-k)%10=d:=⟨_,rfl⟩;have J:d<=9:=(by omega);rw[n] at I ⊢;by_cases v:d=5
 ·subst v
  by_cases p:k+1=s.nd
  ·rw[if_pos ⟨rfl,p⟩]
   have G:((k:Int)+1==(s.nd:Int))=true:=beq_iff_eq.2 (by omega)
   cases g:s.tr with
   | true =>
     rw[g] at m;rw[if_pos rfl];clear n a p g
     go_in
     go_wp2;go_ret;exact⟨rfl,rfl⟩
   | false =>
     rw[g] at m;rw[if_neg (by decide)];by_cases u:k=0
     ·subst u
      clear n a p g
      go_in
      go_wp2;go_ret;exact⟨rfl,rfl⟩
     obtain⟨j,rfl⟩:∃j,k=j+1:=⟨k-1,by omega⟩;clear u x;have z:=a j (by omega);rw[Nat.add_sub_cancel];obtain⟨q,o⟩:∃q,s.M/10^(s.nd-1-j)%10=q:=⟨_,rfl⟩;have F:q<=9:=(by omega);rw[o] at z ⊢;have L:(0:Int)<((j+1:Nat):Int):=by omega
     cases c:decide (0<j+1/\q%2≠0) with
     | true =>
       have H:((q:Int)%2 != 0)=true:=by simp at c;simp;omega
       clear n o a p g c
       go_in
       go_wp2;go_ret;exact⟨rfl,rfl⟩
     | false =>
       have H:((q:Int)%2 != 0)=false:=by simp at c;simp;omega
       clear n o a p g c
       go_in
       go_wp2;go_ret;exact⟨rfl,rfl⟩
  rw[if_neg (fun h=>p h.2)];have G:((k:Int)+1==(s.nd:Int))=false:=beq_eq_false_iff_ne.2 (by omega);clear n a p
  go_in
  go_wp2;go_ret;exact⟨rfl,rfl⟩
 rw[if_neg (fun h=>v h.1)];have S:((d:Int)+48==53)=false:=beq_eq_false_iff_ne.2 (by omega);by_cases l:5<=d
 ·rw[decide_eq_true l]
  have B:(53:Int)<=(d:Int)+48:=(by omega);clear n a v l
  go_in
  go_wp2;go_ret;exact⟨rfl,rfl⟩
 rw[decide_eq_false l];have B:¬ (53:Int)<=(d:Int)+48:=(by omega);clear n a v l
 go_in
 go_wp2;go_ret;exact⟨rfl,rfl⟩
theorem IK (x:Int) (b : -1000000<=x) (c:x<=1000000) (w:World):Calls prog 116 #[.int .i64 x] w fun e a=>e = .returned (.int .i64 (x*78913/262144))/\w=a:=by
 go_in
 go_wp2;go_ret;exact⟨rfl,rfl⟩
theorem EH:∀(n x:Nat),x<2^n->(x=0/\aH n x=0)\/(2^(aH n x-1)<=x/\x<2^aH n x/\1<=aH n x/\aH n x<=n)
 | 0,x,h => .inl ⟨by simpa using h,rfl⟩
 | n+1,x,h=>by
   by_cases b:x=0
   ·left;subst b;exact⟨rfl,by simp[aH]⟩
   right;have f:x/2<2^n:=by rw[aZ] at h;omega
   rw[aH,if_neg b];rcases EH n (x/2) f with⟨c,a⟩ | ⟨c,a,d,e⟩
   ·rw[a];exact⟨by show 1<=x;omega,by show x<2;omega,by omega,by omega⟩
   generalize aH n (x/2)=L at c a d e;refine⟨?_,?_,by omega,by omega⟩
   ·rw[show 1+L-1=(L-1)+1 by omega,aZ];omega
   rw[show 1+L=L+1 by omega,aZ];omega
theorem VB:∀L:Fin 65,1<=(L:Nat)->(L:Nat)*78913/262144<=19/\2^(L:Nat)<=10^((L:Nat)*78913/262144+1)/\((L:Nat)*78913/262144=0\/10^((L:Nat)*78913/262144-1)<=2^((L:Nat)-1)):=by decide +kernel
def Hw (d:Nat):Nat:=aP d*78913/262144+(if 10^(aP d*78913/262144)<=d then 1 else 0)
theorem Ny (d:Nat) (f:0<d) (i:d<18446744073709551616):1<=Hw d/\Hw d<=20/\10^(Hw d-1)<=d/\d<10^Hw d/\aP d*78913/262144<=19:=by
 have g:aP d=aH 64 d:=rfl;rcases EH 64 d (by rw[show (2:Nat)^64=18446744073709551616 from by decide];exact i) with⟨h,_⟩ | ⟨h1,h2,h3,h4⟩
 ·omega
 rw[<- g] at h1 h2 h3 h4;unfold Hw;generalize aP d=L at h1 h2 h3 h4;obtain⟨a,c,b⟩:=VB ⟨L,by omega⟩ h3;dsimp only at a c b;generalize L*78913/262144=k at a c b;split
 ·rename_i h
  exact⟨by omega,by omega,by simpa using h,by omega,a⟩
 rename_i h
 have j:k≠0:=fun e=>by subst e;exact h (by rw[Nat.pow_zero];exact f)
 have:=b.resolve_left j;exact⟨by omega,by omega,by simp only[bD];omega,by simp only[bD];omega,a⟩
theorem JM (d:Nat) (r:0<d) (n:d<18446744073709551616) (w:World) (m:DE w) :
  Calls prog 95 #[.int .u64 d] w fun e a=>e = .returned (.int .i64 (Hw d))/\w=a:=by
 obtain⟨_,_,_,_,o⟩:=Ny d r n;have g:=aB (fun W=>G2 d W n);obtain⟨L,c⟩:∃L,aP d=L:=⟨_,rfl⟩;have s:L<=64:=by rw[<- c];exact JX d
 have h:=aB (fun W=>IK (L:Int) (by omega) (by omega) W);have f:Hw d=L*78913/262144+(if 10^(L*78913/262144)<=d then 1 else 0):=by unfold Hw;rw[c]
 rw[c] at g o;obtain⟨k,l⟩:∃k,L*78913/262144=k:=⟨_,rfl⟩;have b:(L:Int)*78913/262144=(k:Int):=(by omega);rw[l] at f o;rw[b] at h;have q:=m.u10 k (by omega);obtain⟨T,j⟩:∃T:Nat,10^k=T:=⟨_,rfl⟩;rw[j] at q f;have i:=aB f;clear m j l b f c;by_cases p:T<=d
 ·go_in
  go_wp2_with (first | (go_at_call 117;refine(g.out _).mono ?_;rintro e a ⟨rfl,rfl⟩) | (go_at_call 116;refine(h.out _).mono ?_;rintro e a ⟨rfl,rfl⟩) | (go_at_call 118;refine(EK _ _).mono ?_;rintro e a ⟨rfl,rfl⟩))
  go_ret;exact⟨congrArg aT (congrArg (aY IntKind.i64) (by rw[i.out,if_pos p];simp)),rfl⟩
 go_in
 go_wp2_with (first | (go_at_call 117;refine(g.out _).mono ?_;rintro e a ⟨rfl,rfl⟩) | (go_at_call 116;refine(h.out _).mono ?_;rintro e a ⟨rfl,rfl⟩) | (go_at_call 118;refine(EK _ _).mono ?_;rintro e a ⟨rfl,rfl⟩))
 go_ret;exact⟨congrArg aT (congrArg (aY IntKind.i64) (by rw[i.out,if_neg p];simp)),rfl⟩
def QN (s:DS):Nat:=if 20<s.dp then 18446744073709551615 else (Bw s.M s.nd s.dp.toNat+(if Jo s s.dp=true then 1 else 0))%18446744073709551616
theorem I9 (w:World) (b:Nat) (O:Bool) (s:DS) (hn:s.nd<=800) (V:C8 w b O s) (J : -1000000000<=s.dp) (K:s.dp<=1000000000) :
  Calls prog 135 #[.pointer (some ⟨b,0,none⟩)] w fun e P=>e = .returned (.int .u64 (QN s))/\w=P:=by
 have c:=fun W (h:C8 W b O s)=>Ur W b O s s.dp hn h J K;have I:=aB V;obtain⟨f,hF,t⟩:=V;have S:=hF.nd;have T:=hF.dp;by_cases z:20<s.dp
 ·have l:QN s=18446744073709551615:=by unfold QN;rw[if_pos z]
  rw[l];clear hF t c l
  go_in
  go_wp2;go_ret;exact⟨rfl,rfl⟩
 have l:QN s=(Bw s.M s.nd s.dp.toNat+(if Jo s s.dp=true then 1 else 0))%18446744073709551616:=by unfold QN;rw[if_neg z]
 obtain⟨R,X⟩:∃R,Jo s s.dp=R:=⟨_,rfl⟩;rw[X] at c l;have Q:=aB c;have HV:=aB l;have H0:=aB (G8 t.1);have HI:=aB (fun r (h:r<s.nd)=>CW (M:=s.M) h);have HO:=aB (fun r (h:s.nd<=r)=>Cx (M:=s.M) h);have C:=fun j hj=>Q9 I.out hn (i:=j) hj;have HC:=aB C;have hw:=IntKind.wrap_u64;clear hF t c l X C
 go_in
 go_wp2
 go_loopg [3,4] s.nd (fun g i n wr=>∃k:Nat,g+k=s.nd/\((k:Int)<=s.dp\/k=0)/\i = .int .i64 k/\n = .int .u64 (Bw s.M s.nd k%18446744073709551616:Nat)/\wr=w)
 case atStart=>exact⟨0,by omega,.inr rfl,rfl,by rw[H0.out];rfl,rfl⟩
 obtain⟨k,hk,G,rfl,rfl,rfl⟩:=hrel;obtain⟨A,x⟩:∃A,Bw s.M s.nd k=A:=⟨_,rfl⟩;rw[x];by_cases D:(k:Int)<s.dp/\k<s.nd
 ·obtain⟨Y,o⟩:=D
  have Z:(k:Int)<s.nd:=(by omega);have hc:=HC.out k o;have a:=HI.out k o;obtain⟨d,U⟩:∃d,s.M/10^(s.nd-1-k)%10=d:=⟨_,rfl⟩;have b0:d<=9:=(by omega);rw[U] at hc a;rw[x] at a;have q:=aB a;clear U x a;go_wp2
  go_roundg (s.nd-(k+1))
  case measure=>omega
  exact⟨k+1,by omega,.inl (by omega),by go_num,by rw[q.out];exact congrArg (aY IntKind.u64) (by omega),rfl⟩
 have u:=aB x;clear x;have p:¬ (k:Int)<s.dp\/((k:Int)<s.dp/\¬ (k:Int)<s.nd):=(by omega);have H:(k:Int)<s.dp->s.nd<=k:=(by omega);clear D;rcases p with p | ⟨L,N⟩
 all_goals
  go_wp2
  go_loopg [3,4] (s.dp.toNat-k) (fun g i n wx=>∃k:Nat,g=s.dp.toNat-k/\((k:Int)<=s.dp\/k=0)/\((k:Int)<s.dp->s.nd<=k)/\i = .int .i64 k/\n = .int .u64 (Bw s.M s.nd k%18446744073709551616:Nat)/\wx=wr)
  case atStart=>exact⟨k,rfl,G,H,rfl,by rw[u.out];exact congrArg (aY IntKind.u64) (by omega),rfl⟩
  clear hk G H u;obtain⟨j,hj,c0,m,rfl,rfl,rfl⟩:=hrel;obtain⟨B,y⟩:∃B,Bw s.M s.nd j=B:=⟨_,rfl⟩;rw[y];by_cases E:(j:Int)<s.dp
  ·have a:=HO.out j (m E)
   rw[y] at a;have q:=aB a;have a0:=m E;clear y a m;go_wp2
   go_roundg (s.dp.toNat-(j+1))
   case measure=>omega
   exact⟨j+1,rfl,.inl (by omega),fun _=>by omega,by go_num,by rw[q.out];exact congrArg (aY IntKind.u64) (by omega),rfl⟩
  have F:s.dp.toNat=j:=(by omega);have l:=HV.out;rw[F,y] at l;have v:=aB l;clear m F l y
  cases R with
  | true =>
    go_wp2_with (go_at_call 155;refine(Q.out _ I.out).mono ?_;rintro e P ⟨rfl,rfl⟩)
    go_ret;exact⟨congrArg aT (by rw[v.out];exact congrArg (aY IntKind.u64) (by simp)),rfl⟩
  | false =>
    go_wp2_with (go_at_call 155;refine(Q.out _ I.out).mono ?_;rintro e P ⟨rfl,rfl⟩)
    go_ret;exact⟨congrArg aT (by rw[v.out];rfl),rfl⟩
open Go
def NN (x:Nat):Prop:=x%9223372036854775808<=9218868437227405312
theorem R4 (n:Int):floatOfInt .f64 n<18446744073709551616:=show FloatKind.f64.format.write (.number (decide (n<0)) n.natAbs 0)<2^64 from FloatKind.f64.format.write_lt _
def Xf (m:Nat) (p:Int) (a:Bool) (x:Nat) (b:Bool):Prop:=x<18446744073709551616/\NN x /\
 ∀w,CG w->Calls prog 112 #[.int .u64 m,.int .i64 p,.bool a] w fun e c=>e = .returned (.tuple #[.float .f64 x,.bool b])/\w=c
theorem St (f:Nat) (w:World):Sem.run prog (Op.unary .neg (.float .f64 f)) w = .ok (.float .f64 (f ^^^ 9223372036854775808)) w:=rfl
theorem LU (m:Nat) (p:Int) (f:Bool) (a:Hid (((m:Int)/4503599627370496 != 0)=true)):Xf m p f 0 false:=by
 refine⟨by omega,by unfold NN;omega,fun w e=>?_⟩;obtain⟨h,i,b,o,c,j,d⟩:=e;clear d;have g:=a.out
 go_in
 go_wp2
 go_ret2
 exact⟨rfl,rfl⟩
open Ieee
theorem Sp {x:Nat} (_hx:x<18446744073709551616) (h:9218868437227405312<x%9223372036854775808):∃s t,FloatKind.f64.format.read x = .nan s t:=by
 refine⟨x/9223372036854775808%2==1,x%9223372036854775808-9218868437227405312,?_⟩;unfold Format.read;have a:FloatKind.f64.format.signWeight=9223372036854775808:=(by decide);have b:FloatKind.f64.format.binade=4503599627370496:=(by decide);have c:FloatKind.f64.format.infRung=9218868437227405312:=(by decide);simp only[a,b,c];rw[if_neg (by omega),if_neg (by omega),if_neg (by omega)]
theorem PQ {x:Nat} (a:x<18446744073709551616) (h:9218868437227405312<x%9223372036854775808) (y:Nat):FloatKind.f64.format.order x y=none:=by
 obtain⟨s,t,e⟩:=Sp a h;unfold Format.order;rw[e];rfl
def PP (x:Nat):Prop:=x<=9218868437227405312
theorem K8 {x:Nat} (h:PP x):(∃m e,FloatKind.f64.format.read x = .number false m e)\/FloatKind.f64.format.read x = .infinity false:=by
 unfold PP at h;have c:FloatKind.f64.format.signWeight=9223372036854775808:=(by decide);have d:FloatKind.f64.format.binade=4503599627370496:=(by decide);have f:FloatKind.f64.format.infRung=9218868437227405312:=by decide
 have g:(x/9223372036854775808%2==1)=false:=by
  rw[aQ (by omega)];rfl
 unfold Ieee.Format.read;simp only[c,d,f,g];by_cases a:x%9223372036854775808<4503599627370496
 ·rw[if_pos a];exact .inl ⟨_,_,rfl⟩
 rw[if_neg a];by_cases b:x%9223372036854775808<9218868437227405312
 ·rw[if_pos b];exact .inl ⟨_,_,rfl⟩
 rw[if_neg b,if_pos (by omega)];exact .inr rfl
theorem K9 (r:Nat) (h:r<=9218868437227405312):PP (FloatKind.f64.format.word false r):=h
theorem IZ (m:Nat) (e:Int):PP (FloatKind.f64.format.nearest false m e):=by
 have a:FloatKind.f64.format.infRung=9218868437227405312:=(by decide);unfold Ieee.Format.nearest;dsimp only;split
 ·exact K9 _ (by omega)
 refine K9 _ ?_;rw[a];exact Nat.min_le_right ..
theorem Gy:PP (FloatKind.f64.format.write (.infinity false)):=by
 show PP (FloatKind.f64.format.word false FloatKind.f64.format.infRung);exact K9 _ (by decide)
theorem Gz (m:Nat) (e:Int):PP (FloatKind.f64.format.write (.number false m e)):=IZ m e
theorem Sg (n:Nat):PP (floatOfInt .f64 n):=by
 have e:floatOfInt .f64 (n:Int)=FloatKind.f64.format.nearest (decide ((n:Int)<0)) (n:Int).natAbs 0:=rfl;rw[e,decide_eq_false (by omega)];exact IZ _ _
def WZ (x:Nat):Prop:=∃m e,FloatKind.f64.format.read x = .number false m e/\m≠0
theorem FQ:∀i:Fin 23,WZ (Db.getD i 0):=by
 have h:∀i:Fin 23,(match FloatKind.f64.format.read (Db.getD i 0) with | .number s m _=>decide (m≠0) && !s | _=>false)=true:=(by decide +kernel);intro i;have:=h i
 cases a:FloatKind.f64.format.read (Db.getD i 0) with
 | number s m e =>
   rw[a] at this
   cases s with
   | false=>exact⟨m,e,a,by simpa using this⟩
   | true=>simp at this
 | infinity s=>rw[a] at this;simp at this
 | nan s m=>rw[a] at this;simp at this
theorem Nx {x y:Nat} (f:PP x) (g:WZ y):∃r,floatBits .mul .f64 x y=some r/\r<18446744073709551616/\PP r:=by
 obtain⟨n,j,b,c⟩:=g;have a:∀d,FloatKind.f64.format.write d<18446744073709551616:=fun d=>FloatKind.f64.format.write_lt d;rcases K8 f with⟨m,e,h⟩ | h
 ·exact⟨FloatKind.f64.format.write (.number false (m*n) (e+j)),by simp only[floatBits,Ieee.Format.mul,h,b,Ieee.Datum.product];rfl,a _,Gz _ _⟩
 exact⟨FloatKind.f64.format.write (.infinity false),by simp only[floatBits,Ieee.Format.mul,h,b,Ieee.Datum.product,if_neg c];rfl,a _,Gy⟩
theorem Vm {x y:Nat} (k:PP x) (l:WZ y):∃r,floatBits .quo .f64 x y=some r/\r<18446744073709551616/\PP r:=by
 obtain⟨n,j,g,i⟩:=l;have a:∀d,FloatKind.f64.format.write d<18446744073709551616:=fun d=>FloatKind.f64.format.write_lt d;rcases K8 k with⟨m,e,h⟩ | h
 ·have f:∃b c,(FloatKind.f64.format.read x).quotient (FloatKind.f64.format.fractionBits+2) (FloatKind.f64.format.read y)=some (.number false b c):=by
   rw[h,g];simp only[Ieee.Datum.quotient,if_neg i];exact⟨_,_,rfl⟩
  obtain⟨b,c,f⟩:=f;exact⟨FloatKind.f64.format.write (.number false b c),by simp only[floatBits,Ieee.Format.div,f];rfl,a _,Gz _ _⟩
 exact⟨FloatKind.f64.format.write (.infinity false),by simp only[floatBits,Ieee.Format.div,h,g,Ieee.Datum.quotient];rfl,a _,Gy⟩
def W4 (m:Nat) (p:Int) (a:Bool) (x:Nat) (b:Bool):Prop:=x<18446744073709551616/\PP x /\
 ∀w,CG w->Calls prog 112 #[.int .u64 m,.int .i64 p,.bool a] w fun e c=>e = .returned (.tuple #[.float .f64 x,.bool b])/\w=c
theorem Rm (m F:Nat) (p:Int) (M:Bool) (e:Hid (((m:Int)/4503599627370496 != 0)=false)) (hp : -1000000<=p) (X:p<=1000000) (hF:PP F) (n:F<18446744073709551616)
  (t:(M=false/\floatOfInt .f64 m=F)\/(M=true/\∃f,floatOfInt .f64 m=f/\f ^^^ 9223372036854775808=F)):∃x b,W4 m p M x b:=by
 have Z:=St;by_cases K:p=0
 ·subst K
  refine⟨F,true,n,hF,fun w k=>?_⟩;obtain⟨y,z,b,o,g,A,a⟩:=k;clear a hF n;have u:=e.out;rcases t with⟨rfl,h⟩ | ⟨rfl,f,h,v⟩
  all_goals
   go_in
   go_wp2
   go_ret2
   exact⟨rfl,rfl⟩
 have bp:(p==0)=false:=beq_eq_false_iff_ne.2 K;by_cases Q:0<p
 ·clear K
  by_cases S:p<=37
  ·by_cases L:22<p
   ·obtain⟨j,rfl⟩:∃j:Nat,p=(j:Int)+22:=⟨(p-22).toNat,by omega⟩
    have hj:j<=15:=(by omega);obtain⟨q1,l⟩:∃q1,Db.getD j 0=q1:=⟨_,rfl⟩;have E:=FQ ⟨j,by omega⟩;rw[l] at E;obtain⟨G,R,J,D⟩:=Nx hF E;have Y:=fun W=>run_float_arith (P:=prog) W .mul 25 .f64 F q1 G R;clear R E
    cases T:(FloatKind.f64.format.order G 4831355200913801216==some .gt) with
    | true =>
      refine⟨G,false,J,D,fun w k=>?_⟩;obtain⟨y,z,b,o,g,A,a⟩:=k;have H:=a j (by omega);rw[l] at H;clear l;clear a;have u:=e.out;rcases t with⟨rfl,h⟩ | ⟨rfl,f,h,v⟩
      all_goals
       go_in
       go_wp2
       go_ret2
       exact⟨rfl,rfl⟩
    | false =>
      cases V:(FloatKind.f64.format.order G 14054727237768577024==some .lt) with
      | true =>
        refine⟨G,false,J,D,fun w k=>?_⟩;obtain⟨y,z,b,o,g,A,a⟩:=k;have H:=a j (by omega);rw[l] at H;clear l;clear a;have u:=e.out;rcases t with⟨rfl,h⟩ | ⟨rfl,f,h,v⟩
        all_goals
         go_in
         go_wp2
         go_ret2
         exact⟨rfl,rfl⟩
      | false =>
        obtain⟨s,c⟩:∃s,Db.getD 22 0=s:=⟨_,rfl⟩;have d:=FQ ⟨22,by omega⟩;rw[c] at d;obtain⟨C,B,q,r⟩:=Nx D d;have N:=fun W=>run_float_arith (P:=prog) W .mul 25 .f64 G s C B;refine⟨C,true,q,r,fun w k=>?_⟩;obtain⟨y,z,b,o,g,A,a⟩:=k;have H:=a j (by omega);rw[l] at H;clear l;have I:=a 22 (by omega);rw[c] at I;clear c B d;clear a;have u:=e.out;rcases t with⟨rfl,h⟩ | ⟨rfl,f,h,v⟩
        all_goals
         go_in
         go_wp2
         go_ret2
         exact⟨rfl,rfl⟩
   obtain⟨i,rfl⟩:∃i:Nat,p=(i:Int):=⟨p.toNat,by omega⟩;have U:i<=22:=by omega
   cases T:(FloatKind.f64.format.order F 4831355200913801216==some .gt) with
   | true =>
     refine⟨F,false,n,hF,fun w k=>?_⟩;obtain⟨y,z,b,o,g,A,a⟩:=k;clear a;have u:=e.out;rcases t with⟨rfl,h⟩ | ⟨rfl,f,h,v⟩
     all_goals
      go_in
      go_wp2
      go_ret2
      exact⟨rfl,rfl⟩
   | false =>
     cases V:(FloatKind.f64.format.order F 14054727237768577024==some .lt) with
     | true =>
       refine⟨F,false,n,hF,fun w k=>?_⟩;obtain⟨y,z,b,o,g,A,a⟩:=k;clear a;have u:=e.out;rcases t with⟨rfl,h⟩ | ⟨rfl,f,h,v⟩
       all_goals
        go_in
        go_wp2
        go_ret2
        exact⟨rfl,rfl⟩
     | false =>
       obtain⟨s,c⟩:∃s,Db.getD i 0=s:=⟨_,rfl⟩;have d:=FQ ⟨i,by omega⟩;rw[c] at d;obtain⟨C,B,q,r⟩:=Nx hF d;have N:=fun W=>run_float_arith (P:=prog) W .mul 25 .f64 F s C B;refine⟨C,true,q,r,fun w k=>?_⟩;obtain⟨y,z,b,o,g,A,a⟩:=k;have I:=a i (by omega);rw[c] at I;clear c B d;clear a;have u:=e.out;rcases t with⟨rfl,h⟩ | ⟨rfl,f,h,v⟩
       all_goals
        go_in
        go_wp2
        go_ret2
        exact⟨rfl,rfl⟩
  refine⟨F,false,n,hF,fun w k=>?_⟩;obtain⟨y,z,b,o,g,A,a⟩:=k;clear a;have u:=e.out;rcases t with⟨rfl,h⟩ | ⟨rfl,f,h,v⟩
  all_goals
   go_in
   go_wp2
   go_ret2
   exact⟨rfl,rfl⟩
 have O:p<0:=(by omega);clear K;by_cases L : -22<=p
 ·obtain⟨i,rfl⟩:∃i:Nat,p = -(i:Int):=⟨(-p).toNat,by omega⟩
  have U:i<=22:=(by omega);obtain⟨s,c⟩:∃s,Db.getD i 0=s:=⟨_,rfl⟩;have d:=FQ ⟨i,by omega⟩;rw[c] at d;obtain⟨C,B,q,r⟩:=Vm hF d;have N:=fun W=>run_float_arith (P:=prog) W .quo 25 .f64 F s C B;refine⟨C,true,q,r,fun w k=>?_⟩;obtain⟨y,z,b,o,g,A,a⟩:=k;have I:=a i (by omega);rw[c] at I;clear c B d;clear a;have u:=e.out;rcases t with⟨rfl,h⟩ | ⟨rfl,f,h,v⟩
  all_goals
   go_in
   go_wp2
   go_ret2
   exact⟨rfl,rfl⟩
 refine⟨F,false,n,hF,fun w k=>?_⟩;obtain⟨y,z,b,o,g,A,a⟩:=k;clear a;have u:=e.out;rcases t with⟨rfl,h⟩ | ⟨rfl,f,h,v⟩
 all_goals
  go_in
  go_wp2
  go_ret2
  exact⟨rfl,rfl⟩
theorem KR (m:Nat) (p:Int) (b:Bool) (a:Hid (((m:Int)/4503599627370496 != 0)=true)):W4 m p b 0 false:=by
 refine⟨by omega,by unfold PP;omega,fun w c=>?_⟩;exact(LU m p b a).2.2 w c
theorem Pu (m:Nat) (p:Int) (c : -1000000<=p) (a:p<=1000000):∃x b,W4 m p false x b:=by
 cases h:((m:Int)/4503599627370496 != 0) with
 | true=>exact⟨0,false,KR m p false h⟩
 | false=>exact Rm m (floatOfInt .f64 m) p false h c a (Sg _) (R4 _) (.inl ⟨rfl,rfl⟩)
structure GS (X M E:Nat):Prop where
 m1:4503599627370496<=M
 m2:M<9007199254740992
 e:X*4503599627370496=M*2^E
theorem GS.lt {X M E:Nat} (h:GS X M E):X<2^(E+1)/\2^E<=X:=by
 obtain⟨d,e,b⟩:=h;have f:0<2^E:=Nat.pow_pos (by decide);constructor
 ·rw[aZ]
  refine Nat.lt_of_mul_lt_mul_right (a:=4503599627370496) ?_;rw[b];have:M*2^E<9007199254740992*2^E:=Nat.mul_lt_mul_of_pos_right e f;omega
 refine Nat.le_of_mul_le_mul_right (c:=4503599627370496) ?_ (by decide);rw[b,aO];exact Nat.mul_le_mul_right _ d
theorem GS.pos {X M E:Nat} (h:GS X M E):0<X:=bB (Nat.pow_pos (by decide)) h.lt.2
theorem GS.big {X M E:Nat} (h:GS X M E) (b:52<=E):X=M*2^(E-52):=by
 refine Nat.eq_of_mul_eq_mul_right (show 0<4503599627370496 by decide) ?_;have a:(4503599627370496:Nat)=2^52:=(by decide);rw[h.e,Nat.mul_assoc,a,<- Nat.pow_add,show E-52+52=E by omega]
theorem KP:(2:Nat)^52=4503599627370496:=by decide
theorem Iw (a b:Nat) (c:a/2^52=b/2^52) (d:a%2^52=b%2^52):a=b:=by
 rw[<- Nat.div_add_mod a (2^52),<- Nat.div_add_mod b (2^52),c,d]
theorem Tu (a:Nat) (s:Bool) (f:Nat) (g:f<4503599627370496) (ha:a=(if s=true then 2049 else 1)*4503599627370496+f) :
  a&&&(18446744073709551615-4503599627370496)=(if s=true then 2048 else 0)*4503599627370496+f:=by
 have d:a/2^52=if s=true then 2049 else 1:=by rw[KP,ha];split<;>omega
 have e:a%2^52=f:=by rw[KP,ha];split<;>omega
 refine Iw _ _ ?_ ?_
 ·rw[aU,d]
  have b:(18446744073709551615-4503599627370496)/2^52=4094:=(by decide);rw[b];have c:((if s=true then 2048 else 0)*4503599627370496+f)/2^52=if s=true then 2048 else 0:=by rw[KP];split<;>omega
  rw[c];cases s<;>decide
 rw[aV,e];have b:(18446744073709551615-4503599627370496)%2^52=2^52-1:=(by decide);rw[b,Nat.and_two_pow_sub_one_eq_mod,KP];split<;>omega
theorem VF (s:Bool) (f b:Nat) (a:f<4503599627370496) (g:b<2048) :
  ((if s=true then 2048 else 0)*4503599627370496+f)|||(b*4503599627370496)=((if s=true then 2048 else 0)+b)*4503599627370496+f:=by
 have d:((if s=true then 2048 else 0)*4503599627370496+f)/2^52=if s=true then 2048 else 0:=by rw[KP];split<;>omega
 have e:((if s=true then 2048 else 0)*4503599627370496+f)%2^52=f:=by rw[KP];split<;>omega
 refine Iw _ _ ?_ ?_
 ·rw[Nat.or_div_two_pow,d,KP,Nat.mul_div_cancel _ (by decide)]
  have c:(((if s=true then 2048 else 0)+b)*4503599627370496+f)/4503599627370496=(if s=true then 2048 else 0)+b:=by
   rw[aO,Nat.mul_add_div (by decide),aQ a,bD]
  rw[c];cases s
  ·simp
  have:=Nat.two_pow_add_eq_or_of_lt (i:=11) (b:=b) (by omega) 1;simpa using this.symm
 rw[Nat.or_mod_two_pow,e,KP,Nat.mul_mod_left,Nat.or_zero,aO,Nat.mul_add_mod,Nat.mod_eq_of_lt a]
theorem UM (x d p s:Nat) (o:x<18446744073709551616) (i:d<18446744073709551616) (m:8<=s):Fa x d p s<72057594037927936:=by
 have r:=Gs x d o i
 have l:(256:Int)<=2^s:=by
  have h:=Nat.pow_le_pow_right (n:=2) (by decide) m;have e:((2^s:Nat):Int)=2^s:=(by simp);rw[<- e];have q:(2:Nat)^8=256:=(by decide);omega
 have f:∀H:Int,0<=H->H<18446744073709551616->0<=H/2^s/\H/2^s<72057594037927936:=fun H k h=>by
  refine⟨Int.ediv_nonneg k (by omega),?_⟩;rw[Int.ediv_lt_iff_lt_mul (by omega)];have:(72057594037927936:Int)*256<=72057594037927936*2^s:=Int.mul_le_mul_of_nonneg_left l (by omega);omega
 have c:∀a b:Int,0<=a->a<72057594037927936->0<=b->b<=1->GO a b<72057594037927936:=fun a b k h t u=>aL (n:=56) (x:=a.toNat) (y:=b.toNat) (by omega) (by omega);unfold Fa;have g:=f ((x*d/18446744073709551616:Nat):Int) (by omega) (by omega);have j:=f ((((x*d/18446744073709551616:Nat):Int)-1)%18446744073709551616) (by omega) (by omega);split
 ·exact c _ _ g.1 g.2 (by omega) (by omega)
 split
 ·exact c _ _ j.1 j.2 (by split<;>omega) (by split<;>omega)
 exact c _ _ g.1 g.2 (by split<;>omega) (by split<;>omega)
theorem Lv {m:Nat} (h:m<=9007199254740992):m&&&9223372036854775808=0:=by
 have a:(m&&&9223372036854775808)/2^63=0:=by
  rw[aU,aQ (show m<2^63 by omega),Nat.zero_and]
 have b:(m&&&9223372036854775808)%2^63=0:=by
  rw[aV,show 9223372036854775808%2^63=0 by kernel_rfl,Nat.and_zero]
 omega
theorem QZ {m:Nat} (a:m&&&4503599627370496≠0):4503599627370496<=m:=by
 rcases Nat.lt_or_ge m 4503599627370496 with h | h
 ·exfalso
  refine a (Iw _ _ ?_ ?_)
  ·rw[aU,aQ (show m<2^52 by omega),Nat.zero_and,Nat.zero_div]
  rw[aV,KP,Nat.mod_self,Nat.and_zero]
 exact h
theorem V7:9007199254740992&&&4503599627370496=0:=by kernel_rfl
theorem QY {m:Nat} (b:m<=9007199254740992) (a:m&&&4503599627370496≠0):m<9007199254740992:=by
 rcases Nat.lt_or_ge m 9007199254740992 with h | h
 ·exact h
 have e:m=9007199254740992:=(by omega);rw[e] at a;exact absurd V7 a
theorem UJ {m:Nat} (b:m<=9007199254740992):(bits .or .u64 (bits .and .u64 (m:Int) 9223372036854775808) 9218868437227405312).toNat=9218868437227405312:=by
 have h:=bits_and_u64_nat m 9223372036854775808 (by omega) (by omega)
 have a:bits .and .u64 (m:Int) 9223372036854775808=0:=by
  rw[Lv b] at h;exact h
 rw[a,IV _ _ (by omega) (by omega) (by omega) (by omega),aK];unfold GO;exact Nat.zero_or _
theorem Nr {m:Nat} (b:4503599627370496<=m) (c:m<9007199254740992):bits .andNot .u64 (m:Int) 4503599627370496=((m-4503599627370496:Nat):Int):=by
 have h:=u64_andNot_nat m 4503599627370496 (by omega) (by omega);have a:=Tu m false (m-4503599627370496) (by omega) (by rw[if_neg (by decide)];omega);rw[if_neg (by decide),Nat.zero_mul,bE] at a;rw[a] at h;exact h
theorem ON (A Z:Nat) (a:A<18446744073709551616) (b:Z<18446744073709551616):(bits .or .u64 (A:Int) (Z:Int)).toNat=A|||Z:=by
 rw[IV _ _ (by omega) (by omega) (by omega) (by omega),aK];unfold GO;rw[aK,aK]
theorem R9 (f b:Nat) (a:f<4503599627370496) (c:b<2047):f|||(b*4503599627370496)<=9218868437227405312:=by
 have h:=VF false f b a (by omega);rw[if_neg (by decide),Nat.zero_mul,bE,bE] at h;rw[h];omega
theorem Vq {m q:Nat} (c:4503599627370496<=m) (d:m<9007199254740992) (f:q<2047):(bits .or .u64 (bits .andNot .u64 (m:Int) 4503599627370496) ((q:Int)*4503599627370496)).toNat<=9218868437227405312:=by
 rw[Nr c d];have b:m-4503599627370496<4503599627370496:=(by omega);generalize m-4503599627370496=A at b;have h:=R9 A q b f;obtain⟨Z,e⟩:∃Z,q*4503599627370496=Z:=⟨_,rfl⟩;have g:(q:Int)*4503599627370496=(Z:Int):=(by omega);have a:Z<18446744073709551616:=(by omega);rw[e] at h;rw[g,ON A Z (by omega) a];exact h
theorem IX (m:Nat) (e:Int) (g:m<=9007199254740992) (p : -1074<=e) (k:e<=100000):∃x v,x<=9218868437227405312/\R5 v /\
  ∀w,Calls prog 136 #[.int .u64 m,.int .i64 e] w fun j l=>j = .returned (.tuple #[.float .f64 x,v])/\w=l:=by
 have n:=FO
 cases f:(bits .and .u64 (m:Int) 4503599627370496==0) with
 | true =>
   refine⟨m,.nilIface,by omega,.inl rfl,fun w=>?_⟩
   go_in
   go_wp2
   go_ret2
   exact⟨rfl,rfl⟩
 | false =>
   have d:bits .and .u64 (m:Int) 4503599627370496=((m&&&4503599627370496:Nat):Int):=bits_and_u64_nat m 4503599627370496 (by omega) (by omega)
   have c:m&&&4503599627370496≠0:=by
    intro h;rw[d,h] at f;cases f
   have b:=QZ c;have a:=QY g c;clear d c;by_cases o:972<=e
   ·refine⟨(bits .or .u64 (bits .and .u64 (m:Int) 9223372036854775808) 9218868437227405312).toNat,Ga,by rw[UJ g];exact aX _,.inr rfl,fun w=>?_⟩
    clear b a
    go_in
    go_wp2
    go_ret2
    exact⟨rfl,rfl⟩
   obtain⟨q,i⟩:∃q:Nat,1075+e=q:=⟨(1075+e).toNat,by omega⟩;refine⟨(bits .or .u64 (bits .andNot .u64 (m:Int) 4503599627370496) ((1075+e)*4503599627370496)).toNat,.nilIface,by rw[i];exact Vq b a (by omega),.inl rfl,fun w=>?_⟩;clear i b a
   go_in
   go_wp2
   go_ret2
   exact⟨rfl,rfl⟩
theorem Fw (d:Nat) (p:Int) (T:d≠0) (hd:d<18446744073709551616) (hp : -345<=p) (d0:p<=310):∃x v,x<=9218868437227405312/\R5 v /\
  ∀w,Hl w->Calls prog 113 #[.int .u64 d,.int .i64 p,.int .u64 0] w fun en a=>en = .returned (.tuple #[.float .f64 x,v])/\Below w.heap.size w a:=by
 have HF:=FO;obtain⟨B,eB⟩:∃B,aP d=B:=⟨_,rfl⟩;have hB:B<=64:=by have:=JX d;omega
 have b0:1<=B:=by have:=M3 d T;omega
 have O:=fun W=>G2 d W hd;rw[eB] at O;have I:=aB O;obtain⟨l,A⟩:∃l,p*108853/32768=l:=⟨_,rfl⟩;have hl : -1147<=l/\l<=1030:=(by omega);have P:=fun W=>Kd p (by omega) (by omega) W;rw[A] at P;have J:=aB P;obtain⟨e,ee⟩:∃e,min 1074 (53-(B:Int)-l)=e:=⟨_,rfl⟩;have he:e<=1074/\e<=53-B-l /\ -1100<=e:=(by omega);obtain⟨k,ek⟩:∃k:Nat,p=(k:Int)-348:=⟨(p+348).toNat,by omega⟩;have hk:k<696:=(by omega);obtain⟨s,es⟩:∃s:Nat,-(e-(64-(B:Int))+l+3)=s:=⟨(-(e-(64-(B:Int))+l+3)).toNat,by omega⟩;have Q:=fun W (j:Hl W)=>GA k (e-(64-(B:Int))) l (.int .u64 0) (.int .u64 0) (.int .i64 0) W hk j (by omega) (by omega) (by omega) (by omega)
 rw[es] at Q;have K:=aB Q;have H:=aB ee;clear O P Q eB A ee;subst ek;by_cases a0:64<=s
 ·have e0:(bits .or .u64 (0:Int) 0).toNat=0:=by kernel_rfl
  refine⟨(bits .or .u64 (0:Int) 0).toNat,.nilIface,by omega,.inl rfl,fun w j=>?_⟩;have z:=aB j;clear j
  go_in
  go_wp2_with (first | (go_at_call 117;refine(I.out _).mono ?_;rintro e a ⟨rfl,rfl⟩) | (go_at_call 128;refine(J.out _).mono ?_;rintro e a ⟨rfl,rfl⟩) | (go_at_call 129;rw[H.out];refine(K.out _ z.out).mono ?_;rintro e a ⟨rfl,rfl⟩))
  go_ret2
  exact⟨rfl,(Below.refl _ _).alloc (aX _) _⟩
 have D:s<=63:=(by omega);obtain⟨X,N⟩:∃X:Nat,IntKind.u64.wrap ((d:Int)*2^(64-B))=X:=⟨(IntKind.u64.wrap ((d:Int)*2^(64-B))).toNat,by rw[IntKind.wrap_u64];omega⟩;have S:X<18446744073709551616:=by rw[IntKind.wrap_u64] at N;omega
 have HX:=aB N;have R:=fun(W:World) b c0 c1 c2=>JA X (CL k) (Dq k) s b W S (G7 k).1 (G7 k).2 D c0 c1 c2;have E:=UO X (CL k) (Dq k) s S (G7 k).1;have F:=UM X (CL k) (Dq k) s S (G7 k).1 (by omega);generalize Fa X (CL k) (Dq k) s=u at R E F;have H4:=aB R
 have a1:bits .and .u64 (u:Int) 1=(u:Int)%2:=by
  have h:=bits_and_u64_nat u 1 E (by omega);rw[nat_mask1] at h;exact h.trans (by omega)
 clear R N;by_cases hu:36028797018963966<=u
 ·have U:(36028797018963966:Int)<=u:=by omega
  have Z:=IV ((u:Int)/2) ((u:Int)%2) (by omega) (by omega) (by omega) (by omega);obtain⟨g,c⟩:∃g,GO ((u:Int)/2) ((u:Int)%2)=g:=⟨_,rfl⟩
  have t:g<18446744073709551612:=by
   rw[<- c];have:=aL (n:=63) (x:=((u:Int)/2).toNat) (y:=((u:Int)%2).toNat) (by omega) (by omega);unfold GO;omega
  have G:g<36028797018963968:=by
   rw[<- c];exact aL (n:=55) (x:=((u:Int)/2).toNat) (y:=((u:Int)%2).toNat) (by omega) (by omega)
  rw[c] at Z;have o:=fun W=>G_ g t W;have i:Ch g<=9007199254740992:=by unfold Ch;omega
  generalize Ch g=r at o i;have L:=aB o;have o2:=IV (0:Int) (r:Int) (by omega) (by omega) (by omega) (by omega);obtain⟨m,f⟩:∃m,GO (0:Int) (r:Int)=m:=⟨_,rfl⟩;have q:m<=9007199254740992:=by rw[<- f];unfold GO;simp;exact i
  rw[f] at o2;obtain⟨x,v,Y,V,C⟩:=IX m (-(e-1)) q (by omega) (by omega);have M:=aB C;refine⟨x,v,Y,V,fun w j=>?_⟩;have z:=aB j;clear j c f o C
  go_in
  go_wp2_with (first | (go_at_call 117;refine(I.out _).mono ?_;rintro e a ⟨rfl,rfl⟩) | (go_at_call 128;refine(J.out _).mono ?_;rintro e a ⟨rfl,rfl⟩) | (go_at_call 129;rw[H.out];refine(K.out _ z.out).mono ?_;rintro e a ⟨rfl,rfl⟩) | (go_at_call 130;rw[HX.out];refine(H4.out _ _ ?c0 ?c1 ?c2).mono ?_;rotate_left 3;rintro e a ⟨rfl,nq,rfl⟩) | (go_at_call 131;refine(KC 9007199254740992 (by decide) (by decide) _).mono ?_;rintro e a ⟨rfl,rfl⟩) | (go_at_call 118;refine(EK _ _).mono ?_;rintro e a ⟨rfl,rfl⟩) | (go_at_call 133;refine(L.out _).mono ?_;rintro e a ⟨rfl,rfl⟩) | (go_at_call 136;refine(M.out _).mono ?_;rintro e a ⟨rfl,rfl⟩))
  case c0=>rw[aF _ _ _ _ rfl];rfl
  case c1=>rw[aF _ _ _ _ rfl];rfl
  case c2=>rw[aF _ _ _ _ rfl];rfl
  go_ret2
  exact⟨rfl,below_drewN ((Below.refl _ _).alloc (aX _) _) _⟩
 have U:decide ((36028797018963966:Int)<=u)=false:=decide_eq_false (by omega);have Z:=IV ((u:Int)) ((u:Int)%2) (by omega) (by omega) (by omega) (by omega);obtain⟨g,c⟩:∃g,GO ((u:Int)) ((u:Int)%2)=g:=⟨_,rfl⟩
 have t:g<18446744073709551612:=by
  rw[<- c];have:=aL (n:=63) (x:=((u:Int)).toNat) (y:=((u:Int)%2).toNat) (by omega) (by omega);unfold GO;omega
 have G:g<36028797018963968:=by
  rw[<- c];exact aL (n:=55) (x:=((u:Int)).toNat) (y:=((u:Int)%2).toNat) (by omega) (by omega)
 rw[c] at Z;have o:=fun W=>G_ g t W;have i:Ch g<=9007199254740992:=by unfold Ch;omega
 generalize Ch g=r at o i;have L:=aB o;have o2:=IV (0:Int) (r:Int) (by omega) (by omega) (by omega) (by omega);obtain⟨m,f⟩:∃m,GO (0:Int) (r:Int)=m:=⟨_,rfl⟩;have q:m<=9007199254740992:=by rw[<- f];unfold GO;simp;exact i
 rw[f] at o2;obtain⟨x,v,Y,V,C⟩:=IX m (-(e)) q (by omega) (by omega);have M:=aB C;refine⟨x,v,Y,V,fun w j=>?_⟩;have z:=aB j;clear j c f o C hu
 go_in
 go_wp2_with (first | (go_at_call 117;refine(I.out _).mono ?_;rintro e a ⟨rfl,rfl⟩) | (go_at_call 128;refine(J.out _).mono ?_;rintro e a ⟨rfl,rfl⟩) | (go_at_call 129;rw[H.out];refine(K.out _ z.out).mono ?_;rintro e a ⟨rfl,rfl⟩) | (go_at_call 130;rw[HX.out];refine(H4.out _ _ ?c0 ?c1 ?c2).mono ?_;rotate_left 3;rintro e a ⟨rfl,nq,rfl⟩) | (go_at_call 131;refine(KC 9007199254740992 (by decide) (by decide) _).mono ?_;rintro e a ⟨rfl,rfl⟩) | (go_at_call 118;refine(EK _ _).mono ?_;rintro e a ⟨rfl,rfl⟩) | (go_at_call 133;refine(L.out _).mono ?_;rintro e a ⟨rfl,rfl⟩) | (go_at_call 136;refine(M.out _).mono ?_;rintro e a ⟨rfl,rfl⟩))
 case c0=>rw[aF _ _ _ _ rfl];rfl
 case c1=>rw[aF _ _ _ _ rfl];rfl
 case c2=>rw[aF _ _ _ _ rfl];rfl
 go_ret2
 exact⟨rfl,below_drewN ((Below.refl _ _).alloc (aX _) _) _⟩
open Go.ChangeShapes Go.WideShapes Go.ChangeAt
theorem P3 (W:World) (r:aE prog W "internal/strconv.powtab" Rows.laid_internal_strconv_powtab) :
  ∃B o cap,W.cell? ⟨16,0,none⟩=some (.slice (some ⟨B,o,none⟩) 9 cap)/\∀i,i<9->W.cell? ⟨B,o+i,none⟩=some (.int .i64 (Mt.getD i 0)):=by
 obtain⟨g,t,C,u,p,w,n,j,z⟩:=r;obtain rfl:=aD.inj ((show prog.globalNamed "internal/strconv.powtab" = some 16 by kernel_rfl).symm.trans w);obtain rfl:=aD.inj ((show (prog.globals[16]?).map (·.type)=some 22 by kernel_rfl).symm.trans n);obtain⟨a,cap,l,f⟩:=FF (e:=3) (by kernel_rfl) (by kernel_rfl) z
 have m:∀i,i<9->([1,3,6,9,13,16,19,23,26].map fun x:Int=>(.lit (.int .i64 x):DataW Unit))[i]?=some (.lit (.int .i64 (Mt.getD i 0))):=by
  intro i h;have:∀i:Fin 9,([1,3,6,9,13,16,19,23,26]:List Int)[(i:Nat)]?=some (Mt.getD i 0:Int):=(by decide);rw[aJ,this ⟨i,h⟩];rfl
 have c:∀i,i<9->W.cell? (a.add i)=some (.int .i64 (Mt.getD i 0)):=by
  intro i h;obtain⟨v,D,q,y,A⟩:=f i _ (m i h);have:=C1 (k:=.i64) (by kernel_rfl) A;rw[y];exact congrArg some (bG.inj this).1
 obtain⟨b,o,s⟩:=a
 obtain rfl:s=none:=by
  have d:=c 0 (by omega);have:(Addr.add ⟨b,o,s⟩ 0)=⟨b,o,s⟩:=(by simp[Addr.add]);rw[this] at d;exact cell_spot d
 refine⟨b,o,cap,?_,fun i h=>?_⟩
 ·rw[aG w j 0,<- aA,l];rfl
 have:=c i h
 rwa [Addr.add_lit] at this
theorem VQ (W:World) (r:aE prog W "internal/strconv.uint64pow10" Rows.laid_internal_strconv_uint64pow10) :
  ∀i,i<20->W.cell? ⟨14,i,none⟩=some (.int .u64 (10^i:Nat)):=by
 obtain⟨g,t,l,d,p,f,c,a,h⟩:=r;obtain rfl:=aD.inj ((show prog.globalNamed "internal/strconv.uint64pow10" = some 14 by kernel_rfl).symm.trans f);obtain rfl:=aD.inj ((show (prog.globals[14]?).map (·.type)=some 159 by kernel_rfl).symm.trans c);have b:=Lib.cells_of_tab (t:=159) (e:=113) (n:=20) (k:=.u64) (zs:=(List.range 20).map fun i=>((10^i:Nat):Int)) (by kernel_rfl) (by kernel_rfl) (by kernel_rfl) (by kernel_rfl) h;intro i j;rw[aG f a i,<- aA,b];simp[j]
theorem We (W:World) (A:aE prog W "internal/strconv.float64info" Rows.laid_internal_strconv_float64info) :
  W.cell? ⟨13,1,none⟩=some (.int .u64 11)/\W.cell? ⟨13,2,none⟩=some (.int .i64 (-1023)):=by
 obtain⟨g,t,l,m,p,i,j,c,v⟩:=A;obtain rfl:=aD.inj ((show prog.globalNamed "internal/strconv.float64info" = some 13 by kernel_rfl).symm.trans i);obtain rfl:=aD.inj ((show (prog.globals[13]?).map (·.type)=some 137 by kernel_rfl).symm.trans j);obtain⟨o,n,_,w,B,x,b⟩:=DataW.trod_struct underlying137 v
 have a:o.map (·.1)=[(.lit (.int .u64 52):DataW Unit),.lit (.int .u64 11),.lit (.int .i64 (-1023))]:=by
  have:=congrArg Prod.fst w;simpa[Rows.laid_internal_strconv_float64info] using this.symm
 have s:=b 1 _ rfl;have u:=b 2 _ rfl
 match o,a with
 | [b0,d,e],a =>
   simp only[List.map_cons,List.map_nil,bG.injEq,and_true] at a;obtain⟨_,q,r⟩:=a;obtain⟨d,q1⟩:=d;obtain⟨e,C⟩:=e;obtain rfl:d=_:=q;obtain rfl:e=_:=r;have f:prog.cellsOf 135=1:=(by kernel_rfl);have h:prog.cellsOf 3=1:=(by kernel_rfl);have y:(l.toList.drop 1).take 1=[.int .u64 11]:=by rw[<- f];exact C1 (k:=.u64) (by kernel_rfl) s
   have z:(l.toList.drop 2).take 1=[.int .i64 (-1023)]:=by rw[<- h];exact C1 (k:=.i64) (by kernel_rfl) u
   refine⟨?_,?_⟩
   ·rw[aG i c 1,<- aA]
    have:=congrArg (·[0]?) y;simpa[aM,aN] using this
   rw[aG i c 2,<- aA];have:=congrArg (·[0]?) z;simpa[aM,aN] using this
theorem VP (W:World) (r:aE prog W "internal/strconv.pow10Tab" Rows.laid_internal_strconv_pow10Tab) :
  ∀i,i<696->W.cell? ⟨18,2*i,none⟩=some (.int .u64 (CL i))/\W.cell? ⟨18,2*i+1,none⟩=some (.int .u64 (Dq i)):=by
 obtain⟨g,t,z,b,p,u,v,a,A⟩:=r;obtain rfl:=aD.inj ((show prog.globalNamed "internal/strconv.pow10Tab" = some 18 by kernel_rfl).symm.trans u);obtain rfl:=aD.inj ((show (prog.globals[18]?).map (·.type)=some 202 by kernel_rfl).symm.trans v);have w:Go.Pinned.pow10Rows.length=696:=(by decide +kernel);intro i B;have o:DataW.trod (fun _=>()) prog W 0 (fun _=>true) false b 202 z.toList=some (.agg (Go.Pinned.pow10Rows.map fun x => .agg [.lit (.int .u64 x.1),.lit (.int .u64 x.2)]),p):=A;obtain⟨l,d,q,c,h⟩:=Lib.array_elem (e:=201) (n:=696) (by kernel_rfl) o i B;have m:prog.cellsOf 201=2:=by kernel_rfl
 have C:Go.Pinned.pow10Rows[i]?=some (Go.Pinned.pow10Rows.getD i (0,0)):=by
  rw[aW,aC (by omega)];rfl
 rw[aJ,C] at c;obtain rfl:=(aD.inj c);rw[m] at h
 have y:=Lib.ints_of_struct (k:=.u64) (zs:=[((CL i:Nat):Int),((Dq i:Nat):Int)]) (t:=201) underlying201 (by
  intro j f s
  match j with
  | 0=>cases s;exact⟨by kernel_rfl,rfl,by kernel_rfl⟩
  | 1=>cases s;exact⟨by kernel_rfl,rfl,by kernel_rfl⟩
  | j+2=>simp at s) (by kernel_rfl) h
 refine⟨?_,?_⟩
 ·rw[aG u a (2*i),<- aA]
  have:=congrArg (·[0]?) y;simpa[aM,aN,aO] using this
 rw[aG u a (2*i+1),<- aA];have:=congrArg (·[1]?) y;simpa[aM,aN,aO] using this
theorem Pj (W:World) (r:aE prog W "internal/strconv.leftcheats" Rows.laid_internal_strconv_leftcheats) :
  ∃B o cap,W.cell? ⟨21,0,none⟩=some (.slice (some ⟨B,o,none⟩) 61 cap)/\∀k,k<61->W.cell? ⟨B,o+2*k,none⟩=some (.int .i64 (Go.Pinned.cheatRows.getD k (0,[])).1)/\W.cell? ⟨B,o+2*k+1,none⟩=some (.string ⟨(Go.Pinned.cheatRows.getD k (0,[])).2.toArray⟩):=by
 obtain⟨g,t,K,d,p,F,A,l,O⟩:=r;obtain rfl:=aD.inj ((show prog.globalNamed "internal/strconv.leftcheats" = some 21 by kernel_rfl).symm.trans F);obtain rfl:=aD.inj ((show (prog.globals[21]?).map (·.type)=some 220 by kernel_rfl).symm.trans A);have j:Go.Pinned.cheatRows.length=61:=(by decide +kernel);have z:DataW.trod (fun _=>()) prog W 0 (fun _=>true) false d 220 K.toList=some (.slice (Go.Pinned.cheatRows.map fun x => .agg [.lit (.int .i64 x.1),.lit (.string x.2)]) [],p):=O;obtain⟨a,cap,y,h⟩:=Ih (e:=219) (by kernel_rfl) (by kernel_rfl) z
 have c:∀i,i<61->W.cell? (a.add (i*2))=some (.int .i64 (Go.Pinned.cheatRows.getD i (0,[])).1)/\W.cell? ((a.add (i*2)).add 1)=some (.string ⟨(Go.Pinned.cheatRows.getD i (0,[])).2.toArray⟩):=by
  intro i G
  have Q:Go.Pinned.cheatRows[i]?=some (Go.Pinned.cheatRows.getD i (0,[])):=by
   rw[aW,aC (by omega)];rfl
  obtain⟨v,J,T,q,N,s,P⟩:=h i _ (by rw[aJ,Q];rfl);obtain⟨D,E,n,m,_,R,S⟩:=trod_struct2 underlying219 P;simp only[Prod.mk.injEq,DataW.agg.injEq,bG.injEq,and_true] at m;obtain⟨⟨L,M⟩,_⟩:=m;obtain⟨D,U⟩:=D;obtain⟨E,q1⟩:=E;obtain rfl:_=D:=L;obtain rfl:_=E:=M;have u:prog.cellsOf 3=1:=(by kernel_rfl);have w:prog.cellsOf 9=1:=(by kernel_rfl);have H:([v,J].drop 0).take 1=[.int .i64 (Go.Pinned.cheatRows.getD i (0,[])).1]:=by rw[<- u];exact C1 (k:=.i64) (by kernel_rfl) R
  have I:([v,J].drop 1).take 1=[.string ⟨(Go.Pinned.cheatRows.getD i (0,[])).2.toArray⟩]:=by rw[<- w];exact Fe (by kernel_rfl) S
  simp at H I;rw[N,s,H,I];exact⟨rfl,rfl⟩
 obtain⟨b,o,C⟩:=a
 obtain rfl:C=none:=by
  have f:=(c 0 (by omega)).1;have:(Addr.add ⟨b,o,C⟩ (0*2))=⟨b,o,C⟩:=(by simp[Addr.add]);rw[this] at f;exact cell_spot f
 refine⟨b,o,cap,?_,fun i G=>?_⟩
 ·rw[aG F l 0,<- aA,y]
  simp[j]
 have:=c i G;rw[Addr.add_lit,Addr.add_lit] at this
 rwa [aO 2 i]
theorem RO (W:World) (a:JU W) (b:aE prog W "internal/strconv.pow10Tab" Rows.laid_internal_strconv_pow10Tab)
  (c:aE prog W "internal/strconv.leftcheats" Rows.laid_internal_strconv_leftcheats) (d:aE prog W "internal/strconv.powtab" Rows.laid_internal_strconv_powtab)
  (e:aE prog W "internal/strconv.float64info" Rows.laid_internal_strconv_float64info) (f:aE prog W "internal/strconv.uint64pow10" Rows.laid_internal_strconv_uint64pow10):DE W :=
 ⟨⟨a,VP W b⟩,Pj W c,P3 W d,We W e,VQ W f⟩
theorem VO (W:World) (i:aE prog W "strconv.ErrSyntax" Rows.laid_strconv_ErrSyntax):∃j h,W.cell? ⟨9,0,none⟩=some (.iface j h):=by
 obtain⟨g,t,k,d,p,e,c,a,f⟩:=i;obtain rfl:=aD.inj ((show prog.globalNamed "strconv.ErrSyntax" = some 9 by kernel_rfl).symm.trans e);obtain rfl:=aD.inj ((show (prog.globals[9]?).map (·.type)=some 51 by kernel_rfl).symm.trans c);obtain⟨_,u,v,b,_,_⟩:=iface_of_trod underlying51 f;exact⟨u,v,by rw[aG e a 0,<- aA,b];rfl⟩
end Go.Proofs.YtipfpohlnhmlpaaGreatDoor
