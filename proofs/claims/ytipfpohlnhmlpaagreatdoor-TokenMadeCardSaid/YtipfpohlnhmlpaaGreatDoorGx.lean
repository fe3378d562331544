/- Gx Eb Ec Ed Ef -/
import Derived.Test.YtipfpohlnhmlpaaGreatDoorGu
import Derived.Test.YtipfpohlnhmlpaaGreatDoorNl
import Derived.Test.YtipfpohlnhmlpaaGreatDoorNp
import Derived.BigQuiet
import Derived.Deep.QuietTactic
import Derived.Deep.RegionLaw
set_option maxRecDepth 100000
set_option maxHeartbeats 8000000
open Bool renaming noConfusion->aA
open Go.Lib renaming hid->aB
open Array renaming getElem?_eq_some_iff->aC
open Go.World renaming cell?_of_block->aD,cell?_alloc_at->aO
open List renaming all_eq_true->aE,mem_of_getElem?->aH,getElem?_eq_some_iff->aI,mem_singleton->aJ,drop_eq_getElem_cons->aK,getElem?_eq_getElem->aL,length_map->aN,getElem?_map->aP
open Nat renaming le_refl->aF,le_trans->aM
open Prod renaming fst->aG
open Go.Value renaming int->aQ,slice->aR
namespace Go.Proofs.YtipfpohlnhmlpaaGreatDoor
open Go.Proofs.Tryz
open Go.RowKit
def U8:Array (Option Tmp×Op×TypeId×Option (Nat×Bool)) :=
 #[(some 113,.fieldAddr 37 (.tmp 4) 1,0,none),(some 114,.load 35 (.tmp 113),35,none),(some 115,.fieldAddr 37 (.tmp 4) 1,0,none),(some 116,.load 35 (.tmp 115),35,none),
   (some 117,.indexAddr 35 (.tmp 116) (.const (.int .i64 0)),0,none),(some 118,.fieldAddr 68 (.tmp 117) 2,0,none),(some 119,.fieldAddr 60 (.tmp 118) 3,0,none),(some 120,.load 58 (.tmp 119),58,none),
   (some 121,.call { callee:=.value (.func 38),args := #[.const (.int .i64 4),.const (.string ⟨#[112]⟩),.const (.slice none 0 0)],argTypes := #[3,9,58] },60,none),(some 122,.buildSlice 58 1 #[(0,.tmp 121)],58,none),
   (some 123,.call { callee:=.value (.func 38),args := #[.const (.int .i64 5),.const (.string ⟨#[113]⟩),.tmp 122],argTypes := #[3,9,58] },60,none),(some 124,.buildSlice 58 1 #[(0,.tmp 123)],58,none),
   (some 125,.call { callee:=.value (.func 38),args := #[.const (.int .i64 44),.const (.string ⟨#[]⟩),.tmp 124],argTypes := #[3,9,58] },60,none),(some 126,.buildSlice 58 1 #[(0,.tmp 125)],58,none),
   (some 127,.call { callee:=.builtin .append,args := #[.tmp 120,.tmp 126],argTypes := #[58,58] },58,none),(some 128,.indexAddr 35 (.tmp 114) (.const (.int .i64 0)),0,none),(some 129,.fieldAddr 68 (.tmp 128) 2,0,none),
   (some 130,.fieldAddr 60 (.tmp 129) 3,0,none),(none,.store 58 (.tmp 130) (.tmp 127),0,none)]
def Ri:List (Nat×Nat):=[(0,113),(1,114),(2,115),(3,116),(4,117),(5,118),(6,119),(7,120),(8,121),(9,122),(10,123),(11,124),(12,125),(13,126),(14,127),(15,128),(16,129),(17,130)]
def WQ (a:Array Oper):Bool:=[(1,0),(3,2),(4,3),(5,4),(6,5),(7,6),(9,8),(10,9),(11,10),(12,11),(13,12),(14,7),(14,13),(15,1),(16,15),(17,16)].all fun p=>Cc a p.1 p.2
theorem UR {a:Array Oper} (h:WQ a=true) (p:Nat×Nat) (b:p∈[(1,0),(3,2),(4,3),(5,4),(6,5),(7,6),(9,8),(10,9),(11,10),(12,11),(13,12),(14,7),(14,13),(15,1),(16,15),(17,16)]):Cc a p.1 p.2=true:=aE.1 h p b
structure WV (n0 B cb bg g gc:Nat) (cur:Array Value) (f:Fu) (pv:Value) (ka:Option Addr) (kn kc:Nat) (L:Nat->Bool) (V:Nat->Value) (w:World):Prop where
 sz:B<=w.heap.size
 fr:L 14=false->Dz 60 A0 cb (fun j=>n0<=j/\j≠g) w f pv (.slice ka kn kc)/\w.heap[g]?=some (.cells cur 68 (0,0))
 fa:L 14=true->L 18=false->Dz 60 A0 (cb+3) (fun j=>n0<=j/\j≠g) w (grown f) pv (V 14)/\w.heap[g]?=some (.cells cur 68 (0,0))
 fb:L 18=true->GQ 60 68 A0 n0 (cb+3) [(grown f,pv,V 14)] (.slice (some ⟨g,0,none⟩) 1 gc) w
 v0:L 0=true->V 0 = .pointer (some ⟨bg,1,none⟩)
 v1:L 1=true->V 1 = .slice (some ⟨g,0,none⟩) 1 gc
 v2:L 2=true->V 2 = .pointer (some ⟨bg,1,none⟩)
 v3:L 3=true->V 3 = .slice (some ⟨g,0,none⟩) 1 gc
 v4:L 4=true->V 4 = .pointer (some ⟨g,0,none⟩)
 v5:L 5=true->V 5 = .pointer (some ⟨g,2,none⟩)
 v6:L 6=true->V 6 = .pointer (some ⟨g,5,none⟩)
 v7:L 7=true->V 7 = .slice ka kn kc
 v8:L 8=true->NX 60 B w (V 8) nP
 v9:L 9=true->BX 60 B w (V 9) nP
 v10:L 10=true->NX 60 B w (V 10) nQ
 v11:L 11=true->BX 60 B w (V 11) nQ
 v12:L 12=true->NX 60 B w (V 12) nS
 v13:L 13=true->BX 60 B w (V 13) nS
 v14:L 14=true->∃xa xn xc,V 14 = .slice xa xn xc
 v15:L 15=true->V 15 = .pointer (some ⟨g,0,none⟩)
 v16:L 16=true->V 16 = .pointer (some ⟨g,2,none⟩)
 v17:L 17=true->V 17 = .pointer (some ⟨g,5,none⟩)
theorem WV.bel {n B d bg g i:Nat} {b:Array Value} {f:Fu} {o:Value} {k:Option Addr} {m l:Nat} {L:Nat->Bool} {V:Nat->Value} {w w':World} (h:WV n B d bg g i b f o k m l L V w) (a:Below w.heap.size w w'):WV n B d bg g i b f o k m l L V w' where
 sz:=aM h.sz a.size
 fr e:=⟨(h.fr e).1.kept a.size (fun j _ c=>a.block j c),(a.block g (aC.1 (h.fr e).2).1).trans (h.fr e).2⟩
 fa e e2:=⟨(h.fa e e2).1.kept a.size (fun j _ c=>a.block j c),(a.block g (aC.1 (h.fa e e2).2).1).trans (h.fa e e2).2⟩
 fb e:=(h.fb e).kp (Kp.below a)
 v0:=h.v0
 v1:=h.v1
 v2:=h.v2
 v3:=h.v3
 v4:=h.v4
 v5:=h.v5
 v6:=h.v6
 v7:=h.v7
 v8 e:=(h.v8 e).kp (Kp.below a)
 v9 e:=(h.v9 e).kp (Kp.below a)
 v10 e:=(h.v10 e).kp (Kp.below a)
 v11 e:=(h.v11 e).kp (Kp.below a)
 v12 e:=(h.v12 e).kp (Kp.below a)
 v13 e:=(h.v13 e).kp (Kp.below a)
 v14:=h.v14
 v15:=h.v15
 v16:=h.v16
 v17:=h.v17
theorem Wr {Q:Exit->Act->World->Prop} {id:Nat} {P:Array Oper} (W:P.map Oper.shape=U8) (hb:DU P=true) (hw:WQ P=true) (F:[0,1,2,3,4,5,6,7,8,9,10,11,12,13,14,17].all (Cc P 18)=true)
  {a0:Act} {O:World} (t1:a0.tmps.size=154) (w0:World) (l:Cp) (rb b bg J cb K S g gc:Nat) (Lr:List (Rl×Value×Value)) (v:Value) (B:Array Value) (f:Fu) (pv:Value) (ka:Option Addr) (kn kc:Nat) (h4:a0.eval (.tmp 4) = .pointer (some ⟨bg,0,none⟩))
  (hP:PG 60 62 A0 w0 l rb b bg J K Lr v (.slice (some ⟨g,0,none⟩) 1 gc) S O) (q2:S<=O.heap.size) (hF:Dz 60 A0 cb (fun j=>S<=j/\j≠g) O f pv (.slice ka kn kc)) (hg:S<=g) (r0:O.heap[g]?=some (.cells B 68 (0,0)))
  (g0:1<=gc/\gc<=maxLen/\B.size=gc*8) (p0:B.toList.take 8=AI [(f,pv,.slice ka kn kc)]) (n2:cb<=100000000)
  (q0:∀V w H M I,V 14 = .slice H M I->GQ 60 68 A0 S (cb+3) [(grown f,pv,.slice H M I)] (.slice (some ⟨g,0,none⟩) 1 gc) w->PG 60 62 A0 w0 l rb b bg J K Lr v (.slice (some ⟨g,0,none⟩) 1 gc) S w->O.heap.size<=w.heap.size->Q .normal (a0.all V Ri) w):(Code.region id P true).wp prog Q a0 O:=by
 have hn:P.size=19:=by have:=congrArg Array.size W;simpa[U8] using this
 obtain⟨i0,q1,x1,y1,z1⟩:=info_parts A.infoNd;have t0:g<O.heap.size:=(aC.1 r0).1
 have y0:∀q,(aR ka kn kc).ownBlock=some q->q<O.heap.size:=fun q hq=>by
  obtain⟨R,_,Z,_,_⟩:=hF.ks.owns S fun j N=>N.1;exact(Z.lt q hq).2
 refine D3 (by kernel_rfl) hb Ri (by decide) (by decide) (fun p hp=>?_) (fun p hp=>?_) (fun i o C=>?_) (fun L V w=>PG 60 62 A0 w0 l rb b bg J K Lr v (.slice (some ⟨g,0,none⟩) 1 gc) S w/\WV S O.heap.size cb bg g gc B f pv ka kn kc L V w) ?_ ?_ ?_
 ·rw[t1]
  have:∀p∈Ri,p.2<154:=(by decide);exact this p hp
 ·rw[hn]
  have:∀p∈Ri,p.1<19:=(by decide);exact this p hp
 ·have s:=Cz W C
  have hi:i<19:=by rw[<- hn];exact(aC.1 C).1
  rcases (by omega:i=0\/i=1\/i=2\/i=3\/i=4\/i=5\/i=6\/i=7\/i=8\/i=9\/i=10\/i=11\/i=12\/i=13\/i=14\/i=15\/i=16\/i=17\/i=18) with rfl | rfl | rfl | rfl | rfl | rfl | rfl | rfl | rfl | rfl | rfl | rfl | rfl | rfl | rfl | rfl | rfl | rfl | rfl<;>(rw[Ac s];exact⟨fun d hd=>by cases hd<;>decide,fun hd=>by first | decide | cases hd⟩)
 ·have hd:Below O.heap.size O { O with drawn:=O.drawn+1 }:=⟨rfl,rfl,rfl,aF _,fun _ _=>rfl⟩
  exact⟨hP.bel hd,aF _,fun _=>⟨hF.kept (aF _) fun _ _ _=>rfl,r0⟩,fun h=>aA h,fun h=>aA h,fun h=>aA h,fun h=>aA h,fun h=>aA h,fun h=>aA h,fun h=>aA h,fun h=>aA h,fun h=>aA h,fun h=>aA h,fun h=>aA h,fun h=>aA h,fun h=>aA h,fun h=>aA h,fun h=>aA h,fun h=>aA h,fun h=>aA h,fun h=>aA h,fun h=>aA h,fun h=>aA h⟩
 ·intro L V i o a w hcl ⟨hpf,hR⟩ C hL hdep hV ha0 KK hK
  have s:=Cz W C;have hi:i<19:=by rw[<- hn];exact(aC.1 C).1
  have m2:=AG ((ha0 4 (by decide)).trans h4);have r:=UR hw
  have k1:∀k,k<18->L k=false->L 18=false:=fun k hk hf=>by
   rcases (by omega:k=15\/k=16\/k<=14\/k=17) with rfl | rfl | h | rfl
   ·exact AB (aE.1 F 17 (by decide)) hcl (AB (r (17,16) (by decide)) hcl (AB (r (16,15) (by decide)) hcl hf))
   ·exact AB (aE.1 F 17 (by decide)) hcl (AB (r (17,16) (by decide)) hcl hf)
   ·refine AB (aE.1 F k ?_) hcl hf
    have:∀k,k<=14->k∈[0,1,2,3,4,5,6,7,8,9,10,11,12,13,14,17]:=(by decide);exact this k h
   exact AB (aE.1 F 17 (by decide)) hcl hf
  have a2:i<18->L 18=false:=fun h=>k1 i h hL
  have d0:∀w1:World,w1.heap[g]?=some (.cells B 68 (0,0))->w1.cell? ⟨g,5,none⟩=some (.slice ka kn kc):=fun w1 h=>by
   rw[cell_of_row w1 g 5 B _ (0,0) h];have:=congrArg (fun l:List Value=>l[5]?) p0;rw[List.getElem?_take_of_lt (by omega)] at this;simpa[Ka] using this
  rcases (by omega:i=0\/i=1\/i=2\/i=3\/i=4\/i=5\/i=6\/i=7\/i=8\/i=9\/i=10\/i=11\/i=12\/i=13\/i=14\/i=15\/i=16\/i=17\/i=18) with rfl | rfl | rfl | rfl | rfl | rfl | rfl | rfl | rfl | rfl | rfl | rfl | rfl | rfl | rfl | rfl | rfl | rfl | rfl
  ·have n:o.dst=some 113:=by rw[Ac s]
   rw[n] at hK;rw[Ac s]
   go_simp
   exact hK _ _ ⟨hpf,hR.sz,hR.fr,hR.fa,hR.fb,fun _=>rfl,hR.v1,hR.v2,hR.v3,hR.v4,hR.v5,hR.v6,hR.v7,hR.v8,hR.v9,hR.v10,hR.v11,hR.v12,hR.v13,hR.v14,hR.v15,hR.v16,hR.v17⟩
  ·have n:o.dst=some 114:=by rw[Ac s]
   rw[n] at hK;have l0:=Ak (r (1,0) (by decide)) C hdep;have e0:=AG ((hV (0,113) (by decide) l0).trans (hR.v0 l0));have s0:=hpf.g.c 1 _ rfl;rw[Ac s]
   go_simp
   exact hK _ _ ⟨hpf,hR.sz,hR.fr,hR.fa,hR.fb,hR.v0,fun _=>rfl,hR.v2,hR.v3,hR.v4,hR.v5,hR.v6,hR.v7,hR.v8,hR.v9,hR.v10,hR.v11,hR.v12,hR.v13,hR.v14,hR.v15,hR.v16,hR.v17⟩
  ·have n:o.dst=some 115:=by rw[Ac s]
   rw[n] at hK;rw[Ac s]
   go_simp
   exact hK _ _ ⟨hpf,hR.sz,hR.fr,hR.fa,hR.fb,hR.v0,hR.v1,fun _=>rfl,hR.v3,hR.v4,hR.v5,hR.v6,hR.v7,hR.v8,hR.v9,hR.v10,hR.v11,hR.v12,hR.v13,hR.v14,hR.v15,hR.v16,hR.v17⟩
  ·have n:o.dst=some 116:=by rw[Ac s]
   rw[n] at hK;have l2:=Ak (r (3,2) (by decide)) C hdep;have e2:=AG ((hV (2,115) (by decide) l2).trans (hR.v2 l2));have s0:=hpf.g.c 1 _ rfl;rw[Ac s]
   go_simp
   exact hK _ _ ⟨hpf,hR.sz,hR.fr,hR.fa,hR.fb,hR.v0,hR.v1,hR.v2,fun _=>rfl,hR.v4,hR.v5,hR.v6,hR.v7,hR.v8,hR.v9,hR.v10,hR.v11,hR.v12,hR.v13,hR.v14,hR.v15,hR.v16,hR.v17⟩
  ·have n:o.dst=some 117:=by rw[Ac s]
   rw[n] at hK;have l3:=Ak (r (4,3) (by decide)) C hdep;have e3:=AG ((hV (3,116) (by decide) l3).trans (hR.v3 l3));rw[Ac s]
   go_simp
   exact hK _ _ ⟨hpf,hR.sz,hR.fr,hR.fa,hR.fb,hR.v0,hR.v1,hR.v2,hR.v3,fun _=>rfl,hR.v5,hR.v6,hR.v7,hR.v8,hR.v9,hR.v10,hR.v11,hR.v12,hR.v13,hR.v14,hR.v15,hR.v16,hR.v17⟩
  ·have n:o.dst=some 118:=by rw[Ac s]
   rw[n] at hK;have l4:=Ak (r (5,4) (by decide)) C hdep;have e4:=AG ((hV (4,117) (by decide) l4).trans (hR.v4 l4));rw[Ac s]
   go_simp
   exact hK _ _ ⟨hpf,hR.sz,hR.fr,hR.fa,hR.fb,hR.v0,hR.v1,hR.v2,hR.v3,hR.v4,fun _=>rfl,hR.v6,hR.v7,hR.v8,hR.v9,hR.v10,hR.v11,hR.v12,hR.v13,hR.v14,hR.v15,hR.v16,hR.v17⟩
  ·have n:o.dst=some 119:=by rw[Ac s]
   rw[n] at hK;have l5:=Ak (r (6,5) (by decide)) C hdep;have e5:=AG ((hV (5,118) (by decide) l5).trans (hR.v5 l5));rw[Ac s]
   go_simp
   exact hK _ _ ⟨hpf,hR.sz,hR.fr,hR.fa,hR.fb,hR.v0,hR.v1,hR.v2,hR.v3,hR.v4,hR.v5,fun _=>rfl,hR.v7,hR.v8,hR.v9,hR.v10,hR.v11,hR.v12,hR.v13,hR.v14,hR.v15,hR.v16,hR.v17⟩
  ·have n:o.dst=some 120:=by rw[Ac s]
   rw[n] at hK;have l6:=Ak (r (7,6) (by decide)) C hdep;have e6:=AG ((hV (6,119) (by decide) l6).trans (hR.v6 l6));have c5:=d0 w (hR.fr (AB (r (14,7) (by decide)) hcl hL)).2;rw[Ac s]
   go_simp
   exact hK _ _ ⟨hpf,hR.sz,hR.fr,hR.fa,hR.fb,hR.v0,hR.v1,hR.v2,hR.v3,hR.v4,hR.v5,hR.v6,fun _=>rfl,hR.v8,hR.v9,hR.v10,hR.v11,hR.v12,hR.v13,hR.v14,hR.v15,hR.v16,hR.v17⟩
  ·have n:o.dst=some 121:=by rw[Ac s]
   rw[n] at hK;rw[Ac s]
   go_simp
   go_at_call 38
   refine(As 4 ⟨#[112]⟩ none 0 0 w).mono ?_;rintro e w' ⟨rfl,t⟩;have m:=hR.bel t;exact hK _ _ ⟨hpf.bel t,m.sz,m.fr,m.fa,m.fb,m.v0,m.v1,m.v2,m.v3,m.v4,m.v5,m.v6,m.v7,fun _=>⟨none,0,0,rfl,.nil _⟩,m.v9,m.v10,m.v11,m.v12,m.v13,m.v14,m.v15,m.v16,m.v17⟩
  ·have n:o.dst=some 122:=by rw[Ac s]
   rw[n] at hK;have l8:=Ak (r (9,8) (by decide)) C hdep;obtain⟨H,M,I,b0,T⟩:=(hR.v8 l8).box hR.sz;have e8:=AG ((hV (8,121) (by decide) l8).trans b0);have t:=Ad w (.cells #[.int .i64 nP.kd,.string ⟨nP.nm.toArray⟩,.float .f64 nP.x,.slice H M I,.complex .f64 nP.z.1 nP.z.2] 60);have m:=hR.bel t;rw[Ac s]
   go_simp
   exact hK _ _ ⟨hpf.bel t,m.sz,m.fr,m.fa,m.fb,m.v0,m.v1,m.v2,m.v3,m.v4,m.v5,m.v6,m.v7,m.v8,fun _=>T,m.v10,m.v11,m.v12,m.v13,m.v14,m.v15,m.v16,m.v17⟩
  ·have n:o.dst=some 123:=by rw[Ac s]
   rw[n] at hK;have l9:=Ak (r (10,9) (by decide)) C hdep;obtain⟨p,j0,h0⟩:=(hR.v9 l9).node 5 [113];have e9:=AG ((hV (9,122) (by decide) l9).trans j0);rw[Ac s]
   go_simp
   go_at_call 38
   refine(As 5 ⟨#[113]⟩ (some ⟨p,0,none⟩) 1 1 w).mono ?_;rintro e w' ⟨rfl,t⟩;have m:=hR.bel t;exact hK _ _ ⟨hpf.bel t,m.sz,m.fr,m.fa,m.fb,m.v0,m.v1,m.v2,m.v3,m.v4,m.v5,m.v6,m.v7,m.v8,m.v9,fun _=>h0.kp (Kp.below t),m.v11,m.v12,m.v13,m.v14,m.v15,m.v16,m.v17⟩
  ·have n:o.dst=some 124:=by rw[Ac s]
   rw[n] at hK;have c1:=Ak (r (11,10) (by decide)) C hdep;obtain⟨H,M,I,b0,T⟩:=(hR.v10 c1).box hR.sz;have b2:=AG ((hV (10,123) (by decide) c1).trans b0);have t:=Ad w (.cells #[.int .i64 nQ.kd,.string ⟨nQ.nm.toArray⟩,.float .f64 nQ.x,.slice H M I,.complex .f64 nQ.z.1 nQ.z.2] 60);have m:=hR.bel t;rw[Ac s]
   go_simp
   exact hK _ _ ⟨hpf.bel t,m.sz,m.fr,m.fa,m.fb,m.v0,m.v1,m.v2,m.v3,m.v4,m.v5,m.v6,m.v7,m.v8,m.v9,m.v10,fun _=>T,m.v12,m.v13,m.v14,m.v15,m.v16,m.v17⟩
  ·have n:o.dst=some 125:=by rw[Ac s]
   rw[n] at hK;have d1:=Ak (r (12,11) (by decide)) C hdep;obtain⟨p,j0,h0⟩:=(hR.v11 d1).node 44 [];have c2:=AG ((hV (11,124) (by decide) d1).trans j0);rw[Ac s]
   go_simp
   go_at_call 38
   refine(As 44 ⟨#[]⟩ (some ⟨p,0,none⟩) 1 1 w).mono ?_;rintro e w' ⟨rfl,t⟩;have m:=hR.bel t;exact hK _ _ ⟨hpf.bel t,m.sz,m.fr,m.fa,m.fb,m.v0,m.v1,m.v2,m.v3,m.v4,m.v5,m.v6,m.v7,m.v8,m.v9,m.v10,m.v11,fun _=>h0.kp (Kp.below t),m.v13,m.v14,m.v15,m.v16,m.v17⟩
  ·have n:o.dst=some 126:=by rw[Ac s]
   rw[n] at hK;have f1:=Ak (r (13,12) (by decide)) C hdep;obtain⟨H,M,I,b0,T⟩:=(hR.v12 f1).box hR.sz;have d2:=AG ((hV (12,125) (by decide) f1).trans b0);have t:=Ad w (.cells #[.int .i64 nS.kd,.string ⟨nS.nm.toArray⟩,.float .f64 nS.x,.slice H M I,.complex .f64 nS.z.1 nS.z.2] 60);have m:=hR.bel t;rw[Ac s]
   go_simp
   exact hK _ _ ⟨hpf.bel t,m.sz,m.fr,m.fa,m.fb,m.v0,m.v1,m.v2,m.v3,m.v4,m.v5,m.v6,m.v7,m.v8,m.v9,m.v10,m.v11,m.v12,fun _=>T,m.v14,m.v15,m.v16,m.v17⟩
  ·have n:o.dst=some 127:=by rw[Ac s]
   rw[n] at hK;have l7:=Ak (r (14,7) (by decide)) C hdep;have g1:=Ak (r (14,13) (by decide)) C hdep;obtain⟨D,U⟩:=hR.fr hL;obtain⟨p,H,M,I,b1,p1,p2,p3⟩:=hR.v13 g1;have e7:=(hV (7,120) (by decide) l7).trans (hR.v7 l7);have m1:=(hV (13,126) (by decide) g1).trans b1;obtain⟨R,o0,Z,X,a1⟩:=D.ks.owns S fun j N=>N.1
   have k2:R.length<=100000000:=by
    have h1:=Io (R.map aG);rw[aN,o0] at h1;have h2:=D.wt;rw[MR] at h2;omega
   rw[Ac s];refine step_append_lies _ rfl (.tmp 120) (.tmp 126) 58 rfl S 60 i0 _ 5 72 underlying58 q1 x1 y1 z1 rfl (by decide) _ R.length (Ah R) e7 Z ⟨p,0,none⟩ 1 1 (Ah [(nS,.slice H M I)]) m1 rfl (World.news_of_block p2) (B7 _ _ _ _) (by decide) (by unfold maxLen;omega) (by omega) (by have:=hR.sz;omega) w.heap.size rfl ?_;intro g5 k0 w' o1 o2 o3 o4;have s1:∀j,O.heap.size<=j->some j≠(aR ka kn kc).ownBlock:=fun j N e=>by have:=y0 j e.symm;omega
   have y:Kp O.heap.size w w':=⟨o2.size,fun j N hl=>o2.block j hl (s1 j N)⟩;have z0:∀j,j<w.heap.size->some j≠(aR ka kn kc).ownBlock->w'.heap[j]?=w.heap[j]?:=fun j N r1=>o2.block j N r1;have f0:=LP nS RX (by rw[U0];omega) D o0 (fun q hq=>⟨X q hq,y0 q hq⟩) a1 (p3.mono fun j _ N=>N.1) ⟨by omega,t0,hR.sz⟩ o1 o2 (by rcases o3 with h | h;(left;exact h.symm);(right;rw[h];rfl));have x0:w'.heap[g]?=some (.cells B 68 (0,0)):=(z0 g (by have:=hR.sz;omega) (fun e=>(X g e.symm).2 rfl)).trans U;have Y:=hpf.high ⟨o2.os,o2.tape,o2.output⟩ o2.size (fun j N hl=>o2.block j hl (fun e=>by have:=(X j e.symm).1;omega)) (by have:=hR.sz;omega)
   refine hK (.slice (some ⟨g5,0,none⟩) (R.length+1) k0) _ ⟨Y,aM hR.sz o2.size,fun h=>aA h,fun _ _=>⟨f0,x0⟩,fun h=>absurd ((a2 (by omega)).symm.trans h) (by decide),hR.v0,hR.v1,hR.v2,hR.v3,hR.v4,hR.v5,hR.v6,hR.v7,fun e=>(hR.v8 e).kp y,fun e=>(hR.v9 e).kp y,fun e=>(hR.v10 e).kp y,fun e=>(hR.v11 e).kp y,fun e=>(hR.v12 e).kp y,fun e=>(hR.v13 e).kp y,fun _=>⟨_,_,_,rfl⟩,hR.v15,hR.v16,hR.v17⟩
  ·have n:o.dst=some 128:=by rw[Ac s]
   rw[n] at hK;have l1:=Ak (r (15,1) (by decide)) C hdep;have e1:=AG ((hV (1,114) (by decide) l1).trans (hR.v1 l1));rw[Ac s]
   go_simp
   exact hK _ _ ⟨hpf,hR.sz,hR.fr,hR.fa,hR.fb,hR.v0,hR.v1,hR.v2,hR.v3,hR.v4,hR.v5,hR.v6,hR.v7,hR.v8,hR.v9,hR.v10,hR.v11,hR.v12,hR.v13,hR.v14,fun _=>rfl,hR.v16,hR.v17⟩
  ·have n:o.dst=some 129:=by rw[Ac s]
   rw[n] at hK;have i1:=Ak (r (16,15) (by decide)) C hdep;have g2:=AG ((hV (15,128) (by decide) i1).trans (hR.v15 i1));rw[Ac s]
   go_simp
   exact hK _ _ ⟨hpf,hR.sz,hR.fr,hR.fa,hR.fb,hR.v0,hR.v1,hR.v2,hR.v3,hR.v4,hR.v5,hR.v6,hR.v7,hR.v8,hR.v9,hR.v10,hR.v11,hR.v12,hR.v13,hR.v14,hR.v15,fun _=>rfl,hR.v17⟩
  ·have n:o.dst=some 130:=by rw[Ac s]
   rw[n] at hK;have j1:=Ak (r (17,16) (by decide)) C hdep;have i2:=AG ((hV (16,129) (by decide) j1).trans (hR.v16 j1));rw[Ac s]
   go_simp
   exact hK _ _ ⟨hpf,hR.sz,hR.fr,hR.fa,hR.fb,hR.v0,hR.v1,hR.v2,hR.v3,hR.v4,hR.v5,hR.v6,hR.v7,hR.v8,hR.v9,hR.v10,hR.v11,hR.v12,hR.v13,hR.v14,hR.v15,hR.v16,fun _=>rfl⟩
  have n:o.dst=none:=(by rw[Ac s]);rw[n] at hK;have c0:L 17=true:=Ak (aE.1 F 17 (by decide)) C hdep
  have u:∀k,k<18->L k=true:=fun k hk=>by
   rcases (by omega:k=15\/k=16\/k<=14\/k=17) with rfl | rfl | h | rfl
   ·cases hf:L 15 with
    | true=>rfl
    | false=>rw[AB (r (17,16) (by decide)) hcl (AB (r (16,15) (by decide)) hcl hf)] at c0;cases c0
   ·cases hf:L 16 with
    | true=>rfl
    | false=>rw[AB (r (17,16) (by decide)) hcl hf] at c0;cases c0
   ·refine Ak (aE.1 F k ?_) C hdep
    have:∀k,k<=14->k∈[0,1,2,3,4,5,6,7,8,9,10,11,12,13,14,17]:=(by decide);exact this k h
   exact c0
  obtain⟨H,M,I,E⟩:=hR.v14 (u 14 (by omega));have f2:=AG ((hV (14,127) (by decide) (u 14 (by omega))).trans E);have j2:=AG ((hV (17,130) (by decide) (u 17 (by omega))).trans (hR.v17 (u 17 (by omega))));obtain⟨D,U⟩:=hR.fa (u 14 (by omega)) hL;have c5:=d0 w U;have cz:=frozen_of_row w g 5 B _ U;have G:Ae g w (w.setCell ⟨g,5,none⟩ (.slice H M I)):=(Ae.refl _ _).set 5 _;have y:Kp O.heap.size w (w.setCell ⟨g,5,none⟩ (.slice H M I)):=Kp.only G t0;have Y:=hpf.high ⟨G.os,G.tape,G.output⟩ G.size (fun j N hl=>G.block j hl (fun e=>by injection e with e;omega)) (by have:=hR.sz;omega)
  rw[E] at D
  have n1:GQ 60 68 A0 S (cb+3) [(grown f,pv,.slice H M I)] (.slice (some ⟨g,0,none⟩) 1 gc) (w.setCell ⟨g,5,none⟩ (.slice H M I)):=by
   refine⟨⟨rfl,.inr ⟨g,gc,B.setIfInBounds 5 (.slice H M I),rfl,hg,heap_setCell_same w g 5 B _ _ U,g0.1,g0.2.1,by simpa using g0.2.2,?_⟩⟩,fun q hq=>?_⟩
   ·show (B.setIfInBounds 5 (.slice H M I)).toList.take 8=_
    rw[take_set B _ _ p0];exact OC f nS pv _ _
   obtain rfl:=aJ.1 hq;exact(D.kept G.size fun j N hl=>G.block j hl (fun e=>by injection e with e;exact N.2 e)).mono fun j _ N=>⟨N.1,fun e=>by injection e with e;exact N.2 e⟩
  rw[Ac s]
  go_simp
  refine hK undef _ ⟨Y,aM hR.sz G.size,fun h=>?_,fun _ h=>aA h,fun _=>?_,hR.v0,hR.v1,hR.v2,hR.v3,hR.v4,hR.v5,hR.v6,hR.v7,fun e=>(hR.v8 e).kp y,fun e=>(hR.v9 e).kp y,fun e=>(hR.v10 e).kp y,fun e=>(hR.v11 e).kp y,fun e=>(hR.v12 e).kp y,fun e=>(hR.v13 e).kp y,hR.v14,hR.v15,hR.v16,hR.v17⟩
  ·have h':L 14=false:=h
   rw[u 14 (by omega)] at h';cases h'
  show GQ _ _ _ _ _ [(grown f,pv,V 14)] _ _;rw[E];exact n1
 intro L V w u ⟨hpf,hR⟩;rw[hn] at u;obtain⟨H,M,I,E⟩:=hR.v14 (u 14 (by omega));have m0:=hR.fb (u 18 (by omega));rw[E] at m0;exact q0 V w H M I E m0 hpf hR.sz
theorem Hh {P:Program} {o:Oper} {a:Act} {w:World} {K:Act->World->Prop} {Q:Exit->Act->World->Prop} (v:Value) (h:(execOp a.eval o).run P w = .ok (.value v) w) (b:K (a.put o.dst v) w):o.wp P a w K Q:=by
 unfold Oper.wp;rw[h];exact b
theorem Dv:Tryz.zeroCells230=Array.replicate 256 (Value.bool false):=by kernel_rfl
theorem EB:(prog.info? 230).map (·.size)=some 256:=by kernel_rfl
theorem Ue (c i:Nat) (a:i<256):∃b,(Tryz.zeroCells230.setIfInBounds c (.bool true))[i]?=some (.bool b):=by
 rw[Dv];by_cases h:c=i
 ·subst h;exact⟨true,by rw[Array.getElem?_setIfInBounds_self_of_lt (by simpa using a)]⟩
 exact⟨false,by rw[Array.getElem?_setIfInBounds_ne h];simp[a]⟩
theorem R6 (c:Nat) (hc:c<256) (W:World) :
  Calls prog 186 #[.int .u8 c] W fun e w'=>∃a b c d:Int,e = .returned (.agg #[.int .i64 1,.int .u64 a,.int .u64 b,.int .u64 c,.int .u64 d,.slice none 0 0])/\Below W.heap.size W w':=by
 have D:(W.alloc (.cells #[.int .i64 0,.int .u64 0,.int .u64 0,.int .u64 0,.int .u64 0,.slice none 0 0] 186)).heap.size=W.heap.size+1:=(by simp);have w:Below W.heap.size W (W.alloc (.cells #[.int .i64 0,.int .u64 0,.int .u64 0,.int .u64 0,.int .u64 0,.slice none 0 0] 186)):=Ad W _;have G:∀i v,(#[aQ .i64 0,.int .u64 0,.int .u64 0,.int .u64 0,.int .u64 0,.slice none 0 0]:Array Value)[i]?=some v->(W.alloc (.cells #[.int .i64 0,.int .u64 0,.int .u64 0,.int .u64 0,.int .u64 0,.slice none 0 0] 186)).cell? ⟨W.heap.size,i,none⟩=some v:=fun i v h=>by rw[aO _ _ _ _ rfl];exact h
 have y:∀j,(W.alloc (.cells #[.int .i64 0,.int .u64 0,.int .u64 0,.int .u64 0,.int .u64 0,.slice none 0 0] 186)).frozen? ⟨W.heap.size,j,none⟩=false:=fun j=>World.frozen?_alloc_at _ _ _ _ rfl;have l:=aB w;have g:=aB G;have n:=aB y;have A:=aB D;have z:(Tryz.zeroCells230.setIfInBounds c (.bool true)).size=256:=by rw[Dv];simp
 have o:=aB z;clear w G y D z
 go_in
 go_wp2_with fail
 generalize I:(W.alloc (.cells #[.int .i64 0,.int .u64 0,.int .u64 0,.int .u64 0,.int .u64 0,.slice none 0 0] 186))=V at l g n A ⊢;clear I
 refine Hh (.agg (Tryz.zeroCells230.setIfInBounds c (.bool true))) (by
  have:=run_loadAt_new (P:=prog) V 230 (Tryz.zeroCells230.setIfInBounds c (.bool true)) 256 4 underlying230 (by rw[EB,o.out]);rw[A.out] at this
  simp[execOp,Act.eval,this,Result.andThen]) ?_
 have C:Hid (∀w',Calls prog 182 #[.agg (Tryz.zeroCells230.setIfInBounds c (.bool true))] w' fun e B=>∃a b c d:Int,e = .returned (.agg #[.int .u64 a,.int .u64 b,.int .u64 c,.int .u64 d])/\Below w'.heap.size w' B):=fun w'=>F' _ o.out (fun i J=>Ue c i J) w';generalize (Tryz.zeroCells230.setIfInBounds c (.bool true))=arr at C ⊢
 go_wp2_with fail
 (go_at_call 182;refine(C.out _).mono ?_;rintro e m ⟨q,r,s,t,rfl,x⟩)
 have f:Below V.heap.size V m:=(Ad V _).trans (x.mono (Ad V _).size);have L:=Aa (g.out 0 _ rfl) f;have M:=Aa (g.out 1 _ rfl) f;have N:=Aa (g.out 2 _ rfl) f;have O:=Aa (g.out 3 _ rfl) f;have Q:=Aa (g.out 4 _ rfl) f;have R:=Aa (g.out 5 _ rfl) f
 have rf:∀j,m.frozen? ⟨W.heap.size,j,none⟩=false:=fun j=>by
  rw[World.frozen?_of_block (f.block W.heap.size (by have:=A.out;omega))];exact n.out j
 have p:Hid (Below W.heap.size W m):=l.out.trans (f.mono l.out.size);have E:Af m W.heap.size [.int .i64 0,.int .u64 0,.int .u64 0,.int .u64 0,.int .u64 0,.slice none 0 0]:=⟨fun i u K=>Aa (g.out i u (by simpa using K)) f,rf⟩;have H:=aB E;clear x f E;go_wp2;have F:=((((((Ae.refl W.heap.size m).set 0 (.int .i64 1)).set 1 (.int .u64 q)).set 2 (.int .u64 r)).set 3 (.int .u64 s)).set 4 (.int .u64 t)).set 5 (.slice none 0 0);have k:=(((((H.out.set 0 (.int .i64 1) _ rfl).set 1 (.int .u64 q) _ rfl).set 2 (.int .u64 r) _ rfl).set 3 (.int .u64 s) _ rfl).set 4 (.int .u64 t) _ rfl).set 5 (.slice none 0 0) _ rfl;generalize ((((((m.setCell ⟨W.heap.size,0,none⟩ (.int .i64 1)).setCell ⟨W.heap.size,1,none⟩ (.int .u64 q)).setCell ⟨W.heap.size,2,none⟩ (.int .u64 r)).setCell ⟨W.heap.size,3,none⟩ (.int .u64 s)).setCell ⟨W.heap.size,4,none⟩ (.int .u64 t)).setCell ⟨W.heap.size,5,none⟩ (.slice none 0 0))=Z at F k ⊢
 have S:=k.c 0 _ rfl;have T:=k.c 1 _ rfl;have U:=k.c 2 _ rfl;have X:=k.c 3 _ rfl;have Y:=k.c 4 _ rfl;have z5:=k.c 5 _ rfl;clear k L M N O Q R rf;exact bodyPost_ret (v:=.agg #[.int .i64 1,.int .u64 q,.int .u64 r,.int .u64 s,.int .u64 t,.slice none 0 0]) (by simp[results,results186,go_sem,S,T,U,X,Y,z5]<;>exact rfl) rfl ⟨q,r,s,t,rfl,F.below_of p.out (aF _) p.out.size⟩
end Go.Proofs.YtipfpohlnhmlpaaGreatDoor
namespace Go
open Go.RowKit
inductive Rt where
 | mk (k:Int) (ks:List Rt)
def Rt.kd:Rt->Int | .mk k _=>k
def Rt.ks:Rt->List Rt | .mk _ ks=>ks
structure Rw where
 a:Int
 b:Int
 c:Int
 d:Int
inductive Cs (w:World) (S:Nat->Prop):List Rt->Value->Prop
 | nil:Cs w S [] (.slice none 0 0)
 | row (L:List (Rt×Rw×Value)) (b cap:Nat) (hS:S b) (hb:b<w.heap.size)
    (hc:∀i p,L[i]?=some p->w.cell? ⟨b,6*i,none⟩=some (.int .i64 p.1.kd)/\w.cell? ⟨b,6*i+1,none⟩=some (.int .u64 p.2.1.a)/\w.cell? ⟨b,6*i+2,none⟩=some (.int .u64 p.2.1.b)/\w.cell? ⟨b,6*i+3,none⟩=some (.int .u64 p.2.1.c) /\
      w.cell? ⟨b,6*i+4,none⟩=some (.int .u64 p.2.1.d)/\w.cell? ⟨b,6*i+5,none⟩=some p.2.2)
    (hz:∀p∈L,p.1.kd≠1->p.2.1=⟨0,0,0,0⟩)
    (hk:∀p∈L,Cs w S p.1.ks p.2.2):Cs w S (L.map aG) (.slice (some ⟨b,0,none⟩) L.length cap)
theorem Cs.mono {w:World} {S S':Nat->Prop} {ks:List Rt} {v:Value} (h:Cs w S ks v) (f:∀j,j<w.heap.size->S j->S' j):Cs w S' ks v:=by
 induction h with
 | nil=>exact .nil
 | row L b a d c e g k i=>exact .row L b a (f b c d) c e g i
theorem Cs.kept {w w':World} {S:Nat->Prop} {ks:List Rt} {v:Value} (h:Cs w S ks v) (u:w.heap.size<=w'.heap.size) (q:∀j,S j->j<w.heap.size->w'.heap[j]?=w.heap[j]?):Cs w' S ks v:=by
 induction h with
 | nil=>exact .nil
 | row L b a c n o s _ t =>
   refine .row L b a c (by omega) (fun i p r=>?_) s t;have e:=q b c n;obtain⟨d,f,g,k,l,m⟩:=o i p r;exact⟨(aD e).trans d,(aD e).trans f,(aD e).trans g,(aD e).trans k,(aD e).trans l,(aD e).trans m⟩
theorem Cs.bel {w w':World} {S:Nat->Prop} {ks:List Rt} {v:Value} (h:Cs w S ks v) (a:Below w.heap.size w w'):Cs w' S ks v:=h.kept a.size fun j _ b=>a.block j b
theorem Cs.only {w w':World} {S:Nat->Prop} {q:Nat} {ks:List Rt} {v:Value} (h:Cs w S ks v) (a:Ae q w w') (d:¬ S q):Cs w' S ks v:=h.kept a.size fun j b c=>a.block j c (fun e=>by injection e with e;subst e;exact d b)
theorem Cs.slice {w:World} {S:Nat->Prop} {ks:List Rt} {v:Value} (h:Cs w S ks v):∃a c,v = .slice a ks.length c:=by
 cases h with
 | nil=>exact⟨_,_,rfl⟩
 | row L b d e f g j i=>exact⟨_,_,by rw[aN]⟩
end Go
namespace Go.Proofs.YtipfpohlnhmlpaaGreatDoor
open Go.Proofs.Tryz
open Go.RowKit
theorem UK (k:Int) (r s:Rt) (x y:Rw) (q w:Option Addr) (u t A z:Nat) (W:World) (S:Nat->Prop) (H:Cs W S r.ks (.slice q u t)) (I:Cs W S s.ks (.slice w A z)) (J:r.kd≠1->x=⟨0,0,0,0⟩) (K:s.kd≠1->y=⟨0,0,0,0⟩) :
  Calls prog 178 #[.int .i64 k,.agg #[.int .i64 r.kd,.int .u64 x.a,.int .u64 x.b,.int .u64 x.c,.int .u64 x.d,.slice q u t],.agg #[.int .i64 s.kd,.int .u64 y.a,.int .u64 y.b,.int .u64 y.c,.int .u64 y.d,.slice w A z]] W
   fun e L=>∃a c,e = .returned (.agg #[.int .i64 k,.int .u64 0,.int .u64 0,.int .u64 0,.int .u64 0,.slice a 2 c])/\Cs L (fun j=>S j\/W.heap.size+2<j) [r,s] (.slice a 2 c)/\Below W.heap.size W L:=by
 have M:=aB H;have N:=aB I;have P:=aB J;have Q:=aB K;obtain⟨V,F⟩:∃V,V=(W.alloc (.cells #[.int .i64 r.kd,.int .u64 x.a,.int .u64 x.b,.int .u64 x.c,.int .u64 x.d,.slice q u t] 186)).alloc (.cells #[.int .i64 s.kd,.int .u64 y.a,.int .u64 y.b,.int .u64 y.c,.int .u64 y.d,.slice w A z] 186):=⟨_,rfl⟩;have E:V.heap.size=W.heap.size+2:=by rw[F];simp
 have D:Below W.heap.size W V:=by rw[F];exact((Below.refl _ _).alloc (aF _) _).alloc (by simp) _
 have O:=aB F;have l:=aB E;have B:=aB D;clear H I J K F E D
 go_in
 go_wp2;rw[<- O.out,show W.heap.size+1+1+1=W.heap.size+3 from rfl];obtain⟨U,C⟩:∃U,U=V.alloc (.cells #[.int .i64 k,.int .u64 0,.int .u64 0,.int .u64 0,.int .u64 0,.slice (some ⟨W.heap.size+3,0,none⟩) 2 2] 186):=⟨_,rfl⟩;obtain⟨Z,o⟩:∃Z,Z=U.alloc (.cells #[.int .i64 r.kd,.int .u64 x.a,.int .u64 x.b,.int .u64 x.c,.int .u64 x.d,.slice q u t,.int .i64 s.kd,.int .u64 y.a,.int .u64 y.b,.int .u64 y.c,.int .u64 y.d,.slice w A z] 186):=⟨_,rfl⟩;have n:U.heap.size=W.heap.size+3:=by rw[C];simp[l.out]
 have m:Af Z (W.heap.size+2) [.int .i64 k,.int .u64 0,.int .u64 0,.int .u64 0,.int .u64 0,.slice (some ⟨W.heap.size+3,0,none⟩) 2 2]:=by
  have h:=Af.new V [.int .i64 k,.int .u64 0,.int .u64 0,.int .u64 0,.int .u64 0,.slice (some ⟨W.heap.size+3,0,none⟩) 2 2] 186;rw[l.out] at h;rw[o,C];exact h.below (by simp[l.out]) (Ad _ _)
 have G:Below W.heap.size W Z:=by
  rw[o,C];exact(B.out.alloc B.out.size _).alloc (by simp[l.out];omega) _
 have R:Cs Z (fun j=>S j\/W.heap.size+2<j) [r,s] (.slice (some ⟨W.heap.size+3,0,none⟩) 2 2):=by
  have g:∀i v,(#[aQ .i64 r.kd,.int .u64 x.a,.int .u64 x.b,.int .u64 x.c,.int .u64 x.d,.slice q u t,.int .i64 s.kd,.int .u64 y.a,.int .u64 y.b,.int .u64 y.c,.int .u64 y.d,.slice w A z]:Array Value)[i]?=some v->Z.cell? ⟨W.heap.size+3,i,none⟩=some v:=fun i v h=>by
   rw[o,aO _ _ _ _ (by rw[n])];exact h
  refine Cs.row [(r,x,.slice q u t),(s,y,.slice w A z)] (W.heap.size+3) 2 (.inr (by omega)) (by rw[o];simp[n]) (fun i p f=>?_) ?_ ?_
  ·rcases (by have:=(aI.1 f).1;simp at this;omega:i=0\/i=1) with rfl | rfl
   ·simp at f;subst f
    exact⟨g 0 _ rfl,g 1 _ rfl,g 2 _ rfl,g 3 _ rfl,g 4 _ rfl,g 5 _ rfl⟩
   simp at f;subst f;exact⟨g 6 _ rfl,g 7 _ rfl,g 8 _ rfl,g 9 _ rfl,g 10 _ rfl,g 11 _ rfl⟩
  ·intro p f
   rcases List.mem_cons.1 f with rfl | f
   ·exact P.out
   rw[aJ.1 f];exact Q.out
  intro p f;rcases List.mem_cons.1 f with rfl | f
  ·exact(M.out.bel G).mono fun j _ h => .inl h
  rw[aJ.1 f];exact(N.out.bel G).mono fun j _ h => .inl h
 rw[<- C,<- o];clear C o n;have T:=m.c 0 _ rfl;have X:=m.c 1 _ rfl;have Y:=m.c 2 _ rfl;have z3:=m.c 3 _ rfl;have z4:=m.c 4 _ rfl;have z5:=m.c 5 _ rfl;clear m;exact bodyPost_ret (v:=.agg #[.int .i64 k,.int .u64 0,.int .u64 0,.int .u64 0,.int .u64 0,.slice (some ⟨W.heap.size+3,0,none⟩) 2 2]) (by simp[results,results178,go_sem,T,X,Y,z3,z4,z5]<;>exact rfl) rfl ⟨_,_,rfl,R,G⟩
def TL (s:ByteArray) (k c:Nat):Bool:=if h:k<s.size then ((s[k].toNat:Int)==(c:Int)) else false
theorem K0 (s:ByteArray) (k c b:Nat) (W:World) (f:W.cell? ⟨b,0,none⟩=some (.string s)) (g:W.cell? ⟨b,1,none⟩=some (.int .i64 k)) :
  Calls prog 171 #[.pointer (some ⟨b,0,none⟩),.int .u8 c] W fun e d=>e = .returned (.bool (TL s k c))/\∃n,d=W.drewN n:=by
 by_cases h:k<s.size
 ·have a:TL s k c=((s[k].toNat:Int)==(c:Int)):=by unfold TL;rw[dif_pos h]
  rw[a]
  go_in
  go_upto_region 1 with fail
  go_quiet (fail);go_wp2;go_ret;exact⟨rfl,_,rfl⟩
 have a:TL s k c=false:=by unfold TL;rw[dif_neg h]
 rw[a]
 go_in
 go_upto_region 1 with fail
 go_quiet (fail);go_wp2;go_ret;exact⟨rfl,_,rfl⟩
end Go.Proofs.YtipfpohlnhmlpaaGreatDoor
namespace Go
open Go.RowKit
def DL (k:Int):List Rt->Rt
 | [] => .mk 0 []
 | [a]=>a
 | a::b::r => .mk k [a,DL k (b::r)]
theorem Qc (k:Int) (ks:List Rt) (g:Nat) (t:Rt) (d:g+1<ks.length) (c:ks[g]?=some t):DL k (ks.drop g) = .mk k [t,DL k (ks.drop (g+1))]:=by
 obtain⟨h,e⟩:=aI.1 c;rw[aK h,e]
 cases b:ks.drop (g+1) with
 | nil=>have:=congrArg List.length b;simp at this;omega
 | cons a r=>rfl
theorem Qd (k:Int) (ks:List Rt) (g:Nat) (t:Rt) (b:g+1=ks.length) (a:ks[g]?=some t):DL k (ks.drop g)=t:=by
 obtain⟨h,e⟩:=aI.1 a;rw[aK h,e,List.drop_of_length_le (by omega)];rfl
end Go
namespace Go.Proofs.YtipfpohlnhmlpaaGreatDoor
open Go.Proofs.Tryz
open Go.RowKit
theorem Ub (k:Int) (L:List (Rt×Rw×Value)) (b cap:Nat) (W:World) (hL:0<L.length) (hl:L.length<=1000000)
  (hc:∀i p,L[i]?=some p->W.cell? ⟨b,6*i,none⟩=some (.int .i64 p.1.kd)/\W.cell? ⟨b,6*i+1,none⟩=some (.int .u64 p.2.1.a)/\W.cell? ⟨b,6*i+2,none⟩=some (.int .u64 p.2.1.b)/\W.cell? ⟨b,6*i+3,none⟩=some (.int .u64 p.2.1.c) /\
     W.cell? ⟨b,6*i+4,none⟩=some (.int .u64 p.2.1.d)/\W.cell? ⟨b,6*i+5,none⟩=some p.2.2)
  (o:∀p∈L,p.1.kd≠1->p.2.1=⟨0,0,0,0⟩) (S:Nat->Prop) (X:∀j,S j->j<W.heap.size) (O:∀p∈L,Cs W S p.1.ks p.2.2) :
  Calls prog 172 #[.int .i64 k,.slice (some ⟨b,0,none⟩) L.length cap] W fun e w'=>∃(x:Rw) (a:Option Addr) (m c:Nat),e = .returned (.agg #[.int .i64 (DL k (L.map aG)).kd,.int .u64 x.a,.int .u64 x.b,.int .u64 x.c,.int .u64 x.d,.slice a m c]) /\
   Cs w' (fun j=>S j\/W.heap.size+1<j) (DL k (L.map aG)).ks (.slice a m c)/\((DL k (L.map aG)).kd≠1->x=⟨0,0,0,0⟩)/\Below W.heap.size W w':=by
 obtain⟨n,hn⟩:∃n,L.length=n+1:=⟨L.length-1,by omega⟩;obtain⟨p,w⟩:∃p,L[n]?=some p:=⟨L[n]'(by omega),aL (by omega)⟩;obtain⟨B,C,D,E,F,G⟩:=hc n p w;have l:=aH w;obtain⟨pa,pc,s⟩:=(O p l).slice;obtain⟨t,x,v⟩:=p;dsimp only at s B C D E F G;subst s;rw[Nat.mul_comm 6 n] at B C D E F G;have f0:=Az B (.cells #[.int .i64 0,.int .u64 0,.int .u64 0,.int .u64 0,.int .u64 0,.slice none 0 0] 186);have f1:=Az C (.cells #[.int .i64 0,.int .u64 0,.int .u64 0,.int .u64 0,.int .u64 0,.slice none 0 0] 186);have f2:=Az D (.cells #[.int .i64 0,.int .u64 0,.int .u64 0,.int .u64 0,.int .u64 0,.slice none 0 0] 186)
 have f3:=Az E (.cells #[.int .i64 0,.int .u64 0,.int .u64 0,.int .u64 0,.int .u64 0,.slice none 0 0] 186);have f4:=Az F (.cells #[.int .i64 0,.int .u64 0,.int .u64 0,.int .u64 0,.int .u64 0,.slice none 0 0] 186);have f5:=Az G (.cells #[.int .i64 0,.int .u64 0,.int .u64 0,.int .u64 0,.int .u64 0,.slice none 0 0] 186);have HC:=aB hc;have HZ:=aB o;have HK:=aB O;have HP:=aB w;have HN:=aB hn;have b1:n<=1000000:=(by omega);obtain⟨V,R⟩:∃V,V=(W.alloc (.cells #[.int .i64 0,.int .u64 0,.int .u64 0,.int .u64 0,.int .u64 0,.slice none 0 0] 186)).alloc (.cells #[.int .i64 t.kd,.int .u64 x.a,.int .u64 x.b,.int .u64 x.c,.int .u64 x.d,.slice pa t.ks.length pc] 186):=⟨_,rfl⟩
 have Y:Below W.heap.size W V:=by rw[R];exact((Below.refl _ _).alloc (aF _) _).alloc (by simp) _
 have b0:Af V W.heap.size [.int .i64 0,.int .u64 0,.int .u64 0,.int .u64 0,.int .u64 0,.slice none 0 0]:=by
  rw[R];exact(Af.new W [.int .i64 0,.int .u64 0,.int .u64 0,.int .u64 0,.int .u64 0,.slice none 0 0] 186).below (by simp) (Ad _ _)
 have a0:Af V (W.heap.size+1) [.int .i64 t.kd,.int .u64 x.a,.int .u64 x.b,.int .u64 x.c,.int .u64 x.d,.slice pa t.ks.length pc]:=by
  have h:=Af.new (W.alloc (.cells #[.int .i64 0,.int .u64 0,.int .u64 0,.int .u64 0,.int .u64 0,.slice none 0 0] 186)) [.int .i64 t.kd,.int .u64 x.a,.int .u64 x.b,.int .u64 x.c,.int .u64 x.d,.slice pa t.ks.length pc] 186;rw[EG] at h;rw[R];exact h
 have c0:V.heap.size=W.heap.size+2:=by rw[R];simp
 have HV:=aB R;have U:=aB Y;have s0:=aB b0;have p0:=aB a0;have t0:=aB c0;have P:(L.map aG).length=n+1:=(by rw[aN,hn]);have i0:=aB P;have k0:Hid (t=DL k ((L.map aG).drop n)):=(Qd k (L.map aG) n t (by rw[P]) (by rw[aP,w];rfl)).symm;rw[hn];clear hc o O B C D E F G w l hL hl hn R Y b0 a0 c0 P
 go_in
 go_wp2_with fail
 rw[<- HV.out];clear f0 f1 f2 f3 f4 f5
 go_loopg [6] n (fun g i wr=>∃(u:Rt) (y:Rw) (a:Option Addr) (m c:Nat),i = .int .i64 ((g:Int)-1)/\g<=n/\Hid (u=DL k ((L.map aG).drop g))/\Hid (Cs wr (fun j=>S j\/W.heap.size+1<j) u.ks (.slice a m c))/\Hid (u.kd≠1->y=⟨0,0,0,0⟩)/\Hid (Below W.heap.size W wr)/\Hid (W.heap.size+2<=wr.heap.size) /\
  Hid (Af wr (W.heap.size+1) [.int .i64 u.kd,.int .u64 y.a,.int .u64 y.b,.int .u64 y.c,.int .u64 y.d,.slice a m c])/\Hid (Af wr W.heap.size [.int .i64 0,.int .u64 0,.int .u64 0,.int .u64 0,.int .u64 0,.slice none 0 0]))
 case atStart=>exact⟨t,x,pa,t.ks.length,pc,congrArg (aQ .i64) (by omega),aF _,k0,aB (((HK.out _ (aH HP.out)).bel U.out).mono fun j _ h => .inl h),aB (HZ.out _ (aH HP.out)),U,aB (by rw[t0.out];exact aF _),p0,s0⟩
 obtain⟨u,y,a,m,c,rfl,hg,HU,T,HY,q,r,K,A⟩:=hrel;have q0:=K.out.c 0 _ rfl;have q1:=K.out.c 1 _ rfl;have q2:=K.out.c 2 _ rfl;have q3:=K.out.c 3 _ rfl;have q4:=K.out.c 4 _ rfl;have q5:=K.out.c 5 _ rfl
 cases gk with
 | zero =>
   have r0:=A.out.c 0 _ rfl;have r1:=A.out.c 1 _ rfl;have r2:=A.out.c 2 _ rfl;have r3:=A.out.c 3 _ rfl;have r4:=A.out.c 4 _ rfl;have r5:=A.out.c 5 _ rfl;have rf:=A.out.fz;have m0:Hid (u=DL k (L.map aG)):=HU;go_wp2;have M:=((((((Ae.refl W.heap.size wr).set 0 (.int .i64 u.kd)).set 1 (.int .u64 y.a)).set 2 (.int .u64 y.b)).set 3 (.int .u64 y.c)).set 4 (.int .u64 y.d)).set 5 (.slice a m c);have o:=(((((A.out.set 0 (.int .i64 u.kd) _ rfl).set 1 (.int .u64 y.a) _ rfl).set 2 (.int .u64 y.b) _ rfl).set 3 (.int .u64 y.c) _ rfl).set 4 (.int .u64 y.d) _ rfl).set 5 (.slice a m c) _ rfl;have g0:=T.out.only M (fun h=>h.elim (fun h=>Nat.lt_irrefl _ (X _ h)) (fun h=>by omega))
   generalize ((((((wr.setCell ⟨W.heap.size,0,none⟩ (.int .i64 u.kd)).setCell ⟨W.heap.size,1,none⟩ (.int .u64 y.a)).setCell ⟨W.heap.size,2,none⟩ (.int .u64 y.b)).setCell ⟨W.heap.size,3,none⟩ (.int .u64 y.c)).setCell ⟨W.heap.size,4,none⟩ (.int .u64 y.d)).setCell ⟨W.heap.size,5,none⟩ (.slice a m c))=Z at M o g0 ⊢;have z0:=o.c 0 _ rfl;have z1:=o.c 1 _ rfl;have z2:=o.c 2 _ rfl;have z3:=o.c 3 _ rfl;have z4:=o.c 4 _ rfl;have z5:=o.c 5 _ rfl;clear o r0 r1 r2 r3 r4 r5 rf q0 q1 q2 q3 q4 q5;refine bodyPost_ret (v:=.agg #[.int .i64 u.kd,.int .u64 y.a,.int .u64 y.b,.int .u64 y.c,.int .u64 y.d,.slice a m c]) (by simp[results,results172,go_sem,z0,z1,z2,z3,z4,z5]<;>exact rfl) rfl ?_
   rw[<- m0.out];exact⟨y,a,m,c,rfl,g0,HY.out,M.below_of q.out (aF _) q.out.size⟩
 | succ g =>
   have ei:((g+1:Nat):Int)-1=(g:Int):=(by omega);rw[ei];clear ei;have a1:(g:Int)<(n:Int)+1:=(by omega);have y0:(0:Int)<=(g:Int):=(by omega);obtain⟨p,w⟩:∃p,L[g]?=some p:=⟨L[g]'(by have:=HN.out;omega),aL (by have:=HN.out;omega)⟩;obtain⟨B,C,D,E,F,G⟩:=HC.out g p w;have l:=aH w;have H:=HK.out p l;have Q:=HZ.out p l;obtain⟨pb,pd,s⟩:=H.slice;obtain⟨J,x2,v2⟩:=p;dsimp only at s B C D E F G H Q;subst s;rw[Nat.mul_comm 6 g] at B C D E F G;replace B:=Aa B q.out;replace C:=Aa C q.out;replace D:=Aa D q.out
   replace E:=Aa E q.out;replace F:=Aa F q.out;replace G:=Aa G q.out;have qf:=K.out.fz;have v0:J.ks.length<=9223372036854775807\/True:=.inr trivial;clear v0
   have l0:Hid (∀w',Below wr.heap.size wr w'->Calls prog 178 #[.int .i64 k,.agg #[.int .i64 J.kd,.int .u64 x2.a,.int .u64 x2.b,.int .u64 x2.c,.int .u64 x2.d,.slice pb J.ks.length pd],.agg #[.int .i64 u.kd,.int .u64 y.a,.int .u64 y.b,.int .u64 y.c,.int .u64 y.d,.slice a m c]] w'
     fun e h0=>∃a c,e = .returned (.agg #[.int .i64 k,.int .u64 0,.int .u64 0,.int .u64 0,.int .u64 0,.slice a 2 c])/\Cs h0 (fun j=>(S j\/W.heap.size+1<j)\/w'.heap.size+2<j) [J,u] (.slice a 2 c)/\Below w'.heap.size w' h0) :=
    fun w' hw=>UK k J u x2 y pb a J.ks.length pd m c w' (fun j=>S j\/W.heap.size+1<j) (((H.bel q.out).bel hw).mono fun j _ h => .inl h) (T.out.bel hw) Q HY.out
   have HD:Below wr.heap.size wr wr.drew:=⟨rfl,rfl,rfl,aF _,fun _ _=>rfl⟩;have N:=aB HD
   have o0:Hid (Rt.mk k [J,u]=DL k ((L.map aG).drop g)):=by
    unfold Hid;rw[HU.out];exact(Qc k (L.map aG) g J (by rw[i0.out];omega) (by rw[aP,w];rfl)).symm
   clear w l H Q HD
   go_wp2_with fail
   go_region_law (go_simp;go_at_call 178;refine(l0.out _ N.out).mono ?_;rintro e w5 ⟨a5,c5,rfl,I,d0⟩;have z:=aB (N.out.trans (d0.mono N.out.size));have j0:=aB I;have f:=aB (K.out.below (by have:=r.out;omega) z.out);have n0:=f.out.c 0 _ rfl;have n1:=f.out.c 1 _ rfl;have n2:=f.out.c 2 _ rfl;have n3:=f.out.c 3 _ rfl;have n4:=f.out.c 4 _ rfl;have n5:=f.out.c 5 _ rfl;have nf:=f.out.fz;clear I d0)
   all_goals
    go_wp2;have M:=((((((Ae.refl (W.heap.size+1) w5).set 0 (.int .i64 k)).set 1 (.int .u64 0)).set 2 (.int .u64 0)).set 3 (.int .u64 0)).set 4 (.int .u64 0)).set 5 (.slice a5 2 c5);have o:=(((((f.out.set 0 (.int .i64 k) _ rfl).set 1 (.int .u64 0) _ rfl).set 2 (.int .u64 0) _ rfl).set 3 (.int .u64 0) _ rfl).set 4 (.int .u64 0) _ rfl).set 5 (.slice a5 2 c5) _ rfl;have x0:=z.out.size;have I:=(j0.out.mono (S':=fun j=>S j\/W.heap.size+1<j) fun j _ h=>h.elim id (fun h => .inr (by have:=r.out;have:wr.drew.heap.size=wr.heap.size:=rfl;omega))).only M (fun h=>h.elim (fun h=>by have:=X _ h;omega) (fun h=>by omega));have w0:=(A.out.below (by have:=r.out;omega) z.out).only (by have:=r.out;omega) M (by omega)
    go_roundg g
    case measure=>omega
    exact⟨Rt.mk k [J,u],⟨0,0,0,0⟩,a5,2,c5,congrArg (aQ .i64) (by omega),by omega,o0,aB I,aB (fun _=>rfl),aB (M.below_of (q.out.trans (z.out.mono q.out.size)) (by omega) (aM q.out.size x0)),aB (by have:=r.out;have:=M.size;omega),aB o,aB w0⟩
end Go.Proofs.YtipfpohlnhmlpaaGreatDoor
