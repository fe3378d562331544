/- Gy Gf Gn -/
import Derived.Test.YtipfpohlnhmlpaaGreatDoorGu
set_option maxRecDepth 100000
set_option maxHeartbeats 8000000
open Bool renaming noConfusion->aA,false_eq_true->aI
open Array renaming getElem?_eq_some_iff->aB,size->aM
open List renaming all_eq_true->aC,mem_singleton->aD,mem_cons->aK,length_map->aL
open Nat renaming le_trans->aE,le_refl->aG,lt_of_lt_of_le->aJ
open Go.Value renaming slice->aF
open Go.World renaming news_of_block->aH
namespace Go
open Go.RowKit
section
variable {T TF:TypeId} {P:Int->List UInt8->Nat->Prop} {n0 B c:Nat} {w w':World} {v:Value}
def NW (T:TypeId) (P:Int->List UInt8->Nat->Prop) (n0 c:Nat) (w:World) (v:Value):Prop:=∃t:Tr,NX T n0 w v t/\Tr.All P t/\t.wt<=c
def BW (T:TypeId) (P:Int->List UInt8->Nat->Prop) (n0 c:Nat) (w:World) (v:Value):Prop:=∃t:Tr,BX T n0 w v t/\Tr.All P t/\t.wt<=c
theorem NW.kp (h:NW T P n0 c w v) (k:Kp n0 w w'):NW T P n0 c w' v:=by obtain⟨t,a,b⟩:=h;exact⟨t,a.kp k,b⟩
theorem BW.kp (h:BW T P n0 c w v) (k:Kp n0 w w'):BW T P n0 c w' v:=by obtain⟨t,a,b⟩:=h;exact⟨t,a.kp k,b⟩
theorem GQ.add {l:List (Fu×Value×Value)} {d v':Value} {f:Fu} {b a:Value} (h:GQ T TF P n0 c l d w) (u:Dz T P c (B <= ·) w f b a) (y:n0<=B/\B<=w.heap.size) (v:∀q,d.ownBlock=some q->q<B)
  (s:w'.ownsRow n0 TF 8 v' (l.length+1) (AI l++AI [(f,b,a)])) (n:w.grownBy w' d.ownBlock) (t:v'.ownBlock=d.ownBlock\/v'.ownBlock=some w.heap.size):GQ T TF P n0 c (l++[(f,b,a)]) v' w':=by
 have r:∀(f:Fu) (b a:Value),Dz T P c (fun j=>n0<=j/\some j≠d.ownBlock) w f b a->Dz T P c (fun j=>n0<=j/\some j≠v'.ownBlock) w' f b a:=fun f b a p=>by
  rcases t with e | e
  ·rw[e];exact p.kept n.size fun j i o=>n.block j o i.2
  exact((p.mono (S':=fun j=>n0<=j/\some j≠v'.ownBlock/\some j≠d.ownBlock) fun j i g=>⟨g.1,by rw[e];intro h;injection h with h;omega,g.2⟩).kept n.size fun j i o=>n.block j o i.2.2).mono fun j _ g=>⟨g.1,g.2.1⟩
 refine⟨by rw[JK,List.length_append];exact s,fun q x=>?_⟩;rcases List.mem_append.1 x with m | m
 ·exact r _ _ _ (h.k q m)
 obtain rfl:=aD.1 m;exact r _ _ _ (u.mono fun j _ i=>⟨by omega,fun e=>by have:=v j e.symm;omega⟩)
end
end Go
namespace Go.Proofs.YtipfpohlnhmlpaaGreatDoor
open Go.Proofs.Tryz
open Go.RowKit
def nZ:Tr:=.mk 4 [122] 0 (0,0) []
theorem VA:Tr.All A0 nZ:=.mk _ _ _ _ _ (BN 4 [122] (by decide) (by decide)) fun u a=>by cases a
def U9:Array (Option Tmp×Op×TypeId×Option (Nat×Bool)) :=
 #[(some 137,.fieldAddr 37 (.tmp 4) 1,0,none),(some 138,.load 35 (.tmp 137),35,none),(some 139,.buildSlice 66 1 #[(0,.const (.string ⟨#[122]⟩))],66,none),
   (some 140,.call { callee:=.value (.func 38),args := #[.const (.int .i64 4),.const (.string ⟨#[122]⟩),.const (.slice none 0 0)],argTypes := #[3,9,58] },60,none),
   (some 141,.move (.tmp 3),69,none),(some 142,.call { callee:=.value (.func 39),args := #[.tmp 141],argTypes := #[69] },60,none),
   (some 143,.buildSlice 58 2 #[(0,.tmp 140),(1,.tmp 142)],58,none),
   (some 144,.call { callee:=.value (.func 38),args := #[.const (.int .i64 14),.const (.string ⟨#[]⟩),.tmp 143],argTypes := #[3,9,58] },60,none),(some 145,.buildSlice 58 1 #[(0,.tmp 144)],58,none),
   (some 146,.call { callee:=.value (.func 38),args := #[.const (.int .i64 40),.const (.string ⟨#[]⟩),.tmp 145],argTypes := #[3,9,58] },60,none),(some 147,.buildSlice 58 1 #[(0,.tmp 146)],58,none),
   (some 148,.call { callee:=.value (.func 38),args := #[.const (.int .i64 30),.const (.string ⟨#[]⟩),.tmp 147],argTypes := #[3,9,58] },60,none),
   (some 149,.build 68 #[(0,.const (.string ⟨#[103]⟩)),(1,.tmp 139),(2,.tmp 148)],68,none),(some 150,.buildSlice 35 1 #[(0,.tmp 149)],35,none),
   (some 151,.call { callee:=.builtin .append,args := #[.tmp 138,.tmp 150],argTypes := #[35,35] },35,none),(some 152,.fieldAddr 37 (.tmp 4) 1,0,none),(none,.store 35 (.tmp 152) (.tmp 151),0,none)]
def Rj:List (Nat×Nat):=[(0,137),(1,138),(2,139),(3,140),(4,141),(5,142),(6,143),(7,144),(8,145),(9,146),(10,147),(11,148),(12,149),(13,150),(14,151),(15,152)]
def WN:List (Nat×Nat):=[(1,0),(5,4),(6,3),(6,5),(7,6),(8,7),(9,8),(10,9),(11,10),(12,2),(12,11),(13,12),(14,1),(14,13)]
def WR (a:Array Oper):Bool:=WN.all fun p=>Cc a p.1 p.2
theorem US {a:Array Oper} (h:WR a=true) (p:Nat×Nat) (b:p∈WN):Cc a p.1 p.2=true:=aC.1 h p b
structure WW (n0 B c bg b:Nat) (Lf:List (Fu×Value×Value)) (fv:Value) (L:Nat->Bool) (V:Nat->Value) (w:World):Prop where
 sz:B<=w.heap.size
 fr:L 14=false->GQ 60 68 A0 n0 c Lf fv w
 fb:L 14=true->∃f pv kv,GQ 60 68 A0 n0 c (Lf++[(f,pv,kv)]) (V 14) w
 v0:L 0=true->V 0 = .pointer (some ⟨bg,1,none⟩)
 v1:L 1=true->V 1=fv
 v2:L 2=true->PV 9 B w (V 2) [[122]]
 v3:L 3=true->NX 60 B w (V 3) nZ
 v4:L 4=true->V 4 = .pointer (some ⟨b,0,none⟩)
 v5:L 5=true->NW 60 A0 B 6 w (V 5)
 v6:L 6=true->∃p t,V 6 = .slice (some ⟨p,0,none⟩) 2 2/\Am 60 w (B <= ·) [nZ,t] (.slice (some ⟨p,0,none⟩) 2 2)/\Tr.All A0 t/\t.wt<=6
 v7:L 7=true->NW 60 A0 B 8 w (V 7)
 v8:L 8=true->BW 60 A0 B 8 w (V 8)
 v9:L 9=true->NW 60 A0 B 9 w (V 9)
 v10:L 10=true->BW 60 A0 B 9 w (V 10)
 v11:L 11=true->NW 60 A0 B 10 w (V 11)
 v12:L 12=true->∃f pv ka kn kc,Dz 60 A0 c (B <= ·) w f pv (.slice ka kn kc)/\V 12 = .agg #[.string ⟨f.nm.toArray⟩,pv,.int .i64 f.b.kd,.string ⟨f.b.nm.toArray⟩,.float .f64 f.b.x,.slice ka kn kc,.complex .f64 f.b.z.1 f.b.z.2,.complex .f64 f.z.1 f.z.2]
 v13:L 13=true->∃p f pv ka kn kc,Dz 60 A0 c (B <= ·) w f pv (.slice ka kn kc)/\V 13 = .slice (some ⟨p,0,none⟩) 1 1/\B<=p/\w.heap[p]?=some (.cells (AI [(f,pv,.slice ka kn kc)]).toArray 68 (0,0))
 v15:L 15=true->V 15 = .pointer (some ⟨bg,1,none⟩)
theorem WW.kp {n0 B c bg b:Nat} {s:List (Fu×Value×Value)} {u:Value} {L:Nat->Bool} {V:Nat->Value} {w w':World} (h:WW n0 B c bg b s u L V w) (k:Kp n0 w w') (x:n0<=B):WW n0 B c bg b s u L V w' :=
 have a:Kp B w w':=⟨k.size,fun j g i=>k.block j (aE x g) i⟩
 { sz:=aE h.sz k.size
   fr:=fun e=>(h.fr e).kp k
   fb:=fun e=>by obtain⟨f,m,y,d⟩:=h.fb e;exact⟨f,m,y,d.kp k⟩
   v0:=h.v0
   v1:=h.v1
   v2:=fun e=>(h.v2 e).kp a
   v3:=fun e=>(h.v3 e).kp a
   v4:=h.v4
   v5:=fun e=>(h.v5 e).kp a
   v6:=fun e=>by
    obtain⟨p,t,d,l,n⟩:=h.v6 e;exact⟨p,t,d,l.kept a.size (fun j g i=>a.block j g i),n⟩
   v7:=fun e=>(h.v7 e).kp a
   v8:=fun e=>(h.v8 e).kp a
   v9:=fun e=>(h.v9 e).kp a
   v10:=fun e=>(h.v10 e).kp a
   v11:=fun e=>(h.v11 e).kp a
   v12:=fun e=>by
    obtain⟨f,m,o,r,q,d,l⟩:=h.v12 e;exact⟨f,m,o,r,q,d.kept a.size (fun j g i=>a.block j g i),l⟩
   v13:=fun e=>by
    obtain⟨p,f,m,o,r,q,d,l,n,v⟩:=h.v13 e;exact⟨p,f,m,o,r,q,d.kept a.size (fun j g i=>a.block j g i),l,n,(a.block p n (aB.1 v).1).trans v⟩
   v15:=h.v15 }
theorem Ws {Q:Exit->Act->World->Prop} {id:Nat} {W:Array Oper} (Z:W.map Oper.shape=U9) (hb:DU W=true) (hw:WR W=true) (g0:(List.range 16).all (Cc W 16)=true)
  {a0:Act} {T:World} (s1:a0.tmps.size=154) (w0:World) (l:Cp) (rb b bg J c K n0:Nat) (Lr:List (Rl×Value×Value)) (v:Value) (Lf:List (Fu×Value×Value)) (xa:Option Addr) (xn xc:Nat) (h3:a0.eval (.tmp 3) = .pointer (some ⟨b,0,none⟩)) (h4:a0.eval (.tmp 4) = .pointer (some ⟨bg,0,none⟩))
  (hP:PG 60 62 A0 w0 l rb b bg J K Lr v (.slice xa xn xc) n0 T) (F:n0<=T.heap.size) (hF:GQ 60 68 A0 n0 c Lf (.slice xa xn xc) T) (i2:Lf.length<=1) (hc:10<=c) (hM:Ce w0) (hJ:J+20<=1099511627776) (m1:l.n<=9223372036854775807)
  (t0:∀V w f pv kv,GQ 60 68 A0 n0 c (Lf++[(f,pv,kv)]) (V 14) w->PG 60 62 A0 w0 l rb b bg (J+6) K Lr v (V 14) n0 w->T.heap.size<=w.heap.size->Q .normal (a0.all V Rj) w):(Code.region id W true).wp prog Q a0 T:=by
 have hn:W.size=17:=by have:=congrArg aM Z;simpa[U9] using this
 obtain⟨j0,g1,x1,y1,z1⟩:=info_parts A.infoFn;have k0:∀q,(aF xa xn xc).ownBlock=some q->n0<=q/\q<T.heap.size:=fun q hq=>hF.row.lt q hq;refine D3 (by kernel_rfl) hb Rj (by decide) (by decide) (fun p hp=>?_) (fun p hp=>?_) (fun i o H=>?_) (fun L V w=>PG 60 62 A0 w0 l rb b bg (if L 5=true then J+6 else J) K Lr v (if L 16=true then V 14 else .slice xa xn xc) n0 w/\WW n0 T.heap.size c bg b Lf (.slice xa xn xc) L V w) ?_ ?_ ?_
 ·rw[s1]
  have:∀p∈Rj,p.2<154:=(by decide);exact this p hp
 ·rw[hn]
  have:∀p∈Rj,p.1<17:=(by decide);exact this p hp
 ·have B:=Cz Z H
  have hi:i<17:=by rw[<- hn];exact(aB.1 H).1
  rcases (by omega:i=0\/i=1\/i=2\/i=3\/i=4\/i=5\/i=6\/i=7\/i=8\/i=9\/i=10\/i=11\/i=12\/i=13\/i=14\/i=15\/i=16) with rfl | rfl | rfl | rfl | rfl | rfl | rfl | rfl | rfl | rfl | rfl | rfl | rfl | rfl | rfl | rfl | rfl<;>(rw[Ac B];exact⟨fun d hd=>by cases hd<;>decide,fun hd=>by first | decide | cases hd⟩)
 ·have hd:Below T.heap.size T { T with drawn:=T.drawn+1 }:=⟨rfl,rfl,rfl,aG _,fun _ _=>rfl⟩
  exact⟨hP.bel hd,aG _,fun _=>hF.kp (Kp.below hd),fun h=>aA h,fun h=>aA h,fun h=>aA h,fun h=>aA h,fun h=>aA h,fun h=>aA h,fun h=>aA h,fun h=>aA h,fun h=>aA h,fun h=>aA h,fun h=>aA h,fun h=>aA h,fun h=>aA h,fun h=>aA h,fun h=>aA h,fun h=>aA h⟩
 ·intro L V i o a w hcl ⟨hpf,hR⟩ H hL hdep hV ha0 KK hK
  have B:=Cz Z H;have hi:i<17:=by rw[<- hn];exact(aB.1 H).1
  have j2:=AG ((ha0 3 (by decide)).trans h3);have k2:=AG ((ha0 4 (by decide)).trans h4);have E:=US hw;have c0:i<16->L 16=false:=fun h=>AB (aC.1 g0 i (List.mem_range.2 h)) hcl hL;have f1:=hP.bn;have m2:=hP.hbg;rcases (by omega:i=0\/i=1\/i=2\/i=3\/i=4\/i=5\/i=6\/i=7\/i=8\/i=9\/i=10\/i=11\/i=12\/i=13\/i=14\/i=15\/i=16) with rfl | rfl | rfl | rfl | rfl | rfl | rfl | rfl | rfl | rfl | rfl | rfl | rfl | rfl | rfl | rfl | rfl
  ·have y:o.dst=some 137:=by rw[Ac B]
   rw[y] at hK;rw[Ac B]
   go_simp
   exact hK _ _ ⟨hpf,hR.sz,hR.fr,hR.fb,fun _=>rfl,hR.v1,hR.v2,hR.v3,hR.v4,hR.v5,hR.v6,hR.v7,hR.v8,hR.v9,hR.v10,hR.v11,hR.v12,hR.v13,hR.v15⟩
  ·have y:o.dst=some 138:=by rw[Ac B]
   rw[y] at hK;have l0:=Ak (E (1,0) (by decide)) H hdep;have e0:=AG ((hV (0,137) (by decide) l0).trans (hR.v0 l0));have i0:=hpf.g.c 1 _ rfl;rw[c0 (by omega)] at i0;simp only[aI,if_false] at i0;rw[Ac B]
   go_simp
   exact hK _ _ ⟨hpf,hR.sz,hR.fr,hR.fb,hR.v0,fun _=>rfl,hR.v2,hR.v3,hR.v4,hR.v5,hR.v6,hR.v7,hR.v8,hR.v9,hR.v10,hR.v11,hR.v12,hR.v13,hR.v15⟩
  ·have y:o.dst=some 139:=by rw[Ac B]
   rw[y] at hK;have r:=Ad w (.cells #[.string ⟨#[122]⟩] 9);have m:=hR.kp (Kp.below r) F;rw[Ac B]
   go_simp
   refine hK _ _ ⟨hpf.bel r,m.sz,m.fr,m.fb,m.v0,m.v1,fun _=>⟨w.heap.size,_,rfl,hR.sz,heap_alloc_new w _,fun i t hi=>?_⟩,m.v3,m.v4,m.v5,m.v6,m.v7,m.v8,m.v9,m.v10,m.v11,m.v12,m.v13,m.v15⟩;rw[World.cell?_alloc_at _ _ _ _ rfl];obtain rfl:i=0:=by have:=(List.getElem?_eq_some_iff.1 hi).1;simp at this;omega
   simp at hi;subst hi;rfl
  ·have y:o.dst=some 140:=by rw[Ac B]
   rw[y] at hK;rw[Ac B]
   go_simp
   go_at_call 38
   refine(As 4 ⟨#[122]⟩ none 0 0 w).mono ?_;rintro e w' ⟨rfl,r⟩;have m:=hR.kp (Kp.below r) F;exact hK _ _ ⟨hpf.bel r,m.sz,m.fr,m.fb,m.v0,m.v1,m.v2,fun _=>⟨none,0,0,rfl,.nil _⟩,m.v4,m.v5,m.v6,m.v7,m.v8,m.v9,m.v10,m.v11,m.v12,m.v13,m.v15⟩
  ·have y:o.dst=some 141:=by rw[Ac B]
   rw[y] at hK;rw[Ac B]
   go_simp
   exact hK _ _ ⟨hpf,hR.sz,hR.fr,hR.fb,hR.v0,hR.v1,hR.v2,hR.v3,fun _=>rfl,hR.v5,hR.v6,hR.v7,hR.v8,hR.v9,hR.v10,hR.v11,hR.v12,hR.v13,hR.v15⟩
  ·have y:o.dst=some 142:=by rw[Ac B]
   rw[y] at hK;have l4:=Ak (E (5,4) (by decide)) H hdep;have e4:=AG ((hV (4,141) (by decide) l4).trans (hR.v4 l4));have b0:=hpf;rw[hL,c0 (by omega)] at b0;rw[Ac B]
   go_simp
   go_at_call 39
   refine(Br w0 l b J w b0.s hM hJ m1).mono ?_;rintro e w' ⟨k,nm,x,P,S,R,ks,rfl,q1,q2,q3,q4,q5⟩;have m:=hR.kp (Kp.only q5 (by omega)) F;have h1:=b0.step q4 q5;refine hK _ _ ⟨?_,m.sz,m.fr,m.fb,m.v0,m.v1,m.v2,m.v3,m.v4,fun _=>⟨.mk k nm x (0,0) ks,⟨P,S,R,rfl,q1.mono fun j _ Y=>aE hR.sz Y⟩,q2,q3⟩,m.v6,m.v7,m.v8,m.v9,m.v10,m.v11,m.v12,m.v13,m.v15⟩;show PG _ _ _ _ _ _ _ _ (J+6) K Lr v (if L 16=true then V 14 else .slice xa xn xc) n0 w';rw[c0 (by omega)];exact h1
  ·have y:o.dst=some 143:=by rw[Ac B]
   rw[y] at hK;have l3:=Ak (E (6,3) (by decide)) H hdep;have l5:=Ak (E (6,5) (by decide)) H hdep;obtain⟨ya,yn,yc,w1,i1⟩:=hR.v3 l3;obtain⟨t,⟨P,S,R,m0,j1⟩,G,M⟩:=hR.v5 l5;have e3:=AG ((hV (3,140) (by decide) l3).trans w1);have e5:=AG ((hV (5,142) (by decide) l5).trans m0);have r:=Ad w (.cells #[.int .i64 nZ.kd,.string ⟨nZ.nm.toArray⟩,.float .f64 nZ.x,.slice ya yn yc,.complex .f64 nZ.z.1 nZ.z.2,.int .i64 t.kd,.string ⟨t.nm.toArray⟩,.float .f64 t.x,.slice P S R,.complex .f64 t.z.1 t.z.2] 60);have m:=hR.kp (Kp.below r) F;rw[Ac B]
   go_simp
   refine hK _ _ ⟨hpf.bel r,m.sz,m.fr,m.fb,m.v0,m.v1,m.v2,m.v3,m.v4,m.v5,fun _=>⟨w.heap.size,t,rfl,?_,G,M⟩,m.v7,m.v8,m.v9,m.v10,m.v11,m.v12,m.v13,m.v15⟩
   exact .row _ [(nZ,.slice ya yn yc),(t,.slice P S R)] w.heap.size 2 _ hR.sz (heap_alloc_new w _) (aG _) (by unfold maxLen;simp) rfl rfl fun q hq=>by
    rcases aK.1 hq with rfl | hq
    ·exact(i1.mono (S':=fun j=>T.heap.size<=j/\j≠w.heap.size) fun j Y hS=>⟨hS,by omega⟩).bel r
    obtain rfl:=aD.1 hq;exact(j1.mono (S':=fun j=>T.heap.size<=j/\j≠w.heap.size) fun j Y hS=>⟨hS,by omega⟩).bel r
  ·have y:o.dst=some 144:=by rw[Ac B]
   rw[y] at hK;have l6:=Ak (E (7,6) (by decide)) H hdep;obtain⟨p,t,o0,k1,G,M⟩:=hR.v6 l6;have e6:=AG ((hV (6,143) (by decide) l6).trans o0);rw[Ac B]
   go_simp
   go_at_call 38
   refine(As 14 ⟨#[]⟩ (some ⟨p,0,none⟩) 2 2 w).mono ?_;rintro e w' ⟨rfl,r⟩;have m:=hR.kp (Kp.below r) F
   exact hK _ _ ⟨hpf.bel r,m.sz,m.fr,m.fb,m.v0,m.v1,m.v2,m.v3,m.v4,m.v5,m.v6,fun _=>⟨.mk 14 [] 0 (0,0) [nZ,t],⟨_,_,_,rfl,k1.kept r.size fun j _ U=>r.block j U⟩,.mk _ _ _ _ _ (BN 14 [] (by decide) (by decide)) fun u hu=>by
    rcases aK.1 hu with rfl | hu
    ·exact VA
    ·obtain rfl:=aD.1 hu;exact G,by
    rw[Tr.wt_mk,AK,AK,AM];have:nZ.wt=1:=by unfold nZ;rw[Tr.wt_mk,AM]
    omega⟩,m.v8,m.v9,m.v10,m.v11,m.v12,m.v13,m.v15⟩
  ·have y:o.dst=some 145:=by rw[Ac B]
   rw[y] at hK;have l7:=Ak (E (8,7) (by decide)) H hdep;obtain⟨t,O,G,M⟩:=hR.v7 l7;obtain⟨ya,yn,yc,q0,N⟩:=O.box hR.sz;have e7:=AG ((hV (7,144) (by decide) l7).trans q0);have r:=Ad w (.cells #[.int .i64 t.kd,.string ⟨t.nm.toArray⟩,.float .f64 t.x,.slice ya yn yc,.complex .f64 t.z.1 t.z.2] 60);have m:=hR.kp (Kp.below r) F;rw[Ac B]
   go_simp
   exact hK _ _ ⟨hpf.bel r,m.sz,m.fr,m.fb,m.v0,m.v1,m.v2,m.v3,m.v4,m.v5,m.v6,m.v7,fun _=>⟨t,N,G,M⟩,m.v9,m.v10,m.v11,m.v12,m.v13,m.v15⟩
  ·have y:o.dst=some 146:=by rw[Ac B]
   rw[y] at hK;have l8:=Ak (E (9,8) (by decide)) H hdep;obtain⟨t,N,G,M⟩:=hR.v8 l8;obtain⟨p,p0,O⟩:=N.node 40 [];have e8:=AG ((hV (8,145) (by decide) l8).trans p0);rw[Ac B]
   go_simp
   go_at_call 38
   refine(As 40 ⟨#[]⟩ (some ⟨p,0,none⟩) 1 1 w).mono ?_;rintro e w' ⟨rfl,r⟩;have m:=hR.kp (Kp.below r) F;exact hK _ _ ⟨hpf.bel r,m.sz,m.fr,m.fb,m.v0,m.v1,m.v2,m.v3,m.v4,m.v5,m.v6,m.v7,m.v8,fun _=>⟨.mk 40 [] 0 (0,0) [t],O.kp (Kp.below r),.mk _ _ _ _ _ (BN 40 [] (by decide) (by decide)) fun u hu=>by obtain rfl:=aD.1 hu;exact G,by rw[Tr.wt_mk,AK,AM];omega⟩,m.v10,m.v11,m.v12,m.v13,m.v15⟩
  ·have y:o.dst=some 147:=by rw[Ac B]
   rw[y] at hK;have l9:=Ak (E (10,9) (by decide)) H hdep;obtain⟨t,O,G,M⟩:=hR.v9 l9;obtain⟨ya,yn,yc,q0,N⟩:=O.box hR.sz;have e9:=AG ((hV (9,146) (by decide) l9).trans q0);have r:=Ad w (.cells #[.int .i64 t.kd,.string ⟨t.nm.toArray⟩,.float .f64 t.x,.slice ya yn yc,.complex .f64 t.z.1 t.z.2] 60);have m:=hR.kp (Kp.below r) F;rw[Ac B]
   go_simp
   exact hK _ _ ⟨hpf.bel r,m.sz,m.fr,m.fb,m.v0,m.v1,m.v2,m.v3,m.v4,m.v5,m.v6,m.v7,m.v8,m.v9,fun _=>⟨t,N,G,M⟩,m.v11,m.v12,m.v13,m.v15⟩
  ·have y:o.dst=some 148:=by rw[Ac B]
   rw[y] at hK;have a1:=Ak (E (11,10) (by decide)) H hdep;obtain⟨t,N,G,M⟩:=hR.v10 a1;obtain⟨p,p0,O⟩:=N.node 30 [];have c2:=AG ((hV (10,147) (by decide) a1).trans p0);rw[Ac B]
   go_simp
   go_at_call 38
   refine(As 30 ⟨#[]⟩ (some ⟨p,0,none⟩) 1 1 w).mono ?_;rintro e w' ⟨rfl,r⟩;have m:=hR.kp (Kp.below r) F;exact hK _ _ ⟨hpf.bel r,m.sz,m.fr,m.fb,m.v0,m.v1,m.v2,m.v3,m.v4,m.v5,m.v6,m.v7,m.v8,m.v9,m.v10,fun _=>⟨.mk 30 [] 0 (0,0) [t],O.kp (Kp.below r),.mk _ _ _ _ _ (BN 30 [] (by decide) (by decide)) fun u hu=>by obtain rfl:=aD.1 hu;exact G,by rw[Tr.wt_mk,AK,AM];omega⟩,m.v12,m.v13,m.v15⟩
  ·have y:o.dst=some 149:=by rw[Ac B]
   rw[y] at hK;have l2:=Ak (E (12,2) (by decide)) H hdep;have b1:=Ak (E (12,11) (by decide)) H hdep;obtain⟨p,cs,t1,p1,p2,p3⟩:=hR.v2 l2;obtain⟨t,⟨P,S,R,z0,q1⟩,q2,q3⟩:=hR.v11 b1;have e2:=AG ((hV (2,139) (by decide) l2).trans t1);have d2:=AG ((hV (11,148) (by decide) b1).trans z0);rw[Ac B]
   go_simp
   exact hK _ _ ⟨hpf,hR.sz,hR.fr,hR.fb,hR.v0,hR.v1,hR.v2,hR.v3,hR.v4,hR.v5,hR.v6,hR.v7,hR.v8,hR.v9,hR.v10,hR.v11,fun _=>⟨⟨[103],[[122]],t,(0,0)⟩,_,P,S,R,⟨⟨p,rfl,p1,(aB.1 p2).1,II q1 p2 (by decide),p3⟩,q1,q2,aE q3 hc,⟨by simp,by simp,by simp⟩⟩,rfl⟩,hR.v13,hR.v15⟩
  ·have y:o.dst=some 150:=by rw[Ac B]
   rw[y] at hK;have c1:=Ak (E (13,12) (by decide)) H hdep;obtain⟨f,pv,P,S,R,h5,m0⟩:=hR.v12 c1;obtain⟨p,rfl,p1,p2,r2,p3⟩:=h5.ps;have e5:=AG ((hV (12,149) (by decide) c1).trans m0);have r:=Ad w (.cells #[.string ⟨f.nm.toArray⟩,.slice (some ⟨p,0,none⟩) f.ps.length f.ps.length,.int .i64 f.b.kd,.string ⟨f.b.nm.toArray⟩,.float .f64 f.b.x,.slice P S R,.complex .f64 f.b.z.1 f.b.z.2,.complex .f64 f.z.1 f.z.2] 68);have m:=hR.kp (Kp.below r) F;rw[Ac B]
   go_simp
   exact hK _ _ ⟨hpf.bel r,m.sz,m.fr,m.fb,m.v0,m.v1,m.v2,m.v3,m.v4,m.v5,m.v6,m.v7,m.v8,m.v9,m.v10,m.v11,m.v12,fun _=>⟨w.heap.size,f,_,P,S,R,h5.kept r.size (fun j _ U=>r.block j U),rfl,hR.sz,heap_alloc_new w _⟩,m.v15⟩
  ·have y:o.dst=some 151:=by rw[Ac B]
   rw[y] at hK;have l1:=Ak (E (14,1) (by decide)) H hdep;have d1:=Ak (E (14,13) (by decide)) H hdep;obtain⟨p,f,pv,P,S,R,h6,o0,p1,p2⟩:=hR.v13 d1;have e1:=(hV (1,138) (by decide) l1).trans (hR.v1 l1);have e6:=(hV (13,150) (by decide) d1).trans o0;obtain⟨pp,rfl,s2,t2,a2,w2⟩:=h6.ps;have r0:=hR.fr hL;rw[Ac B];refine step_append_lies _ rfl (.tmp 138) (.tmp 150) 35 rfl n0 68 j0 _ 8 128 underlying35 g1 x1 y1 z1 rfl (by decide) _ Lf.length (AI Lf) e1 r0.row ⟨p,0,none⟩ 1 1 (AI [(f,.slice (some ⟨pp,0,none⟩) f.ps.length f.ps.length,.slice P S R)]) e6 rfl (aH p2) (IU _ _ _ _ _ _ _) (by decide) (by unfold maxLen;omega) (by omega) (by have:=hR.sz;omega) w.heap.size rfl ?_
   intro g X w' o1 o2 o3 o4;have h3:(aF (some ⟨g,0,none⟩) (Lf.length+1) X).ownBlock=(aF xa xn xc).ownBlock\/(aF (some ⟨g,0,none⟩) (Lf.length+1) X).ownBlock=some w.heap.size:=by rcases o3 with h | h;(left;exact h.symm);(right;rw[h];rfl)
   have s0:=r0.add h6 ⟨F,hR.sz⟩ (fun q hq=>(k0 q hq).2) o1 o2 h3;have D:Kp T.heap.size w w':=⟨o2.size,fun j Y U=>o2.block j U (fun e=>by have:=(k0 j e.symm).2;omega)⟩;have d0:=hpf;rw[c0 (by omega)] at d0;have y0:=d0.high ⟨o2.os,o2.tape,o2.output⟩ o2.size (fun j Y U=>o2.block j U (fun e=>by have:=(k0 j e.symm).1;omega)) (by have:=hR.sz;omega);refine hK (.slice (some ⟨g,0,none⟩) (Lf.length+1) X) _ ⟨?_,aE hR.sz o2.size,fun h=>aA h,fun _=>⟨f,_,_,s0⟩,hR.v0,hR.v1,fun e=>(hR.v2 e).kp D,fun e=>(hR.v3 e).kp D,hR.v4,fun e=>(hR.v5 e).kp D,fun e=>?_,fun e=>(hR.v7 e).kp D,fun e=>(hR.v8 e).kp D,fun e=>(hR.v9 e).kp D,fun e=>(hR.v10 e).kp D,fun e=>(hR.v11 e).kp D,fun e=>?_,fun e=>?_,hR.v15⟩
   ·show PG _ _ _ _ _ _ _ _ (if L 5=true then J+6 else J) K Lr v (if L 16=true then aF (some ⟨g,0,none⟩) (Lf.length+1) X else .slice xa xn xc) n0 w'
    rw[c0 (by omega)];exact y0
   ·obtain⟨p,t,h1,h2,h3⟩:=hR.v6 e
    exact⟨p,t,h1,h2.kept D.size (fun j Y U=>D.block j Y U),h3⟩
   ·obtain⟨f,pv,P,S,R,h1,h2⟩:=hR.v12 e
    exact⟨f,pv,P,S,R,h1.kept D.size (fun j Y U=>D.block j Y U),h2⟩
   obtain⟨p,f,pv,P,S,R,h1,h2,h3,h4⟩:=hR.v13 e;exact⟨p,f,pv,P,S,R,h1.kept D.size (fun j Y U=>D.block j Y U),h2,h3,(D.block p h3 (aB.1 h4).1).trans h4⟩
  ·have y:o.dst=some 152:=by rw[Ac B]
   rw[y] at hK;rw[Ac B]
   go_simp
   exact hK _ _ ⟨hpf,hR.sz,hR.fr,hR.fb,hR.v0,hR.v1,hR.v2,hR.v3,hR.v4,hR.v5,hR.v6,hR.v7,hR.v8,hR.v9,hR.v10,hR.v11,hR.v12,hR.v13,fun _=>rfl⟩
  have y:o.dst=none:=(by rw[Ac B]);rw[y] at hK;have C:∀k,k<16->L k=true:=fun k hk=>Ak (aC.1 g0 k (List.mem_range.2 hk)) H hdep;obtain⟨f,pv,kv,h0⟩:=hR.fb (C 14 (by omega));have I:=hpf;rw[hL,C 5 (by omega)] at I;simp only[aI,if_false,if_true] at I;have i0:=I.g.c 1 _ rfl;have n2:=I.g.fz
  have r1:∃ya yn yc,V 14 = .slice ya yn yc:=by
   rcases h0.row.2 with⟨h,_⟩ | ⟨g,X,b2,h,_⟩
   ·exact⟨_,_,_,h⟩
   exact⟨_,_,_,h⟩
  obtain⟨ya,yn,yc,f0⟩:=r1;have f2:=AG ((hV (14,151) (by decide) (C 14 (by omega))).trans f0);have g2:=AG ((hV (15,152) (by decide) (C 15 (by omega))).trans (hR.v15 (C 15 (by omega))));have x0:Ae bg w (w.setCell ⟨bg,1,none⟩ (.slice ya yn yc)):=(Ae.refl _ _).set 1 _;have m:=hR.kp (Kp.only x0 f1) F;rw[Ac B]
  go_simp
  have n1:=I.putF (fv':=.slice ya yn yc) x0;refine hK undef _ ⟨?_,m.sz,m.fr,m.fb,m.v0,m.v1,m.v2,m.v3,m.v4,m.v5,m.v6,m.v7,m.v8,m.v9,m.v10,m.v11,m.v12,m.v13,m.v15⟩;show PG _ _ _ _ _ _ _ _ (if L 5=true then J+6 else J) K Lr v (V 14) n0 _;rw[C 5 (by omega),f0];exact n1
 intro L V w C ⟨hpf,hR⟩;rw[hn] at C;obtain⟨f,pv,kv,h0⟩:=hR.fb (C 14 (by omega));rw[C 5 (by omega),C 16 (by omega)] at hpf;exact t0 V w f pv kv h0 hpf hR.sz
theorem PJ {b B:Nat} {w w':World} {ks:List Tr} {g i v':Value} {t:Tr} {R:List (Tr×Value)} (C:R.map Prod.fst=ks) (c:∀x,g.ownBlock=some x->b<=x/\x<B) (D:∀p∈R,Am 60 w (fun j=>b<=j/\some j≠g.ownBlock) p.1.ks p.2)
  (E:Am 60 w (fun j=>B<=j) t.ks i) (F:b<=B/\B<=w.heap.size) (A:w'.ownsRow b 60 5 v' (R.length+1) (Ah R++Ah [(t,i)])) (n:w.grownBy w' g.ownBlock) (y:v'.ownBlock=g.ownBlock\/v'.ownBlock=some w.heap.size) :
  Am 60 w' (b <= ·) (ks++[t]) v':=by
 have s:∀j,B<=j->some j≠g.ownBlock:=fun j f e=>by have:=(c j e.symm).2;omega
 have a:∀(ks:List Tr) (u:Value),Am 60 w (fun j=>b<=j/\some j≠g.ownBlock) ks u->Am 60 w' (fun j=>b<=j/\some j≠v'.ownBlock) ks u:=fun ks u z=>by
  rcases y with e | e
  ·rw[e];exact z.kept n.size fun j f r=>n.block j r f.2
  exact((z.mono (S':=fun j=>b<=j/\some j≠v'.ownBlock/\some j≠g.ownBlock) fun j f k=>⟨k.1,by rw[e];intro h;injection h with h;omega,k.2⟩).kept n.size fun j f r=>n.block j r f.2.2).mono fun j _ k=>⟨k.1,k.2.1⟩
 have l:(R++[(t,i)]).length=R.length+1:=(by simp);have o:Ah (R++[(t,i)])=Ah R++Ah [(t,i)]:=by unfold Ah;rw[List.flatMap_append]
 have:=Ev (T:=60) (w:=w') (v:=v') (S:=fun j=>b<=j) (L:=R++[(t,i)]) (B:=b) (by rw[o,l];exact A) (fun q d=>by
  rcases y with e | e
  ·rw[e] at d;exact(c q d).1
  ·rw[e] at d;injection d with d;subst d;omega) (fun q d=>by
  rcases List.mem_append.1 d with m | m
  ·exact a _ _ (D q m)
  obtain rfl:=aD.1 m
  exact a _ _ (E.mono fun j _ f=>⟨by omega,s j f⟩))
 rw[List.map_append,C] at this;exact this
def nN:Tr:=.mk 38 [] 0 (0,0) []
def nB:Tr:=.mk 30 [] 0 (0,0) [nN]
theorem Vy:Tr.All A0 nB:=by
 refine .mk _ _ _ _ _ (BN 30 [] (by decide) (by decide)) fun u a=>?_;obtain rfl:=aD.1 a;exact .mk _ _ _ _ _ (BN 38 [] (by decide) (by decide)) fun u a=>by cases a
theorem Wh:nB.wt=2:=by unfold nB nN;rw[Tr.wt_mk,AK,AM,Tr.wt_mk,AM]
def U5:Array (Option Tmp×Op×TypeId×Option (Nat×Bool)) :=
 #[(some 58,.fieldAddr 62 (.tmp 6) 3,0,none),(some 59,.fieldAddr 60 (.tmp 58) 3,0,none),(some 60,.load 58 (.tmp 59),58,none),(some 61,.move (.tmp 3),69,none),
   (some 62,.call { callee:=.value (.func 36),args := #[.tmp 61,.const (.int .i64 1)],argTypes := #[69,3] },60,none),(some 63,.build 60 #[(0,.const (.int .i64 38))],60,none),
   (some 64,.buildSlice 58 1 #[(0,.tmp 63)],58,none),(some 65,.build 60 #[(0,.const (.int .i64 30)),(3,.tmp 64)],60,none),(some 66,.buildSlice 58 2 #[(0,.tmp 62),(1,.tmp 65)],58,none),
   (some 67,.call { callee:=.value (.func 38),args := #[.const (.int .i64 31),.const (.string ⟨#[]⟩),.tmp 66],argTypes := #[3,9,58] },60,none),(some 68,.buildSlice 58 1 #[(0,.tmp 67)],58,none),
   (some 69,.call { callee:=.builtin .append,args := #[.tmp 60,.tmp 68],argTypes := #[58,58] },58,none),(some 70,.fieldAddr 62 (.tmp 6) 3,0,none),(some 71,.fieldAddr 60 (.tmp 70) 3,0,none),(none,.store 58 (.tmp 71) (.tmp 69),0,none)]
def Rf:List (Nat×Nat):=[(0,58),(1,59),(2,60),(3,61),(4,62),(5,63),(6,64),(7,65),(8,66),(9,67),(10,68),(11,69),(12,70),(13,71)]
def WL:List (Nat×Nat):=[(1,0),(2,1),(4,3),(6,5),(7,6),(8,4),(8,7),(9,8),(10,9),(11,2),(11,10),(13,12)]
def WO (a:Array Oper):Bool:=WL.all fun p=>Cc a p.1 p.2
theorem UP {a:Array Oper} (h:WO a=true) (p:Nat×Nat) (b:p∈WL):Cc a p.1 p.2=true:=aC.1 h p b
structure WT (n0 B c b q:Nat) (se:List Tr) (ka:Option Addr) (kn kc:Nat) (L:Nat->Bool) (V:Nat->Value) (w:World):Prop where
 sz:B<=w.heap.size
 fr:L 11=false->Am 60 w (n0 <= ·) se (.slice ka kn kc)
 fa:L 11=true->∃t xa xn xc,V 11 = .slice xa xn xc/\Am 60 w (n0 <= ·) (se++[t]) (.slice xa xn xc)/\Tr.All A0 t/\t.wt<=c+3
 v0:L 0=true->V 0 = .pointer (some ⟨q,3,none⟩)
 v1:L 1=true->V 1 = .pointer (some ⟨q,6,none⟩)
 v2:L 2=true->V 2 = .slice ka kn kc
 v3:L 3=true->V 3 = .pointer (some ⟨b,0,none⟩)
 v4:L 4=true->NW 60 A0 B c w (V 4)
 v5:L 5=true->NX 60 B w (V 5) nN
 v6:L 6=true->BX 60 B w (V 6) nN
 v7:L 7=true->NX 60 B w (V 7) nB
 v8:L 8=true->∃p t,V 8 = .slice (some ⟨p,0,none⟩) 2 2/\Am 60 w (B <= ·) [t,nB] (.slice (some ⟨p,0,none⟩) 2 2)/\Tr.All A0 t/\t.wt<=c
 v9:L 9=true->NW 60 A0 B (c+3) w (V 9)
 v10:L 10=true->BW 60 A0 B (c+3) w (V 10)
 v12:L 12=true->V 12 = .pointer (some ⟨q,3,none⟩)
 v13:L 13=true->V 13 = .pointer (some ⟨q,6,none⟩)
theorem WT.kp {g B c b q:Nat} {s:List Tr} {n:Option Addr} {r o:Nat} {L:Nat->Bool} {V:Nat->Value} {w w':World} (h:WT g B c b q s n r o L V w) (k:Kp g w w') (u:g<=B):WT g B c b q s n r o L V w' :=
 have a:Kp B w w':=⟨k.size,fun j d f=>k.block j (aE u d) f⟩
 { sz:=aE h.sz k.size
   fr:=fun e=>(h.fr e).kept k.size fun j d f=>k.block j d f
   fa:=fun e=>by
    obtain⟨t,v,y,x,i,l,m⟩:=h.fa e;exact⟨t,v,y,x,i,l.kept k.size (fun j d f=>k.block j d f),m⟩
   v0:=h.v0
   v1:=h.v1
   v2:=h.v2
   v3:=h.v3
   v4:=fun e=>(h.v4 e).kp a
   v5:=fun e=>(h.v5 e).kp a
   v6:=fun e=>(h.v6 e).kp a
   v7:=fun e=>(h.v7 e).kp a
   v8:=fun e=>by
    obtain⟨p,t,i,l,m⟩:=h.v8 e;exact⟨p,t,i,l.kept a.size (fun j d f=>a.block j d f),m⟩
   v9:=fun e=>(h.v9 e).kp a
   v10:=fun e=>(h.v10 e).kp a
   v12:=h.v12
   v13:=h.v13 }
structure QQ (w0:World) (l:Cp) (b q J:Nat) (wb:World) (vs:List Value) (w:World):Prop where
 mm:CH w0 l b J w
 ob:Hm b q wb w
 cq:Af w q vs
theorem QQ.bel {d:World} {l:Cp} {b q J:Nat} {e w w':World} {c:List Value} (h:QQ d l b q J e c w) (a:Below w.heap.size w w') (f:q<w.heap.size):QQ d l b q J e c w':=⟨h.mm.keep a,h.ob.trans (Hm.below a),h.cq.below f a⟩
theorem Wo {Q:Exit->Act->World->Prop} {id:Nat} {W:Array Oper} (Y:W.map Oper.shape=U5) (hb:DU W=true) (hw:WO W=true) (G:[0,1,2,3,4,5,6,7,8,9,10,11,13].all (Cc W 14)=true)
  {a0:Act} {N:World} (t1:a0.tmps.size=154) (w0:World) (l:Cp) (b q J c n0:Nat) (wb:World) (X:List Value) (se:List Tr) (ka:Option Addr) (kn kc:Nat) (h3:a0.eval (.tmp 3) = .pointer (some ⟨b,0,none⟩)) (h6:a0.eval (.tmp 6) = .pointer (some ⟨q,0,none⟩))
  (hP:QQ w0 l b q J wb X N) (m0:X[6]?=some (.slice ka kn kc)) (p0:Am 60 N (n0 <= ·) se (.slice ka kn kc)) (r2:DN se<=100000000) (I:n0<=N.heap.size/\n0=wb.heap.size) (hq:b<q/\q<n0) (g1:MW w0 l b 2 c) (hJ:J+c+1000<=1099511627776)
  (r0:∀V w t O S P,V 11 = .slice O S P->Am 60 w (n0 <= ·) (se++[t]) (.slice O S P)->Tr.All A0 t->t.wt<=c+3->QQ w0 l b q (J+c) wb (X.set 6 (.slice O S P)) w->Q .normal (a0.all V Rf) w):(Code.region id W true).wp prog Q a0 N:=by
 have hn:W.size=15:=by have:=congrArg aM Y;simpa[U5] using this
 obtain⟨i0,j1,a2,b2,c2⟩:=info_parts A.infoNd
 have c0:∀x,(aF ka kn kc).ownBlock=some x->n0<=x/\x<N.heap.size:=fun x hx=>by
  obtain⟨R,_,Z,_,_⟩:=p0.owns n0 fun j D=>D;exact Z.lt x hx
 refine D3 (by kernel_rfl) hb Rf (by decide) (by decide) (fun p hp=>?_) (fun p hp=>?_) (fun i o C=>?_) (fun L V w=>QQ w0 l b q (if L 4=true then J+c else J) wb (if L 14=true then X.set 6 (V 11) else X) w/\WT n0 N.heap.size c b q se ka kn kc L V w) ?_ ?_ ?_
 ·rw[t1]
  have:∀p∈Rf,p.2<154:=(by decide);exact this p hp
 ·rw[hn]
  have:∀p∈Rf,p.1<15:=(by decide);exact this p hp
 ·have n:=Cz Y C
  have hi:i<15:=by rw[<- hn];exact(aB.1 C).1
  rcases (by omega:i=0\/i=1\/i=2\/i=3\/i=4\/i=5\/i=6\/i=7\/i=8\/i=9\/i=10\/i=11\/i=12\/i=13\/i=14) with rfl | rfl | rfl | rfl | rfl | rfl | rfl | rfl | rfl | rfl | rfl | rfl | rfl | rfl | rfl<;>(rw[Ac n];exact⟨fun d hd=>by cases hd<;>decide,fun hd=>by first | decide | cases hd⟩)
 ·have hd:Below N.heap.size N { N with drawn:=N.drawn+1 }:=⟨rfl,rfl,rfl,aG _,fun _ _=>rfl⟩
  exact⟨hP.bel hd (by omega),aG _,fun _=>p0.bel hd,fun h=>aA h,fun h=>aA h,fun h=>aA h,fun h=>aA h,fun h=>aA h,fun h=>aA h,fun h=>aA h,fun h=>aA h,fun h=>aA h,fun h=>aA h,fun h=>aA h,fun h=>aA h,fun h=>aA h,fun h=>aA h⟩
 ·intro L V i o a w hcl ⟨hpf,hR⟩ C hL hdep hV ha0 KK hK
  have n:=Cz Y C;have hi:i<15:=by rw[<- hn];exact(aB.1 C).1
  have m2:=AG ((ha0 3 (by decide)).trans h3);have n2:=AG ((ha0 6 (by decide)).trans h6);have y:=UP hw;have g0:∀k,k<=11->k∈[0,1,2,3,4,5,6,7,8,9,10,11,13]:=by decide
  have c1:∀k,k<14->L k=false->L 14=false:=fun k hk hf=>by
   rcases (by omega:k=12\/k<=11\/k=13) with rfl | h | rfl
   ·exact AB (aC.1 G 13 (by decide)) hcl (AB (y (13,12) (by decide)) hcl hf)
   ·exact AB (aC.1 G k (g0 k h)) hcl hf
   exact AB (aC.1 G 13 (by decide)) hcl hf
  have b0:i<14->L 14=false:=fun h=>c1 i h hL;have T:q<w.heap.size:=by have:=hR.sz;omega
  have i1:i<14->w.cell? ⟨q,6,none⟩=some (.slice ka kn kc):=fun h=>by
   have h1:=hpf.cq;rw[b0 h] at h1;exact h1.c 6 _ m0
  rcases (by omega:i=0\/i=1\/i=2\/i=3\/i=4\/i=5\/i=6\/i=7\/i=8\/i=9\/i=10\/i=11\/i=12\/i=13\/i=14) with rfl | rfl | rfl | rfl | rfl | rfl | rfl | rfl | rfl | rfl | rfl | rfl | rfl | rfl | rfl
  ·have g:o.dst=some 58:=by rw[Ac n]
   rw[g] at hK;rw[Ac n]
   go_simp
   exact hK _ _ ⟨hpf,hR.sz,hR.fr,hR.fa,fun _=>rfl,hR.v1,hR.v2,hR.v3,hR.v4,hR.v5,hR.v6,hR.v7,hR.v8,hR.v9,hR.v10,hR.v12,hR.v13⟩
  ·have g:o.dst=some 59:=by rw[Ac n]
   rw[g] at hK;have l0:=Ak (y (1,0) (by decide)) C hdep;have e0:=AG ((hV (0,58) (by decide) l0).trans (hR.v0 l0));rw[Ac n]
   go_simp
   exact hK _ _ ⟨hpf,hR.sz,hR.fr,hR.fa,hR.v0,fun _=>rfl,hR.v2,hR.v3,hR.v4,hR.v5,hR.v6,hR.v7,hR.v8,hR.v9,hR.v10,hR.v12,hR.v13⟩
  ·have g:o.dst=some 60:=by rw[Ac n]
   rw[g] at hK;have l1:=Ak (y (2,1) (by decide)) C hdep;have e1:=AG ((hV (1,59) (by decide) l1).trans (hR.v1 l1));have c6:=i1 (by omega);rw[Ac n]
   go_simp
   exact hK _ _ ⟨hpf,hR.sz,hR.fr,hR.fa,hR.v0,hR.v1,fun _=>rfl,hR.v3,hR.v4,hR.v5,hR.v6,hR.v7,hR.v8,hR.v9,hR.v10,hR.v12,hR.v13⟩
  ·have g:o.dst=some 61:=by rw[Ac n]
   rw[g] at hK;rw[Ac n]
   go_simp
   exact hK _ _ ⟨hpf,hR.sz,hR.fr,hR.fa,hR.v0,hR.v1,hR.v2,fun _=>rfl,hR.v4,hR.v5,hR.v6,hR.v7,hR.v8,hR.v9,hR.v10,hR.v12,hR.v13⟩
  ·have g:o.dst=some 62:=by rw[Ac n]
   rw[g] at hK;have l3:=Ak (y (4,3) (by decide)) C hdep;have e3:=AG ((hV (3,61) (by decide) l3).trans (hR.v3 l3));have M:=hpf;rw[hL,b0 (by omega)] at M;rw[Ac n]
   go_simp
   go_at_call 36
   refine(g1 1 J w (by omega) (by omega) M.mm hJ).mono ?_;rintro e w' ⟨k,nm,x,O,S,P,ks,rfl,q1,q2,q3,q4,q5⟩;have f:=hR.kp (Kp.only q5 (by omega)) I.1;have h1:QQ w0 l b q (J+c) wb X w':=⟨q4,M.ob.trans (Hm.left q5),M.cq.only T q5 (by omega)⟩;refine hK _ _ ⟨?_,f.sz,f.fr,f.fa,f.v0,f.v1,f.v2,f.v3,fun _=>⟨.mk k nm x (0,0) ks,⟨O,S,P,rfl,q1.mono fun j _ D=>aE hR.sz D⟩,q2,q3⟩,f.v5,f.v6,f.v7,f.v8,f.v9,f.v10,f.v12,f.v13⟩;show QQ w0 l b q (J+c) wb (if L 14=true then X.set 6 (V 11) else X) w';rw[b0 (by omega)];exact h1
  ·have g:o.dst=some 63:=by rw[Ac n]
   rw[g] at hK;rw[Ac n]
   go_simp
   exact hK _ _ ⟨hpf,hR.sz,hR.fr,hR.fa,hR.v0,hR.v1,hR.v2,hR.v3,hR.v4,fun _=>⟨none,0,0,rfl,.nil _⟩,hR.v6,hR.v7,hR.v8,hR.v9,hR.v10,hR.v12,hR.v13⟩
  ·have g:o.dst=some 64:=by rw[Ac n]
   rw[g] at hK;have l5:=Ak (y (6,5) (by decide)) C hdep;obtain⟨ya,yn,yc,o0,h0⟩:=(hR.v5 l5).box hR.sz;have e5:=AG ((hV (5,63) (by decide) l5).trans o0);have s:=Ad w (.cells #[.int .i64 nN.kd,.string ⟨nN.nm.toArray⟩,.float .f64 nN.x,.slice ya yn yc,.complex .f64 nN.z.1 nN.z.2] 60);have f:=hR.kp (Kp.below s) I.1;rw[Ac n]
   go_simp
   exact hK _ _ ⟨hpf.bel s T,f.sz,f.fr,f.fa,f.v0,f.v1,f.v2,f.v3,f.v4,f.v5,fun _=>h0,f.v7,f.v8,f.v9,f.v10,f.v12,f.v13⟩
  ·have g:o.dst=some 65:=by rw[Ac n]
   rw[g] at hK;have l6:=Ak (y (7,6) (by decide)) C hdep;obtain⟨p,z1,j0⟩:=(hR.v6 l6).node 30 [];have e6:=AG ((hV (6,64) (by decide) l6).trans z1);rw[Ac n]
   go_simp
   exact hK _ _ ⟨hpf,hR.sz,hR.fr,hR.fa,hR.v0,hR.v1,hR.v2,hR.v3,hR.v4,hR.v5,hR.v6,fun _=>j0,hR.v8,hR.v9,hR.v10,hR.v12,hR.v13⟩
  ·have g:o.dst=some 66:=by rw[Ac n]
   rw[g] at hK;have l4:=Ak (y (8,4) (by decide)) C hdep;have l7:=Ak (y (8,7) (by decide)) C hdep;obtain⟨ya,yn,yc,x1,m1⟩:=hR.v7 l7;obtain⟨t,⟨O,S,P,w1,k1⟩,K,U⟩:=hR.v4 l4;have e4:=AG ((hV (4,62) (by decide) l4).trans w1);have e7:=AG ((hV (7,65) (by decide) l7).trans x1);have s:=Ad w (.cells #[.int .i64 t.kd,.string ⟨t.nm.toArray⟩,.float .f64 t.x,.slice O S P,.complex .f64 t.z.1 t.z.2,.int .i64 nB.kd,.string ⟨nB.nm.toArray⟩,.float .f64 nB.x,.slice ya yn yc,.complex .f64 nB.z.1 nB.z.2] 60);have f:=hR.kp (Kp.below s) I.1;rw[Ac n]
   go_simp
   refine hK _ _ ⟨hpf.bel s T,f.sz,f.fr,f.fa,f.v0,f.v1,f.v2,f.v3,f.v4,f.v5,f.v6,f.v7,fun _=>⟨w.heap.size,t,rfl,?_,K,U⟩,f.v9,f.v10,f.v12,f.v13⟩
   exact .row _ [(t,.slice O S P),(nB,.slice ya yn yc)] w.heap.size 2 _ hR.sz (heap_alloc_new w _) (aG _) (by unfold maxLen;simp) rfl rfl fun p hp=>by
    rcases aK.1 hp with rfl | hp
    ·exact(k1.mono (S':=fun j=>N.heap.size<=j/\j≠w.heap.size) fun j D hS=>⟨hS,by omega⟩).bel s
    obtain rfl:=aD.1 hp;exact(m1.mono (S':=fun j=>N.heap.size<=j/\j≠w.heap.size) fun j D hS=>⟨hS,by omega⟩).bel s
  ·have g:o.dst=some 67:=by rw[Ac n]
   rw[g] at hK;have l8:=Ak (y (9,8) (by decide)) C hdep;obtain⟨p,t,y1,n1,K,U⟩:=hR.v8 l8;have e8:=AG ((hV (8,66) (by decide) l8).trans y1);rw[Ac n]
   go_simp
   go_at_call 38
   refine(As 31 ⟨#[]⟩ (some ⟨p,0,none⟩) 2 2 w).mono ?_;rintro e w' ⟨rfl,s⟩;have f:=hR.kp (Kp.below s) I.1
   exact hK _ _ ⟨hpf.bel s T,f.sz,f.fr,f.fa,f.v0,f.v1,f.v2,f.v3,f.v4,f.v5,f.v6,f.v7,f.v8,fun _=>⟨.mk 31 [] 0 (0,0) [t,nB],⟨_,_,_,rfl,n1.kept s.size fun j _ hl=>s.block j hl⟩,.mk _ _ _ _ _ (BN 31 [] (by decide) (by decide)) fun u hu=>by
    rcases aK.1 hu with rfl | hu
    ·exact K
    ·obtain rfl:=aD.1 hu;exact Vy,by
    rw[Tr.wt_mk,AK,AK,AM,Wh]
    omega⟩,f.v10,f.v12,f.v13⟩
  ·have g:o.dst=some 68:=by rw[Ac n]
   rw[g] at hK;have l9:=Ak (y (10,9) (by decide)) C hdep;obtain⟨t,j0,K,U⟩:=hR.v9 l9;obtain⟨ya,yn,yc,o0,h0⟩:=j0.box hR.sz;have e9:=AG ((hV (9,67) (by decide) l9).trans o0);have s:=Ad w (.cells #[.int .i64 t.kd,.string ⟨t.nm.toArray⟩,.float .f64 t.x,.slice ya yn yc,.complex .f64 t.z.1 t.z.2] 60);have f:=hR.kp (Kp.below s) I.1;rw[Ac n]
   go_simp
   exact hK _ _ ⟨hpf.bel s T,f.sz,f.fr,f.fa,f.v0,f.v1,f.v2,f.v3,f.v4,f.v5,f.v6,f.v7,f.v8,f.v9,fun _=>⟨t,h0,K,U⟩,f.v12,f.v13⟩
  ·have g:o.dst=some 69:=by rw[Ac n]
   rw[g] at hK;have l2:=Ak (y (11,2) (by decide)) C hdep;have z0:=Ak (y (11,10) (by decide)) C hdep;have r1:=hR.fr hL;obtain⟨t,⟨p,O,S,P,y0,p1,p2,p3⟩,K,U⟩:=hR.v10 z0;have e2:=(hV (2,60) (by decide) l2).trans (hR.v2 l2);have d1:=(hV (10,68) (by decide) z0).trans y0;obtain⟨R,q0,Z,d2,x0⟩:=r1.owns n0 fun j D=>D
   have k2:R.length<=100000000:=by
    have h1:=Io (R.map Prod.fst);rw[aL,q0] at h1;omega
   rw[Ac n];refine step_append_lies _ rfl (.tmp 60) (.tmp 68) 58 rfl n0 60 i0 _ 5 72 underlying58 j1 a2 b2 c2 rfl (by decide) _ R.length (Ah R) e2 Z ⟨p,0,none⟩ 1 1 (Ah [(t,.slice O S P)]) d1 rfl (aH p2) (B7 _ _ _ _) (by decide) (by unfold maxLen;omega) (by omega) (by have:=hR.sz;omega) w.heap.size rfl ?_;intro g5 d0 w' o1 H o3 o4;have s1:∀j,N.heap.size<=j->some j≠(aF ka kn kc).ownBlock:=fun j D e=>by have:=(c0 j e.symm).2;omega
   have E:Kp N.heap.size w w':=⟨H.size,fun j D hl=>H.block j hl (s1 j D)⟩;have s0:=PJ q0 c0 x0 (p3.mono fun j _ D=>D.1) ⟨I.1,hR.sz⟩ o1 H (by rcases o3 with h | h;(left;exact h.symm);(right;rw[h];rfl));have f0:∀j,j<n0->j<w.heap.size->w'.heap[j]?=w.heap[j]?:=fun j D hl=>H.block j hl (fun e=>by have:=(c0 j e.symm).1;omega);have m:=hpf;rw[b0 (by omega)] at m
   have t0:QQ w0 l b q (if L 4=true then J+c else J) wb X w':=by
    refine⟨?_,⟨H.os.trans m.ob.os,H.tape.trans m.ob.tape,H.output.trans m.ob.output,aE m.ob.size H.size,fun j D h1 h2=>(f0 j (by omega) (aJ D m.ob.size)).trans (m.ob.block j D h1 h2)⟩,m.cq.kept (f0 q hq.2 T)⟩
    cases hv:(aF ka kn kc).ownBlock with
    | none=>rw[hv] at H;exact m.mm.keep ⟨H.os,H.tape,H.output,H.size,fun k hk=>H.block k hk (by simp)⟩
    | some x=>rw[hv] at H;exact m.mm.only (r:=x) H (by have:=(c0 x hv).1;omega)
   refine hK (.slice (some ⟨g5,0,none⟩) (R.length+1) d0) _ ⟨?_,aE hR.sz H.size,fun h=>aA h,fun _=>⟨t,_,_,_,rfl,s0,K,U⟩,hR.v0,hR.v1,hR.v2,hR.v3,fun e=>(hR.v4 e).kp E,fun e=>(hR.v5 e).kp E,fun e=>(hR.v6 e).kp E,fun e=>(hR.v7 e).kp E,fun e=>?_,fun e=>(hR.v9 e).kp E,fun e=>(hR.v10 e).kp E,hR.v12,hR.v13⟩
   ·show QQ w0 l b q (if L 4=true then J+c else J) wb (if L 14=true then X.set 6 (aF (some ⟨g5,0,none⟩) (R.length+1) d0) else X) w'
    rw[b0 (by omega)];exact t0
   obtain⟨p,t,h1,h2,h3⟩:=hR.v8 e;exact⟨p,t,h1,h2.kept E.size (fun j D hl=>E.block j D hl),h3⟩
  ·have g:o.dst=some 70:=by rw[Ac n]
   rw[g] at hK;rw[Ac n]
   go_simp
   exact hK _ _ ⟨hpf,hR.sz,hR.fr,hR.fa,hR.v0,hR.v1,hR.v2,hR.v3,hR.v4,hR.v5,hR.v6,hR.v7,hR.v8,hR.v9,hR.v10,fun _=>rfl,hR.v13⟩
  ·have g:o.dst=some 71:=by rw[Ac n]
   rw[g] at hK;have a1:=Ak (y (13,12) (by decide)) C hdep;have i2:=AG ((hV (12,70) (by decide) a1).trans (hR.v12 a1));rw[Ac n]
   go_simp
   exact hK _ _ ⟨hpf,hR.sz,hR.fr,hR.fa,hR.v0,hR.v1,hR.v2,hR.v3,hR.v4,hR.v5,hR.v6,hR.v7,hR.v8,hR.v9,hR.v10,hR.v12,fun _=>rfl⟩
  have g:o.dst=none:=(by rw[Ac n]);rw[g] at hK;have b1:L 13=true:=Ak (aC.1 G 13 (by decide)) C hdep;have v:∀k,k<=11->L k=true:=fun k hk=>Ak (aC.1 G k (g0 k hk)) C hdep;obtain⟨t,O,S,P,F,f1,f2,f3⟩:=hR.fa (v 11 (by omega));have g2:=AG ((hV (11,69) (by decide) (v 11 (by omega))).trans F);have j2:=AG ((hV (13,71) (by decide) b1).trans (hR.v13 b1));have B:=hpf;rw[hL,v 4 (by omega)] at B;simp only[aI,if_false,if_true] at B;have c6:=B.cq.c 6 _ m0;have cz:=B.cq.fz;have k0:Ae q w (w.setCell ⟨q,6,none⟩ (.slice O S P)):=(Ae.refl _ _).set 6 _
  have f:=hR.kp (Kp.only k0 hq.2) I.1;rw[Ac n]
  go_simp
  refine hK undef _ ⟨?_,f.sz,f.fr,f.fa,f.v0,f.v1,f.v2,f.v3,f.v4,f.v5,f.v6,f.v7,f.v8,f.v9,f.v10,f.v12,f.v13⟩;show QQ w0 l b q (if L 4=true then J+c else J) wb (X.set 6 (V 11)) _;rw[v 4 (by omega),F];exact⟨B.mm.only k0 hq.1,B.ob.trans (Hm.right k0),B.cq.set 6 _ _ m0⟩
 intro L V w v ⟨hpf,hR⟩;rw[hn] at v;obtain⟨t,O,S,P,F,f1,f2,f3⟩:=hR.fa (v 11 (by omega));rw[v 4 (by omega),v 14 (by omega)] at hpf;simp only[if_true,F] at hpf;exact r0 V w t O S P F f1 f2 f3 hpf
end Go.Proofs.YtipfpohlnhmlpaaGreatDoor
namespace Go
open Go.RowKit
section
variable {T:TypeId} {S S':Nat->Prop} {w w':World} {v:Value}
def NS (T:TypeId) (S:Nat->Prop) (w:World) (v:Value) (t:Tr):Prop:=∃a c b,v = .agg #[.int .i64 t.kd,.string ⟨t.nm.toArray⟩,.float .f64 t.x,.slice a c b,.complex .f64 t.z.1 t.z.2]/\Am T w S t.ks (.slice a c b)
def BS (T:TypeId) (S:Nat->Prop) (w:World) (v:Value) (t:Tr):Prop:=∃p a c b,v = .slice (some ⟨p,0,none⟩) 1 1/\S p/\w.heap[p]?=some (.cells (Ah [(t,.slice a c b)]).toArray T (0,0))/\Am T w (fun j=>S j/\j≠p) t.ks (.slice a c b)
theorem NS.kept {t:Tr} (h:NS T S w v t) (g:w.heap.size<=w'.heap.size) (e:∀j,S j->j<w.heap.size->w'.heap[j]?=w.heap[j]?) (b:∀j,j<w.heap.size->S j->S' j):NS T S' w' v t:=by
 obtain⟨i,l,k,c,d⟩:=h;exact⟨i,l,k,c,((d.mono (S':=fun j=>S j/\j<w.heap.size) fun j a b=>⟨b,a⟩).kept g fun j a f=>e j a.1 f).mono fun j _ a=>b j a.2 a.1⟩
theorem BS.kept {t:Tr} (h:BS T S w v t) (k:w.heap.size<=w'.heap.size) (f:∀j,S j->j<w.heap.size->w'.heap[j]?=w.heap[j]?) (b:∀j,j<w.heap.size->S j->S' j):BS T S' w' v t:=by
 obtain⟨p,l,n,m,g,d,e,i⟩:=h;have c:=(aB.1 e).1;exact⟨p,l,n,m,g,b p c d,(f p d c).trans e,((i.mono (S':=fun j=>(S j/\j≠p)/\j<w.heap.size) fun j a b=>⟨b,a⟩).kept k fun j a c=>f j a.1.1 c).mono fun j _ a=>⟨b j a.2 a.1.1,a.1.2⟩⟩
theorem NS.box {t:Tr} (h:NS T S w v t) (g:S w.heap.size):∃a c b,v = .agg #[.int .i64 t.kd,.string ⟨t.nm.toArray⟩,.float .f64 t.x,.slice a c b,.complex .f64 t.z.1 t.z.2] /\
  BS T S (w.alloc (.cells #[.int .i64 t.kd,.string ⟨t.nm.toArray⟩,.float .f64 t.x,.slice a c b,.complex .f64 t.z.1 t.z.2] T)) (.slice (some ⟨w.heap.size,0,none⟩) 1 1) t:=by
 obtain⟨a,c,b,d,e⟩:=h;exact⟨a,c,b,d,w.heap.size,a,c,b,rfl,g,heap_alloc_new w _,(e.mono (S':=fun j=>S j/\j≠w.heap.size) fun j i f=>⟨f,by omega⟩).bel (Ad w _)⟩
theorem BS.node {t:Tr} (h:BS T S w v t) (k:Int) (nm:List UInt8):∃p,v = .slice (some ⟨p,0,none⟩) 1 1/\NS T S w (.agg #[.int .i64 k,.string ⟨nm.toArray⟩,.float .f64 0,.slice (some ⟨p,0,none⟩) 1 1,.complex .f64 0 0]) (.mk k nm 0 (0,0) [t]):=by
 obtain⟨p,f,i,g,a,b,c,d⟩:=h
 exact⟨p,a,_,_,_,rfl,.row _ [(t,.slice f i g)] p 1 _ b c (aG _) (by unfold maxLen;simp) rfl rfl fun q e=>by
  obtain rfl:=aD.1 e
  exact d⟩
end
end Go
namespace Go.Proofs.YtipfpohlnhmlpaaGreatDoor
open Go.Proofs.Tryz
open Go.RowKit
def U7:Array (Option Tmp×Op×TypeId×Option (Nat×Bool)) :=
 #[(some 95,.fieldAddr 37 (.tmp 4) 1,0,none),(some 96,.load 35 (.tmp 95),35,none),
   (some 97,.indexAddr 35 (.tmp 96) (.const (.int .i64 0)),0,none),(some 98,.fieldAddr 68 (.tmp 97) 2,0,none),(some 99,.fieldAddr 60 (.tmp 98) 3,0,none),(some 100,.load 58 (.tmp 99),58,none),
   (some 101,.call { callee:=.value (.func 38),args := #[.const (.int .i64 4),.const (.string ⟨#[112]⟩),.const (.slice none 0 0)],argTypes := #[3,9,58] },60,none),(some 102,.buildSlice 58 1 #[(0,.tmp 101)],58,none),
   (some 103,.call { callee:=.value (.func 38),args := #[.const (.int .i64 5),.const (.string ⟨#[113]⟩),.tmp 102],argTypes := #[3,9,58] },60,none),(some 104,.buildSlice 58 1 #[(0,.tmp 103)],58,none),
   (some 105,.call { callee:=.value (.func 38),args := #[.const (.int .i64 44),.const (.string ⟨#[]⟩),.tmp 104],argTypes := #[3,9,58] },60,none),
   (some 106,.call { callee:=.builtin .len,args := #[.tmp 100],argTypes := #[58] },3,none),
   (some 107,.buildSlice 58 1 #[(0,.const (.agg #[.int .i64 0,.string ⟨#[]⟩,.float .f64 0,.slice none 0 0,.complex .f64 0 0]))],58,none),
   (some 108,.call { callee:=.builtin .append,args := #[.tmp 100,.tmp 107],argTypes := #[58,58] },58,none),(some 109,.indexAddr 35 (.tmp 96) (.const (.int .i64 0)),0,none),(some 110,.fieldAddr 68 (.tmp 109) 2,0,none),
   (some 111,.fieldAddr 60 (.tmp 110) 3,0,none),(none,.store 58 (.tmp 111) (.tmp 108),0,none)]
def Rh:List (Nat×Nat):=[(0,95),(1,96),(2,97),(3,98),(4,99),(5,100),(6,101),(7,102),(8,103),(9,104),(10,105),(11,106),(12,107),(13,108),(14,109),(15,110),(16,111)]
def WM:List (Nat×Nat):=[(1,0),(2,1),(3,2),(4,3),(5,4),(7,6),(8,7),(9,8),(10,9),(11,5),(13,5),(13,12),(14,1),(15,14),(16,15)]
def WP (a:Array Oper):Bool:=WM.all fun p=>Cc a p.1 p.2
theorem UQ {a:Array Oper} (h:WP a=true) (p:Nat×Nat) (b:p∈WM):Cc a p.1 p.2=true:=aC.1 h p b
def SX (B:Nat) (a:Bool) (b:Value):Nat->Prop:=fun j=>B<=j/\(a=true->some j≠b.ownBlock)
structure VR (n0 B cb bg g gc:Nat) (cur:Array Value) (f:Fu) (pv:Value) (ka:Option Addr) (kn kc:Nat) (L:Nat->Bool) (V:Nat->Value) (w:World):Prop where
 sz:B<=w.heap.size
 fr:L 13=false->Dz 60 A0 cb (fun j=>n0<=j/\j≠g) w f pv (.slice ka kn kc)/\w.heap[g]?=some (.cells cur 68 (0,0))
 fa:L 13=true->L 17=false->Dz 60 A0 (cb+3) (fun j=>n0<=j/\j≠g) w (Gr f nO) pv (V 13)/\w.heap[g]?=some (.cells cur 68 (0,0))
 fb:L 17=true->GQ 60 68 A0 n0 (cb+3) [(Gr f nO,pv,V 13)] (.slice (some ⟨g,0,none⟩) 1 gc) w
 v0:L 0=true->V 0 = .pointer (some ⟨bg,1,none⟩)
 v1:L 1=true->V 1 = .slice (some ⟨g,0,none⟩) 1 gc
 v2:L 2=true->V 2 = .pointer (some ⟨g,0,none⟩)
 v3:L 3=true->V 3 = .pointer (some ⟨g,2,none⟩)
 v4:L 4=true->V 4 = .pointer (some ⟨g,5,none⟩)
 v5:L 5=true->V 5 = .slice ka kn kc
 v6:L 6=true->NS 60 (SX B (L 13) (V 13)) w (V 6) nP
 v7:L 7=true->BS 60 (SX B (L 13) (V 13)) w (V 7) nP
 v8:L 8=true->NS 60 (SX B (L 13) (V 13)) w (V 8) nQ
 v9:L 9=true->BS 60 (SX B (L 13) (V 13)) w (V 9) nQ
 v10:L 10=true->NS 60 (SX B (L 13) (V 13)) w (V 10) nS
 v11:L 11=true->V 11 = .int .i64 kn
 v12:L 12=true->∃p,V 12 = .slice (some ⟨p,0,none⟩) 1 1/\B<=p/\(L 13=false->w.heap[p]?=some (.cells (Ah [(nO,.slice none 0 0)]).toArray 60 (0,0)))
 v13:L 13=true->∃g5 cap5,V 13 = .slice (some ⟨g5,0,none⟩) (kn+1) cap5/\g5<w.heap.size
 v14:L 14=true->V 14 = .pointer (some ⟨g,0,none⟩)
 v15:L 15=true->V 15 = .pointer (some ⟨g,2,none⟩)
 v16:L 16=true->V 16 = .pointer (some ⟨g,5,none⟩)
theorem VR.bel {s B l bg g m:Nat} {d:Array Value} {f:Fu} {t:Value} {o:Option Addr} {r q:Nat} {L:Nat->Bool} {V:Nat->Value} {w w':World} (h:VR s B l bg g m d f t o r q L V w) (a:Below w.heap.size w w'):VR s B l bg g m d f t o r q L V w' where
 sz:=aE h.sz a.size
 fr e:=⟨(h.fr e).1.kept a.size (fun j _ b=>a.block j b),(a.block g (aB.1 (h.fr e).2).1).trans (h.fr e).2⟩
 fa e e2:=⟨(h.fa e e2).1.kept a.size (fun j _ b=>a.block j b),(a.block g (aB.1 (h.fa e e2).2).1).trans (h.fa e e2).2⟩
 fb e:=(h.fb e).kp (Kp.below a)
 v0:=h.v0
 v1:=h.v1
 v2:=h.v2
 v3:=h.v3
 v4:=h.v4
 v5:=h.v5
 v6 e:=(h.v6 e).kept a.size (fun j _ b=>a.block j b) fun _ _ h=>h
 v7 e:=(h.v7 e).kept a.size (fun j _ b=>a.block j b) fun _ _ h=>h
 v8 e:=(h.v8 e).kept a.size (fun j _ b=>a.block j b) fun _ _ h=>h
 v9 e:=(h.v9 e).kept a.size (fun j _ b=>a.block j b) fun _ _ h=>h
 v10 e:=(h.v10 e).kept a.size (fun j _ b=>a.block j b) fun _ _ h=>h
 v11:=h.v11
 v12 e:=by
  obtain⟨p,i,k,n⟩:=h.v12 e;exact⟨p,i,k,fun e=>(a.block p (aB.1 (n e)).1).trans (n e)⟩
 v13 e:=by
  obtain⟨g5,c,i,k⟩:=h.v13 e;exact⟨g5,c,i,aJ k a.size⟩
 v14:=h.v14
 v15:=h.v15
 v16:=h.v16
theorem VR.new {n B d bg g i:Nat} {a:Array Value} {f:Fu} {o:Value} {k:Option Addr} {m l:Nat} {L:Nat->Bool} {V:Nat->Value} {w:World} (h:VR n B d bg g i a f o k m l L V w):SX B (L 13) (V 13) w.heap.size :=
 ⟨h.sz,fun e=>by
   obtain⟨g5,c,j,p⟩:=h.v13 e
   rw[j];intro b;injection b with b;dsimp at b;omega⟩
theorem Wq {Q:Exit->Act->World->Prop} {id:Nat} {T:Array Oper} (Y:T.map Oper.shape=U7) (hb:DU T=true) (hw:WP T=true) (I:[0,1,2,3,4,5,6,7,8,9,10,11,12,13,16].all (Cc T 17)=true)
  {a0:Act} {M:World} (b2:a0.tmps.size=154) (w0:World) (l:Cp) (rb b bg J cb K U g gc:Nat) (Lr:List (Rl×Value×Value)) (v:Value) (D:Array Value) (f:Fu) (pv:Value) (ka:Option Addr) (N kc:Nat) (h4:a0.eval (.tmp 4) = .pointer (some ⟨bg,0,none⟩))
  (hP:PG 60 62 A0 w0 l rb b bg J K Lr v (.slice (some ⟨g,0,none⟩) 1 gc) U M) (w2:U<=M.heap.size) (hF:Dz 60 A0 cb (fun j=>U<=j/\j≠g) M f pv (.slice ka N kc)) (hg:U<=g) (y0:M.heap[g]?=some (.cells D 68 (0,0)))
  (m0:1<=gc/\gc<=maxLen/\D.size=gc*8) (t0:D.toList.take 8=AI [(f,pv,.slice ka N kc)]) (t2:cb<=100000000)
  (x0:∀V w q qc ya yn yc,V 13 = .slice (some ⟨q,0,none⟩) (N+1) qc->V 11 = .int .i64 N->V 10 = .agg #[.int .i64 nS.kd,.string ⟨nS.nm.toArray⟩,.float .f64 nS.x,.slice ya yn yc,.complex .f64 nS.z.1 nS.z.2]->Am 60 w (fun j=>M.heap.size<=j/\j≠q) nS.ks (.slice ya yn yc) ->
    GQ 60 68 A0 U (cb+3) [(Gr f nO,pv,.slice (some ⟨q,0,none⟩) (N+1) qc)] (.slice (some ⟨g,0,none⟩) 1 gc) w->PG 60 62 A0 w0 l rb b bg J K Lr v (.slice (some ⟨g,0,none⟩) 1 gc) U w->M.heap.size<=w.heap.size->Q .normal (a0.all V Rh) w):(Code.region id T true).wp prog Q a0 M:=by
 have hn:T.size=18:=by have:=congrArg aM Y;simpa[U7] using this
 obtain⟨i0,y1,c2,d2,f2⟩:=info_parts A.infoNd;have x1:g<M.heap.size:=(aB.1 y0).1
 have n1:Hid (N=f.b.ks.length):=by
  obtain⟨xa,xc,e⟩:=hF.ks.slice;injection e
 have b1:∀q,(aF ka N kc).ownBlock=some q->q<M.heap.size:=fun q hq=>by
  obtain⟨R,_,c0,_,_⟩:=hF.ks.owns U fun j E=>E.1;exact(c0.lt q hq).2
 refine D3 (by kernel_rfl) hb Rh (by decide) (by decide) (fun p hp=>?_) (fun p hp=>?_) (fun i o G=>?_) (fun L V w=>PG 60 62 A0 w0 l rb b bg J K Lr v (.slice (some ⟨g,0,none⟩) 1 gc) U w/\VR U M.heap.size cb bg g gc D f pv ka N kc L V w) ?_ ?_ ?_
 ·rw[b2]
  have:∀p∈Rh,p.2<154:=(by decide);exact this p hp
 ·rw[hn]
  have:∀p∈Rh,p.1<18:=(by decide);exact this p hp
 ·have y:=Cz Y G
  have hi:i<18:=by rw[<- hn];exact(aB.1 G).1
  rcases (by omega:i=0\/i=1\/i=2\/i=3\/i=4\/i=5\/i=6\/i=7\/i=8\/i=9\/i=10\/i=11\/i=12\/i=13\/i=14\/i=15\/i=16\/i=17) with rfl | rfl | rfl | rfl | rfl | rfl | rfl | rfl | rfl | rfl | rfl | rfl | rfl | rfl | rfl | rfl | rfl | rfl<;>(rw[Ac y];exact⟨fun d hd=>by cases hd<;>decide,fun hd=>by first | decide | cases hd⟩)
 ·have hd:Below M.heap.size M { M with drawn:=M.drawn+1 }:=⟨rfl,rfl,rfl,aG _,fun _ _=>rfl⟩
  exact⟨hP.bel hd,aG _,fun _=>⟨hF.kept (aG _) fun _ _ _=>rfl,y0⟩,fun h=>aA h,fun h=>aA h,fun h=>aA h,fun h=>aA h,fun h=>aA h,fun h=>aA h,fun h=>aA h,fun h=>aA h,fun h=>aA h,fun h=>aA h,fun h=>aA h,fun h=>aA h,fun h=>aA h,fun h=>aA h,fun h=>aA h,fun h=>aA h,fun h=>aA h,fun h=>aA h,fun h=>aA h⟩
 ·intro L V i o a w hcl ⟨hpf,hR⟩ G hL hdep hV ha0 KK hK
  have y:=Cz Y G;have hi:i<18:=by rw[<- hn];exact(aB.1 G).1
  have s2:=AG ((ha0 4 (by decide)).trans h4);have r:=UQ hw;have f0:∀k,k<=13->k∈[0,1,2,3,4,5,6,7,8,9,10,11,12,13,16]:=by decide
  have m1:∀k,k<17->L k=false->L 17=false:=fun k hk hf=>by
   rcases (by omega:k=14\/k=15\/k<=13\/k=16) with rfl | rfl | h | rfl
   ·exact AB (aC.1 I 16 (by decide)) hcl (AB (r (16,15) (by decide)) hcl (AB (r (15,14) (by decide)) hcl hf))
   ·exact AB (aC.1 I 16 (by decide)) hcl (AB (r (16,15) (by decide)) hcl hf)
   ·exact AB (aC.1 I k (f0 k h)) hcl hf
   exact AB (aC.1 I 16 (by decide)) hcl hf
  have g2:i<17->L 17=false:=fun h=>m1 i h hL
  have d0:∀w1:World,w1.heap[g]?=some (.cells D 68 (0,0))->w1.cell? ⟨g,5,none⟩=some (.slice ka N kc):=fun w1 h=>by
   rw[cell_of_row w1 g 5 D _ (0,0) h];have:=congrArg (fun l:List Value=>l[5]?) t0;rw[List.getElem?_take_of_lt (by omega)] at this;simpa[Ka] using this
  rcases (by omega:i=0\/i=1\/i=2\/i=3\/i=4\/i=5\/i=6\/i=7\/i=8\/i=9\/i=10\/i=11\/i=12\/i=13\/i=14\/i=15\/i=16\/i=17) with rfl | rfl | rfl | rfl | rfl | rfl | rfl | rfl | rfl | rfl | rfl | rfl | rfl | rfl | rfl | rfl | rfl | rfl
  ·have n:o.dst=some 95:=by rw[Ac y]
   rw[n] at hK;rw[Ac y]
   go_simp
   exact hK _ _ ⟨hpf,hR.sz,hR.fr,hR.fa,hR.fb,fun _=>rfl,hR.v1,hR.v2,hR.v3,hR.v4,hR.v5,hR.v6,hR.v7,hR.v8,hR.v9,hR.v10,hR.v11,hR.v12,hR.v13,hR.v14,hR.v15,hR.v16⟩
  ·have n:o.dst=some 96:=by rw[Ac y]
   rw[n] at hK;have l0:=Ak (r (1,0) (by decide)) G hdep;have e0:=AG ((hV (0,95) (by decide) l0).trans (hR.v0 l0));have j2:=hpf.g.c 1 _ rfl;rw[Ac y]
   go_simp
   exact hK _ _ ⟨hpf,hR.sz,hR.fr,hR.fa,hR.fb,hR.v0,fun _=>rfl,hR.v2,hR.v3,hR.v4,hR.v5,hR.v6,hR.v7,hR.v8,hR.v9,hR.v10,hR.v11,hR.v12,hR.v13,hR.v14,hR.v15,hR.v16⟩
  ·have n:o.dst=some 97:=by rw[Ac y]
   rw[n] at hK;have l1:=Ak (r (2,1) (by decide)) G hdep;have e1:=AG ((hV (1,96) (by decide) l1).trans (hR.v1 l1));rw[Ac y]
   go_simp
   exact hK _ _ ⟨hpf,hR.sz,hR.fr,hR.fa,hR.fb,hR.v0,hR.v1,fun _=>rfl,hR.v3,hR.v4,hR.v5,hR.v6,hR.v7,hR.v8,hR.v9,hR.v10,hR.v11,hR.v12,hR.v13,hR.v14,hR.v15,hR.v16⟩
  ·have n:o.dst=some 98:=by rw[Ac y]
   rw[n] at hK;have l2:=Ak (r (3,2) (by decide)) G hdep;have e2:=AG ((hV (2,97) (by decide) l2).trans (hR.v2 l2));rw[Ac y]
   go_simp
   exact hK _ _ ⟨hpf,hR.sz,hR.fr,hR.fa,hR.fb,hR.v0,hR.v1,hR.v2,fun _=>rfl,hR.v4,hR.v5,hR.v6,hR.v7,hR.v8,hR.v9,hR.v10,hR.v11,hR.v12,hR.v13,hR.v14,hR.v15,hR.v16⟩
  ·have n:o.dst=some 99:=by rw[Ac y]
   rw[n] at hK;have l3:=Ak (r (4,3) (by decide)) G hdep;have e3:=AG ((hV (3,98) (by decide) l3).trans (hR.v3 l3));rw[Ac y]
   go_simp
   exact hK _ _ ⟨hpf,hR.sz,hR.fr,hR.fa,hR.fb,hR.v0,hR.v1,hR.v2,hR.v3,fun _=>rfl,hR.v5,hR.v6,hR.v7,hR.v8,hR.v9,hR.v10,hR.v11,hR.v12,hR.v13,hR.v14,hR.v15,hR.v16⟩
  ·have n:o.dst=some 100:=by rw[Ac y]
   rw[n] at hK;have l4:=Ak (r (5,4) (by decide)) G hdep;have e4:=AG ((hV (4,99) (by decide) l4).trans (hR.v4 l4));have c5:=d0 w (hR.fr (AB (r (13,5) (by decide)) hcl hL)).2;rw[Ac y]
   go_simp
   exact hK _ _ ⟨hpf,hR.sz,hR.fr,hR.fa,hR.fb,hR.v0,hR.v1,hR.v2,hR.v3,hR.v4,fun _=>rfl,hR.v6,hR.v7,hR.v8,hR.v9,hR.v10,hR.v11,hR.v12,hR.v13,hR.v14,hR.v15,hR.v16⟩
  ·have n:o.dst=some 101:=by rw[Ac y]
   rw[n] at hK;rw[Ac y]
   go_simp
   go_at_call 38
   refine(As 4 ⟨#[112]⟩ none 0 0 w).mono ?_;rintro e w' ⟨rfl,t⟩;have m:=hR.bel t;exact hK _ _ ⟨hpf.bel t,m.sz,m.fr,m.fa,m.fb,m.v0,m.v1,m.v2,m.v3,m.v4,m.v5,fun _=>⟨none,0,0,rfl,.nil _⟩,m.v7,m.v8,m.v9,m.v10,m.v11,m.v12,m.v13,m.v14,m.v15,m.v16⟩
  ·have n:o.dst=some 102:=by rw[Ac y]
   rw[n] at hK;have l6:=Ak (r (7,6) (by decide)) G hdep;obtain⟨xa,xn,xc,r0,j0⟩:=(hR.v6 l6).box hR.new;have e6:=AG ((hV (6,101) (by decide) l6).trans r0);have t:=Ad w (.cells #[.int .i64 nP.kd,.string ⟨nP.nm.toArray⟩,.float .f64 nP.x,.slice xa xn xc,.complex .f64 nP.z.1 nP.z.2] 60);have m:=hR.bel t;rw[Ac y]
   go_simp
   exact hK _ _ ⟨hpf.bel t,m.sz,m.fr,m.fa,m.fb,m.v0,m.v1,m.v2,m.v3,m.v4,m.v5,m.v6,fun _=>j0,m.v8,m.v9,m.v10,m.v11,m.v12,m.v13,m.v14,m.v15,m.v16⟩
  ·have n:o.dst=some 103:=by rw[Ac y]
   rw[n] at hK;have l7:=Ak (r (8,7) (by decide)) G hdep;obtain⟨p,q0,o0⟩:=(hR.v7 l7).node 5 [113];have e7:=AG ((hV (7,102) (by decide) l7).trans q0);rw[Ac y]
   go_simp
   go_at_call 38
   refine(As 5 ⟨#[113]⟩ (some ⟨p,0,none⟩) 1 1 w).mono ?_;rintro e w' ⟨rfl,t⟩;have m:=hR.bel t;exact hK _ _ ⟨hpf.bel t,m.sz,m.fr,m.fa,m.fb,m.v0,m.v1,m.v2,m.v3,m.v4,m.v5,m.v6,m.v7,fun _=>o0.kept t.size (fun j _ S=>t.block j S) fun _ _ h=>h,m.v9,m.v10,m.v11,m.v12,m.v13,m.v14,m.v15,m.v16⟩
  ·have n:o.dst=some 104:=by rw[Ac y]
   rw[n] at hK;have l8:=Ak (r (9,8) (by decide)) G hdep;obtain⟨xa,xn,xc,r0,j0⟩:=(hR.v8 l8).box hR.new;have e8:=AG ((hV (8,103) (by decide) l8).trans r0);have t:=Ad w (.cells #[.int .i64 nQ.kd,.string ⟨nQ.nm.toArray⟩,.float .f64 nQ.x,.slice xa xn xc,.complex .f64 nQ.z.1 nQ.z.2] 60);have m:=hR.bel t;rw[Ac y]
   go_simp
   exact hK _ _ ⟨hpf.bel t,m.sz,m.fr,m.fa,m.fb,m.v0,m.v1,m.v2,m.v3,m.v4,m.v5,m.v6,m.v7,m.v8,fun _=>j0,m.v10,m.v11,m.v12,m.v13,m.v14,m.v15,m.v16⟩
  ·have n:o.dst=some 105:=by rw[Ac y]
   rw[n] at hK;have l9:=Ak (r (10,9) (by decide)) G hdep;obtain⟨p,q0,o0⟩:=(hR.v9 l9).node 44 [];have e9:=AG ((hV (9,104) (by decide) l9).trans q0);rw[Ac y]
   go_simp
   go_at_call 38
   refine(As 44 ⟨#[]⟩ (some ⟨p,0,none⟩) 1 1 w).mono ?_;rintro e w' ⟨rfl,t⟩;have m:=hR.bel t;exact hK _ _ ⟨hpf.bel t,m.sz,m.fr,m.fa,m.fb,m.v0,m.v1,m.v2,m.v3,m.v4,m.v5,m.v6,m.v7,m.v8,m.v9,fun _=>o0.kept t.size (fun j _ S=>t.block j S) fun _ _ h=>h,m.v11,m.v12,m.v13,m.v14,m.v15,m.v16⟩
  ·have n:o.dst=some 106:=by rw[Ac y]
   rw[n] at hK;have l5:=Ak (r (11,5) (by decide)) G hdep;have e5:=AG ((hV (5,100) (by decide) l5).trans (hR.v5 l5));rw[Ac y]
   go_simp
   exact hK _ _ ⟨hpf,hR.sz,hR.fr,hR.fa,hR.fb,hR.v0,hR.v1,hR.v2,hR.v3,hR.v4,hR.v5,hR.v6,hR.v7,hR.v8,hR.v9,hR.v10,fun _=>rfl,hR.v12,hR.v13,hR.v14,hR.v15,hR.v16⟩
  ·have n:o.dst=some 107:=by rw[Ac y]
   rw[n] at hK;have t:=Ad w (.cells #[.int .i64 0,.string ⟨#[]⟩,.float .f64 0,.slice none 0 0,.complex .f64 0 0] 60);have m:=hR.bel t;rw[Ac y]
   go_simp
   exact hK _ _ ⟨hpf.bel t,m.sz,m.fr,m.fa,m.fb,m.v0,m.v1,m.v2,m.v3,m.v4,m.v5,m.v6,m.v7,m.v8,m.v9,m.v10,m.v11,fun _=>⟨w.heap.size,rfl,hR.sz,fun _=>heap_alloc_new w _⟩,m.v13,m.v14,m.v15,m.v16⟩
  ·have n:o.dst=some 108:=by rw[Ac y]
   rw[n] at hK;have l5:=Ak (r (13,5) (by decide)) G hdep;have i1:=Ak (r (13,12) (by decide)) G hdep;obtain⟨H,W⟩:=hR.fr hL;obtain⟨p,g0,p1,i2⟩:=hR.v12 i1;have p2:=i2 hL;have e5:=(hV (5,100) (by decide) l5).trans (hR.v5 l5);have q1:=(hV (12,107) (by decide) i1).trans g0;obtain⟨R,h0,c0,Z,f1⟩:=H.ks.owns U fun j E=>E.1;have s1:R.length=N:=by rw[n1.out,<- h0,aL]
   have r2:R.length<=100000000:=by
    have h1:=Io (R.map Prod.fst);rw[aL,h0] at h1;have h2:=H.wt;rw[MR] at h2;omega
   rw[Ac y];refine step_append_lies _ rfl (.tmp 100) (.tmp 107) 58 rfl U 60 i0 _ 5 72 underlying58 y1 c2 d2 f2 rfl (by decide) _ R.length (Ah R) e5 c0 ⟨p,0,none⟩ 1 1 (Ah [(nO,.slice none 0 0)]) q1 rfl (aH p2) (B7 _ _ _ _) (by decide) (by unfold maxLen;omega) (by omega) (by have:=hR.sz;omega) w.heap.size rfl ?_;intro g5 s w' o1 P o3 o4;have d1:∀j,M.heap.size<=j->some j≠(aF ka N kc).ownBlock:=fun j E e=>by have:=b1 j e.symm;omega
   have p0:∀j,j<w.heap.size->M.heap.size<=j->some j≠(aF (some ⟨g5,0,none⟩) (R.length+1) s).ownBlock:=fun j E z1 e=>by
    injection e with e;dsimp at e;subst e;rcases o3 with h | h
    ·exact d1 _ z1 h.symm
    omega
   have X:∀j,j<w.heap.size->SX M.heap.size (L 13) (V 13) j->SX M.heap.size true (.slice (some ⟨g5,0,none⟩) (R.length+1) s) j:=fun j E hS=>⟨hS.1,fun _=>p0 j E hS.1⟩;have F:∀j,SX M.heap.size (L 13) (V 13) j->j<w.heap.size->w'.heap[j]?=w.heap[j]?:=fun j E S=>P.block j S (d1 j E.1);have c1:∀j,j<w.heap.size->some j≠(aF ka N kc).ownBlock->w'.heap[j]?=w.heap[j]?:=fun j E a2=>P.block j E a2;have k0:=LP nO Vz (by rw[Wi];omega) H h0 (fun q hq=>⟨Z q hq,b1 q hq⟩) f1 (.nil _) ⟨by omega,x1,hR.sz⟩ o1 P (by rcases o3 with h | h;(left;exact h.symm);(right;rw[h];rfl));have z0:w'.heap[g]?=some (.cells D 68 (0,0)):=(c1 g (by have:=hR.sz;omega) (fun e=>(Z g e.symm).2 rfl)).trans W
   have b0:=hpf.high ⟨P.os,P.tape,P.output⟩ P.size (fun j E S=>P.block j S (fun e=>by have:=(Z j e.symm).1;omega)) (by have:=hR.sz;omega);refine hK (.slice (some ⟨g5,0,none⟩) (R.length+1) s) _ ⟨b0,aE hR.sz P.size,fun h=>aA h,fun _ _=>⟨k0,z0⟩,fun h=>absurd ((g2 (by omega)).symm.trans h) (by decide),hR.v0,hR.v1,hR.v2,hR.v3,hR.v4,hR.v5,fun e=>(hR.v6 e).kept P.size F X,fun e=>(hR.v7 e).kept P.size F X,fun e=>(hR.v8 e).kept P.size F X,fun e=>(hR.v9 e).kept P.size F X,fun e=>(hR.v10 e).kept P.size F X,hR.v11,fun _=>⟨p,g0,p1,fun h=>aA h⟩,fun _=>⟨g5,s,by rw[s1];rfl,o4⟩,hR.v14,hR.v15,hR.v16⟩
  ·have n:o.dst=some 109:=by rw[Ac y]
   rw[n] at hK;have l1:=Ak (r (14,1) (by decide)) G hdep;have e1:=AG ((hV (1,96) (by decide) l1).trans (hR.v1 l1));rw[Ac y]
   go_simp
   exact hK _ _ ⟨hpf,hR.sz,hR.fr,hR.fa,hR.fb,hR.v0,hR.v1,hR.v2,hR.v3,hR.v4,hR.v5,hR.v6,hR.v7,hR.v8,hR.v9,hR.v10,hR.v11,hR.v12,hR.v13,fun _=>rfl,hR.v15,hR.v16⟩
  ·have n:o.dst=some 110:=by rw[Ac y]
   rw[n] at hK;have j1:=Ak (r (15,14) (by decide)) G hdep;have m2:=AG ((hV (14,109) (by decide) j1).trans (hR.v14 j1));rw[Ac y]
   go_simp
   exact hK _ _ ⟨hpf,hR.sz,hR.fr,hR.fa,hR.fb,hR.v0,hR.v1,hR.v2,hR.v3,hR.v4,hR.v5,hR.v6,hR.v7,hR.v8,hR.v9,hR.v10,hR.v11,hR.v12,hR.v13,hR.v14,fun _=>rfl,hR.v16⟩
  ·have n:o.dst=some 111:=by rw[Ac y]
   rw[n] at hK;have k1:=Ak (r (16,15) (by decide)) G hdep;have n2:=AG ((hV (15,110) (by decide) k1).trans (hR.v15 k1));rw[Ac y]
   go_simp
   exact hK _ _ ⟨hpf,hR.sz,hR.fr,hR.fa,hR.fb,hR.v0,hR.v1,hR.v2,hR.v3,hR.v4,hR.v5,hR.v6,hR.v7,hR.v8,hR.v9,hR.v10,hR.v11,hR.v12,hR.v13,hR.v14,hR.v15,fun _=>rfl⟩
  have n:o.dst=none:=(by rw[Ac y]);rw[n] at hK;have O:L 16=true:=Ak (aC.1 I 16 (by decide)) G hdep
  have u:∀k,k<17->L k=true:=fun k hk=>by
   rcases (by omega:k=14\/k=15\/k<=13\/k=16) with rfl | rfl | h | rfl
   ·cases hf:L 14 with
    | true=>rfl
    | false=>rw[AB (r (16,15) (by decide)) hcl (AB (r (15,14) (by decide)) hcl hf)] at O;cases O
   ·cases hf:L 15 with
    | true=>rfl
    | false=>rw[AB (r (16,15) (by decide)) hcl hf] at O;cases O
   ·exact Ak (aC.1 I k (f0 k h)) G hdep
   exact O
  obtain⟨g5,s,C,r1⟩:=hR.v13 (u 13 (by omega));have k2:=AG ((hV (13,108) (by decide) (u 13 (by omega))).trans C);have q2:=AG ((hV (16,111) (by decide) O).trans (hR.v16 O));obtain⟨H,W⟩:=hR.fa (u 13 (by omega)) hL;have c5:=d0 w W;have cz:=frozen_of_row w g 5 D _ W;have B:Ae g w (w.setCell ⟨g,5,none⟩ (.slice (some ⟨g5,0,none⟩) (N+1) s)):=(Ae.refl _ _).set 5 _;have F:∀j,SX M.heap.size (L 13) (V 13) j->j<w.heap.size->(w.setCell ⟨g,5,none⟩ (.slice (some ⟨g5,0,none⟩) (N+1) s)).heap[j]?=w.heap[j]?:=fun j E S=>B.block j S (fun e=>by injection e with e;have:=E.1;omega);have b0:=hpf.high ⟨B.os,B.tape,B.output⟩ B.size (fun j E S=>B.block j S (fun e=>by injection e with e;omega)) (by have:=hR.sz;omega)
  rw[C] at H
  have t1:GQ 60 68 A0 U (cb+3) [(Gr f nO,pv,.slice (some ⟨g5,0,none⟩) (N+1) s)] (.slice (some ⟨g,0,none⟩) 1 gc) (w.setCell ⟨g,5,none⟩ (.slice (some ⟨g5,0,none⟩) (N+1) s)):=by
   refine⟨⟨rfl,.inr ⟨g,gc,D.setIfInBounds 5 (.slice (some ⟨g5,0,none⟩) (N+1) s),rfl,hg,heap_setCell_same w g 5 D _ _ W,m0.1,m0.2.1,by simpa using m0.2.2,?_⟩⟩,fun q hq=>?_⟩
   ·show (D.setIfInBounds 5 (.slice (some ⟨g5,0,none⟩) (N+1) s)).toList.take 8=_
    rw[take_set D _ _ t0];exact OC f nO pv _ _
   obtain rfl:=aD.1 hq;exact(H.kept B.size fun j E S=>B.block j S (fun e=>by injection e with e;exact E.2 e)).mono fun j _ E=>⟨E.1,fun e=>by injection e with e;exact E.2 e⟩
  rw[Ac y]
  go_simp
  refine hK undef _ ⟨b0,aE hR.sz B.size,fun h=>absurd ((u 13 (by omega)).symm.trans h) (by decide),fun _ h=>aA h,fun _=>?_,hR.v0,hR.v1,hR.v2,hR.v3,hR.v4,hR.v5,fun e=>(hR.v6 e).kept B.size F fun _ _ h=>h,fun e=>(hR.v7 e).kept B.size F fun _ _ h=>h,fun e=>(hR.v8 e).kept B.size F fun _ _ h=>h,fun e=>(hR.v9 e).kept B.size F fun _ _ h=>h,fun e=>(hR.v10 e).kept B.size F fun _ _ h=>h,hR.v11,fun e=>?_,fun _=>⟨g5,s,C,aJ r1 B.size⟩,hR.v14,hR.v15,hR.v16⟩
  ·show GQ _ _ _ _ _ [(Gr f nO,pv,V 13)] _ _
   rw[C];exact t1
  obtain⟨p,h1,h2,h3⟩:=hR.v12 e;exact⟨p,h1,h2,fun h=>absurd ((u 13 (by omega)).symm.trans h) (by decide)⟩
 intro L V w u ⟨hpf,hR⟩;rw[hn] at u;obtain⟨g5,s,C,_⟩:=hR.v13 (u 13 (by omega));have s0:=hR.fb (u 17 (by omega));rw[C] at s0;obtain⟨ya,yn,yc,g1,a1⟩:=hR.v10 (u 10 (by omega));refine x0 V w g5 s ya yn yc C (hR.v11 (u 11 (by omega))) g1 (a1.mono fun j _ E=>⟨E.1,fun e=>?_⟩) s0 hpf hR.sz;have:=E.2 (u 13 (by omega));rw[C] at this;exact this (by rw[e];rfl)
end Go.Proofs.YtipfpohlnhmlpaaGreatDoor
