/- Mh -/
import Derived.Test.YtipfpohlnhmlpaaGreatDoorMb
import Derived.Deep.RegionHeld3
set_option maxRecDepth 100000
set_option maxHeartbeats 8000000
open Go.Value renaming slice->aA
open Go.Lib renaming hid->aB
open Int renaming natCast_nonneg->aC,ofNat_lt->aD
namespace Go
open Go.RowKit
theorem IL {d W:World} {l:Cp} {b I:Nat} {j k m:Value} {f:Bool} {y:Int} (h:∃i,i<=I/\Ti d l b i W) (_hc:C5 W b j k m (.bool f) (.int .i64 y)) (X:Int):CH d l b (I+0) (W.setCell ⟨b,2,none⟩ (.int .i64 X)):=by
 obtain⟨i,g,a⟩:=h;obtain⟨x,y,f,e⟩:=a.c;exact⟨i,g,((Ae.refl _ _).set 2 _).below_of a.below a.hb a.below.size,a.hb,a.row,X,y,f,e.set2 _⟩
theorem Fr.drew {T:TypeId} {P:Int->List UInt8->Nat->Prop} {f W a:World} {l:Cp} {b I c:Nat} {L:List (Tr×Value)} {G:Option Nat} {d:Int} {e:Value} (h:Fr T P f l b W I c L a G d e):Fr T P f l b W I c L a.drew G d e :=
 h.below ⟨rfl,rfl,rfl,Nat.le_refl _,fun _ _=>rfl⟩
theorem Fj {b w:World} {r:Nat} (c:Below b.heap.size b w) (a:b.heap.size<=r) (d e f g h:Value):Below b.heap.size b (((((w.setCell ⟨r,0,none⟩ d).setCell ⟨r,1,none⟩ e).setCell ⟨r,2,none⟩ f).setCell ⟨r,3,none⟩ g).setCell ⟨r,4,none⟩ h) :=
 ((((c.setCell (p:=⟨r,0,none⟩) a _).setCell (p:=⟨r,1,none⟩) a _).setCell (p:=⟨r,2,none⟩) a _).setCell (p:=⟨r,3,none⟩) a _).setCell (p:=⟨r,4,none⟩) a _
def G4:List (List UInt8):=[[126],[33,126]]
def Kz:List (List UInt8):=[[43,43],[45,45]]
def QJ:List (List UInt8):=[[33],[45],[43]]
def Js:List (List UInt8):=[[115,117,98],[103,115,117,98]]
def VT:List (List UInt8):=[[116,111,108,111,119,101,114],[116,111,117,112,112,101,114],[105,110,116],[115,113,114,116],[101,120,112],[99,111,115]]
theorem Ck (L:List (List UInt8)) (h:L.all (fun s=>decide (s.length<=24))=true) (i:Nat):(L[i]?.getD []).length<=24:=by rw[<- List.getD_eq_getElem?_getD];exact DM L h i
theorem IN {T:TypeId} {P:Int->List UInt8->Nat->Prop} {a W d:World} {l:Cp} {b I c:Nat} {L:List (Tr×Value)} {G:Option Nat} {f:Int} {g:Value} (h:Fr T P a l b W I c L d G f g):a.heap.size<=W.heap.size:=by
 obtain⟨i,_,e⟩:=h.s;have:=e.hb;have:=h.hbW;omega
end Go
namespace Go.Proofs.YtipfpohlnhmlpaaGreatDoor
open Go.Proofs.Tryz
open Go.RowKit
theorem RJ (r:Nat) (W:World) (h:r<2):Sem.run prog (Instr.index 90 (.agg #[.string ⟨#[126]⟩,.string ⟨#[33,126]⟩]) (.int .i64 (r:Int))) W = .ok (.string ⟨(G4[r]?.getD []).toArray⟩) W:=by
 obtain rfl | rfl:r=0\/r=1:=by omega
 ·kernel_rfl
 kernel_rfl
theorem TN (r:Nat) (W:World) (h:r<2):Sem.run prog (Instr.index 90 (.agg #[.string ⟨#[43,43]⟩,.string ⟨#[45,45]⟩]) (.int .i64 (r:Int))) W = .ok (.string ⟨(Kz[r]?.getD []).toArray⟩) W:=by
 obtain rfl | rfl:r=0\/r=1:=by omega
 ·kernel_rfl
 kernel_rfl
theorem Vr (r:Nat) (W:World) (h:r<3):Sem.run prog (Instr.index 92 (.agg #[.string ⟨#[33]⟩,.string ⟨#[45]⟩,.string ⟨#[43]⟩]) (.int .i64 (r:Int))) W = .ok (.string ⟨(QJ[r]?.getD []).toArray⟩) W:=by
 obtain rfl | rfl | rfl:r=0\/r=1\/r=2:=by omega
 ·kernel_rfl
 ·kernel_rfl
 kernel_rfl
theorem V4 (r:Nat) (h:r<2):IntKind.i64.wrap (17+(r:Int))=17+(r:Int):=IntWalk.i64_in _ (by omega)
theorem RK (r:Nat) (W:World) (h:r<2):Sem.run prog (Instr.index 90 (.agg #[.string ⟨#[115,117,98]⟩,.string ⟨#[103,115,117,98]⟩]) (.int .i64 (r:Int))) W = .ok (.string ⟨(Js[r]?.getD []).toArray⟩) W:=by
 obtain rfl | rfl:r=0\/r=1:=by omega
 ·kernel_rfl
 kernel_rfl
theorem Wf (r:Nat) (W:World) (h:r<6):Sem.run prog (Instr.index 91 (.agg #[.string ⟨#[116,111,108,111,119,101,114]⟩,.string ⟨#[116,111,117,112,112,101,114]⟩,.string ⟨#[105,110,116]⟩,.string ⟨#[115,113,114,116]⟩,.string ⟨#[101,120,112]⟩,.string ⟨#[99,111,115]⟩]) (.int .i64 (r:Int))) W = .ok (.string ⟨(VT[r]?.getD []).toArray⟩) W:=by
 obtain rfl | rfl | rfl | rfl | rfl | rfl:r=0\/r=1\/r=2\/r=3\/r=4\/r=5:=by omega
 all_goals kernel_rfl
theorem Pe (A:World) (l:Cp) (b I:Nat) (W:World) (hS:CH A l b I W) (hM:Ce A) (Y:l.n<=9223372036854775807) (n c:Nat) (d:Int) (h0:0<=d) (i:d<=n) (hd:d<=1000) (o0:100<=c) (hI:I+4*c+1080<=1099511627776) (hE:MW A l b n c) :
  Calls prog 60 #[.pointer (some ⟨b,0,none⟩),.int .i64 d] W (Ff 60 A0 A l b W I (4*c+80)):=by
 have e0:=aB (Fr.start (T:=60) (P:=A0) 60 hS);have HM:=aB hM;have HE:=aB hE;clear hE;clear hS hM
 go_in
 go_wp2_with fail
 (go_at_call 35;refine(Ar A l b _ 14 _ e0.out.s (by omega) (by omega) (by omega) Y).mono ?_;rintro e w1 ⟨q,hq,rfl,Q,O⟩)
 have v:=aB (e0.out.step (d:=1) Q O);clear Q O;by_cases p0:q=0
 ·have b0:((q:Int)==0)=true:=beq_iff_eq.2 (by omega)
  go_wp2_with fail
  (go_at_call 36;refine(HE.out d _ _ (by omega) (by omega) v.out.s (by omega)).mono ?_;rintro e w2 ⟨B,C,E,S,X,U,D,rfl,i,j,m,o,p⟩)
  have a:=aB (v.out.node (fun _ h=>by cases h) i j m o p);clear i j m o p
  go_wp2_with fail
  (go_at_call 38;refine(As 20 ⟨([108,101,110,103,116,104]:List UInt8).toArray⟩ _ _ _ _).mono ?_;rintro e w3 ⟨rfl,t⟩)
  have y:=a.out.join (L1:=[]) (L2:=[(Tr.mk B C E (0,0) D,aA S X U)]) (cap:=1) (k:=20) (nm:=[108,101,110,103,116,104]) (x:=0) (BN 20 [108,101,110,103,116,104] (by decide) (by decide)) t;have f:Hid (Fr 60 A0 A l b W I _ [(Tr.mk 20 [108,101,110,103,116,104] 0 (0,0) [Tr.mk B C E (0,0) D],aA (some ⟨w2.heap.size,0,none⟩) 1 1)] w3 none 0 (.slice none 0 0)):=y;clear t y;have G:=f.out.r;obtain⟨r0,r1,r2,r3,r4,rf⟩:=G;go_wp2;obtain⟨Z,w,F,u⟩:=f.out.out;rw[<- w];obtain⟨H,J,K,L,M,zf⟩:=F;clear w;exact bodyPost_ret (by simp[results,results60,go_sem,H,J,K,L,M]<;>exact rfl) rfl (u.more (by omega))
 have b0:((q:Int)==0)=false:=beq_eq_false_iff_ne.2 (by omega);by_cases q0:q=1
 ·have b1:((q:Int)==1)=true:=beq_iff_eq.2 (by omega)
  go_wp2_with fail
  (go_at_call 58;refine(BJ A l b _ _ v.out.s (by omega) Y).mono ?_;rintro e w2 ⟨nm,V,rfl,Q,O⟩)
  have a:=aB (v.out.step (d:=2) Q O);have R:=aB V;clear Q O V
  go_wp2_with fail
  (go_at_call 38;refine(As 4 ⟨(nm:List UInt8).toArray⟩ none 0 0 _).mono ?_;rintro e w3 ⟨rfl,t⟩)
  have f:=aB (a.out.leaf (k:=4) (nm:=nm) (x:=0) (BN 4 nm (by decide) R.out) t);clear t
  go_wp2_with fail
  (go_at_call 38;refine(As 20 ⟨([108,101,110,103,116,104]:List UInt8).toArray⟩ _ _ _ _).mono ?_;rintro e w4 ⟨rfl,t⟩)
  have y:=f.out.join (L1:=[]) (L2:=[(Tr.mk 4 nm 0 (0,0) [],aA none 0 0)]) (cap:=1) (k:=20) (nm:=[108,101,110,103,116,104]) (x:=0) (BN 20 [108,101,110,103,116,104] (by decide) (by decide)) t;have g:Hid (Fr 60 A0 A l b W I _ [(Tr.mk 20 [108,101,110,103,116,104] 0 (0,0) [Tr.mk 4 nm 0 (0,0) []],aA (some ⟨w3.heap.size,0,none⟩) 1 1)] w4 none 0 (.slice none 0 0)):=y;clear t y;have G:=g.out.r;obtain⟨r0,r1,r2,r3,r4,rf⟩:=G;go_wp2;obtain⟨Z,w,F,u⟩:=g.out.out;rw[<- w];obtain⟨H,J,K,L,M,zf⟩:=F;clear w;exact bodyPost_ret (by simp[results,results60,go_sem,H,J,K,L,M]<;>exact rfl) rfl (u.more (by omega))
 have b1:((q:Int)==1)=false:=beq_eq_false_iff_ne.2 (by omega);by_cases s0:q=2
 ·have b2:((q:Int)==2)=true:=beq_iff_eq.2 (by omega)
  go_wp2_with fail
  (go_at_call 36;refine(HE.out d _ _ (by omega) (by omega) v.out.s (by omega)).mono ?_;rintro e w2 ⟨B,C,E,S,X,U,D,rfl,i,j,m,o,p⟩)
  have a:=aB (v.out.node (fun _ h=>by cases h) i j m o p);clear i j m o p
  go_wp2_with fail
  (go_at_call 39;refine(Br A l b _ _ a.out.s HM.out (by omega) Y).mono ?_;rintro e w3 ⟨kf,nf,xf,af,lf,cf,sf,rfl,i,j,m,o,p⟩)
  have f:=aB (a.out.node (fun _ h=>by cases h) i j m o p);clear i j m o p
  go_wp2_with fail
  (go_at_call 39;refine(Br A l b _ _ f.out.s HM.out (by omega) Y).mono ?_;rintro e w4 ⟨kg,ng,xg,ag,lg,cg,sg,rfl,i,j,m,o,p⟩)
  have g:=aB (f.out.node (fun _ h=>by cases h) i j m o p);clear i j m o p
  go_wp2_with fail
  (go_at_call 38;refine(As 20 ⟨([115,117,98,115,116,114]:List UInt8).toArray⟩ _ _ _ _).mono ?_;rintro e w5 ⟨rfl,t⟩)
  have y:=g.out.join (L1:=[]) (L2:=[(Tr.mk B C E (0,0) D,aA S X U),(Tr.mk kf nf xf (0,0) sf,aA af lf cf),(Tr.mk kg ng xg (0,0) sg,aA ag lg cg)]) (cap:=3) (k:=20) (nm:=[115,117,98,115,116,114]) (x:=0) (BN 20 [115,117,98,115,116,114] (by decide) (by decide)) t;have z:Hid (Fr 60 A0 A l b W I _ [(Tr.mk 20 [115,117,98,115,116,114] 0 (0,0) [Tr.mk B C E (0,0) D,Tr.mk kf nf xf (0,0) sf,Tr.mk kg ng xg (0,0) sg],aA (some ⟨w4.heap.size,0,none⟩) 3 3)] w5 none 0 (.slice none 0 0)):=y;clear t y;have G:=z.out.r;obtain⟨r0,r1,r2,r3,r4,rf⟩:=G;go_wp2;obtain⟨Z,w,F,u⟩:=z.out.out
  rw[<- w];obtain⟨H,J,K,L,M,zf⟩:=F;clear w;exact bodyPost_ret (by simp[results,results60,go_sem,H,J,K,L,M]<;>exact rfl) rfl (u.more (by omega))
 have b2:((q:Int)==2)=false:=beq_eq_false_iff_ne.2 (by omega);by_cases t0:q=3
 ·have b3:((q:Int)==3)=true:=beq_iff_eq.2 (by omega)
  go_wp2_with fail
  (go_at_call 36;refine(HE.out d _ _ (by omega) (by omega) v.out.s (by omega)).mono ?_;rintro e w2 ⟨B,C,E,S,X,U,D,rfl,i,j,m,o,p⟩)
  have a:=aB (v.out.node (fun _ h=>by cases h) i j m o p);clear i j m o p
  go_wp2_with fail
  (go_at_call 36;refine(HE.out d _ _ (by omega) (by omega) a.out.s (by omega)).mono ?_;rintro e w3 ⟨kf,nf,xf,af,lf,cf,sf,rfl,i,j,m,o,p⟩)
  have f:=aB (a.out.node (fun _ h=>by cases h) i j m o p);clear i j m o p
  go_wp2_with fail
  (go_at_call 38;refine(As 20 ⟨([105,110,100,101,120]:List UInt8).toArray⟩ _ _ _ _).mono ?_;rintro e w4 ⟨rfl,t⟩)
  have y:=f.out.join (L1:=[]) (L2:=[(Tr.mk B C E (0,0) D,aA S X U),(Tr.mk kf nf xf (0,0) sf,aA af lf cf)]) (cap:=2) (k:=20) (nm:=[105,110,100,101,120]) (x:=0) (BN 20 [105,110,100,101,120] (by decide) (by decide)) t;have g:Hid (Fr 60 A0 A l b W I _ [(Tr.mk 20 [105,110,100,101,120] 0 (0,0) [Tr.mk B C E (0,0) D,Tr.mk kf nf xf (0,0) sf],aA (some ⟨w3.heap.size,0,none⟩) 2 2)] w4 none 0 (.slice none 0 0)):=y;clear t y;have G:=g.out.r;obtain⟨r0,r1,r2,r3,r4,rf⟩:=G;go_wp2;obtain⟨Z,w,F,u⟩:=g.out.out;rw[<- w];obtain⟨H,J,K,L,M,zf⟩:=F;clear w;exact bodyPost_ret (by simp[results,results60,go_sem,H,J,K,L,M]<;>exact rfl) rfl (u.more (by omega))
 have b3:((q:Int)==3)=false:=beq_eq_false_iff_ne.2 (by omega);by_cases v0:q=4
 ·have b4:((q:Int)==4)=true:=beq_iff_eq.2 (by omega)
  go_wp2_with fail
  (go_at_call 36;refine(HE.out d _ _ (by omega) (by omega) v.out.s (by omega)).mono ?_;rintro e w2 ⟨B,C,E,S,X,U,D,rfl,i,j,m,o,p⟩)
  have a:=aB (v.out.node (fun _ h=>by cases h) i j m o p);clear i j m o p
  go_wp2_with fail
  (go_at_call 58;refine(BJ A l b _ _ a.out.s (by omega) Y).mono ?_;rintro e w3 ⟨nm,V,rfl,Q,O⟩)
  have f:=aB (a.out.step (d:=2) Q O);have R:=aB V;clear Q O V
  go_wp2_with fail
  (go_at_call 38;refine(As 4 ⟨(nm:List UInt8).toArray⟩ none 0 0 _).mono ?_;rintro e w4 ⟨rfl,t⟩)
  have g:=aB (f.out.leaf (k:=4) (nm:=nm) (x:=0) (BN 4 nm (by decide) R.out) t);clear t
  go_wp2_with fail
  (go_at_call 38;refine(As 20 ⟨([115,112,108,105,116]:List UInt8).toArray⟩ _ _ _ _).mono ?_;rintro e w5 ⟨rfl,t⟩)
  have y:=g.out.join (L1:=[]) (L2:=[(Tr.mk B C E (0,0) D,aA S X U),(Tr.mk 4 nm 0 (0,0) [],aA none 0 0)]) (cap:=2) (k:=20) (nm:=[115,112,108,105,116]) (x:=0) (BN 20 [115,112,108,105,116] (by decide) (by decide)) t;have z:Hid (Fr 60 A0 A l b W I _ [(Tr.mk 20 [115,112,108,105,116] 0 (0,0) [Tr.mk B C E (0,0) D,Tr.mk 4 nm 0 (0,0) []],aA (some ⟨w4.heap.size,0,none⟩) 2 2)] w5 none 0 (.slice none 0 0)):=y;clear t y;have G:=z.out.r;obtain⟨r0,r1,r2,r3,r4,rf⟩:=G;go_wp2;obtain⟨Z,w,F,u⟩:=z.out.out;rw[<- w];obtain⟨H,J,K,L,M,zf⟩:=F;clear w;exact bodyPost_ret (by simp[results,results60,go_sem,H,J,K,L,M]<;>exact rfl) rfl (u.more (by omega))
 have b4:((q:Int)==4)=false:=beq_eq_false_iff_ne.2 (by omega);by_cases x0:q=5
 ·have b5:((q:Int)==5)=true:=beq_iff_eq.2 (by omega)
  go_wp2_with fail
  (go_at_call 36;refine(HE.out d _ _ (by omega) (by omega) v.out.s (by omega)).mono ?_;rintro e w2 ⟨B,C,E,S,X,U,D,rfl,i,j,m,o,p⟩)
  have a:=aB (v.out.node (fun _ h=>by cases h) i j m o p);clear i j m o p
  go_wp2_with fail
  (go_at_call 58;refine(BJ A l b _ _ a.out.s (by omega) Y).mono ?_;rintro e w3 ⟨nm,V,rfl,Q,O⟩)
  have f:=aB (a.out.step (d:=2) Q O);have R:=aB V;clear Q O V
  go_wp2_with fail
  (go_at_call 38;refine(As 4 ⟨(nm:List UInt8).toArray⟩ none 0 0 _).mono ?_;rintro e w4 ⟨rfl,t⟩)
  have g:=aB (f.out.leaf (k:=4) (nm:=nm) (x:=0) (BN 4 nm (by decide) R.out) t);clear t
  go_wp2_with fail
  (go_at_call 59;refine(DY A l b _ _ g.out.s HM.out Y (by omega)).mono ?_;rintro e w5 ⟨kf,nf,xf,af,lf,cf,sf,rfl,i,j,m,o,p⟩)
  have z:=aB (g.out.node (fun _ h=>by cases h) i j m o p);clear i j m o p
  go_wp2_with fail
  (go_at_call 38;refine(As 20 ⟨([115,112,108,105,116]:List UInt8).toArray⟩ _ _ _ _).mono ?_;rintro e w6 ⟨rfl,t⟩)
  have y:=z.out.join (L1:=[]) (L2:=[(Tr.mk B C E (0,0) D,aA S X U),(Tr.mk 4 nm 0 (0,0) [],aA none 0 0),(Tr.mk kf nf xf (0,0) sf,aA af lf cf)]) (cap:=3) (k:=20) (nm:=[115,112,108,105,116]) (x:=0) (BN 20 [115,112,108,105,116] (by decide) (by decide)) t;have a0:Hid (Fr 60 A0 A l b W I _ [(Tr.mk 20 [115,112,108,105,116] 0 (0,0) [Tr.mk B C E (0,0) D,Tr.mk 4 nm 0 (0,0) [],Tr.mk kf nf xf (0,0) sf],aA (some ⟨w5.heap.size,0,none⟩) 3 3)] w6 none 0 (.slice none 0 0)):=y;clear t y;have G:=a0.out.r;obtain⟨r0,r1,r2,r3,r4,rf⟩:=G;go_wp2;obtain⟨Z,w,F,u⟩:=a0.out.out;rw[<- w];obtain⟨H,J,K,L,M,zf⟩:=F
  clear w;exact bodyPost_ret (by simp[results,results60,go_sem,H,J,K,L,M]<;>exact rfl) rfl (u.more (by omega))
 have b5:((q:Int)==5)=false:=beq_eq_false_iff_ne.2 (by omega);by_cases y0:q=6
 ·have b6:((q:Int)==6)=true:=beq_iff_eq.2 (by omega)
  have N:=aB (v.out.drew);have f0:=RK
  go_wp2_with fail
  go_region_held3 (fun _=>True) (trivial)
   (first | (go_at_call 38;have hz:=z;clear hz;refine(As (20) ⟨((Js[r]?.getD []):List UInt8).toArray⟩ _ _ _ _).mono ?_;rintro e w6 ⟨rfl,t⟩;have y:=z.out.join (L1:=[]) (L2:=[(Tr.mk B C E (0,0) D,aA S X U),(Tr.mk kf nf xf (0,0) sf,aA af lf cf),(Tr.mk kg ng xg (0,0) sg,aA ag lg cg)]) (cap:=3) (k:=20) (nm:=(Js[r]?.getD [])) (x:=0) (BN (20) (Js[r]?.getD []) (by decide) (Ck Js (by decide) r)) t;have a0:Hid (Fr 60 A0 A l b W I _ [(Tr.mk (20) (Js[r]?.getD []) 0 (0,0) [Tr.mk B C E (0,0) D,Tr.mk kf nf xf (0,0) sf,Tr.mk kg ng xg (0,0) sg],aA (some ⟨w5.heap.size,0,none⟩) 3 3)] w6 none 0 (.slice none 0 0)):=y;clear t y;have G:=a0.out.r;obtain⟨r0,r1,r2,r3,r4,rf⟩:=G) | (go_at_call 57;refine(D8 A l b _ _ g.out.s HM.out Y n c d (by omega) (by omega) (by omega) (by omega) HE.out).mono ?_;rintro e w5 ⟨kg,ng,xg,ag,lg,cg,sg,rfl,i,j,m,o,p⟩;have z:=aB (g.out.node (fun _ h=>by cases h) i j m o p);clear i j m o p) | (go_at_call 39;refine(Br A l b _ _ f.out.s HM.out (by omega) Y).mono ?_;rintro e w4 ⟨kf,nf,xf,af,lf,cf,sf,rfl,i,j,m,o,p⟩;have g:=aB (f.out.node (fun _ h=>by cases h) i j m o p);clear i j m o p) | (go_at_call 59;refine(DY A l b _ _ a.out.s HM.out Y (by omega)).mono ?_;rintro e w3 ⟨B,C,E,S,X,U,D,rfl,i,j,m,o,p⟩;have f:=aB (a.out.node (fun _ h=>by cases h) i j m o p);clear i j m o p) | (go_at_call 35;refine(Ar A l b _ 2 _ N.out.s (by omega) (by omega) (by omega) Y).mono ?_;rintro e w2 ⟨r,hr,rfl,Q,O⟩;have a:=aB (N.out.step (d:=1) Q O);have c0:(0:Int)<=(r:Int):=aC _;have g0:r<2:=aD.1 hr;clear Q O))
  all_goals
   go_wp2;obtain⟨Z,w,F,u⟩:=a0.out.out;rw[<- w];obtain⟨H,J,K,L,M,zf⟩:=F;clear w;exact bodyPost_ret (by simp[results,results60,go_sem,H,J,K,L,M]<;>exact rfl) rfl (u.more (by omega))
 have b6:((q:Int)==6)=false:=beq_eq_false_iff_ne.2 (by omega);by_cases a1:q=7
 ·have b7:((q:Int)==7)=true:=beq_iff_eq.2 (by omega)
  have N:=aB (v.out.drew);have f0:=RK
  go_wp2_with fail
  go_region_held3 (fun _=>True) (trivial)
   (first | (go_at_call 38;have hz:=g;clear hz;refine(As (20) ⟨((Js[r]?.getD []):List UInt8).toArray⟩ _ _ _ _).mono ?_;rintro e w5 ⟨rfl,t⟩;have y:=g.out.join (L1:=[]) (L2:=[(Tr.mk B C E (0,0) D,aA S X U),(Tr.mk 2 [60,38,62] 0 (0,0) [],aA none 0 0)]) (cap:=2) (k:=20) (nm:=(Js[r]?.getD [])) (x:=0) (BN (20) (Js[r]?.getD []) (by decide) (Ck Js (by decide) r)) t;have z:Hid (Fr 60 A0 A l b W I _ [(Tr.mk (20) (Js[r]?.getD []) 0 (0,0) [Tr.mk B C E (0,0) D,Tr.mk 2 [60,38,62] 0 (0,0) []],aA (some ⟨w4.heap.size,0,none⟩) 2 2)] w5 none 0 (.slice none 0 0)):=y;clear t y;have G:=z.out.r;obtain⟨r0,r1,r2,r3,r4,rf⟩:=G) | (go_at_call 38;refine(As 2 ⟨([60,38,62]:List UInt8).toArray⟩ none 0 0 _).mono ?_;rintro e w4 ⟨rfl,t⟩;have g:=aB (f.out.leaf (k:=2) (nm:=[60,38,62]) (x:=0) (BN 2 [60,38,62] (by decide) (by decide)) t);clear t) | (go_at_call 59;refine(DY A l b _ _ a.out.s HM.out Y (by omega)).mono ?_;rintro e w3 ⟨B,C,E,S,X,U,D,rfl,i,j,m,o,p⟩;have f:=aB (a.out.node (fun _ h=>by cases h) i j m o p);clear i j m o p) | (go_at_call 35;refine(Ar A l b _ 2 _ N.out.s (by omega) (by omega) (by omega) Y).mono ?_;rintro e w2 ⟨r,hr,rfl,Q,O⟩;have a:=aB (N.out.step (d:=1) Q O);have c0:(0:Int)<=(r:Int):=aC _;have g0:r<2:=aD.1 hr;clear Q O))
  all_goals
   go_wp2;obtain⟨Z,w,F,u⟩:=z.out.out;rw[<- w];obtain⟨H,J,K,L,M,zf⟩:=F;clear w;exact bodyPost_ret (by simp[results,results60,go_sem,H,J,K,L,M]<;>exact rfl) rfl (u.more (by omega))
 have b7:((q:Int)==7)=false:=beq_eq_false_iff_ne.2 (by omega);by_cases c1:q=8
 ·have b8:((q:Int)==8)=true:=beq_iff_eq.2 (by omega)
  go_wp2_with fail
  (go_at_call 36;refine(HE.out d _ _ (by omega) (by omega) v.out.s (by omega)).mono ?_;rintro e w2 ⟨B,C,E,S,X,U,D,rfl,i,j,m,o,p⟩)
  have a:=aB (v.out.node (fun _ h=>by cases h) i j m o p);clear i j m o p
  go_wp2_with fail
  (go_at_call 59;refine(DY A l b _ _ a.out.s HM.out Y (by omega)).mono ?_;rintro e w3 ⟨kf,nf,xf,af,lf,cf,sf,rfl,i,j,m,o,p⟩)
  have f:=aB (a.out.node (fun _ h=>by cases h) i j m o p);clear i j m o p
  go_wp2_with fail
  (go_at_call 38;refine(As 20 ⟨([109,97,116,99,104]:List UInt8).toArray⟩ _ _ _ _).mono ?_;rintro e w4 ⟨rfl,t⟩)
  have y:=f.out.join (L1:=[]) (L2:=[(Tr.mk B C E (0,0) D,aA S X U),(Tr.mk kf nf xf (0,0) sf,aA af lf cf)]) (cap:=2) (k:=20) (nm:=[109,97,116,99,104]) (x:=0) (BN 20 [109,97,116,99,104] (by decide) (by decide)) t;have g:Hid (Fr 60 A0 A l b W I _ [(Tr.mk 20 [109,97,116,99,104] 0 (0,0) [Tr.mk B C E (0,0) D,Tr.mk kf nf xf (0,0) sf],aA (some ⟨w3.heap.size,0,none⟩) 2 2)] w4 none 0 (.slice none 0 0)):=y;clear t y;have G:=g.out.r;obtain⟨r0,r1,r2,r3,r4,rf⟩:=G;go_wp2;obtain⟨Z,w,F,u⟩:=g.out.out;rw[<- w];obtain⟨H,J,K,L,M,zf⟩:=F;clear w;exact bodyPost_ret (by simp[results,results60,go_sem,H,J,K,L,M]<;>exact rfl) rfl (u.more (by omega))
 have b8:((q:Int)==8)=false:=beq_eq_false_iff_ne.2 (by omega);by_cases d1:q=9
 ·have b9:((q:Int)==9)=true:=beq_iff_eq.2 (by omega)
  go_wp2_with fail
  (go_at_call 38;refine(As 2 ⟨([37,100,124,37,115,124,37,99,124,37,53,46,50,102]:List UInt8).toArray⟩ none 0 0 _).mono ?_;rintro e w2 ⟨rfl,t⟩)
  have a:=aB (v.out.leaf (k:=2) (nm:=[37,100,124,37,115,124,37,99,124,37,53,46,50,102]) (x:=0) (BN 2 [37,100,124,37,115,124,37,99,124,37,53,46,50,102] (by decide) (by decide)) t);clear t
  go_wp2_with fail
  (go_at_call 36;refine(HE.out d _ _ (by omega) (by omega) a.out.s (by omega)).mono ?_;rintro e w3 ⟨B,C,E,S,X,U,D,rfl,i,j,m,o,p⟩)
  have f:=aB (a.out.node (fun _ h=>by cases h) i j m o p);clear i j m o p
  go_wp2_with fail
  (go_at_call 36;refine(HE.out d _ _ (by omega) (by omega) f.out.s (by omega)).mono ?_;rintro e w4 ⟨kf,nf,xf,af,lf,cf,sf,rfl,i,j,m,o,p⟩)
  have g:=aB (f.out.node (fun _ h=>by cases h) i j m o p);clear i j m o p
  go_wp2_with fail
  (go_at_call 39;refine(Br A l b _ _ g.out.s HM.out (by omega) Y).mono ?_;rintro e w5 ⟨kg,ng,xg,ag,lg,cg,sg,rfl,i,j,m,o,p⟩)
  have z:=aB (g.out.node (fun _ h=>by cases h) i j m o p);clear i j m o p
  go_wp2_with fail
  (go_at_call 38;refine(As 20 ⟨([115,112,114,105,110,116,102]:List UInt8).toArray⟩ _ _ _ _).mono ?_;rintro e w6 ⟨rfl,t⟩)
  have y:=z.out.join (L1:=[]) (L2:=[(Tr.mk 2 [37,100,124,37,115,124,37,99,124,37,53,46,50,102] 0 (0,0) [],aA none 0 0),(Tr.mk B C E (0,0) D,aA S X U),(Tr.mk kf nf xf (0,0) sf,aA af lf cf),(Tr.mk kg ng xg (0,0) sg,aA ag lg cg)]) (cap:=4) (k:=20) (nm:=[115,112,114,105,110,116,102]) (x:=0) (BN 20 [115,112,114,105,110,116,102] (by decide) (by decide)) t;have a0:Hid (Fr 60 A0 A l b W I _ [(Tr.mk 20 [115,112,114,105,110,116,102] 0 (0,0) [Tr.mk 2 [37,100,124,37,115,124,37,99,124,37,53,46,50,102] 0 (0,0) [],Tr.mk B C E (0,0) D,Tr.mk kf nf xf (0,0) sf,Tr.mk kg ng xg (0,0) sg],aA (some ⟨w5.heap.size,0,none⟩) 4 4)] w6 none 0 (.slice none 0 0)):=y
  clear t y;have G:=a0.out.r;obtain⟨r0,r1,r2,r3,r4,rf⟩:=G;go_wp2;obtain⟨Z,w,F,u⟩:=a0.out.out;rw[<- w];obtain⟨H,J,K,L,M,zf⟩:=F;clear w;exact bodyPost_ret (by simp[results,results60,go_sem,H,J,K,L,M]<;>exact rfl) rfl (u.more (by omega))
 have b9:((q:Int)==9)=false:=beq_eq_false_iff_ne.2 (by omega);by_cases l0:q=10
 ·have i0:((q:Int)==10)=true:=beq_iff_eq.2 (by omega)
  have N:=aB (v.out.drew);have f0:=Wf
  go_wp2_with fail
  go_region_held3 (fun _=>True) (trivial)
   (first | (go_at_call 38;have hz:=f;clear hz;refine(As (20) ⟨((VT[r]?.getD []):List UInt8).toArray⟩ _ _ _ _).mono ?_;rintro e w4 ⟨rfl,t⟩;have y:=f.out.join (L1:=[]) (L2:=[(Tr.mk B C E (0,0) D,aA S X U)]) (cap:=1) (k:=20) (nm:=(VT[r]?.getD [])) (x:=0) (BN (20) (VT[r]?.getD []) (by decide) (Ck VT (by decide) r)) t;have g:Hid (Fr 60 A0 A l b W I _ [(Tr.mk (20) (VT[r]?.getD []) 0 (0,0) [Tr.mk B C E (0,0) D],aA (some ⟨w3.heap.size,0,none⟩) 1 1)] w4 none 0 (.slice none 0 0)):=y;clear t y;have G:=g.out.r;obtain⟨r0,r1,r2,r3,r4,rf⟩:=G) | (go_at_call 36;refine(HE.out d _ _ (by omega) (by omega) a.out.s (by omega)).mono ?_;rintro e w3 ⟨B,C,E,S,X,U,D,rfl,i,j,m,o,p⟩;have f:=aB (a.out.node (fun _ h=>by cases h) i j m o p);clear i j m o p) | (go_at_call 35;refine(Ar A l b _ 6 _ N.out.s (by omega) (by omega) (by omega) Y).mono ?_;rintro e w2 ⟨r,hr,rfl,Q,O⟩;have a:=aB (N.out.step (d:=1) Q O);have c0:(0:Int)<=(r:Int):=aC _;have g0:r<6:=aD.1 hr;clear Q O))
  all_goals
   go_wp2;obtain⟨Z,w,F,u⟩:=g.out.out;rw[<- w];obtain⟨H,J,K,L,M,zf⟩:=F;clear w;exact bodyPost_ret (by simp[results,results60,go_sem,H,J,K,L,M]<;>exact rfl) rfl (u.more (by omega))
 have i0:((q:Int)==10)=false:=beq_eq_false_iff_ne.2 (by omega);by_cases m0:q=11
 ·have j0:((q:Int)==11)=true:=beq_iff_eq.2 (by omega)
  go_wp2_with fail
  (go_at_call 35;refine(Ar A l b _ 2 _ v.out.s (by omega) (by omega) (by omega) Y).mono ?_;rintro e w2 ⟨r,hr,rfl,Q,O⟩)
  have a:=aB (v.out.step (d:=1) Q O);clear Q O;by_cases c0:r=0
  ·have d0:((r:Int)==0)=true:=beq_iff_eq.2 (by omega)
   go_wp2_with fail
   (go_at_call 39;refine(Br A l b _ _ a.out.s HM.out (by omega) Y).mono ?_;rintro e w3 ⟨B,C,E,S,X,U,D,rfl,i,j,m,o,p⟩)
   have f:=aB (a.out.node (fun _ h=>by cases h) i j m o p);clear i j m o p
   go_wp2_with fail
   (go_at_call 38;refine(As 20 ⟨([115,114,97,110,100]:List UInt8).toArray⟩ _ _ _ _).mono ?_;rintro e w4 ⟨rfl,t⟩)
   have y:=f.out.join (L1:=[]) (L2:=[(Tr.mk B C E (0,0) D,aA S X U)]) (cap:=1) (k:=20) (nm:=[115,114,97,110,100]) (x:=0) (BN 20 [115,114,97,110,100] (by decide) (by decide)) t;have g:Hid (Fr 60 A0 A l b W I _ [(Tr.mk 20 [115,114,97,110,100] 0 (0,0) [Tr.mk B C E (0,0) D],aA (some ⟨w3.heap.size,0,none⟩) 1 1)] w4 none 0 (.slice none 0 0)):=y;clear t y;have G:=g.out.r;obtain⟨r0,r1,r2,r3,r4,rf⟩:=G;go_wp2;obtain⟨Z,w,F,u⟩:=g.out.out;rw[<- w];obtain⟨H,J,K,L,M,zf⟩:=F;clear w;exact bodyPost_ret (by simp[results,results60,go_sem,H,J,K,L,M]<;>exact rfl) rfl (u.more (by omega))
  have d0:((r:Int)==0)=false:=beq_eq_false_iff_ne.2 (by omega)
  go_wp2_with fail
  (go_at_call 38;refine(As 20 ⟨([114,97,110,100]:List UInt8).toArray⟩ none 0 0 _).mono ?_;rintro e w3 ⟨rfl,t⟩)
  have f:=aB (a.out.leaf (k:=20) (nm:=[114,97,110,100]) (x:=0) (BN 20 [114,97,110,100] (by decide) (by decide)) t);clear t;have G:=f.out.r;obtain⟨r0,r1,r2,r3,r4,rf⟩:=G;go_wp2;obtain⟨Z,w,F,u⟩:=f.out.out;rw[<- w];obtain⟨H,J,K,L,M,zf⟩:=F;clear w;exact bodyPost_ret (by simp[results,results60,go_sem,H,J,K,L,M]<;>exact rfl) rfl (u.more (by omega))
 have j0:((q:Int)==11)=false:=beq_eq_false_iff_ne.2 (by omega);by_cases n0:q=12
 ·have k0:((q:Int)==12)=true:=beq_iff_eq.2 (by omega)
  go_wp2_with fail
  (go_at_call 58;refine(BJ A l b _ _ v.out.s (by omega) Y).mono ?_;rintro e w2 ⟨nm,V,rfl,Q,O⟩)
  have a:=aB (v.out.step (d:=2) Q O);have R:=aB V;clear Q O V
  go_wp2_with fail
  (go_at_call 38;refine(As 4 ⟨(nm:List UInt8).toArray⟩ none 0 0 _).mono ?_;rintro e w3 ⟨rfl,t⟩)
  have f:=aB (a.out.leaf (k:=4) (nm:=nm) (x:=0) (BN 4 nm (by decide) R.out) t);clear t
  go_wp2_with fail
  (go_at_call 39;refine(Br A l b _ _ f.out.s HM.out (by omega) Y).mono ?_;rintro e w4 ⟨B,C,E,S,X,U,D,rfl,i,j,m,o,p⟩)
  have g:=aB (f.out.node (fun _ h=>by cases h) i j m o p);clear i j m o p
  go_wp2_with fail
  (go_at_call 38;refine(As 20 ⟨([101,120,112,105,114,101]:List UInt8).toArray⟩ _ _ _ _).mono ?_;rintro e w5 ⟨rfl,t⟩)
  have y:=g.out.join (L1:=[]) (L2:=[(Tr.mk 4 nm 0 (0,0) [],aA none 0 0),(Tr.mk B C E (0,0) D,aA S X U)]) (cap:=2) (k:=20) (nm:=[101,120,112,105,114,101]) (x:=0) (BN 20 [101,120,112,105,114,101] (by decide) (by decide)) t;have z:Hid (Fr 60 A0 A l b W I _ [(Tr.mk 20 [101,120,112,105,114,101] 0 (0,0) [Tr.mk 4 nm 0 (0,0) [],Tr.mk B C E (0,0) D],aA (some ⟨w4.heap.size,0,none⟩) 2 2)] w5 none 0 (.slice none 0 0)):=y;clear t y;have G:=z.out.r;obtain⟨r0,r1,r2,r3,r4,rf⟩:=G;go_wp2;obtain⟨Z,w,F,u⟩:=z.out.out;rw[<- w];obtain⟨H,J,K,L,M,zf⟩:=F;clear w;exact bodyPost_ret (by simp[results,results60,go_sem,H,J,K,L,M]<;>exact rfl) rfl (u.more (by omega))
 have k0:((q:Int)==12)=false:=beq_eq_false_iff_ne.2 (by omega)
 go_wp2_with fail
 (go_at_call 38;refine(As 20 ⟨([108,101,110,103,116,104]:List UInt8).toArray⟩ none 0 0 _).mono ?_;rintro e w2 ⟨rfl,t⟩)
 have a:=aB (v.out.leaf (k:=20) (nm:=[108,101,110,103,116,104]) (x:=0) (BN 20 [108,101,110,103,116,104] (by decide) (by decide)) t);clear t;have G:=a.out.r;obtain⟨r0,r1,r2,r3,r4,rf⟩:=G;go_wp2;obtain⟨Z,w,F,u⟩:=a.out.out;rw[<- w];obtain⟨H,J,K,L,M,zf⟩:=F;clear w;exact bodyPost_ret (by simp[results,results60,go_sem,H,J,K,L,M]<;>exact rfl) rfl (u.more (by omega))
end Go.Proofs.YtipfpohlnhmlpaaGreatDoor
