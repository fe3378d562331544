/- Mi Mk -/
import Derived.Test.YtipfpohlnhmlpaaGreatDoorMh
import Derived.Deep.RegionLaw
import Derived.Deep.AppendLies
set_option maxRecDepth 100000
set_option maxHeartbeats 8000000
open Go.Lib renaming hid->aA
open Go.Value renaming slice->aB,int->aH
open List renaming length_append->aC
open Nat renaming mul_le_mul_right->aD,le_refl->aE,add_mul->aG
open Go.RowKit.Below renaming refl->aF
namespace Go.Proofs.YtipfpohlnhmlpaaGreatDoor
open Go.Proofs.Tryz
open Go.RowKit
theorem D6 (H:World) (l:Cp) (b I:Nat) (W:World) (hS:CH H l b I W) (hM:Ce H) (hn:l.n<=9223372036854775807) (n c:Nat) (d:Int) (h0:0<=d) (t:d<=n) (hd:d<=1000) (q0:100<=c) (hI:I+4*c+1080<=1099511627776) (hE:MW H l b n c) :
  Calls prog 80 #[.pointer (some ⟨b,0,none⟩),.int .i64 d] W (Ff 60 A0 H l b W I (3*c+40)):=by
 have a0:=aA (Fr.start (T:=60) (P:=A0) 60 hS);have HM:=aA hM;have HE:=aA hE;clear hE;obtain⟨i0,k0,l0,m0,n0⟩:=info_parts A.infoNd;clear hS hM
 go_in
 go_wp2_with fail
 (go_at_call 35;refine(Ar H l b _ 8 _ a0.out.s (by omega) (by omega) (by omega) hn).mono ?_;rintro e w1 ⟨q,hq,rfl,C,B⟩)
 have m:=aA (a0.out.step (d:=1) C B);clear C B;by_cases s0:q=0
 ·have b0:((q:Int)==0)=true:=beq_iff_eq.2 (by omega)
  go_wp2_with fail
  (go_at_call 35;refine(Ar H l b _ 4 _ m.out.s (by omega) (by omega) (by omega) hn).mono ?_;rintro e w2 ⟨r,hr,rfl,C,B⟩)
  have j:=aA (m.out.step (d:=1) C B);clear C B;have f0:=aA (DA.start j.out);clear a0 m j
  go_wp2_with fail
  go_loopg [5,6] r (fun g lv i wr=>∃R:List (Tr×Value),i = .int .i64 g/\g<=r/\R.length+g=r/\Hid (DA 60 A0 H l b W I (2+R.length*c) [] R [] lv wr 0 (.slice none 0 0)))
  case atStart=>exact⟨[],rfl,aE _,by simp,by simpa using f0⟩
  obtain⟨R,rfl,hg,p0,N⟩:=hrel;have o0:R.length*c<=3*c:=aD c (by omega);by_cases hp:0<gk
  ·go_wp2_with fail
   (go_at_call 36;refine(HE.out d _ _ (by omega) (by omega) N.out.f.s (by omega)).mono ?_;rintro e w4 ⟨D,E,G,J,M,K,F,rfl,t,u,v,w,y⟩)
   have p:=aA (N.out.node t u v w y);clear t u v w y
   go_wp2_with (at_builtin;refine Bg _ rfl (.tmp 19) (.tmp 23) 58 rfl (W.heap.size+1) 60 i0 _ 5 72 underlying58 k0 l0 m0 n0 rfl (by decide) _ _ _ rfl (p.out.alloc _).row ⟨w4.heap.size,0,none⟩ 1 1 (Ah [(Tr.mk D E G (0,0) F,aB J M K)]) rfl rfl (CE _ _ _) (B7 _ _ _ _) (by unfold maxLen;omega) (by omega) (by have:=p.out.f.size;simp;omega) (by decide) ?_;intro v5 w5 o1 o2 o3;have L:=p.out.grow o1 o2 o3;have g0:=aA L;clear o1 o2 o3 L)
   go_roundg (gk-1)
   case measure=>omega
   case rel=>exact⟨R++[(Tr.mk D E G (0,0) F,aB J M K)],congrArg (aH .i64) (by omega),by omega,by rw[aC];show R.length+1+(gk-1)=r;omega,by
    have e:2+R.length*c+c=2+(R++[(Tr.mk D E G (0,0) F,aB J M K)]).length*c:=by rw[aC,aG];show _=2+(R.length*c+1*c);omega
    rw[<- e];exact g0⟩
  obtain⟨va,vn,vc,rfl⟩:=CO N.out.row;have a:=aA (N.out.join (k:=42) (nm:=[]) (x:=0) (BN 42 [] (by decide) (by decide)) (aF _ _));have U:=a.out.r;obtain⟨r0,r1,r2,r3,r4,rf⟩:=U;go_wp2;obtain⟨Z,z,S,o⟩:=a.out.out;rw[<- z];obtain⟨V,X,Y,z3,z4,zf⟩:=S;clear z;exact bodyPost_ret (by simp[results,results80,go_sem,V,X,Y,z3,z4]<;>exact rfl) rfl (o.more (by omega))
 have b0:((q:Int)==0)=false:=beq_eq_false_iff_ne.2 (by omega);by_cases t0:q=1
 ·have b1:((q:Int)==1)=true:=beq_iff_eq.2 (by omega)
  go_wp2_with fail
  (go_at_call 35;refine(Ar H l b _ 4 _ m.out.s (by omega) (by omega) (by omega) hn).mono ?_;rintro e w2 ⟨r,hr,rfl,C,B⟩)
  have j:=aA (m.out.step (d:=1) C B);clear C B;have f0:=aA (DA.start j.out);clear a0 m j
  go_wp2_with fail
  go_loopg [5,6] r (fun g lv i wr=>∃R:List (Tr×Value),i = .int .i64 g/\g<=r/\R.length+g=r/\Hid (DA 60 A0 H l b W I (2+R.length*c) [] R [] lv wr 0 (.slice none 0 0)))
  case atStart=>exact⟨[],rfl,aE _,by simp,by simpa using f0⟩
  obtain⟨R,rfl,hg,p0,N⟩:=hrel;have o0:R.length*c<=3*c:=aD c (by omega);by_cases hp:0<gk
  ·go_wp2_with fail
   (go_at_call 36;refine(HE.out d _ _ (by omega) (by omega) N.out.f.s (by omega)).mono ?_;rintro e w4 ⟨D,E,G,J,M,K,F,rfl,t,u,v,w,y⟩)
   have p:=aA (N.out.node t u v w y);clear t u v w y
   go_wp2_with (at_builtin;refine Bg _ rfl (.tmp 19) (.tmp 23) 58 rfl (W.heap.size+1) 60 i0 _ 5 72 underlying58 k0 l0 m0 n0 rfl (by decide) _ _ _ rfl (p.out.alloc _).row ⟨w4.heap.size,0,none⟩ 1 1 (Ah [(Tr.mk D E G (0,0) F,aB J M K)]) rfl rfl (CE _ _ _) (B7 _ _ _ _) (by unfold maxLen;omega) (by omega) (by have:=p.out.f.size;simp;omega) (by decide) ?_;intro v5 w5 o1 o2 o3;have L:=p.out.grow o1 o2 o3;have g0:=aA L;clear o1 o2 o3 L)
   go_roundg (gk-1)
   case measure=>omega
   case rel=>exact⟨R++[(Tr.mk D E G (0,0) F,aB J M K)],congrArg (aH .i64) (by omega),by omega,by rw[aC];show R.length+1+(gk-1)=r;omega,by
    have e:2+R.length*c+c=2+(R++[(Tr.mk D E G (0,0) F,aB J M K)]).length*c:=by rw[aC,aG];show _=2+(R.length*c+1*c);omega
    rw[<- e];exact g0⟩
  obtain⟨va,vn,vc,rfl⟩:=CO N.out.row;have a:=aA (N.out.join (k:=42) (nm:=[]) (x:=0) (BN 42 [] (by decide) (by decide)) (aF _ _));have U:=a.out.r;obtain⟨r0,r1,r2,r3,r4,rf⟩:=U;go_wp2;obtain⟨Z,z,S,o⟩:=a.out.out;rw[<- z];obtain⟨V,X,Y,z3,z4,zf⟩:=S;clear z;exact bodyPost_ret (by simp[results,results80,go_sem,V,X,Y,z3,z4]<;>exact rfl) rfl (o.more (by omega))
 have b1:((q:Int)==1)=false:=beq_eq_false_iff_ne.2 (by omega);by_cases v0:q=2
 ·have b2:((q:Int)==2)=true:=beq_iff_eq.2 (by omega)
  go_wp2_with fail
  (go_at_call 35;refine(Ar H l b _ 4 _ m.out.s (by omega) (by omega) (by omega) hn).mono ?_;rintro e w2 ⟨r,hr,rfl,C,B⟩)
  have j:=aA (m.out.step (d:=1) C B);clear C B;have f0:=aA (DA.start j.out);clear a0 m j
  go_wp2_with fail
  go_loopg [5,6] r (fun g lv i wr=>∃R:List (Tr×Value),i = .int .i64 g/\g<=r/\R.length+g=r/\Hid (DA 60 A0 H l b W I (2+R.length*c) [] R [] lv wr 0 (.slice none 0 0)))
  case atStart=>exact⟨[],rfl,aE _,by simp,by simpa using f0⟩
  obtain⟨R,rfl,hg,p0,N⟩:=hrel;have o0:R.length*c<=3*c:=aD c (by omega);by_cases hp:0<gk
  ·go_wp2_with fail
   (go_at_call 36;refine(HE.out d _ _ (by omega) (by omega) N.out.f.s (by omega)).mono ?_;rintro e w4 ⟨D,E,G,J,M,K,F,rfl,t,u,v,w,y⟩)
   have p:=aA (N.out.node t u v w y);clear t u v w y
   go_wp2_with (at_builtin;refine Bg _ rfl (.tmp 19) (.tmp 23) 58 rfl (W.heap.size+1) 60 i0 _ 5 72 underlying58 k0 l0 m0 n0 rfl (by decide) _ _ _ rfl (p.out.alloc _).row ⟨w4.heap.size,0,none⟩ 1 1 (Ah [(Tr.mk D E G (0,0) F,aB J M K)]) rfl rfl (CE _ _ _) (B7 _ _ _ _) (by unfold maxLen;omega) (by omega) (by have:=p.out.f.size;simp;omega) (by decide) ?_;intro v5 w5 o1 o2 o3;have L:=p.out.grow o1 o2 o3;have g0:=aA L;clear o1 o2 o3 L)
   go_roundg (gk-1)
   case measure=>omega
   case rel=>exact⟨R++[(Tr.mk D E G (0,0) F,aB J M K)],congrArg (aH .i64) (by omega),by omega,by rw[aC];show R.length+1+(gk-1)=r;omega,by
    have e:2+R.length*c+c=2+(R++[(Tr.mk D E G (0,0) F,aB J M K)]).length*c:=by rw[aC,aG];show _=2+(R.length*c+1*c);omega
    rw[<- e];exact g0⟩
  obtain⟨va,vn,vc,rfl⟩:=CO N.out.row;have a:=aA (N.out.join (k:=42) (nm:=[]) (x:=0) (BN 42 [] (by decide) (by decide)) (aF _ _));have U:=a.out.r;obtain⟨r0,r1,r2,r3,r4,rf⟩:=U;go_wp2;obtain⟨Z,z,S,o⟩:=a.out.out;rw[<- z];obtain⟨V,X,Y,z3,z4,zf⟩:=S;clear z;exact bodyPost_ret (by simp[results,results80,go_sem,V,X,Y,z3,z4]<;>exact rfl) rfl (o.more (by omega))
 have b2:((q:Int)==2)=false:=beq_eq_false_iff_ne.2 (by omega);by_cases x0:q=3
 ·have b3:((q:Int)==3)=true:=beq_iff_eq.2 (by omega)
  go_wp2_with fail
  (go_at_call 38;refine(As 2 ⟨([37,115,32,37,100,10]:List UInt8).toArray⟩ none 0 0 _).mono ?_;rintro e w2 ⟨rfl,O⟩)
  have j:=aA (m.out.leaf (k:=2) (nm:=[37,115,32,37,100,10]) (x:=0) (BN 2 [37,115,32,37,100,10] (by decide) (by decide)) O);clear O
  go_wp2_with fail
  (go_at_call 36;refine(HE.out d _ _ (by omega) (by omega) j.out.s (by omega)).mono ?_;rintro e w3 ⟨D,E,G,J,M,K,F,rfl,t,u,v,w,y⟩)
  have a:=aA (j.out.node (fun _ h=>by cases h) t u v w y);clear t u v w y
  go_wp2_with fail
  (go_at_call 39;refine(Br H l b _ _ a.out.s HM.out (by omega) hn).mono ?_;rintro e w4 ⟨kf,nf,xf,af,lf,cf,sf,rfl,t,u,v,w,y⟩)
  have Q:=aA (a.out.node (fun _ h=>by cases h) t u v w y);clear t u v w y
  go_wp2_with fail
  (go_at_call 38;refine(As 43 ⟨([]:List UInt8).toArray⟩ _ _ _ _).mono ?_;rintro e w5 ⟨rfl,O⟩)
  have hj:=Q.out.join (L1:=[]) (L2:=[(Tr.mk 2 [37,115,32,37,100,10] 0 (0,0) [],aB none 0 0),(Tr.mk D E G (0,0) F,aB J M K),(Tr.mk kf nf xf (0,0) sf,aB af lf cf)]) (cap:=3) (k:=43) (nm:=[]) (x:=0) (BN 43 [] (by decide) (by decide)) O;have c0:Hid (Fr 60 A0 H l b W I _ [(Tr.mk 43 [] 0 (0,0) [Tr.mk 2 [37,115,32,37,100,10] 0 (0,0) [],Tr.mk D E G (0,0) F,Tr.mk kf nf xf (0,0) sf],aB (some ⟨w4.heap.size,0,none⟩) 3 3)] w5 none 0 (.slice none 0 0)):=hj;clear O hj;have U:=c0.out.r;obtain⟨r0,r1,r2,r3,r4,rf⟩:=U;go_wp2;obtain⟨Z,z,S,o⟩:=c0.out.out;rw[<- z];obtain⟨V,X,Y,z3,z4,zf⟩:=S
  clear z;exact bodyPost_ret (by simp[results,results80,go_sem,V,X,Y,z3,z4]<;>exact rfl) rfl (o.more (by omega))
 have b3:((q:Int)==3)=false:=beq_eq_false_iff_ne.2 (by omega);by_cases y0:q=4
 ·have b4:((q:Int)==4)=true:=beq_iff_eq.2 (by omega)
  go_wp2_with fail
  (go_at_call 35;refine(Ar H l b _ 2 _ m.out.s (by omega) (by omega) (by omega) hn).mono ?_;rintro e w2 ⟨r,hr,rfl,C,B⟩)
  have j:=aA (m.out.step (d:=1) C B);clear C B;by_cases a1:r=0
  ·have d0:((r:Int)==0)=true:=beq_iff_eq.2 (by omega)
   go_wp2_with fail
   (go_at_call 58;refine(BJ H l b _ _ j.out.s (by omega) hn).mono ?_;rintro e w3 ⟨nm,j0,rfl,C,B⟩)
   have a:=aA (j.out.step (d:=2) C B);have e0:=aA j0;clear C B j0
   go_wp2_with fail
   (go_at_call 38;refine(As 41 ⟨(nm:List UInt8).toArray⟩ none 0 0 _).mono ?_;rintro e w4 ⟨rfl,O⟩)
   have Q:=aA (a.out.leaf (k:=41) (nm:=nm) (x:=0) (BN 41 nm (by decide) e0.out) O);clear O;have U:=Q.out.r;obtain⟨r0,r1,r2,r3,r4,rf⟩:=U;go_wp2;obtain⟨Z,z,S,o⟩:=Q.out.out;rw[<- z];obtain⟨V,X,Y,z3,z4,zf⟩:=S;clear z;exact bodyPost_ret (by simp[results,results80,go_sem,V,X,Y,z3,z4]<;>exact rfl) rfl (o.more (by omega))
  have d0:((r:Int)==0)=false:=beq_eq_false_iff_ne.2 (by omega)
  go_wp2_with fail
  (go_at_call 58;refine(BJ H l b _ _ j.out.s (by omega) hn).mono ?_;rintro e w3 ⟨nm,j0,rfl,C,B⟩)
  have a:=aA (j.out.step (d:=2) C B);have e0:=aA j0;clear C B j0
  go_wp2_with fail
  (go_at_call 36;refine(HE.out d _ _ (by omega) (by omega) a.out.s (by omega)).mono ?_;rintro e w4 ⟨D,E,G,J,M,K,F,rfl,t,u,v,w,y⟩)
  have Q:=aA (a.out.node (fun _ h=>by cases h) t u v w y);clear t u v w y
  go_wp2_with fail
  (go_at_call 38;refine(As 41 ⟨(nm:List UInt8).toArray⟩ _ _ _ _).mono ?_;rintro e w5 ⟨rfl,O⟩)
  have hj:=Q.out.join (L1:=[]) (L2:=[(Tr.mk D E G (0,0) F,aB J M K)]) (cap:=1) (k:=41) (nm:=nm) (x:=0) (BN 41 nm (by decide) e0.out) O;have c0:Hid (Fr 60 A0 H l b W I _ [(Tr.mk 41 nm 0 (0,0) [Tr.mk D E G (0,0) F],aB (some ⟨w4.heap.size,0,none⟩) 1 1)] w5 none 0 (.slice none 0 0)):=hj;clear O hj;have U:=c0.out.r;obtain⟨r0,r1,r2,r3,r4,rf⟩:=U;go_wp2;obtain⟨Z,z,S,o⟩:=c0.out.out;rw[<- z];obtain⟨V,X,Y,z3,z4,zf⟩:=S;clear z;exact bodyPost_ret (by simp[results,results80,go_sem,V,X,Y,z3,z4]<;>exact rfl) rfl (o.more (by omega))
 have b4:((q:Int)==4)=false:=beq_eq_false_iff_ne.2 (by omega)
 go_wp2_with fail
 (go_at_call 36;refine(HE.out d _ _ (by omega) (by omega) m.out.s (by omega)).mono ?_;rintro e w2 ⟨D,E,G,J,M,K,F,rfl,t,u,v,w,y⟩)
 have j:=aA (m.out.node (fun _ h=>by cases h) t u v w y);clear t u v w y
 go_wp2_with fail
 (go_at_call 38;refine(As 44 ⟨([]:List UInt8).toArray⟩ _ _ _ _).mono ?_;rintro e w3 ⟨rfl,O⟩)
 have hj:=j.out.join (L1:=[]) (L2:=[(Tr.mk D E G (0,0) F,aB J M K)]) (cap:=1) (k:=44) (nm:=[]) (x:=0) (BN 44 [] (by decide) (by decide)) O;have a:Hid (Fr 60 A0 H l b W I _ [(Tr.mk 44 [] 0 (0,0) [Tr.mk D E G (0,0) F],aB (some ⟨w2.heap.size,0,none⟩) 1 1)] w3 none 0 (.slice none 0 0)):=hj;clear O hj;have U:=a.out.r;obtain⟨r0,r1,r2,r3,r4,rf⟩:=U;go_wp2;obtain⟨Z,z,S,o⟩:=a.out.out;rw[<- z];obtain⟨V,X,Y,z3,z4,zf⟩:=S;clear z;exact bodyPost_ret (by simp[results,results80,go_sem,V,X,Y,z3,z4]<;>exact rfl) rfl (o.more (by omega))
end Go.Proofs.YtipfpohlnhmlpaaGreatDoor
namespace Go
open Go.RowKit
theorem DA.drew {T:TypeId} {P:Int->List UInt8->Nat->Prop} {f W a:World} {l:Cp} {b I c:Nat} {L1 R X:List (Tr×Value)} {v:Value} {d:Int} {e:Value} (h:DA T P f l b W I c L1 R X v a d e):DA T P f l b W I c L1 R X v a.drew d e :=
 h.below ⟨rfl,rfl,rfl,aE _,fun _ _=>rfl⟩
theorem DA.home {P:Int->List UInt8->Nat->Prop} {g W e:World} {l:Cp} {b I c:Nat} {T d:TypeId} {R:List (Tr×Value)} {v:Value} {y:Int} {z:Value} {k:Int} {nm:List UInt8} {x:Nat}
  (h:DA T P g l b (W.alloc (.cells #[.int .i64 0,.string ⟨#[]⟩,.float .f64 0,.slice none 0 0,.complex .f64 0 0] d)) I c [] R [] v e y z) (n:P k nm x) (i:b<W.heap.size) :
  Fr T P g l b W I (c+1) [(.mk k nm x (0,0) (R.map Prod.fst),v)] e none 0 (.slice none 0 0) where
 s:=h.f.s.mono (by omega)
 o:=(Ae.of_below b ((aF _ _).alloc (aE _) _)).trans h.f.o
 hbW:=i
 r:=(C5.new W _ _ _ _ _ d).only h.f.o (by omega)
 k:=fun p a=>by
  obtain rfl:=List.mem_singleton.1 a;refine⟨h.kids.mono fun j _ m=>⟨by have:=m.1;simp at this;omega,by simp⟩,.mk _ _ _ _ _ n fun t w=>?_⟩;obtain⟨q,u,rfl⟩:=List.mem_map.1 w;exact(h.f.k q (by simp[u])).2
 wt:=by
  have:=h.f.wt;rw[List.append_nil,List.nil_append] at this;rw[List.map_cons,List.map_nil,AK,AM,Tr.wt_mk];omega
theorem Md {d W:World} {l:Cp} {b I:Nat} (h:CH d l b I W) (X:Int):CH d l b (I+0) (W.setCell ⟨b,4,none⟩ (.int .i64 X)):=by
 obtain⟨i,g,a⟩:=h;obtain⟨x,y,f,e⟩:=a.c;exact⟨i,g,((Ae.refl _ _).set 4 _).below_of a.below a.hb a.below.size,a.hb,a.row,x,X,f,e.set4 _⟩
theorem A2 {W:World} {a:Addr} {v:Value} (h:W.cell? a=some v) (o:Obj):(W.alloc o).cell? a=some v :=
 (((aF W.heap.size W).alloc (aE _) o).cell (World.block_lt_of_cell? W a h)).trans h
end Go
namespace Go.Proofs.YtipfpohlnhmlpaaGreatDoor
open Go.Proofs.Tryz
open Go.RowKit
def Tj (a:World) (l:Cp) (b n c:Nat):Prop:=∀(d:Int) (I:Nat) (W:World),d<=n -> -1<=d->CH a l b I W->I+c+10000<=1099511627776 ->
 Calls prog 61 #[.pointer (some ⟨b,0,none⟩),.int .i64 d] W (Ff 60 A0 a l b W I c)
def VV (a:World) (l:Cp) (b n c:Nat):Prop:=∀(d:Int) (I:Nat) (W:World),d<=n -> -1<=d->CH a l b I W->I+c+10000<=1099511627776 ->
 Calls prog 37 #[.pointer (some ⟨b,0,none⟩),.int .i64 d] W (Ff 60 A0 a l b W I c)
theorem C_ (p:World) (l:Cp) (b I:Nat) (W:World) (U:CH p l b I W) (hn:l.n<=9223372036854775807) (n c:Nat) (d:Int) (h0 : -1<=d) (S:d<=n) (hI:I+3*c+10010<=1099511627776) (hE:Tj p l b n c) :
  Calls prog 37 #[.pointer (some ⟨b,0,none⟩),.int .i64 d] W (Ff 60 A0 p l b W I (3*c+10)):=by
 obtain⟨u,a⟩:∃u,u=W.alloc (.cells #[.int .i64 0,.string ⟨#[]⟩,.float .f64 0,.slice none 0 0,.complex .f64 0 0] 60):=⟨_,rfl⟩;have e1:u.heap.size=W.heap.size+1:=by rw[a];simp
 have V:=U.lt;have G:CH p l b I u:=by rw[a];exact U.keep ((aF _ _).alloc (aE _) _)
 have t:=aA (Fr.startK (T:=60) (P:=A0) 60 30 G);have H:CH p l b (I+0) ((W.alloc (.cells #[.int .i64 0,.string ⟨#[]⟩,.float .f64 0,.slice none 0 0,.complex .f64 0 0] 60)).alloc (.cells #[.int .i64 30,.string ⟨#[]⟩,.float .f64 0,.slice none 0 0,.complex .f64 0 0] 60)):=by rw[<- a];exact t.out.s
 have m:=aA H;have HE:=aA hE;have E:=aA a;have K:=aA e1;obtain⟨i0,X,a0,b0,c0⟩:=info_parts A.infoNd;clear U hE G H a e1
 go_in
 go_wp2_with fail
 (go_at_call 35;refine(Ar p l b _ 3 _ m.out (by omega) (by omega) (by omega) hn).mono ?_;rintro e w2 ⟨q,hq,rfl,hs,ho⟩)
 have M:Hid (DA 60 A0 p l b u I 1 [] [] [] (.slice none 0 0) w2 30 (.slice none 0 0)):=DA.start (t.out.step (d:=1) hs (by rw[E.out];exact ho));clear hs ho t m;have ea:(1:Int)+(q:Int)=((q+1:Nat):Int):=by omega
 go_wp2_with fail
 go_loopg [6] (q+1) (fun g i wr=>∃(R:List (Tr×Value)) (v:Value),i = .int .i64 g/\g<=q+1/\R.length+g=q+1/\Hid (DA 60 A0 p l b u I (1+R.length*c) [] R [] v wr 30 v))
 case atStart=>exact⟨[],_,rfl,aE _,by simp,by simpa using M⟩
 obtain⟨R,v,rfl,hg,f0,L⟩:=hrel;have e0:R.length*c<=3*c:=aD c (by omega);obtain⟨va,vn,vc,rfl⟩:=CO L.out.row;have hr:=L.out.f.r;rw[K.out] at hr;obtain⟨l0,l1,l2,l3,l4,lf⟩:=hr;clear ea;by_cases hp:0<gk
 ·have D:=aA L.out.drew
  have d0:R.length*c<=2*c:=aD c (by omega);clear l0 l1 l2 l4
  go_wp2_with fail
  go_region_law (first
   | (refine step_append_lies _ (by rfl) (.tmp 16) (.tmp 20) 58 (by rfl) (u.heap.size+1) 60 i0 _ 5 72 underlying58 X a0 b0 c0 rfl (by decide) (.slice va vn vc) R.length (Ah R) (by rfl) (j.out.alloc _).row ⟨w4.heap.size,0,none⟩ 1 1 (Ah [(Tr.mk ke ne xe (0,0) se,aB O le Q)]) (by rfl) (by rfl) (CE _ _ _) (B7 _ _ _ _) (by decide) (by unfold maxLen;omega) (by omega) (by have:=j.out.f.size;simp;omega) (w4.heap.size+1) (by simp) ?_;intro g5 F w5 o1 o2 o3 o4;have J:=j.out.grow (v':=.slice (some ⟨g5,0,none⟩) (R.length+1) F) o1 o2 (by rcases o3 with h | h;(left;exact h.symm);(right;rw[h];simp[Value.ownBlock]));have C:=aA J;have z:=C.out.f.r;rw[K.out] at z;obtain⟨m0,m1,m2,m3,m4,mf⟩:=z;clear o1 o2 o3 o4 J m0 m1 m2 m4)
   | (go_simp;go_at_call 61;refine(HE.out d _ _ (by omega) (by omega) D.out.f.s (by omega)).mono ?_;rintro e w4 ⟨ke,ne,xe,O,le,Q,se,rfl,S,h2,h3,h4,h5⟩;have j:=aA (D.out.node S h2 h3 h4 h5);have z:=j.out.f.r;rw[K.out] at z;obtain⟨n0,n1,n2,n3,n4,nf⟩:=z;have g0:=fun o=>A2 n3 o;clear S h2 h3 h4 h5 n0 n1 n2 n4))
  all_goals
   go_wp2;have y:=C.out.put3;rw[K.out] at y;have N:=aA y;clear y
   go_roundg (gk-1)
   case measure=>omega
   case rel=>exact⟨R++[(Tr.mk ke ne xe (0,0) se,aB O le Q)],_,congrArg (aH .i64) (by omega),by omega,by rw[aC];show R.length+1+(gk-1)=q+1;omega,by
    have e:1+R.length*c+c=1+(R++[(Tr.mk ke ne xe (0,0) se,aB O le Q)]).length*c:=by rw[aC,aG];show _=1+(R.length*c+1*c);omega
    rw[<- e];exact N⟩
 have w:=L.out;rw[E.out] at w;have B:=aA (w.home (k:=30) (nm:=[]) (x:=0) (BN 30 [] (by decide) (by decide)) V);clear w;have z:=B.out.r;obtain⟨r0,r1,r2,r3,r4,rf⟩:=z;go_wp2;obtain⟨Z,hZ,hc,Y⟩:=B.out.out;rw[<- hZ];obtain⟨z0,z1,z2,z3,z4,zf⟩:=hc;clear hZ;exact bodyPost_ret (by simp[results,results37,go_sem,z0,z1,z2,z3,z4]<;>exact rfl) rfl (Y.more (by omega))
theorem Gv (G:World) (l:Cp) (b I:Nat) (W:World) (Q:CH G l b I W) (n c:Nat) (d:Int) (h0 : -1<=d) (w:d<=n) (hI:I+c+10010<=1099511627776) (O:VV G l b n c) :
  Calls prog 81 #[.pointer (some ⟨b,0,none⟩),.int .i64 d] W (Ff 60 A0 G l b W I (c+1)):=by
 have k:=aA (Fr.start (T:=60) (P:=A0) 60 Q);have U:=aA O;clear Q O;obtain⟨i,S,j⟩:=k.out.s;obtain⟨x,y,f,A⟩:=j.c;obtain⟨X,hX⟩:∃X,wrap64 (y+1)=X:=⟨_,rfl⟩;have m:=aA (k.out.step (d:=0) (Md ⟨i,S,j⟩ X) ((Ae.refl _ _).set 4 _));obtain⟨V,Y,c2,c3,c4,cf⟩:=A;clear j S V Y c2 c3
 go_in
 go_wp2_with fail
 (go_at_call 37;refine(U.out d _ _ (by omega) (by omega) m.out.s (by omega)).mono ?_;rintro e t ⟨D,F,H,u,E,v,se,rfl,w,K,L,M,N⟩)
 have a:=aA (m.out.node (fun _ h=>by cases h) w K L M N);clear w K L M N;have z:=a.out.s;obtain⟨i2,B,q⟩:=z;obtain⟨x2,y2,f2,g⟩:=q.c;obtain⟨X2,a0⟩:∃X2,wrap64 (y2-1)=X2:=⟨_,rfl⟩;have b0:b<t.heap.size:=g.lt;have o:=aA ((a.out.step (d:=0) (Md a.out.s X2) ((Ae.refl _ _).set 4 _)).alloc (.cells #[.int .i64 D,.string ⟨F.toArray⟩,.float .f64 H,.slice u E v,.complex .f64 0 0] 60));have p:=C5.new (t.setCell ⟨b,4,none⟩ (.int .i64 X2)) (.int .i64 D) (.string ⟨F.toArray⟩) (.float .f64 H) (.slice u E v) (.complex .f64 0 0) 60;have J:(t.setCell ⟨b,4,none⟩ (.int .i64 X2)).heap.size=t.heap.size:=by simp
 rw[J] at p;obtain⟨l0,l1,l2,l3,l4,lf⟩:=p;obtain⟨g0,g1,g2,g3,g4,gf⟩:=g.alloc (.cells #[.int .i64 D,.string ⟨F.toArray⟩,.float .f64 H,.slice u E v,.complex .f64 0 0] 60);clear q B g g0 g1 g2 g3 cf c4 hX J;have hy:=o.out.r;obtain⟨r0,r1,r2,r3,r4,rf⟩:=hy;go_wp2;obtain⟨Z,R,A,C⟩:=o.out.out;rw[<- R];obtain⟨z0,z1,z2,z3,z4,zf⟩:=A;clear R;exact bodyPost_ret (by simp[results,results81,go_sem,z0,z1,z2,z3,z4]<;>exact rfl) rfl (C.more (by omega))
end Go.Proofs.YtipfpohlnhmlpaaGreatDoor
