/- Xs -/
import Derived.Test.YtipfpohlnhmlpaaGreatDoorNp
import Derived.Test.YtipfpohlnhmlpaaGreatDoorWi
import Derived.Test.YtipfpohlnhmlpaaGreatDoorWd
import Derived.Deep.DeepCutAuto
import Derived.Deep.CutBlock
import Derived.StillTailTactics
import Derived.BigRegion
set_option maxRecDepth 100000
set_option maxHeartbeats 3200000
open Go.Lib renaming hid->aA
open Option renaming some->aB
namespace Go.Proofs.YtipfpohlnhmlpaaGreatDoor
open Go.Proofs.Tryz
open Go.RowKit
def Vd (w:World) (b:Nat) (a:Bool) (R:Option DS) (e:Ending) (w':World):Prop:=e = .returned (.bool R.isSome)/\Ae b w w'/\∀d,R=some d->C8 w' b a d
def SD.ds (a:SD):DS:=⟨a.M,a.nd,a.dp,a.tr⟩
theorem Ud (s:ByteArray) (w:World) (b:Nat) (f:Nat->Nat) (hs:s.size<=140737488351232) (hN:∀c∈s.data.toList,c∈BC) (hD:BO w b f 0 0 false false) :
  Calls prog 108 #[.pointer (some ⟨b,0,none⟩),.string s] w (Vd w b (decide (s.data.toList.head?=some 45)) (Ik s.data.toList)):=by
 have HN:∀k (h:k<s.size),s[k]∈BC:=fun k h=>hN _ (List.getElem_mem (l:=s.data.toList) (by simpa using h));have g0:=aA HN;clear hN HN;have HL:=aA (fun c W=>Ke c W);have n1:=hD.ng;have m0:=hD.tr;have r1:=hD.fz 802;have n0:=hD.fz 803;have q0:=aA ((hD.setNg false).setTr false);have Z:=aA (((Ae.refl b w).set 802 (.bool false)).set 803 (.bool false));clear hD;by_cases h0:s.size=0
 ·have hl:s.data.toList=[]:=List.eq_nil_of_length_eq_zero (by simpa using h0)
  have HR:Hid (Ik s.data.toList=none):=by rw[hl];exact rfl
  clear hl
  go_in
  go_wp2;refine bodyPost_ret (v:=.bool false) (by simp[results,results108,go_sem]) rfl ⟨by rw[HR.out];rfl,Z.out,fun d h=>by rw[HR.out] at h;cases h⟩
 have s1:0<s.size:=(by omega);have b3:¬ s=ByteArray.empty:=fun e=>by subst e;simp at s1
 clear h0
 go_in
 go_upto_block 0 with(fail)
 go_cut [5] (fun i O=>∃(H:Nat),i = .int .i64 H/\H<=1/\Hid (H=AR s.data.toList)/\Hid (C8 O b (decide (s.data.toList.head?=some 45)) SD.init.ds)/\Hid (Ae b w O))
 case first =>
  have F:s.data.toList.head?=some s[0]:=A' s.data.toList 0 (by simpa using s1);by_cases n:s[0]=45
  ·have a0:((s[0].toNat:Int)==43)=false:=Ao (d:=43) (by rw[n];decide)
   have t0:((s[0].toNat:Int)==45)=true:=AH (d:=45) n;have H1:Hid (true=decide (s.data.toList.head?=some 45)):=by unfold Hid;rw[F,n];simp
   have Y:Hid (1=AR s.data.toList):=by unfold Hid;rw[AR,F,n];simp
   clear F n;go_wp2;go_meet;exact⟨1,rfl,by omega,Y,by unfold Hid;rw[<- H1.out];exact⟨f,q0.out.setNg true,Oy f⟩,aA (Z.out.set 802 (.bool true))⟩
  have t0:((s[0].toNat:Int)==45)=false:=Ao (d:=45) n;have H1:Hid (false=decide (s.data.toList.head?=some 45)):=by unfold Hid;rw[F];simp[n]
  have H3:Hid (C8 ((w.setCell ⟨b,802,none⟩ (.bool false)).setCell ⟨b,803,none⟩ (.bool false)) b (decide (s.data.toList.head?=some 45)) SD.init.ds):=by
   unfold Hid;rw[<- H1.out];exact⟨f,q0.out,Oy f⟩
  by_cases u:s[0]=43
  ·have a0:((s[0].toNat:Int)==43)=true:=AH (d:=43) u
   have Y:Hid (1=AR s.data.toList):=by unfold Hid;rw[AR,F,u];simp
   clear F n u;go_wp2;go_meet;exact⟨1,rfl,by omega,Y,H3,Z⟩
  have a0:((s[0].toNat:Int)==43)=false:=Ao (d:=43) u;have Y:Hid (0=AR s.data.toList):=by unfold Hid;rw[AR,F];simp[u,n]
  clear F n u;go_wp2;go_meet;exact⟨0,rfl,by omega,Y,H3,Z⟩
 obtain⟨H,rfl,z2,Hi,r0,z0⟩:=hcut;clear n1 m0 r1 n0 q0 Z
 have HR:Hid (∀I k,Bt .init (s.data.toList.drop H)=(I,k-H)->H<=k->Ik s.data.toList=D4 s.data.toList I k):=fun I k h a3=>by
  have b2:s.data.toList≠[]:=fun e=>by
   have h1:s.data.toList.length=0:=by rw[e];rfl
   have h2:s.data.toList.length=s.size:=rfl;omega
  rw[Ik,if_neg b2,<- Hi.out,h];show D4 _ _ (H+(k-H))=_;rw[show H+(k-H)=k by omega]
 obtain⟨ng,v0⟩:∃ng,decide (s.data.toList.head?=some 45)=ng:=⟨_,rfl⟩;rw[v0] at r0;have j1:=aA v0;clear v0;clear Hi
 go_upto_block 1 with(go_step3)
 go_cut [5,6,7] (fun i B R O=>∃(I:SD) (k:Nat),i = .int .i64 k/\B = .bool I.sd/\R = .bool I.sg/\k<=s.size/\I.ok k/\Hid (Ik s.data.toList=D4 s.data.toList I k/\(s.data.toList.drop k).head?≠some 46)/\Hid (C8 O b ng I.ds)/\Hid (Ae b w O))
 case first =>
  go_wp2
  go_loopg [5,6,7] (s.size-H) (fun g i B R O=>∃(I:SD) (k:Nat),g+k=s.size/\i = .int .i64 k/\B = .bool I.sd/\R = .bool I.sg/\I.ok k/\Hid (Bt .init (s.data.toList.drop H)=((Bt I (s.data.toList.drop k)).1,(Bt I (s.data.toList.drop k)).2+(k-H))/\H<=k)/\Hid (C8 O b ng I.ds)/\Hid (Ae b w O))
  case atStart=>exact⟨.init,H,by omega,rfl,rfl,rfl,SD.ok_mono SD.init_ok (by omega),by simp[Hid],r0,z0⟩
  obtain⟨⟨M,nd,z,B,R,y⟩,k,y2,rfl,rfl,rfl,e0,J,S,m⟩:=hrel;obtain⟨o1,o2,o3,o4,o5,o6⟩:=id e0;have s0:=aA e0;dsimp only at o1 o2 o3 o4 o5 o6;obtain⟨f',hF,hg⟩:=S.out;have l0:wr.cell? ⟨b,800,none⟩=some (.int .i64 nd):=hF.nd;have b0:wr.cell? ⟨b,801,none⟩=some (.int .i64 z):=hF.dp;have m0:wr.cell? ⟨b,803,none⟩=some (.bool y):=hF.tr;have l2:=hF.fz 800;have c0:=hF.fz 801;have n0:=hF.fz 803;have o:Hid (BO wr b f' nd z ng y):=hF;have HG:=aA hg;clear o1 o2 hF hg e0;by_cases D:k<s.size
  ·have U:k<s.data.toList.length:=by simpa using D
   have v1:=BP (g0.out k D);have g2:((s[k].toNat:Int)==95)=false:=Ao (d:=95) v1.1
   have k1:Hid (CX ⟨M,nd,z,B,R,y⟩ s[k]=none->Ik s.data.toList=D4 s.data.toList ⟨M,nd,z,B,R,y⟩ k):=fun h=>by
    refine HR.out _ _ ?_ J.out.2;rw[J.out.1,Qg _ _ _ U h];simp
   have P:Hid (∀f0,CX ⟨M,nd,z,B,R,y⟩ s[k]=some f0->f0.ok (k+1)/\(Bt .init (s.data.toList.drop H)=((Bt f0 (s.data.toList.drop (k+1))).1,(Bt f0 (s.data.toList.drop (k+1))).2+(k+1-H))/\H<=k+1)):=fun f0 h=>by
    refine⟨Ks _ _ _ _ s0.out h,?_,by have:=J.out.2;omega⟩;have:=J.out.2;rw[J.out.1,N3 _ _ _ _ U h];simp;omega
   clear v1;by_cases r:s[k]=46
   ·have f2:((s[k].toNat:Int)==46)=true:=AH (d:=46) r
    cases B with
    | true =>
      have t:Hid (Ik s.data.toList=none):=by
       unfold Hid;rw[k1.out (by rw[CX,if_pos r];rfl),D4,A' _ _ U,if_pos (by rw[<- AO s k D,r])]
      clear r
      as_aux_lemma =>
       go_wp2;refine bodyPost_ret (v:=.bool false) (by simp[results,results108,go_sem]) rfl ⟨by rw[t.out];rfl,m.out,fun d h=>by rw[t.out] at h;cases h⟩
    | false =>
      have t:=aA (P.out _ (by rw[CX,if_pos r];rfl));clear r
      as_aux_lemma =>
       go_wp2
       go_roundg (s.size-(k+1))
       case measure=>omega
       exact⟨⟨M,nd,nd,true,R,y⟩,k+1,by omega,by go_num,rfl,rfl,t.out.1,t.out.2,⟨f',o.out.setDp nd,HG.out⟩,aA (m.out.set 801 _)⟩
   have f2:((s[k].toNat:Int)==46)=false:=Ao (d:=46) r;by_cases E:Aj s[k]=true
   ·have w1:=(Cq E).1
    have x1:=(Cq E).2;by_cases C:s[k]=48/\nd=0
    ·have K:((s[k].toNat:Int)==48)=true:=AH (d:=48) C.1
     have m1:((nd:Int)==0)=true:=by rw[C.2];rfl
     have t:=aA (P.out _ (by rw[CX,if_neg r,if_pos E,if_pos C]));clear r E C
     as_aux_lemma =>
      go_wp2
      go_roundg (s.size-(k+1))
      case measure=>omega
      exact⟨⟨M,nd,z-1,B,true,y⟩,k+1,by omega,by go_num,rfl,rfl,t.out.1,t.out.2,⟨f',o.out.setDp (z-1),HG.out⟩,aA (m.out.set 801 _)⟩
    have K:((s[k].toNat:Int)==48)=false\/(((s[k].toNat:Int)==48)=true/\((nd:Int)==0)=false):=by
     by_cases h:s[k]=48
     ·exact .inr ⟨AH (d:=48) h,beq_eq_false_iff_ne.2 (fun e=>C ⟨h,by omega⟩)⟩
     exact .inl (Ao (d:=48) h)
    have a1:=aA K;clear K;by_cases N:nd<800
    ·have t:=aA (P.out _ (by rw[CX,if_neg r,if_pos E,if_neg C,if_pos N]))
     have c1:=o.out.d nd N;have f1:=o.out.fz nd;have e1:¬ nd=800:=(by omega);have e2:¬ 800=nd:=(by omega);have l1:decide (nd<800)=true:=decide_eq_true N;have i1:=aA (TB HG.out w1 x1);clear r E C;rcases a1.out with K | ⟨K,m1⟩
     ·as_aux_lemma =>
       go_wp2
       go_still_tail 11,(by kernel_rfl)
       change wpList _ _ _ _ _ wr.drew;go_wp2
       go_roundg (s.size-(k+1))
       case measure=>omega
       exact⟨⟨M*10+(s[k].toNat-48),nd+1,z,B,true,y⟩,k+1,by omega,by go_num,rfl,rfl,t.out.1,t.out.2,⟨_,(((o.out.drewN _).setD N s[k].toNat).setNd ((nd+1:Nat):Int)),i1.out⟩,aA (((m.out.drewN _).set nd _).set 800 _)⟩
     as_aux_lemma =>
      go_wp2
      go_region
      go_wp2
      go_roundg (s.size-(k+1))
      case measure=>omega
      exact⟨⟨M*10+(s[k].toNat-48),nd+1,z,B,true,y⟩,k+1,by omega,by go_num,rfl,rfl,t.out.1,t.out.2,⟨_,(((o.out.drewN _).setD N s[k].toNat).setNd ((nd+1:Nat):Int)),i1.out⟩,aA (((m.out.drewN _).set nd _).set 800 _)⟩
    have t:=aA (P.out _ (by rw[CX,if_neg r,if_pos E,if_neg C,if_neg N]));have l1:decide (nd<800)=false:=decide_eq_false N;by_cases hz:s[k]=48
    ·have K:((s[k].toNat:Int)==48)=true:=AH (d:=48) hz
     have i2:((s[k].toNat:Int) != 48)=false:=Et (d:=48) hz;have m1:((nd:Int)==0)=false:=beq_eq_false_iff_ne.2 (fun e=>C ⟨hz,by omega⟩);rw[if_pos hz] at t;clear r E C hz
     as_aux_lemma =>
      go_wp2
      go_roundg (s.size-(k+1))
      case measure=>omega
      exact⟨⟨M,nd,z,B,true,y⟩,k+1,by omega,by go_num,rfl,rfl,t.out.1,t.out.2,⟨f',o.out,HG.out⟩,m⟩
    have K:((s[k].toNat:Int)==48)=false:=Ao (d:=48) hz;have i2:((s[k].toNat:Int) != 48)=true:=Cu (d:=48) hz;rw[if_neg hz] at t;clear r E C hz
    as_aux_lemma =>
     go_wp2
     go_roundg (s.size-(k+1))
     case measure=>omega
     exact⟨⟨M,nd,z,B,true,true⟩,k+1,by omega,by go_num,rfl,rfl,t.out.1,t.out.2,⟨f',o.out.setTr true,HG.out⟩,aA (m.out.set 803 _)⟩
   have t:Hid (Ik s.data.toList=D4 s.data.toList ⟨M,nd,z,B,R,y⟩ k/\(s.data.toList.drop k).head?≠some 46):=by
    refine⟨k1.out (by rw[CX,if_neg r,if_neg E]),?_⟩;rw[A' _ _ U,<- AO s k D];exact fun e=>r (aB.inj e)
   have V:s[k].toNat<48\/57<s[k].toNat:=by
    simp[Aj,C3] at E;omega
   clear r E;rcases V with V | V <;>
   ·as_aux_lemma =>
     go_wp2;go_meet;exact⟨⟨M,nd,z,B,R,y⟩,k,rfl,rfl,rfl,by omega,s0.out,t,S,m⟩
  have t:Hid (Ik s.data.toList=D4 s.data.toList ⟨M,nd,z,B,R,y⟩ k/\(s.data.toList.drop k).head?≠some 46):=by
   refine⟨HR.out _ _ ?_ J.out.2,?_⟩
   ·rw[J.out.1,N2 _ _ _ (by simpa using D)];simp
   rw[Bv _ _ (by simpa using D)];exact fun e=>by cases e
  as_aux_lemma =>
   go_wp2;go_meet;exact⟨⟨M,nd,z,B,R,y⟩,k,rfl,rfl,rfl,by omega,s0.out,t,S,m⟩
 obtain⟨⟨M,nd,z,B,R,y⟩,k,rfl,rfl,rfl,hk,e0,HT,S,m⟩:=hcut;obtain⟨o1,o2,o3,o4,o5,o6⟩:=e0;dsimp only at o1 o2 o3 o4 o5 o6;clear HR r0 z0 o1 o2
 cases R with
 | false =>
   have G:Hid (Ik s.data.toList=none):=by
    unfold Hid;rw[HT.out.1,D4,if_neg HT.out.2,if_pos rfl]
   as_aux_lemma =>
    go_wp2;refine bodyPost_ret (v:=.bool false) (by simp[results,results108,go_sem]) rfl ⟨by rw[G.out];rfl,m.out,fun d h=>by rw[G.out] at h;cases h⟩
 | true =>
   obtain⟨f',hF,hg⟩:=S.out;have l0:wc.cell? ⟨b,800,none⟩=some (.int .i64 nd):=hF.nd;have b0:wc.cell? ⟨b,801,none⟩=some (.int .i64 z):=hF.dp;have c0:=hF.fz 801;have o:Hid (BO wc b f' nd z ng y):=hF;have HG:=aA hg;clear hF hg
   go_upto_if 120 with(fail)
   go_cut [] (fun O=>∃d:Int,-(k:Int)<=d/\d<=k/\Hid (d=if B=true then z else nd)/\Hid (BO O b f' nd d ng y)/\Hid (Ae b w O))
   case first =>
    cases B with
    | true =>
      as_aux_lemma =>
       go_wp2;go_meet;exact⟨z,o5,o6,rfl,o,m⟩
    | false =>
      as_aux_lemma =>
       go_wp2;go_meet;exact⟨nd,by omega,by omega,rfl,o.out.setDp nd,m.out.set 801 _⟩
   clear l0 b0 c0 S o m;obtain⟨d,d1,d2,Hd,o,m⟩:=hcut
   have t1:Ik s.data.toList=if (s.data.toList.drop k).head?=some 101\/(s.data.toList.drop k).head?=some 69 then Jc s.data.toList ⟨M,nd,z,B,true,y⟩ d (k+1) else El s.data.toList ⟨M,nd,z,B,true,y⟩ d k:=by
    rw[HT.out.1,D4,if_neg HT.out.2,if_neg (by simp),<- Hd.out]
   have j0:=aA t1;clear t1 HT Hd;by_cases X:∃h:k<s.size,s[k]=101\/s[k]=69
   ·obtain⟨k0,X⟩:=X
    have d0:G3 s[k]=101:=(BP (g0.out k k0)).2.2.1.2 X;have bl:(((G3 s[k]).toNat:Int)==101)=true:=AH (d:=101) d0
    have T:Hid (Ik s.data.toList=Jc s.data.toList ⟨M,nd,z,B,true,y⟩ d (k+1)):=by
     unfold Hid;rw[j0.out,A' _ _ (by simpa using k0),if_pos (by rcases X with X | X;exact .inl (by rw[<- AO s k k0,X]);exact .inr (by rw[<- AO s k k0,X]))]
    clear j0 X d0;by_cases j2:k+1<s.size
    ·have U:k+1<s.data.toList.length:=by simpa using j2
     go_upto_block 4 with(go_at_call 126;refine(HL.out _ _).mono ?_;rintro e w' ⟨rfl,rfl⟩)
     go_cut [5,8] (fun i q O=>∃(a:Nat) (Q:Int),i = .int .i64 a/\q = .int .i64 Q/\O=wc/\a<=s.size/\k+1<=a /\ -1<=Q/\Q<=1/\Hid (a=k+1+AR (s.data.toList.drop (k+1)))/\Hid (Q=if (s.data.toList.drop (k+1)).head?=some 45 then -1 else 1))
     case first =>
      have F:(s.data.toList.drop (k+1)).head?=some s[k+1]:=A' _ _ U;by_cases n:s[k+1]=45
      ·have a0:((s[k+1].toNat:Int)==43)=false:=Ao (d:=43) (by rw[n];decide)
       have t0:((s[k+1].toNat:Int)==45)=true:=AH (d:=45) n;have H1:Hid ((-1:Int)=if (s.data.toList.drop (k+1)).head?=some 45 then -1 else 1):=by unfold Hid;rw[F,n];rfl
       have Y:Hid (k+1+1=k+1+AR (s.data.toList.drop (k+1))):=by unfold Hid;rw[AR,F,n];rfl
       clear F n
       as_aux_lemma =>
        go_wp2;go_meet;exact⟨k+1+1,-1,by go_num,rfl,rfl,by omega,by omega,by omega,by omega,Y,H1⟩
      have t0:((s[k+1].toNat:Int)==45)=false:=Ao (d:=45) n;have H1:Hid ((1:Int)=if (s.data.toList.drop (k+1)).head?=some 45 then -1 else 1):=by unfold Hid;rw[F,if_neg (fun e=>n (aB.inj e))]
      by_cases u:s[k+1]=43
      ·have a0:((s[k+1].toNat:Int)==43)=true:=AH (d:=43) u
       have Y:Hid (k+1+1=k+1+AR (s.data.toList.drop (k+1))):=by unfold Hid;rw[AR,F,u];rfl
       clear F n u
       as_aux_lemma =>
        go_wp2;go_meet;exact⟨k+1+1,1,by go_num,rfl,rfl,by omega,by omega,by omega,by omega,Y,H1⟩
      have a0:((s[k+1].toNat:Int)==43)=false:=Ao (d:=43) u;have Y:Hid (k+1=k+1+AR (s.data.toList.drop (k+1))):=by unfold Hid;rw[AR,F,if_neg (fun e=>e.elim (fun e=>u (aB.inj e)) (fun e=>n (aB.inj e)))]
      clear F n u
      as_aux_lemma =>
       go_wp2;go_meet;exact⟨k+1,1,by go_num,rfl,rfl,by omega,by omega,by omega,by omega,Y,H1⟩
     obtain⟨a,Q,rfl,rfl,rfl,k2,m2,t2,v2,HK,b1⟩:=hcut
     have HX:Hid (Jc s.data.toList ⟨M,nd,z,B,true,y⟩ d (k+1)=if Al Aj (s.data.toList.drop a)=0 then none else El s.data.toList ⟨M,nd,z,B,true,y⟩ (d+(A7 0 (s.data.toList.drop a)).1*Q) (a+(A7 0 (s.data.toList.drop a)).2)):=by
      unfold Hid;rw[Jc,if_neg (by omega),<- HK.out,<- b1.out]
     clear HK b1;by_cases E:∃h:a<s.size,Aj s[a]=true
     ·obtain⟨p0,E⟩:=E
      have w1:=(Cq E).1;have x1:=(Cq E).2
      have c2:Hid (Ik s.data.toList=El s.data.toList ⟨M,nd,z,B,true,y⟩ (d+(A7 0 (s.data.toList.drop a)).1*Q) (a+(A7 0 (s.data.toList.drop a)).2)):=by
       unfold Hid;rw[T.out,HX.out,Da Aj _ _ (by simpa using p0) E,if_neg (by omega)]
      have q1:decide (s.size<=a)=false:=by simp;omega
      have q2:decide ((s[a].toNat:Int)<48)=false:=by simp;omega
      have q3:decide (57<(s[a].toNat:Int))=false:=by simp;omega
      clear E HX
      go_upto_block 5 with(fail)
      clear q1 q2 q3
      go_cut [5,9] (fun i e O=>∃(j A:Nat),i = .int .i64 j/\e = .int .i64 A/\O=wc/\j<=s.size/\a<=j/\A<=1000000/\Hid (A7 0 (s.data.toList.drop a)=(A,j-a)))
      case first =>
       as_aux_lemma =>
       go_wp2
       go_loop [5,9] (fun i e=>∃(j A:Nat),i = .int .i64 j/\e = .int .i64 A/\j<=s.size/\a<=j/\A<=1000000/\Hid (A7 0 (s.data.toList.drop a)=((A7 A (s.data.toList.drop j)).1,(A7 A (s.data.toList.drop j)).2+(j-a)))) (fun i _=>s.size-(intOf i).toNat)
       case atStart=>exact⟨a,0,rfl,rfl,k2,Nat.le_refl _,by omega,by simp[Hid]⟩
       obtain⟨j,A,rfl,rfl,hj,y0,w0,HE⟩:=hrel;by_cases D:j<s.size
       ·have y1:j<s.data.toList.length:=by simpa using D
        have g2:((s[j].toNat:Int)==95)=false:=Ao (d:=95) (BP (g0.out j D)).1;by_cases L:Aj s[j]=true
        ·have e1:=(Cq L).1
         have e2:=(Cq L).2;have HY:=aA (J6 A _ j y1 L);clear L;by_cases h4:A<10000
         ·have t:Hid (A7 0 (s.data.toList.drop a)=((A7 (A*10+(s[j].toNat-48)) (s.data.toList.drop (j+1))).1,(A7 (A*10+(s[j].toNat-48)) (s.data.toList.drop (j+1))).2+(j+1-a))):=by
           unfold Hid;rw[HE.out,HY.out,if_pos h4,<- AO s j D];simp;omega
          as_aux_lemma =>
           go_wp2
           go_round
           case rel=>exact⟨j+1,A*10+(s[j].toNat-48),by go_num,by congr 1;omega,by omega,by omega,by omega,t⟩
           simp[intOf];omega
         have t:Hid (A7 0 (s.data.toList.drop a)=((A7 A (s.data.toList.drop (j+1))).1,(A7 A (s.data.toList.drop (j+1))).2+(j+1-a))):=by
          unfold Hid;rw[HE.out,HY.out,if_neg h4];simp;omega
         as_aux_lemma =>
          go_wp2
          go_round
          case rel=>exact⟨j+1,A,by go_num,rfl,by omega,by omega,by omega,t⟩
          simp[intOf];omega
        have t:Hid (A7 0 (s.data.toList.drop a)=(A,j-a)):=by
         unfold Hid;rw[HE.out,LM _ _ _ y1 (by cases hx:Aj s[j] with | true=>exact absurd hx L | false=>exact hx)];simp
        have V:s[j].toNat<48\/(48<=s[j].toNat/\57<s[j].toNat):=by
         simp[Aj,C3] at L;omega
        clear L;rcases V with V | ⟨r2,s2⟩ <;>
        ·as_aux_lemma =>
          go_wp2;go_meet;exact⟨j,A,rfl,rfl,rfl,hj,y0,w0,t⟩
       have t:Hid (A7 0 (s.data.toList.drop a)=(A,j-a)):=by
        unfold Hid;rw[HE.out,J3 _ _ _ (by simpa using D)];simp
       as_aux_lemma =>
        go_wp2;go_meet;exact⟨j,A,rfl,rfl,rfl,hj,y0,w0,t⟩
      obtain⟨j,A,rfl,rfl,rfl,hj,y0,w0,HE⟩:=hcut
      have o0 : -1000000<=(A:Int)*Q/\(A:Int)*Q<=1000000:=by
       rcases (show Q = -1\/Q=0\/Q=1 by omega) with h | h | h<;>rw[h]<;>omega
      obtain⟨p,hp⟩:∃p:Int,p=(A:Int)*Q:=⟨_,rfl⟩;rw[<- hp] at o0;obtain⟨p1,p2⟩:=o0;have n2:IntKind.i64.wrap ((A:Int)*Q)=p:=by rw[<- hp];exact IntWalk.i64_in _ (by omega)
      have g1:Hid (Ik s.data.toList=if j=s.data.toList.length then some ⟨M,nd,d+p,y⟩ else none):=by
       unfold Hid;rw[c2.out,HE.out];show El _ _ _ (a+(j-a))=_;rw[show a+(j-a)=j by omega,<- hp,El]
      have b0:wc.cell? ⟨b,801,none⟩=some (.int .i64 d):=o.out.dp;have c0:=o.out.fz 801;clear hp;by_cases x0:j=s.size
      ·have G:Hid (Ik s.data.toList=some ⟨M,nd,d+p,y⟩):=by
        unfold Hid;rw[g1.out,if_pos (by simpa using x0)]
       subst x0
       as_aux_lemma =>
        go_wp2;refine bodyPost_ret (v:=.bool true) (by simp[results,results108,go_sem]) rfl ⟨by rw[G.out];rfl,m.out.set 801 _,fun x h=>by rw[G.out] at h;cases h;rw[j1.out];exact⟨f',o.out.setDp (d+p),HG.out⟩⟩
      have G:Hid (Ik s.data.toList=none):=by
       unfold Hid;rw[g1.out,if_neg (by simpa using x0)]
      have bj:((j:Int) != (s.size:Int))=true:=by rw[bne_iff_ne];omega
      as_aux_lemma =>
       go_wp2;refine bodyPost_ret (v:=.bool false) (by simp[results,results108,go_sem]) rfl ⟨by rw[G.out];rfl,m.out.set 801 _,fun x h=>by rw[G.out] at h;cases h⟩
     have G:Hid (Ik s.data.toList=none):=by
      have h0:Al Aj (s.data.toList.drop a)=0:=by
       by_cases h:a<s.size
       ·exact DQ _ _ _ (by simpa using h) (by cases hx:Aj s[a] with | true=>exact absurd ⟨h,hx⟩ E | false=>exact hx)
       exact C' _ _ _ (by simpa using h)
      unfold Hid;rw[T.out,HX.out,if_pos h0]
     have hb:¬ a<s.size\/(∃h:a<s.size,s[a].toNat<48\/(48<=s[a].toNat/\57<s[a].toNat)):=by
      by_cases h:a<s.size
      ·refine .inr ⟨h,?_⟩
       have:¬ Aj s[a]=true:=fun e=>E ⟨h,e⟩;simp[Aj,C3] at this;omega
      exact .inl h
     clear E;rcases hb with hb | ⟨p0,hb | ⟨w2,x2⟩⟩ <;>
     ·as_aux_lemma =>
       go_wp2;refine bodyPost_ret (v:=.bool false) (by simp[results,results108,go_sem]) rfl ⟨by rw[G.out];rfl,m.out,fun x h=>by rw[G.out] at h;cases h⟩
    have G:Hid (Ik s.data.toList=none):=by
     unfold Hid;rw[T.out,Jc,if_pos (by simp;omega)]
    as_aux_lemma =>
     go_wp2_with (go_at_call 126;refine(HL.out _ _).mono ?_;rintro e w' ⟨rfl,rfl⟩)
     refine bodyPost_ret (v:=.bool false) (by simp[results,results108,go_sem]) rfl ⟨by rw[G.out];rfl,m.out,fun x h=>by rw[G.out] at h;cases h⟩
   have hb:¬ k<s.size\/(∃h:k<s.size,(((G3 s[k]).toNat:Int)==101)=false):=by
    by_cases h:k<s.size
    ·exact .inr ⟨h,Ao (d:=101) (fun e=>X ⟨h,(BP (g0.out k h)).2.2.1.1 e⟩)⟩
    exact .inl h
   have T:Hid (Ik s.data.toList=if k=s.data.toList.length then some ⟨M,nd,d,y⟩ else none):=by
    unfold Hid;rw[j0.out,if_neg,El];intro F;apply X;by_cases h:k<s.size
    ·rw[A' _ _ (by simpa using h)] at F;exact⟨h,F.elim (fun e => .inl (aB.inj e)) (fun e => .inr (aB.inj e))⟩
    rw[Bv _ _ (by simpa using h)] at F;simp at F
   have t:=aA hb;clear j0 X hb;by_cases a2:k<s.size
   ·have G:Hid (Ik s.data.toList=none):=by
     unfold Hid;rw[T.out,if_neg (by simp;omega)]
    have bj:((k:Int) != (s.size:Int))=true:=by rw[bne_iff_ne];omega
    have hb:(((G3 s[k]).toNat:Int)==101)=false:=by
     rcases t.out with h | ⟨_,h⟩
     ·exact absurd a2 h
     exact h
    as_aux_lemma =>
     go_wp2_with (go_at_call 126;refine(HL.out _ _).mono ?_;rintro e w' ⟨rfl,rfl⟩)
     refine bodyPost_ret (v:=.bool false) (by simp[results,results108,go_sem]) rfl ⟨by rw[G.out];rfl,m.out,fun x h=>by rw[G.out] at h;cases h⟩
   have G:Hid (Ik s.data.toList=some ⟨M,nd,d,y⟩):=by
    unfold Hid;rw[T.out,if_pos (by simp;omega)]
   have z1:s.size=k:=(by omega);have bj:((k:Int) != (s.size:Int))=false:=by rw[z1];simp
   clear z1
   as_aux_lemma =>
    go_wp2;refine bodyPost_ret (v:=.bool true) (by simp[results,results108,go_sem]) rfl ⟨by rw[G.out];rfl,m.out,fun x h=>by rw[G.out] at h;cases h;rw[j1.out];exact⟨f',o.out,HG.out⟩⟩
end Go.Proofs.YtipfpohlnhmlpaaGreatDoor
