/- Wi -/
import Derived.Test.YtfblenhlildnaaaGreatDoorMp
import Derived.Test.YtfblenhlildnaaaGreatDoorWr
import Derived.Deep.DeepCutAuto
import Derived.Deep.CutBlock
set_option maxRecDepth 100000
set_option maxHeartbeats 3200000
open Go.Lib renaming hid->aA
open Option renaming some->aB
namespace Go.Proofs.YtfblenhlildnaaaGreatDoor
open Go.Proofs.Tryz
open Go.RowKit
def G3 (c:UInt8):UInt8:=c|||32
theorem Ke (c:UInt8) (w:World):Calls prog 202 #[.int .u8 c.toNat] w fun e b=>e = .returned (.int .u8 (G3 c).toNat)/\w=b:=by
 have h:=u8_or_nat c.toNat 32 (UInt8.toNat_lt c) (by omega)
 have a:Hid (bits .or .u8 (c.toNat:Int) 32=((G3 c).toNat:Int)):=by
  unfold Hid G3;rw[UInt8.toNat_or];exact h
 clear h
 go_in
 go_wp2;go_ret;exact⟨AZ a.out,rfl⟩
def rfV (r:Lm):Value:=.tuple #[.int .u64 r.mant,.int .i64 r.exp,.bool r.neg,.bool r.tr,.bool false,.int .i64 r.i,.bool r.ok]
theorem BP {c:UInt8} (h:c∈BC):c≠95/\G3 c≠120/\(G3 c=101↔(c=101\/c=69))/\(Aj c=false->c=46\/c=43\/c=45\/c=69\/c=101):=by
 simp only[BC,List.mem_cons,List.not_mem_nil,or_false] at h;rcases h with h | h | h | h | h | h | h | h | h | h | h | h | h | h | h<;>subst h<;>decide
theorem Cy (s:ByteArray) (w:World) (hs:s.size<=140737488351232) (hN:∀c∈s.data.toList,c∈BC):Calls prog 226 #[.string s] w fun e w'=>e = .returned (rfV (rf s.data.toList))/\w=w':=by
 have HN:∀k (h:k<s.size),s[k]∈BC:=fun k h=>hN _ (List.getElem_mem (l:=s.data.toList) (by simpa using h));have U:=aA HN;clear hN HN;have HL:=aA (fun c W=>Ke c W);by_cases h0:s.size=0
 ·have hl:s.data.toList=[]:=List.eq_nil_of_length_eq_zero (by simpa using h0)
  have HR:Hid (rfV (rf s.data.toList) = .tuple #[.int .u64 0,.int .i64 0,.bool false,.bool false,.bool false,.int .i64 0,.bool false]):=by rw[hl];exact rfl
  clear hl
  go_in
  go_wp2;go_step3
  as_aux_lemma =>
   go_wp2
   try rw[Exit.noGoto_ret]
   refine bodyPost_ret (v:=.tuple #[.int .u64 0,.int .i64 0,.bool false,.bool false,.bool false,.int .i64 0,.bool false]) (by simp[results,results226,go_sem]) rfl ⟨by rw[HR.out],rfl⟩
 have p0:0<s.size:=(by omega);have w1:¬ s=ByteArray.empty:=fun e=>by subst e;simp at p0
 clear h0
 go_in
 go_wp2;go_step3
 go_upto_block 0 with(fail)
 go_cut [4,7] (fun ng i wx=>∃(b:Bool) (o:Nat),ng = .bool b/\i = .int .i64 o/\wx=w/\o<=1/\Hid (b=decide (s.data.toList.head?=some 45))/\Hid (o=AR s.data.toList))
 case first =>
  have E:s.data.toList.head?=some s[0]:=by
   exact A' s.data.toList 0 (by simpa using p0)
  by_cases n:s[0]=45
  ·have V:((s[0].toNat:Int)==43)=false:=Ao (d:=43) (by rw[n];decide)
   have e0:((s[0].toNat:Int)==45)=true:=AH (d:=45) n;have H1:Hid (true=decide (s.data.toList.head?=some 45)):=by unfold Hid;rw[E,n];simp
   have T:Hid (1=AR s.data.toList):=by unfold Hid;rw[AR,E,n];simp
   clear E n
   as_aux_lemma =>
    go_wp2;go_meet;exact⟨true,1,rfl,rfl,rfl,by omega,H1,T⟩
  have e0:((s[0].toNat:Int)==45)=false:=Ao (d:=45) n;have H1:Hid (false=decide (s.data.toList.head?=some 45)):=by unfold Hid;rw[E];simp[n]
  by_cases B:s[0]=43
  ·have V:((s[0].toNat:Int)==43)=true:=AH (d:=43) B
   have T:Hid (1=AR s.data.toList):=by unfold Hid;rw[AR,E,B];simp
   clear E n B
   as_aux_lemma =>
    go_wp2;go_meet;exact⟨false,1,rfl,rfl,rfl,by omega,H1,T⟩
  have V:((s[0].toNat:Int)==43)=false:=Ao (d:=43) B;have T:Hid (0=AR s.data.toList):=by unfold Hid;rw[AR,E];simp[B,n]
  clear E n B
  as_aux_lemma =>
   go_wp2;go_meet;exact⟨false,0,rfl,rfl,rfl,by omega,H1,T⟩
 obtain⟨b,o,rfl,rfl,rfl,s1,Hb,Hi⟩:=hcut
 have hx:¬ o+2<s.size\/(∃h:o+2<s.size,(((s[o].toNat:Int)==48)=false\/(((s[o].toNat:Int)==48)=true/\(((G3 s[o+1]).toNat:Int)==120)=false))):=by
  by_cases h:o+2<s.size
  ·refine .inr ⟨h,?_⟩
   by_cases A:s[o]=48
   ·exact .inr ⟨AH (d:=48) A,Ao (d:=120) (BP (U.out (o+1) (by omega))).2.1⟩
   exact .inl (Ao (d:=48) A)
  exact .inl h
 have HX:=aA hx;clear hx
 go_upto_region 12 with(fail)
 go_cut [54] (fun t wx=>t = .bool false/\wx=wc)
 case first =>
  rcases HX.out with hx | ⟨hx,b1 | ⟨b1,x1⟩⟩ <;>
  ·as_aux_lemma =>
    go_wp2_with (go_at_call 202;refine(HL.out _ _).mono ?_;rintro e w' ⟨rfl,rfl⟩)
    go_meet;exact⟨rfl,rfl⟩
 obtain⟨rfl,rfl⟩:=hcut;clear HX
 go_upto_block 1 with(go_step3)
 go_cut [2,5,7,9,13,14,15,16,17] (fun m g i us z M nd a y wx=>∃(G:RF) (k:Nat),m = .int .u64 G.mant/\g = .bool G.tr/\i = .int .i64 k/\us = .bool false/\z = .bool G.sd/\M = .bool G.sg/\nd = .int .i64 G.nd/\a = .int .i64 G.ndm/\y = .int .i64 G.dp/\wx=wc/\k<=s.size/\G.ok k/\Hid (Bq .init (s.data.toList.drop o)=(G,k-o)/\o<=k))
 case first =>
  go_wp2
  go_loop [2,5,7,9,13,14,15,16,17] (fun m g i us z M nd a y=>∃(G:RF) (k:Nat),m = .int .u64 G.mant/\g = .bool G.tr/\i = .int .i64 k/\us = .bool false/\z = .bool G.sd/\M = .bool G.sg/\nd = .int .i64 G.nd/\a = .int .i64 G.ndm/\y = .int .i64 G.dp/\k<=s.size/\G.ok k/\Hid (Bq .init (s.data.toList.drop o)=((Bq G (s.data.toList.drop k)).1,(Bq G (s.data.toList.drop k)).2+(k-o))/\o<=k)) (fun _ _ i _ _ _ _ _ _=>s.size-(intOf i).toNat)
  case atStart=>exact⟨.init,o,rfl,rfl,rfl,rfl,rfl,rfl,rfl,rfl,rfl,by omega,by simp[RF.ok,RF.init],by simp[Hid]⟩
  obtain⟨⟨mant,nd,a,y,z,M,g⟩,k,rfl,rfl,rfl,rfl,rfl,rfl,rfl,rfl,rfl,hk,L,F⟩:=hrel;obtain⟨o1,o2,o3,o4,o5,o6⟩:=id L;have d0:=aA L;dsimp only at o1 o2 o3 o4 o5 o6;by_cases H:k<s.size
  ·have a0:k<s.data.toList.length:=by simpa using H
   have f0:=BP (U.out k H);have v0:((s[k].toNat:Int)==95)=false:=Ao (d:=95) f0.1
   have m0:Hid (CF ⟨mant,nd,a,y,z,M,g⟩ s[k]=none->Bq .init (s.data.toList.drop o)=(⟨mant,nd,a,y,z,M,g⟩,k-o)/\o<=k):=fun h=>by
    refine⟨?_,F.out.2⟩;rw[F.out.1,Qa _ _ _ a0 h];simp
   have N:Hid (∀Z,CF ⟨mant,nd,a,y,z,M,g⟩ s[k]=some Z->Z.ok (k+1)/\(Bq .init (s.data.toList.drop o)=((Bq Z (s.data.toList.drop (k+1))).1,(Bq Z (s.data.toList.drop (k+1))).2+(k+1-o))/\o<=k+1)):=fun Z h=>by
    refine⟨AaG _ _ _ _ L h,?_,by have:=F.out.2;omega⟩;have:=F.out.2;rw[F.out.1,NQ _ _ _ _ a0 h];simp;omega
   have c1:=aA f0;clear f0 L;have f1:Hid (∀c:UInt8,c=46->Aj c=false):=fun c h=>by subst h;decide
   by_cases x:s[k]=46
   ·have t0:((s[k].toNat:Int)==46)=true:=AH (d:=46) x
    cases z with
    | true =>
      have u:=aA (m0.out (by rw[CF,if_pos x];rfl));clear x
      as_aux_lemma =>
       go_wp2;go_meet;exact⟨⟨mant,nd,a,y,true,M,g⟩,k,rfl,rfl,rfl,rfl,rfl,rfl,rfl,rfl,rfl,rfl,hk,d0.out,u.out⟩
    | false =>
      have u:=aA (N.out _ (by rw[CF,if_pos x];rfl));clear x
      as_aux_lemma =>
       go_wp2
       go_round
       case rel=>exact⟨⟨mant,nd,a,nd,true,M,g⟩,k+1,rfl,rfl,by go_num,rfl,rfl,rfl,rfl,rfl,rfl,by omega,u.out.1,u.out.2⟩
       simp[intOf];omega
   have t0:((s[k].toNat:Int)==46)=false:=Ao (d:=46) x;by_cases D:Aj s[k]=true
   ·have hd1:=(Cq D).1
    have x0:=(Cq D).2;by_cases A:s[k]=48/\nd=0
    ·have J:((s[k].toNat:Int)==48)=true:=AH (d:=48) A.1
     have o0:((nd:Int)==0)=true:=by rw[A.2];rfl
     have u:=aA (N.out _ (by rw[CF,if_neg x,if_pos D,if_pos A]));clear x D A
     as_aux_lemma =>
      go_wp2
      go_round
      case rel=>exact⟨⟨mant,nd,a,y-1,z,true,g⟩,k+1,rfl,rfl,by go_num,rfl,rfl,rfl,rfl,rfl,rfl,by omega,u.out.1,u.out.2⟩
      simp[intOf];omega
    have J:((s[k].toNat:Int)==48)=false\/(((s[k].toNat:Int)==48)=true/\((nd:Int)==0)=false):=by
     by_cases h:s[k]=48
     ·exact .inr ⟨AH (d:=48) h,beq_eq_false_iff_ne.2 (fun e=>A ⟨h,by omega⟩)⟩
     exact .inl (Ao (d:=48) h)
    have k0:=aA J;clear J;by_cases s0:a<19
    ·have u:=aA (N.out _ (by rw[CF,if_neg x,if_pos D,if_neg A,if_pos s0]))
     have v1:mant<1000000000000000000:=by
      have:10^a<=10^18:=Nat.pow_le_pow_right (by omega) (by omega);omega
     clear x D A o1;rcases k0.out with J | ⟨J,o0⟩ <;>
     ·as_aux_lemma =>
       go_wp2
       go_round
       case rel=>exact⟨⟨mant*10+(s[k].toNat-48),nd+1,a+1,y,z,true,g⟩,k+1,by congr 1;simp only[];omega,rfl,by go_num,rfl,rfl,rfl,by go_num,by go_num,rfl,by omega,u.out.1,u.out.2⟩
       simp[intOf];omega
    have u:=aA (N.out _ (by rw[CF,if_neg x,if_pos D,if_neg A,if_neg s0]));by_cases hz:s[k]=48
    ·have J:((s[k].toNat:Int)==48)=true:=AH (d:=48) hz
     have w0:((s[k].toNat:Int) != 48)=false:=Et (d:=48) hz;have o0:((nd:Int)==0)=false:=beq_eq_false_iff_ne.2 (fun e=>A ⟨hz,by omega⟩);rw[if_pos hz] at u;clear x D A o1 hz
     as_aux_lemma =>
      go_wp2
      go_round
      case rel=>exact⟨⟨mant,nd+1,a,y,z,true,g⟩,k+1,rfl,rfl,by go_num,rfl,rfl,rfl,by go_num,rfl,rfl,by omega,u.out.1,u.out.2⟩
      simp[intOf];omega
    have J:((s[k].toNat:Int)==48)=false:=Ao (d:=48) hz;have w0:((s[k].toNat:Int) != 48)=true:=Cu (d:=48) hz;rw[if_neg hz] at u;clear x D A o1 hz
    as_aux_lemma =>
     go_wp2
     go_round
     case rel=>exact⟨⟨mant,nd+1,a,y,z,true,true⟩,k+1,rfl,rfl,by go_num,rfl,rfl,rfl,by go_num,rfl,rfl,by omega,u.out.1,u.out.2⟩
     simp[intOf];omega
   have u:=aA (m0.out (by rw[CF,if_neg x,if_neg D]))
   have R:s[k].toNat<48\/57<s[k].toNat:=by
    simp[Aj,C3] at D;omega
   clear x D;rcases R with R | R <;>
   ·as_aux_lemma =>
     go_wp2;go_meet;exact⟨⟨mant,nd,a,y,z,M,g⟩,k,rfl,rfl,rfl,rfl,rfl,rfl,rfl,rfl,rfl,rfl,hk,d0.out,u.out⟩
  have u:Hid (Bq .init (s.data.toList.drop o)=(⟨mant,nd,a,y,z,M,g⟩,k-o)/\o<=k):=by
   refine⟨?_,F.out.2⟩;rw[F.out.1,NP _ _ _ (by simpa using H)];simp
  as_aux_lemma =>
   go_wp2;go_meet;exact⟨⟨mant,nd,a,y,z,M,g⟩,k,rfl,rfl,rfl,rfl,rfl,rfl,rfl,rfl,rfl,rfl,hk,d0.out,u.out⟩
 obtain⟨⟨mant,nd,a,y,z,M,g⟩,k,rfl,rfl,rfl,rfl,rfl,rfl,rfl,rfl,rfl,rfl,hk,L,F⟩:=hcut;obtain⟨o1,o2,o3,o4,o5,o6⟩:=id L;dsimp only at o1 o2 o3 o4 o5 o6
 have HR:Hid (∀r,Ek s.data.toList b ⟨mant,nd,a,y,z,M,g⟩ k=r->rfV (rf s.data.toList)=rfV r):=fun r h=>by
  rw[<- h];congr 1
  have r0:s.data.toList≠[]:=fun e=>by
   have h1:s.data.toList.length=0:=by rw[e];rfl
   have h2:s.data.toList.length=s.size:=rfl;omega
  have t1:o<=k:=F.out.2;rw[rf,if_neg r0,<- Hi.out,F.out.1,<- Hb.out];show Ek _ _ _ (o+(k-o))=_;rw[show o+(k-o)=k by omega]
 have a1:mant<10000000000000000000:=by
  have:10^a<=10^19:=Nat.pow_le_pow_right (by omega) o2;omega
 clear o1 L
 cases M with
 | false =>
   have P:Hid (rfV (rf s.data.toList) = .tuple #[.int .u64 mant,.int .i64 0,.bool b,.bool g,.bool false,.int .i64 k,.bool false]):=by
    unfold Hid;rw[HR.out ⟨mant,0,b,g,k,false⟩ (by rw[Ek,if_pos rfl])];rfl
   as_aux_lemma =>
    go_wp2
    try rw[Exit.noGoto_ret]
    refine bodyPost_ret (v:=.tuple #[.int .u64 mant,.int .i64 0,.bool b,.bool g,.bool false,.int .i64 k,.bool false]) (by simp[results,results226,go_sem]) rfl ⟨by rw[P.out],rfl⟩
 | true =>
   go_upto_if 142 with(fail)
   go_cut [17] (fun q wx=>∃d:Int,q = .int .i64 d/\wx=wc /\ -(k:Int)<=d/\d<=k/\Hid (d=if z=true then y else nd))
   case first =>
    cases z with
    | true =>
      as_aux_lemma =>
       go_wp2;go_meet;exact⟨y,rfl,rfl,o5,o6,rfl⟩
    | false =>
      as_aux_lemma =>
       go_wp2;go_meet;exact⟨nd,rfl,rfl,by omega,by omega,rfl⟩
   obtain⟨d,rfl,rfl,d1,d2,Hd⟩:=hcut
   have HT:Hid (Ek s.data.toList b ⟨mant,nd,a,y,z,true,g⟩ k=if (s.data.toList.drop k).head?=some 101\/(s.data.toList.drop k).head?=some 69 then GB s.data.toList b ⟨mant,nd,a,y,z,true,g⟩ d (k+1) else Dc b ⟨mant,nd,a,y,z,true,g⟩ d k):=by
    unfold Hid;rw[Ek,if_neg (by simp),<- Hd.out]
   by_cases S:∃h:k<s.size,s[k]=101\/s[k]=69
   ·obtain⟨Q,S⟩:=S
    have X:G3 s[k]=101:=(BP (U.out k Q)).2.2.1.2 S;have bl:(((G3 s[k]).toNat:Int)==101)=true:=AH (d:=101) X
    have I:Hid (Ek s.data.toList b ⟨mant,nd,a,y,z,true,g⟩ k=GB s.data.toList b ⟨mant,nd,a,y,z,true,g⟩ d (k+1)):=by
     unfold Hid;rw[HT.out,A' _ _ (by simpa using Q),if_pos (by rcases S with S | S;exact .inl (by rw[<- AO s k Q,S]);exact .inr (by rw[<- AO s k Q,S]))]
    clear HT S X;by_cases y0:k+1<s.size
    ·go_upto_block 4 with(go_at_call 202;refine(HL.out _ _).mono ?_;rintro e w' ⟨rfl,rfl⟩)
     have a0:k+1<s.data.toList.length:=by simpa using y0
     go_cut [7,19] (fun i q wx=>∃(f:Nat) (O:Int),i = .int .i64 f/\q = .int .i64 O/\wx=wc/\f<=s.size/\k+1<=f /\ -1<=O/\O<=1/\Hid (f=k+1+AR (s.data.toList.drop (k+1)))/\Hid (O=if (s.data.toList.drop (k+1)).head?=some 45 then -1 else 1))
     case first =>
      have E:(s.data.toList.drop (k+1)).head?=some s[k+1]:=A' _ _ a0;by_cases n:s[k+1]=45
      ·have V:((s[k+1].toNat:Int)==43)=false:=Ao (d:=43) (by rw[n];decide)
       have e0:((s[k+1].toNat:Int)==45)=true:=AH (d:=45) n;have H1:Hid ((-1:Int)=if (s.data.toList.drop (k+1)).head?=some 45 then -1 else 1):=by unfold Hid;rw[E,n];rfl
       have T:Hid (k+1+1=k+1+AR (s.data.toList.drop (k+1))):=by unfold Hid;rw[AR,E,n];rfl
       clear E n
       as_aux_lemma =>
        go_wp2;go_meet;exact⟨k+1+1,-1,by go_num,rfl,rfl,by omega,by omega,by omega,by omega,T,H1⟩
      have e0:((s[k+1].toNat:Int)==45)=false:=Ao (d:=45) n;have H1:Hid ((1:Int)=if (s.data.toList.drop (k+1)).head?=some 45 then -1 else 1):=by unfold Hid;rw[E,if_neg (fun e=>n (aB.inj e))]
      by_cases B:s[k+1]=43
      ·have V:((s[k+1].toNat:Int)==43)=true:=AH (d:=43) B
       have T:Hid (k+1+1=k+1+AR (s.data.toList.drop (k+1))):=by unfold Hid;rw[AR,E,B];rfl
       clear E n B
       as_aux_lemma =>
        go_wp2;go_meet;exact⟨k+1+1,1,by go_num,rfl,rfl,by omega,by omega,by omega,by omega,T,H1⟩
      have V:((s[k+1].toNat:Int)==43)=false:=Ao (d:=43) B;have T:Hid (k+1=k+1+AR (s.data.toList.drop (k+1))):=by unfold Hid;rw[AR,E,if_neg (fun e=>e.elim (fun e=>B (aB.inj e)) (fun e=>n (aB.inj e)))]
      clear E n B
      as_aux_lemma =>
       go_wp2;go_meet;exact⟨k+1,1,by go_num,rfl,rfl,by omega,by omega,by omega,by omega,T,H1⟩
     obtain⟨f,O,rfl,rfl,rfl,z0,g1,l1,m1,HK,l0⟩:=hcut
     have HX:Hid (GB s.data.toList b ⟨mant,nd,a,y,z,true,g⟩ d (k+1)=if Al Aj (s.data.toList.drop f)=0 then ⟨mant,0,b,g,f,false⟩ else Dc b ⟨mant,nd,a,y,z,true,g⟩ (d+(A7 0 (s.data.toList.drop f)).1*O) (f+(A7 0 (s.data.toList.drop f)).2)):=by
      unfold Hid;rw[GB,if_neg (by omega),<- HK.out,<- l0.out]
     clear HK l0;by_cases D:∃h:f<s.size,Aj s[f]=true
     ·obtain⟨c0,D⟩:=D
      have hd1:=(Cq D).1;have x0:=(Cq D).2
      have n0:Hid (GB s.data.toList b ⟨mant,nd,a,y,z,true,g⟩ d (k+1)=Dc b ⟨mant,nd,a,y,z,true,g⟩ (d+(A7 0 (s.data.toList.drop f)).1*O) (f+(A7 0 (s.data.toList.drop f)).2)):=by
       unfold Hid;rw[HX.out,Da Aj _ _ (by simpa using c0) D,if_neg (by omega)]
      have q1:decide (s.size<=f)=false:=by simp;omega
      have q2:decide ((s[f].toNat:Int)<48)=false:=by simp;omega
      have q3:decide (57<(s[f].toNat:Int))=false:=by simp;omega
      clear D HX
      go_upto_block 5 with(fail)
      clear q1 q2 q3
      go_cut [7,9,20] (fun i us e wx=>∃(j C:Nat),i = .int .i64 j/\us = .bool false/\e = .int .i64 C/\wx=wc/\j<=s.size/\f<=j/\C<=1000000/\Hid (A7 0 (s.data.toList.drop f)=(C,j-f)))
      case first =>
       as_aux_lemma =>
       go_wp2
       go_loop [7,9,20] (fun i us e=>∃(j C:Nat),i = .int .i64 j/\us = .bool false/\e = .int .i64 C/\j<=s.size/\f<=j/\C<=1000000/\Hid (A7 0 (s.data.toList.drop f)=((A7 C (s.data.toList.drop j)).1,(A7 C (s.data.toList.drop j)).2+(j-f)))) (fun i _ _=>s.size-(intOf i).toNat)
       case atStart=>exact⟨f,0,rfl,rfl,rfl,z0,Nat.le_refl _,by omega,by simp[Hid]⟩
       obtain⟨j,C,rfl,rfl,rfl,hj,j0,g0,HE⟩:=hrel;by_cases H:j<s.size
       ·have q0:j<s.data.toList.length:=by simpa using H
        have v0:((s[j].toNat:Int)==95)=false:=Ao (d:=95) (BP (U.out j H)).1;by_cases K:Aj s[j]=true
        ·have e1:=(Cq K).1
         have e2:=(Cq K).2;have HY:=aA (J6 C _ j q0 K);clear K;by_cases h4:C<10000
         ·have u:Hid (A7 0 (s.data.toList.drop f)=((A7 (C*10+(s[j].toNat-48)) (s.data.toList.drop (j+1))).1,(A7 (C*10+(s[j].toNat-48)) (s.data.toList.drop (j+1))).2+(j+1-f))):=by
           unfold Hid;rw[HE.out,HY.out,if_pos h4,<- AO s j H];simp;omega
          as_aux_lemma =>
           go_wp2
           go_round
           case rel=>exact⟨j+1,C*10+(s[j].toNat-48),by go_num,rfl,by congr 1;omega,by omega,by omega,by omega,u⟩
           simp[intOf];omega
         have u:Hid (A7 0 (s.data.toList.drop f)=((A7 C (s.data.toList.drop (j+1))).1,(A7 C (s.data.toList.drop (j+1))).2+(j+1-f))):=by
          unfold Hid;rw[HE.out,HY.out,if_neg h4];simp;omega
         as_aux_lemma =>
          go_wp2
          go_round
          case rel=>exact⟨j+1,C,by go_num,rfl,rfl,by omega,by omega,by omega,u⟩
          simp[intOf];omega
        have u:Hid (A7 0 (s.data.toList.drop f)=(C,j-f)):=by
         unfold Hid;rw[HE.out,LM _ _ _ q0 (by cases hx:Aj s[j] with | true=>exact absurd hx K | false=>exact hx)];simp
        have R:s[j].toNat<48\/(48<=s[j].toNat/\57<s[j].toNat):=by
         simp[Aj,C3] at K;omega
        clear K;rcases R with R | ⟨j1,k1⟩ <;>
        ·as_aux_lemma =>
          go_wp2;go_meet;exact⟨j,C,rfl,rfl,rfl,rfl,hj,j0,g0,u⟩
       have u:Hid (A7 0 (s.data.toList.drop f)=(C,j-f)):=by
        unfold Hid;rw[HE.out,J3 _ _ _ (by simpa using H)];simp
       as_aux_lemma =>
        go_wp2;go_meet;exact⟨j,C,rfl,rfl,rfl,rfl,hj,j0,g0,u⟩
      obtain⟨j,C,rfl,rfl,rfl,rfl,hj,j0,g0,HE⟩:=hcut
      have b0 : -1000000<=(C:Int)*O/\(C:Int)*O<=1000000:=by
       rcases (show O = -1\/O=0\/O=1 by omega) with h | h | h<;>rw[h]<;>omega
      obtain⟨p,hp⟩:∃p:Int,p=(C:Int)*O:=⟨_,rfl⟩;rw[<- hp] at b0;obtain⟨p1,p2⟩:=b0;have i1:IntKind.i64.wrap ((C:Int)*O)=p:=by rw[<- hp];exact IntWalk.i64_in _ (by omega)
      by_cases Y:mant=0
      ·subst Y
       have P:Hid (rfV (rf s.data.toList) = .tuple #[.int .u64 0,.int .i64 0,.bool b,.bool g,.bool false,.int .i64 j,.bool true]):=by
        unfold Hid;rw[HR.out _ I.out,n0.out,HE.out];show rfV (Dc _ _ _ (f+(j-f)))=_;rw[show f+(j-f)=j by omega];rfl
       clear hp
       as_aux_lemma =>
        go_wp2
        try rw[Exit.noGoto_ret]
        refine bodyPost_ret (v:=.tuple #[.int .u64 0,.int .i64 0,.bool b,.bool g,.bool false,.int .i64 j,.bool true]) (by simp[results,results226,go_sem]) rfl ⟨by rw[P.out],rfl⟩
      have bm:((mant:Int) != 0)=true:=by rw[bne_iff_ne];omega
      have P:Hid (rfV (rf s.data.toList) = .tuple #[.int .u64 mant,.int .i64 (d+p-a),.bool b,.bool g,.bool false,.int .i64 j,.bool true]):=by
       unfold Hid;rw[HR.out _ I.out,n0.out,HE.out];show rfV (Dc _ _ _ (f+(j-f)))=_;rw[show f+(j-f)=j by omega,hp,Dc,rfV];simp only[if_neg Y]
      clear hp
      as_aux_lemma =>
       go_wp2
       try rw[Exit.noGoto_ret]
       refine bodyPost_ret (v:=.tuple #[.int .u64 mant,.int .i64 (d+p-a),.bool b,.bool g,.bool false,.int .i64 j,.bool true]) (by simp[results,results226,go_sem]) rfl ⟨by rw[P.out],rfl⟩
     have P:Hid (rfV (rf s.data.toList) = .tuple #[.int .u64 mant,.int .i64 0,.bool b,.bool g,.bool false,.int .i64 f,.bool false]):=by
      have h0:Al Aj (s.data.toList.drop f)=0:=by
       by_cases h:f<s.size
       ·exact DQ _ _ _ (by simpa using h) (by cases hx:Aj s[f] with | true=>exact absurd ⟨h,hx⟩ D | false=>exact hx)
       exact C' _ _ _ (by simpa using h)
      unfold Hid;rw[HR.out _ I.out,HX.out,if_pos h0];rfl
     have hb:¬ f<s.size\/(∃h:f<s.size,s[f].toNat<48\/(48<=s[f].toNat/\57<s[f].toNat)):=by
      by_cases h:f<s.size
      ·refine .inr ⟨h,?_⟩
       have:¬ Aj s[f]=true:=fun e=>D ⟨h,e⟩;simp[Aj,C3] at this;omega
      exact .inl h
     clear D;rcases hb with hb | ⟨c0,hb | ⟨n1,r1⟩⟩ <;>
     ·as_aux_lemma =>
       go_wp2
       try rw[Exit.noGoto_ret]
       refine bodyPost_ret (v:=.tuple #[.int .u64 mant,.int .i64 0,.bool b,.bool g,.bool false,.int .i64 f,.bool false]) (by simp[results,results226,go_sem]) rfl ⟨by rw[P.out],rfl⟩
    have P:Hid (rfV (rf s.data.toList) = .tuple #[.int .u64 mant,.int .i64 0,.bool b,.bool g,.bool false,.int .i64 (k+1:Nat),.bool false]):=by
     unfold Hid;rw[HR.out ⟨mant,0,b,g,k+1,false⟩ (by rw[I.out,GB,if_pos (by simp;omega)])];rfl
    as_aux_lemma =>
     go_wp2_with (go_at_call 202;refine(HL.out _ _).mono ?_;rintro e w' ⟨rfl,rfl⟩)
     try rw[Exit.noGoto_ret]
     refine bodyPost_ret (v:=.tuple #[.int .u64 mant,.int .i64 0,.bool b,.bool g,.bool false,.int .i64 ((k:Int)+1),.bool false]) (by simp[results,results226,go_sem]) rfl ⟨by rw[P.out];rfl,rfl⟩
   have hb:¬ k<s.size\/(∃h:k<s.size,(((G3 s[k]).toNat:Int)==101)=false):=by
    by_cases h:k<s.size
    ·exact .inr ⟨h,Ao (d:=101) (fun e=>S ⟨h,(BP (U.out k h)).2.2.1.1 e⟩)⟩
    exact .inl h
   have I:Hid (Ek s.data.toList b ⟨mant,nd,a,y,z,true,g⟩ k=Dc b ⟨mant,nd,a,y,z,true,g⟩ d k):=by
    unfold Hid;rw[HT.out,if_neg];intro E;apply S;by_cases h:k<s.size
    ·rw[A' _ _ (by simpa using h)] at E;exact⟨h,E.elim (fun e => .inl (aB.inj e)) (fun e => .inr (aB.inj e))⟩
    rw[Bv _ _ (by simpa using h)] at E;simp at E
   have u:=aA hb;clear HT S hb;by_cases Y:mant=0
   ·subst Y
    have P:Hid (rfV (rf s.data.toList) = .tuple #[.int .u64 0,.int .i64 0,.bool b,.bool g,.bool false,.int .i64 k,.bool true]):=by
     unfold Hid;rw[HR.out _ I.out];rfl
    rcases u.out with hb | ⟨Q,hb⟩ <;>
    ·as_aux_lemma =>
      go_wp2_with (go_at_call 202;refine(HL.out _ _).mono ?_;rintro e w' ⟨rfl,rfl⟩)
      try rw[Exit.noGoto_ret]
      refine bodyPost_ret (v:=.tuple #[.int .u64 0,.int .i64 0,.bool b,.bool g,.bool false,.int .i64 k,.bool true]) (by simp[results,results226,go_sem]) rfl ⟨by rw[P.out],rfl⟩
   have bm:((mant:Int) != 0)=true:=by rw[bne_iff_ne];omega
   have P:Hid (rfV (rf s.data.toList) = .tuple #[.int .u64 mant,.int .i64 (d-a),.bool b,.bool g,.bool false,.int .i64 k,.bool true]):=by
    unfold Hid;rw[HR.out _ I.out,Dc,rfV];simp only[if_neg Y]
   rcases u.out with hb | ⟨Q,hb⟩ <;>
   ·as_aux_lemma =>
     go_wp2_with (go_at_call 202;refine(HL.out _ _).mono ?_;rintro e w' ⟨rfl,rfl⟩)
     try rw[Exit.noGoto_ret]
     refine bodyPost_ret (v:=.tuple #[.int .u64 mant,.int .i64 (d-a),.bool b,.bool g,.bool false,.int .i64 k,.bool true]) (by simp[results,results226,go_sem]) rfl ⟨by rw[P.out],rfl⟩
end Go.Proofs.YtfblenhlildnaaaGreatDoor
