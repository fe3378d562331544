/- Ms -/
import Derived.Test.YtipfpohlnhmlpaaGreatDoorMb
import Derived.Test.YtipfpohlnhmlpaaGreatDoorNl
import Derived.Deep.RegionHeld3
set_option maxRecDepth 100000
set_option maxHeartbeats 16000000
open Go.Lib renaming hid->aA
open Go.Ending renaming returned->aB
open Go.World renaming cell?_alloc_at->aC
open List renaming getElem?_map->aD
namespace Go
open Go.RowKit
section
variable {N:Aw} {k:Int} {nm:List UInt8} {x:Nat} {z:Nat×Nat} {ks:List Tr}
theorem KH (h:CZ N (.mk k nm x z ks)=true) (b:k=6\/k=16\/k=17\/k=18):ks.length=1:=by
 unfold CZ Bi at h;rcases b with a | a | a | a<;>(simp only[Tr.kd,Tr.ks,Tr.nm,Tr.x] at h;subst a;simp at h;exact of_decide_eq_true h.1)
theorem F0 (h:CZ N (.mk k nm x z ks)=true) (b:k=7\/k=9\/k=10\/k=12\/k=13\/k=14\/k=15):ks.length=2:=by
 unfold CZ Bi at h;rcases b with a | a | a | a | a | a | a<;>(simp only[Tr.kd,Tr.ks,Tr.nm,Tr.x] at h;subst a;simp at h;exact of_decide_eq_true h.1)
theorem Vh (h:CZ N (.mk k nm x z ks)=true) (a:k=8):ks.length=3:=by
 unfold CZ Bi at h;simp only[Tr.kd,Tr.ks,Tr.nm,Tr.x] at h;subst a;simp at h;exact of_decide_eq_true h.1
end
end Go
namespace Go.Proofs.YtipfpohlnhmlpaaGreatDoor
open Go.Proofs.Tryz
open Go.RowKit
theorem Py (ff:Nat->List UInt8) (v3:∀x,(ff x).length<=64) (N:Aw) (w0:World)
  (hF:∀x W,N.num x=true->Below w0.heap.size w0 W->Calls prog 77 #[.float .f64 x,.int .u8 103,.int .i64 (-1),.int .i64 64] W fun e o=>e = .returned (.string ⟨(ff x).toArray⟩)/\Below W.heap.size W o)
  (n:Nat) (hE:Hj ff N w0 n):Hj ff N w0 (n+1):=by
 intro t d kv W f5 hb x2 hk hW;obtain⟨k,nm,x,z,ks⟩:=t;rw[LW] at hb;simp only[Bool.and_eq_true] at hb;obtain⟨_,_,p1,v2⟩:=hb;rw[CD] at x2;have y3:DN ks<=n:=by rw[Tr.wt_mk] at f5;omega
 have s2:Am 60 W (fun _=>True) ks kv:=hk;obtain⟨a,f,o5⟩:=s2.slice;subst o5
 have q2:Hid (∀W',Below W.heap.size W W'->Calls prog 33 #[.slice a ks.length f,.string ⟨[44].toArray⟩] W' fun e o=>e = .returned (.string ⟨(A3 [44] (AP ff ks)).toArray⟩)/\Below W'.heap.size W' o) :=
  fun W' p2=>EN ff v3 N w0 n hE ks (d+1) _ [44] W' y3 v2 (by omega) (by decide) (s2.bel p2) (hW.trans (p2.mono hW.size))
 have r2:Hid ((A3 [44] (AP ff ks)).length<=8796093022208):=by
  unfold Hid;rw[Au];have:=Cn [44] (by decide) (AD ff) ks fun t _=>Bs ff v3 t;omega
 have l1:Hid (∀i,i<ks.length->∃b cp kw t,Value.slice a ks.length f = .slice (some ⟨b,0,none⟩) ks.length cp/\ks[i]?=some t /\
   W.cell? ⟨b,5*i,none⟩=some (.int .i64 t.kd)/\W.cell? ⟨b,5*i+1,none⟩=some (.string ⟨t.nm.toArray⟩)/\W.cell? ⟨b,5*i+2,none⟩=some (.float .f64 t.x)/\W.cell? ⟨b,5*i+3,none⟩=some kw/\W.cell? ⟨b,5*i+4,none⟩=some (.complex .f64 t.z.1 t.z.2) /\
   (AD ff t).length<=8796093022208/\∀W',Below W.heap.size W W'->Calls prog 55 #[.agg #[.int .i64 t.kd,.string ⟨t.nm.toArray⟩,.float .f64 t.x,kw,.complex .f64 t.z.1 t.z.2]] W' fun e o=>e = .returned (.string ⟨(AD ff t).toArray⟩)/\Below W'.heap.size W' o):=by
  intro i hi;obtain⟨b,cp,kw,hv,t,ht,n5,e0,e1,e2,e3,e4⟩:=s2.cells i hi;have x3:t∈ks:=List.mem_of_getElem? ht;have h1:=Ax x3;have h2:=Bs ff v3 t;refine⟨b,cp,kw,t,hv,ht,e0,e1,e2,e3,e4,by omega,fun W' p2=>hE t (d+1) kw W' (Nat.le_trans (A9 x3) y3) ?_ (by omega) (n5.bel p2) (hW.trans (p2.mono hW.size))⟩;rw[BU] at v2;exact List.all_eq_true.1 v2 t x3
 have b5:nm.length<=8796093022208:=(by omega);have HF:=aA hF;have HQ:=aA (fun(s:ByteArray) W h=>NI s W h);have z3:=aA hW;show Calls prog 55 #[.agg #[.int .i64 k,.string ⟨nm.toArray⟩,.float .f64 x,.slice a ks.length f,.complex .f64 z.1 z.2]] W _;clear hk s2 hF hE hW f5 y3 v2 x2;by_cases h1:k=1
 ·subst h1
  have c5:N.num x=true:=by
   unfold CZ Bi at p1;simp[Tr.kd,Tr.x,Tr.nm,Tr.ks] at p1;exact p1.2.2
  have HX:Hid (AD ff (.mk 1 nm x z ks)=ff x):=by unfold Hid;rw[Ba];rfl
  have l:Hid (Below W.heap.size W (W.alloc (.cells #[.int .i64 1,.string ⟨nm.toArray⟩,.float .f64 x,.slice a ks.length f,.complex .f64 z.1 z.2] 60))):=Ad W _
  go_in
  go_wp2_with (go_at_call 77;refine(HF.out x _ c5 (z3.out.trans (l.out.mono z3.out.size))).mono ?_;rintro e w1 ⟨rfl,c⟩;have w:=aA (l.out.trans (c.mono l.out.size));clear c)
  go_ret;exact⟨by rw[HX.out];rfl,w.out⟩
 by_cases h2:k=2
 ·subst h2
  have HX:Hid (AD ff (.mk 2 nm x z ks)=G9 nm):=by unfold Hid;rw[Ba];rfl
  have l:Hid (Below W.heap.size W (W.alloc (.cells #[.int .i64 2,.string ⟨nm.toArray⟩,.float .f64 x,.slice a ks.length f,.complex .f64 z.1 z.2] 60))):=Ad W _
  go_in
  go_wp2_with (go_at_call 78;refine(HQ.out ⟨nm.toArray⟩ _ (by show nm.length<=_;omega)).mono ?_;rintro e w1 ⟨rfl,c⟩;have w:=aA (l.out.trans (c.mono l.out.size));clear c)
  go_ret;exact⟨by rw[HX.out];rfl,w.out⟩
 by_cases h3:k=3
 ·subst h3
  have HX:Hid (AD ff (.mk 3 nm x z ks)=[40,47]++Jn nm++[47,41]):=by unfold Hid;rw[Ba];rfl
  have l:Hid (Below W.heap.size W (W.alloc (.cells #[.int .i64 3,.string ⟨nm.toArray⟩,.float .f64 x,.slice a ks.length f,.complex .f64 z.1 z.2] 60))):=Ad W _;obtain⟨s,hs⟩:∃s:ByteArray,s=⟨nm.toArray⟩:=⟨_,rfl⟩;have t5:s.size<=8796093022208:=by rw[hs];exact b5
  have l5:Hid (s.data.toList=nm):=by unfold Hid;rw[hs]
  rw[<- hs] at l ⊢;have m0:(W.alloc (.cells #[.int .i64 3,.string s,.float .f64 x,.slice a ks.length f,.complex .f64 z.1 z.2] 60)).cell? ⟨W.heap.size,1,none⟩=some (.string s):=by rw[aC _ _ _ _ rfl];rfl
  clear hs b5
  go_in
  go_wp2
  go_loopg [4,5] s.size (fun g r5 i wr=>∃(k:Nat) (T:ByteArray),r5 = .string T/\i = .int .i64 k/\k+g=s.size/\T.size<=2*k/\Hid (T.data.toList=(s.data.toList.take k).flatMap s1)/\wr=W.alloc (.cells #[.int .i64 3,.string s,.float .f64 x,.slice a ks.length f,.complex .f64 z.1 z.2] 60))
  case atStart=>exact⟨0,_,rfl,rfl,by omega,by decide,rfl,rfl⟩
  obtain⟨k,T,rfl,rfl,hk,hT,HT,rfl⟩:=hrel;by_cases a5:k<s.size
  ·have HS:Hid ((s.data.toList.take (k+1)).flatMap s1=(s.data.toList.take k).flatMap s1++s1 s[k]):=J_ s1 s.data.toList k a5
   have y2:Hid ((s.extract k (k+1)).data.toList=[s[k]]):=Wc s k a5;have i5:(s.extract k (k+1)).size=1:=Q7 y2.out;have a4:=aA i5;have v5:=UInt8.toNat_lt s[k];clear i5;by_cases z1:s[k]=47
   ·have z2:Hid (s1 s[k]=[92,s[k]]):=by unfold Hid s1;rw[if_pos z1,z1]
    have m5:((s[k].toNat:Int)==47)=true:=by rw[z1];rfl
    clear z1;go_wp2
    go_roundg (gk-1)
    case measure=>omega
    exact⟨k+1,_,rfl,congrArg (Value.int .i64) (by omega),by omega,by rw[AQ,AQ,a4.out];show T.size+1+1<=_;omega,by unfold Hid;rw[A1,A1,HT.out,y2.out,HS.out,z2.out];simp,rfl⟩
   have z2:Hid (s1 s[k]=[s[k]]):=by unfold Hid s1;rw[if_neg z1]
   have m5:((s[k].toNat:Int)==47)=false:=beq_eq_false_iff_ne.2 fun e=>z1 (UInt8.toNat_inj.1 (by show s[k].toNat=47;omega));clear z1;go_wp2
   go_roundg (gk-1)
   case measure=>omega
   exact⟨k+1,_,rfl,congrArg (Value.int .i64) (by omega),by omega,by rw[AQ,a4.out];omega,by unfold Hid;rw[A1,HT.out,y2.out,HS.out,z2.out],rfl⟩
  have HJ:Hid (T.data.toList=Jn nm):=by
   have:=HT.out;rw[List.take_of_length_le (by show s.size<=k;omega),l5.out] at this;exact this
  have g1:¬ 9223372036854775807<2+T.size:=(by omega);have g2:¬ 9223372036854775807<2+T.size+2:=(by omega);go_wp2;go_ret;exact⟨by rw[HX.out];exact congrArg (fun x=>aB (.string x)) (BK (by simp[HJ.out])),l.out⟩
 by_cases h4:k=4
 ·subst h4
  have HX:Hid (AD ff (.mk 4 nm x z ks)=nm):=by unfold Hid;rw[Ba];rfl
  have l:Hid (Below W.heap.size W (W.alloc (.cells #[.int .i64 4,.string ⟨nm.toArray⟩,.float .f64 x,.slice a ks.length f,.complex .f64 z.1 z.2] 60))):=Ad W _
  go_in
  go_wp2;go_ret;exact⟨by rw[HX.out];rfl,l.out⟩
 by_cases h5:k=5
 ·subst h5
  obtain⟨J,eJ⟩:∃J,A3 [44] (AP ff ks)=J:=⟨_,rfl⟩;have hJ:=q2.out;rw[eJ] at hJ;have a2:=r2.out;rw[eJ] at a2;have HJ:=aA hJ;clear hJ
  have m0:(W.alloc (.cells #[.int .i64 5,.string ⟨nm.toArray⟩,.float .f64 x,.slice a ks.length f,.complex .f64 z.1 z.2] 60)).drew.cell? ⟨W.heap.size,1,none⟩=some (.string ⟨nm.toArray⟩):=by
   show (W.alloc (.cells #[.int .i64 5,.string ⟨nm.toArray⟩,.float .f64 x,.slice a ks.length f,.complex .f64 z.1 z.2] 60)).cell? ⟨W.heap.size,1,none⟩=_;rw[aC _ _ _ _ rfl];rfl
  have HX:Hid (AD ff (.mk 5 nm x z ks)=nm++[91]++J++[93]):=by
   unfold Hid;rw[Ba,<- eJ];unfold CI;simp
  clear eJ;have g1:¬ 9223372036854775807<nm.length+1:=(by omega);have g2:¬ 9223372036854775807<nm.length+1+J.length:=(by omega);have g3:¬ 9223372036854775807<nm.length+1+J.length+1:=by omega
  go_in
  have l:Hid (Below W.heap.size W (W.alloc (.cells #[.int .i64 5,.string ⟨nm.toArray⟩,.float .f64 x,.slice a ks.length f,.complex .f64 z.1 z.2] 60)).drew):=AC W _
  go_wp2_with fail
  go_region_held3 (fun o=>o.cell? ⟨W.heap.size,1,none⟩=some (.string ⟨nm.toArray⟩)) (first | with_reducible exact y | with_reducible exact m0)
   (first | (go_at_call 33;have hz:=l;clear hz;refine(HJ.out _ l.out).mono ?_;rintro e w1 ⟨rfl,c⟩;have w:=aA (l.out.trans (c.mono l.out.size));have y:=Aa m0 c;clear c))
  go_wp2;go_ret;exact⟨by rw[HX.out];exact congrArg (fun x=>aB (.string x)) (BK (by simp)),w.out⟩
 by_cases h6:k=6
 ·subst h6
  have m:ks.length=1:=KH p1 (by decide);obtain⟨j,o1,k1,H,S,R,K,M,O,P,Q,f1,G⟩:=l1.out 0 (by omega);obtain⟨rfl⟩:a=some ⟨j,0,none⟩:=(by injection S);have U:=Az K (.cells #[.int .i64 6,.string ⟨nm.toArray⟩,.float .f64 x,.slice (some ⟨j,0,none⟩) 1 f,.complex .f64 z.1 z.2] 60);have V:=Az M (.cells #[.int .i64 6,.string ⟨nm.toArray⟩,.float .f64 x,.slice (some ⟨j,0,none⟩) 1 f,.complex .f64 z.1 z.2] 60);have X:=Az O (.cells #[.int .i64 6,.string ⟨nm.toArray⟩,.float .f64 x,.slice (some ⟨j,0,none⟩) 1 f,.complex .f64 z.1 z.2] 60);have Y:=Az P (.cells #[.int .i64 6,.string ⟨nm.toArray⟩,.float .f64 x,.slice (some ⟨j,0,none⟩) 1 f,.complex .f64 z.1 z.2] 60)
  have Z:=Az Q (.cells #[.int .i64 6,.string ⟨nm.toArray⟩,.float .f64 x,.slice (some ⟨j,0,none⟩) 1 f,.complex .f64 z.1 z.2] 60);obtain⟨I,A⟩:∃L,AD ff H=L:=⟨_,rfl⟩;rw[A] at f1 G;have p0:=aA G;have n1:=aA m
  have HX:Hid (AD ff (.mk 6 nm x z ks)=[36,40]++I++[41]):=by
   unfold Hid;rw[Ba,Au];unfold CI;simp[aD,R,A]
  rw[m];clear R S A G K M O P Q m;have g1:¬ 9223372036854775807<2+I.length:=(by omega);have g2:¬ 9223372036854775807<2+I.length+1:=by omega
  go_in
  have l:Hid (Below W.heap.size W (W.alloc (.cells #[.int .i64 6,.string ⟨nm.toArray⟩,.float .f64 x,.slice (some ⟨j,0,none⟩) 1 f,.complex .f64 z.1 z.2] 60))):=Ad W _
  go_wp2_with (first | (go_at_call 55;have hz:=l;clear hz;refine(p0.out _ l.out).mono ?_;rintro e w1 ⟨rfl,c⟩;have w:=aA (l.out.trans (c.mono l.out.size));have p:=Aa U c;have q:=Aa V c;have r:=Aa X c;have u:=Aa Y c;have v:=Aa Z c;clear c))
  go_ret;exact⟨by rw[HX.out];exact congrArg (fun x=>aB (.string x)) (BK (by simp)),w.out⟩
 by_cases h7:k=7
 ·subst h7
  have m:ks.length=2:=F0 p1 (by decide);obtain⟨j,o1,k1,H,S,R,K,M,O,P,Q,f1,G⟩:=l1.out 0 (by omega);obtain⟨b1,y1,x1,t1,j1,i1,q0,r0,s0,v0,x0,r1,o0⟩:=l1.out 1 (by omega);obtain⟨rfl⟩:a=some ⟨j,0,none⟩:=(by injection S);obtain rfl:j=b1:=by injection j1 with h _ _;injection h with h;injection h with h _ _
  have U:=Ab K (.cells #[.int .i64 7,.string ⟨nm.toArray⟩,.float .f64 x,.slice (some ⟨j,0,none⟩) 2 f,.complex .f64 z.1 z.2] 60);have V:=Ab M (.cells #[.int .i64 7,.string ⟨nm.toArray⟩,.float .f64 x,.slice (some ⟨j,0,none⟩) 2 f,.complex .f64 z.1 z.2] 60);have X:=Ab O (.cells #[.int .i64 7,.string ⟨nm.toArray⟩,.float .f64 x,.slice (some ⟨j,0,none⟩) 2 f,.complex .f64 z.1 z.2] 60);have Y:=Ab P (.cells #[.int .i64 7,.string ⟨nm.toArray⟩,.float .f64 x,.slice (some ⟨j,0,none⟩) 2 f,.complex .f64 z.1 z.2] 60);have Z:=Ab Q (.cells #[.int .i64 7,.string ⟨nm.toArray⟩,.float .f64 x,.slice (some ⟨j,0,none⟩) 2 f,.complex .f64 z.1 z.2] 60)
  obtain⟨I,A⟩:∃L,AD ff H=L:=⟨_,rfl⟩;rw[A] at f1 G;have p0:=aA G;have y0:=Ab q0 (.cells #[.int .i64 7,.string ⟨nm.toArray⟩,.float .f64 x,.slice (some ⟨j,0,none⟩) 2 f,.complex .f64 z.1 z.2] 60);have z0:=Ab r0 (.cells #[.int .i64 7,.string ⟨nm.toArray⟩,.float .f64 x,.slice (some ⟨j,0,none⟩) 2 f,.complex .f64 z.1 z.2] 60);have a1:=Ab s0 (.cells #[.int .i64 7,.string ⟨nm.toArray⟩,.float .f64 x,.slice (some ⟨j,0,none⟩) 2 f,.complex .f64 z.1 z.2] 60);have c1:=Ab v0 (.cells #[.int .i64 7,.string ⟨nm.toArray⟩,.float .f64 x,.slice (some ⟨j,0,none⟩) 2 f,.complex .f64 z.1 z.2] 60)
  have d1:=Ab x0 (.cells #[.int .i64 7,.string ⟨nm.toArray⟩,.float .f64 x,.slice (some ⟨j,0,none⟩) 2 f,.complex .f64 z.1 z.2] 60);obtain⟨L1,n0⟩:∃L,AD ff t1=L:=⟨_,rfl⟩;rw[n0] at r1 o0;have q1:=aA o0;have n1:=aA m
  have m0:(W.alloc (.cells #[.int .i64 7,.string ⟨nm.toArray⟩,.float .f64 x,.slice (some ⟨j,0,none⟩) 2 f,.complex .f64 z.1 z.2] 60)).drew.cell? ⟨W.heap.size,1,none⟩=some (.string ⟨nm.toArray⟩):=by
   show (W.alloc (.cells #[.int .i64 7,.string ⟨nm.toArray⟩,.float .f64 x,.slice (some ⟨j,0,none⟩) 2 f,.complex .f64 z.1 z.2] 60)).cell? ⟨W.heap.size,1,none⟩=_;rw[aC _ _ _ _ rfl];rfl
  have HX:Hid (AD ff (.mk 7 nm x z ks)=[40]++I++[32]++nm++[32]++L1++[41]):=by
   unfold Hid;rw[Ba,Au];unfold CI;simp[aD,R,i1,A,n0]
  rw[m];clear R S A G K M O P Q i1 j1 n0 o0 q0 r0 s0 v0 x0 m;have g1:¬ 9223372036854775807<1+I.length:=(by omega);have g2:¬ 9223372036854775807<1+I.length+1:=(by omega);have g3:¬ 9223372036854775807<1+I.length+1+nm.length:=(by omega);have g4:¬ 9223372036854775807<1+I.length+1+nm.length+1:=(by omega);have g5:¬ 9223372036854775807<1+I.length+1+nm.length+1+L1.length:=(by omega);have g6:¬ 9223372036854775807<1+I.length+1+nm.length+1+L1.length+1:=by omega
  go_in
  have l:Hid (Below W.heap.size W (W.alloc (.cells #[.int .i64 7,.string ⟨nm.toArray⟩,.float .f64 x,.slice (some ⟨j,0,none⟩) 2 f,.complex .f64 z.1 z.2] 60)).drew):=AC W _
  go_wp2_with fail
  go_region_held3 (fun o=>o.cell? ⟨j,0,none⟩=some (.int .i64 H.kd)/\o.cell? ⟨j,1,none⟩=some (.string ⟨H.nm.toArray⟩)/\o.cell? ⟨j,2,none⟩=some (.float .f64 H.x)/\o.cell? ⟨j,3,none⟩=some (k1)/\o.cell? ⟨j,4,none⟩=some (.complex .f64 H.z.1 H.z.2)/\o.cell? ⟨j,5,none⟩=some (.int .i64 t1.kd)/\o.cell? ⟨j,6,none⟩=some (.string ⟨t1.nm.toArray⟩)/\o.cell? ⟨j,7,none⟩=some (.float .f64 t1.x)/\o.cell? ⟨j,8,none⟩=some (x1)/\o.cell? ⟨j,9,none⟩=some (.complex .f64 t1.z.1 t1.z.2)/\o.cell? ⟨W.heap.size,1,none⟩=some (.string ⟨nm.toArray⟩)) (first | with_reducible exact⟨a0,c0,d0,f0,g0,h0,i0,j0,k0,l0,v1⟩ | with_reducible exact⟨p,q,r,u,v,B,C,D,E,F,y⟩ | with_reducible exact⟨U,V,X,Y,Z,y0,z0,a1,c1,d1,m0⟩)
   (first | (go_at_call 55;have hz:=w;clear hz;refine(q1.out _ w.out).mono ?_;rintro e w2 ⟨rfl,c⟩;have m1:=aA (w.out.trans (c.mono w.out.size));have a0:=Aa p c;have c0:=Aa q c;have d0:=Aa r c;have f0:=Aa u c;have g0:=Aa v c;have h0:=Aa B c;have i0:=Aa C c;have j0:=Aa D c;have k0:=Aa E c;have l0:=Aa F c;have v1:=Aa y c;clear c) | (go_at_call 55;have hz:=l;clear hz;refine(p0.out _ l.out).mono ?_;rintro e w1 ⟨rfl,c⟩;have w:=aA (l.out.trans (c.mono l.out.size));have p:=Aa U c;have q:=Aa V c;have r:=Aa X c;have u:=Aa Y c;have v:=Aa Z c;have B:=Aa y0 c;have C:=Aa z0 c;have D:=Aa a1 c;have E:=Aa c1 c;have F:=Aa d1 c;have y:=Aa m0 c;clear c))
  go_wp2;go_ret;exact⟨by rw[HX.out];exact congrArg (fun x=>aB (.string x)) (BK (by simp)),m1.out⟩
 by_cases h8:k=8
 ·subst h8
  have m:ks.length=3:=Vh p1 (by decide);obtain⟨j,o1,k1,H,S,R,K,M,O,P,Q,f1,G⟩:=l1.out 0 (by omega);obtain⟨b1,y1,x1,t1,j1,i1,q0,r0,s0,v0,x0,r1,o0⟩:=l1.out 1 (by omega);obtain⟨b2,s5,q5,t2,e5,d5,b4,c4,d4,f4,i4,p5,t3⟩:=l1.out 2 (by omega);obtain⟨rfl⟩:a=some ⟨j,0,none⟩:=(by injection S);obtain rfl:j=b1:=by injection j1 with h _ _;injection h with h;injection h with h _ _
  obtain rfl:j=b2:=by injection e5 with h _ _;injection h with h;injection h with h _ _
  have U:=Ab K (.cells #[.int .i64 8,.string ⟨nm.toArray⟩,.float .f64 x,.slice (some ⟨j,0,none⟩) 3 f,.complex .f64 z.1 z.2] 60);have V:=Ab M (.cells #[.int .i64 8,.string ⟨nm.toArray⟩,.float .f64 x,.slice (some ⟨j,0,none⟩) 3 f,.complex .f64 z.1 z.2] 60);have X:=Ab O (.cells #[.int .i64 8,.string ⟨nm.toArray⟩,.float .f64 x,.slice (some ⟨j,0,none⟩) 3 f,.complex .f64 z.1 z.2] 60);have Y:=Ab P (.cells #[.int .i64 8,.string ⟨nm.toArray⟩,.float .f64 x,.slice (some ⟨j,0,none⟩) 3 f,.complex .f64 z.1 z.2] 60);have Z:=Ab Q (.cells #[.int .i64 8,.string ⟨nm.toArray⟩,.float .f64 x,.slice (some ⟨j,0,none⟩) 3 f,.complex .f64 z.1 z.2] 60)
  obtain⟨I,A⟩:∃L,AD ff H=L:=⟨_,rfl⟩;rw[A] at f1 G;have p0:=aA G;have y0:=Ab q0 (.cells #[.int .i64 8,.string ⟨nm.toArray⟩,.float .f64 x,.slice (some ⟨j,0,none⟩) 3 f,.complex .f64 z.1 z.2] 60);have z0:=Ab r0 (.cells #[.int .i64 8,.string ⟨nm.toArray⟩,.float .f64 x,.slice (some ⟨j,0,none⟩) 3 f,.complex .f64 z.1 z.2] 60);have a1:=Ab s0 (.cells #[.int .i64 8,.string ⟨nm.toArray⟩,.float .f64 x,.slice (some ⟨j,0,none⟩) 3 f,.complex .f64 z.1 z.2] 60);have c1:=Ab v0 (.cells #[.int .i64 8,.string ⟨nm.toArray⟩,.float .f64 x,.slice (some ⟨j,0,none⟩) 3 f,.complex .f64 z.1 z.2] 60)
  have d1:=Ab x0 (.cells #[.int .i64 8,.string ⟨nm.toArray⟩,.float .f64 x,.slice (some ⟨j,0,none⟩) 3 f,.complex .f64 z.1 z.2] 60);obtain⟨L1,n0⟩:∃L,AD ff t1=L:=⟨_,rfl⟩;rw[n0] at r1 o0;have q1:=aA o0;have j4:=Ab b4 (.cells #[.int .i64 8,.string ⟨nm.toArray⟩,.float .f64 x,.slice (some ⟨j,0,none⟩) 3 f,.complex .f64 z.1 z.2] 60);have k4:=Ab c4 (.cells #[.int .i64 8,.string ⟨nm.toArray⟩,.float .f64 x,.slice (some ⟨j,0,none⟩) 3 f,.complex .f64 z.1 z.2] 60);have l4:=Ab d4 (.cells #[.int .i64 8,.string ⟨nm.toArray⟩,.float .f64 x,.slice (some ⟨j,0,none⟩) 3 f,.complex .f64 z.1 z.2] 60)
  have m4:=Ab f4 (.cells #[.int .i64 8,.string ⟨nm.toArray⟩,.float .f64 x,.slice (some ⟨j,0,none⟩) 3 f,.complex .f64 z.1 z.2] 60);have n4:=Ab i4 (.cells #[.int .i64 8,.string ⟨nm.toArray⟩,.float .f64 x,.slice (some ⟨j,0,none⟩) 3 f,.complex .f64 z.1 z.2] 60);obtain⟨L2,a3⟩:∃L,AD ff t2=L:=⟨_,rfl⟩;rw[a3] at p5 t3;have k5:=aA t3;have n1:=aA m
  have HX:Hid (AD ff (.mk 8 nm x z ks)=[40]++I++[32,63,32]++L1++[32,58,32]++L2++[41]):=by
   unfold Hid;rw[Ba,Au];unfold CI;simp[aD,R,i1,d5,A,n0,a3]
  rw[m];clear R S A G K M O P Q i1 j1 n0 o0 q0 r0 s0 v0 x0 d5 e5 a3 t3 b4 c4 d4 f4 i4 m;have g1:¬ 9223372036854775807<1+I.length:=(by omega);have g2:¬ 9223372036854775807<1+I.length+3:=(by omega);have g3:¬ 9223372036854775807<1+I.length+3+L1.length:=(by omega);have g4:¬ 9223372036854775807<1+I.length+3+L1.length+3:=(by omega);have g5:¬ 9223372036854775807<1+I.length+3+L1.length+3+L2.length:=(by omega);have g6:¬ 9223372036854775807<1+I.length+3+L1.length+3+L2.length+1:=by omega
  go_in
  have l:Hid (Below W.heap.size W (W.alloc (.cells #[.int .i64 8,.string ⟨nm.toArray⟩,.float .f64 x,.slice (some ⟨j,0,none⟩) 3 f,.complex .f64 z.1 z.2] 60)).drew):=AC W _
  go_wp2_with fail
  go_region_held3 (fun o=>o.cell? ⟨j,0,none⟩=some (.int .i64 H.kd)/\o.cell? ⟨j,1,none⟩=some (.string ⟨H.nm.toArray⟩)/\o.cell? ⟨j,2,none⟩=some (.float .f64 H.x)/\o.cell? ⟨j,3,none⟩=some (k1)/\o.cell? ⟨j,4,none⟩=some (.complex .f64 H.z.1 H.z.2)/\o.cell? ⟨j,5,none⟩=some (.int .i64 t1.kd)/\o.cell? ⟨j,6,none⟩=some (.string ⟨t1.nm.toArray⟩)/\o.cell? ⟨j,7,none⟩=some (.float .f64 t1.x)/\o.cell? ⟨j,8,none⟩=some (x1)/\o.cell? ⟨j,9,none⟩=some (.complex .f64 t1.z.1 t1.z.2)/\o.cell? ⟨j,10,none⟩=some (.int .i64 t2.kd)/\o.cell? ⟨j,11,none⟩=some (.string ⟨t2.nm.toArray⟩)/\o.cell? ⟨j,12,none⟩=some (.float .f64 t2.x)/\o.cell? ⟨j,13,none⟩=some (q5)/\o.cell? ⟨j,14,none⟩=some (.complex .f64 t2.z.1 t2.z.2)) (first | with_reducible exact⟨b3,c3,d3,f3,i3,j3,k3,l3,m3,n3,o3,p3,q3,r3,s3⟩ | with_reducible exact⟨a0,c0,d0,f0,g0,h0,i0,j0,k0,l0,d2,i2,k2,m2,o2⟩ | with_reducible exact⟨p,q,r,u,v,B,C,D,E,F,c2,f2,j2,l2,n2⟩ | with_reducible exact⟨U,V,X,Y,Z,y0,z0,a1,c1,d1,j4,k4,l4,m4,n4⟩)
   (first | (go_at_call 55;have hz:=m1;clear hz;refine(k5.out _ m1.out).mono ?_;rintro e w3 ⟨rfl,c⟩;have j5:=aA (m1.out.trans (c.mono m1.out.size));have b3:=Aa a0 c;have c3:=Aa c0 c;have d3:=Aa d0 c;have f3:=Aa f0 c;have i3:=Aa g0 c;have j3:=Aa h0 c;have k3:=Aa i0 c;have l3:=Aa j0 c;have m3:=Aa k0 c;have n3:=Aa l0 c;have o3:=Aa d2 c;have p3:=Aa i2 c;have q3:=Aa k2 c;have r3:=Aa m2 c;have s3:=Aa o2 c;clear c) | (go_at_call 55;have hz:=w;clear hz;refine(q1.out _ w.out).mono ?_;rintro e w2 ⟨rfl,c⟩;have m1:=aA (w.out.trans (c.mono w.out.size));have a0:=Aa p c;have c0:=Aa q c;have d0:=Aa r c;have f0:=Aa u c;have g0:=Aa v c;have h0:=Aa B c;have i0:=Aa C c;have j0:=Aa D c;have k0:=Aa E c;have l0:=Aa F c;have d2:=Aa c2 c;have i2:=Aa f2 c;have k2:=Aa j2 c;have m2:=Aa l2 c;have o2:=Aa n2 c;clear c) | (go_at_call 55;have hz:=l;clear hz;refine(p0.out _ l.out).mono ?_;rintro e w1 ⟨rfl,c⟩;have w:=aA (l.out.trans (c.mono l.out.size));have p:=Aa U c;have q:=Aa V c;have r:=Aa X c;have u:=Aa Y c;have v:=Aa Z c;have B:=Aa y0 c;have C:=Aa z0 c;have D:=Aa a1 c;have E:=Aa c1 c;have F:=Aa d1 c;have c2:=Aa j4 c;have f2:=Aa k4 c;have j2:=Aa l4 c;have l2:=Aa m4 c;have n2:=Aa n4 c;clear c))
  go_wp2;go_ret;exact⟨by rw[HX.out];exact congrArg (fun x=>aB (.string x)) (BK (by simp)),j5.out⟩
 by_cases h9:k=9
 ·subst h9
  have m:ks.length=2:=F0 p1 (by decide);obtain⟨j,o1,k1,H,S,R,K,M,O,P,Q,f1,G⟩:=l1.out 0 (by omega);obtain⟨b1,y1,x1,t1,j1,i1,q0,r0,s0,v0,x0,r1,o0⟩:=l1.out 1 (by omega);obtain⟨rfl⟩:a=some ⟨j,0,none⟩:=(by injection S);obtain rfl:j=b1:=by injection j1 with h _ _;injection h with h;injection h with h _ _
  have U:=Ab K (.cells #[.int .i64 9,.string ⟨nm.toArray⟩,.float .f64 x,.slice (some ⟨j,0,none⟩) 2 f,.complex .f64 z.1 z.2] 60);have V:=Ab M (.cells #[.int .i64 9,.string ⟨nm.toArray⟩,.float .f64 x,.slice (some ⟨j,0,none⟩) 2 f,.complex .f64 z.1 z.2] 60);have X:=Ab O (.cells #[.int .i64 9,.string ⟨nm.toArray⟩,.float .f64 x,.slice (some ⟨j,0,none⟩) 2 f,.complex .f64 z.1 z.2] 60);have Y:=Ab P (.cells #[.int .i64 9,.string ⟨nm.toArray⟩,.float .f64 x,.slice (some ⟨j,0,none⟩) 2 f,.complex .f64 z.1 z.2] 60);have Z:=Ab Q (.cells #[.int .i64 9,.string ⟨nm.toArray⟩,.float .f64 x,.slice (some ⟨j,0,none⟩) 2 f,.complex .f64 z.1 z.2] 60)
  obtain⟨I,A⟩:∃L,AD ff H=L:=⟨_,rfl⟩;rw[A] at f1 G;have p0:=aA G;have y0:=Ab q0 (.cells #[.int .i64 9,.string ⟨nm.toArray⟩,.float .f64 x,.slice (some ⟨j,0,none⟩) 2 f,.complex .f64 z.1 z.2] 60);have z0:=Ab r0 (.cells #[.int .i64 9,.string ⟨nm.toArray⟩,.float .f64 x,.slice (some ⟨j,0,none⟩) 2 f,.complex .f64 z.1 z.2] 60);have a1:=Ab s0 (.cells #[.int .i64 9,.string ⟨nm.toArray⟩,.float .f64 x,.slice (some ⟨j,0,none⟩) 2 f,.complex .f64 z.1 z.2] 60);have c1:=Ab v0 (.cells #[.int .i64 9,.string ⟨nm.toArray⟩,.float .f64 x,.slice (some ⟨j,0,none⟩) 2 f,.complex .f64 z.1 z.2] 60)
  have d1:=Ab x0 (.cells #[.int .i64 9,.string ⟨nm.toArray⟩,.float .f64 x,.slice (some ⟨j,0,none⟩) 2 f,.complex .f64 z.1 z.2] 60);obtain⟨L1,n0⟩:∃L,AD ff t1=L:=⟨_,rfl⟩;rw[n0] at r1 o0;have q1:=aA o0;have n1:=aA m
  have HX:Hid (AD ff (.mk 9 nm x z ks)=[40]++I++[32,124,124,32]++L1++[41]):=by
   unfold Hid;rw[Ba,Au];unfold CI;simp[aD,R,i1,A,n0]
  rw[m];clear R S A G K M O P Q i1 j1 n0 o0 q0 r0 s0 v0 x0 m;have g1:¬ 9223372036854775807<1+I.length:=(by omega);have g2:¬ 9223372036854775807<1+I.length+4:=(by omega);have g3:¬ 9223372036854775807<1+I.length+4+L1.length:=(by omega);have g4:¬ 9223372036854775807<1+I.length+4+L1.length+1:=by omega
  go_in
  have l:Hid (Below W.heap.size W (W.alloc (.cells #[.int .i64 9,.string ⟨nm.toArray⟩,.float .f64 x,.slice (some ⟨j,0,none⟩) 2 f,.complex .f64 z.1 z.2] 60)).drew):=AC W _
  go_wp2_with fail
  go_region_held3 (fun o=>o.cell? ⟨j,0,none⟩=some (.int .i64 H.kd)/\o.cell? ⟨j,1,none⟩=some (.string ⟨H.nm.toArray⟩)/\o.cell? ⟨j,2,none⟩=some (.float .f64 H.x)/\o.cell? ⟨j,3,none⟩=some (k1)/\o.cell? ⟨j,4,none⟩=some (.complex .f64 H.z.1 H.z.2)/\o.cell? ⟨j,5,none⟩=some (.int .i64 t1.kd)/\o.cell? ⟨j,6,none⟩=some (.string ⟨t1.nm.toArray⟩)/\o.cell? ⟨j,7,none⟩=some (.float .f64 t1.x)/\o.cell? ⟨j,8,none⟩=some (x1)/\o.cell? ⟨j,9,none⟩=some (.complex .f64 t1.z.1 t1.z.2)) (first | with_reducible exact⟨a0,c0,d0,f0,g0,h0,i0,j0,k0,l0⟩ | with_reducible exact⟨p,q,r,u,v,B,C,D,E,F⟩ | with_reducible exact⟨U,V,X,Y,Z,y0,z0,a1,c1,d1⟩)
   (first | (go_at_call 55;have hz:=w;clear hz;refine(q1.out _ w.out).mono ?_;rintro e w2 ⟨rfl,c⟩;have m1:=aA (w.out.trans (c.mono w.out.size));have a0:=Aa p c;have c0:=Aa q c;have d0:=Aa r c;have f0:=Aa u c;have g0:=Aa v c;have h0:=Aa B c;have i0:=Aa C c;have j0:=Aa D c;have k0:=Aa E c;have l0:=Aa F c;clear c) | (go_at_call 55;have hz:=l;clear hz;refine(p0.out _ l.out).mono ?_;rintro e w1 ⟨rfl,c⟩;have w:=aA (l.out.trans (c.mono l.out.size));have p:=Aa U c;have q:=Aa V c;have r:=Aa X c;have u:=Aa Y c;have v:=Aa Z c;have B:=Aa y0 c;have C:=Aa z0 c;have D:=Aa a1 c;have E:=Aa c1 c;have F:=Aa d1 c;clear c))
  go_wp2;go_ret;exact⟨by rw[HX.out];exact congrArg (fun x=>aB (.string x)) (BK (by simp)),m1.out⟩
 by_cases o4:k=10
 ·subst o4
  have m:ks.length=2:=F0 p1 (by decide);obtain⟨j,o1,k1,H,S,R,K,M,O,P,Q,f1,G⟩:=l1.out 0 (by omega);obtain⟨b1,y1,x1,t1,j1,i1,q0,r0,s0,v0,x0,r1,o0⟩:=l1.out 1 (by omega);obtain⟨rfl⟩:a=some ⟨j,0,none⟩:=(by injection S);obtain rfl:j=b1:=by injection j1 with h _ _;injection h with h;injection h with h _ _
  have U:=Ab K (.cells #[.int .i64 10,.string ⟨nm.toArray⟩,.float .f64 x,.slice (some ⟨j,0,none⟩) 2 f,.complex .f64 z.1 z.2] 60);have V:=Ab M (.cells #[.int .i64 10,.string ⟨nm.toArray⟩,.float .f64 x,.slice (some ⟨j,0,none⟩) 2 f,.complex .f64 z.1 z.2] 60);have X:=Ab O (.cells #[.int .i64 10,.string ⟨nm.toArray⟩,.float .f64 x,.slice (some ⟨j,0,none⟩) 2 f,.complex .f64 z.1 z.2] 60);have Y:=Ab P (.cells #[.int .i64 10,.string ⟨nm.toArray⟩,.float .f64 x,.slice (some ⟨j,0,none⟩) 2 f,.complex .f64 z.1 z.2] 60);have Z:=Ab Q (.cells #[.int .i64 10,.string ⟨nm.toArray⟩,.float .f64 x,.slice (some ⟨j,0,none⟩) 2 f,.complex .f64 z.1 z.2] 60)
  obtain⟨I,A⟩:∃L,AD ff H=L:=⟨_,rfl⟩;rw[A] at f1 G;have p0:=aA G;have y0:=Ab q0 (.cells #[.int .i64 10,.string ⟨nm.toArray⟩,.float .f64 x,.slice (some ⟨j,0,none⟩) 2 f,.complex .f64 z.1 z.2] 60);have z0:=Ab r0 (.cells #[.int .i64 10,.string ⟨nm.toArray⟩,.float .f64 x,.slice (some ⟨j,0,none⟩) 2 f,.complex .f64 z.1 z.2] 60);have a1:=Ab s0 (.cells #[.int .i64 10,.string ⟨nm.toArray⟩,.float .f64 x,.slice (some ⟨j,0,none⟩) 2 f,.complex .f64 z.1 z.2] 60);have c1:=Ab v0 (.cells #[.int .i64 10,.string ⟨nm.toArray⟩,.float .f64 x,.slice (some ⟨j,0,none⟩) 2 f,.complex .f64 z.1 z.2] 60)
  have d1:=Ab x0 (.cells #[.int .i64 10,.string ⟨nm.toArray⟩,.float .f64 x,.slice (some ⟨j,0,none⟩) 2 f,.complex .f64 z.1 z.2] 60);obtain⟨L1,n0⟩:∃L,AD ff t1=L:=⟨_,rfl⟩;rw[n0] at r1 o0;have q1:=aA o0;have n1:=aA m
  have HX:Hid (AD ff (.mk 10 nm x z ks)=[40]++I++[32,38,38,32]++L1++[41]):=by
   unfold Hid;rw[Ba,Au];unfold CI;simp[aD,R,i1,A,n0]
  rw[m];clear R S A G K M O P Q i1 j1 n0 o0 q0 r0 s0 v0 x0 m;have g1:¬ 9223372036854775807<1+I.length:=(by omega);have g2:¬ 9223372036854775807<1+I.length+4:=(by omega);have g3:¬ 9223372036854775807<1+I.length+4+L1.length:=(by omega);have g4:¬ 9223372036854775807<1+I.length+4+L1.length+1:=by omega
  go_in
  have l:Hid (Below W.heap.size W (W.alloc (.cells #[.int .i64 10,.string ⟨nm.toArray⟩,.float .f64 x,.slice (some ⟨j,0,none⟩) 2 f,.complex .f64 z.1 z.2] 60)).drew):=AC W _
  go_wp2_with fail
  go_region_held3 (fun o=>o.cell? ⟨j,0,none⟩=some (.int .i64 H.kd)/\o.cell? ⟨j,1,none⟩=some (.string ⟨H.nm.toArray⟩)/\o.cell? ⟨j,2,none⟩=some (.float .f64 H.x)/\o.cell? ⟨j,3,none⟩=some (k1)/\o.cell? ⟨j,4,none⟩=some (.complex .f64 H.z.1 H.z.2)/\o.cell? ⟨j,5,none⟩=some (.int .i64 t1.kd)/\o.cell? ⟨j,6,none⟩=some (.string ⟨t1.nm.toArray⟩)/\o.cell? ⟨j,7,none⟩=some (.float .f64 t1.x)/\o.cell? ⟨j,8,none⟩=some (x1)/\o.cell? ⟨j,9,none⟩=some (.complex .f64 t1.z.1 t1.z.2)) (first | with_reducible exact⟨a0,c0,d0,f0,g0,h0,i0,j0,k0,l0⟩ | with_reducible exact⟨p,q,r,u,v,B,C,D,E,F⟩ | with_reducible exact⟨U,V,X,Y,Z,y0,z0,a1,c1,d1⟩)
   (first | (go_at_call 55;have hz:=w;clear hz;refine(q1.out _ w.out).mono ?_;rintro e w2 ⟨rfl,c⟩;have m1:=aA (w.out.trans (c.mono w.out.size));have a0:=Aa p c;have c0:=Aa q c;have d0:=Aa r c;have f0:=Aa u c;have g0:=Aa v c;have h0:=Aa B c;have i0:=Aa C c;have j0:=Aa D c;have k0:=Aa E c;have l0:=Aa F c;clear c) | (go_at_call 55;have hz:=l;clear hz;refine(p0.out _ l.out).mono ?_;rintro e w1 ⟨rfl,c⟩;have w:=aA (l.out.trans (c.mono l.out.size));have p:=Aa U c;have q:=Aa V c;have r:=Aa X c;have u:=Aa Y c;have v:=Aa Z c;have B:=Aa y0 c;have C:=Aa z0 c;have D:=Aa a1 c;have E:=Aa c1 c;have F:=Aa d1 c;clear c))
  go_wp2;go_ret;exact⟨by rw[HX.out];exact congrArg (fun x=>aB (.string x)) (BK (by simp)),m1.out⟩
 by_cases p4:k=11
 ·subst p4
  obtain⟨J,eJ⟩:∃J,A3 [44] (AP ff ks)=J:=⟨_,rfl⟩;have hJ:=q2.out;rw[eJ] at hJ;have a2:=r2.out;rw[eJ] at a2;have HJ:=aA hJ;clear hJ
  have m0:(W.alloc (.cells #[.int .i64 11,.string ⟨nm.toArray⟩,.float .f64 x,.slice a ks.length f,.complex .f64 z.1 z.2] 60)).drew.cell? ⟨W.heap.size,1,none⟩=some (.string ⟨nm.toArray⟩):=by
   show (W.alloc (.cells #[.int .i64 11,.string ⟨nm.toArray⟩,.float .f64 x,.slice a ks.length f,.complex .f64 z.1 z.2] 60)).cell? ⟨W.heap.size,1,none⟩=_;rw[aC _ _ _ _ rfl];rfl
  have HX:Hid (AD ff (.mk 11 nm x z ks)=[40,40]++J++[41,32,105,110,32]++nm++[41]):=by
   unfold Hid;rw[Ba,<- eJ];unfold CI;simp
  clear eJ;have g1:¬ 9223372036854775807<2+J.length:=(by omega);have g2:¬ 9223372036854775807<2+J.length+5:=(by omega);have g3:¬ 9223372036854775807<2+J.length+5+nm.length:=(by omega);have g4:¬ 9223372036854775807<2+J.length+5+nm.length+1:=by omega
  go_in
  have l:Hid (Below W.heap.size W (W.alloc (.cells #[.int .i64 11,.string ⟨nm.toArray⟩,.float .f64 x,.slice a ks.length f,.complex .f64 z.1 z.2] 60)).drew):=AC W _
  go_wp2_with fail
  go_region_held3 (fun o=>o.cell? ⟨W.heap.size,1,none⟩=some (.string ⟨nm.toArray⟩)) (first | with_reducible exact y | with_reducible exact m0)
   (first | (go_at_call 33;have hz:=l;clear hz;refine(HJ.out _ l.out).mono ?_;rintro e w1 ⟨rfl,c⟩;have w:=aA (l.out.trans (c.mono l.out.size));have y:=Aa m0 c;clear c))
  go_wp2;go_ret;exact⟨by rw[HX.out];exact congrArg (fun x=>aB (.string x)) (BK (by simp)),w.out⟩
 by_cases q4:k=12
 ·subst q4
  have m:ks.length=2:=F0 p1 (by decide);obtain⟨j,o1,k1,H,S,R,K,M,O,P,Q,f1,G⟩:=l1.out 0 (by omega);obtain⟨b1,y1,x1,t1,j1,i1,q0,r0,s0,v0,x0,r1,o0⟩:=l1.out 1 (by omega);obtain⟨rfl⟩:a=some ⟨j,0,none⟩:=(by injection S);obtain rfl:j=b1:=by injection j1 with h _ _;injection h with h;injection h with h _ _
  have U:=Ab K (.cells #[.int .i64 12,.string ⟨nm.toArray⟩,.float .f64 x,.slice (some ⟨j,0,none⟩) 2 f,.complex .f64 z.1 z.2] 60);have V:=Ab M (.cells #[.int .i64 12,.string ⟨nm.toArray⟩,.float .f64 x,.slice (some ⟨j,0,none⟩) 2 f,.complex .f64 z.1 z.2] 60);have X:=Ab O (.cells #[.int .i64 12,.string ⟨nm.toArray⟩,.float .f64 x,.slice (some ⟨j,0,none⟩) 2 f,.complex .f64 z.1 z.2] 60);have Y:=Ab P (.cells #[.int .i64 12,.string ⟨nm.toArray⟩,.float .f64 x,.slice (some ⟨j,0,none⟩) 2 f,.complex .f64 z.1 z.2] 60);have Z:=Ab Q (.cells #[.int .i64 12,.string ⟨nm.toArray⟩,.float .f64 x,.slice (some ⟨j,0,none⟩) 2 f,.complex .f64 z.1 z.2] 60)
  obtain⟨I,A⟩:∃L,AD ff H=L:=⟨_,rfl⟩;rw[A] at f1 G;have p0:=aA G;have y0:=Ab q0 (.cells #[.int .i64 12,.string ⟨nm.toArray⟩,.float .f64 x,.slice (some ⟨j,0,none⟩) 2 f,.complex .f64 z.1 z.2] 60);have z0:=Ab r0 (.cells #[.int .i64 12,.string ⟨nm.toArray⟩,.float .f64 x,.slice (some ⟨j,0,none⟩) 2 f,.complex .f64 z.1 z.2] 60);have a1:=Ab s0 (.cells #[.int .i64 12,.string ⟨nm.toArray⟩,.float .f64 x,.slice (some ⟨j,0,none⟩) 2 f,.complex .f64 z.1 z.2] 60);have c1:=Ab v0 (.cells #[.int .i64 12,.string ⟨nm.toArray⟩,.float .f64 x,.slice (some ⟨j,0,none⟩) 2 f,.complex .f64 z.1 z.2] 60)
  have d1:=Ab x0 (.cells #[.int .i64 12,.string ⟨nm.toArray⟩,.float .f64 x,.slice (some ⟨j,0,none⟩) 2 f,.complex .f64 z.1 z.2] 60);obtain⟨L1,n0⟩:∃L,AD ff t1=L:=⟨_,rfl⟩;rw[n0] at r1 o0;have q1:=aA o0;have n1:=aA m
  have m0:(W.alloc (.cells #[.int .i64 12,.string ⟨nm.toArray⟩,.float .f64 x,.slice (some ⟨j,0,none⟩) 2 f,.complex .f64 z.1 z.2] 60)).drew.cell? ⟨W.heap.size,1,none⟩=some (.string ⟨nm.toArray⟩):=by
   show (W.alloc (.cells #[.int .i64 12,.string ⟨nm.toArray⟩,.float .f64 x,.slice (some ⟨j,0,none⟩) 2 f,.complex .f64 z.1 z.2] 60)).cell? ⟨W.heap.size,1,none⟩=_;rw[aC _ _ _ _ rfl];rfl
  have HX:Hid (AD ff (.mk 12 nm x z ks)=[40]++I++[32]++nm++[32]++L1++[41]):=by
   unfold Hid;rw[Ba,Au];unfold CI;simp[aD,R,i1,A,n0]
  rw[m];clear R S A G K M O P Q i1 j1 n0 o0 q0 r0 s0 v0 x0 m;have g1:¬ 9223372036854775807<1+I.length:=(by omega);have g2:¬ 9223372036854775807<1+I.length+1:=(by omega);have g3:¬ 9223372036854775807<1+I.length+1+nm.length:=(by omega);have g4:¬ 9223372036854775807<1+I.length+1+nm.length+1:=(by omega);have g5:¬ 9223372036854775807<1+I.length+1+nm.length+1+L1.length:=(by omega);have g6:¬ 9223372036854775807<1+I.length+1+nm.length+1+L1.length+1:=by omega
  go_in
  have l:Hid (Below W.heap.size W (W.alloc (.cells #[.int .i64 12,.string ⟨nm.toArray⟩,.float .f64 x,.slice (some ⟨j,0,none⟩) 2 f,.complex .f64 z.1 z.2] 60)).drew):=AC W _
  go_wp2_with fail
  go_region_held3 (fun o=>o.cell? ⟨j,0,none⟩=some (.int .i64 H.kd)/\o.cell? ⟨j,1,none⟩=some (.string ⟨H.nm.toArray⟩)/\o.cell? ⟨j,2,none⟩=some (.float .f64 H.x)/\o.cell? ⟨j,3,none⟩=some (k1)/\o.cell? ⟨j,4,none⟩=some (.complex .f64 H.z.1 H.z.2)/\o.cell? ⟨j,5,none⟩=some (.int .i64 t1.kd)/\o.cell? ⟨j,6,none⟩=some (.string ⟨t1.nm.toArray⟩)/\o.cell? ⟨j,7,none⟩=some (.float .f64 t1.x)/\o.cell? ⟨j,8,none⟩=some (x1)/\o.cell? ⟨j,9,none⟩=some (.complex .f64 t1.z.1 t1.z.2)/\o.cell? ⟨W.heap.size,1,none⟩=some (.string ⟨nm.toArray⟩)) (first | with_reducible exact⟨a0,c0,d0,f0,g0,h0,i0,j0,k0,l0,v1⟩ | with_reducible exact⟨p,q,r,u,v,B,C,D,E,F,y⟩ | with_reducible exact⟨U,V,X,Y,Z,y0,z0,a1,c1,d1,m0⟩)
   (first | (go_at_call 55;have hz:=w;clear hz;refine(q1.out _ w.out).mono ?_;rintro e w2 ⟨rfl,c⟩;have m1:=aA (w.out.trans (c.mono w.out.size));have a0:=Aa p c;have c0:=Aa q c;have d0:=Aa r c;have f0:=Aa u c;have g0:=Aa v c;have h0:=Aa B c;have i0:=Aa C c;have j0:=Aa D c;have k0:=Aa E c;have l0:=Aa F c;have v1:=Aa y c;clear c) | (go_at_call 55;have hz:=l;clear hz;refine(p0.out _ l.out).mono ?_;rintro e w1 ⟨rfl,c⟩;have w:=aA (l.out.trans (c.mono l.out.size));have p:=Aa U c;have q:=Aa V c;have r:=Aa X c;have u:=Aa Y c;have v:=Aa Z c;have B:=Aa y0 c;have C:=Aa z0 c;have D:=Aa a1 c;have E:=Aa c1 c;have F:=Aa d1 c;have y:=Aa m0 c;clear c))
  go_wp2;go_ret;exact⟨by rw[HX.out];exact congrArg (fun x=>aB (.string x)) (BK (by simp)),m1.out⟩
 by_cases r4:k=13
 ·subst r4
  have m:ks.length=2:=F0 p1 (by decide);obtain⟨j,o1,k1,H,S,R,K,M,O,P,Q,f1,G⟩:=l1.out 0 (by omega);obtain⟨b1,y1,x1,t1,j1,i1,q0,r0,s0,v0,x0,r1,o0⟩:=l1.out 1 (by omega);obtain⟨rfl⟩:a=some ⟨j,0,none⟩:=(by injection S);obtain rfl:j=b1:=by injection j1 with h _ _;injection h with h;injection h with h _ _
  have U:=Ab K (.cells #[.int .i64 13,.string ⟨nm.toArray⟩,.float .f64 x,.slice (some ⟨j,0,none⟩) 2 f,.complex .f64 z.1 z.2] 60);have V:=Ab M (.cells #[.int .i64 13,.string ⟨nm.toArray⟩,.float .f64 x,.slice (some ⟨j,0,none⟩) 2 f,.complex .f64 z.1 z.2] 60);have X:=Ab O (.cells #[.int .i64 13,.string ⟨nm.toArray⟩,.float .f64 x,.slice (some ⟨j,0,none⟩) 2 f,.complex .f64 z.1 z.2] 60);have Y:=Ab P (.cells #[.int .i64 13,.string ⟨nm.toArray⟩,.float .f64 x,.slice (some ⟨j,0,none⟩) 2 f,.complex .f64 z.1 z.2] 60);have Z:=Ab Q (.cells #[.int .i64 13,.string ⟨nm.toArray⟩,.float .f64 x,.slice (some ⟨j,0,none⟩) 2 f,.complex .f64 z.1 z.2] 60)
  obtain⟨I,A⟩:∃L,AD ff H=L:=⟨_,rfl⟩;rw[A] at f1 G;have p0:=aA G;have y0:=Ab q0 (.cells #[.int .i64 13,.string ⟨nm.toArray⟩,.float .f64 x,.slice (some ⟨j,0,none⟩) 2 f,.complex .f64 z.1 z.2] 60);have z0:=Ab r0 (.cells #[.int .i64 13,.string ⟨nm.toArray⟩,.float .f64 x,.slice (some ⟨j,0,none⟩) 2 f,.complex .f64 z.1 z.2] 60);have a1:=Ab s0 (.cells #[.int .i64 13,.string ⟨nm.toArray⟩,.float .f64 x,.slice (some ⟨j,0,none⟩) 2 f,.complex .f64 z.1 z.2] 60);have c1:=Ab v0 (.cells #[.int .i64 13,.string ⟨nm.toArray⟩,.float .f64 x,.slice (some ⟨j,0,none⟩) 2 f,.complex .f64 z.1 z.2] 60)
  have d1:=Ab x0 (.cells #[.int .i64 13,.string ⟨nm.toArray⟩,.float .f64 x,.slice (some ⟨j,0,none⟩) 2 f,.complex .f64 z.1 z.2] 60);obtain⟨L1,n0⟩:∃L,AD ff t1=L:=⟨_,rfl⟩;rw[n0] at r1 o0;have q1:=aA o0;have n1:=aA m
  have m0:(W.alloc (.cells #[.int .i64 13,.string ⟨nm.toArray⟩,.float .f64 x,.slice (some ⟨j,0,none⟩) 2 f,.complex .f64 z.1 z.2] 60)).drew.cell? ⟨W.heap.size,1,none⟩=some (.string ⟨nm.toArray⟩):=by
   show (W.alloc (.cells #[.int .i64 13,.string ⟨nm.toArray⟩,.float .f64 x,.slice (some ⟨j,0,none⟩) 2 f,.complex .f64 z.1 z.2] 60)).cell? ⟨W.heap.size,1,none⟩=_;rw[aC _ _ _ _ rfl];rfl
  have HX:Hid (AD ff (.mk 13 nm x z ks)=[40]++I++[32]++nm++[32]++L1++[41]):=by
   unfold Hid;rw[Ba,Au];unfold CI;simp[aD,R,i1,A,n0]
  rw[m];clear R S A G K M O P Q i1 j1 n0 o0 q0 r0 s0 v0 x0 m;have g1:¬ 9223372036854775807<1+I.length:=(by omega);have g2:¬ 9223372036854775807<1+I.length+1:=(by omega);have g3:¬ 9223372036854775807<1+I.length+1+nm.length:=(by omega);have g4:¬ 9223372036854775807<1+I.length+1+nm.length+1:=(by omega);have g5:¬ 9223372036854775807<1+I.length+1+nm.length+1+L1.length:=(by omega);have g6:¬ 9223372036854775807<1+I.length+1+nm.length+1+L1.length+1:=by omega
  go_in
  have l:Hid (Below W.heap.size W (W.alloc (.cells #[.int .i64 13,.string ⟨nm.toArray⟩,.float .f64 x,.slice (some ⟨j,0,none⟩) 2 f,.complex .f64 z.1 z.2] 60)).drew):=AC W _
  go_wp2_with fail
  go_region_held3 (fun o=>o.cell? ⟨j,0,none⟩=some (.int .i64 H.kd)/\o.cell? ⟨j,1,none⟩=some (.string ⟨H.nm.toArray⟩)/\o.cell? ⟨j,2,none⟩=some (.float .f64 H.x)/\o.cell? ⟨j,3,none⟩=some (k1)/\o.cell? ⟨j,4,none⟩=some (.complex .f64 H.z.1 H.z.2)/\o.cell? ⟨j,5,none⟩=some (.int .i64 t1.kd)/\o.cell? ⟨j,6,none⟩=some (.string ⟨t1.nm.toArray⟩)/\o.cell? ⟨j,7,none⟩=some (.float .f64 t1.x)/\o.cell? ⟨j,8,none⟩=some (x1)/\o.cell? ⟨j,9,none⟩=some (.complex .f64 t1.z.1 t1.z.2)/\o.cell? ⟨W.heap.size,1,none⟩=some (.string ⟨nm.toArray⟩)) (first | with_reducible exact⟨a0,c0,d0,f0,g0,h0,i0,j0,k0,l0,v1⟩ | with_reducible exact⟨p,q,r,u,v,B,C,D,E,F,y⟩ | with_reducible exact⟨U,V,X,Y,Z,y0,z0,a1,c1,d1,m0⟩)
   (first | (go_at_call 55;have hz:=w;clear hz;refine(q1.out _ w.out).mono ?_;rintro e w2 ⟨rfl,c⟩;have m1:=aA (w.out.trans (c.mono w.out.size));have a0:=Aa p c;have c0:=Aa q c;have d0:=Aa r c;have f0:=Aa u c;have g0:=Aa v c;have h0:=Aa B c;have i0:=Aa C c;have j0:=Aa D c;have k0:=Aa E c;have l0:=Aa F c;have v1:=Aa y c;clear c) | (go_at_call 55;have hz:=l;clear hz;refine(p0.out _ l.out).mono ?_;rintro e w1 ⟨rfl,c⟩;have w:=aA (l.out.trans (c.mono l.out.size));have p:=Aa U c;have q:=Aa V c;have r:=Aa X c;have u:=Aa Y c;have v:=Aa Z c;have B:=Aa y0 c;have C:=Aa z0 c;have D:=Aa a1 c;have E:=Aa c1 c;have F:=Aa d1 c;have y:=Aa m0 c;clear c))
  go_wp2;go_ret;exact⟨by rw[HX.out];exact congrArg (fun x=>aB (.string x)) (BK (by simp)),m1.out⟩
 by_cases s4:k=14
 ·subst s4
  have m:ks.length=2:=F0 p1 (by decide);obtain⟨j,o1,k1,H,S,R,K,M,O,P,Q,f1,G⟩:=l1.out 0 (by omega);obtain⟨b1,y1,x1,t1,j1,i1,q0,r0,s0,v0,x0,r1,o0⟩:=l1.out 1 (by omega);obtain⟨rfl⟩:a=some ⟨j,0,none⟩:=(by injection S);obtain rfl:j=b1:=by injection j1 with h _ _;injection h with h;injection h with h _ _
  have U:=Ab K (.cells #[.int .i64 14,.string ⟨nm.toArray⟩,.float .f64 x,.slice (some ⟨j,0,none⟩) 2 f,.complex .f64 z.1 z.2] 60);have V:=Ab M (.cells #[.int .i64 14,.string ⟨nm.toArray⟩,.float .f64 x,.slice (some ⟨j,0,none⟩) 2 f,.complex .f64 z.1 z.2] 60);have X:=Ab O (.cells #[.int .i64 14,.string ⟨nm.toArray⟩,.float .f64 x,.slice (some ⟨j,0,none⟩) 2 f,.complex .f64 z.1 z.2] 60);have Y:=Ab P (.cells #[.int .i64 14,.string ⟨nm.toArray⟩,.float .f64 x,.slice (some ⟨j,0,none⟩) 2 f,.complex .f64 z.1 z.2] 60);have Z:=Ab Q (.cells #[.int .i64 14,.string ⟨nm.toArray⟩,.float .f64 x,.slice (some ⟨j,0,none⟩) 2 f,.complex .f64 z.1 z.2] 60)
  obtain⟨I,A⟩:∃L,AD ff H=L:=⟨_,rfl⟩;rw[A] at f1 G;have p0:=aA G;have y0:=Ab q0 (.cells #[.int .i64 14,.string ⟨nm.toArray⟩,.float .f64 x,.slice (some ⟨j,0,none⟩) 2 f,.complex .f64 z.1 z.2] 60);have z0:=Ab r0 (.cells #[.int .i64 14,.string ⟨nm.toArray⟩,.float .f64 x,.slice (some ⟨j,0,none⟩) 2 f,.complex .f64 z.1 z.2] 60);have a1:=Ab s0 (.cells #[.int .i64 14,.string ⟨nm.toArray⟩,.float .f64 x,.slice (some ⟨j,0,none⟩) 2 f,.complex .f64 z.1 z.2] 60);have c1:=Ab v0 (.cells #[.int .i64 14,.string ⟨nm.toArray⟩,.float .f64 x,.slice (some ⟨j,0,none⟩) 2 f,.complex .f64 z.1 z.2] 60)
  have d1:=Ab x0 (.cells #[.int .i64 14,.string ⟨nm.toArray⟩,.float .f64 x,.slice (some ⟨j,0,none⟩) 2 f,.complex .f64 z.1 z.2] 60);obtain⟨L1,n0⟩:∃L,AD ff t1=L:=⟨_,rfl⟩;rw[n0] at r1 o0;have q1:=aA o0;have n1:=aA m
  have HX:Hid (AD ff (.mk 14 nm x z ks)=[40]++I++[32]++L1++[41]):=by
   unfold Hid;rw[Ba,Au];unfold CI;simp[aD,R,i1,A,n0]
  rw[m];clear R S A G K M O P Q i1 j1 n0 o0 q0 r0 s0 v0 x0 m;have g1:¬ 9223372036854775807<1+I.length:=(by omega);have g2:¬ 9223372036854775807<1+I.length+1:=(by omega);have g3:¬ 9223372036854775807<1+I.length+1+L1.length:=(by omega);have g4:¬ 9223372036854775807<1+I.length+1+L1.length+1:=by omega
  go_in
  have l:Hid (Below W.heap.size W (W.alloc (.cells #[.int .i64 14,.string ⟨nm.toArray⟩,.float .f64 x,.slice (some ⟨j,0,none⟩) 2 f,.complex .f64 z.1 z.2] 60)).drew):=AC W _
  go_wp2_with fail
  go_region_held3 (fun o=>o.cell? ⟨j,0,none⟩=some (.int .i64 H.kd)/\o.cell? ⟨j,1,none⟩=some (.string ⟨H.nm.toArray⟩)/\o.cell? ⟨j,2,none⟩=some (.float .f64 H.x)/\o.cell? ⟨j,3,none⟩=some (k1)/\o.cell? ⟨j,4,none⟩=some (.complex .f64 H.z.1 H.z.2)/\o.cell? ⟨j,5,none⟩=some (.int .i64 t1.kd)/\o.cell? ⟨j,6,none⟩=some (.string ⟨t1.nm.toArray⟩)/\o.cell? ⟨j,7,none⟩=some (.float .f64 t1.x)/\o.cell? ⟨j,8,none⟩=some (x1)/\o.cell? ⟨j,9,none⟩=some (.complex .f64 t1.z.1 t1.z.2)) (first | with_reducible exact⟨a0,c0,d0,f0,g0,h0,i0,j0,k0,l0⟩ | with_reducible exact⟨p,q,r,u,v,B,C,D,E,F⟩ | with_reducible exact⟨U,V,X,Y,Z,y0,z0,a1,c1,d1⟩)
   (first | (go_at_call 55;have hz:=w;clear hz;refine(q1.out _ w.out).mono ?_;rintro e w2 ⟨rfl,c⟩;have m1:=aA (w.out.trans (c.mono w.out.size));have a0:=Aa p c;have c0:=Aa q c;have d0:=Aa r c;have f0:=Aa u c;have g0:=Aa v c;have h0:=Aa B c;have i0:=Aa C c;have j0:=Aa D c;have k0:=Aa E c;have l0:=Aa F c;clear c) | (go_at_call 55;have hz:=l;clear hz;refine(p0.out _ l.out).mono ?_;rintro e w1 ⟨rfl,c⟩;have w:=aA (l.out.trans (c.mono l.out.size));have p:=Aa U c;have q:=Aa V c;have r:=Aa X c;have u:=Aa Y c;have v:=Aa Z c;have B:=Aa y0 c;have C:=Aa z0 c;have D:=Aa a1 c;have E:=Aa c1 c;have F:=Aa d1 c;clear c))
  go_wp2;go_ret;exact⟨by rw[HX.out];exact congrArg (fun x=>aB (.string x)) (BK (by simp)),m1.out⟩
 by_cases t4:k=15
 ·subst t4
  have m:ks.length=2:=F0 p1 (by decide);obtain⟨j,o1,k1,H,S,R,K,M,O,P,Q,f1,G⟩:=l1.out 0 (by omega);obtain⟨b1,y1,x1,t1,j1,i1,q0,r0,s0,v0,x0,r1,o0⟩:=l1.out 1 (by omega);obtain⟨rfl⟩:a=some ⟨j,0,none⟩:=(by injection S);obtain rfl:j=b1:=by injection j1 with h _ _;injection h with h;injection h with h _ _
  have U:=Ab K (.cells #[.int .i64 15,.string ⟨nm.toArray⟩,.float .f64 x,.slice (some ⟨j,0,none⟩) 2 f,.complex .f64 z.1 z.2] 60);have V:=Ab M (.cells #[.int .i64 15,.string ⟨nm.toArray⟩,.float .f64 x,.slice (some ⟨j,0,none⟩) 2 f,.complex .f64 z.1 z.2] 60);have X:=Ab O (.cells #[.int .i64 15,.string ⟨nm.toArray⟩,.float .f64 x,.slice (some ⟨j,0,none⟩) 2 f,.complex .f64 z.1 z.2] 60);have Y:=Ab P (.cells #[.int .i64 15,.string ⟨nm.toArray⟩,.float .f64 x,.slice (some ⟨j,0,none⟩) 2 f,.complex .f64 z.1 z.2] 60);have Z:=Ab Q (.cells #[.int .i64 15,.string ⟨nm.toArray⟩,.float .f64 x,.slice (some ⟨j,0,none⟩) 2 f,.complex .f64 z.1 z.2] 60)
  obtain⟨I,A⟩:∃L,AD ff H=L:=⟨_,rfl⟩;rw[A] at f1 G;have p0:=aA G;have y0:=Ab q0 (.cells #[.int .i64 15,.string ⟨nm.toArray⟩,.float .f64 x,.slice (some ⟨j,0,none⟩) 2 f,.complex .f64 z.1 z.2] 60);have z0:=Ab r0 (.cells #[.int .i64 15,.string ⟨nm.toArray⟩,.float .f64 x,.slice (some ⟨j,0,none⟩) 2 f,.complex .f64 z.1 z.2] 60);have a1:=Ab s0 (.cells #[.int .i64 15,.string ⟨nm.toArray⟩,.float .f64 x,.slice (some ⟨j,0,none⟩) 2 f,.complex .f64 z.1 z.2] 60);have c1:=Ab v0 (.cells #[.int .i64 15,.string ⟨nm.toArray⟩,.float .f64 x,.slice (some ⟨j,0,none⟩) 2 f,.complex .f64 z.1 z.2] 60)
  have d1:=Ab x0 (.cells #[.int .i64 15,.string ⟨nm.toArray⟩,.float .f64 x,.slice (some ⟨j,0,none⟩) 2 f,.complex .f64 z.1 z.2] 60);obtain⟨L1,n0⟩:∃L,AD ff t1=L:=⟨_,rfl⟩;rw[n0] at r1 o0;have q1:=aA o0;have n1:=aA m
  have m0:(W.alloc (.cells #[.int .i64 15,.string ⟨nm.toArray⟩,.float .f64 x,.slice (some ⟨j,0,none⟩) 2 f,.complex .f64 z.1 z.2] 60)).drew.cell? ⟨W.heap.size,1,none⟩=some (.string ⟨nm.toArray⟩):=by
   show (W.alloc (.cells #[.int .i64 15,.string ⟨nm.toArray⟩,.float .f64 x,.slice (some ⟨j,0,none⟩) 2 f,.complex .f64 z.1 z.2] 60)).cell? ⟨W.heap.size,1,none⟩=_;rw[aC _ _ _ _ rfl];rfl
  have HX:Hid (AD ff (.mk 15 nm x z ks)=[40]++I++[32]++nm++[32]++L1++[41]):=by
   unfold Hid;rw[Ba,Au];unfold CI;simp[aD,R,i1,A,n0]
  rw[m];clear R S A G K M O P Q i1 j1 n0 o0 q0 r0 s0 v0 x0 m;have g1:¬ 9223372036854775807<1+I.length:=(by omega);have g2:¬ 9223372036854775807<1+I.length+1:=(by omega);have g3:¬ 9223372036854775807<1+I.length+1+nm.length:=(by omega);have g4:¬ 9223372036854775807<1+I.length+1+nm.length+1:=(by omega);have g5:¬ 9223372036854775807<1+I.length+1+nm.length+1+L1.length:=(by omega);have g6:¬ 9223372036854775807<1+I.length+1+nm.length+1+L1.length+1:=by omega
  go_in
  have l:Hid (Below W.heap.size W (W.alloc (.cells #[.int .i64 15,.string ⟨nm.toArray⟩,.float .f64 x,.slice (some ⟨j,0,none⟩) 2 f,.complex .f64 z.1 z.2] 60)).drew):=AC W _
  go_wp2_with fail
  go_region_held3 (fun o=>o.cell? ⟨j,0,none⟩=some (.int .i64 H.kd)/\o.cell? ⟨j,1,none⟩=some (.string ⟨H.nm.toArray⟩)/\o.cell? ⟨j,2,none⟩=some (.float .f64 H.x)/\o.cell? ⟨j,3,none⟩=some (k1)/\o.cell? ⟨j,4,none⟩=some (.complex .f64 H.z.1 H.z.2)/\o.cell? ⟨j,5,none⟩=some (.int .i64 t1.kd)/\o.cell? ⟨j,6,none⟩=some (.string ⟨t1.nm.toArray⟩)/\o.cell? ⟨j,7,none⟩=some (.float .f64 t1.x)/\o.cell? ⟨j,8,none⟩=some (x1)/\o.cell? ⟨j,9,none⟩=some (.complex .f64 t1.z.1 t1.z.2)/\o.cell? ⟨W.heap.size,1,none⟩=some (.string ⟨nm.toArray⟩)) (first | with_reducible exact⟨a0,c0,d0,f0,g0,h0,i0,j0,k0,l0,v1⟩ | with_reducible exact⟨p,q,r,u,v,B,C,D,E,F,y⟩ | with_reducible exact⟨U,V,X,Y,Z,y0,z0,a1,c1,d1,m0⟩)
   (first | (go_at_call 55;have hz:=w;clear hz;refine(q1.out _ w.out).mono ?_;rintro e w2 ⟨rfl,c⟩;have m1:=aA (w.out.trans (c.mono w.out.size));have a0:=Aa p c;have c0:=Aa q c;have d0:=Aa r c;have f0:=Aa u c;have g0:=Aa v c;have h0:=Aa B c;have i0:=Aa C c;have j0:=Aa D c;have k0:=Aa E c;have l0:=Aa F c;have v1:=Aa y c;clear c) | (go_at_call 55;have hz:=l;clear hz;refine(p0.out _ l.out).mono ?_;rintro e w1 ⟨rfl,c⟩;have w:=aA (l.out.trans (c.mono l.out.size));have p:=Aa U c;have q:=Aa V c;have r:=Aa X c;have u:=Aa Y c;have v:=Aa Z c;have B:=Aa y0 c;have C:=Aa z0 c;have D:=Aa a1 c;have E:=Aa c1 c;have F:=Aa d1 c;have y:=Aa m0 c;clear c))
  go_wp2;go_ret;exact⟨by rw[HX.out];exact congrArg (fun x=>aB (.string x)) (BK (by simp)),m1.out⟩
 by_cases v4:k=16
 ·subst v4
  have m:ks.length=1:=KH p1 (by decide);obtain⟨j,o1,k1,H,S,R,K,M,O,P,Q,f1,G⟩:=l1.out 0 (by omega);obtain⟨rfl⟩:a=some ⟨j,0,none⟩:=(by injection S);have U:=Ab K (.cells #[.int .i64 16,.string ⟨nm.toArray⟩,.float .f64 x,.slice (some ⟨j,0,none⟩) 1 f,.complex .f64 z.1 z.2] 60);have V:=Ab M (.cells #[.int .i64 16,.string ⟨nm.toArray⟩,.float .f64 x,.slice (some ⟨j,0,none⟩) 1 f,.complex .f64 z.1 z.2] 60);have X:=Ab O (.cells #[.int .i64 16,.string ⟨nm.toArray⟩,.float .f64 x,.slice (some ⟨j,0,none⟩) 1 f,.complex .f64 z.1 z.2] 60);have Y:=Ab P (.cells #[.int .i64 16,.string ⟨nm.toArray⟩,.float .f64 x,.slice (some ⟨j,0,none⟩) 1 f,.complex .f64 z.1 z.2] 60)
  have Z:=Ab Q (.cells #[.int .i64 16,.string ⟨nm.toArray⟩,.float .f64 x,.slice (some ⟨j,0,none⟩) 1 f,.complex .f64 z.1 z.2] 60);obtain⟨I,A⟩:∃L,AD ff H=L:=⟨_,rfl⟩;rw[A] at f1 G;have p0:=aA G;have n1:=aA m
  have m0:(W.alloc (.cells #[.int .i64 16,.string ⟨nm.toArray⟩,.float .f64 x,.slice (some ⟨j,0,none⟩) 1 f,.complex .f64 z.1 z.2] 60)).drew.cell? ⟨W.heap.size,1,none⟩=some (.string ⟨nm.toArray⟩):=by
   show (W.alloc (.cells #[.int .i64 16,.string ⟨nm.toArray⟩,.float .f64 x,.slice (some ⟨j,0,none⟩) 1 f,.complex .f64 z.1 z.2] 60)).cell? ⟨W.heap.size,1,none⟩=_;rw[aC _ _ _ _ rfl];rfl
  have HX:Hid (AD ff (.mk 16 nm x z ks)=[40]++nm++I++[41]):=by
   unfold Hid;rw[Ba,Au];unfold CI;simp[aD,R,A]
  rw[m];clear R S A G K M O P Q m;have g1:¬ 9223372036854775807<1+nm.length:=(by omega);have g2:¬ 9223372036854775807<1+nm.length+I.length:=(by omega);have g3:¬ 9223372036854775807<1+nm.length+I.length+1:=by omega
  go_in
  have l:Hid (Below W.heap.size W (W.alloc (.cells #[.int .i64 16,.string ⟨nm.toArray⟩,.float .f64 x,.slice (some ⟨j,0,none⟩) 1 f,.complex .f64 z.1 z.2] 60)).drew):=AC W _
  go_wp2_with fail
  go_region_held3 (fun o=>o.cell? ⟨j,0,none⟩=some (.int .i64 H.kd)/\o.cell? ⟨j,1,none⟩=some (.string ⟨H.nm.toArray⟩)/\o.cell? ⟨j,2,none⟩=some (.float .f64 H.x)/\o.cell? ⟨j,3,none⟩=some (k1)/\o.cell? ⟨j,4,none⟩=some (.complex .f64 H.z.1 H.z.2)/\o.cell? ⟨W.heap.size,1,none⟩=some (.string ⟨nm.toArray⟩)) (first | with_reducible exact⟨p,q,r,u,v,y⟩ | with_reducible exact⟨U,V,X,Y,Z,m0⟩)
   (first | (go_at_call 55;have hz:=l;clear hz;refine(p0.out _ l.out).mono ?_;rintro e w1 ⟨rfl,c⟩;have w:=aA (l.out.trans (c.mono l.out.size));have p:=Aa U c;have q:=Aa V c;have r:=Aa X c;have u:=Aa Y c;have v:=Aa Z c;have y:=Aa m0 c;clear c))
  go_wp2;go_ret;exact⟨by rw[HX.out];exact congrArg (fun x=>aB (.string x)) (BK (by simp)),w.out⟩
 by_cases w4:k=17
 ·subst w4
  have m:ks.length=1:=KH p1 (by decide);obtain⟨j,o1,k1,H,S,R,K,M,O,P,Q,f1,G⟩:=l1.out 0 (by omega);obtain⟨rfl⟩:a=some ⟨j,0,none⟩:=(by injection S);have U:=Ab K (.cells #[.int .i64 17,.string ⟨nm.toArray⟩,.float .f64 x,.slice (some ⟨j,0,none⟩) 1 f,.complex .f64 z.1 z.2] 60);have V:=Ab M (.cells #[.int .i64 17,.string ⟨nm.toArray⟩,.float .f64 x,.slice (some ⟨j,0,none⟩) 1 f,.complex .f64 z.1 z.2] 60);have X:=Ab O (.cells #[.int .i64 17,.string ⟨nm.toArray⟩,.float .f64 x,.slice (some ⟨j,0,none⟩) 1 f,.complex .f64 z.1 z.2] 60);have Y:=Ab P (.cells #[.int .i64 17,.string ⟨nm.toArray⟩,.float .f64 x,.slice (some ⟨j,0,none⟩) 1 f,.complex .f64 z.1 z.2] 60)
  have Z:=Ab Q (.cells #[.int .i64 17,.string ⟨nm.toArray⟩,.float .f64 x,.slice (some ⟨j,0,none⟩) 1 f,.complex .f64 z.1 z.2] 60);obtain⟨I,A⟩:∃L,AD ff H=L:=⟨_,rfl⟩;rw[A] at f1 G;have p0:=aA G;have n1:=aA m
  have m0:(W.alloc (.cells #[.int .i64 17,.string ⟨nm.toArray⟩,.float .f64 x,.slice (some ⟨j,0,none⟩) 1 f,.complex .f64 z.1 z.2] 60)).drew.cell? ⟨W.heap.size,1,none⟩=some (.string ⟨nm.toArray⟩):=by
   show (W.alloc (.cells #[.int .i64 17,.string ⟨nm.toArray⟩,.float .f64 x,.slice (some ⟨j,0,none⟩) 1 f,.complex .f64 z.1 z.2] 60)).cell? ⟨W.heap.size,1,none⟩=_;rw[aC _ _ _ _ rfl];rfl
  have HX:Hid (AD ff (.mk 17 nm x z ks)=[40]++nm++I++[41]):=by
   unfold Hid;rw[Ba,Au];unfold CI;simp[aD,R,A]
  rw[m];clear R S A G K M O P Q m;have g1:¬ 9223372036854775807<1+nm.length:=(by omega);have g2:¬ 9223372036854775807<1+nm.length+I.length:=(by omega);have g3:¬ 9223372036854775807<1+nm.length+I.length+1:=by omega
  go_in
  have l:Hid (Below W.heap.size W (W.alloc (.cells #[.int .i64 17,.string ⟨nm.toArray⟩,.float .f64 x,.slice (some ⟨j,0,none⟩) 1 f,.complex .f64 z.1 z.2] 60)).drew):=AC W _
  go_wp2_with fail
  go_region_held3 (fun o=>o.cell? ⟨j,0,none⟩=some (.int .i64 H.kd)/\o.cell? ⟨j,1,none⟩=some (.string ⟨H.nm.toArray⟩)/\o.cell? ⟨j,2,none⟩=some (.float .f64 H.x)/\o.cell? ⟨j,3,none⟩=some (k1)/\o.cell? ⟨j,4,none⟩=some (.complex .f64 H.z.1 H.z.2)/\o.cell? ⟨W.heap.size,1,none⟩=some (.string ⟨nm.toArray⟩)) (first | with_reducible exact⟨p,q,r,u,v,y⟩ | with_reducible exact⟨U,V,X,Y,Z,m0⟩)
   (first | (go_at_call 55;have hz:=l;clear hz;refine(p0.out _ l.out).mono ?_;rintro e w1 ⟨rfl,c⟩;have w:=aA (l.out.trans (c.mono l.out.size));have p:=Aa U c;have q:=Aa V c;have r:=Aa X c;have u:=Aa Y c;have v:=Aa Z c;have y:=Aa m0 c;clear c))
  go_wp2;go_ret;exact⟨by rw[HX.out];exact congrArg (fun x=>aB (.string x)) (BK (by simp)),w.out⟩
 by_cases x4:k=18
 ·subst x4
  have m:ks.length=1:=KH p1 (by decide);obtain⟨j,o1,k1,H,S,R,K,M,O,P,Q,f1,G⟩:=l1.out 0 (by omega);obtain⟨rfl⟩:a=some ⟨j,0,none⟩:=(by injection S);have U:=Ab K (.cells #[.int .i64 18,.string ⟨nm.toArray⟩,.float .f64 x,.slice (some ⟨j,0,none⟩) 1 f,.complex .f64 z.1 z.2] 60);have V:=Ab M (.cells #[.int .i64 18,.string ⟨nm.toArray⟩,.float .f64 x,.slice (some ⟨j,0,none⟩) 1 f,.complex .f64 z.1 z.2] 60);have X:=Ab O (.cells #[.int .i64 18,.string ⟨nm.toArray⟩,.float .f64 x,.slice (some ⟨j,0,none⟩) 1 f,.complex .f64 z.1 z.2] 60);have Y:=Ab P (.cells #[.int .i64 18,.string ⟨nm.toArray⟩,.float .f64 x,.slice (some ⟨j,0,none⟩) 1 f,.complex .f64 z.1 z.2] 60)
  have Z:=Ab Q (.cells #[.int .i64 18,.string ⟨nm.toArray⟩,.float .f64 x,.slice (some ⟨j,0,none⟩) 1 f,.complex .f64 z.1 z.2] 60);obtain⟨I,A⟩:∃L,AD ff H=L:=⟨_,rfl⟩;rw[A] at f1 G;have p0:=aA G;have n1:=aA m
  have m0:(W.alloc (.cells #[.int .i64 18,.string ⟨nm.toArray⟩,.float .f64 x,.slice (some ⟨j,0,none⟩) 1 f,.complex .f64 z.1 z.2] 60)).drew.cell? ⟨W.heap.size,1,none⟩=some (.string ⟨nm.toArray⟩):=by
   show (W.alloc (.cells #[.int .i64 18,.string ⟨nm.toArray⟩,.float .f64 x,.slice (some ⟨j,0,none⟩) 1 f,.complex .f64 z.1 z.2] 60)).cell? ⟨W.heap.size,1,none⟩=_;rw[aC _ _ _ _ rfl];rfl
  have HX:Hid (AD ff (.mk 18 nm x z ks)=[40]++I++nm++[41]):=by
   unfold Hid;rw[Ba,Au];unfold CI;simp[aD,R,A]
  rw[m];clear R S A G K M O P Q m;have g1:¬ 9223372036854775807<1+I.length:=(by omega);have g2:¬ 9223372036854775807<1+I.length+nm.length:=(by omega);have g3:¬ 9223372036854775807<1+I.length+nm.length+1:=by omega
  go_in
  have l:Hid (Below W.heap.size W (W.alloc (.cells #[.int .i64 18,.string ⟨nm.toArray⟩,.float .f64 x,.slice (some ⟨j,0,none⟩) 1 f,.complex .f64 z.1 z.2] 60)).drew):=AC W _
  go_wp2_with fail
  go_region_held3 (fun o=>o.cell? ⟨j,0,none⟩=some (.int .i64 H.kd)/\o.cell? ⟨j,1,none⟩=some (.string ⟨H.nm.toArray⟩)/\o.cell? ⟨j,2,none⟩=some (.float .f64 H.x)/\o.cell? ⟨j,3,none⟩=some (k1)/\o.cell? ⟨j,4,none⟩=some (.complex .f64 H.z.1 H.z.2)/\o.cell? ⟨W.heap.size,1,none⟩=some (.string ⟨nm.toArray⟩)) (first | with_reducible exact⟨p,q,r,u,v,y⟩ | with_reducible exact⟨U,V,X,Y,Z,m0⟩)
   (first | (go_at_call 55;have hz:=l;clear hz;refine(p0.out _ l.out).mono ?_;rintro e w1 ⟨rfl,c⟩;have w:=aA (l.out.trans (c.mono l.out.size));have p:=Aa U c;have q:=Aa V c;have r:=Aa X c;have u:=Aa Y c;have v:=Aa Z c;have y:=Aa m0 c;clear c))
  go_wp2;go_ret;exact⟨by rw[HX.out];exact congrArg (fun x=>aB (.string x)) (BK (by simp)),w.out⟩
 by_cases y4:k=19
 ·subst y4
  obtain⟨J,eJ⟩:∃J,A3 [44] (AP ff ks)=J:=⟨_,rfl⟩;have hJ:=q2.out;rw[eJ] at hJ;have a2:=r2.out;rw[eJ] at a2;have HJ:=aA hJ;clear hJ
  have m0:(W.alloc (.cells #[.int .i64 19,.string ⟨nm.toArray⟩,.float .f64 x,.slice a ks.length f,.complex .f64 z.1 z.2] 60)).drew.cell? ⟨W.heap.size,1,none⟩=some (.string ⟨nm.toArray⟩):=by
   show (W.alloc (.cells #[.int .i64 19,.string ⟨nm.toArray⟩,.float .f64 x,.slice a ks.length f,.complex .f64 z.1 z.2] 60)).cell? ⟨W.heap.size,1,none⟩=_;rw[aC _ _ _ _ rfl];rfl
  have HX:Hid (AD ff (.mk 19 nm x z ks)=nm++[40]++J++[41]):=by
   unfold Hid;rw[Ba,<- eJ];unfold CI;simp
  clear eJ;have g1:¬ 9223372036854775807<nm.length+1:=(by omega);have g2:¬ 9223372036854775807<nm.length+1+J.length:=(by omega);have g3:¬ 9223372036854775807<nm.length+1+J.length+1:=by omega
  go_in
  have l:Hid (Below W.heap.size W (W.alloc (.cells #[.int .i64 19,.string ⟨nm.toArray⟩,.float .f64 x,.slice a ks.length f,.complex .f64 z.1 z.2] 60)).drew):=AC W _
  go_wp2_with fail
  go_region_held3 (fun o=>o.cell? ⟨W.heap.size,1,none⟩=some (.string ⟨nm.toArray⟩)) (first | with_reducible exact y | with_reducible exact m0)
   (first | (go_at_call 33;have hz:=l;clear hz;refine(HJ.out _ l.out).mono ?_;rintro e w1 ⟨rfl,c⟩;have w:=aA (l.out.trans (c.mono l.out.size));have y:=Aa m0 c;clear c))
  go_wp2;go_ret;exact⟨by rw[HX.out];exact congrArg (fun x=>aB (.string x)) (BK (by simp)),w.out⟩
 by_cases z4:k=20
 ·subst z4
  obtain⟨J,eJ⟩:∃J,A3 [44] (AP ff ks)=J:=⟨_,rfl⟩;have hJ:=q2.out;rw[eJ] at hJ;have a2:=r2.out;rw[eJ] at a2;have HJ:=aA hJ;clear hJ
  have m0:(W.alloc (.cells #[.int .i64 20,.string ⟨nm.toArray⟩,.float .f64 x,.slice a ks.length f,.complex .f64 z.1 z.2] 60)).drew.cell? ⟨W.heap.size,1,none⟩=some (.string ⟨nm.toArray⟩):=by
   show (W.alloc (.cells #[.int .i64 20,.string ⟨nm.toArray⟩,.float .f64 x,.slice a ks.length f,.complex .f64 z.1 z.2] 60)).cell? ⟨W.heap.size,1,none⟩=_;rw[aC _ _ _ _ rfl];rfl
  have HX:Hid (AD ff (.mk 20 nm x z ks)=nm++[40]++J++[41]):=by
   unfold Hid;rw[Ba,<- eJ];unfold CI;simp
  clear eJ;have g1:¬ 9223372036854775807<nm.length+1:=(by omega);have g2:¬ 9223372036854775807<nm.length+1+J.length:=(by omega);have g3:¬ 9223372036854775807<nm.length+1+J.length+1:=by omega
  go_in
  have l:Hid (Below W.heap.size W (W.alloc (.cells #[.int .i64 20,.string ⟨nm.toArray⟩,.float .f64 x,.slice a ks.length f,.complex .f64 z.1 z.2] 60)).drew):=AC W _
  go_wp2_with fail
  go_region_held3 (fun o=>o.cell? ⟨W.heap.size,1,none⟩=some (.string ⟨nm.toArray⟩)) (first | with_reducible exact y | with_reducible exact m0)
   (first | (go_at_call 33;have hz:=l;clear hz;refine(HJ.out _ l.out).mono ?_;rintro e w1 ⟨rfl,c⟩;have w:=aA (l.out.trans (c.mono l.out.size));have y:=Aa m0 c;clear c))
  go_wp2;go_ret;exact⟨by rw[HX.out];exact congrArg (fun x=>aB (.string x)) (BK (by simp)),w.out⟩
 unfold CZ Bi at p1;simp[Tr.kd,h1,h2,h3,h4,h5,h6,h7,h8,h9,o4,p4,q4,r4,s4,t4,v4,w4,x4,y4,z4] at p1
end Go.Proofs.YtipfpohlnhmlpaaGreatDoor
