/- Nq -/
import Derived.Test.YtipfpohlnhmlpaaGreatDoorMm
import Derived.Test.YtipfpohlnhmlpaaGreatDoorNp
import Derived.Test.YtipfpohlnhmlpaaGreatDoorGr
import Derived.Test.YtipfpohlnhmlpaaGreatDoorGx
import Derived.Test.YtipfpohlnhmlpaaGreatDoorGy
import Derived.Test.YtipfpohlnhmlpaaGreatDoorGu
import Derived.Test.YtipfpohlnhmlpaaGreatDoorGo
import Derived.Deep.Light
set_option maxRecDepth 100000
set_option maxHeartbeats 16000000
open Go.Lib renaming hid->aA
open List renaming mem_singleton->aB,map_cons->aF,length_append->aG,map_nil->aI
open Nat renaming le_trans->aC,lt_of_lt_of_le->aD,le_refl->aE,lt_trans->aH
namespace Go.Proofs.YtipfpohlnhmlpaaGreatDoor
open Go.Proofs.Tryz
open Go.RowKit
def G0:List Int:=[5,5,5,6,6,1,2,7,3,4,5,2]
theorem TM (r:Nat) (W:World) (h:r<12):Sem.run prog (Instr.index 73 (.agg #[.int .i64 5,.int .i64 5,.int .i64 5,.int .i64 6,.int .i64 6,.int .i64 1,.int .i64 2,.int .i64 7,.int .i64 3,.int .i64 4,.int .i64 5,.int .i64 2]) (.int .i64 (r:Int))) W = .ok (.int .i64 (G0[r]?.getD 0)) W:=by
 rcases (by omega:r=0\/r=1\/r=2\/r=3\/r=4\/r=5\/r=6\/r=7\/r=8\/r=9\/r=10\/r=11) with h | h | h | h | h | h | h | h | h | h | h | h<;>(subst h;kernel_rfl)
theorem TO (r:Nat) (h:r<12):1<=G0[r]?.getD 0/\G0[r]?.getD 0<=7:=by
 have:∀i:Fin 12,1<=G0[i.1]?.getD 0/\G0[i.1]?.getD 0<=7:=(by decide);exact this ⟨r,h⟩
theorem A.infoRl:(prog.info? 62).map (fun i=>(i.zero,i.size,i.bytes))=some (some (.agg #[.int .i64 0,.int .i64 0,.slice none 0 0,.int .i64 0,.string ⟨#[]⟩,.float .f64 0,.slice none 0 0,.complex .f64 0 0,.complex .f64 0 0]),9,128):=by kernel_rfl
def Tn (h:World) (e:Ending) (w':World):Prop :=
 ∃c a g d,e = .returned (.agg #[g,d])/\ED 60 w' c g/\Fh 60 w' a d/\c.length<=4/\a.length<=2 /\
  (∀r∈c,(∀t∈r.ps,Tr.All A0 t)/\Tr.All A0 r.b/\DN r.ps+r.b.wt<=100000000)/\(∀f∈a,Tr.All A0 f.b/\f.b.wt<=100000000/\f.nm.length<=24/\f.ps.length<=8/\∀p∈f.ps,p.length<=24)/\Below h.heap.size h w'
theorem IM {d W:World} {l:Cp} {b I:Nat} (h:CH d l b I W) (f:Bool):CH d l b (I+0) (W.setCell ⟨b,3,none⟩ (.bool f)):=by
 obtain⟨i,g,a⟩:=h;obtain⟨x,y,j,e⟩:=a.c;exact⟨i,g,((Ae.refl _ _).set 3 _).below_of a.below a.hb a.below.size,a.hb,a.row,x,y,f,e.set3 _⟩
theorem G5 {d W:World} {l:Cp} {b I:Nat} (h:CH d l b I W) (X:Int):CH d l b (I+0) (W.setCell ⟨b,2,none⟩ (.int .i64 X)):=by
 obtain⟨i,g,a⟩:=h;obtain⟨x,y,e,f⟩:=a.c;exact⟨i,g,((Ae.refl _ _).set 2 _).below_of a.below a.hb a.below.size,a.hb,a.row,X,y,e,f.set2 _⟩
theorem Mw (a:World) (l:Cp) (q3:l.n=0\/∃lb lo,l.ao=some ⟨lb,lo,none⟩/\∀j,j<l.n->a.cell? ⟨lb,lo+j,none⟩=some (.int .i64 (l.Z j))) (hM:Ce a) (hn:l.n<=9223372036854775807) :
  Calls prog 10 #[.slice l.ao l.n l.cap] a (Tn a):=by
 obtain⟨X,s4⟩:∃X,X=a.heap.size:=⟨_,rfl⟩;obtain⟨b,hb⟩:∃b,b=a.heap.size+1:=⟨_,rfl⟩;obtain⟨bg,hbg⟩:∃bg,bg=a.heap.size+2:=⟨_,rfl⟩;obtain⟨c,cb,x8,y8,z7,t5,s5⟩:=Vt a l b hM hn
 have z5:GR 60 62 A0 a l X b bg 0 (2*c+cb+c+20) [] (.slice none 0 0) (.slice none 0 0)
   (((a.alloc (.cells #[.slice none 0 0,.slice none 0 0] 37)).alloc (.cells #[.slice l.ao l.n l.cap,.int .i64 0,.int .i64 0,.bool false,.int .i64 0] 71)).alloc (.cells #[.slice none 0 0,.slice none 0 0] 37)):=by
  have y6:(a.alloc (.cells #[.slice none 0 0,.slice none 0 0] 37)).heap.size=b:=by rw[hb];simp
  have z6:((a.alloc (.cells #[.slice none 0 0,.slice none 0 0] 37)).alloc (.cells #[.slice l.ao l.n l.cap,.int .i64 0,.int .i64 0,.bool false,.int .i64 0] 71)).heap.size=bg:=by rw[hbg];simp
  have b1:Below a.heap.size a (a.alloc (.cells #[.slice none 0 0,.slice none 0 0] 37)):=(Below.refl _ _).alloc (aE _) _;refine⟨⟨0,aE _,?_,by omega,q3,0,0,false,?_⟩,by omega,by omega,?_,?_,World.ownsRow_nil ..,fun p hp=>by cases hp⟩
  ·exact(b1.alloc (by simp) _).alloc (by simp;omega) _
  ·have:=(C5.new (a.alloc (.cells #[.slice none 0 0,.slice none 0 0] 37)) (.slice l.ao l.n l.cap) (.int .i64 0) (.int .i64 0) (.bool false) (.int .i64 0) 71).alloc (.cells #[.slice none 0 0,.slice none 0 0] 37)
   rw[y6] at this;exact this
  ·have N:=Af.new a [.slice none 0 0,.slice none 0 0] 37
   rw[<- s4] at N;refine(N.below (by rw[y6];omega) ((Below.refl _ _).alloc (aE _) _)).below (by rw[z6];omega) ((Below.refl _ _).alloc (aE _) _)
  have N:=Af.new ((a.alloc (.cells #[.slice none 0 0,.slice none 0 0] 37)).alloc (.cells #[.slice l.ao l.n l.cap,.int .i64 0,.int .i64 0,.bool false,.int .i64 0] 71)) [.slice none 0 0,.slice none 0 0] 37;rw[z6] at N;exact N
 have l7:=aA hM;have x3:=aA z5;have v2:=aA t5;have c5:=aA s5;obtain⟨i0,l1,e9,f9,g9⟩:=info_parts A.infoNd;obtain⟨j0,d8,l8,m8,n8⟩:=info_parts A.infoRl;have e1:(a.alloc (.cells #[.slice none 0 0,.slice none 0 0] 37)).heap.size=b:=by rw[hb];simp
 have e7:=aA hb;have g7:=aA hbg;have o5:=aA s4;clear z5 t5 s5 q3 hM e1 hb hbg s4
 go_in
 go_wp2_with fail
 rw[show a.heap.size+1+1=bg by rw[g7.out],show a.heap.size+1=b by rw[e7.out],show a.heap.size=X by rw[o5.out]]
 (go_at_call 35;refine(Ar a l b _ 4 _ x3.out.s (by omega) (by omega) (by omega) hn).mono ?_;rintro e w1 ⟨qq,d9,rfl,hs,I⟩)
 have l5:=aA (x3.out.step hs I);clear hs I x3;have ea:(1:Int)+(qq:Int)=((qq+1:Nat):Int):=(by omega);obtain⟨D,hD⟩:∃D,D=4*c+cb+100:=⟨_,rfl⟩;obtain⟨K,hK⟩:∃K,K=2*c+cb+c+20:=⟨_,rfl⟩;rw[<- hK] at l5;have j7:=aA hD;have i5:=aA hK;have v8:D<=100000000:=(by omega);clear hD hK
 go_wp2_with fail
 go_loopg [5] (qq+1) (fun g i wr=>∃(L:List (Rl×Value×Value)) (v:Value),i = .int .i64 g/\g<=qq+1/\L.length+g=qq+1/\Hid (GR 60 62 A0 a l X b bg (1+L.length*D) K L v (.slice none 0 0) wr))
 case atStart=>exact⟨[],_,rfl,aE _,by simp,by simpa using l5⟩
 obtain⟨L,v,rfl,hg,i4,HP⟩:=hrel;have v3:=aA i4;have y7:L.length*D<=4*D:=Nat.mul_le_mul_right D (by omega);obtain⟨xa,xn,xc,rfl⟩:=CO HP.out.row;by_cases hp:0<gk
 ·obtain⟨i,hi,e0⟩:=HP.out.s
  obtain⟨x,y,f,hc⟩:=e0.c;have y3:=aA (HP.out.step (IL ⟨i,hi,e0⟩ hc 0) ((Ae.refl _ _).set 2 _));obtain⟨c0,c1,c2,c3,c4,cf⟩:=hc;clear e0 hi c0 c1 c3 c4 ea
  go_wp2_with fail
  (go_at_call 35;refine(Ar a l b _ 12 _ y3.out.s (by omega) (by omega) (by omega) hn).mono ?_;rintro e w2 ⟨g3,n6,rfl,hs,I⟩)
  have r0:=aA (y3.out.step hs I);clear hs I y3 c2 cf;have n4:=TM g3;have n3:=TO g3 (by omega);generalize G0[g3]?.getD 0=kk at n4 n3;have e6:∀W,Sem.run prog (Instr.index 73 (.agg #[.int .i64 5,.int .i64 5,.int .i64 5,.int .i64 6,.int .i64 6,.int .i64 1,.int .i64 2,.int .i64 7,.int .i64 3,.int .i64 4,.int .i64 5,.int .i64 2]) (.int .i64 (g3:Int))) W = .ok (.int .i64 kk) W:=fun W=>n4 W (by omega);clear n4
  go_upto_region 8 with fail
  have p2:b<w2.heap.size:=aH r0.out.hbg r0.out.lt;have l4:=Ad w2 (.cells #[.int .i64 kk,.int .i64 0,.slice none 0 0,.int .i64 0,.string ⟨#[]⟩,.float .f64 0,.slice none 0 0,.complex .f64 0 0,.complex .f64 0 0] 62);have d6:=Af.new w2 [.int .i64 kk,.int .i64 0,.slice none 0 0,.int .i64 0,.string ⟨#[]⟩,.float .f64 0,.slice none 0 0,.complex .f64 0 0,.complex .f64 0 0] 62;have l1:=It.start (T:=60) (P:=A0) (q:=w2.heap.size) (r0.out.s.keep l4) p2 (by simp);have j4:Ae b w2 (w2.alloc (.cells #[.int .i64 kk,.int .i64 0,.slice none 0 0,.int .i64 0,.string ⟨#[]⟩,.float .f64 0,.slice none 0 0,.complex .f64 0 0,.complex .f64 0 0] 62)):=Ae.of_below b l4
  have y0:Af (w2.alloc (.cells #[.int .i64 kk,.int .i64 0,.slice none 0 0,.int .i64 0,.string ⟨#[]⟩,.float .f64 0,.slice none 0 0,.complex .f64 0 0,.complex .f64 0 0] 62)) w2.heap.size [.int .i64 kk,.int .i64 0,.slice none 0 0,.int .i64 0,.string ⟨#[]⟩,.float .f64 0,.slice none 0 0,.complex .f64 0 0,.complex .f64 0 0]:=d6;clear d6 l4;generalize (w2.alloc (.cells #[.int .i64 kk,.int .i64 0,.slice none 0 0,.int .i64 0,.string ⟨#[]⟩,.float .f64 0,.slice none 0 0,.complex .f64 0 0,.complex .f64 0 0] 62))=wa at l1 j4 y0 ⊢;obtain⟨q,eq⟩:∃q,w2.heap.size=q:=⟨_,rfl⟩;rw[eq] at l1 y0 p2 ⊢;obtain⟨J,eJ⟩:∃J,1+L.length*D+0+1=J:=⟨_,rfl⟩
  rw[eJ] at r0 l1;have hJ:J<=500000000:=(by omega);have EQ:=aA eq;have EJ:=aA eJ;have G:=aA l1;have d7:=aA j4;have CQ:=aA y0;clear l1 j4 y0 eq eJ e6 y7 n6
  go_cut [26] (fun v wx=>v = .int .i64 kk/\wa=wx)
  case first =>
   have f0:=CQ.out.c 0 _ rfl;go_wp2;go_meet;exact⟨rfl,rfl⟩
  case rest =>
  obtain⟨rfl,rfl⟩:=hcut
  apply_assumption
  go_cut [6] (fun v wx=>v = .pointer (some ⟨q,0,none⟩)/\∃(n:Int) (ps:List Tr) (pa:Option Addr) (pn pc:Nat),Hid (Af wx q [.int .i64 kk,.int .i64 n,.slice pa pn pc,.int .i64 0,.string ⟨#[]⟩,.float .f64 0,.slice none 0 0,.complex .f64 0 0,.complex .f64 0 0])/\Hid (Am 60 wx (fun j=>wa.heap.size<=j) ps (.slice pa pn pc))/\Hid (∀t∈ps,Tr.All A0 t)/\Hid (DN ps<=2*c)/\Hid (CH a l b (J+(2*c+1)) wx)/\Hid (Hm b q wa wx))
  case first =>
   by_cases h6:kk=6
   ·subst h6
    go_wp2_with fail
    (go_at_call 36;refine(v2.out 2 _ _ (by omega) (by omega) G.out.s (by omega)).mono ?_;rintro e w4 ⟨Q,R,S,ae,le,ce,se,rfl,N,h2,h3,h4,h5⟩)
    have B:=aA (G.out.node (fun _ h=>by cases h) N h2 h3 h4 h5);have O:=aA (CQ.out.only G.out.hqW h5 (by omega));clear N h2 h3 h4 h5;have f2:=O.out.c 2 _ rfl;have fz:=O.out.fz;have r7:=fun o=>A2 f2 o;have s7:=D7 O.out;go_wp2;go_meet;have m2:=B.out.kids (L1:=[]) (fun _ h=>by cases h) 1 rfl (by unfold maxLen;simp);have e4:=B.out.alloc (.cells #[.int .i64 Q,.string ⟨R.toArray⟩,.float .f64 S,.slice ae le ce,.complex .f64 0 0] 60);have p4:q<w4.heap.size:=aD B.out.hqW B.out.size;have a4:=O.out.below p4 (Ad w4 (.cells #[.int .i64 Q,.string ⟨R.toArray⟩,.float .f64 S,.slice ae le ce,.complex .f64 0 0] 60))
    have I:Ae q (w4.alloc (.cells #[.int .i64 Q,.string ⟨R.toArray⟩,.float .f64 S,.slice ae le ce,.complex .f64 0 0] 60)) ((w4.alloc (.cells #[.int .i64 Q,.string ⟨R.toArray⟩,.float .f64 S,.slice ae le ce,.complex .f64 0 0] 60)).setCell ⟨q,2,none⟩ (.slice (some ⟨w4.heap.size,0,none⟩) 1 1)):=(Ae.refl _ _).set 2 _;have m0:=e4.setq I;refine⟨rfl,0,[Tr.mk Q R S (0,0) se],_,_,_,aA (a4.set 2 _ _ rfl),aA ((m2.kept I.size fun j F hl=>I.block j hl (fun e=>by injection e with e;have:=F.1;have:=B.out.hqW;omega)).mono fun j _ F=>F.1),aA ?_,aA ?_,aA (m0.s.mono (by omega)),aA m0.o⟩
    ·intro t ht
     rw[aB.1 ht];exact(B.out.k _ (aB.2 rfl)).2
    have:=B.out.wt;simpa using aC this (by omega)
   have b6:(kk==6)=false:=beq_eq_false_iff_ne.2 h6;by_cases h7:kk=7
   ·subst h7
    clear b6
    go_wp2_with fail
    (go_at_call 36;refine(v2.out 2 _ _ (by omega) (by omega) G.out.s (by omega)).mono ?_;rintro e w4 ⟨Q,R,S,ae,le,ce,se,rfl,N,h2,h3,h4,h5⟩)
    have B:=aA (G.out.node (fun _ h=>by cases h) N h2 h3 h4 h5);have O:=aA (CQ.out.only G.out.hqW h5 (by omega));clear N h2 h3 h4 h5
    go_wp2_with fail
    (go_at_call 36;refine(v2.out 2 _ _ (by omega) (by omega) B.out.s (by omega)).mono ?_;rintro e w5 ⟨kf,nf,xf,af,lf,cf,sf,rfl,N,h2,h3,h4,h5⟩)
    have l0:=aA (B.out.node (fun _ h=>by cases h) N h2 h3 h4 h5);have p0:=aA (O.out.only (aD B.out.hqW B.out.size) h5 (by omega));clear N h2 h3 h4 h5;have f2:=p0.out.c 2 _ rfl;have fz:=p0.out.fz;have r7:=fun o=>A2 f2 o;have s7:=D7 p0.out;go_wp2;go_meet;have m2:=l0.out.kids (L1:=[]) (fun _ h=>by cases h) 2 rfl (by unfold maxLen;simp);have e4:=l0.out.alloc (.cells #[.int .i64 Q,.string ⟨R.toArray⟩,.float .f64 S,.slice ae le ce,.complex .f64 0 0,.int .i64 kf,.string ⟨nf.toArray⟩,.float .f64 xf,.slice af lf cf,.complex .f64 0 0] 60);have p4:q<w5.heap.size:=aD l0.out.hqW l0.out.size
    have a4:=p0.out.below p4 (Ad w5 (.cells #[.int .i64 Q,.string ⟨R.toArray⟩,.float .f64 S,.slice ae le ce,.complex .f64 0 0,.int .i64 kf,.string ⟨nf.toArray⟩,.float .f64 xf,.slice af lf cf,.complex .f64 0 0] 60));have I:Ae q (w5.alloc (.cells #[.int .i64 Q,.string ⟨R.toArray⟩,.float .f64 S,.slice ae le ce,.complex .f64 0 0,.int .i64 kf,.string ⟨nf.toArray⟩,.float .f64 xf,.slice af lf cf,.complex .f64 0 0] 60)) ((w5.alloc (.cells #[.int .i64 Q,.string ⟨R.toArray⟩,.float .f64 S,.slice ae le ce,.complex .f64 0 0,.int .i64 kf,.string ⟨nf.toArray⟩,.float .f64 xf,.slice af lf cf,.complex .f64 0 0] 60)).setCell ⟨q,2,none⟩ (.slice (some ⟨w5.heap.size,0,none⟩) 2 2)):=(Ae.refl _ _).set 2 _
    have m0:=e4.setq I;refine⟨rfl,0,[Tr.mk Q R S (0,0) se,Tr.mk kf nf xf (0,0) sf],_,_,_,aA (a4.set 2 _ _ rfl),aA ((m2.kept I.size fun j F hl=>I.block j hl (fun e=>by injection e with e;have:=F.1;have:=l0.out.hqW;omega)).mono fun j _ F=>F.1),aA ?_,aA ?_,aA (m0.s.mono (by omega)),aA m0.o⟩
    ·intro t ht
     rcases List.mem_cons.1 ht with rfl | ht
     ·exact(l0.out.k (Tr.mk Q R S (0,0) se,Value.slice ae le ce) (by simp)).2
     rw[aB.1 ht];exact(l0.out.k (Tr.mk kf nf xf (0,0) sf,Value.slice af lf cf) (by simp)).2
    have:=l0.out.wt;simpa using aC this (by omega)
   have b7:(kk==7)=false:=beq_eq_false_iff_ne.2 h7;by_cases h3:kk=3
   ·subst h3
    clear b6 b7
    go_wp2_with fail
    (go_at_call 35;refine(Ar a l b _ 20 _ G.out.s (by omega) (by omega) (by omega) hn).mono ?_;rintro e w4 ⟨c7,p8,rfl,hs,I⟩)
    have B:=aA (G.out.step (d:=1) hs I);have O:=aA (CQ.out.only G.out.hqW I (by omega));clear hs I;have f2:=O.out.c 1 _ rfl;have fz:=O.out.fz;go_wp2;go_meet;have I:Ae q w4 (w4.setCell ⟨q,1,none⟩ (.int .i64 (1+(c7:Int)))):=(Ae.refl _ _).set 1 _;have m0:=B.out.setq I;exact⟨rfl,1+(c7:Int),[],_,_,_,aA (O.out.set 1 _ _ rfl),aA (.nil _),aA (by simp),aA (by rw[AM];omega),aA (m0.s.mono (by omega)),aA m0.o⟩
   have b3:(kk==3)=false:=beq_eq_false_iff_ne.2 h3;go_wp2;go_meet;exact⟨rfl,0,[],_,_,_,CQ,aA (.nil _),aA (by simp),aA (by rw[AM];omega),aA (G.out.s.mono (by omega)),aA G.out.o⟩
  obtain⟨rfl,n,ps,pa,pn,pc,p0,y1,n7,o7,p5,w3⟩:=hcut;obtain⟨wb,x4⟩:∃wb,wb=wc:=⟨_,rfl⟩;subst x4;have y2:=aA G.out.hqW;have o6:q<wb.heap.size:=aD G.out.hqW w3.out.size;have q1:=aA (It.start (T:=60) (P:=A0) p5.out p2 o6);clear G CQ p5
  go_wp2_with fail
  (go_at_call 37;refine(c5.out 3 _ _ (by omega) (by omega) q1.out.s (by omega)).mono ?_;rintro e w6 ⟨Q,R,S,ae,le,ce,se,rfl,N,h2,h3,h4,h5⟩)
  have B:=aA (q1.out.node (fun _ h=>by cases h) N h2 h3 h4 h5);have k0:=aA (p0.out.only o6 h5 (by omega));clear N h2 h3 h4 h5 q1 p0;have f3:=k0.out.c 3 _ rfl;have f4:=k0.out.c 4 _ rfl;have f5:=k0.out.c 5 _ rfl;have f6:=k0.out.c 6 _ rfl;have f7:=k0.out.c 7 _ rfl;have fz:=k0.out.fz
  go_upto_region 16 with fail
  have j6:Ae q w6 (((((w6.setCell ⟨q,3,none⟩ (.int .i64 Q)).setCell ⟨q,4,none⟩ (.string ⟨R.toArray⟩)).setCell ⟨q,5,none⟩ (.float .f64 S)).setCell ⟨q,6,none⟩ (.slice ae le ce)).setCell ⟨q,7,none⟩ (.complex .f64 0 0)):=(((((Ae.refl _ _).set 3 _).set 4 _).set 5 _).set 6 _).set 7 _;have g4:=B.out.setq j6;have b4:=((((k0.out.set 3 (.int .i64 Q) _ rfl).set 4 (.string ⟨R.toArray⟩) _ rfl).set 5 (.float .f64 S) _ rfl).set 6 (.slice ae le ce) _ rfl).set 7 (.complex .f64 0 0) _ rfl;clear f3 f4 f5 f6 f7 fz j6;generalize (((((w6.setCell ⟨q,3,none⟩ (.int .i64 Q)).setCell ⟨q,4,none⟩ (.string ⟨R.toArray⟩)).setCell ⟨q,5,none⟩ (.float .f64 S)).setCell ⟨q,6,none⟩ (.slice ae le ce)).setCell ⟨q,7,none⟩ (.complex .f64 0 0))=w7 at g4 b4 ⊢
  have i1:=aA g4;have s2:=aA (show Af w7 q [.int .i64 kk,.int .i64 n,.slice pa pn pc,.int .i64 Q,.string ⟨R.toArray⟩,.float .f64 S,.slice ae le ce,.complex .f64 0 0,.complex .f64 0 0] from b4);clear g4 b4 B k0;have s8:=w3
  go_cut [57] (fun v wx=>∃bb:Bool,v = .bool bb/\Hid (It 60 A0 a l b q wb (J+(2*c+1)) (0+cb+1) [(.mk Q R S (0,0) se,.slice ae le ce)] none wx)/\Hid (Af wx q [.int .i64 kk,.int .i64 n,.slice pa pn pc,.int .i64 Q,.string ⟨R.toArray⟩,.float .f64 S,.slice ae le ce,.complex .f64 0 0,.complex .f64 0 0]))
  case first =>
   have f0:=s2.out.c 0 _ rfl;by_cases h5:5<=kk
   ·have b5:decide (5<=kk)=true:=decide_eq_true h5
    go_wp2_with fail
    (go_at_call 35;refine(Ar a l b _ 9 _ i1.out.s (by omega) (by omega) (by omega) hn).mono ?_;rintro e w8 ⟨q9,b9,rfl,hs,I⟩)
    have H:=aA (i1.out.step (d:=1) hs I);have p1:=aA (s2.out.only (aD i1.out.hqW i1.out.size) I (by omega));go_wp2;go_meet;exact⟨_,rfl,H,p1⟩
   have b5:decide (5<=kk)=false:=decide_eq_false h5;go_wp2;go_meet;exact⟨_,rfl,aA (i1.out.more (by omega)),s2⟩
  obtain⟨bb,rfl,H,p1⟩:=hcut;clear i1 s2 n3 i4
  apply_assumption
  go_cut [6] (fun v wx=>v = .pointer (some ⟨q,0,none⟩)/\∃(k':Int) (n1:List UInt8) (x':Nat) (r2:List Tr) (va:Option Addr) (vn vc:Nat),Hid (It 60 A0 a l b q wb (J+(2*c+1)) (cb+c+10) [(.mk k' n1 x' (0,0) r2,.slice va vn vc)] none wx)/\Hid (Af wx q [.int .i64 kk,.int .i64 n,.slice pa pn pc,.int .i64 k',.string ⟨n1.toArray⟩,.float .f64 x',.slice va vn vc,.complex .f64 0 0,.complex .f64 0 0]))
  case first =>
   cases bb with
   | false =>
     go_wp2;go_meet;exact⟨rfl,_,_,_,_,_,_,_,aA (H.out.more (by omega)),p1⟩
   | true =>
     obtain⟨o4,z2⟩:=H.out.k _ (aB.2 rfl);have a3:=H.out.wt;rw[aF,aI,AK,AM] at a3;dsimp only at a3 o4 z2;rw[Tr.wt_mk] at a3;have x5:J+(2*c+1)+(0+cb+1)+c+1000<=1099511627776:=(by omega);have q6:DN se<=100000000:=by omega
     go_upto_region 17 with fail
     refine Wo (by kernel_rfl) (by kernel_rfl) (by kernel_rfl) (by kernel_rfl) rfl a l b q (J+(2*c+1)+(0+cb+1)) c wb.heap.size wb [.int .i64 kk,.int .i64 n,.slice pa pn pc,.int .i64 Q,.string ⟨R.toArray⟩,.float .f64 S,.slice ae le ce,.complex .f64 0 0,.complex .f64 0 0] se ae le ce rfl rfl ⟨H.out.s,H.out.o,p1.out⟩ rfl (o4.mono fun j _ F=>F.1) q6 ⟨H.out.size,rfl⟩ ⟨H.out.hbq,H.out.hqW⟩ v2.out x5 ?_;intro V w t za zn zc r5 g6 a6 k8 hB
     have k7:Hid (It 60 A0 a l b q wb (J+(2*c+1)) (cb+c+10) [(.mk Q R S (0,0) (se++[t]),.slice za zn zc)] none w):=by
      refine⟨hB.mm.mono (by omega),hB.ob,H.out.hbq,H.out.hqW,fun p hp=>?_,?_⟩
      ·obtain rfl:=aB.1 hp
       refine⟨g6.mono fun j _ F=>⟨F,fun e=>by cases e⟩,.mk _ _ _ _ _ z2.self fun u hu=>?_⟩;rcases List.mem_append.1 hu with m | m
       ·exact z2.kid m
       obtain rfl:=aB.1 m;exact a6
      rw[aF,aI,AK,AM];dsimp only;rw[Tr.wt_mk,B9,AK,AM];omega
     have i7:=aA hB.cq;clear g6 a6 k8 hB o4 z2 a3 q6 x5;simp only[Act.all,Rf,Act.put]
     go_simp
     go_wp2;go_meet;exact⟨rfl,_,_,_,_,_,_,_,k7,i7⟩
  obtain⟨rfl,k',n1,x',r2,va,vn,vc,a0,Y⟩:=hcut;clear H p1;obtain⟨e8,i8⟩:=a0.out.k _ (aB.2 rfl);have x4:=a0.out.wt;have c9:q<wc.heap.size:=aD a0.out.hqW a0.out.size;have h8:Ae b w2 wc:=(w3.out.trans a0.out.o).only d7.out (by have:=EQ.out;omega);have t1:=aA (r0.out.step a0.out.s h8)
  have l6:Am 60 wc (fun j=>wa.heap.size<=j/\j<wb.heap.size) ps (.slice pa pn pc):=by
   have N:=y1.out.mono (S':=fun j=>wa.heap.size<=j/\j<wb.heap.size) fun j F hS=>⟨hS,F⟩;exact N.kept a0.out.size fun j F hl=>a0.out.o.block j hl (by have:=F.1;have:=y2.out;have:=a0.out.hbq;omega) (by have:=F.1;have:=y2.out;omega)
  have f0:=Y.out.c 0 _ rfl;have f1:=Y.out.c 1 _ rfl;have f2:=Y.out.c 2 _ rfl;have f3:=Y.out.c 3 _ rfl;have f4:=Y.out.c 4 _ rfl;have f5:=Y.out.c 5 _ rfl;have f6:=Y.out.c 6 _ rfl;have f7:=Y.out.c 7 _ rfl;have f8:=Y.out.c 8 _ rfl;have h9:=t1.out.g.c 0 _ rfl;have y5:L.length<=4:=by have:=v3.out;omega
  go_wp2_with (at_builtin;refine Bg _ rfl (.tmp 73) (.tmp 75) 34 rfl (bg+1) 62 j0 _ 9 128 underlying34 d8 l8 m8 n8 rfl (by decide) _ _ _ rfl (GD t1.out.row (Ad wc _)) ⟨wc.heap.size,0,none⟩ 1 1 (AW [(⟨kk,n,ps,.mk k' n1 x' (0,0) r2,(0,0)⟩,.slice pa pn pc,.slice va vn vc)]) rfl rfl (CE _ _ _) (NC _ _ _ _ _ _ _) (by unfold maxLen;omega) (by omega) (by have:=t1.out.lt;simp;omega) (by decide) ?_;intro v5 m9 o1 o2 o3;obtain⟨n9,p9,o9,rfl⟩:=CO o1;have m4:=t1.out.gAt o2;have j9:=m4.c 0 _ rfl;have jz:=m4.fz;have O1:=aA o1;have O2:=aA o2;have O3:=aA o3;clear o1 o2 o3 m4)
  go_roundg (gk-1)
  case measure=>omega
  have j8:=EQ.out;have o8:bg<q:=by rw[<- j8];exact r0.out.lt
  have p3:∀j,q<j->some j≠(Value.slice xa xn xc).ownBlock:=fun j F e=>by have:=(r0.out.own j e.symm).2;omega
  have c8:=t1.out.grow (r:=⟨kk,n,ps,.mk k' n1 x' (0,0) r2,(0,0)⟩) (l6.mono fun j _ F=>⟨by have:=F.1;have:=y2.out;omega,p3 j (by have:=F.1;have:=y2.out;omega)⟩) (e8.mono fun j _ F=>⟨by have:=F.1;omega,p3 j (by have:=F.1;omega)⟩) n7.out i8 (by have N:=o7.out;have h2:=i5.out;have h3:=x4;rw[aF,aI,AK,AM] at h3;dsimp only at h3 ⊢;omega) O1.out O2.out O3.out;refine⟨L++[(⟨kk,n,ps,.mk k' n1 x' (0,0) r2,(0,0)⟩,.slice pa pn pc,.slice va vn vc)],_,congrArg (Value.int .i64) (by omega),by omega,by rw[aG];show L.length+1+(gk-1)=qq+1;have:=v3.out;omega,aA (c8.more ?_)⟩
  rw[aG,Nat.add_mul];have N:=EJ.out;have h2:=j7.out;show J+(2*c+1)+(cb+c+10)<=1+(L.length*D+1*D);omega
 have b8:gk=0:=(by omega);subst b8;have z3:=aA ((HP.out.step (IM HP.out.s true) ((Ae.refl _ _).set 3 _)).step (G5 (IM HP.out.s true) 60) ((Ae.refl _ _).set 2 _));obtain⟨i,hi,e0⟩:=HP.out.s;obtain⟨x,y,f,hc⟩:=e0.c;obtain⟨c0,c1,c2,c3,c4,cf⟩:=hc
 go_upto_region 21 with fail
 clear c0 c1 c2 c3 c4 cf e0 hi HP;generalize (wr.setCell ⟨b,3,none⟩ (.bool true)).setCell ⟨b,2,none⟩ (.int .i64 60)=wa at z3 ⊢;have x2:=aA (PG.start z3.out);have v7:1+L.length*D+0+0<=500000000:=(by omega);generalize 1+L.length*D+0+0=J0 at x2 v7;obtain⟨n0,q4⟩:∃n0,n0=wa.heap.size:=⟨_,rfl⟩;rw[<- q4] at x2;have r1:=aA q4;have y5:L.length<=4:=(by omega);clear q4 z3 v3 i4;refine Wp (by kernel_rfl) (by kernel_rfl) (by kernel_rfl) (by kernel_rfl) (by kernel_rfl) rfl a l X b bg J0 cb K n0 L _ rfl rfl x2.out c5.out (by omega) ?_;intro V w f pv kv h7 r4 r6
 have t4:∃ya yn yc,V 7 = .slice ya yn yc:=by
  rcases h7.row.2 with⟨h,_⟩ | ⟨g,q7,a2,h,_⟩
  ·exact⟨_,_,_,h⟩
  exact⟨_,_,_,h⟩
 simp only[Act.all,Rg,Act.put]
 go_simp
 obtain⟨ya,yn,yc,x6⟩:=t4;rw[x6] at h7 r4;have d5:=aA h7;have m5:=aA r4;have j5:Hid (n0<=w.heap.size):=by unfold Hid;rw[r1.out];exact r6
 clear h7 r4 r6 x2 x6
 apply_assumption
 go_upto_region 22 with fail
 go_cut [94] (fun v wx=>∃bb,v = .bool bb/\Hid (Below w.heap.size w wx))
 case first =>
  go_region
  all_goals
   go_wp2;go_meet;exact⟨_,rfl,aA ⟨rfl,rfl,rfl,(Ad w _).size,(Ad w _).block⟩⟩
 obtain⟨bb,rfl,t2⟩:=hcut;have q0:=aA (d5.out.kp (Kp.below t2.out));have v1:=aA (m5.out.bel t2.out)
 apply_assumption
 go_cut [4] (fun v4 wx=>v4 = .pointer (some ⟨bg,0,none⟩)/\∃f' a5 z4,Hid (GQ 60 68 A0 n0 (cb+3) [(f',a5,z4)] (.slice ya yn yc) wx)/\Hid (PG 60 62 A0 a l X b bg (J0+cb) K L (.slice xa xn xc) (.slice ya yn yc) n0 wx)/\Hid (n0<=wx.heap.size))
 case first =>
  cases bb with
  | true =>
    go_upto_region 23 with fail
    rcases q0.out.row.2 with⟨_,h0⟩ | ⟨g,q5,a2,y4,l2,k1,g2,i2,j2,k2⟩
    ·simp at h0
    have C:=q0.out.k _ (aB.2 rfl);injection y4 with e1 e2 e3;subst e1 e2 e3;obtain⟨ka,kc,n2⟩:=C.ks.slice;dsimp only at n2;subst n2;have E:=C.mono (S':=fun j=>n0<=j/\j≠g) fun j _ F=>⟨by rw[r1.out];exact F.1,fun e=>F.2 (by rw[e];rfl)⟩;have U:n0<=wc.heap.size:=by have N:=t2.out.size;have h2:=j5.out;omega
    have s3:f.b.wt+3<=cb+3:=Nat.add_le_add_right E.wt 3
    have g8:f.b.ks.length<=100000000:=by
     have N:=Io f.b.ks;have h2:f.b.wt<=cb:=E.wt;rw[MR] at h2;exact aC N (aC (aC (Nat.le_add_left _ 1) h2) (aC z7 (by decide)))
    have l3:g<wc.heap.size:=(Array.getElem?_eq_some_iff.1 k1).1;refine Wq (by kernel_rfl) (by kernel_rfl) (by kernel_rfl) (by kernel_rfl) rfl a l X b bg (J0+cb) cb K n0 g yc L _ a2 f pv ka f.b.ks.length kc rfl v1.out U E (by rw[r1.out];exact l2) k1 ⟨g2,i2,j2⟩ (by simpa using k2) (by omega) ?_;intro V2 w2 q qc za zn zc t7 r5 t8 m3 j1 g0 o0;obtain⟨v0,z8,m6,q2⟩:=RR j1 rfl m3 ⟨U,l3⟩ s3;generalize hM:f.b.ks.length=m at t7 r5 v0 q2 g8;obtain⟨u0,d0⟩:=v0 0 (by omega);obtain⟨u1,d1⟩:=v0 1 (by omega);obtain⟨u2,d2⟩:=v0 2 (by omega);obtain⟨u3,d3⟩:=v0 3 (by omega);obtain⟨u4,d4⟩:=v0 4 (by omega)
    rw[Nat.add_zero] at d0;have n5:=aA q2;have x1:=aA g0;have i3:=aA j1;have p7:=aA m6;have r8:=aA hM;have x0:Hid (n0<=w2.heap.size):=aC U o0;clear q2 g0 j1 m6 hM o0 C E k1 g2 i2 j2 k2 l2 q0 v1 m3 v0 s3 l3;simp only[Act.all,Rh,Act.put]
    go_simp
    go_wp2;have m1:Ae q w2 (((((w2.setCell ⟨q,m*5,none⟩ (.int .i64 nS.kd)).setCell ⟨q,m*5+1,none⟩ (.string ⟨nS.nm.toArray⟩)).setCell ⟨q,m*5+2,none⟩ (.float .f64 nS.x)).setCell ⟨q,m*5+3,none⟩ (.slice za zn zc)).setCell ⟨q,m*5+4,none⟩ (.complex .f64 nS.z.1 nS.z.2)):=(((((Ae.refl q w2).set _ _).set _ _).set _ _).set _ _).set _ _;have k6:=aA (x1.out.high ⟨m1.os,m1.tape,m1.output⟩ m1.size (fun j F hl=>m1.block j hl (fun e=>by injection e with e;have:=p7.out;omega)) x0.out);have t6:Hid (n0<=_):=aC x0.out m1.size;go_meet;exact⟨rfl,_,_,_,n5,k6,t6⟩
  | false =>
    go_upto_region 25 with fail
    rcases q0.out.row.2 with⟨_,h0⟩ | ⟨g,q5,a2,y4,l2,k1,g2,i2,j2,k2⟩
    ·simp at h0
    have C:=q0.out.k _ (aB.2 rfl);injection y4 with e1 e2 e3;subst e1 e2 e3;obtain⟨ka,kc,n2⟩:=C.ks.slice;dsimp only at n2;subst n2;have E:=C.mono (S':=fun j=>n0<=j/\j≠g) fun j _ F=>⟨by rw[r1.out];exact F.1,fun e=>F.2 (by rw[e];rfl)⟩;have U:n0<=wc.heap.size:=by have N:=t2.out.size;have h2:=j5.out;omega
    refine Wr (by kernel_rfl) (by kernel_rfl) (by kernel_rfl) (by kernel_rfl) rfl a l X b bg (J0+cb) cb K n0 g yc L _ a2 f pv ka f.b.ks.length kc rfl v1.out U E (by rw[r1.out];exact l2) k1 ⟨g2,i2,j2⟩ (by simpa using k2) (by omega) ?_;intro V2 w2 za zn zc b2 j1 g0 o0;have i3:=aA j1;have x1:=aA g0;have x0:Hid (n0<=w2.heap.size):=aC U o0;clear j1 g0 o0 C E k1 g2 i2 j2 k2 l2 q0 v1;simp only[Act.all,Ri,Act.put]
    go_simp
    go_wp2;go_meet;exact⟨rfl,_,_,_,i3,x1,x0⟩
 obtain⟨rfl,f',a5,z4,g5,t0,m7⟩:=hcut;have y1:=aA ((t0.out.step (G5 t0.out.s 90) ((Ae.refl _ _).set 2 _)).step (IM (G5 t0.out.s 90) false) ((Ae.refl _ _).set 3 _));have j3:b<n0:=aH t0.out.hbg t0.out.bn;have t3:=aA ((g5.out.kp (Kp.only ((Ae.refl _ _).set 2 (.int .i64 90)) j3)).kp (Kp.only ((Ae.refl _ _).set 3 (.bool false)) j3));obtain⟨i,hi,e0⟩:=t0.out.s;obtain⟨x,y,f0,hc⟩:=e0.c;obtain⟨c0,c1,c2,c3,c4,cf⟩:=hc
 apply_assumption
 go_upto_region 28 with fail
 clear c0 c1 c2 c3 c4 cf e0 hi;generalize a7:(wc.setCell ⟨b,2,none⟩ (.int .i64 90)).setCell ⟨b,3,none⟩ (.bool false)=we at y1 t3 ⊢;have r3:n0<=we.heap.size:=by rw[<- a7];simpa using m7.out
 clear a7 t0 g5 q0 v1 d5 m5;refine Ws (by kernel_rfl) (by kernel_rfl) (by kernel_rfl) (by kernel_rfl) rfl a l X b bg _ (cb+20) K n0 L _ [(f',a5,z4)] ya yn yc rfl rfl y1.out r3 (t3.out.more (by omega)) (by simp) (by omega) l7.out (by omega) hn ?_;intro V5 w5 f5 l9 k9 b2 g0 s6
 have t4:∃ya yn yc,V5 14 = .slice ya yn yc:=by
  rcases b2.row.2 with⟨h,_⟩ | ⟨g,q7,a2,h,_⟩
  ·exact⟨_,_,_,h⟩
  exact⟨_,_,_,h⟩
 obtain⟨ta,tn,tc,v6⟩:=t4;rw[v6] at b2 g0;have e5:=aA b2;have M:=aA g0;clear b2 g0 s6 y1 t3 r3;simp only[Act.all,Rj,Act.put]
 go_simp
 have b0:=M.out.g.c 0 _ rfl;have b1:=M.out.g.c 1 _ rfl;have s0:=M.out.pf.r.c 0 _ rfl;have s1:=M.out.pf.r.c 1 _ rfl;have sf:=M.out.pf.r.fz
 apply_assumption
 go_wp2;have hz:=(M.out.pf.r.set 0 (.slice xa xn xc) _ rfl).set 1 (.slice ta tn tc) _ rfl;have I:Ae X w5 ((w5.setCell ⟨X,0,none⟩ (.slice xa xn xc)).setCell ⟨X,1,none⟩ (.slice ta tn tc)):=((Ae.refl X w5).set 0 _).set 1 _;have q8:X<bg:=aH M.out.pf.hrb M.out.hbg;have p6:a.heap.size<=X:=by rw[o5.out];exact aE _
 have c6:Below a.heap.size a ((w5.setCell ⟨X,0,none⟩ (.slice xa xn xc)).setCell ⟨X,1,none⟩ (.slice ta tn tc)):=by
  obtain⟨i9,a9,i6⟩:=M.out.s;exact I.below_of i6.below p6 i6.below.size
 have g1:=M.out.pf.rules I;have a1:=PD (e5.out.kp (Kp.only I (by have:=M.out.bn;omega)));have m2:=M.out.pf.k;have a8:=e5.out.k;have x7:K<=100000000:=by have:=i5.out;omega
 generalize ((w5.setCell ⟨X,0,none⟩ (.slice xa xn xc)).setCell ⟨X,1,none⟩ (.slice ta tn tc))=Z6 at hz c6 g1 a1 ⊢;have z0:=hz.c 0 _ rfl;have z1:=hz.c 1 _ rfl;clear b0 b1 s0 s1 sf hz I;refine bodyPost_ret (v:=.agg #[.slice xa xn xc,.slice ta tn tc]) (by simp[results,results10,go_sem,z0,z1]<;>exact rfl) rfl ⟨_,_,_,_,rfl,g1,a1,by rw[List.length_map];exact y5,by simp,fun r hr=>?_,fun f hf=>?_,c6⟩
 ·obtain⟨p,hp,rfl⟩:=List.mem_map.1 hr
  obtain⟨_,_,k3,k4,k5⟩:=m2 p hp;exact⟨k3,k4,aC k5 x7⟩
 obtain⟨p,hp,rfl⟩:=List.mem_map.1 hf;have hk:=a8 p hp;exact⟨hk.al,aC hk.wt (by omega),hk.nm⟩
end Go.Proofs.YtipfpohlnhmlpaaGreatDoor
