/- Ew Oa -/
import Derived.Test.YtipfpohlnhmlpaaGreatDoorEv
import Derived.Test.YtipfpohlnhmlpaaGreatDoorEg
import Derived.Test.YtipfpohlnhmlpaaGreatDoorWe
import Derived.Test.YtipfpohlnhmlpaaGreatDoorNg
import Derived.Test.YtipfpohlnhmlpaaGreatDoorMb
import Derived.Test.YtipfpohlnhmlpaaGreatDoorNq
import Derived.Test.YtipfpohlnhmlpaaGreatDoorNo
import Derived.Test.YtipfpohlnhmlpaaGreatDoorNk
import Derived.Test.YtipfpohlnhmlpaaGreatDoorMm
set_option maxRecDepth 100000
set_option maxHeartbeats 4000000
open List renaming length_nil->aA,length_cons->aB,length_append->aC,mem_cons_of_mem->aF,mem_cons_self->aH,all_eq_true->aI
open Go.Lib renaming hid->aD
open Bool renaming and_eq_true->aE
open ByteArray renaming size->aG
namespace Go.Proofs.YtipfpohlnhmlpaaGreatDoor
open Go.Proofs.Tryz
open Go.RowKit
theorem Lx (s:ByteArray) (a:s.size<=100000):∀n,n<=1000->Tm s (I3 s n)
 | 0,_=>fun o k t c b W h=>by rw[I3] at h;cases h
 | n+1,h=>Tq s (VJ (I3 s n) n s) a (TA s (NJ (I3 s n) n s) (P0 s (OS (I3 s n) s) a (Q1 s (I3 s n) (Lx s a n (by omega)) a TV M6) n) n (by omega)) n (by omega)
theorem NF (s:ByteArray) (hs:s.size<=1000) (h0:0<s.size) (h:So s=true) (W:World) :
  Calls prog 137 #[.string s] W fun e w'=>∃(v0 v1 v2 v3 v4:Int) (a:Option Addr) (m c:Nat),e = .returned (.tuple #[.agg #[.int .i64 v0,.int .u64 v1,.int .u64 v2,.int .u64 v3,.int .u64 v4,.slice a m c],.int .i64 0,.int .i64 0])/\Below W.heap.size W w':=by
 obtain⟨t,hr,I,L⟩:=P9 h;obtain⟨V,w⟩:∃V,V=(W.alloc (.cells #[.int .i64 0,.int .u64 0,.int .u64 0,.int .u64 0,.int .u64 0,.slice none 0 0] 186)).alloc (.cells #[.string s,.int .i64 0,.int .i64 0,.int .i64 0,.int .i64 0,.int .i64 0] 209):=⟨_,rfl⟩;have E:V.heap.size=W.heap.size+2:=by rw[w];simp
 have B:Below W.heap.size W V:=by rw[w];exact(Ad W _).trans ((Ad _ _).mono (by simp))
 have C:Af V (W.heap.size+1) (FR s 0 0):=by
  have h:=Af.new (W.alloc (.cells #[.int .i64 0,.int .u64 0,.int .u64 0,.int .u64 0,.int .u64 0,.slice none 0 0] 186)) [.string s,.int .i64 0,.int .i64 0,.int .i64 0,.int .i64 0,.int .i64 0] 209;rw[EG] at h;rw[w];exact h
 have D:Af V W.heap.size [.int .i64 0,.int .u64 0,.int .u64 0,.int .u64 0,.int .u64 0,.slice none 0 0]:=by
  rw[w];exact(Af.new W _ 186).below (by simp) (Ad _ _)
 have P:Hid (Calls prog 156 #[.pointer (some ⟨W.heap.size+1,0,none⟩)] V (Dk (W.heap.size+1) s 0 t s.size V)):=Lx s (by omega) 12 (by omega) 0 0 t s.size _ V hr C
 have c0:s.toList.isEmpty=false:=by
  rw[Lib.toList_data]
  cases hx:s.data.toList with
  | nil =>
    have hl:s.data.toList.length=s.size:=(by simp);rw[hx,aA] at hl;omega
  | cons a b=>rfl
 have S:=aD w;have a0:=aD E;have n:=aD B;have z:=aD D;have Q:=aD I;have T:=aD L;clear hr h w E B C D I L h0
 go_in
 go_upto_region 4 with fail
 rw[show W.heap.size+1=W.heap.size+1 from rfl,<- S.out]
 go_wp2_with fail
 (go_at_call 156;refine P.out.mono ?_;rintro e N ⟨x,a,c,rfl,J,M,k,p⟩)
 have r:=z.out.only (z.out.lt _ rfl) k (by omega);obtain⟨X,O⟩:∃X,X=N.alloc (.cells #[.int .i64 t.kd,.int .u64 x.a,.int .u64 x.b,.int .u64 x.c,.int .u64 x.d,.slice a t.ks.length c] 186):=⟨_,rfl⟩;have g:Below N.heap.size N X:=by rw[O];exact Ad _ _
 have G:Af X N.heap.size [.int .i64 t.kd,.int .u64 x.a,.int .u64 x.b,.int .u64 x.c,.int .u64 x.d,.slice a t.ks.length c]:=by rw[O];exact Af.new N _ _
 have q:=p.below (p.lt _ rfl) g;have H:=r.below (r.lt _ rfl) g;have F:Below W.heap.size W X:=(k.below_of n.out (by omega) n.out.size).trans (g.mono (Nat.le_trans n.out.size k.size));have K:Cs X (fun _=>True) t.ks (.slice a t.ks.length c):=(J.bel g).mono fun _ _ _=>trivial
 have R:Hid (∀u,Below X.heap.size X u->Calls prog 158 #[.agg #[.int .i64 t.kd,.int .u64 x.a,.int .u64 x.b,.int .u64 x.c,.int .u64 x.d,.slice a t.ks.length c]] u fun e w'=>e = .returned (.bool true)/\Below u.heap.size u w') :=
  fun u hw=>NT t x a c u (by have:=T.out;omega) Q.out M (K.bel hw)
 have U:=aD O;have f:=aD G;have A:=aD H;have y:=aD F;have x1:X.cell? ⟨W.heap.size+1,1,none⟩=some (.int .i64 s.size):=q.c 1 _ rfl;have x3:=q.c 3 _ rfl;have b0:decide (s.size<s.size)=false:=decide_eq_false (by omega);clear O J M k p r g G q H F K
 go_upto_region 5 with fail
 rw[<- U.out];have Y:=f.out.c 0 _ rfl;have Z:=f.out.c 1 _ rfl;have p2:=f.out.c 2 _ rfl;have p3:=f.out.c 3 _ rfl;have p4:=f.out.c 4 _ rfl;have p5:=f.out.c 5 _ rfl
 go_wp2_with fail
 (go_at_call 158;refine(R.out _ (Below.refl _ _)).mono ?_;rintro e w6 ⟨rfl,j⟩)
 have o:=f.out.below (f.out.lt _ rfl) j;have i:=A.out.below (A.out.lt _ rfl) j;have h3:=y.out.trans (j.mono y.out.size);clear Y Z p2 p3 p4 p5 x1 x3;have Y:=o.c 0 _ rfl;have Z:=o.c 1 _ rfl;have p2:=o.c 2 _ rfl;have p3:=o.c 3 _ rfl;have p4:=o.c 4 _ rfl;have p5:=o.c 5 _ rfl;have z0:=i.c 0 _ rfl;have z1:=i.c 1 _ rfl;have z2:=i.c 2 _ rfl;have z3:=i.c 3 _ rfl;have z4:=i.c 4 _ rfl;have z5:=i.c 5 _ rfl;have zf:=i.fz;have H2:=aD i;have H3:=aD h3;clear o i h3 j;go_wp2;have l:=H2.out.set6 (.int .i64 t.kd) (.int .u64 x.a) (.int .u64 x.b) (.int .u64 x.c) (.int .u64 x.d) (.slice a t.ks.length c);have ho:=Ae.set6 w6 W.heap.size (.int .i64 t.kd) (.int .u64 x.a) (.int .u64 x.b) (.int .u64 x.c) (.int .u64 x.d) (.slice a t.ks.length c)
 generalize ((((((w6.setCell ⟨W.heap.size,0,none⟩ (.int .i64 t.kd)).setCell ⟨W.heap.size,1,none⟩ (.int .u64 x.a)).setCell ⟨W.heap.size,2,none⟩ (.int .u64 x.b)).setCell ⟨W.heap.size,3,none⟩ (.int .u64 x.c)).setCell ⟨W.heap.size,4,none⟩ (.int .u64 x.d)).setCell ⟨W.heap.size,5,none⟩ (.slice a t.ks.length c))=Z2 at l ho ⊢;have y0:=l.c 0 _ rfl;have y1:=l.c 1 _ rfl;have y2:=l.c 2 _ rfl;have y3:=l.c 3 _ rfl;have y4:=l.c 4 _ rfl;have y5:=l.c 5 _ rfl;clear l Y Z p2 p3 p4 p5 z0 z1 z2 z3 z4 z5 zf;exact bodyPost_ret (v:=.tuple #[.agg #[.int .i64 t.kd,.int .u64 x.a,.int .u64 x.b,.int .u64 x.c,.int .u64 x.d,.slice a t.ks.length c],.int .i64 0,.int .i64 0]) (by simp[results,results137,go_sem,y0,y1,y2,y3,y4,y5]<;>exact rfl) rfl ⟨_,_,_,_,_,_,_,_,rfl,ho.below_of H3.out (Nat.le_refl _) H3.out.size⟩
def PT (l:List UInt8):Bool:=l.all fun c=>decide (c.toNat≠10/\c.toNat≠92)
def U' (nm:List UInt8):Bool:=So ⟨nm.toArray⟩&&(PT nm&&decide (0<nm.length/\nm.length<=1000))
theorem Tb (l:List UInt8) (h:PT l=true):BG l=l:=by
 induction l with
 | nil=>rfl
 | cons a l c =>
   unfold PT at h;rw[List.all_cons,aE,decide_eq_true_eq] at h;have ha:a≠92:=fun e=>by rw[e] at h;exact h.1.2 rfl
   have c:=c h.2
   cases l with
   | nil=>rfl
   | cons b l=>rw[BG,if_neg ha,c]
theorem MJ (s:ByteArray) (c:s.size<=1000) (h:PT s.data.toList=true) (W:World):Calls prog 138 #[.string s] W fun e b=>e = .returned (.bool true)/\W=b:=by
 have a:=aD (Fz s W (by omega));rw[Tb _ h] at a;have e:(⟨s.data.toList.toArray⟩:ByteArray)=s:=(by simp);rw[e] at a
 go_in
 go_wp2_with fail
 (go_at_call 25;refine a.out.mono ?_;rintro e d ⟨rfl,rfl⟩)
 go_wp2;go_ret;exact⟨by simp,rfl⟩
theorem Ms (s:ByteArray) (o:s.size<=1000) (x:0<s.size) (h:So s=true) (j:PT s.data.toList=true) (W:World) :
  Calls prog 114 #[.string s] W fun e f=>e = .returned (.bool true)/\Below W.heap.size W f:=by
 have v:Hid (∀W,Calls prog 137 #[.string s] W fun e f=>∃(p q r t u:Int) (a:Option Addr) (m c:Nat),e = .returned (.tuple #[.agg #[.int .i64 p,.int .u64 q,.int .u64 r,.int .u64 t,.int .u64 u,.slice a m c],.int .i64 0,.int .i64 0])/\Below W.heap.size W f):=fun W=>NF s o x h W;have w:Hid (∀W,Calls prog 138 #[.string s] W fun e f=>e = .returned (.bool true)/\W=f):=fun W=>MJ s o j W
 have n:Hid (∀(k:Nat) (l:k<s.size),s[k].toNat≠10/\s[k].toNat≠92):=fun k l=>by
  unfold PT at j;have:=aI.1 j (s.data.toList[k]'(by simpa using l)) (List.getElem_mem _);exact of_decide_eq_true this
 clear h j
 go_in
 go_wp2_with fail
 go_loopg [3] s.size (fun g i wr=>∃k:Nat,i = .int .i64 k/\k+g=s.size/\W=wr)
 case atStart=>exact⟨0,rfl,by omega,rfl⟩
 obtain⟨k,rfl,A,rfl⟩:=hrel;by_cases l:k<s.size
 ·obtain⟨y,z⟩:=n.out k l
  have C:¬ (s[k].toNat:Int)=10:=(by omega);have D:¬ (s[k].toNat:Int)=92:=(by omega);have B:(k:Int)<(s.size:Int):=(by omega);go_wp2
  go_roundg (gk-1)
  case measure=>omega
  exact⟨k+1,congrArg (Value.int .i64) (by omega),by omega,rfl⟩
 obtain rfl:k=s.size:=by omega
 go_wp2_with fail
 (go_at_call 137;refine(v.out _).mono ?_;rintro e H ⟨p,q,r,t,u,E,G,F,rfl,d⟩)
 have b:=aD d;clear d
 go_wp2_with fail
 (go_at_call 138;refine(w.out _).mono ?_;rintro e I ⟨rfl,rfl⟩)
 go_wp2;go_ret;exact⟨rfl,b.out.trans ((Ad _ _).mono b.out.size)⟩
theorem NL:∀nm∈BF,U' nm=true:=by decide
theorem Sb (N:Aw) (a:∀nm,N.pat nm=true) (c:World):VZ (fun nm=>nm∈BF) N c:=by
 intro nm W b _ _;have h:=NL nm b;unfold U' at h;rw[aE,aE,decide_eq_true_eq] at h;rw[a nm];exact Ms ⟨nm.toArray⟩ (by simpa[aG] using h.2.2.2) (by simpa[aG] using h.2.2.1) h.1 (by simpa using h.2.1) W
def NM:Aw where
 pat:=fun _=>true
 name:=BM
 built:=B1
 bare:=Be
 num:=fun x=>ER x&&decide (x<18446744073709551616)
theorem R1:∀x∈Kj,x<18446744073709551616:=by decide
theorem K4 {t:Tr} (h:Tr.All A0 t):Tr.All (FW fun nm=>nm∈BF) t:=by
 induction h with
 | mk k nm x z ks a c b=>exact .mk _ _ _ _ _ ⟨a.2.1,R1 x a.2.2⟩ b
theorem Gw {t:Tr} (h:Tr.All A0 t):t.big+8<=192*t.wt:=by
 refine Vi 24 t ?_
 induction h with
 | mk k nm x z ks a c b=>exact .mk _ _ _ _ _ a.1 b
theorem LA (l:List Tr) (h:∀t∈l,Tr.All A0 t):Bh l<=192*DN l:=by
 induction l with
 | nil=>rw[CT];omega
 | cons t e b =>
   have c:=Gw (h t aH);have d:=b fun u a=>h u (aF _ a);rw[AU,AK,Nat.mul_add];omega
theorem LZ {c:Type} (f:c->List UInt8) (M:Nat) (l:List c) (h:∀a∈l,(f a).length<=M):(l.flatMap f).length<=M*l.length:=by
 induction l with
 | nil=>simp
 | cons a l e =>
   have g:=h a aH;have i:=e fun b d=>h b (aF _ d);rw[List.flatMap_cons,aC,aB,Nat.mul_add];omega
theorem P5 (c:Nat->List UInt8) (d:∀x,(c x).length<=64) (k:∀n:Int,1<=n->n<=1048576->(Fp n).length<=64) (N:Aw) (h:List Rl) (g:List Fu) (i:Fc N h g=true) (A:∀r∈h,(∀t∈r.ps,Tr.All A0 t)/\Tr.All A0 r.b/\DN r.ps+r.b.wt<=100000000)
  (y:∀f∈g,Tr.All A0 f.b/\f.b.wt<=100000000/\f.nm.length<=24/\f.ps.length<=8/\∀p∈f.ps,p.length<=24) (B:h.length<=4) (z:g.length<=2):(OR c h g).length<=1000000000000:=by
 unfold Fc at i;rw[aE] at i
 have F:(h.flatMap (BQ c)).length<=100000000000*h.length:=LZ _ _ _ fun r j=>by
  obtain⟨q1,v,D⟩:=A r j;have e:=aI.1 i.1 r j;unfold BL at e;simp only[aE,decide_eq_true_eq] at e;have m:=BB c d r.b;have o:=Gw v
  have H:(FZ c r).length<=100+192*DN r.ps:=by
   unfold FZ;split
   ·simp only[aB,aA];omega
   split
   ·simp only[aB,aA];omega
   split
   ·simp only[aB,aA];omega
   split
   ·rename_i w
    have q:=e.2.2.2.2;rw[if_pos w,decide_eq_true_eq] at q;have:=k r.n q.1 q.2;simp;omega
   split
   ·have s:=Cn [44,32] (by decide) (AD c) r.ps fun t _=>Bs c d t
    have I:=LA r.ps q1;rw[Au];simp only[aC,aB,aA];omega
   simp only[aA];omega
  unfold BQ;simp only[aC,aB,aA];omega
 have G:(g.flatMap (Hs c)).length<=100000000000*g.length:=LZ _ _ _ fun f j=>by
  obtain⟨q1,v,D,K,E⟩:=y f j;have m:=BB c d f.b;have o:=Gw q1
  have s:∀l:List (List UInt8),(∀p∈l,p.length<=24)->(A3 [44] l).length<=25*l.length:=by
   intro l u
   induction l with
   | nil=>simp[A3]
   | cons a l C =>
     have ha:=u a aH;have:=C fun b i=>u b (aF _ i)
     cases l with
     | nil=>simp[A3];omega
     | cons b l =>
       rw[A3];simp only[aC,aB,aA] at this ⊢;omega
  have J:=s f.ps E;unfold Hs;simp only[aC,aB,aA];omega
 unfold OR;rw[aC];omega
theorem UI (w:World) (l:Cp) (d:l.n=0\/∃lb lo,l.ao=some ⟨lb,lo,none⟩/\∀j,j<l.n->w.cell? ⟨lb,lo+j,none⟩=some (.int .i64 (l.Z j))) (U:Ce w) (hn:l.n<=9223372036854775807) (m:Nat->List UInt8) (a:∀x,(m x).length<=64)
  (hF:∀x W,NM.num x=true->Below w.heap.size w W->Calls prog 77 #[.float .f64 x,.int .u8 103,.int .i64 (-1),.int .i64 64] W fun e h=>e = .returned (.string ⟨(m x).toArray⟩)/\Below W.heap.size W h)
  (T:∀(n:Int) W,1<=n->n<=1048576->Below w.heap.size w W->Calls prog 32 #[.int .i64 n] W fun e h=>e = .returned (.string ⟨(Fp n).toArray⟩)/\Below W.heap.size W h) (i:∀n:Int,1<=n->n<=1048576->(Fp n).length<=64) :
  Calls prog 4 #[.slice l.ao l.n l.cap] w fun e h=>∃s:ByteArray,e = .returned (.string s)/\s.size<=35184372088832/\Below w.heap.size w h:=by
 have A:KF (fun nm=>nm∈BF) NM w:=Qo _ NM w (fun _=>rfl) (fun _=>rfl) (fun _=>rfl) (Sb NM (fun _=>rfl) w);have k:=Ko _ NM w (fun _=>rfl) A;have v:=fun n=>(FY _ NM w (fun _=>rfl) (fun _=>rfl) k n).2;have z:=IE m a NM w hF;have y:=M5 m a NM w hF
 have G:Hid (∀g c q o W,ED 60 W g q->Fh 60 W c o->g.length<=4->c.length<=2->(∀r∈g,(∀t∈r.ps,Tr.All A0 t)/\Tr.All A0 r.b/\DN r.ps+r.b.wt<=100000000) ->
   (∀f∈c,Tr.All A0 f.b/\f.b.wt<=100000000/\f.nm.length<=24/\f.ps.length<=8/\∀p∈f.ps,p.length<=24)->Below w.heap.size w W ->
   Calls prog 9 #[.agg #[q,o]] W fun e h=>∃s:ByteArray,e = .returned (.string s)/\s.size<=35184372088832/\Below W.heap.size W h):=fun g c q o W hR J N K X V hW=>by
  refine(P4 (fun nm=>nm∈BF) m a NM w (fun _=>rfl) k v z y T i g c q o W hR J (fun r L=>?_) (fun f L=>?_) (by omega) (by omega) hW).mono ?_
  ·obtain⟨q1,O,q3⟩:=X r L
   have H:=LA r.ps q1;have B:=Gw O;exact⟨fun t ht=>K4 (q1 t ht),K4 O,by omega,by omega⟩
  ·obtain⟨q1,O,q3,q4,q5⟩:=V f L
   have B:=Gw q1;exact⟨K4 q1,by omega,by omega,fun p M=>by have:=q5 p M;omega,by omega⟩
  rintro e h ⟨rfl,C⟩;refine⟨_,rfl,?_,C⟩;split
  ·rename_i M
   have:=P5 m a i NM g c M X V N K;simp[aG];omega
  simp[aG]
 have F:=aD (Mw w l d U hn);clear A k v z y hF T i a d U
 go_in
 go_wp2_with fail
 (go_at_call 10;refine F.out.mono ?_;rintro e w4 ⟨g,c,q,o,rfl,H,B,P,Q,R,S,I⟩)
 have u:=aD I;have E:=aD (G.out g c q o w4 H B P Q R S I);clear H B P Q R S I
 go_wp2_with fail
 (go_at_call 9;refine E.out.mono ?_;rintro e w5 ⟨s,rfl,Y,C⟩)
 have D:=aD (u.out.trans (C.mono u.out.size));have HS:=aD Y;clear C Y;go_wp2;go_ret;exact⟨s,rfl,HS.out,D.out⟩
end Go.Proofs.YtipfpohlnhmlpaaGreatDoor
