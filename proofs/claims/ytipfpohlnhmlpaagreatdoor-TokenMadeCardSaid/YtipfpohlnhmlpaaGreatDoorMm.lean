/- Mm Mw Na Nb Nc Nd Nf -/
import Derived.Test.YtipfpohlnhmlpaaGreatDoorMl
import Derived.Test.YtipfpohlnhmlpaaGreatDoorMg
import Derived.Test.YtipfpohlnhmlpaaGreatDoorMv
import Derived.Test.YtipfpohlnhmlpaaGreatDoorPe
set_option maxRecDepth 100000
set_option maxHeartbeats 8000000
open Go.Lib renaming hid->aA
open Bool renaming false_and->aB,true_and->aC,eq_false_iff->aM
open List renaming take_succ_eq_append_getElem->aD,all_eq_true->aE,getElem?_eq_getElem->aI,mem_of_getElem?->aJ,mem_singleton->aK,length_cons->aN,take_length->aO
open Go.World renaming cell?_alloc_at->aF
open Go.Ending renaming returned->aG
open ByteArray renaming size->aH
namespace Go.Proofs.YtipfpohlnhmlpaaGreatDoor
open Go.Proofs.Tryz
open Go.RowKit
theorem Pz (p:World) (l:Cp) (b I:Nat) (W:World) (A:CH p l b I W) (z:Ce p) (K:l.n<=9223372036854775807) (d:Int) (_h0 : -1<=d) (m:d<=0) (hI:I+110<=1099511627776) :
  Calls prog 36 #[.pointer (some ⟨b,0,none⟩),.int .i64 d] W (Ff 60 A0 p l b W I (100)):=by
 have g:=aA (Fr.start (T:=60) (P:=A0) 60 A);have D:=aA z;obtain⟨i,C,a⟩:=g.out.s;obtain⟨x,y,f,o⟩:=a.c;obtain⟨X,hX⟩:∃X,wrap64 (x+1)=X:=⟨_,rfl⟩;have j:=aA (g.out.step (d:=0) (IL ⟨i,C,a⟩ o X) ((Ae.refl _ _).set 2 _));obtain⟨E,F,U,G,H,Y⟩:=o;have J:decide (d<=0)=true:=decide_eq_true m;clear a C E F G H;clear A z
 go_in
 go_wp2_with fail
 (go_at_call 39;refine(Br p l b _ _ j.out.s D.out (by omega) K).mono ?_;rintro e w2 ⟨ke,ne,xe,S,le,V,se,rfl,m,t,u,v,w⟩)
 have k:=aA (j.out.node (fun _ h=>by cases h) m t u v w);clear m t u v w;have L:=k.out.r;obtain⟨r0,r1,r2,r3,r4,rf⟩:=L;go_wp2;obtain⟨Z,B,o,q⟩:=k.out.out;rw[<- B];obtain⟨M,N,O,Q,R,zf⟩:=o;clear B;exact bodyPost_ret (by simp[results,results36,go_sem,M,N,O,Q,R]<;>exact rfl) rfl (q.more (by omega))
theorem QC (g:World) (l:Cp) (b I:Nat) (W:World) (v:CH g l b I W) (u:Ce g) (B:l.n<=9223372036854775807) (c:Nat) (d:Int) (_h0 : -1<=d) (i:d<=0) (k:100<=c) (L:I+4*c+1100<=1099511627776) (w:MW g l b 2 c) :
  Calls prog 61 #[.pointer (some ⟨b,0,none⟩),.int .i64 d] W (Ff 60 A0 g l b W I (4*c+200)):=by
 have a:=aA (Fr.start (T:=60) (P:=A0) 60 v);have y:=aA u;have j:=aA w;have z:decide (d<=0)=true:=decide_eq_true i;clear w;clear v u
 go_in
 go_wp2_with fail
 (go_at_call 80;refine(D6 g l b _ _ a.out.s y.out B 2 c 1 (by omega) (by omega) (by omega) k (by omega) j.out).mono ?_;rintro e Y ⟨M,O,xe,J,N,K,X,rfl,i,o,p,q,t⟩)
 have f:=aA (a.out.node (fun _ h=>by cases h) i o p q t);clear i o p q t;have C:=f.out.r;obtain⟨Q,R,S,U,V,rf⟩:=C;go_wp2;obtain⟨Z,x,A,m⟩:=f.out.out;rw[<- x];obtain⟨D,E,F,G,H,zf⟩:=A;clear x;exact bodyPost_ret (by simp[results,results61,go_sem,D,E,F,G,H]<;>exact rfl) rfl (m.more (by omega))
theorem Oz (a:World) (l:Cp) (b:Nat) (f:Ce a) (j:l.n<=9223372036854775807) (n c:Nat) (k:n<=100) (i:100<=c) (h:MW a l b n c):MW a l b (n+1) (4*c+100) :=
 fun d I W m e g o=>Rp a l b I W g f j n c d e (by omega) (by omega) i (by omega) h
theorem Li (a:World) (l:Cp) (b:Nat) (f:Ce a) (k:l.n<=9223372036854775807) (n c cs:Nat) (m:n<=100) (j:100<=c) (i:MW a l b 2 c) (h:Tj a l b n cs):Tj a l b (n+1) (4*c+6*cs+200) :=
 fun d I W o e g p=>S5 a l b I W g f k n c cs d e (by omega) (by omega) j (by omega) i h
theorem TE (a:World) (l:Cp) (b:Nat) (f:Ce a) (h:l.n<=9223372036854775807):MW a l b 0 100 :=
 fun d I W c e g i=>Pz a l b I W g f h d e c (by omega)
theorem UG (a:World) (l:Cp) (b:Nat) (g:Ce a) (k:l.n<=9223372036854775807) (c:Nat) (j:100<=c) (i:MW a l b 2 c):Tj a l b 0 (4*c+200) :=
 fun d I W e f h m=>QC a l b I W h g k c d f e j (by omega) i
theorem V_ (a:World) (l:Cp) (b:Nat) (g:l.n<=9223372036854775807) (n cs:Nat) (h:Tj a l b n cs):VV a l b n (3*cs+10) :=
 fun d I W c e f i=>C_ a l b I W f g n cs d e c (by omega) h
theorem Vt (a:World) (l:Cp) (b:Nat) (f:Ce a) (e:l.n<=9223372036854775807):∃c i,100<=c/\c<=10000000/\i<=10000000/\MW a l b 2 c/\VV a l b 3 i:=by
 obtain⟨h,t,o⟩:∃c,c=500/\MW a l b 1 c:=⟨4*100+100,rfl,Oz a l b f e 0 100 (by omega) (by omega) (TE a l b f e)⟩;obtain⟨d,u,g⟩:∃c,c=4*h+100/\MW a l b 2 c:=⟨_,rfl,Oz a l b f e 1 h (by omega) (by omega) o⟩;obtain⟨j,v,p⟩:∃c,c=4*d+200/\Tj a l b 0 c:=⟨_,rfl,UG a l b f e d (by omega) g⟩;obtain⟨s1,q1,q⟩:∃c,c=4*d+6*j+200/\Tj a l b 1 c:=⟨_,rfl,Li a l b f e 0 d j (by omega) (by omega) g p⟩;obtain⟨k,w,r⟩:∃c,c=4*d+6*s1+200/\Tj a l b 2 c:=⟨_,rfl,Li a l b f e 1 d s1 (by omega) (by omega) g q⟩;obtain⟨m,x,s⟩:∃c,c=4*d+6*k+200/\Tj a l b 3 c:=⟨_,rfl,Li a l b f e 2 d k (by omega) (by omega) g r⟩
 exact⟨d,3*m+10,by omega,by omega,by omega,g,V_ a l b e 3 m s⟩
theorem Xi (a:Nat->List UInt8) (b:∀x,(a x).length<=64) (N:Aw) (e:World) (g:∀n,Hj a N e n):∀n,On a N e n/\GP a N e n
 | 0=>⟨fun t d j W c=>by obtain⟨k,nm,x,z,ks⟩:=t;rw[Tr.wt_mk] at c;omega,
       fun t d j W c=>by obtain⟨k,nm,x,z,ks⟩:=t;rw[Tr.wt_mk] at c;omega⟩
 | n+1=>by
   obtain⟨h,i⟩:=Xi a b N e g n;have f:=M4 a b N e n h;exact⟨QB a b N e n (g n) h i f,f⟩
theorem M5 (a:Nat->List UInt8) (b:∀x,(a x).length<=64) (N:Aw) (c:World)
 (hF:∀x W,N.num x=true->Below c.heap.size c W->Calls prog 77 #[.float .f64 x,.int .u8 103,.int .i64 (-1),.int .i64 64] W fun e d=>e = .returned (.string ⟨(a x).toArray⟩)/\Below W.heap.size W d)
 (n:Nat):GP a N c n:=(Xi a b N c (IE a b N c hF) n).2
def FW (Q:List UInt8->Prop):Int->List UInt8->Nat->Prop:=fun k nm x=>(k=3->Q nm)/\x<18446744073709551616
def CS (Q:List UInt8->Prop) (N:Aw) (b:World) (n:Nat):Prop:=∀(t:Tr) (d:Nat) (a:Value) (W:World),Tr.All (FW Q) t->t.wt<=n->d<=300->t.big<=8796093022208->Am 60 W (fun _=>True) t.ks a->Below b.heap.size b W ->
 Calls prog 73 #[CJ t a,.int .i64 d] W fun e c=>e = .returned (.bool (Bu N d t))/\Below W.heap.size W c
theorem Nu (t:Tr) (b:Value) (W:World):Calls prog 115 #[CJ t b] W fun e g=>e = .returned (.bool (PM t.kd))/\Below W.heap.size W g:=by
 obtain⟨k,nm,x,z,ks⟩:=t;show Calls prog 115 #[.agg #[.int .i64 k,.string ⟨nm.toArray⟩,.float .f64 x,b,.complex .f64 z.1 z.2]] W _;have a:=aA (Ad W (.cells #[.int .i64 k,.string ⟨nm.toArray⟩,.float .f64 x,b,.complex .f64 z.1 z.2] 60));by_cases c:k=4
 ·subst c
  go_in
  go_wp2;go_ret;exact⟨rfl,a.out⟩
 by_cases d:k=5
 ·subst d
  go_in
  go_wp2;go_ret;exact⟨rfl,a.out⟩
 by_cases f:k=6
 ·subst f
  go_in
  go_wp2;go_ret;exact⟨rfl,a.out⟩
 go_in
 go_wp2;go_ret;exact⟨rfl,a.out⟩
theorem EF (Q:List UInt8->Prop) (N:Aw) (K:World) (n:Nat) (P:CS Q N K n) (ks:List Tr) (d:Nat) (T:Value) (W:World) (S:∀t∈ks,Tr.All (FW Q) t) (hn:DN ks<=n) (hd:d<=300) (hl:Bh ks<=8796093022208)
  (E:Am 60 W (fun _=>True) ks T) (R:Below K.heap.size K W) :
  Calls prog 51 #[T,.int .i64 d] W fun e J=>e = .returned (.bool (A5 N d ks))/\Below W.heap.size W J:=by
 have V:=aA E;have M:=aA R;have U:=aA P;have Y:=aA S;have z:=aA (Below.refl W.heap.size W)
 have b0:ks.length<=8796093022208:=by
  have:∀l:List Tr,l.length<=Bh l:=by
   intro l
   induction l with
   | nil=>simp
   | cons t ts ih=>rw[AU,aN];omega
  have:=this ks;omega
 obtain⟨a,Z,rfl⟩:=E.slice;clear E R P S;rw[BU]
 go_in
 go_wp2
 go_loopg [5] ks.length (fun g i wr=>∃(k:Nat),i = .int .i64 k/\k+g=ks.length/\Hid (∀t∈ks.take k,Bu N d t=true)/\Hid (Below W.heap.size W wr))
 case atStart=>exact⟨0,rfl,by omega,by simp[Hid],z⟩
 obtain⟨k,rfl,a0,L,c⟩:=hrel;by_cases q:k<ks.length
 ·obtain⟨b,O,I,hv,t,w,v,e0,e1,e2,e3,e4⟩:=(V.out.bel c.out).cells k q
  injection hv with G _ H;subst G;have x:ks[k]'q=t:=by rw[aI q] at w;exact Option.some.inj w
  have m:t∈ks:=aJ w;have y:t.wt<=n:=Nat.le_trans (A9 m) hn;have hbg:t.big<=8796093022208:=by have:=Ax m;omega
  have A:Hid (∀o,Below W.heap.size W o->Am 60 o (fun _=>True) t.ks I->Calls prog 73 #[CJ t I,.int .i64 d] o fun e J=>e = .returned (.bool (Bu N d t))/\Below o.heap.size o J) :=
   fun o D F=>U.out t d I o (Y.out t m) y hd hbg F (M.out.trans (D.mono M.out.size))
  have s:=aA v;have X:=aA m;have B:Hid (ks.take (k+1)=ks.take k++[t]):=by unfold Hid;rw[aD q,x]
  obtain⟨C,p⟩:∃C,Bu N d t=C:=⟨_,rfl⟩;have r:=aA p;rw[p] at A;clear H x m y hbg v w p;rw[Nat.mul_comm 5 k] at e0 e1 e2 e3 e4
  cases C with
  | true =>
    go_wp2_with (go_at_call 73;refine(A.out _ c.out s.out).mono ?_;rintro e w4 ⟨rfl,j⟩)
    have f:=aA (c.out.trans (j.mono c.out.size));clear j
    go_roundg (gk-1)
    case measure=>omega
    refine⟨k+1,congrArg (Value.int .i64) (by omega),by omega,?_,f⟩;unfold Hid;rw[B.out];intro u hu;rcases List.mem_append.1 hu with h | h
    ·exact L.out u h
    rw[aK.1 h];exact r.out
  | false =>
    go_wp2_with (go_at_call 73;refine(A.out _ c.out s.out).mono ?_;rintro e w4 ⟨rfl,j⟩)
    have f:=aA (c.out.trans (j.mono c.out.size));clear j;go_ret;refine⟨?_,f.out⟩;refine congrArg (fun b=>aG (Value.bool b)) (aM.2 fun h=>?_:ks.all (Bu N d)=false).symm;have:=aE.1 h t X.out;rw[r.out] at this;cases this
 obtain rfl:k=ks.length:=(by omega);go_wp2;go_ret;refine⟨?_,c.out⟩;refine congrArg (fun b=>aG (Value.bool b)) (aE.2 fun t w=>L.out t ?_:ks.all (Bu N d)=true).symm
 rwa [aO]
theorem CP (x:Nat) (W:World):Calls prog 90 #[.float .f64 x] W fun e a=>e = .returned (.bool (decide (wrap64 x<0)))/\W=a:=by
 have b:=fun W=>LX x W
 go_in
 go_wp2_with (fail)
 go_ret;exact⟨rfl,rfl⟩
def Be (x:Nat):Bool:=(FloatKind.f64.format.order x 0==some .eq) && !decide (wrap64 x<0)
theorem Ct (t:Tr) (f:Value) (W:World):Calls prog 74 #[CJ t f] W fun e g=>e = .returned (.bool (Be t.x))/\Below W.heap.size W g:=by
 obtain⟨k,nm,x,z,ks⟩:=t;show Calls prog 74 #[.agg #[.int .i64 k,.string ⟨nm.toArray⟩,.float .f64 x,f,.complex .f64 z.1 z.2]] W _;have c:=aA (Ad W (.cells #[.int .i64 k,.string ⟨nm.toArray⟩,.float .f64 x,f,.complex .f64 z.1 z.2] 60));have h:Hid (Be x=((FloatKind.f64.format.order x 0==some .eq) && !decide (wrap64 x<0))):=rfl;have d:Hid (∀W,Calls prog 90 #[.float .f64 x] W fun e g=>e = .returned (.bool (decide (wrap64 x<0)))/\W=g):=fun W=>CP x W;obtain⟨l,a⟩:∃b,decide (wrap64 x<0)=b:=⟨_,rfl⟩;obtain⟨b,i⟩:∃b,(FloatKind.f64.format.order x 0==some .eq)=b:=⟨_,rfl⟩;rw[a,i] at h;rw[a] at d
 clear a;rw[show (Tr.mk k nm x z ks).x=x from rfl,h.out]
 cases b with
 | true =>
   rw[aC]
   go_in
   go_wp2_with (go_at_call 90;refine(d.out _).mono ?_;rintro e j ⟨rfl,rfl⟩)
   go_ret;exact⟨rfl,c.out⟩
 | false =>
   rw[aB]
   go_in
   go_wp2_with (go_at_call 90;refine(d.out _).mono ?_;rintro e j ⟨rfl,rfl⟩)
   go_ret;exact⟨rfl,c.out⟩
def KF (Q:List UInt8->Prop) (N:Aw) (b:World):Prop:=∀(t:Tr) (a:Value) (W:World),(t.kd=3->Q t.nm)->t.x<18446744073709551616->t.big<=8796093022208->Am 60 W (fun _=>True) t.ks a->Below b.heap.size b W ->
 Calls prog 91 #[CJ t a] W fun e c=>e = .returned (.bool (CZ N t))/\Below W.heap.size W c
theorem NU (Q:List UInt8->Prop) (N:Aw) (M:World) (H:∀x,N.bare x=Be x) (Z:KF Q N M) (n:Nat) (Y:CS Q N M n):CS Q N M (n+1):=by
 intro t d r W K J hd p X I;have S:Hid (Bu N d t=(decide (d<=200)&&((decide (t.kd=1)||Be t.x)&&(CZ N t&&A5 N (d+1) t.ks)))):=by unfold Hid;rw[LW,H]
 have v:Bh t.ks<=8796093022208:=by
  obtain⟨k,nm,x,z,ks⟩:=t;rw[CD] at p;show Bh ks<=_;omega
 have T:Hid (∀i,Below W.heap.size W i->Calls prog 91 #[CJ t r] i fun e s=>e = .returned (.bool (CZ N t))/\Below i.heap.size i s) :=
  fun i m=>Z t r i K.self.1 K.self.2 p (X.bel m) (I.trans (m.mono I.size))
 have O:Hid (∀i,d<=200->Below W.heap.size W i->Calls prog 51 #[r,.int .i64 ((d:Int)+1)] i fun e s=>e = .returned (.bool (A5 N (d+1) t.ks))/\Below i.heap.size i s) :=
  fun i a0 m=>EF Q N M n Y t.ks (d+1) r i (fun u hu=>K.kid hu) (by obtain⟨k,nm,x,z,ks⟩:=t;rw[Tr.wt_mk] at J;show DN ks<=n;omega) (by omega) v (X.bel m) (I.trans (m.mono I.size))
 have P:Hid (Be t.x=((FloatKind.f64.format.order t.x 0==some .eq) && !decide (wrap64 t.x<0))):=rfl;have R:Hid (∀W,Calls prog 90 #[.float .f64 t.x] W fun e s=>e = .returned (.bool (decide (wrap64 t.x<0)))/\W=s):=fun W=>CP t.x W;obtain⟨sb,D⟩:∃b,decide (wrap64 t.x<0)=b:=⟨_,rfl⟩;obtain⟨b,U⟩:∃b,(FloatKind.f64.format.order t.x 0==some .eq)=b:=⟨_,rfl⟩;obtain⟨L,E⟩:∃b,CZ N t=b:=⟨_,rfl⟩;obtain⟨al,A⟩:∃b,A5 N (d+1) t.ks=b:=⟨_,rfl⟩;rw[D,U] at P;rw[D] at R;rw[E] at T;rw[A] at O;rw[P.out,E,A] at S;clear D E A P Z Y H J p v X I K;obtain⟨k,nm,x,z,ks⟩:=t
 have B:(FloatKind.f64.format.order x 0==some .eq)=b:=U;have G:Hid (Bu N d (.mk k nm x z ks)=(decide (d<=200)&&((decide (k=1)||(b && !sb))&&(L&&al)))):=S;have q:Hid (∀i,Below W.heap.size W i->Calls prog 91 #[.agg #[.int .i64 k,.string ⟨nm.toArray⟩,.float .f64 x,r,.complex .f64 z.1 z.2]] i fun e s=>e = .returned (.bool L)/\Below i.heap.size i s):=T;have l:Hid (∀W,Calls prog 90 #[.float .f64 x] W fun e s=>e = .returned (.bool sb)/\W=s):=R;clear S T R U;rw[G.out];clear G;have a:=aA (Ad W (.cells #[.int .i64 k,.string ⟨nm.toArray⟩,.float .f64 x,r,.complex .f64 z.1 z.2] 60));have F:Hid ((W.alloc (.cells #[.int .i64 k,.string ⟨nm.toArray⟩,.float .f64 x,r,.complex .f64 z.1 z.2] 60)).cell? ⟨W.heap.size,3,none⟩=some r):=by unfold Hid;rw[aF _ _ _ _ rfl];rfl
 show Calls prog 73 #[.agg #[.int .i64 k,.string ⟨nm.toArray⟩,.float .f64 x,r,.complex .f64 z.1 z.2],.int .i64 d] W _;by_cases j:d<=200
 ·rw[decide_eq_true j,aC]
  by_cases C:k=1
  ·subst C
   rw[decide_eq_true rfl,Bool.true_or,aC]
   cases L with
   | true =>
     rw[aC]
     go_in
     go_wp2_with (first | (go_at_call 90;refine(l.out _).mono ?_;rintro e w ⟨rfl,rfl⟩) | (go_at_call 91;refine(q.out _ a.out).mono ?_;rintro e w ⟨rfl,c⟩;have f:=aA (a.out.trans (c.mono a.out.size));have V:=Aa F.out c;clear c) | (go_at_call 51;refine(O.out _ j f.out).mono ?_;rintro e w5 ⟨rfl,o⟩;have y:=aA (f.out.trans (o.mono f.out.size));clear o))
     go_ret;exact⟨rfl,y.out⟩
   | false =>
     rw[aB]
     go_in
     go_wp2_with (first | (go_at_call 90;refine(l.out _).mono ?_;rintro e w ⟨rfl,rfl⟩) | (go_at_call 91;refine(q.out _ a.out).mono ?_;rintro e w ⟨rfl,c⟩;have f:=aA (a.out.trans (c.mono a.out.size));clear c))
     go_ret;exact⟨rfl,f.out⟩
  rw[decide_eq_false C,Bool.false_or];have b0:(k != 1)=true:=by simp[C]
  cases b with
  | true =>
    have g:FloatKind.f64.format.order x 0=some .eq:=eq_of_beq B
    cases sb with
    | true =>
      rw[show (true && !true)=false from rfl,aB]
      go_in
      go_wp2_with (go_at_call 90;refine(l.out _).mono ?_;rintro e w ⟨rfl,rfl⟩)
      all_goals first | (exact absurd g ‹_›) | (exact absurd ‹_› g) | (go_ret;exact⟨rfl,a.out⟩)
    | false =>
      rw[show (true && !false)=true from rfl,aC]
      cases L with
      | true =>
        rw[aC]
        go_in
        go_wp2_with (first | (go_at_call 90;refine(l.out _).mono ?_;rintro e w ⟨rfl,rfl⟩) | (go_at_call 91;refine(q.out _ a.out).mono ?_;rintro e w ⟨rfl,c⟩;have f:=aA (a.out.trans (c.mono a.out.size));have V:=Aa F.out c;clear c) | (go_at_call 51;refine(O.out _ j f.out).mono ?_;rintro e w5 ⟨rfl,o⟩;have y:=aA (f.out.trans (o.mono f.out.size));clear o))
        all_goals first | (exact absurd g ‹_›) | (exact absurd ‹_› g) | (go_ret;exact⟨rfl,y.out⟩)
      | false =>
        rw[aB]
        go_in
        go_wp2_with (first | (go_at_call 90;refine(l.out _).mono ?_;rintro e w ⟨rfl,rfl⟩) | (go_at_call 91;refine(q.out _ a.out).mono ?_;rintro e w ⟨rfl,c⟩;have f:=aA (a.out.trans (c.mono a.out.size));clear c))
        all_goals first | (exact absurd g ‹_›) | (exact absurd ‹_› g) | (go_ret;exact⟨rfl,f.out⟩)
  | false =>
    rw[aB,aB];have g:¬ FloatKind.f64.format.order x 0=some .eq:=fun h=>by rw[h] at B;cases B
    go_in
    go_wp2
    all_goals first | (exact absurd g ‹_›) | (exact absurd ‹_› g) | (go_ret;exact⟨rfl,a.out⟩)
 rw[decide_eq_false j,aB]
 go_in
 go_wp2;go_ret;exact⟨rfl,a.out⟩
theorem Ko (Q:List UInt8->Prop) (N:Aw) (b:World) (a:∀x,N.bare x=Be x) (e:KF Q N b):∀n,CS Q N b n
 | 0=>fun t d f W _ c=>by obtain⟨k,nm,x,z,ks⟩:=t;rw[Tr.wt_mk] at c;omega
 | n+1=>NU Q N b a e n (Ko Q N b a e n)
theorem Gt (t:Tr) (b:Value) (W:World):Calls prog 93 #[CJ t b] W fun e f=>e = .returned (.bool (decide (36<=t.kd/\t.kd<=44)))/\Below W.heap.size W f:=by
 obtain⟨k,nm,x,z,ks⟩:=t;show Calls prog 93 #[.agg #[.int .i64 k,.string ⟨nm.toArray⟩,.float .f64 x,b,.complex .f64 z.1 z.2]] W _;have a:=aA (Ad W (.cells #[.int .i64 k,.string ⟨nm.toArray⟩,.float .f64 x,b,.complex .f64 z.1 z.2] 60));rw[show (Tr.mk k nm x z ks).kd=k from rfl];by_cases c:36<=k
 ·by_cases d:k<=44
  ·rw[decide_eq_true ⟨c,d⟩]
   go_in
   go_wp2;go_ret;exact⟨by simp,a.out⟩
  rw[decide_eq_false (fun h=>d h.2)]
  go_in
  go_wp2;go_ret;exact⟨by simp,a.out⟩
 rw[decide_eq_false (fun h=>c h.1)]
 go_in
 go_wp2;go_ret;exact⟨by simp,a.out⟩
theorem IS (N:Aw) (o:∀x,N.bare x=Be x) (t:Tr) (a:Option Addr) (cap:Nat) (W:World) (y:t.ks.length<=8796093022208):Calls prog 92 #[CJ t (.slice a t.ks.length cap)] W fun e p=>e = .returned (.bool (CK N t))/\Below W.heap.size W p:=by
 have u:Hid (∀j,Calls prog 74 #[CJ t (.slice a t.ks.length cap)] j fun e p=>e = .returned (.bool (Be t.x))/\Below j.heap.size j p):=fun j=>Ct t _ j;have v:Hid (CK N t=(decide (t.kd=0)&&(decide (t.nm=[])&&(Be t.x&&decide (t.ks.length=0))))):=by unfold Hid CK;rw[o]
 clear o;obtain⟨k,nm,x,z,ks⟩:=t;have n:Hid (CK N (.mk k nm x z ks)=(decide (k=0)&&(decide (nm=[])&&(Be x&&decide (ks.length=0))))):=v;have i:Hid (∀j,Calls prog 74 #[.agg #[.int .i64 k,.string ⟨nm.toArray⟩,.float .f64 x,.slice a ks.length cap,.complex .f64 z.1 z.2]] j fun e p=>e = .returned (.bool (Be x))/\Below j.heap.size j p):=u;have B:ks.length<=8796093022208:=y;show Calls prog 92 #[.agg #[.int .i64 k,.string ⟨nm.toArray⟩,.float .f64 x,.slice a ks.length cap,.complex .f64 z.1 z.2]] W _;have f:=aA (Ad W (.cells #[.int .i64 k,.string ⟨nm.toArray⟩,.float .f64 x,.slice a ks.length cap,.complex .f64 z.1 z.2] 60))
 have l:Hid ((W.alloc (.cells #[.int .i64 k,.string ⟨nm.toArray⟩,.float .f64 x,.slice a ks.length cap,.complex .f64 z.1 z.2] 60)).cell? ⟨W.heap.size,3,none⟩=some (.slice a ks.length cap)):=by unfold Hid;rw[aF _ _ _ _ rfl];rfl
 rw[n.out];clear v n u y;by_cases w:k=0
 ·subst w
  rw[decide_eq_true rfl,aC]
  cases nm with
  | nil =>
    rw[decide_eq_true rfl,aC];generalize Be x=b at i ⊢
    cases b with
    | true =>
      rw[aC];generalize ks.length=m at *;by_cases s:m=0
      ·subst s
       go_in
       go_wp2_with (go_at_call 74;refine(i.out _).mono ?_;rintro e A ⟨rfl,d⟩;have g:=aA (f.out.trans (d.mono f.out.size));have q:=Aa l.out d;clear d)
       go_ret;exact⟨by simp,g.out⟩
      rw[decide_eq_false s]
      go_in
      go_wp2_with (go_at_call 74;refine(i.out _).mono ?_;rintro e A ⟨rfl,d⟩;have g:=aA (f.out.trans (d.mono f.out.size));have q:=Aa l.out d;clear d)
      go_ret;exact⟨by simp[s],g.out⟩
    | false =>
      rw[aB]
      go_in
      go_wp2_with (go_at_call 74;refine(i.out _).mono ?_;rintro e A ⟨rfl,d⟩;have g:=aA (f.out.trans (d.mono f.out.size));clear d)
      go_ret;exact⟨rfl,g.out⟩
  | cons c r =>
    rw[decide_eq_false (by simp),aB]
    have C:¬ (⟨(c::r).toArray⟩:ByteArray)=⟨#[]⟩:=by
     intro h;have:=congrArg aH h;simp[aH] at this
    go_in
    go_wp2;go_ret;exact⟨rfl,f.out⟩
 rw[decide_eq_false w,aB]
 go_in
 go_wp2;go_ret;exact⟨rfl,f.out⟩
def Ee (Q:List UInt8->Prop) (N:Aw) (b:World) (n:Nat):Prop:=∀(t:Tr) (d:Nat) (a:Value) (W:World),Tr.All (FW Q) t->t.wt<=n->d<=300->t.big<=8796093022208->Am 60 W (fun _=>True) t.ks a->Below b.heap.size b W ->
 Calls prog 75 #[CJ t a,.int .i64 d] W fun e c=>e = .returned (.bool (Av N d t))/\Below W.heap.size W c
def Xn (Q:List UInt8->Prop) (N:Aw) (b:World) (n:Nat):Prop:=∀(t:Tr) (d:Nat) (a:Value) (W:World),Tr.All (FW Q) t->t.wt<=n->d<=300->t.big<=8796093022208->Am 60 W (fun _=>True) t.ks a->Below b.heap.size b W ->
 Calls prog 52 #[CJ t a,.int .i64 d] W fun e c=>e = .returned (.bool (decide (t.kd=30)&&Av N d t))/\Below W.heap.size W c
theorem QA (N:Aw) (d:Nat) (nm:List UInt8) (x:Nat) (z:Nat×Nat) (ks:List Tr):Av N d (.mk 30 nm x z ks)=(decide (d<=200)&&(N.bare x&&(decide (nm=[])&&ks.all (Av N (d+1))))):=by
 rw[Av,Jr];simp
theorem Ia (Q:List UInt8->Prop) (N:Aw) (w0:World) (Y:∀x,N.bare x=Be x) (n:Nat) (hE:Ee Q N w0 n):Xn Q N w0 (n+1):=by
 intro t d P W hq A hd B hk hW;have I:Hid (∀m,Calls prog 74 #[CJ t P] m fun e R=>e = .returned (.bool (Be t.x))/\Below m.heap.size m R):=fun m=>Ct t _ m;obtain⟨k,nm,x,z,ks⟩:=t;have D:Hid (∀m,Calls prog 74 #[.agg #[.int .i64 k,.string ⟨nm.toArray⟩,.float .f64 x,P,.complex .f64 z.1 z.2]] m fun e R=>e = .returned (.bool (Be x))/\Below m.heap.size m R):=I;have f:=aA (Ad W (.cells #[.int .i64 k,.string ⟨nm.toArray⟩,.float .f64 x,P,.complex .f64 z.1 z.2] 60));have L:∀t∈ks,Tr.All (FW Q) t:=fun u hu=>hq.kid hu;have HQ:=aA L;clear I hq L;show Calls prog 52 #[.agg #[.int .i64 k,.string ⟨nm.toArray⟩,.float .f64 x,P,.complex .f64 z.1 z.2],.int .i64 d] W _
 rw[show (Tr.mk k nm x z ks).kd=k from rfl];by_cases w:k=30
 ·subst w
  rw[decide_eq_true rfl,aC,QA,Y];by_cases s:d<=200
  ·skip
   have d0:DN ks<=n:=by rw[Tr.wt_mk] at A;omega
   rw[CD] at B
   have k0:ks.length<=8796093022208:=by
    have:∀l:List Tr,l.length<=Bh l:=by
     intro l
     induction l with
     | nil=>simp
     | cons t ts ih=>rw[AU,aN];omega
    have:=this ks;omega
   rw[decide_eq_true s,aC];have v:Am 60 W (fun _=>True) ks P:=hk;obtain⟨a,E,c0⟩:=v.slice;subst c0;have T:Hid ((W.alloc (.cells #[.int .i64 30,.string ⟨nm.toArray⟩,.float .f64 x,.slice a ks.length E,.complex .f64 z.1 z.2] 60)).cell? ⟨W.heap.size,3,none⟩=some (.slice a ks.length E)):=by unfold Hid;rw[aF _ _ _ _ rfl];rfl
   cases nm with
   | cons c r =>
     have m0:¬ (⟨(c::r).toArray⟩:ByteArray)=⟨#[]⟩:=by
      intro h;have:=congrArg aH h;simp[aH] at this
     rw[decide_eq_false (by simp:¬ (c::r=[])),aB,Bool.and_false]
     go_in
     go_wp2;go_ret;exact⟨rfl,f.out⟩
   | nil =>
     rw[decide_eq_true rfl,aC];generalize Be x=b at D ⊢
     cases b with
     | false =>
       rw[aB]
       go_in
       go_wp2_with (go_at_call 74;refine(D.out _).mono ?_;rintro e w4 ⟨rfl,o⟩;have C:=aA (f.out.trans (o.mono f.out.size));clear o)
       go_ret;exact⟨rfl,C.out⟩
     | true =>
       have HK:=aA v;have HW:=aA hW;have HE:=aA hE;have i0:Bh ks<=8796093022208:=(by omega);clear hk v hW hE B A;rw[aC]
       go_in
       go_wp2_with (go_at_call 74;refine(D.out _).mono ?_;rintro e w4 ⟨rfl,o⟩;have C:=aA (f.out.trans (o.mono f.out.size));have U:=aA (Aa T.out o);clear o)
       go_loopg [5] ks.length (fun g i wr=>∃(k:Nat),i = .int .i64 k/\k+g=ks.length/\Hid (∀t∈ks.take k,Av N (d+1) t=true)/\Hid (Below W.heap.size W wr)/\wr.cell? ⟨W.heap.size,3,none⟩=some (.slice a ks.length E))
       case atStart=>exact⟨0,rfl,by omega,by simp[Hid],C,U.out⟩
       obtain⟨k,rfl,j0,HT,j,a0⟩:=hrel;by_cases G:k<ks.length
       ·obtain⟨b,h0,kw,hv,t,M,K,e0,e1,e2,e3,e4⟩:=(HK.out.bel j.out).cells k G
        injection hv with f0 _ g0;subst f0;have O:ks[k]'G=t:=by rw[aI G] at M;exact Option.some.inj M
        have y:t∈ks:=aJ M;have A:t.wt<=n:=Nat.le_trans (A9 y) d0;have hbg:t.big<=8796093022208:=by have:=Ax y;omega
        have S:Hid (∀m,Below W.heap.size W m->Am 60 m (fun _=>True) t.ks kw->Calls prog 75 #[CJ t kw,.int .i64 ((d:Int)+1)] m fun e R=>e = .returned (.bool (Av N (d+1) t))/\Below m.heap.size m R) :=
         fun m Z v=>HE.out t (d+1) kw m (HQ.out t y) A (by omega) hbg v (HW.out.trans (Z.mono HW.out.size))
        have J:=aA K;have HM:=aA y;have V:Hid (ks.take (k+1)=ks.take k++[t]):=by unfold Hid;rw[aD G,O]
        obtain⟨X,F⟩:∃X,Av N (d+1) t=X:=⟨_,rfl⟩;have H:=aA F;rw[F] at S;clear g0 O y A hbg K M F;rw[Nat.mul_comm 5 k] at e0 e1 e2 e3 e4
        cases X with
        | true =>
          go_wp2_with (go_at_call 75;refine(S.out _ j.out J.out).mono ?_;rintro e w5 ⟨rfl,p⟩;have b0:=Aa a0 p)
          have q:=aA (j.out.trans (p.mono j.out.size));clear p
          go_roundg (gk-1)
          case measure=>omega
          refine⟨k+1,congrArg (Value.int .i64) (by omega),by omega,?_,q,b0⟩;unfold Hid;rw[V.out];intro u hu;rcases List.mem_append.1 hu with h | h
          ·exact HT.out u h
          rw[aK.1 h];exact H.out
        | false =>
          go_wp2_with (go_at_call 75;refine(S.out _ j.out J.out).mono ?_;rintro e w5 ⟨rfl,p⟩)
          have q:=aA (j.out.trans (p.mono j.out.size));clear p;go_ret;refine⟨?_,q.out⟩;refine congrArg (fun b=>aG (Value.bool b)) (aM.2 fun h=>?_:ks.all (Av N (d+1))=false).symm;have:=aE.1 h t HM.out;rw[H.out] at this;cases this
       obtain rfl:k=ks.length:=(by omega);go_wp2;go_ret;refine⟨?_,j.out⟩;refine congrArg (fun b=>aG (Value.bool b)) (aE.2 fun t M=>HT.out t ?_:ks.all (Av N (d+1))=true).symm
       rwa [aO]
  rw[decide_eq_false s,aB]
  go_in
  go_wp2;go_ret;exact⟨rfl,f.out⟩
 rw[decide_eq_false w,aB];have l0:(k != 30)=true:=(by simp[w]);by_cases s:d<=200
 ·go_in
  go_wp2;go_ret;exact⟨rfl,f.out⟩
 go_in
 go_wp2;go_ret;exact⟨rfl,f.out⟩
end Go.Proofs.YtipfpohlnhmlpaaGreatDoor
