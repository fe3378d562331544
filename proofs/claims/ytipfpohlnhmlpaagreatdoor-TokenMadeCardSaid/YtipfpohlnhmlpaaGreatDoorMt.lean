/- Mt Mu -/
import Derived.Test.YtipfpohlnhmlpaaGreatDoorMs
set_option maxRecDepth 100000
set_option maxHeartbeats 4000000
open Go.Lib renaming hid->aB
namespace Go.Proofs.YtipfpohlnhmlpaaGreatDoor
open Go.Proofs.Tryz
open Go.RowKit
theorem IE (a:Nat->List UInt8) (b:∀x,(a x).length<=64) (N:Aw) (c:World)
  (hF:∀x W,N.num x=true->Below c.heap.size c W->Calls prog 77 #[.float .f64 x,.int .u8 103,.int .i64 (-1),.int .i64 64] W fun e g=>e = .returned (.string ⟨(a x).toArray⟩)/\Below W.heap.size W g) :
  ∀n,Hj a N c n
 | 0=>fun t d h W f=>by obtain⟨k,nm,x,z,ks⟩:=t;rw[Tr.wt_mk] at f;omega
 | n+1=>Py a b N c hF n (IE a b N c hF n)
theorem Px (t:Tr) (h:t.kd=0) (a:Option Addr) (l c:Nat) (W:World):Calls prog 55 #[CJ t (.slice a l c)] W fun e d=>e = .returned (.string ⟨#[]⟩)/\Below W.heap.size W d:=by
 obtain⟨k,nm,x,z,ks⟩:=t;have b:k=0:=h;subst b;show Calls prog 55 #[.agg #[.int .i64 0,.string ⟨nm.toArray⟩,.float .f64 x,.slice a l c,.complex .f64 z.1 z.2]] W _
 go_in
 go_wp2;go_ret;exact⟨rfl,Ad W _⟩
theorem Xp (c:Nat->List UInt8) (g:∀x,(c x).length<=64) (N:Aw) (y:World) (n:Nat) (B:Hj c N y n) (t:Tr) (d:Nat) (G:Value) (s:List UInt8) (W:World) (F:DN t.ks<=n) (C:A5 N d t.ks=true) (w:Bh t.ks<=8796093022208)
  (M:s.length<=8) (D:Am 60 W (fun _=>True) t.ks G) (I:Below y.heap.size y W) :
  Calls prog 79 #[CJ t G,.string ⟨s.toArray⟩] W fun e r=>e = .returned (.string ⟨(Go.wordL s (AP c t.ks)).toArray⟩)/\Below W.heap.size W r:=by
 obtain⟨k,nm,x,z,ks⟩:=t;have i:Am 60 W (fun _=>True) ks G:=D;obtain⟨a,j,E⟩:=i.slice;subst E;show Calls prog 79 #[.agg #[.int .i64 k,.string ⟨nm.toArray⟩,.float .f64 x,.slice a ks.length j,.complex .f64 z.1 z.2],.string ⟨s.toArray⟩] W fun e r=>e = .returned (.string ⟨(Go.wordL s (AP c ks)).toArray⟩)/\Below W.heap.size W r
 have m:Hid (∀l,Below W.heap.size W l->Calls prog 33 #[.slice a ks.length j,.string ⟨[44,32].toArray⟩] l fun e r=>e = .returned (.string ⟨(A3 [44,32] (AP c ks)).toArray⟩)/\Below l.heap.size l r) :=
  fun l o=>EN c g N y n B ks d _ [44,32] l F C w (by decide) (i.bel o) (I.trans (o.mono I.size))
 have q:(A3 [44,32] (AP c ks)).length<=8796093022208:=by
  rw[Au];have:=Cn [44,32] (by decide) (AD c) ks fun t _=>Bs c g t;have L:Bh ks<=8796093022208:=w;omega
 have f:Hid (Below W.heap.size W (W.alloc (.cells #[.int .i64 k,.string ⟨nm.toArray⟩,.float .f64 x,.slice a ks.length j,.complex .f64 z.1 z.2] 60))):=Ad W _;by_cases v:ks.length=0
 ·have b:ks=[]:=List.eq_nil_of_length_eq_zero v
  have u:Hid (Go.wordL s (AP c ks)=s):=by unfold Hid Go.wordL;rw[b,Au];rfl
  have K:((ks.length:Int)==0)=true:=beq_iff_eq.2 (by omega);clear D i b w F C v B g q
  go_in
  go_wp2;go_ret;exact⟨by rw[u.out];rfl,f.out⟩
 have b:AP c ks≠[]:=by rw[Au];intro h;exact v (by simpa using congrArg List.length h)
 have K:((ks.length:Int)==0)=false:=beq_eq_false_iff_ne.2 (by omega);have u:Hid (Go.wordL s (AP c ks)=s++[32]++A3 [44,32] (AP c ks)):=by unfold Hid Go.wordL;rw[if_neg b]
 obtain⟨J,H⟩:∃J,A3 [44,32] (AP c ks)=J:=⟨_,rfl⟩;rw[H] at u m q;clear D i b w F C v B g H
 go_in
 go_wp2_with (go_at_call 33;refine(m.out _ f.out).mono ?_;rintro e O ⟨rfl,p⟩;have A:=aB (f.out.trans (p.mono f.out.size));clear p)
 go_ret;exact⟨by rw[u.out];exact congrArg (fun x=>Ending.returned (.string x)) (BK (by simp)),A.out⟩
end Go.Proofs.YtipfpohlnhmlpaaGreatDoor
namespace Go
open Go.RowKit
theorem Jr (N:Aw) (d:Nat) (ks:List Tr):Ha N d ks=ks.all (Av N d):=by
 induction ks with
 | nil=>rw[Ha];rfl
 | cons t b a=>rw[Ha,a];rfl
theorem Bo (N:Aw) (d:Nat) (ks:List Tr):B4 N d ks=ks.map fun t=>(t.kd,Av N d t):=by
 induction ks with
 | nil=>rw[B4];rfl
 | cons t b a=>rw[B4,a];rfl
theorem Nq (L:List (List UInt8)) (k:Nat) (h:k<L.length):Cd (L.take (k+1))=Cd (L.take k)++L[k]++[10]:=by
 rw[List.take_succ_eq_append_getElem h,L_]
theorem S4 {N:Aw} {d:Nat} {nm:List UInt8} {x:Nat} {z:Nat×Nat} {ks:List Tr} (h:Av N d (.mk 30 nm x z ks)=true):∀t∈ks,Av N (d+1) t=true:=by
 rw[Av] at h;simp only[if_pos,Bool.and_eq_true] at h;have:=h.2.2.2;rw[Jr] at this;exact fun t a=>List.all_eq_true.1 this t a
end Go
namespace Go.Proofs.YtipfpohlnhmlpaaGreatDoor
open Go.Proofs.Tryz
open Go.RowKit
def On (c:Nat->List UInt8) (N:Aw) (b:World) (n:Nat):Prop:=∀(t:Tr) (d:Nat) (a:Value) (W:World),t.wt<=n->(Av N d t=true\/t.kd=0)->t.big<=8796093022208->Am 60 W (fun _=>True) t.ks a->Below b.heap.size b W ->
 Calls prog 56 #[CJ t a] W fun e f=>e = .returned (.string ⟨(AX c t).toArray⟩)/\Below W.heap.size W f
def GP (c:Nat->List UInt8) (N:Aw) (b:World) (n:Nat):Prop:=∀(t:Tr) (d:Nat) (a:Value) (W:World),t.wt<=n->t.kd=30->Av N d t=true->t.big<=8796093022208->Am 60 W (fun _=>True) t.ks a->Below b.heap.size b W ->
 Calls prog 34 #[CJ t a] W fun e f=>e = .returned (.string ⟨(AX c t).toArray⟩)/\Below W.heap.size W f
theorem M4 (c:Nat->List UInt8) (X:∀x,(c x).length<=64) (N:Aw) (w0:World) (n:Nat) (hE:On c N w0 n):GP c N w0 (n+1):=by
 intro t d kv W o H hb r hk hW;obtain⟨k,nm,x,z,ks⟩:=t;have G:k=30:=H;subst G;rw[CD] at r;have hn:DN ks<=n:=by rw[Tr.wt_mk] at o;omega
 have j:Am 60 W (fun _=>True) ks kv:=hk;have HK:=aB j;have HW:=aB hW;have HE:=aB hE;have L:=aB (S4 hb);have S:Hid (∀k,Bh (ks.take k)<=8796093022208):=fun k=>Nat.le_trans (Gj ks k) (by omega)
 have i0:ks.length<=8796093022208:=by
  have:∀l:List Tr,l.length<=Bh l:=by
   intro l
   induction l with
   | nil=>simp
   | cons t ts ih=>rw[AU,List.length_cons];omega
  have:=this ks;omega
 obtain⟨a,f,Y⟩:=j.slice;subst Y;have HX:Hid (AX c (.mk 30 nm x z ks)=[123,10]++Cd (ks.map (AX c))++[125]):=by unfold Hid;rw[Bn,B8];rfl
 have K:Hid (Below W.heap.size W (W.alloc (.cells #[.int .i64 30,.string ⟨nm.toArray⟩,.float .f64 x,.slice a ks.length f,.complex .f64 z.1 z.2] 60))):=Ad W _;have O:Hid ((W.alloc (.cells #[.int .i64 30,.string ⟨nm.toArray⟩,.float .f64 x,.slice a ks.length f,.complex .f64 z.1 z.2] 60)).cell? ⟨W.heap.size,3,none⟩=some (.slice a ks.length f)):=by unfold Hid;rw[World.cell?_alloc_at _ _ _ _ rfl];rfl
 show Calls prog 34 #[.agg #[.int .i64 30,.string ⟨nm.toArray⟩,.float .f64 x,.slice a ks.length f,.complex .f64 z.1 z.2]] W _;clear hk j hW hE hb r H o
 go_in
 go_wp2
 go_loopg [3,4] ks.length (fun g d0 i wr=>∃(k:Nat) (T:ByteArray),d0 = .string T/\i = .int .i64 k/\k+g=ks.length/\Hid (T.size<=2+Bh (ks.take k))/\Hid (T.data.toList=[123,10]++Cd ((ks.map (AX c)).take k))/\Hid (Below W.heap.size W wr)/\Hid (wr.cell? ⟨W.heap.size,3,none⟩=some (.slice a ks.length f)))
 case atStart=>exact⟨0,_,rfl,rfl,by omega,Nat.le_add_right _ _,by simp[Hid,Cd],K,O⟩
 obtain⟨k,T,rfl,rfl,h0,s,HT,h,HC⟩:=hrel;have F:=HC.out;by_cases m:k<ks.length
 ·obtain⟨b,f0,kw,hv,t,J,I,e0,e1,e2,e3,e4⟩:=(HK.out.bel h.out).cells k m
  injection hv with b0 _ c0;subst b0;have q:ks[k]'m=t:=by rw[List.getElem?_eq_getElem m] at J;exact Option.some.inj J
  have w:t∈ks:=List.mem_of_getElem? J;have o:t.wt<=n:=Nat.le_trans (A9 w) hn;have E:=L.out t w;have hbg:t.big<=8796093022208:=by have:=FK ks k m;rw[q] at this;have:=S.out (k+1);omega
  have P:Hid (∀u,Below W.heap.size W u->Am 60 u (fun _=>True) t.ks kw->Calls prog 56 #[CJ t kw] u fun e w'=>e = .returned (.string ⟨(AX c t).toArray⟩)/\Below u.heap.size u w') :=
   fun u V j=>HE.out t (d+1) kw u o (.inl E) hbg j (HW.out.trans (V.mono HW.out.size))
  have R:=aB I;have C:Hid ((AX c t).length<=t.big):=BB c X t;have D:Hid (Bh (ks.take (k+1))=Bh (ks.take k)+(t.big+8)):=by unfold Hid;rw[FK ks k m,q]
  have Q:Hid (Cd ((ks.map (AX c)).take (k+1))=Cd ((ks.map (AX c)).take k)++AX c t++[10]):=by
   unfold Hid;rw[Nq _ _ (by simpa using m),List.getElem_map,q]
  have A:=S.out (k+1);have y:=s.out;have Z:=C.out;have a0:=D.out;have U:T.size<=8796093022300:=(by omega);have g0:(AX c t).length<=8796093022208:=(by omega);clear c0 q w o E hbg I J A y Z a0;rw[Nat.mul_comm 5 k] at e0 e1 e2 e3 e4
  go_wp2_with (go_at_call 56;refine(P.out _ h.out R.out).mono ?_;rintro e w4 ⟨rfl,v⟩)
  have B:=aB (h.out.trans (v.mono h.out.size));have M:Hid (w4.cell? ⟨W.heap.size,3,none⟩=some (.slice (some ⟨b,0,none⟩) ks.length f)):=(v.cell (p:=⟨W.heap.size,3,none⟩) (World.block_lt_of_cell? _ _ F)).trans F;clear v
  go_roundg (gk-1)
  case measure=>omega
  refine⟨k+1,_,rfl,congrArg (Value.int .i64) (by omega),by omega,?_,?_,B,M⟩
  ·have h1:=s.out
   have h2:=D.out;have h3:=C.out;unfold Hid;rw[h2];simp only[AQ];have e2:ByteArray.size ⟨(AX c t).toArray⟩=(AX c t).length:=(by simp[ByteArray.size]);have e3:ByteArray.size ⟨#[10]⟩=1:=rfl;omega
  unfold Hid;rw[Q.out];simp only[A1,HT.out];simp
 have Q:Hid (T.data.toList=[123,10]++Cd (ks.map (AX c))):=by
  have:=HT.out
  rwa [List.take_of_length_le (by rw[List.length_map];omega)] at this
 have A:=S.out k;have y:=s.out;have U:T.size<=8796093022300:=(by omega);clear A y;go_wp2;go_ret;exact⟨by rw[HX.out];exact congrArg (fun x=>Ending.returned (.string x)) (BK (by rw[A1,Q.out])),h.out⟩
end Go.Proofs.YtipfpohlnhmlpaaGreatDoor
