/- Bf -/
import Derived.Test.YtfblenhlildnaaaGreatDoorBc
import Derived.Deep.RegionHeld3
set_option maxRecDepth 100000
set_option maxHeartbeats 2000000
open List renaming setIfInBounds_toArray->aA,getElem_cons_zero->aB,getElem_cons_succ->aC,getElem_toArray->aD,set_cons_zero->aE,set_cons_succ->aF
open Go.Lib renaming hid->aG
namespace Go.Proofs.YtfblenhlildnaaaGreatDoor
open Go.Proofs.Tryz
open Go.RowKit
theorem NW {nx:Nat->Bool->Tk} {i W:World} {q:Nat} {s:ByteArray} {p:Ps} (k:F2 nx s i) (h:Pz i q s p W) (x:List UInt8) :
  Calls prog 69 #[.pointer (some ⟨q,0,none⟩),.string ⟨x.toArray⟩] W fun e r=>Below W.heap.size W r /\
   ((nx p.a false).e=0/\e = .returned (.bool (isS (nx p.a false) x))\/(nx p.a false).e≠0/\e = .panicked (T3 (nx p.a false).f (nx p.a false).e)):=by
 have j:=aG (fun n (o:Pz i q s p n)=>Ea k o false);have m:=aG (AaD (nx p.a false) 9 x);have l:=aG h;clear k h;by_cases c:(nx p.a false).e=0
 ·go_in
  go_wp2_with (first | (go_at_call 65;refine(j.out _ l.out).mono ?_;rintro e t ⟨b,⟨-,rfl⟩ | ⟨d,-⟩⟩;rotate_left;exact absurd c d) | (go_at_call 45;refine(m.out _).mono ?_;rintro e u ⟨rfl,g⟩))
  go_ret;exact⟨b.trans (g.mono b.size),.inl ⟨c,rfl⟩⟩
 go_in
 go_wp2_with (first | (go_at_call 65;refine(j.out _ l.out).mono ?_;rintro e t ⟨b,⟨d,-⟩ | ⟨-,rfl⟩⟩;exact absurd d c))
 exact⟨rfl,b,.inr ⟨c,rfl⟩⟩
theorem F5 {t:Tk} {k:Int} {x:List UInt8} {b:Bool} (h:(decide (t.kd=k)&&decide (t.tx=x))=b) (w:World) :
 Calls prog 45 #[.agg #[.int .i64 t.kd,.string ⟨t.tx.toArray⟩,.float .f64 t.nm,.int .i64 t.f,.int .i64 t.t],.int .i64 k,.string ⟨x.toArray⟩] w fun e a=>e = .returned (.bool b)/\Below w.heap.size w a:=h▸AaD t k x w
structure Rf (w0 W:World) (q:Nat) (s:ByteArray) (p:Ps) (t:Tk) (w:World):Prop where
 t:C5 w W.heap.size (.int .i64 t.kd) (.string ⟨t.tx.toArray⟩) (.float .f64 t.nm) (.int .i64 t.f) (.int .i64 t.t)
 p:Pz w0 q s p w
 b:Below W.heap.size W w
theorem Rf.keep {c W w w':World} {q:Nat} {s:ByteArray} {p:Ps} {t:Tk} (h:Rf c W q s p t w) (a:Below w.heap.size w w'):Rf c W q s p t w' :=
 ⟨h.t.below a,h.p.keep a,h.b.trans (a.mono h.b.size)⟩
theorem Rf.start {a W:World} {q:Nat} {s:ByteArray} {p:Ps} (h:Pz a q s p W) (t:Tk) (T:TypeId):Rf a W q s p t (W.alloc (.cells #[.int .i64 t.kd,.string ⟨t.tx.toArray⟩,.float .f64 t.nm,.int .i64 t.f,.int .i64 t.t] T)) :=
 ⟨C5.new _ _ _ _ _ _ _,h.keep (Ad _ _),Ad _ _⟩
theorem Pz.drew {a W:World} {q:Nat} {s:ByteArray} {p:Ps} (h:Pz a q s p W):Pz a q s p W.drew :=
 ⟨⟨h.below.os,h.below.tape,h.below.output,h.below.size,h.below.block⟩,h.hq,h.c.kept rfl,h.ha,h.hs,h.d1,h.d2⟩
theorem Rf.drew {a W w:World} {q:Nat} {s:ByteArray} {p:Ps} {t:Tk} (h:Rf a W q s p t w):Rf a W q s p t w.drew :=
 ⟨h.t.kept rfl,h.p.drew,⟨h.b.os,h.b.tape,h.b.output,h.b.size,h.b.block⟩⟩
def RfS (W:World) (q:Nat) (p:Ps) (t:Tk) (o:World):Prop:=o.cell? ⟨q,2,none⟩=some (.int .i64 p.deep)/\o.cell? ⟨q,3,none⟩=some (.int .i64 p.outs)/\C5 o W.heap.size (.int .i64 t.kd) (.string ⟨t.tx.toArray⟩) (.float .f64 t.nm) (.int .i64 t.f) (.int .i64 t.t)
theorem Rf.s {a W w:World} {q:Nat} {s:ByteArray} {p:Ps} {t:Tk} (h:Rf a W q s p t w):RfS W q p t w:=⟨h.p.c.c2,h.p.c.c3,h.t⟩
set_option linter.unusedSimpArgs false in
theorem SX {X W:World} {q:Nat} {s:ByteArray} {p:Ps} (h:Pz X q s p W) (t:Tk) :
  Calls prog 67 #[.pointer (some ⟨q,0,none⟩),G1 t] W fun e V=>Below W.heap.size W V/\e = .panicked (T3 t.f (Yd t p)):=by
 have a:=aG (Rf.start h t 70);have U:∀(x:Value) (w:World),Sem.run prog (Instr.panic (.iface 61 x)) w = .halt (.panic (.iface 61 x)) w:=fun _ _=>rfl;unfold G1;obtain⟨v,B⟩:∃v,Yd t p=v:=⟨_,rfl⟩;rw[B];unfold Yd XI isS at B;obtain⟨b1,J⟩:∃b,(decide (t.kd=8)&&decide (t.tx=[103,101,116,108,105,110,101]))=b:=⟨_,rfl⟩;have C:=aG (F5 J);rw[J] at B;obtain⟨b2,L⟩:∃b,(decide (t.kd=9)&&decide (t.tx=[124]))=b:=⟨_,rfl⟩;have D:=aG (F5 L);rw[L] at B;obtain⟨b3,M⟩:∃b,(decide (t.kd=9)&&decide (t.tx=[62,62]))=b:=⟨_,rfl⟩;have E:=aG (F5 M);rw[M] at B;obtain⟨R,N⟩:∃b,(decide (t.kd=9)&&decide (t.tx=[62]))=b:=⟨_,rfl⟩
 have F:=aG (F5 N);rw[N] at B;clear J L M N h
 cases b1 with
 | true =>
   obtain rfl:v=27:=by rw[<- B];simp
   clear B;obtain⟨g,j,k,l,m,n⟩:=a.out.t;obtain⟨o,q1,r,u,y⟩:=a.out.p.c
   go_in
   go_wp2_with (first | (go_at_call 45;(with_reducible refine(C.out _).mono ?_);rintro e A ⟨rfl,d⟩;clear g j k l m n o q1 r u y;replace a:=aG (a.out.keep d);clear d;obtain⟨g,j,k,l,m,n⟩:=a.out.t;obtain⟨o,q1,r,u,y⟩:=a.out.p.c) | (go_at_call 45;(with_reducible refine(D.out _).mono ?_);rintro e A ⟨rfl,d⟩;clear g j k l m n o q1 r u y;replace a:=aG (a.out.keep d);clear d;obtain⟨g,j,k,l,m,n⟩:=a.out.t;obtain⟨o,q1,r,u,y⟩:=a.out.p.c) | (go_at_call 45;(with_reducible refine(E.out _).mono ?_);rintro e A ⟨rfl,d⟩;clear g j k l m n o q1 r u y;replace a:=aG (a.out.keep d);clear d;obtain⟨g,j,k,l,m,n⟩:=a.out.t;obtain⟨o,q1,r,u,y⟩:=a.out.p.c) | (go_at_call 45;(with_reducible refine(F.out _).mono ?_);rintro e A ⟨rfl,d⟩;clear g j k l m n o q1 r u y;replace a:=aG (a.out.keep d);clear d;obtain⟨g,j,k,l,m,n⟩:=a.out.t;obtain⟨o,q1,r,u,y⟩:=a.out.p.c))
   all_goals exact⟨rfl,a.out.b,rfl⟩
 | false =>
   cases b2 with
   | true =>
     obtain rfl:v=27:=by rw[<- B];simp
     clear B;obtain⟨g,j,k,l,m,n⟩:=a.out.t;obtain⟨o,q1,r,u,y⟩:=a.out.p.c
     go_in
     go_wp2_with (first | (go_at_call 45;(with_reducible refine(C.out _).mono ?_);rintro e A ⟨rfl,d⟩;clear g j k l m n o q1 r u y;replace a:=aG (a.out.keep d);clear d;obtain⟨g,j,k,l,m,n⟩:=a.out.t;obtain⟨o,q1,r,u,y⟩:=a.out.p.c) | (go_at_call 45;(with_reducible refine(D.out _).mono ?_);rintro e A ⟨rfl,d⟩;clear g j k l m n o q1 r u y;replace a:=aG (a.out.keep d);clear d;obtain⟨g,j,k,l,m,n⟩:=a.out.t;obtain⟨o,q1,r,u,y⟩:=a.out.p.c) | (go_at_call 45;(with_reducible refine(E.out _).mono ?_);rintro e A ⟨rfl,d⟩;clear g j k l m n o q1 r u y;replace a:=aG (a.out.keep d);clear d;obtain⟨g,j,k,l,m,n⟩:=a.out.t;obtain⟨o,q1,r,u,y⟩:=a.out.p.c) | (go_at_call 45;(with_reducible refine(F.out _).mono ?_);rintro e A ⟨rfl,d⟩;clear g j k l m n o q1 r u y;replace a:=aG (a.out.keep d);clear d;obtain⟨g,j,k,l,m,n⟩:=a.out.t;obtain⟨o,q1,r,u,y⟩:=a.out.p.c))
     all_goals exact⟨rfl,a.out.b,rfl⟩
   | false =>
     cases b3 with
     | true =>
       obtain rfl:v=27:=by rw[<- B];simp
       clear B;obtain⟨g,j,k,l,m,n⟩:=a.out.t;obtain⟨o,q1,r,u,y⟩:=a.out.p.c
       go_in
       go_wp2_with (first | (go_at_call 45;(with_reducible refine(C.out _).mono ?_);rintro e A ⟨rfl,d⟩;clear g j k l m n o q1 r u y;replace a:=aG (a.out.keep d);clear d;obtain⟨g,j,k,l,m,n⟩:=a.out.t;obtain⟨o,q1,r,u,y⟩:=a.out.p.c) | (go_at_call 45;(with_reducible refine(D.out _).mono ?_);rintro e A ⟨rfl,d⟩;clear g j k l m n o q1 r u y;replace a:=aG (a.out.keep d);clear d;obtain⟨g,j,k,l,m,n⟩:=a.out.t;obtain⟨o,q1,r,u,y⟩:=a.out.p.c) | (go_at_call 45;(with_reducible refine(E.out _).mono ?_);rintro e A ⟨rfl,d⟩;clear g j k l m n o q1 r u y;replace a:=aG (a.out.keep d);clear d;obtain⟨g,j,k,l,m,n⟩:=a.out.t;obtain⟨o,q1,r,u,y⟩:=a.out.p.c) | (go_at_call 45;(with_reducible refine(F.out _).mono ?_);rintro e A ⟨rfl,d⟩;clear g j k l m n o q1 r u y;replace a:=aG (a.out.keep d);clear d;obtain⟨g,j,k,l,m,n⟩:=a.out.t;obtain⟨o,q1,r,u,y⟩:=a.out.p.c))
       all_goals exact⟨rfl,a.out.b,rfl⟩
     | false =>
       cases R with
       | true =>
         by_cases H:p.outs=p.deep
         ·have T:(p.outs==p.deep)=true:=beq_iff_eq.2 H
          obtain rfl:v=27:=by rw[<- B];simp[H]
          clear B;obtain⟨g,j,k,l,m,n⟩:=a.out.t;obtain⟨o,q1,r,u,y⟩:=a.out.p.c
          go_in
          go_wp2_with (first | (go_at_call 45;(with_reducible refine(C.out _).mono ?_);rintro e A ⟨rfl,d⟩;clear g j k l m n o q1 r u y;replace a:=aG (a.out.keep d);clear d;obtain⟨g,j,k,l,m,n⟩:=a.out.t;obtain⟨o,q1,r,u,y⟩:=a.out.p.c) | (go_at_call 45;(with_reducible refine(D.out _).mono ?_);rintro e A ⟨rfl,d⟩;clear g j k l m n o q1 r u y;replace a:=aG (a.out.keep d);clear d;obtain⟨g,j,k,l,m,n⟩:=a.out.t;obtain⟨o,q1,r,u,y⟩:=a.out.p.c) | (go_at_call 45;(with_reducible refine(E.out _).mono ?_);rintro e A ⟨rfl,d⟩;clear g j k l m n o q1 r u y;replace a:=aG (a.out.keep d);clear d;obtain⟨g,j,k,l,m,n⟩:=a.out.t;obtain⟨o,q1,r,u,y⟩:=a.out.p.c))
          clear g j k l m n o q1 r u y;refine wp_region_held_drew (S:=RfS W q p t) (by kernel_rfl) a.out.drew.s (fun _=>?_);replace a:=aG a.out.drew;refine wpAnyH_take (i:=0) (v:=(.agg #[.int .i64 t.kd,.string ⟨t.tx.toArray⟩,.float .f64 t.nm,.int .i64 t.f,.int .i64 t.t])) rfl (by kernel_rfl) (by kernel_rfl) (by kernel_rfl) (fun _ _ _ h=>h) (Or.inl ⟨by rfl,fun w z=>by obtain⟨-,-,I,s1,O,P,Q,-⟩:=z;go_simp⟩) a.out.s ?_
          (try dsimp only);try simp only[Act.put,aD,aB,aC,aA,aE,aF]
          refine wpAnyH_ready (rs:=[1]) (by kernel_rfl) (by simp) ?_;refine AllReadyH.cons rfl (fun K G=>?_) AllReadyH.nil;rw[if_pos (by rfl)]
          try go_simp
          go_at_call 45
          refine(F.out _).mono ?_;rintro e A ⟨rfl,d⟩;replace a:=aG (a.out.keep d);clear d;refine G.out _ _ a.out.s (fun _=>?_)
          (try dsimp only);try simp only[Act.put,aD,aB,aC,aA,aE,aF]
          refine wpAnyH_take (i:=2) (v:=(.bool true)) rfl (by kernel_rfl) (by kernel_rfl) (by kernel_rfl) (fun _ _ _ h=>h) (Or.inl ⟨by rfl,fun w z=>by go_simp⟩) a.out.s ?_
          (try dsimp only);try simp only[Act.put,aD,aB,aC,aA,aE,aF]
          refine wpAnyH_take (i:=3) (v:=(.pointer (some ⟨q,0,none⟩))) rfl (by kernel_rfl) (by kernel_rfl) (by kernel_rfl) (fun _ _ _ h=>h) (Or.inl ⟨by rfl,fun w z=>by go_simp⟩) a.out.s ?_
          (try dsimp only);try simp only[Act.put,aD,aB,aC,aA,aE,aF]
          refine wpAnyH_take (i:=4) (v:=(.pointer (some ⟨q,0,none⟩))) rfl (by kernel_rfl) (by kernel_rfl) (by kernel_rfl) (fun _ _ _ h=>h) (Or.inl ⟨by rfl,fun w z=>by go_simp⟩) a.out.s ?_
          (try dsimp only);try simp only[Act.put,aD,aB,aC,aA,aE,aF]
          refine wpAnyH_take (i:=5) (v:=(.pointer (some ⟨q,3,none⟩))) rfl (by kernel_rfl) (by kernel_rfl) (by kernel_rfl) (fun _ _ _ h=>h) (Or.inl ⟨by rfl,fun w z=>by go_simp⟩) a.out.s ?_
          (try dsimp only);try simp only[Act.put,aD,aB,aC,aA,aE,aF]
          refine wpAnyH_take (i:=6) (v:=(.int .i64 p.outs)) rfl (by kernel_rfl) (by kernel_rfl) (by kernel_rfl) (fun _ _ _ h=>h) (Or.inl ⟨by rfl,fun w z=>by obtain⟨-,s1,-⟩:=z;go_simp⟩) a.out.s ?_
          (try dsimp only);try simp only[Act.put,aD,aB,aC,aA,aE,aF]
          refine wpAnyH_take (i:=7) (v:=(.pointer (some ⟨q,0,none⟩))) rfl (by kernel_rfl) (by kernel_rfl) (by kernel_rfl) (fun _ _ _ h=>h) (Or.inl ⟨by rfl,fun w z=>by go_simp⟩) a.out.s ?_
          (try dsimp only);try simp only[Act.put,aD,aB,aC,aA,aE,aF]
          refine wpAnyH_take (i:=8) (v:=(.pointer (some ⟨q,0,none⟩))) rfl (by kernel_rfl) (by kernel_rfl) (by kernel_rfl) (fun _ _ _ h=>h) (Or.inl ⟨by rfl,fun w z=>by go_simp⟩) a.out.s ?_
          (try dsimp only);try simp only[Act.put,aD,aB,aC,aA,aE,aF]
          refine wpAnyH_take (i:=9) (v:=(.pointer (some ⟨q,2,none⟩))) rfl (by kernel_rfl) (by kernel_rfl) (by kernel_rfl) (fun _ _ _ h=>h) (Or.inl ⟨by rfl,fun w z=>by go_simp⟩) a.out.s ?_
          (try dsimp only);try simp only[Act.put,aD,aB,aC,aA,aE,aF]
          refine wpAnyH_take (i:=10) (v:=(.int .i64 p.deep)) rfl (by kernel_rfl) (by kernel_rfl) (by kernel_rfl) (fun _ _ _ h=>h) (Or.inl ⟨by rfl,fun w z=>by obtain⟨I,-⟩:=z;go_simp⟩) a.out.s ?_
          (try dsimp only);try simp only[Act.put,aD,aB,aC,aA,aE,aF]
          refine wpAnyH_take (i:=11) (v:=(.bool true)) rfl (by kernel_rfl) (by kernel_rfl) (by kernel_rfl) (fun _ _ _ h=>h) (Or.inl ⟨by rfl,fun w z=>by go_simp⟩) a.out.s ?_
          (try dsimp only);try simp only[Act.put,aD,aB,aC,aA,aE,aF]
          refine wpAnyH_take (i:=12) (v:=(.bool true)) rfl (by kernel_rfl) (by kernel_rfl) (by kernel_rfl) (fun _ _ _ h=>h) (Or.inl ⟨by rfl,fun w z=>by go_simp⟩) a.out.s ?_
          (try dsimp only);try simp only[Act.put,aD,aB,aC,aA,aE,aF]
          refine wpAnyH_take (i:=13) (v:=(.bool true)) rfl (by kernel_rfl) (by kernel_rfl) (by kernel_rfl) (fun _ _ _ h=>h) (Or.inl ⟨by rfl,fun w z=>by go_simp⟩) a.out.s ?_
          (try dsimp only);try simp only[Act.put,aD,aB,aC,aA,aE,aF]
          refine wpAnyH_done (by kernel_rfl) ?_ _;obtain⟨g,j,k,l,m,n⟩:=a.out.t;obtain⟨o,q1,r,u,y⟩:=a.out.p.c;go_wp2
          all_goals exact⟨rfl,a.out.b,rfl⟩
         have T:(p.outs==p.deep)=false:=beq_eq_false_iff_ne.2 H;obtain rfl:v=25:=by rw[<- B];simp[H]
         clear B;obtain⟨g,j,k,l,m,n⟩:=a.out.t;obtain⟨o,q1,r,u,y⟩:=a.out.p.c
         go_in
         go_wp2_with (first | (go_at_call 45;(with_reducible refine(C.out _).mono ?_);rintro e A ⟨rfl,d⟩;clear g j k l m n o q1 r u y;replace a:=aG (a.out.keep d);clear d;obtain⟨g,j,k,l,m,n⟩:=a.out.t;obtain⟨o,q1,r,u,y⟩:=a.out.p.c) | (go_at_call 45;(with_reducible refine(D.out _).mono ?_);rintro e A ⟨rfl,d⟩;clear g j k l m n o q1 r u y;replace a:=aG (a.out.keep d);clear d;obtain⟨g,j,k,l,m,n⟩:=a.out.t;obtain⟨o,q1,r,u,y⟩:=a.out.p.c) | (go_at_call 45;(with_reducible refine(E.out _).mono ?_);rintro e A ⟨rfl,d⟩;clear g j k l m n o q1 r u y;replace a:=aG (a.out.keep d);clear d;obtain⟨g,j,k,l,m,n⟩:=a.out.t;obtain⟨o,q1,r,u,y⟩:=a.out.p.c))
         clear g j k l m n o q1 r u y;refine wp_region_held_drew (S:=RfS W q p t) (by kernel_rfl) a.out.drew.s (fun _=>?_);replace a:=aG a.out.drew;refine wpAnyH_take (i:=0) (v:=(.agg #[.int .i64 t.kd,.string ⟨t.tx.toArray⟩,.float .f64 t.nm,.int .i64 t.f,.int .i64 t.t])) rfl (by kernel_rfl) (by kernel_rfl) (by kernel_rfl) (fun _ _ _ h=>h) (Or.inl ⟨by rfl,fun w z=>by obtain⟨-,-,I,s1,O,P,Q,-⟩:=z;go_simp⟩) a.out.s ?_
         (try dsimp only);try simp only[Act.put,aD,aB,aC,aA,aE,aF]
         refine wpAnyH_ready (rs:=[1]) (by kernel_rfl) (by simp) ?_;refine AllReadyH.cons rfl (fun K G=>?_) AllReadyH.nil;rw[if_pos (by rfl)]
         try go_simp
         go_at_call 45
         refine(F.out _).mono ?_;rintro e A ⟨rfl,d⟩;replace a:=aG (a.out.keep d);clear d;refine G.out _ _ a.out.s (fun _=>?_)
         (try dsimp only);try simp only[Act.put,aD,aB,aC,aA,aE,aF]
         refine wpAnyH_take (i:=2) (v:=(.bool true)) rfl (by kernel_rfl) (by kernel_rfl) (by kernel_rfl) (fun _ _ _ h=>h) (Or.inl ⟨by rfl,fun w z=>by go_simp⟩) a.out.s ?_
         (try dsimp only);try simp only[Act.put,aD,aB,aC,aA,aE,aF]
         refine wpAnyH_take (i:=3) (v:=(.pointer (some ⟨q,0,none⟩))) rfl (by kernel_rfl) (by kernel_rfl) (by kernel_rfl) (fun _ _ _ h=>h) (Or.inl ⟨by rfl,fun w z=>by go_simp⟩) a.out.s ?_
         (try dsimp only);try simp only[Act.put,aD,aB,aC,aA,aE,aF]
         refine wpAnyH_take (i:=4) (v:=(.pointer (some ⟨q,0,none⟩))) rfl (by kernel_rfl) (by kernel_rfl) (by kernel_rfl) (fun _ _ _ h=>h) (Or.inl ⟨by rfl,fun w z=>by go_simp⟩) a.out.s ?_
         (try dsimp only);try simp only[Act.put,aD,aB,aC,aA,aE,aF]
         refine wpAnyH_take (i:=5) (v:=(.pointer (some ⟨q,3,none⟩))) rfl (by kernel_rfl) (by kernel_rfl) (by kernel_rfl) (fun _ _ _ h=>h) (Or.inl ⟨by rfl,fun w z=>by go_simp⟩) a.out.s ?_
         (try dsimp only);try simp only[Act.put,aD,aB,aC,aA,aE,aF]
         refine wpAnyH_take (i:=6) (v:=(.int .i64 p.outs)) rfl (by kernel_rfl) (by kernel_rfl) (by kernel_rfl) (fun _ _ _ h=>h) (Or.inl ⟨by rfl,fun w z=>by obtain⟨-,s1,-⟩:=z;go_simp⟩) a.out.s ?_
         (try dsimp only);try simp only[Act.put,aD,aB,aC,aA,aE,aF]
         refine wpAnyH_take (i:=7) (v:=(.pointer (some ⟨q,0,none⟩))) rfl (by kernel_rfl) (by kernel_rfl) (by kernel_rfl) (fun _ _ _ h=>h) (Or.inl ⟨by rfl,fun w z=>by go_simp⟩) a.out.s ?_
         (try dsimp only);try simp only[Act.put,aD,aB,aC,aA,aE,aF]
         refine wpAnyH_take (i:=8) (v:=(.pointer (some ⟨q,0,none⟩))) rfl (by kernel_rfl) (by kernel_rfl) (by kernel_rfl) (fun _ _ _ h=>h) (Or.inl ⟨by rfl,fun w z=>by go_simp⟩) a.out.s ?_
         (try dsimp only);try simp only[Act.put,aD,aB,aC,aA,aE,aF]
         refine wpAnyH_take (i:=9) (v:=(.pointer (some ⟨q,2,none⟩))) rfl (by kernel_rfl) (by kernel_rfl) (by kernel_rfl) (fun _ _ _ h=>h) (Or.inl ⟨by rfl,fun w z=>by go_simp⟩) a.out.s ?_
         (try dsimp only);try simp only[Act.put,aD,aB,aC,aA,aE,aF]
         refine wpAnyH_take (i:=10) (v:=(.int .i64 p.deep)) rfl (by kernel_rfl) (by kernel_rfl) (by kernel_rfl) (fun _ _ _ h=>h) (Or.inl ⟨by rfl,fun w z=>by obtain⟨I,-⟩:=z;go_simp⟩) a.out.s ?_
         (try dsimp only);try simp only[Act.put,aD,aB,aC,aA,aE,aF]
         refine wpAnyH_take (i:=11) (v:=(.bool false)) rfl (by kernel_rfl) (by kernel_rfl) (by kernel_rfl) (fun _ _ _ h=>h) (Or.inl ⟨by rfl,fun w z=>by go_simp⟩) a.out.s ?_
         (try dsimp only);try simp only[Act.put,aD,aB,aC,aA,aE,aF]
         refine wpAnyH_take (i:=12) (v:=(.bool false)) rfl (by kernel_rfl) (by kernel_rfl) (by kernel_rfl) (fun _ _ _ h=>h) (Or.inl ⟨by rfl,fun w z=>by go_simp⟩) a.out.s ?_
         (try dsimp only);try simp only[Act.put,aD,aB,aC,aA,aE,aF]
         refine wpAnyH_take (i:=13) (v:=(.bool false)) rfl (by kernel_rfl) (by kernel_rfl) (by kernel_rfl) (fun _ _ _ h=>h) (Or.inl ⟨by rfl,fun w z=>by go_simp⟩) a.out.s ?_
         (try dsimp only);try simp only[Act.put,aD,aB,aC,aA,aE,aF]
         refine wpAnyH_done (by kernel_rfl) ?_ _;obtain⟨g,j,k,l,m,n⟩:=a.out.t;obtain⟨o,q1,r,u,y⟩:=a.out.p.c;go_wp2
         all_goals exact⟨rfl,a.out.b,rfl⟩
       | false =>
         obtain rfl:v=25:=by rw[<- B];simp
         clear B;obtain⟨g,j,k,l,m,n⟩:=a.out.t;obtain⟨o,q1,r,u,y⟩:=a.out.p.c
         go_in
         go_wp2_with (first | (go_at_call 45;(with_reducible refine(C.out _).mono ?_);rintro e A ⟨rfl,d⟩;clear g j k l m n o q1 r u y;replace a:=aG (a.out.keep d);clear d;obtain⟨g,j,k,l,m,n⟩:=a.out.t;obtain⟨o,q1,r,u,y⟩:=a.out.p.c) | (go_at_call 45;(with_reducible refine(D.out _).mono ?_);rintro e A ⟨rfl,d⟩;clear g j k l m n o q1 r u y;replace a:=aG (a.out.keep d);clear d;obtain⟨g,j,k,l,m,n⟩:=a.out.t;obtain⟨o,q1,r,u,y⟩:=a.out.p.c) | (go_at_call 45;(with_reducible refine(E.out _).mono ?_);rintro e A ⟨rfl,d⟩;clear g j k l m n o q1 r u y;replace a:=aG (a.out.keep d);clear d;obtain⟨g,j,k,l,m,n⟩:=a.out.t;obtain⟨o,q1,r,u,y⟩:=a.out.p.c))
         clear g j k l m n o q1 r u y;refine wp_region_held_drew (S:=RfS W q p t) (by kernel_rfl) a.out.drew.s (fun _=>?_);replace a:=aG a.out.drew;refine wpAnyH_take (i:=0) (v:=(.agg #[.int .i64 t.kd,.string ⟨t.tx.toArray⟩,.float .f64 t.nm,.int .i64 t.f,.int .i64 t.t])) rfl (by kernel_rfl) (by kernel_rfl) (by kernel_rfl) (fun _ _ _ h=>h) (Or.inl ⟨by rfl,fun w z=>by obtain⟨-,-,I,s1,O,P,Q,-⟩:=z;go_simp⟩) a.out.s ?_
         (try dsimp only);try simp only[Act.put,aD,aB,aC,aA,aE,aF]
         refine wpAnyH_ready (rs:=[1]) (by kernel_rfl) (by simp) ?_;refine AllReadyH.cons rfl (fun K G=>?_) AllReadyH.nil;rw[if_pos (by rfl)]
         try go_simp
         go_at_call 45
         refine(F.out _).mono ?_;rintro e A ⟨rfl,d⟩;replace a:=aG (a.out.keep d);clear d;refine G.out _ _ a.out.s (fun _=>?_)
         (try dsimp only);try simp only[Act.put,aD,aB,aC,aA,aE,aF]
         refine wpAnyH_take (i:=2) (v:=(.bool false)) rfl (by kernel_rfl) (by kernel_rfl) (by kernel_rfl) (fun _ _ _ h=>h) (Or.inl ⟨by rfl,fun w z=>by go_simp⟩) a.out.s ?_
         (try dsimp only);try simp only[Act.put,aD,aB,aC,aA,aE,aF]
         refine wpAnyH_take (i:=3) (v:=undef) rfl (by kernel_rfl) (by kernel_rfl) (by kernel_rfl) (fun _ _ _ h=>h) (Or.inr ⟨by rfl,rfl⟩) a.out.s ?_
         (try dsimp only);try simp only[Act.put,aD,aB,aC,aA,aE,aF]
         refine wpAnyH_take (i:=4) (v:=undef) rfl (by kernel_rfl) (by kernel_rfl) (by kernel_rfl) (fun _ _ _ h=>h) (Or.inr ⟨by rfl,rfl⟩) a.out.s ?_
         (try dsimp only);try simp only[Act.put,aD,aB,aC,aA,aE,aF]
         refine wpAnyH_take (i:=5) (v:=undef) rfl (by kernel_rfl) (by kernel_rfl) (by kernel_rfl) (fun _ _ _ h=>h) (Or.inr ⟨by rfl,rfl⟩) a.out.s ?_
         (try dsimp only);try simp only[Act.put,aD,aB,aC,aA,aE,aF]
         refine wpAnyH_take (i:=6) (v:=undef) rfl (by kernel_rfl) (by kernel_rfl) (by kernel_rfl) (fun _ _ _ h=>h) (Or.inr ⟨by rfl,rfl⟩) a.out.s ?_
         (try dsimp only);try simp only[Act.put,aD,aB,aC,aA,aE,aF]
         refine wpAnyH_take (i:=7) (v:=undef) rfl (by kernel_rfl) (by kernel_rfl) (by kernel_rfl) (fun _ _ _ h=>h) (Or.inr ⟨by rfl,rfl⟩) a.out.s ?_
         (try dsimp only);try simp only[Act.put,aD,aB,aC,aA,aE,aF]
         refine wpAnyH_take (i:=8) (v:=undef) rfl (by kernel_rfl) (by kernel_rfl) (by kernel_rfl) (fun _ _ _ h=>h) (Or.inr ⟨by rfl,rfl⟩) a.out.s ?_
         (try dsimp only);try simp only[Act.put,aD,aB,aC,aA,aE,aF]
         refine wpAnyH_take (i:=9) (v:=undef) rfl (by kernel_rfl) (by kernel_rfl) (by kernel_rfl) (fun _ _ _ h=>h) (Or.inr ⟨by rfl,rfl⟩) a.out.s ?_
         (try dsimp only);try simp only[Act.put,aD,aB,aC,aA,aE,aF]
         refine wpAnyH_take (i:=10) (v:=undef) rfl (by kernel_rfl) (by kernel_rfl) (by kernel_rfl) (fun _ _ _ h=>h) (Or.inr ⟨by rfl,rfl⟩) a.out.s ?_
         (try dsimp only);try simp only[Act.put,aD,aB,aC,aA,aE,aF]
         refine wpAnyH_take (i:=11) (v:=undef) rfl (by kernel_rfl) (by kernel_rfl) (by kernel_rfl) (fun _ _ _ h=>h) (Or.inr ⟨by rfl,rfl⟩) a.out.s ?_
         (try dsimp only);try simp only[Act.put,aD,aB,aC,aA,aE,aF]
         refine wpAnyH_take (i:=12) (v:=(.bool false)) rfl (by kernel_rfl) (by kernel_rfl) (by kernel_rfl) (fun _ _ _ h=>h) (Or.inl ⟨by rfl,fun w z=>by go_simp⟩) a.out.s ?_
         (try dsimp only);try simp only[Act.put,aD,aB,aC,aA,aE,aF]
         refine wpAnyH_take (i:=13) (v:=(.bool false)) rfl (by kernel_rfl) (by kernel_rfl) (by kernel_rfl) (fun _ _ _ h=>h) (Or.inl ⟨by rfl,fun w z=>by go_simp⟩) a.out.s ?_
         (try dsimp only);try simp only[Act.put,aD,aB,aC,aA,aE,aF]
         refine wpAnyH_done (by kernel_rfl) ?_ _;obtain⟨g,j,k,l,m,n⟩:=a.out.t;obtain⟨o,q1,r,u,y⟩:=a.out.p.c;go_wp2
         all_goals exact⟨rfl,a.out.b,rfl⟩
end Go.Proofs.YtfblenhlildnaaaGreatDoor
