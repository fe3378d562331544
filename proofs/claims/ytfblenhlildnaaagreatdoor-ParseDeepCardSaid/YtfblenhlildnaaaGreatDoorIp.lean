/- Ip Iq Lw -/
import Derived.Test.YtfblenhlildnaaaGreatDoorIk
import Derived.Test.YtfblenhlildnaaaGreatDoorWr
import Derived.Deep.RegionHeld3
set_option maxRecDepth 100000
set_option maxHeartbeats 2000000
open Go.Lib renaming hid->aA
open Bool renaming and_eq_true->aB,false_and->aC,true_and->aD
namespace Go.Proofs.YtfblenhlildnaaaGreatDoor
open Go.Proofs.Tryz
open Go.RowKit
theorem Adt (T:List UInt8) (L:List (List UInt8)) (h:D2 [] T=L) (b:T.length<=140737488351232) (nm:List UInt8) (W:World) :
  Calls prog 104 #[.string ⟨T.toArray⟩,.string ⟨nm.toArray⟩] W fun e a=>e = .returned (.bool (L.contains nm))/\W=a:=by
 refine(FI ⟨T.toArray⟩ ⟨nm.toArray⟩ W (by simpa[ByteArray.size] using b)).mono ?_;rintro e a ⟨rfl,rfl⟩;refine⟨?_,rfl⟩;unfold Ts;rw[<- h]
section
variable {nx:Nat->Bool->Tk} {pl:Nat->Nat×Nat} {w0 W:World} {q:Nat} {s:ByteArray} {p:Rs}
def AdX (nx:Nat->Bool->Tk) (L:List (List UInt8)) (p:Rs):Bool:=decide (p.e=0)&&(decide ((nx p.a false).e=0)&&(decide ((nx p.a false).kd=9)&&L.contains (nx p.a false).tx))
theorem Aia (L:List (List UInt8)) (h:AdX nx L p=true):oneR nx pl L p = .ok (some ((nx p.a false).tx,pl (nx p.a false).f)) { p with a:=(nx p.a false).t }:=by
 unfold AdX at h;simp only[aB,decide_eq_true_eq] at h;unfold oneR;rw[if_pos h.1,if_pos ⟨h.2.1,h.2.2.1,h.2.2.2⟩]
theorem Ah' (L:List (List UInt8)) (h:AdX nx L p=false):oneR nx pl L p = .ok none p:=by
 unfold oneR;by_cases a:p.e=0
 ·rw[if_pos a,if_neg (fun c=>by unfold AdX at h;rw[decide_eq_true a,decide_eq_true c.1,decide_eq_true c.2.1,c.2.2] at h;cases h)]
 rw[if_neg a]
def Ah_ (nx:Nat->Bool->Tk) (pl:Nat->Nat×Nat) (L:List (List UInt8)) (p:Rs):Value:=if AdX nx L p=true then .tuple #[.string ⟨(nx p.a false).tx.toArray⟩,.complex .f64 (pl (nx p.a false).f).1 (pl (nx p.a false).f).2,.bool true] else .tuple #[.string ⟨#[]⟩,.complex .f64 0 0,.bool false]
def Aib (nx:Nat->Bool->Tk) (L:List (List UInt8)) (p:Rs):Rs:=if AdX nx L p=true then { p with a:=(nx p.a false).t } else p
set_option linter.unusedSimpArgs false in
theorem Agz (O:RxC nx s w0) (U:RlC pl s) (h:Rz w0 q s p W) (T:List UInt8) (L:List (List UInt8)) (V:D2 [] T=L) (X:T.length<=140737488351232) :
  Calls prog 115 #[.pointer (some ⟨q,0,none⟩),.string ⟨T.toArray⟩] W fun e Y=>e = .returned (Ah_ nx pl L p)/\Rz w0 q s (Aib nx L p) Y/\Ae q W Y:=by
 have c:=aA (Fr.start h);have N:=aA O;have HP:=aA U;have ha:=h.ha;have hd1:=h.d1;have a0:=h.d2;obtain⟨hf,ht⟩:=O.lim p.a false ha;have K:=O.ok p.a false ha;have J:=aA (fun W=>Adt T L V X (nx p.a false).tx W);obtain⟨j,k,l,m,n,c5,r⟩:=c.out.z.c6;clear h O U V X;unfold Ah_ Aib AdX;by_cases u:p.e=0
 ·rw[decide_eq_true u,aD]
  by_cases w:(nx p.a false).e=0
  ·rw[decide_eq_true w,aD]
   obtain⟨g1,g2,-,-⟩:=K w;have Q : -(((nx p.a false).t:Nat):Int)<=p.o:=(by omega);have R:p.o<=(((nx p.a false).t:Nat):Int):=(by omega);clear K;rcases Xt (nx p.a false).kd 9 with⟨M,-,b9⟩ | ⟨M,-,b9⟩
   ·rw[decide_eq_true M,aD];clear M
    generalize hb:L.contains (nx p.a false).tx=b at J ⊢;clear hb
    cases b with
    | true =>
      rw[if_pos rfl,if_pos rfl]
      go_in
      go_wp2_with (first | (go_at_call 27;(with_reducible refine(Abw c.out.z u).mono ?_);rintro e i ⟨rfl,rfl⟩) | (go_at_call 48;(with_reducible refine(Abz N.out c.out.z p.a ha w).mono ?_);rintro e i ⟨rfl,d⟩;replace c:=aA ((c.out.quiet d).box (.int .i64 (nx p.a false).kd) (.string ⟨(nx p.a false).tx.toArray⟩) (.float .f64 (nx p.a false).nm) (.int .i64 (nx p.a false).f) (.int .i64 (nx p.a false).t) 70);clear d;(try clear j k l m n c5 r);(try clear x y A B C D);(try clear n0 n1 n2 n3 n4 nf);(try clear o0 o1 o2 o3 o4 of);(try clear k0 k1 k2 k3 k4 kf);obtain⟨j,k,l,m,n,c5,r⟩:=c.out.z.c6;obtain⟨x,y,A,B,C,D⟩:=c.out.b0;unfold G1;have P:=aA (c.out.move (c.out.z.setA (nx p.a false).t ht Q R) ((Ae.refl q _).set 1 _)).drew;obtain⟨E,F,G,H,I,d0⟩:=P.out.b0) | (go_at_call 104;(with_reducible refine(J.out _).mono ?_);rintro e i ⟨rfl,rfl⟩))
      replace c:=P;have Z:=aA (AbY HP.out P.out.z (nx p.a false) hf);generalize S:i.heap.size=bx at E F G H I;clear S
      go_region_held3 (fun o=>o.cell? ⟨bx,0,none⟩=some (.int .i64 (nx p.a false).kd)/\o.cell? ⟨bx,1,none⟩=some (.string ⟨(nx p.a false).tx.toArray⟩)/\o.cell? ⟨bx,2,none⟩=some (.float .f64 (nx p.a false).nm)/\o.cell? ⟨bx,3,none⟩=some (.int .i64 (nx p.a false).f)/\o.cell? ⟨bx,4,none⟩=some (.int .i64 (nx p.a false).t)) (first | with_reducible exact⟨E,F,G,H,I⟩ | with_reducible exact⟨Aa E g,Aa F g,Aa G g,Aa H g,Aa I g⟩)
       (first | (go_at_call 109;refine Z.out.mono ?_;rintro e w3 ⟨rfl,g⟩))
      go_wp2;replace c:=aA (c.out.quiet g);exact bodyPost_ret (v:=.tuple #[.string ⟨(nx p.a false).tx.toArray⟩,.complex .f64 (pl (nx p.a false).f).1 (pl (nx p.a false).f).2,.bool true]) (by simp[results,results115,go_sem]<;>exact rfl) rfl ⟨rfl,c.out.z,c.out.o⟩
    | false =>
      rw[if_neg (by decide),if_neg (by decide)]
      go_in
      go_wp2_with (first | (go_at_call 27;(with_reducible refine(Abw c.out.z u).mono ?_);rintro e i ⟨rfl,rfl⟩) | (go_at_call 48;(with_reducible refine(Abz N.out c.out.z p.a ha w).mono ?_);rintro e i ⟨rfl,d⟩;replace c:=aA ((c.out.quiet d).box (.int .i64 (nx p.a false).kd) (.string ⟨(nx p.a false).tx.toArray⟩) (.float .f64 (nx p.a false).nm) (.int .i64 (nx p.a false).f) (.int .i64 (nx p.a false).t) 70);clear d;(try clear j k l m n c5 r);(try clear x y A B C D);(try clear n0 n1 n2 n3 n4 nf);(try clear o0 o1 o2 o3 o4 of);(try clear k0 k1 k2 k3 k4 kf);obtain⟨j,k,l,m,n,c5,r⟩:=c.out.z.c6;obtain⟨x,y,A,B,C,D⟩:=c.out.b0;unfold G1) | (go_at_call 104;(with_reducible refine(J.out _).mono ?_);rintro e i ⟨rfl,rfl⟩))
      exact bodyPost_ret (v:=.tuple #[.string ⟨#[]⟩,.complex .f64 0 0,.bool false]) (by simp[results,results115,go_sem]<;>exact rfl) rfl ⟨rfl,c.out.z,c.out.o⟩
   rw[decide_eq_false M,aC];clear M;rw[if_neg (by decide),if_neg (by decide)]
   go_in
   go_wp2_with (first | (go_at_call 27;(with_reducible refine(Abw c.out.z u).mono ?_);rintro e i ⟨rfl,rfl⟩) | (go_at_call 48;(with_reducible refine(Abz N.out c.out.z p.a ha w).mono ?_);rintro e i ⟨rfl,d⟩;replace c:=aA ((c.out.quiet d).box (.int .i64 (nx p.a false).kd) (.string ⟨(nx p.a false).tx.toArray⟩) (.float .f64 (nx p.a false).nm) (.int .i64 (nx p.a false).f) (.int .i64 (nx p.a false).t) 70);clear d;(try clear j k l m n c5 r);(try clear x y A B C D);(try clear n0 n1 n2 n3 n4 nf);(try clear o0 o1 o2 o3 o4 of);(try clear k0 k1 k2 k3 k4 kf);obtain⟨j,k,l,m,n,c5,r⟩:=c.out.z.c6;obtain⟨x,y,A,B,C,D⟩:=c.out.b0;unfold G1) | (go_at_call 104;(with_reducible refine(J.out _).mono ?_);rintro e i ⟨rfl,rfl⟩))
   exact bodyPost_ret (v:=.tuple #[.string ⟨#[]⟩,.complex .f64 0 0,.bool false]) (by simp[results,results115,go_sem]<;>exact rfl) rfl ⟨rfl,c.out.z,c.out.o⟩
  rw[decide_eq_false w,aC];rw[if_neg (by decide),if_neg (by decide)]
  go_in
  go_wp2_with (first | (go_at_call 27;(with_reducible refine(Abw c.out.z u).mono ?_);rintro e i ⟨rfl,rfl⟩) | (go_at_call 48;(with_reducible refine(Ac6 N.out c.out.z p.a ha w).mono ?_);rintro e i ⟨rfl,d⟩;replace c:=aA ((c.out.quiet d).box (.int .i64 (nx p.a false).kd) (.string ⟨(nx p.a false).tx.toArray⟩) (.float .f64 (nx p.a false).nm) (.int .i64 (nx p.a false).f) (.int .i64 (nx p.a false).t) 70);clear d;(try clear j k l m n c5 r);(try clear x y A B C D);(try clear n0 n1 n2 n3 n4 nf);(try clear o0 o1 o2 o3 o4 of);(try clear k0 k1 k2 k3 k4 kf);obtain⟨j,k,l,m,n,c5,r⟩:=c.out.z.c6;obtain⟨x,y,A,B,C,D⟩:=c.out.b0;unfold G1) | (go_at_call 104;(with_reducible refine(J.out _).mono ?_);rintro e i ⟨rfl,rfl⟩))
  exact bodyPost_ret (v:=.tuple #[.string ⟨#[]⟩,.complex .f64 0 0,.bool false]) (by simp[results,results115,go_sem]<;>exact rfl) rfl ⟨rfl,c.out.z,c.out.o⟩
 rw[decide_eq_false u,aC];rw[if_neg (by decide),if_neg (by decide)]
 go_in
 go_wp2_with (first | (go_at_call 27;(with_reducible refine(Acj c.out.z u).mono ?_);rintro e i ⟨rfl,rfl⟩))
 exact bodyPost_ret (v:=.tuple #[.string ⟨#[]⟩,.complex .f64 0 0,.bool false]) (by simp[results,results115,go_sem]<;>exact rfl) rfl ⟨rfl,c.out.z,c.out.o⟩
end
section
variable {nx:Nat->Bool->Tk} {pl:Nat->Nat×Nat} {w0 W:World} {q:Nat} {s:ByteArray} {p:Rs}
set_option linter.unusedSimpArgs false in
theorem AeV (H:RxC nx s w0) (h:Rz w0 q s p W) :
  Calls prog 239 #[.pointer (some ⟨q,0,none⟩)] W fun e I=>e = .returned (.bool (decide ((nx p.a false).e=0)&&(decide ((nx p.a false).kd=0\/(nx p.a false).kd=1)||(isS (nx p.a false) [59]||isS (nx p.a false) [125]))))/\Rz w0 q s p I/\Ae q W I:=by
 have c:=aA (Fr.start h);have D:=aA H;have ha:=h.ha;obtain⟨i,j,k,l,m,c5,n⟩:=c.out.z.c6;clear h H;obtain⟨t,A⟩:∃t,nx p.a false=t:=⟨_,rfl⟩;rw[A];replace A:=aA A;obtain⟨b,C⟩:∃b,decide (t.e=0)=b:=⟨_,rfl⟩;rw[C]
 cases b with
 | false =>
   rw[aC]
   go_in
   go_wp2_with (first | (go_at_call 48;(with_reducible refine(AbF D.out c.out.z p.a ha).mono ?_);rw[A.out,C];rintro e F ⟨rfl,d⟩;replace c:=aA ((c.out.quiet d).box (.int .i64 (t).kd) (.string ⟨(t).tx.toArray⟩) (.float .f64 (t).nm) (.int .i64 (t).f) (.int .i64 (t).t) 70);clear d;(try clear i j k l m c5 n);(try clear r u v w x y);(try clear n0 n1 n2 n3 n4 nf);(try clear o0 o1 o2 o3 o4 of);(try clear k0 k1 k2 k3 k4 kf);obtain⟨i,j,k,l,m,c5,n⟩:=c.out.z.c6;obtain⟨r,u,v,w,x,y⟩:=c.out.b0;unfold G1))
   go_ret;exact⟨rfl,c.out.z,c.out.o⟩
 | true =>
 rw[aD];rcases Xt t.kd 0 with⟨k0,b0,-⟩ | ⟨k0,b0,-⟩
 ·skip
  have g:(decide (t.kd=0\/t.kd=1)||(isS t [59]||isS t [125]))=true:=by unfold isS;simp[k0]
  rw[g];clear g k0
  go_in
  go_wp2_with (first | (go_at_call 48;(with_reducible refine(AbF D.out c.out.z p.a ha).mono ?_);rw[A.out,C];rintro e F ⟨rfl,d⟩;replace c:=aA ((c.out.quiet d).box (.int .i64 (t).kd) (.string ⟨(t).tx.toArray⟩) (.float .f64 (t).nm) (.int .i64 (t).f) (.int .i64 (t).t) 70);clear d;(try clear i j k l m c5 n);(try clear r u v w x y);(try clear n0 n1 n2 n3 n4 nf);(try clear o0 o1 o2 o3 o4 of);(try clear k0 k1 k2 k3 k4 kf);obtain⟨i,j,k,l,m,c5,n⟩:=c.out.z.c6;obtain⟨r,u,v,w,x,y⟩:=c.out.b0;unfold G1))
  go_ret;exact⟨rfl,c.out.z,c.out.o⟩
 skip
 rcases Xt t.kd 1 with⟨k1,b1,-⟩ | ⟨k1,b1,-⟩
 ·skip
  have g:(decide (t.kd=0\/t.kd=1)||(isS t [59]||isS t [125]))=true:=by unfold isS;simp[k1]
  rw[g];clear g k1
  go_in
  go_wp2_with (first | (go_at_call 48;(with_reducible refine(AbF D.out c.out.z p.a ha).mono ?_);rw[A.out,C];rintro e F ⟨rfl,d⟩;replace c:=aA ((c.out.quiet d).box (.int .i64 (t).kd) (.string ⟨(t).tx.toArray⟩) (.float .f64 (t).nm) (.int .i64 (t).f) (.int .i64 (t).t) 70);clear d;(try clear i j k l m c5 n);(try clear r u v w x y);(try clear n0 n1 n2 n3 n4 nf);(try clear o0 o1 o2 o3 o4 of);(try clear k0 k1 k2 k3 k4 kf);obtain⟨i,j,k,l,m,c5,n⟩:=c.out.z.c6;obtain⟨r,u,v,w,x,y⟩:=c.out.b0;unfold G1))
  go_ret;exact⟨rfl,c.out.z,c.out.o⟩
 skip
 rcases Xt t.kd 9 with⟨B,J,-⟩ | ⟨B,J,-⟩
 ·rcases J0 t.tx [59] with⟨E,K⟩ | ⟨E,K⟩
  ·skip
   have g:(decide (t.kd=0\/t.kd=1)||(isS t [59]||isS t [125]))=true:=by unfold isS;simp[k0,k1,B,E]
   rw[g];clear g k0 k1 B E
   go_in
   go_wp2_with (first | (go_at_call 48;(with_reducible refine(AbF D.out c.out.z p.a ha).mono ?_);rw[A.out,C];rintro e F ⟨rfl,d⟩;replace c:=aA ((c.out.quiet d).box (.int .i64 (t).kd) (.string ⟨(t).tx.toArray⟩) (.float .f64 (t).nm) (.int .i64 (t).f) (.int .i64 (t).t) 70);clear d;(try clear i j k l m c5 n);(try clear r u v w x y);(try clear n0 n1 n2 n3 n4 nf);(try clear o0 o1 o2 o3 o4 of);(try clear k0 k1 k2 k3 k4 kf);obtain⟨i,j,k,l,m,c5,n⟩:=c.out.z.c6;obtain⟨r,u,v,w,x,y⟩:=c.out.b0;unfold G1))
   go_ret;exact⟨rfl,c.out.z,c.out.o⟩
  rcases J0 t.tx [125] with⟨G,L⟩ | ⟨G,L⟩
  ·skip
   have g:(decide (t.kd=0\/t.kd=1)||(isS t [59]||isS t [125]))=true:=by unfold isS;simp[k0,k1,B,E,G]
   rw[g];clear g k0 k1 B E G
   go_in
   go_wp2_with (first | (go_at_call 48;(with_reducible refine(AbF D.out c.out.z p.a ha).mono ?_);rw[A.out,C];rintro e F ⟨rfl,d⟩;replace c:=aA ((c.out.quiet d).box (.int .i64 (t).kd) (.string ⟨(t).tx.toArray⟩) (.float .f64 (t).nm) (.int .i64 (t).f) (.int .i64 (t).t) 70);clear d;(try clear i j k l m c5 n);(try clear r u v w x y);(try clear n0 n1 n2 n3 n4 nf);(try clear o0 o1 o2 o3 o4 of);(try clear k0 k1 k2 k3 k4 kf);obtain⟨i,j,k,l,m,c5,n⟩:=c.out.z.c6;obtain⟨r,u,v,w,x,y⟩:=c.out.b0;unfold G1))
   go_ret;exact⟨rfl,c.out.z,c.out.o⟩
  skip
  have g:(decide (t.kd=0\/t.kd=1)||(isS t [59]||isS t [125]))=false:=by unfold isS;simp[k0,k1,B,E,G]
  rw[g];clear g k0 k1 B E G
  go_in
  go_wp2_with (first | (go_at_call 48;(with_reducible refine(AbF D.out c.out.z p.a ha).mono ?_);rw[A.out,C];rintro e F ⟨rfl,d⟩;replace c:=aA ((c.out.quiet d).box (.int .i64 (t).kd) (.string ⟨(t).tx.toArray⟩) (.float .f64 (t).nm) (.int .i64 (t).f) (.int .i64 (t).t) 70);clear d;(try clear i j k l m c5 n);(try clear r u v w x y);(try clear n0 n1 n2 n3 n4 nf);(try clear o0 o1 o2 o3 o4 of);(try clear k0 k1 k2 k3 k4 kf);obtain⟨i,j,k,l,m,c5,n⟩:=c.out.z.c6;obtain⟨r,u,v,w,x,y⟩:=c.out.b0;unfold G1))
  go_ret;exact⟨rfl,c.out.z,c.out.o⟩
 skip
 have g:(decide (t.kd=0\/t.kd=1)||(isS t [59]||isS t [125]))=false:=by unfold isS;simp[k0,k1,B]
 rw[g];clear g k0 k1 B
 go_in
 go_wp2_with (first | (go_at_call 48;(with_reducible refine(AbF D.out c.out.z p.a ha).mono ?_);rw[A.out,C];rintro e F ⟨rfl,d⟩;replace c:=aA ((c.out.quiet d).box (.int .i64 (t).kd) (.string ⟨(t).tx.toArray⟩) (.float .f64 (t).nm) (.int .i64 (t).f) (.int .i64 (t).t) 70);clear d;(try clear i j k l m c5 n);(try clear r u v w x y);(try clear n0 n1 n2 n3 n4 nf);(try clear o0 o1 o2 o3 o4 of);(try clear k0 k1 k2 k3 k4 kf);obtain⟨i,j,k,l,m,c5,n⟩:=c.out.z.c6;obtain⟨r,u,v,w,x,y⟩:=c.out.b0;unfold G1))
 go_ret;exact⟨rfl,c.out.z,c.out.o⟩
end
set_option linter.unusedSimpArgs false
set_option linter.unusedVariables false
def Ack (nx:Nat->Bool->Tk) (S:Nat):Prop:=∀a b,a<=S->(nx a b).e=0->a<=(nx a b).t/\(nx a b).t<=S/\((nx a b).kd≠0->a<(nx a b).t)
structure St (S a:Nat) (e:Int) (b:Prop) (s:Rs):Prop where
 l:a<=s.a
 r:s.a<=S
 c:s.e=0->e=0/\(b->a<s.a)
def MR {α:Type} (S a:Nat) (e:Int) (b:Prop) (o:RO α):Prop :=
 match o with
 | .hush=>True
 | .ok _ s=>St S a e b s
section
variable {nx:Nat->Bool->Tk} {pl:Nat->Nat×Nat} {S a:Nat} {e:Int} {b c:Prop} {α β:Type} {s s':Rs}
theorem St.start (h:s.a<=S):St S s.a s.e False s:=⟨Nat.le_refl _,h,fun e=>⟨e,fun d=>d.elim⟩⟩
theorem St.trans (h:St S a e b s) (g:St S s.a s.e c s'):St S a e (b\/c) s':=⟨Nat.le_trans h.l g.l,g.r,fun f=>by
 obtain⟨i,j⟩:=g.c f;obtain⟨k,m⟩:=h.c i
 exact⟨k,fun d=>d.elim (fun d=>Nat.lt_of_lt_of_le (m d) g.l) fun d=>Nat.lt_of_le_of_lt h.l (j d)⟩⟩
theorem St.weak (h:St S a e c s) (g:b->c):St S a e b s:=⟨h.l,h.r,fun f=>⟨(h.c f).1,fun d=>(h.c f).2 (g d)⟩⟩
theorem St.fail (h:St S a e c s) (f:s.e≠0):St S a e b s:=⟨h.l,h.r,fun d=>absurd d f⟩
theorem St.setg (h:St S a e b s) (g:Bool):St S a e b { s with g:=g }:=⟨h.l,h.r,h.c⟩
theorem St.same (h:St S a e b s) (d:s'.a=s.a) (g:s'.e=0->s.e=0):St S a e b s':=⟨by rw[d];exact h.l,by rw[d];exact h.r,fun f=>by rw[d];exact h.c (g f)⟩
theorem St.adv (h:St S a e b s) (t:Nat) (g:s.a<=t) (i:t<=S):St S a e b { s with a:=t }:=⟨Nat.le_trans h.l g,i,fun f=>⟨(h.c f).1,fun d=>Nat.lt_of_lt_of_le ((h.c f).2 d) g⟩⟩
theorem St.strict (h:St S a e b s) (f:a<s.a):St S a e True s:=⟨h.l,h.r,fun d=>⟨(h.c d).1,fun _=>f⟩⟩
theorem Ac' (b:Int) (f:Nat):(Abl pl b f s).a=s.a:=by unfold Abl;split<;>rfl
theorem Afn (t:Tk):(Abj pl t s).a=s.a:=by unfold Abj;split<;>exact Ac' _ _
theorem Adm (t:Tk):(Abj pl t s).e≠0:=by unfold Abj;split<;>exact AbK (by decide)
theorem St.failed (h:St S a e c s) (d:Int) (f:Nat) (i:d≠0):St S a e b (Abl pl d f s):=⟨by rw[Ac'];exact h.l,by rw[Ac'];exact h.r,fun g=>absurd g (AbK i)⟩
theorem St.wrong (h:St S a e c s) (t:Tk):St S a e b (Abj pl t s):=⟨by rw[Afn];exact h.l,by rw[Afn];exact h.r,fun d=>absurd d (Adm t)⟩
theorem MR.hush:MR S a e b (RO.hush:RO α):=trivial
theorem MR.ok {x:α} (h:St S a e b s):MR S a e b (RO.ok x s):=h
theorem MR.bind {o:RO α} {K:α->Rs->RO β} {c:Nat} {f:Int} {d:Prop} (h:MR S c f d o) (g:∀x s,St S c f d s->MR S a e b (K x s)):MR S a e b (o.bind K):=by
 cases o with
 | hush=>trivial
 | ok x s=>exact g x s h
theorem MR.tail {o:RO α} (g:St S a e c s) {d:Prop} (h:MR S s.a s.e d o) (f:b->c\/d):MR S a e b o:=by
 cases o with
 | hush=>trivial
 | ok x s'=>exact(g.trans h).weak f
theorem Aet (b:Bool):(if (nx s.a b).e=0 then s else Abl pl (nx s.a b).e (nx s.a b).f s).a=s.a/\((if (nx s.a b).e=0 then s else Abl pl (nx s.a b).e (nx s.a b).f s).e=0->s.e=0/\(nx s.a b).e=0):=by
 by_cases h:(nx s.a b).e=0
 ·rw[if_pos h];exact⟨rfl,fun e=>⟨e,h⟩⟩
 rw[if_neg h];exact⟨Ac' _ _,fun e=>absurd e (AbK h)⟩
theorem Afa (b:Bool) (s:Rs) (h:s.a<=S):MR S s.a s.e False (AbG nx pl b s):=(St.start h).same (Aet b).1 (fun e=>((Aet b).2 e).1)
theorem AeG (A:Ack nx S) (c:Bool) (s:Rs) (h:s.a<=S) {K:Tk->Rs->RO β} (d:∀s',s'.a=s.a->(s'.e=0->s.e=0)->(s'.e=0->s.a<=(nx s.a c).t/\(nx s.a c).t<=S/\((nx s.a c).kd≠0->s.a<(nx s.a c).t))->MR S a e b (K (nx s.a c) s')):MR S a e b ((AbG nx pl c s).bind K) :=
 d _ (Aet c).1 (fun e=>((Aet c).2 e).1) fun e=>A _ _ h ((Aet c).2 e).2
theorem AeF (x:List UInt8) (s:Rs) (h:s.a<=S):MR S s.a s.e False (isR nx x s):=St.start h
theorem Acx (b:Bool) (s:Rs) (h:s.a<=S):MR S s.a s.e False (Abo nx pl b s):=St.start h
theorem Ahv (s:Rs) (h:s.a<=S):MR S s.a s.e False (Ach nx s):=St.start h
theorem AgI (x:List UInt8) (t:Tk):(Abs pl x t s).a=t.t/\((Abs pl x t s).e=0->s.e=0):=by
 unfold Abs;split
 ·split
  ·exact⟨Ac' _ _,fun e=>absurd e (AbK (by decide))⟩
  exact⟨rfl,id⟩
 split
 ·exact⟨rfl,id⟩
 exact⟨rfl,id⟩
theorem Af4 {x:List UInt8} {t:Tk} (h:AbN x t=true):t.kd≠0:=by
 unfold AbN at h;simp only[aB,Bool.or_eq_true,decide_eq_true_eq] at h;rcases h.1 with h | h<;>rw[h]<;>decide
theorem Adj (A:Ack nx S) (x:List UInt8) (s:Rs) (h:s.a<=S):MR S s.a s.e False (takeR nx pl x s)/\∀s',takeR nx pl x s = .ok true s'->s.a<s'.a:=by
 unfold takeR isR;simp only[RO.bind];by_cases c:(decide (s.e=0)&&(decide ((nx s.a false).e=0)&&AbN x (nx s.a false)))=true
 ·rw[if_pos c]
  simp only[aB,decide_eq_true_eq] at c;obtain⟨g,i,j⟩:=A _ _ h c.2.1;have k:=j (Af4 c.2.2);obtain⟨b,f⟩:=AgI (pl:=pl) (s:=s) x (nx s.a false);exact⟨⟨by rw[b];exact g,by rw[b];exact i,fun e=>⟨f e,fun d=>d.elim⟩⟩,fun s' e=>by injection e with _ e;rw[<- e,b];exact k⟩
 rw[if_neg c];exact⟨St.start h,fun s' e=>by injection e with e _;cases e⟩
theorem AcK (A:Ack nx S) (x:List UInt8) (s:Rs) (h:s.a<=S):MR S s.a s.e False (takeR nx pl x s):=(Adj A x s h).1
theorem AbW (A:Ack nx S) (x:List UInt8) (s:Rs) (h:s.a<=S):MR S s.a s.e False (wantR nx pl x s):=by
 have b:=St.start h;unfold wantR;split
 ·refine MR.bind (AcK A _ _ h) fun _ s g=>?_
  replace b:=b.trans g;clear g;split
  ·exact MR.ok (b.weak (by simp))
  refine MR.bind (Afa _ _ b.r) fun _ s g=>?_;replace b:=b.trans g;split
  ·exact MR.ok (b.wrong _)
  exact MR.ok (b.weak (by simp))
 exact MR.ok b
theorem Ab0 (A:Ack nx S) (x:List UInt8):∀(n:Nat) (s:Rs),s.a<=S->MR S s.a s.e False (linesR nx x n s)
 | 0,_,_=>trivial
 | n+1,s,h=>by
   rw[linesR];split
   ·split
    ·rename_i c
     obtain⟨d,f,-⟩:=A _ _ h c.1;have b:=(St.start h).adv _ d f;exact MR.tail b (Ab0 A x n _ b.r) (by simp)
    exact MR.ok (St.start h)
   exact MR.ok (St.start h)
theorem Agp (A:Ack nx S) (s:Rs) (h:s.a<=S):MR S s.a s.e False (nameR nx pl s):=by
 have b:=St.start h;unfold nameR;refine AeG A _ _ h fun s' f j k=>?_;replace b:=b.same f j;split
 ·rename_i c
  split
  ·rename_i d;exact absurd d (Adm _)
  exact MR.ok (b.wrong _)
 split
 ·rename_i d
  obtain⟨g,i,-⟩:=k d;exact MR.ok (b.adv _ (by rw[f];exact g) i)
 exact MR.ok b
theorem Ab' (A:Ack nx S) (L:List (List UInt8)) (s:Rs) (h:s.a<=S):MR S s.a s.e False (oneR nx pl L s):=by
 unfold oneR;split
 ·split
  ·rename_i c
   obtain⟨b,d,-⟩:=A _ _ h c.1;exact MR.ok ((St.start h).adv _ b d)
  exact MR.ok (St.start h)
 exact MR.ok (St.start h)
theorem Ah7 (s:Rs) (h:s.a<=S):MR S s.a s.e False (goesR nx pl s):=by
 have b:=St.start h;unfold goesR;split
 ·split
  ·exact MR.ok b
  refine MR.bind (Afa _ _ h) fun _ s g=>?_;exact MR.ok ((b.trans g).weak (by simp))
 exact MR.ok b
end
def stR:RT->Prop
 | .orL _=>False | .andL _=>False | .innL _=>False | .matL _=>False | .catL _=>False | .sumL _=>False | .prodL _=>False | .listL _=>False | .args _ _=>False | _=>True
def AiO (S:Nat) (s:Rs):RT->Prop
 | .call t=>s.a<t.t/\t.t<=S
 | _=>True
theorem AeH {nx:Nat->Bool->Tk} {pl:Nat->Nat×Nat} {ere:List UInt8->Option Bool} {S:Nat} (A:Ack nx S):∀(n:Nat) (k:RT) (s:Rs),AiO S s k->s.a<=S->MR S s.a s.e (stR k) (B0 nx pl ere n k s)
 | 0,_,_,_,_=>trivial
 | n+1,k,s,hk,h=>by
   have d:=AeH (pl:=pl) (ere:=ere) A n;have b:=St.start (S:=S) h
   cases k with
   | expr =>
     simp only[B0];refine MR.bind (d .cond _ trivial b.r) fun _ s g=>?_;replace b:=b.trans g;clear g;split
     ·exact MR.ok (b.weak (by simp[stR]))
     refine MR.bind (Ab' A _ _ b.r) fun _ s g=>?_;replace b:=b.trans g;clear g;split
     ·exact MR.ok (b.weak (by simp[stR]))
     refine MR.bind (d .expr _ trivial b.r) fun _ s g=>?_;replace b:=b.trans g;clear g;exact MR.ok (b.weak (by simp[stR]))
   | cond =>
     simp only[B0];refine MR.bind (d .or _ trivial b.r) fun _ s g=>?_;replace b:=b.trans g;clear g;refine MR.bind (Ab' A _ _ b.r) fun _ s g=>?_;replace b:=b.trans g;clear g;split
     ·exact MR.ok (b.weak (by simp[stR]))
     refine MR.bind (d .expr _ trivial b.r) fun _ s g=>?_;replace b:=b.trans g;clear g;refine MR.bind (AbW A _ _ b.r) fun _ s g=>?_;replace b:=b.trans g;clear g;refine MR.bind (d .expr _ trivial b.r) fun _ s g=>?_;replace b:=b.trans g;clear g;exact MR.ok (b.weak (by simp[stR]))
   | or =>
     simp only[B0];refine MR.bind (d .and _ trivial b.r) fun _ s g=>?_;replace b:=b.trans g;clear g;exact MR.tail b (d (.orL _) _ trivial b.r) (by simp[stR])
   | orL y =>
     simp only[B0];refine MR.bind (Ab' A _ _ b.r) fun _ s g=>?_;replace b:=b.trans g;clear g;split
     ·exact MR.ok (b.weak (by simp[stR]))
     refine MR.bind (Ab0 A _ _ _ b.r) fun _ s g=>?_;replace b:=b.trans g;clear g;refine MR.bind (d .and _ trivial b.r) fun _ s g=>?_;replace b:=b.trans g;clear g;exact MR.tail b (d (.orL _) _ trivial b.r) (by simp[stR])
   | and =>
     simp only[B0];refine MR.bind (d .inn _ trivial b.r) fun _ s g=>?_;replace b:=b.trans g;clear g;exact MR.tail b (d (.andL _) _ trivial b.r) (by simp[stR])
   | andL y =>
     simp only[B0];refine MR.bind (Ab' A _ _ b.r) fun _ s g=>?_;replace b:=b.trans g;clear g;split
     ·exact MR.ok (b.weak (by simp[stR]))
     refine MR.bind (Ab0 A _ _ _ b.r) fun _ s g=>?_;replace b:=b.trans g;clear g;refine MR.bind (d .inn _ trivial b.r) fun _ s g=>?_;replace b:=b.trans g;clear g;exact MR.tail b (d (.andL _) _ trivial b.r) (by simp[stR])
   | inn =>
     simp only[B0];refine MR.bind (d .mat _ trivial b.r) fun _ s g=>?_;replace b:=b.trans g;clear g;exact MR.tail b (d (.innL _) _ trivial b.r) (by simp[stR])
   | innL y =>
     simp only[B0];refine MR.bind (AeF _ _ b.r) fun _ s g=>?_;replace b:=b.trans g;clear g;split
     ·refine MR.bind (Acx _ _ b.r) fun _ s g=>?_
      replace b:=b.trans g;clear g;refine MR.bind (AcK A _ _ b.r) fun _ s g=>?_;replace b:=b.trans g;clear g;refine MR.bind (Agp A _ b.r) fun _ s g=>?_;replace b:=b.trans g;clear g;exact MR.tail b (d (.innL _) _ trivial b.r) (by simp[stR])
     exact MR.ok (b.weak (by simp[stR]))
   | mat =>
     simp only[B0];refine MR.bind (d .cmp _ trivial b.r) fun _ s g=>?_;replace b:=b.trans g;clear g;exact MR.tail b (d (.matL _) _ trivial b.r) (by simp[stR])
   | matL y =>
     simp only[B0];refine MR.bind (Ab' A _ _ b.r) fun _ s g=>?_;replace b:=b.trans g;clear g;split
     ·exact MR.ok (b.weak (by simp[stR]))
     refine MR.bind (d .cmp _ trivial b.r) fun _ s g=>?_;replace b:=b.trans g;clear g;exact MR.tail b (d (.matL _) _ trivial b.r) (by simp[stR])
   | cmp =>
     simp only[B0];refine MR.bind (d .cat _ trivial b.r) fun _ s g=>?_;replace b:=b.trans g;clear g;refine MR.bind (Ab' A _ _ b.r) fun _ s g=>?_;replace b:=b.trans g;clear g;split
     ·exact MR.ok (b.weak (by simp[stR]))
     refine MR.bind (d .cat _ trivial b.r) fun _ s g=>?_;replace b:=b.trans g;clear g;exact MR.ok (b.weak (by simp[stR]))
   | cat =>
     simp only[B0];refine MR.bind (d .sum _ trivial b.r) fun _ s g=>?_;replace b:=b.trans g;clear g;exact MR.tail b (d (.catL _) _ trivial b.r) (by simp[stR])
   | catL y =>
     simp only[B0];refine MR.bind (Ah7 _ b.r) fun _ s g=>?_;replace b:=b.trans g;clear g;split
     ·refine MR.bind (d .sum _ trivial b.r) fun _ s g=>?_
      replace b:=b.trans g;clear g;exact MR.tail b (d (.catL _) _ trivial b.r) (by simp[stR])
     exact MR.ok (b.weak (by simp[stR]))
   | sum =>
     simp only[B0];refine MR.bind (d .prod _ trivial b.r) fun _ s g=>?_;replace b:=b.trans g;clear g;exact MR.tail b (d (.sumL _) _ trivial b.r) (by simp[stR])
   | sumL y =>
     simp only[B0];refine MR.bind (Ab' A _ _ b.r) fun _ s g=>?_;replace b:=b.trans g;clear g;split
     ·exact MR.ok (b.weak (by simp[stR]))
     refine MR.bind (d .prod _ trivial b.r) fun _ s g=>?_;replace b:=b.trans g;clear g;exact MR.tail b (d (.sumL _) _ trivial b.r) (by simp[stR])
   | prod =>
     simp only[B0];refine MR.bind (d .unary _ trivial b.r) fun _ s g=>?_;replace b:=b.trans g;clear g;exact MR.tail b (d (.prodL _) _ trivial b.r) (by simp[stR])
   | prodL y =>
     simp only[B0];refine MR.bind (Ab' A _ _ b.r) fun _ s g=>?_;replace b:=b.trans g;clear g;split
     ·exact MR.ok (b.weak (by simp[stR]))
     refine MR.bind (d .unary _ trivial b.r) fun _ s g=>?_;replace b:=b.trans g;clear g;exact MR.tail b (d (.prodL _) _ trivial b.r) (by simp[stR])
   | unary =>
     simp only[B0];refine MR.bind (Ab' A _ _ b.r) fun _ s g=>?_;replace b:=b.trans g;clear g;split
     ·exact MR.tail b (d .power _ trivial b.r) (by simp[stR])
     refine MR.bind (d .unary _ trivial b.r) fun _ s g=>?_;replace b:=b.trans g;clear g;exact MR.ok (b.weak (by simp[stR]))
   | power =>
     simp only[B0];refine MR.bind (d .post _ trivial b.r) fun _ s g=>?_;replace b:=b.trans g;clear g;refine MR.bind (Ab' A _ _ b.r) fun _ s g=>?_;replace b:=b.trans g;clear g;split
     ·exact MR.ok (b.weak (by simp[stR]))
     refine MR.bind (d .unary _ trivial b.r) fun _ s g=>?_;replace b:=b.trans g;clear g;exact MR.ok (b.weak (by simp[stR]))
   | post =>
     simp only[B0];refine MR.bind (d .primary _ trivial b.r) fun _ s g=>?_;replace b:=b.trans g;clear g;split
     ·exact MR.ok (b.weak (by simp[stR]))
     refine MR.bind (Ab' A _ _ b.r) fun _ s g=>?_;replace b:=b.trans g;clear g;split
     iterate 2
      focus
       exact MR.ok (b.weak (by simp[stR]))
   | primary =>
     simp only[B0];split
     ·exact MR.ok (b.fail (by assumption))
     refine MR.bind (Ab' A _ _ b.r) fun _ s g=>?_;replace b:=b.trans g;clear g;split
     ·refine MR.bind (d .lval _ trivial b.r) fun _ s g=>?_
      replace b:=b.trans g;clear g;exact MR.ok (b.weak (by simp[stR]))
     refine MR.bind (AeF _ _ b.r) fun _ s g=>?_;replace b:=b.trans g;clear g;split
     ·refine MR.bind (AcK A _ _ (b.setg false).r) fun _ s g=>?_
      replace b:=(b.setg false).trans g;clear g;refine MR.bind (d .expr _ trivial b.r) fun _ s g=>?_;replace b:=b.trans g;clear g;refine MR.bind (d (.listL _) _ trivial b.r) fun _ s g=>?_;replace b:=b.trans g;clear g;refine MR.bind (AbW A _ _ b.r) fun _ s g=>?_;replace b:=b.trans g;clear g;split
      ·exact MR.ok ((b.setg _).weak (by simp[stR]))
      refine MR.bind (Acx _ _ (b.setg _).r) fun _ s g=>?_;replace b:=(b.setg _).trans g;clear g;refine MR.bind (AbW A _ _ b.r) fun _ s g=>?_;replace b:=b.trans g;clear g;refine MR.bind (Agp A _ b.r) fun _ s g=>?_;replace b:=b.trans g;clear g;exact MR.ok (b.weak (by simp[stR]))
     exact MR.tail b (d .operand _ trivial b.r) (by simp[stR])
   | lval =>
     simp only[B0];split
     ·exact MR.ok (b.fail (by assumption))
     split
     ·exact MR.tail b (d .operand _ trivial b.r) (by simp[stR])
     refine MR.bind (Afa _ _ b.r) fun _ s g=>?_;replace b:=b.trans g;clear g;refine MR.ok ?_;split
     ·exact b.wrong _
     exact b.fail (by assumption)
   | operand =>
     simp only[B0];refine AeG A _ _ b.r fun s i q u=>?_;replace b:=b.same i q;clear q;split
     ·exact MR.ok (b.fail (by assumption))
     obtain⟨m,l,p⟩:=u (Decidable.not_not.1 ‹_›);clear u;split
     ·rename_i c
      exact MR.ok ((b.adv _ (by rw[i];exact m) l).strict (p (by rw[c];decide)))
     split
     ·rename_i c
      have f:=p (by rw[c];decide);refine MR.ok ?_;split
      ·exact(b.adv _ (by rw[i];exact m) l).failed _ _ (by decide)
      exact(b.adv _ (by rw[i];exact m) l).strict f
     split
     ·rename_i c
      have f:=p (by rw[c];decide);split
      ·exact MR.ok ((b.adv _ (by rw[i];exact m) l).strict f)
      ·exact MR.ok ((b.adv _ (by rw[i];exact m) l).failed _ _ (by decide))
      exact MR.hush
     split
     ·rename_i c
      have f:=p (by rw[c];decide);replace b:=(b.adv _ (by rw[i];exact m) l).strict f;refine MR.bind (AcK A _ _ b.r) fun _ s g=>?_;replace b:=b.trans g;clear g;split
      ·refine MR.bind (d (.inside _) _ trivial b.r) fun _ s g=>?_
       replace b:=b.trans g;clear g;exact MR.ok (b.weak (by simp))
      exact MR.ok (b.weak (by simp))
     split
     ·rename_i c
      exact MR.tail b (d (.call _) _ ⟨by rw[i];exact p (by rcases c with c | c<;>rw[c]<;>decide),l⟩ b.r) (by simp[stR])
     split
     ·rename_i c
      have f:=p (by unfold isS at c;simp only[aB,decide_eq_true_eq] at c;rw[c.1];decide);replace b:=(b.adv _ (by rw[i];exact m) l).strict f;refine MR.bind (d .dollar _ trivial b.r) fun _ s g=>?_;replace b:=b.trans g;clear g;exact MR.ok (b.weak (by simp))
     exact MR.ok (b.wrong _)
   | call t =>
     simp only[B0];have f:=hk.1;have o:=(b.adv t.t (Nat.le_of_lt f) hk.2).strict f;split
     ·exact MR.ok (b.failed _ _ (by decide))
     split
     ·replace b:=o
      refine MR.bind (AeF _ _ b.r) fun _ s g=>?_;replace b:=b.trans g;clear g;split
      ·exact MR.tail b (d (.args _ _) _ trivial b.r) (by simp)
      exact MR.ok (b.weak (by simp))
     exact MR.tail o (d (.args _ _) _ trivial o.r) (by simp)
   | args y t =>
     simp only[B0];refine MR.bind (AbW A _ _ b.r) fun _ s g=>?_;replace b:=b.trans g;clear g;refine MR.bind (AeF _ _ b.r) fun _ s g=>?_;replace b:=b.trans g;clear g;split
     ·refine MR.bind (AbW A _ _ b.r) fun _ s g=>?_
      replace b:=b.trans g;clear g;exact MR.ok (b.weak (by simp[stR]))
     refine MR.bind (d (.list _) _ trivial b.r) fun _ s g=>?_;replace b:=b.trans g;clear g;refine MR.bind (AbW A _ _ b.r) fun _ s g=>?_;replace b:=b.trans g;clear g;exact MR.ok (b.weak (by simp[stR]))
   | dollar =>
     simp only[B0];refine MR.bind (Ab' A _ _ b.r) fun _ s g=>?_;replace b:=b.trans g;clear g;split
     ·refine MR.bind (d .lval _ trivial b.r) fun _ s g=>?_
      replace b:=b.trans g;clear g;exact MR.ok (b.weak (by simp[stR]))
     refine MR.bind (AeF _ _ b.r) fun _ s g=>?_;replace b:=b.trans g;clear g;split
     ·refine MR.bind (d .round _ trivial (b.setg false).r) fun _ s g=>?_
      replace b:=(b.setg false).trans g;exact MR.ok ((b.setg _).weak (by simp[stR]))
     exact MR.tail b (d .operand _ trivial b.r) (by simp[stR])
   | round =>
     simp only[B0];refine MR.bind (AbW A _ _ b.r) fun _ s g=>?_;replace b:=b.trans g;clear g;refine MR.bind (d .expr _ trivial b.r) fun _ s g=>?_;replace b:=b.trans g;clear g;refine MR.bind (AbW A _ _ b.r) fun _ s g=>?_;replace b:=b.trans g;clear g;exact MR.ok (b.weak (by simp[stR]))
   | list v =>
     simp only[B0];refine MR.bind (d .expr _ trivial (b.setg _).r) fun _ s g=>?_;replace b:=(b.setg _).trans g;refine MR.bind (d (.listL _) _ trivial b.r) fun _ s g=>?_;replace b:=b.trans g;clear g;exact MR.ok ((b.setg _).weak (by simp[stR]))
   | listL y =>
     simp only[B0];split
     ·exact MR.ok (b.weak (by simp[stR]))
     refine MR.bind (AcK A _ _ b.r) fun _ s g=>?_;replace b:=b.trans g;clear g;split
     ·refine MR.bind (Ab0 A _ _ _ b.r) fun _ s g=>?_
      replace b:=b.trans g;clear g;refine MR.bind (d .expr _ trivial b.r) fun _ s g=>?_;replace b:=b.trans g;clear g;exact MR.tail b (d (.listL _) _ trivial b.r) (by simp[stR])
     exact MR.ok (b.weak (by simp[stR]))
   | inside x =>
     simp only[B0];refine MR.bind (d (.list _) _ trivial b.r) fun _ s g=>?_;replace b:=b.trans g;clear g;refine MR.bind (AbW A _ _ b.r) fun _ s g=>?_;replace b:=b.trans g;clear g;exact MR.ok (b.weak (by simp[stR]))
   | outs =>
     simp only[B0];have j:=b;refine MR.bind (AcK A _ _ b.r) fun _ s g=>?_;replace b:=b.trans g;clear g;split
     ·refine MR.bind (d (.list _) _ trivial b.r) fun _ s g=>?_
      replace b:=b.trans g;clear g;refine MR.bind (AbW A _ _ b.r) fun _ s g=>?_;replace b:=b.trans g;clear g;refine MR.bind (Ahv _ b.r) fun _ s g=>?_;replace b:=b.trans g;clear g;split
      ·exact MR.ok (b.weak (by simp[stR]))
      refine MR.bind (d (.list _) _ trivial (j.setg _).r) fun _ s g=>?_;exact MR.ok ((((j.setg _).trans g).setg _).weak (by simp[stR]))
     refine MR.bind (d (.list _) _ trivial (j.setg _).r) fun _ s g=>?_;exact MR.ok ((((j.setg _).trans g).setg _).weak (by simp[stR]))
end Go.Proofs.YtfblenhlildnaaaGreatDoor
