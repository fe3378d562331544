/- Ir Is Li Ln -/
import Derived.Test.YtfblenhlildnaaaGreatDoorIp
set_option maxRecDepth 100000
set_option maxHeartbeats 2000000
open Go.Lib renaming hid->aA
open Bool renaming false_and->aB,true_and->aC
namespace Go.Proofs.YtfblenhlildnaaaGreatDoor
open Go.Proofs.Tryz
open Go.RowKit
section
variable {nx:Nat->Bool->Tk} {pl:Nat->Nat×Nat} {w0 W:World} {q:Nat} {s:ByteArray} {p:Rs}
def Ab2 (t:Tk):Bool:=decide (t.kd=2\/t.kd=3\/t.kd=5\/t.kd=6\/t.kd=7)||(decide (t.kd=9)&&[[36],[40],[43,43],[45,45]].contains t.tx)
theorem Ahq:goesR nx pl p = .ok (decide (p.e=0)&&(decide ((nx p.a false).e=0)&&Ab2 (nx p.a false))) (if p.e=0 then AbL pl (nx p.a false) p else p):=by
 unfold goesR;by_cases b:p.e=0
 ·rw[if_pos b,if_pos b,decide_eq_true b,aC]
  by_cases c:(nx p.a false).e=0
  ·rw[if_pos c,decide_eq_true c,aC];unfold AbL;rw[if_pos c];rfl
  rw[if_neg c,decide_eq_false c,aB,Ad2];rfl
 rw[if_neg b,if_neg b,decide_eq_false b,aB]
set_option linter.unusedSimpArgs false in
theorem AfP (O:RxC nx s w0) (P:RlC pl s) (h:Rz w0 q s p W) :
  Calls prog 283 #[.pointer (some ⟨q,0,none⟩)] W fun e Q=>e = .returned (.bool (decide (p.e=0)&&(decide ((nx p.a false).e=0)&&Ab2 (nx p.a false))))/\Rz w0 q s (if p.e=0 then AbL pl (nx p.a false) p else p) Q/\Ae q W Q:=by
 have b:=aA (Fr.start h);have F:=aA O;have R:=aA P;have ha:=h.ha;obtain⟨i,j,k,l,m,c5,n⟩:=b.out.z.c6;clear h O P;have M:=aA (fun W=>Adt [36,32,40,32,43,43,32,45,45] _ rfl (by decide) (nx p.a false).tx W);rw[show D2 [] [36,32,40,32,43,43,32,45,45]=[[36],[40],[43,43],[45,45]] by kernel_rfl] at M;by_cases D:p.e=0
 ·rw[if_pos D,decide_eq_true D,aC]
  by_cases E:(nx p.a false).e=0
  ·have N:AbL pl (nx p.a false) p=p:=by unfold AbL;rw[if_pos E]
   rw[N,decide_eq_true E,aC];clear N;rcases Xt (nx p.a false).kd 2 with⟨B,b2,-⟩ | ⟨B,b2,-⟩
   ·skip
    have g:Ab2 (nx p.a false)=true:=by unfold Ab2;simp[B]
    rw[g];clear g B
    go_in
    go_wp2_with (first | (go_at_call 27;(with_reducible refine(Abw b.out.z D).mono ?_);rintro e r ⟨rfl,rfl⟩) | (go_at_call 48;(with_reducible refine(Abz F.out b.out.z p.a ha E).mono ?_);rintro e r ⟨rfl,d⟩;replace b:=aA ((b.out.quiet d).box (.int .i64 (nx p.a false).kd) (.string ⟨(nx p.a false).tx.toArray⟩) (.float .f64 (nx p.a false).nm) (.int .i64 (nx p.a false).f) (.int .i64 (nx p.a false).t) 70);clear d;(try clear i j k l m c5 n);(try clear u v w x y A);(try clear n0 n1 n2 n3 n4 nf);(try clear o0 o1 o2 o3 o4 of);(try clear k0 k1 B C k4 kf);obtain⟨i,j,k,l,m,c5,n⟩:=b.out.z.c6;obtain⟨u,v,w,x,y,A⟩:=b.out.b0;unfold G1))
    go_ret;exact⟨rfl,b.out.z,b.out.o⟩
   skip
   rcases Xt (nx p.a false).kd 3 with⟨C,b3,-⟩ | ⟨C,b3,-⟩
   ·skip
    have g:Ab2 (nx p.a false)=true:=by unfold Ab2;simp[C]
    rw[g];clear g C
    go_in
    go_wp2_with (first | (go_at_call 27;(with_reducible refine(Abw b.out.z D).mono ?_);rintro e r ⟨rfl,rfl⟩) | (go_at_call 48;(with_reducible refine(Abz F.out b.out.z p.a ha E).mono ?_);rintro e r ⟨rfl,d⟩;replace b:=aA ((b.out.quiet d).box (.int .i64 (nx p.a false).kd) (.string ⟨(nx p.a false).tx.toArray⟩) (.float .f64 (nx p.a false).nm) (.int .i64 (nx p.a false).f) (.int .i64 (nx p.a false).t) 70);clear d;(try clear i j k l m c5 n);(try clear u v w x y A);(try clear n0 n1 n2 n3 n4 nf);(try clear o0 o1 o2 o3 o4 of);(try clear k0 k1 B C k4 kf);obtain⟨i,j,k,l,m,c5,n⟩:=b.out.z.c6;obtain⟨u,v,w,x,y,A⟩:=b.out.b0;unfold G1))
    go_ret;exact⟨rfl,b.out.z,b.out.o⟩
   skip
   rcases Xt (nx p.a false).kd 5 with⟨G,S,-⟩ | ⟨G,S,-⟩
   ·skip
    have g:Ab2 (nx p.a false)=true:=by unfold Ab2;simp[G]
    rw[g];clear g G
    go_in
    go_wp2_with (first | (go_at_call 27;(with_reducible refine(Abw b.out.z D).mono ?_);rintro e r ⟨rfl,rfl⟩) | (go_at_call 48;(with_reducible refine(Abz F.out b.out.z p.a ha E).mono ?_);rintro e r ⟨rfl,d⟩;replace b:=aA ((b.out.quiet d).box (.int .i64 (nx p.a false).kd) (.string ⟨(nx p.a false).tx.toArray⟩) (.float .f64 (nx p.a false).nm) (.int .i64 (nx p.a false).f) (.int .i64 (nx p.a false).t) 70);clear d;(try clear i j k l m c5 n);(try clear u v w x y A);(try clear n0 n1 n2 n3 n4 nf);(try clear o0 o1 o2 o3 o4 of);(try clear k0 k1 B C k4 kf);obtain⟨i,j,k,l,m,c5,n⟩:=b.out.z.c6;obtain⟨u,v,w,x,y,A⟩:=b.out.b0;unfold G1))
    go_ret;exact⟨rfl,b.out.z,b.out.o⟩
   skip
   rcases Xt (nx p.a false).kd 6 with⟨H,T,-⟩ | ⟨H,T,-⟩
   ·skip
    have g:Ab2 (nx p.a false)=true:=by unfold Ab2;simp[H]
    rw[g];clear g H
    go_in
    go_wp2_with (first | (go_at_call 27;(with_reducible refine(Abw b.out.z D).mono ?_);rintro e r ⟨rfl,rfl⟩) | (go_at_call 48;(with_reducible refine(Abz F.out b.out.z p.a ha E).mono ?_);rintro e r ⟨rfl,d⟩;replace b:=aA ((b.out.quiet d).box (.int .i64 (nx p.a false).kd) (.string ⟨(nx p.a false).tx.toArray⟩) (.float .f64 (nx p.a false).nm) (.int .i64 (nx p.a false).f) (.int .i64 (nx p.a false).t) 70);clear d;(try clear i j k l m c5 n);(try clear u v w x y A);(try clear n0 n1 n2 n3 n4 nf);(try clear o0 o1 o2 o3 o4 of);(try clear k0 k1 B C k4 kf);obtain⟨i,j,k,l,m,c5,n⟩:=b.out.z.c6;obtain⟨u,v,w,x,y,A⟩:=b.out.b0;unfold G1))
    go_ret;exact⟨rfl,b.out.z,b.out.o⟩
   skip
   rcases Xt (nx p.a false).kd 7 with⟨I,U,-⟩ | ⟨I,U,-⟩
   ·skip
    have g:Ab2 (nx p.a false)=true:=by unfold Ab2;simp[I]
    rw[g];clear g I
    go_in
    go_wp2_with (first | (go_at_call 27;(with_reducible refine(Abw b.out.z D).mono ?_);rintro e r ⟨rfl,rfl⟩) | (go_at_call 48;(with_reducible refine(Abz F.out b.out.z p.a ha E).mono ?_);rintro e r ⟨rfl,d⟩;replace b:=aA ((b.out.quiet d).box (.int .i64 (nx p.a false).kd) (.string ⟨(nx p.a false).tx.toArray⟩) (.float .f64 (nx p.a false).nm) (.int .i64 (nx p.a false).f) (.int .i64 (nx p.a false).t) 70);clear d;(try clear i j k l m c5 n);(try clear u v w x y A);(try clear n0 n1 n2 n3 n4 nf);(try clear o0 o1 o2 o3 o4 of);(try clear k0 k1 B C k4 kf);obtain⟨i,j,k,l,m,c5,n⟩:=b.out.z.c6;obtain⟨u,v,w,x,y,A⟩:=b.out.b0;unfold G1))
    go_ret;exact⟨rfl,b.out.z,b.out.o⟩
   skip
   rcases Xt (nx p.a false).kd 9 with⟨L,V,-⟩ | ⟨L,V,-⟩
   ·have g:Ab2 (nx p.a false)=[[36],[40],[43,43],[45,45]].contains (nx p.a false).tx:=by unfold Ab2;simp[L]
    rw[g];generalize [[36],[40],[43,43],[45,45]].contains (nx p.a false).tx=c at M ⊢;clear g B C G H I L
    go_in
    go_wp2_with (first | (go_at_call 27;(with_reducible refine(Abw b.out.z D).mono ?_);rintro e r ⟨rfl,rfl⟩) | (go_at_call 48;(with_reducible refine(Abz F.out b.out.z p.a ha E).mono ?_);rintro e r ⟨rfl,d⟩;replace b:=aA ((b.out.quiet d).box (.int .i64 (nx p.a false).kd) (.string ⟨(nx p.a false).tx.toArray⟩) (.float .f64 (nx p.a false).nm) (.int .i64 (nx p.a false).f) (.int .i64 (nx p.a false).t) 70);clear d;(try clear i j k l m c5 n);(try clear u v w x y A);(try clear n0 n1 n2 n3 n4 nf);(try clear o0 o1 o2 o3 o4 of);(try clear k0 k1 B C k4 kf);obtain⟨i,j,k,l,m,c5,n⟩:=b.out.z.c6;obtain⟨u,v,w,x,y,A⟩:=b.out.b0;unfold G1) | (go_at_call 104;(with_reducible refine(M.out _).mono ?_);rintro e r ⟨rfl,rfl⟩))
    go_ret;exact⟨rfl,b.out.z,b.out.o⟩
   skip
   have g:Ab2 (nx p.a false)=false:=by unfold Ab2;simp[B,C,G,H,I,L]
   rw[g];clear g B C G H I L
   go_in
   go_wp2_with (first | (go_at_call 27;(with_reducible refine(Abw b.out.z D).mono ?_);rintro e r ⟨rfl,rfl⟩) | (go_at_call 48;(with_reducible refine(Abz F.out b.out.z p.a ha E).mono ?_);rintro e r ⟨rfl,d⟩;replace b:=aA ((b.out.quiet d).box (.int .i64 (nx p.a false).kd) (.string ⟨(nx p.a false).tx.toArray⟩) (.float .f64 (nx p.a false).nm) (.int .i64 (nx p.a false).f) (.int .i64 (nx p.a false).t) 70);clear d;(try clear i j k l m c5 n);(try clear u v w x y A);(try clear n0 n1 n2 n3 n4 nf);(try clear o0 o1 o2 o3 o4 of);(try clear k0 k1 B C k4 kf);obtain⟨i,j,k,l,m,c5,n⟩:=b.out.z.c6;obtain⟨u,v,w,x,y,A⟩:=b.out.b0;unfold G1))
   go_ret;exact⟨rfl,b.out.z,b.out.o⟩
  rw[decide_eq_false E,aB]
  go_in
  go_wp2_with (first | (go_at_call 27;(with_reducible refine(Abw b.out.z D).mono ?_);rintro e r ⟨rfl,rfl⟩) | (go_at_call 48;(with_reducible refine(Ac6 F.out b.out.z p.a ha E).mono ?_);rintro e r ⟨rfl,d⟩;replace b:=aA ((b.out.quiet d).box (.int .i64 (nx p.a false).kd) (.string ⟨(nx p.a false).tx.toArray⟩) (.float .f64 (nx p.a false).nm) (.int .i64 (nx p.a false).f) (.int .i64 (nx p.a false).t) 70);clear d;(try clear i j k l m c5 n);(try clear u v w x y A);(try clear n0 n1 n2 n3 n4 nf);(try clear o0 o1 o2 o3 o4 of);(try clear k0 k1 B C k4 kf);obtain⟨i,j,k,l,m,c5,n⟩:=b.out.z.c6;obtain⟨u,v,w,x,y,A⟩:=b.out.b0;unfold G1) | (go_at_call 29;(with_reducible refine((Abr F.out R.out b.out.z false)).mono ?_);rintro e r ⟨rfl,K,J⟩;replace b:=aA ((b.out.move K J));clear K J;(try clear i j k l m c5 n);(try clear u v w x y A);(try clear n0 n1 n2 n3 n4 nf);(try clear o0 o1 o2 o3 o4 of);(try clear k0 k1 B C k4 kf);obtain⟨i,j,k,l,m,c5,n⟩:=b.out.z.c6;obtain⟨u,v,w,x,y,A⟩:=b.out.b0))
  go_ret;exact⟨rfl,b.out.z,b.out.o⟩
 rw[if_neg D,decide_eq_false D,aB]
 go_in
 go_wp2_with (first | (go_at_call 27;(with_reducible refine(Acj b.out.z D).mono ?_);rintro e r ⟨rfl,rfl⟩))
 go_ret;exact⟨rfl,b.out.z,b.out.o⟩
def AgX (nx:Nat->Bool->Tk) (pl:Nat->Nat×Nat) (p:Rs):Rs :=
 if p.e=0 then (if (nx p.a false).e=0 then (if (nx p.a false).kd=0\/isV nx [125] p=true then p else if (nx p.a false).kd=1\/isS (nx p.a false) [59]=true then { p with a:=(nx p.a false).t } else Abj pl (nx p.a false) p) else Abl pl (nx p.a false).e (nx p.a false).f p) else p
theorem AhN:Acf nx pl p = .ok () (AgX nx pl p):=by
 unfold Acf AgX;rw[Ad2];simp only[RO.bind];by_cases b:p.e=0
 ·rw[if_pos b]
  by_cases d:(nx p.a false).e=0
  ·have i:AbL pl (nx p.a false) p=p:=by unfold AbL;rw[if_pos d]
   rw[i,if_pos d];by_cases k0:(nx p.a false).kd=0
   ·rw[if_pos (.inr k0),if_pos (.inl k0)]
   rw[if_neg (fun c=>by rcases c with c | c;exact c b;exact k0 c),AhC];simp only[];by_cases h:isV nx [125] p=true
   ·rw[if_pos h,if_pos (.inr h)]
   rw[if_neg h,if_neg (fun(c:(nx p.a false).kd=0\/isV nx [125] p=true)=>by rcases c with c | c;exact k0 c;exact h c)];by_cases g:(nx p.a false).kd=1\/isS (nx p.a false) [59]=true
   ·rw[if_pos g,if_pos g]
   rw[if_neg g,if_neg g]
  have i:AbL pl (nx p.a false) p=Abl pl (nx p.a false).e (nx p.a false).f p:=by unfold AbL;rw[if_neg d]
  rw[i,if_neg d,if_pos (.inl (AbK d))]
 rw[if_neg b,Ad3 _ b,if_pos (.inl b)]
set_option linter.unusedSimpArgs false in
theorem Agw (N:RxC nx s w0) (P:RlC pl s) (h:Rz w0 q s p W) :
  Calls prog 146 #[.pointer (some ⟨q,0,none⟩)] W fun e S=>e = .returned (.tuple #[])/\Rz w0 q s (AgX nx pl p) S/\Ae q W S:=by
 have b:=aA (Fr.start h);have C:=aA N;have D:=aA P;have ha:=h.ha;have hd1:=h.d1;have V:=h.d2;obtain⟨Q,R⟩:=N.lim p.a false ha;have L:=N.ok p.a false ha;obtain⟨i,j,k,l,m,c5,n⟩:=b.out.z.c6;clear h N P;unfold AgX;by_cases E:p.e=0
 ·rw[if_pos E]
  by_cases H:(nx p.a false).e=0
  ·have F:AbL pl (nx p.a false) p=p:=by unfold AbL;rw[if_pos H]
   obtain⟨X,Y,-,-⟩:=L H;have J : -(((nx p.a false).t:Nat):Int)<=p.o:=(by omega);have K:p.o<=(((nx p.a false).t:Nat):Int):=(by omega);clear L;rw[if_pos H];rcases Xt (nx p.a false).kd 0 with⟨k0,b0,-⟩ | ⟨k0,b0,-⟩
   ·rw[if_pos (.inl k0)];clear k0
    go_in
    go_wp2_with (first | (go_at_call 27;(with_reducible refine(Abw b.out.z E).mono ?_);rintro e B ⟨rfl,rfl⟩) | (go_at_call 29;(with_reducible refine((Abr C.out D.out b.out.z false)).mono ?_);rw[F];rintro e B ⟨rfl,g,d⟩;replace b:=aA ((b.out.move g d).box (.int .i64 (nx p.a false).kd) (.string ⟨(nx p.a false).tx.toArray⟩) (.float .f64 (nx p.a false).nm) (.int .i64 (nx p.a false).f) (.int .i64 (nx p.a false).t) 70);clear g d;(try clear i j k l m c5 n);(try clear u v w x y A);(try clear n0 n1 n2 n3 n4 nf);(try clear o0 o1 o2 o3 o4 of);(try clear k0 k1 k2 k3 k4 kf);obtain⟨i,j,k,l,m,c5,n⟩:=b.out.z.c6;obtain⟨u,v,w,x,y,A⟩:=b.out.b0;unfold G1))
    refine bodyPost_ret (results_none rfl _ _ _) rfl ?_;exact⟨rfl,b.out.z,b.out.o⟩
   by_cases G:isV nx [125] p=true
   ·rw[if_pos (.inr G)];clear k0
    go_in
    go_wp2_with (first | (go_at_call 27;(with_reducible refine(Abw b.out.z E).mono ?_);rintro e B ⟨rfl,rfl⟩) | (go_at_call 29;(with_reducible refine((Abr C.out D.out b.out.z false)).mono ?_);rw[F];rintro e B ⟨rfl,g,d⟩;replace b:=aA ((b.out.move g d).box (.int .i64 (nx p.a false).kd) (.string ⟨(nx p.a false).tx.toArray⟩) (.float .f64 (nx p.a false).nm) (.int .i64 (nx p.a false).f) (.int .i64 (nx p.a false).t) 70);clear g d;(try clear i j k l m c5 n);(try clear u v w x y A);(try clear n0 n1 n2 n3 n4 nf);(try clear o0 o1 o2 o3 o4 of);(try clear k0 k1 k2 k3 k4 kf);obtain⟨i,j,k,l,m,c5,n⟩:=b.out.z.c6;obtain⟨u,v,w,x,y,A⟩:=b.out.b0;unfold G1) | (go_at_call 51;(with_reducible refine(Acg C.out b.out.z [125]).mono ?_);rw[G];rintro e B ⟨rfl,r⟩;replace b:=aA ((b.out.quiet r));clear r;(try clear i j k l m c5 n);(try clear u v w x y A);(try clear n0 n1 n2 n3 n4 nf);(try clear o0 o1 o2 o3 o4 of);(try clear k0 k1 k2 k3 k4 kf);obtain⟨i,j,k,l,m,c5,n⟩:=b.out.z.c6;obtain⟨u,v,w,x,y,A⟩:=b.out.b0))
    refine bodyPost_ret (results_none rfl _ _ _) rfl ?_;exact⟨rfl,b.out.z,b.out.o⟩
   rw[if_neg (fun c=>by rcases c with c | c;exact k0 c;exact G c)];replace G:isV nx [125] p=false:=by cases e:isV nx [125] p;rfl;exact absurd e G
   clear k0;unfold isS;rcases Xt (nx p.a false).kd 1 with⟨k1,-,b1⟩ | ⟨k1,-,b1⟩
   ·rw[if_pos (.inl k1)];clear k1
    go_in
    go_wp2_with (first | (go_at_call 27;(with_reducible refine(Abw b.out.z E).mono ?_);rintro e B ⟨rfl,rfl⟩) | (go_at_call 29;(with_reducible refine((Abr C.out D.out b.out.z false)).mono ?_);rw[F];rintro e B ⟨rfl,g,d⟩;replace b:=aA ((b.out.move g d).box (.int .i64 (nx p.a false).kd) (.string ⟨(nx p.a false).tx.toArray⟩) (.float .f64 (nx p.a false).nm) (.int .i64 (nx p.a false).f) (.int .i64 (nx p.a false).t) 70);clear g d;(try clear i j k l m c5 n);(try clear u v w x y A);(try clear n0 n1 n2 n3 n4 nf);(try clear o0 o1 o2 o3 o4 of);(try clear k0 k1 k2 k3 k4 kf);obtain⟨i,j,k,l,m,c5,n⟩:=b.out.z.c6;obtain⟨u,v,w,x,y,A⟩:=b.out.b0;unfold G1) | (go_at_call 51;(with_reducible refine(Acg C.out b.out.z [125]).mono ?_);rw[G];rintro e B ⟨rfl,r⟩;replace b:=aA ((b.out.quiet r));clear r;(try clear i j k l m c5 n);(try clear u v w x y A);(try clear n0 n1 n2 n3 n4 nf);(try clear o0 o1 o2 o3 o4 of);(try clear k0 k1 k2 k3 k4 kf);obtain⟨i,j,k,l,m,c5,n⟩:=b.out.z.c6;obtain⟨u,v,w,x,y,A⟩:=b.out.b0))
    replace b:=aA (b.out.move (b.out.z.setA (nx p.a false).t R J K) ((Ae.refl q _).set 1 _));refine bodyPost_end (results_none rfl _ _ _) rfl ?_;exact⟨rfl,b.out.z,b.out.o⟩
   rcases Xt (nx p.a false).kd 9 with⟨I,T,-⟩ | ⟨I,T,-⟩
   ·rcases J0 (nx p.a false).tx [59] with⟨M,U⟩ | ⟨M,U⟩
    ·rw[if_pos (.inr (by rw[decide_eq_true I,decide_eq_true M];rfl))];clear k1 I M
     go_in
     go_wp2_with (first | (go_at_call 27;(with_reducible refine(Abw b.out.z E).mono ?_);rintro e B ⟨rfl,rfl⟩) | (go_at_call 29;(with_reducible refine((Abr C.out D.out b.out.z false)).mono ?_);rw[F];rintro e B ⟨rfl,g,d⟩;replace b:=aA ((b.out.move g d).box (.int .i64 (nx p.a false).kd) (.string ⟨(nx p.a false).tx.toArray⟩) (.float .f64 (nx p.a false).nm) (.int .i64 (nx p.a false).f) (.int .i64 (nx p.a false).t) 70);clear g d;(try clear i j k l m c5 n);(try clear u v w x y A);(try clear n0 n1 n2 n3 n4 nf);(try clear o0 o1 o2 o3 o4 of);(try clear k0 k1 k2 k3 k4 kf);obtain⟨i,j,k,l,m,c5,n⟩:=b.out.z.c6;obtain⟨u,v,w,x,y,A⟩:=b.out.b0;unfold G1) | (go_at_call 51;(with_reducible refine(Acg C.out b.out.z [125]).mono ?_);rw[G];rintro e B ⟨rfl,r⟩;replace b:=aA ((b.out.quiet r));clear r;(try clear i j k l m c5 n);(try clear u v w x y A);(try clear n0 n1 n2 n3 n4 nf);(try clear o0 o1 o2 o3 o4 of);(try clear k0 k1 k2 k3 k4 kf);obtain⟨i,j,k,l,m,c5,n⟩:=b.out.z.c6;obtain⟨u,v,w,x,y,A⟩:=b.out.b0))
     replace b:=aA (b.out.move (b.out.z.setA (nx p.a false).t R J K) ((Ae.refl q _).set 1 _));refine bodyPost_end (results_none rfl _ _ _) rfl ?_;exact⟨rfl,b.out.z,b.out.o⟩
    rw[if_neg (by simp[k1,M])];clear k1 I M
    go_in
    go_wp2_with (first | (go_at_call 27;(with_reducible refine(Abw b.out.z E).mono ?_);rintro e B ⟨rfl,rfl⟩) | (go_at_call 29;(with_reducible refine((Abr C.out D.out b.out.z false)).mono ?_);rw[F];rintro e B ⟨rfl,g,d⟩;replace b:=aA ((b.out.move g d).box (.int .i64 (nx p.a false).kd) (.string ⟨(nx p.a false).tx.toArray⟩) (.float .f64 (nx p.a false).nm) (.int .i64 (nx p.a false).f) (.int .i64 (nx p.a false).t) 70);clear g d;(try clear i j k l m c5 n);(try clear u v w x y A);(try clear n0 n1 n2 n3 n4 nf);(try clear o0 o1 o2 o3 o4 of);(try clear k0 k1 k2 k3 k4 kf);obtain⟨i,j,k,l,m,c5,n⟩:=b.out.z.c6;obtain⟨u,v,w,x,y,A⟩:=b.out.b0;unfold G1) | (go_at_call 51;(with_reducible refine(Acg C.out b.out.z [125]).mono ?_);rw[G];rintro e B ⟨rfl,r⟩;replace b:=aA ((b.out.quiet r));clear r;(try clear i j k l m c5 n);(try clear u v w x y A);(try clear n0 n1 n2 n3 n4 nf);(try clear o0 o1 o2 o3 o4 of);(try clear k0 k1 k2 k3 k4 kf);obtain⟨i,j,k,l,m,c5,n⟩:=b.out.z.c6;obtain⟨u,v,w,x,y,A⟩:=b.out.b0) | (go_at_call 54;(with_reducible refine((Acb D.out b.out.z (nx p.a false) Q)).mono ?_);rintro e B ⟨rfl,g,d⟩;replace b:=aA ((b.out.move g d));clear g d;(try clear i j k l m c5 n);(try clear u v w x y A);(try clear n0 n1 n2 n3 n4 nf);(try clear o0 o1 o2 o3 o4 of);(try clear k0 k1 k2 k3 k4 kf);obtain⟨i,j,k,l,m,c5,n⟩:=b.out.z.c6))
    refine bodyPost_ret (results_none rfl _ _ _) rfl ?_;exact⟨rfl,b.out.z,b.out.o⟩
   rw[if_neg (by simp[k1,I])];clear k1 I
   go_in
   go_wp2_with (first | (go_at_call 27;(with_reducible refine(Abw b.out.z E).mono ?_);rintro e B ⟨rfl,rfl⟩) | (go_at_call 29;(with_reducible refine((Abr C.out D.out b.out.z false)).mono ?_);rw[F];rintro e B ⟨rfl,g,d⟩;replace b:=aA ((b.out.move g d).box (.int .i64 (nx p.a false).kd) (.string ⟨(nx p.a false).tx.toArray⟩) (.float .f64 (nx p.a false).nm) (.int .i64 (nx p.a false).f) (.int .i64 (nx p.a false).t) 70);clear g d;(try clear i j k l m c5 n);(try clear u v w x y A);(try clear n0 n1 n2 n3 n4 nf);(try clear o0 o1 o2 o3 o4 of);(try clear k0 k1 k2 k3 k4 kf);obtain⟨i,j,k,l,m,c5,n⟩:=b.out.z.c6;obtain⟨u,v,w,x,y,A⟩:=b.out.b0;unfold G1) | (go_at_call 51;(with_reducible refine(Acg C.out b.out.z [125]).mono ?_);rw[G];rintro e B ⟨rfl,r⟩;replace b:=aA ((b.out.quiet r));clear r;(try clear i j k l m c5 n);(try clear u v w x y A);(try clear n0 n1 n2 n3 n4 nf);(try clear o0 o1 o2 o3 o4 of);(try clear k0 k1 k2 k3 k4 kf);obtain⟨i,j,k,l,m,c5,n⟩:=b.out.z.c6;obtain⟨u,v,w,x,y,A⟩:=b.out.b0) | (go_at_call 54;(with_reducible refine((Acb D.out b.out.z (nx p.a false) Q)).mono ?_);rintro e B ⟨rfl,g,d⟩;replace b:=aA ((b.out.move g d));clear g d;(try clear i j k l m c5 n);(try clear u v w x y A);(try clear n0 n1 n2 n3 n4 nf);(try clear o0 o1 o2 o3 o4 of);(try clear k0 k1 k2 k3 k4 kf);obtain⟨i,j,k,l,m,c5,n⟩:=b.out.z.c6))
   refine bodyPost_ret (results_none rfl _ _ _) rfl ?_;exact⟨rfl,b.out.z,b.out.o⟩
  rw[if_neg H];have F:AbL pl (nx p.a false) p=Abl pl (nx p.a false).e (nx p.a false).f p:=by unfold AbL;rw[if_neg H]
  have O:=AbK (pl:=pl) (p:=p) (f:=(nx p.a false).f) H
  go_in
  go_wp2_with (first | (go_at_call 27;(with_reducible refine(Acj b.out.z O).mono ?_);rintro e B ⟨rfl,rfl⟩) | (go_at_call 29;(with_reducible refine((Abr C.out D.out b.out.z false)).mono ?_);rw[F];rintro e B ⟨rfl,g,d⟩;replace b:=aA ((b.out.move g d).box (.int .i64 (nx p.a false).kd) (.string ⟨(nx p.a false).tx.toArray⟩) (.float .f64 (nx p.a false).nm) (.int .i64 (nx p.a false).f) (.int .i64 (nx p.a false).t) 70);clear g d;(try clear i j k l m c5 n);(try clear u v w x y A);(try clear n0 n1 n2 n3 n4 nf);(try clear o0 o1 o2 o3 o4 of);(try clear k0 k1 k2 k3 k4 kf);obtain⟨i,j,k,l,m,c5,n⟩:=b.out.z.c6;obtain⟨u,v,w,x,y,A⟩:=b.out.b0;unfold G1))
  refine bodyPost_ret (results_none rfl _ _ _) rfl ?_;exact⟨rfl,b.out.z,b.out.o⟩
 rw[if_neg E];have F:=Ad3 (pl:=pl) (nx p.a false) E;have O:=E
 go_in
 go_wp2_with (first | (go_at_call 27;(with_reducible refine(Acj b.out.z O).mono ?_);rintro e B ⟨rfl,rfl⟩) | (go_at_call 29;(with_reducible refine((Abr C.out D.out b.out.z false)).mono ?_);rw[F];rintro e B ⟨rfl,g,d⟩;replace b:=aA ((b.out.move g d).box (.int .i64 (nx p.a false).kd) (.string ⟨(nx p.a false).tx.toArray⟩) (.float .f64 (nx p.a false).nm) (.int .i64 (nx p.a false).f) (.int .i64 (nx p.a false).t) 70);clear g d;(try clear i j k l m c5 n);(try clear u v w x y A);(try clear n0 n1 n2 n3 n4 nf);(try clear o0 o1 o2 o3 o4 of);(try clear k0 k1 k2 k3 k4 kf);obtain⟨i,j,k,l,m,c5,n⟩:=b.out.z.c6;obtain⟨u,v,w,x,y,A⟩:=b.out.b0;unfold G1))
 refine bodyPost_ret (results_none rfl _ _ _) rfl ?_;exact⟨rfl,b.out.z,b.out.o⟩
end
section
variable {nx:Nat->Bool->Tk} {pl:Nat->Nat×Nat} {w0 W:World} {q:Nat} {s:ByteArray} {p:Rs}
theorem Rz.same (h:Rz w0 q s p W) {a:World} (b:Below W.heap.size W a):Rz w0 q s p a/\Ae q W a:=⟨h.keep b,Ae.of_below q b⟩
theorem Abv (h:Rz w0 q s p W):Calls prog 27 #[.pointer (some ⟨q,0,none⟩)] W fun e a=>e = .returned (.bool (decide (p.e=0)))/\W=a:=Ad1 h
theorem Aer (f:RxC nx s w0) (g:RlC pl s) (h:Rz w0 q s p W) (b:Bool) :
  Calls prog 29 #[.pointer (some ⟨q,0,none⟩),.bool b] W (AbJ q W (AbG nx pl b p) fun t i v j=>(t=nx p.a b/\v=G1 t)/\Rz w0 q s i j) :=
 (Abr f g h b).mono fun _ _ ⟨c,d,e⟩=>⟨_,c,⟨⟨rfl,rfl⟩,d⟩,e⟩
theorem AbB (e:RxC nx s w0) (h:Rz w0 q s p W) (x:List UInt8) :
  Calls prog 51 #[.pointer (some ⟨q,0,none⟩),.string ⟨x.toArray⟩] W (AbJ q W (isR nx x p) fun b c v f=>(v = .bool b/\c=p/\isV nx x p=b)/\Rz w0 q s c f) :=
 (Acg e h x).mono fun _ _ ⟨d,a⟩=>⟨_,d,⟨⟨rfl,rfl,rfl⟩,h.keep a⟩,Ae.of_below q a⟩
theorem AbQ (e:RxC nx s w0) (f:RlC pl s) (h:Rz w0 q s p W) (x:List UInt8) :
  Calls prog 88 #[.pointer (some ⟨q,0,none⟩),.string ⟨x.toArray⟩] W (AbJ q W (takeR nx pl x p) fun b g v i=>v = .bool b/\Rz w0 q s g i):=by
 rw[Afl];exact(Acs e f h x).mono fun _ _ ⟨a,c,d⟩=>⟨_,a,⟨rfl,c⟩,d⟩
theorem Abn (d:RxC nx s w0) (e:RlC pl s) (h:Rz w0 q s p W) (x:List UInt8) :
  Calls prog 89 #[.pointer (some ⟨q,0,none⟩),.string ⟨x.toArray⟩] W (AbJ q W (wantR nx pl x p) fun _ f v g=>v = .tuple #[]/\Rz w0 q s f g):=by
 rw[AhA];exact(AfU d e h x).mono fun _ _ ⟨a,b,c⟩=>⟨_,a,⟨rfl,b⟩,c⟩
theorem AdG (d:RxC nx s w0) (e:RlC pl s) (h:Rz w0 q s p W) :
  Calls prog 90 #[.pointer (some ⟨q,0,none⟩)] W (AbJ q W (nameR nx pl p) fun t f v g=>v=G1 t/\Rz w0 q s f g):=by
 rw[Ahw];exact(AfR d e h).mono fun _ _ ⟨a,b,c⟩=>⟨_,a,⟨rfl,b⟩,c⟩
theorem Ab4 (g:RxC nx s w0) (i:RlC pl s) (h:Rz w0 q s p W) (b:Bool) :
  Calls prog 87 #[.pointer (some ⟨q,0,none⟩),.bool b] W (AbJ q W (Abo nx pl b p) fun y c v j=>(v = .tuple #[G1 y.1,.complex .f64 y.2.1 y.2.2]/\c=p/\y.1=nx p.a b)/\Rz w0 q s c j) :=
 (AfQ g i h b).mono fun _ _ ⟨d,e,f⟩=>⟨_,d,⟨⟨rfl,rfl,rfl⟩,e⟩,f⟩
def Acy:Option (List UInt8×(Nat×Nat))->Value
 | none => .tuple #[.string ⟨#[]⟩,.complex .f64 0 0,.bool false]
 | some y => .tuple #[.string ⟨y.1.toArray⟩,.complex .f64 y.2.1 y.2.2,.bool true]
theorem Aby (f:RxC nx s w0) (g:RlC pl s) (h:Rz w0 q s p W) (T:List UInt8) (L:List (List UInt8)) (i:D2 [] T=L) (j:T.length<=140737488351232) :
  Calls prog 115 #[.pointer (some ⟨q,0,none⟩),.string ⟨T.toArray⟩] W (AbJ q W (oneR nx pl L p) fun o k v l=>v=Acy o/\Rz w0 q s k l):=by
 refine(Agz f g h T L i j).mono fun _ _ ⟨a,b,d⟩=>?_;unfold Ah_ at a;unfold Aib at b;by_cases c:AdX nx L p=true
 ·rw[Aia L c]
  rw[if_pos c] at a b;exact⟨_,a,⟨rfl,b⟩,d⟩
 rw[Ah' L (by cases e:AdX nx L p;rfl;exact absurd e c)];rw[if_neg c] at a b;exact⟨_,a,⟨rfl,b⟩,d⟩
theorem AfO (e:RxC nx s w0) (f:RlC pl s) (h:Rz w0 q s p W) :
  Calls prog 283 #[.pointer (some ⟨q,0,none⟩)] W (AbJ q W (goesR nx pl p) fun b g v i=>v = .bool b/\Rz w0 q s g i):=by
 rw[Ahq];exact(AfP e f h).mono fun _ _ ⟨a,c,d⟩=>⟨_,a,⟨rfl,c⟩,d⟩
theorem AeU (e:RxC nx s w0) (h:Rz w0 q s p W) :
  Calls prog 239 #[.pointer (some ⟨q,0,none⟩)] W (AbJ q W (Ach nx p) fun b f v g=>v = .bool b/\Rz w0 q s f g) :=
 (AeV e h).mono fun _ _ ⟨a,c,d⟩=>⟨_,a,⟨rfl,c⟩,d⟩
theorem Agv (d:RxC nx s w0) (e:RlC pl s) (h:Rz w0 q s p W) :
  Calls prog 146 #[.pointer (some ⟨q,0,none⟩)] W (AbJ q W (Acf nx pl p) fun _ f v g=>v = .tuple #[]/\Rz w0 q s f g):=by
 rw[AhN];exact(Agw d e h).mono fun _ _ ⟨a,b,c⟩=>⟨_,a,⟨rfl,b⟩,c⟩
end
theorem Aem (t:Tr) (kv:Value) (w:World):Calls prog 114 #[CJ t kv] w fun e h=>e = .returned (.bool (Z1 t))/\Below w.heap.size w h:=by
 unfold CJ Z1;generalize t.kd=k;by_cases a:k=4
 ·have d:(k==4)=true:=beq_iff_eq.2 a
  rw[decide_eq_true a];clear a
  go_in
  go_wp2;go_ret;exact⟨rfl,Ad w _⟩
 have d:(k==4)=false:=beq_eq_false_iff_ne.2 a;rw[decide_eq_false a];clear a;by_cases b:k=5
 ·have f:(k==5)=true:=beq_iff_eq.2 b
  rw[decide_eq_true b];clear b
  go_in
  go_wp2;go_ret;exact⟨rfl,Ad w _⟩
 have f:(k==5)=false:=beq_eq_false_iff_ne.2 b;rw[decide_eq_false b];clear b;by_cases c:k=6
 ·have g:(k==6)=true:=beq_iff_eq.2 c
  rw[decide_eq_true c];clear c
  go_in
  go_wp2;go_ret;exact⟨rfl,Ad w _⟩
 have g:(k==6)=false:=beq_eq_false_iff_ne.2 c;rw[decide_eq_false c];clear c
 go_in
 go_wp2;go_ret;exact⟨rfl,Ad w _⟩
theorem AcS (t:Tr) (a:Option Addr) (n c:Nat) (w:World):Calls prog 114 #[.agg #[.int .i64 t.kd,.string ⟨t.nm.toArray⟩,.float .f64 t.x,.slice a n c,.complex .f64 t.z.1 t.z.2]] w fun e b=>e = .returned (.bool (Z1 t))/\Below w.heap.size w b:=Aem t _ w
theorem okC (p:Rs):(p.e=0/\decide (p.e=0)=true)\/(p.e≠0/\decide (p.e=0)=false):=by
 by_cases h:p.e=0
 ·exact .inl ⟨h,decide_eq_true h⟩
 exact .inr ⟨h,decide_eq_false h⟩
section
variable {nx:Nat->Bool->Tk} {pl:Nat->Nat×Nat} {ere:List UInt8->Option Bool} {w0 W w:World} {q B:Nat} {s:ByteArray} {p:Rs} {l:List B5} {ks:List (List Tr×Value)}
theorem Fr.setG (h:Fr w0 W q B s p l ks w) (x:Bool):Fr w0 W q B s { p with g:=x } l ks (w.setCell ⟨q,3,none⟩ (.bool x)):=h.move (h.z.setG x) ((Ae.refl q w).set 3 _)
theorem Fr.setT (h:Fr w0 W q B s p l ks w) {t:Nat} (b:p.a<=t/\t<=s.size):Fr w0 W q B s { p with a:=t } l ks (w.setCell ⟨q,1,none⟩ (.int .i64 t)) :=
 h.move (h.z.setA t b.2 (by have:=h.z.d1;omega) (by have:=h.z.d2;omega)) ((Ae.refl q w).set 1 _)
theorem Afj (d:RxC nx s w0) (m:RlC pl s) (h:Rz w0 q s p W) (b:Bool) :
  Calls prog 29 #[.pointer (some ⟨q,0,none⟩),.bool b] W (AbJ q W (AbG nx pl b p) fun t g v n=>(v=G1 t/\t.f<=s.size/\(g.e=0->g.a<=t.t/\t.t<=s.size))/\Rz w0 q s g n) :=
 (Abr d m h b).mono fun _ _ ⟨j,k,l⟩=>⟨_,j,⟨⟨rfl,(d.lim p.a b h.ha).1,fun e=>by
   by_cases c:(nx p.a b).e=0
   ·rw[if_pos c]
    have i:=d.ok p.a b h.ha c;exact⟨Nat.le_trans i.1 i.2.1,(d.lim p.a b h.ha).2⟩
   rw[if_neg c] at e
   exact absurd e (AbK c)⟩,k⟩,l⟩
theorem Fr.here (h:Fr w0 W q (W.heap.size+1) s p l ks w) {t:Tr} {kv:Value} (b:Am 42 w (W.heap.size+1 <= ·) t.ks kv) {r:RO (List Tr)} (a:Hid (.ok [t] p=r)):AbJ q W r (Acl w0 q s W) (.returned (CJ t kv)) w :=
 Abx a ⟨⟨t,kv,rfl,rfl,b.mono fun j _ h=>by omega⟩,h.z⟩ h.o
theorem AbJ.partE {a d:Type} {c w':World} {o:RO a} {K:a->Rs->RO d} {r:RO d} {g:a->Rs->Value->World->Prop} {e:Ending} (h:AbJ q c o g e w') (b:Hid (o.bind K=r)) (k:r ≠ .hush) :
  ∃x p v,e = .returned v/\g x p v w'/\Ae q c w'/\Hid (K x p=r)/\Hid (o = .ok x p):=by
 cases o with
 | hush=>exact absurd b.out.symm k
 | ok x p=>obtain⟨v,f,i,j⟩:=h;exact⟨x,p,v,f,i,j,b.out,rfl⟩
theorem AcV (c:RxC nx s w0):Ack nx s.size:=fun a d ha e=>by
 have b:=c.ok a d ha e;exact⟨Nat.le_trans b.1 b.2.1,(c.lim a d ha).2,b.2.2.2⟩
theorem AcH (w:RxC nx s w0) {n m:Nat} {p b c d:Rs} {u:Unit} {x:List Tr} (h:Rz w0 q s p W) (k:takeR nx pl [44] p = .ok true b) (t:linesR nx [] n b = .ok u c) (v:B0 nx pl ere m .expr c = .ok x d):p.a<d.a/\d.a<=4096:=by
 have A:=AcV w;have g:=(Adj (pl:=pl) A [44] p h.ha);have o:=g.2 _ k;have f:St s.size p.a p.e False b:=by have:=g.1;rw[k] at this;exact this
 have i:St s.size b.a b.e False c:=by have:=Ab0 A [] n b f.r;rw[t] at this;exact this
 have j:St s.size c.a c.e (stR .expr) d:=by have:=AeH (pl:=pl) (ere:=ere) A m .expr c trivial i.r;rw[v] at this;exact this
 have:=i.l;have:=j.l;have:=j.r;have:=h.hs;omega
theorem Af3 {b c:Type} {o:RO b} {K:b->Rs->RO c} {r:RO c} (d:Hid (o.bind K=r)):∃a,Hid (a=K)/\Hid (o.bind a=r):=⟨K,aA rfl,d⟩
theorem Acw {c:Type} {K:List Tr->Rs->RO c} {r:RO c} {m:Nat} {l:List Tr} {s:Rs} (h:(B0 nx pl ere (m+1) (.listL l) s).bind K=r) :
  (if s.e≠0 then K l s else (takeR nx pl [44] s).bind fun b s=>if b=true then (linesR nx [] m s).bind fun _ s=>(B0 nx pl ere m .expr s).bind fun x s=>(B0 nx pl ere m (.listL (l++x)) s).bind K else K l s)=r:=by
 rw[<- h];simp only[B0];by_cases a:s.e≠0
 ·rw[if_pos a,if_pos a];rfl
 rw[if_neg a,if_neg a]
 cases takeR nx pl [44] s with
 | hush=>rfl
 | ok b s1 =>
   cases b with
   | false=>rfl
   | true =>
     simp only[RO.bind,if_true]
     cases linesR nx [] m s1 with
     | hush=>rfl
     | ok y d =>
       simp only
       cases B0 nx pl ere m .expr d with
       | hush=>rfl
       | ok x f=>rfl
end
section
variable (nx:Nat->Bool->Tk) (pl:Nat->Nat×Nat) (ere:List UInt8->Option Bool) (w0:World) (q:Nat) (s:ByteArray) (n:Nat)
def LR:Prop:=∀(a:Bool) (p:Rs) (W:World),Rz w0 q s p W->B0 nx pl ere n (.list a) p ≠ .hush->Calls prog 238 #[.pointer (some ⟨q,0,none⟩),.bool a] W (AbJ q W (B0 nx pl ere n (.list a) p) (Ac7 w0 q s W))
def IR:Prop:=∀(x:List UInt8) (p:Rs) (W:World),Rz w0 q s p W->B0 nx pl ere n (.inside x) p ≠ .hush->Calls prog 189 #[.pointer (some ⟨q,0,none⟩),.string ⟨x.toArray⟩] W (AbJ q W (B0 nx pl ere n (.inside x) p) (Ac7 w0 q s W))
def UR:Prop:=∀(p:Rs) (W:World),Rz w0 q s p W->B0 nx pl ere n .outs p ≠ .hush->Calls prog 191 #[.pointer (some ⟨q,0,none⟩)] W (AbJ q W (B0 nx pl ere n .outs p) (Ac7 w0 q s W))
def CR:Prop:=∀(t:Tk) (p:Rs) (W:World),Rz w0 q s p W->(p.a<=t.t/\t.t<=s.size)->t.f<=s.size->B0 nx pl ere n (.call t) p ≠ .hush ->
 Calls prog 305 #[.pointer (some ⟨q,0,none⟩),.agg #[.int .i64 t.kd,.string ⟨t.tx.toArray⟩,.float .f64 t.nm,.int .i64 t.f,.int .i64 t.t],.complex .f64 (pl t.f).1 (pl t.f).2] W (AbJ q W (B0 nx pl ere n (.call t) p) (Acl w0 q s W))
end
end Go.Proofs.YtfblenhlildnaaaGreatDoor
