/- Ik Il Im In Io -/
import Derived.Test.YtfblenhlildnaaaGreatDoorAm
set_option maxRecDepth 100000
set_option maxHeartbeats 2000000
open Go.Lib renaming hid->aA
open Go.RowKit renaming wrap64->aB
namespace Go.Proofs.YtfblenhlildnaaaGreatDoor
open Go.Proofs.Tryz
open Go.RowKit
section
variable {nx:Nat->Bool->Tk} {pl:Nat->Nat×Nat} {w0 W:World} {q:Nat} {s:ByteArray} {p:Rs}
def takeS (nx:Nat->Bool->Tk) (pl:Nat->Nat×Nat) (x:List UInt8) (p:Rs):Rs:=if isV nx x p=true then Abs pl x (nx p.a false) p else p
theorem Ait {x:List UInt8} (h:isV nx x p=true):p.e=0/\(nx p.a false).e=0/\(nx p.a false).kd≠0:=by
 unfold isV AbN at h;simp only[Bool.and_eq_true,Bool.or_eq_true,decide_eq_true_eq] at h;refine⟨h.1,h.2.1,fun e=>?_⟩;rcases h.2.2.1 with h | h<;>rw[e] at h<;>exact absurd h (by decide)
set_option linter.unusedSimpArgs false in
theorem Acs (R:RxC nx s w0) (hP:RlC pl s) (h:Rz w0 q s p W) (x:List UInt8) :
  Calls prog 88 #[.pointer (some ⟨q,0,none⟩),.string ⟨x.toArray⟩] W fun e w'=>e = .returned (.bool (isV nx x p))/\Rz w0 q s (takeS nx pl x p) w'/\Ae q W w':=by
 have B:=aA (Acg R h x);have b:=aA (Fr.start h);have ha:=h.ha;have hs:=h.hs;have hd1:=h.d1;have d0:=h.d2;unfold takeS;by_cases X:isV nx x p=true
 ·rw[X] at B
  rw[X,if_pos rfl];obtain⟨-,h1,h8⟩:=Ait X;have F:=aA (fun W' (h':Rz w0 q s p W')=>Abz R h' p.a ha h1);obtain⟨-,I⟩:=R.lim p.a false ha;obtain⟨g1,g2,-,g3⟩:=R.ok p.a false ha h1;have g3:=g3 h8;obtain⟨hf,-⟩:=R.lim p.a false ha;have Z:=aA (fun P' W' (h':Rz w0 q s P' W')=>AbX hP h' 26 (nx p.a false).f hf);generalize nx p.a false=t at *;clear h R hP X h1 h8;have r : -(t.t:Int)<=p.o:=(by omega);have u:p.o<=(t.t:Int):=(by omega);have C : -(t.t:Int)<=p.o+1:=(by omega);have D:p.o+1<=(t.t:Int):=(by omega);have S : -(t.t:Int)<=p.o-1:=(by omega);have T:p.o-1<=(t.t:Int):=by omega
  have v1:aB (p.o+1)=p.o+1:=by unfold aB;omega
  have v2:aB (p.o-1)=p.o-1:=by unfold aB;omega
  unfold G1 at F;rcases J0 x [40] with⟨w,e0⟩ | ⟨w,e0⟩
  ·by_cases y:40<p.o+1
   ·have V:decide (40<p.o+1)=true:=decide_eq_true y
    have n:Abs pl x t p=Abl pl 26 t.f { p with a:=t.t,o:=p.o+1 }:=by unfold Abs ZT ZV;simp[w,y]
    clear w y;rw[n];clear n
    go_in
    go_wp2_with (first | (go_at_call 51;(with_reducible refine B.out.mono ?_);rintro e v ⟨rfl,c⟩;replace b:=aA (b.out.quiet c);obtain⟨g,i,j,k,l,c5,m⟩:=b.out.z.c6) | (go_at_call 48;(with_reducible refine(F.out _ b.out.z).mono ?_);rintro e P ⟨rfl,d⟩;replace b:=aA ((b.out.quiet d).box (.int .i64 t.kd) (.string ⟨t.tx.toArray⟩) (.float .f64 t.nm) (.int .i64 t.f) (.int .i64 t.t) 70);clear g i j k l c5 m;obtain⟨g,i,j,k,l,c5,m⟩:=b.out.z.c6;obtain⟨J,K,L,M,N,O⟩:=b.out.b0;replace b:=aA (b.out.move (b.out.z.setA t.t I r u) ((Ae.refl q _).set 1 _));replace b:=aA (b.out.move (b.out.z.setO (p.o+1) C D) ((Ae.refl q _).set 2 _))) | (go_at_call 50;(with_reducible refine(Z.out _ _ b.out.z).mono ?_);rintro e w4 ⟨rfl,H,G⟩;replace b:=aA (b.out.move H G)))
    go_ret;exact⟨rfl,b.out.z,b.out.o⟩
   have V:decide (40<p.o+1)=false:=decide_eq_false y;have n:Abs pl x t p={ p with a:=t.t,o:=p.o+1 }:=by unfold Abs ZT ZV;simp[w,y]
   clear w y;rw[n];clear n
   go_in
   go_wp2_with (first | (go_at_call 51;(with_reducible refine B.out.mono ?_);rintro e v ⟨rfl,c⟩;replace b:=aA (b.out.quiet c);obtain⟨g,i,j,k,l,c5,m⟩:=b.out.z.c6) | (go_at_call 48;(with_reducible refine(F.out _ b.out.z).mono ?_);rintro e P ⟨rfl,d⟩;replace b:=aA ((b.out.quiet d).box (.int .i64 t.kd) (.string ⟨t.tx.toArray⟩) (.float .f64 t.nm) (.int .i64 t.f) (.int .i64 t.t) 70);clear g i j k l c5 m;obtain⟨g,i,j,k,l,c5,m⟩:=b.out.z.c6;obtain⟨J,K,L,M,N,O⟩:=b.out.b0;replace b:=aA (b.out.move (b.out.z.setA t.t I r u) ((Ae.refl q _).set 1 _));replace b:=aA (b.out.move (b.out.z.setO (p.o+1) C D) ((Ae.refl q _).set 2 _))))
   go_ret;exact⟨rfl,b.out.z,b.out.o⟩
  skip
  rcases J0 x [91] with⟨A,e1⟩ | ⟨A,e1⟩
  ·by_cases y:40<p.o+1
   ·have V:decide (40<p.o+1)=true:=decide_eq_true y
    have n:Abs pl x t p=Abl pl 26 t.f { p with a:=t.t,o:=p.o+1 }:=by unfold Abs ZT ZV;simp[w,A,y]
    clear w A y;rw[n];clear n
    go_in
    go_wp2_with (first | (go_at_call 51;(with_reducible refine B.out.mono ?_);rintro e v ⟨rfl,c⟩;replace b:=aA (b.out.quiet c);obtain⟨g,i,j,k,l,c5,m⟩:=b.out.z.c6) | (go_at_call 48;(with_reducible refine(F.out _ b.out.z).mono ?_);rintro e P ⟨rfl,d⟩;replace b:=aA ((b.out.quiet d).box (.int .i64 t.kd) (.string ⟨t.tx.toArray⟩) (.float .f64 t.nm) (.int .i64 t.f) (.int .i64 t.t) 70);clear g i j k l c5 m;obtain⟨g,i,j,k,l,c5,m⟩:=b.out.z.c6;obtain⟨J,K,L,M,N,O⟩:=b.out.b0;replace b:=aA (b.out.move (b.out.z.setA t.t I r u) ((Ae.refl q _).set 1 _));replace b:=aA (b.out.move (b.out.z.setO (p.o+1) C D) ((Ae.refl q _).set 2 _))) | (go_at_call 50;(with_reducible refine(Z.out _ _ b.out.z).mono ?_);rintro e w4 ⟨rfl,H,G⟩;replace b:=aA (b.out.move H G)))
    go_ret;exact⟨rfl,b.out.z,b.out.o⟩
   have V:decide (40<p.o+1)=false:=decide_eq_false y;have n:Abs pl x t p={ p with a:=t.t,o:=p.o+1 }:=by unfold Abs ZT ZV;simp[w,A,y]
   clear w A y;rw[n];clear n
   go_in
   go_wp2_with (first | (go_at_call 51;(with_reducible refine B.out.mono ?_);rintro e v ⟨rfl,c⟩;replace b:=aA (b.out.quiet c);obtain⟨g,i,j,k,l,c5,m⟩:=b.out.z.c6) | (go_at_call 48;(with_reducible refine(F.out _ b.out.z).mono ?_);rintro e P ⟨rfl,d⟩;replace b:=aA ((b.out.quiet d).box (.int .i64 t.kd) (.string ⟨t.tx.toArray⟩) (.float .f64 t.nm) (.int .i64 t.f) (.int .i64 t.t) 70);clear g i j k l c5 m;obtain⟨g,i,j,k,l,c5,m⟩:=b.out.z.c6;obtain⟨J,K,L,M,N,O⟩:=b.out.b0;replace b:=aA (b.out.move (b.out.z.setA t.t I r u) ((Ae.refl q _).set 1 _));replace b:=aA (b.out.move (b.out.z.setO (p.o+1) C D) ((Ae.refl q _).set 2 _))))
   go_ret;exact⟨rfl,b.out.z,b.out.o⟩
  skip
  rcases J0 x [123] with⟨E,e2⟩ | ⟨E,e2⟩
  ·by_cases y:40<p.o+1
   ·have V:decide (40<p.o+1)=true:=decide_eq_true y
    have n:Abs pl x t p=Abl pl 26 t.f { p with a:=t.t,o:=p.o+1 }:=by unfold Abs ZT ZV;simp[w,A,E,y]
    clear w A E y;rw[n];clear n
    go_in
    go_wp2_with (first | (go_at_call 51;(with_reducible refine B.out.mono ?_);rintro e v ⟨rfl,c⟩;replace b:=aA (b.out.quiet c);obtain⟨g,i,j,k,l,c5,m⟩:=b.out.z.c6) | (go_at_call 48;(with_reducible refine(F.out _ b.out.z).mono ?_);rintro e P ⟨rfl,d⟩;replace b:=aA ((b.out.quiet d).box (.int .i64 t.kd) (.string ⟨t.tx.toArray⟩) (.float .f64 t.nm) (.int .i64 t.f) (.int .i64 t.t) 70);clear g i j k l c5 m;obtain⟨g,i,j,k,l,c5,m⟩:=b.out.z.c6;obtain⟨J,K,L,M,N,O⟩:=b.out.b0;replace b:=aA (b.out.move (b.out.z.setA t.t I r u) ((Ae.refl q _).set 1 _));replace b:=aA (b.out.move (b.out.z.setO (p.o+1) C D) ((Ae.refl q _).set 2 _))) | (go_at_call 50;(with_reducible refine(Z.out _ _ b.out.z).mono ?_);rintro e w4 ⟨rfl,H,G⟩;replace b:=aA (b.out.move H G)))
    go_ret;exact⟨rfl,b.out.z,b.out.o⟩
   have V:decide (40<p.o+1)=false:=decide_eq_false y;have n:Abs pl x t p={ p with a:=t.t,o:=p.o+1 }:=by unfold Abs ZT ZV;simp[w,A,E,y]
   clear w A E y;rw[n];clear n
   go_in
   go_wp2_with (first | (go_at_call 51;(with_reducible refine B.out.mono ?_);rintro e v ⟨rfl,c⟩;replace b:=aA (b.out.quiet c);obtain⟨g,i,j,k,l,c5,m⟩:=b.out.z.c6) | (go_at_call 48;(with_reducible refine(F.out _ b.out.z).mono ?_);rintro e P ⟨rfl,d⟩;replace b:=aA ((b.out.quiet d).box (.int .i64 t.kd) (.string ⟨t.tx.toArray⟩) (.float .f64 t.nm) (.int .i64 t.f) (.int .i64 t.t) 70);clear g i j k l c5 m;obtain⟨g,i,j,k,l,c5,m⟩:=b.out.z.c6;obtain⟨J,K,L,M,N,O⟩:=b.out.b0;replace b:=aA (b.out.move (b.out.z.setA t.t I r u) ((Ae.refl q _).set 1 _));replace b:=aA (b.out.move (b.out.z.setO (p.o+1) C D) ((Ae.refl q _).set 2 _))))
   go_ret;exact⟨rfl,b.out.z,b.out.o⟩
  skip
  rcases J0 x [41] with⟨Q,e3⟩ | ⟨Q,e3⟩
  ·skip
   have n:Abs pl x t p={ p with a:=t.t,o:=p.o-1 }:=by unfold Abs ZT ZV;simp[w,A,E,Q]
   clear w A E Q;rw[n];clear n
   go_in
   go_wp2_with (first | (go_at_call 51;(with_reducible refine B.out.mono ?_);rintro e v ⟨rfl,c⟩;replace b:=aA (b.out.quiet c);obtain⟨g,i,j,k,l,c5,m⟩:=b.out.z.c6) | (go_at_call 48;(with_reducible refine(F.out _ b.out.z).mono ?_);rintro e P ⟨rfl,d⟩;replace b:=aA ((b.out.quiet d).box (.int .i64 t.kd) (.string ⟨t.tx.toArray⟩) (.float .f64 t.nm) (.int .i64 t.f) (.int .i64 t.t) 70);clear g i j k l c5 m;obtain⟨g,i,j,k,l,c5,m⟩:=b.out.z.c6;obtain⟨J,K,L,M,N,O⟩:=b.out.b0;replace b:=aA (b.out.move (b.out.z.setA t.t I r u) ((Ae.refl q _).set 1 _));replace b:=aA (b.out.move (b.out.z.setO (p.o-1) S T) ((Ae.refl q _).set 2 _))))
   go_ret;exact⟨rfl,b.out.z,b.out.o⟩
  skip
  rcases J0 x [93] with⟨U,e4⟩ | ⟨U,e4⟩
  ·skip
   have n:Abs pl x t p={ p with a:=t.t,o:=p.o-1 }:=by unfold Abs ZT ZV;simp[w,A,E,Q,U]
   clear w A E Q U;rw[n];clear n
   go_in
   go_wp2_with (first | (go_at_call 51;(with_reducible refine B.out.mono ?_);rintro e v ⟨rfl,c⟩;replace b:=aA (b.out.quiet c);obtain⟨g,i,j,k,l,c5,m⟩:=b.out.z.c6) | (go_at_call 48;(with_reducible refine(F.out _ b.out.z).mono ?_);rintro e P ⟨rfl,d⟩;replace b:=aA ((b.out.quiet d).box (.int .i64 t.kd) (.string ⟨t.tx.toArray⟩) (.float .f64 t.nm) (.int .i64 t.f) (.int .i64 t.t) 70);clear g i j k l c5 m;obtain⟨g,i,j,k,l,c5,m⟩:=b.out.z.c6;obtain⟨J,K,L,M,N,O⟩:=b.out.b0;replace b:=aA (b.out.move (b.out.z.setA t.t I r u) ((Ae.refl q _).set 1 _));replace b:=aA (b.out.move (b.out.z.setO (p.o-1) S T) ((Ae.refl q _).set 2 _))))
   go_ret;exact⟨rfl,b.out.z,b.out.o⟩
  skip
  rcases J0 x [125] with⟨Y,e5⟩ | ⟨Y,e5⟩
  ·skip
   have n:Abs pl x t p={ p with a:=t.t,o:=p.o-1 }:=by unfold Abs ZT ZV;simp[w,A,E,Q,U,Y]
   clear w A E Q U Y;rw[n];clear n
   go_in
   go_wp2_with (first | (go_at_call 51;(with_reducible refine B.out.mono ?_);rintro e v ⟨rfl,c⟩;replace b:=aA (b.out.quiet c);obtain⟨g,i,j,k,l,c5,m⟩:=b.out.z.c6) | (go_at_call 48;(with_reducible refine(F.out _ b.out.z).mono ?_);rintro e P ⟨rfl,d⟩;replace b:=aA ((b.out.quiet d).box (.int .i64 t.kd) (.string ⟨t.tx.toArray⟩) (.float .f64 t.nm) (.int .i64 t.f) (.int .i64 t.t) 70);clear g i j k l c5 m;obtain⟨g,i,j,k,l,c5,m⟩:=b.out.z.c6;obtain⟨J,K,L,M,N,O⟩:=b.out.b0;replace b:=aA (b.out.move (b.out.z.setA t.t I r u) ((Ae.refl q _).set 1 _));replace b:=aA (b.out.move (b.out.z.setO (p.o-1) S T) ((Ae.refl q _).set 2 _))))
   go_ret;exact⟨rfl,b.out.z,b.out.o⟩
  skip
  skip
  have n:Abs pl x t p={ p with a:=t.t }:=by unfold Abs ZT ZV;simp[w,A,E,Q,U,Y]
  clear w A E Q U Y;rw[n];clear n
  go_in
  go_wp2_with (first | (go_at_call 51;(with_reducible refine B.out.mono ?_);rintro e v ⟨rfl,c⟩;replace b:=aA (b.out.quiet c);obtain⟨g,i,j,k,l,c5,m⟩:=b.out.z.c6) | (go_at_call 48;(with_reducible refine(F.out _ b.out.z).mono ?_);rintro e P ⟨rfl,d⟩;replace b:=aA ((b.out.quiet d).box (.int .i64 t.kd) (.string ⟨t.tx.toArray⟩) (.float .f64 t.nm) (.int .i64 t.f) (.int .i64 t.t) 70);clear g i j k l c5 m;obtain⟨g,i,j,k,l,c5,m⟩:=b.out.z.c6;obtain⟨J,K,L,M,N,O⟩:=b.out.b0;replace b:=aA (b.out.move (b.out.z.setA t.t I r u) ((Ae.refl q _).set 1 _))))
  go_ret;exact⟨rfl,b.out.z,b.out.o⟩
 have a0:isV nx x p=false:=by cases e:isV nx x p;rfl;exact absurd e X
 rw[a0] at B ⊢;rw[if_neg (by decide)];clear h R hP
 go_in
 go_wp2_with (first | (go_at_call 51;(with_reducible refine B.out.mono ?_);rintro e v ⟨rfl,c⟩;replace b:=aA (b.out.quiet c)))
 go_ret;exact⟨rfl,b.out.z,b.out.o⟩
end
section
variable {nx:Nat->Bool->Tk} {pl:Nat->Nat×Nat} {w0 W:World} {q:Nat} {s:ByteArray} {p:Rs}
theorem Acb (b:RlC pl s) (h:Rz w0 q s p W) (t:Tk) (c:t.f<=s.size) :
 Calls prog 54 #[.pointer (some ⟨q,0,none⟩),.agg #[.int .i64 t.kd,.string ⟨t.tx.toArray⟩,.float .f64 t.nm,.int .i64 t.f,.int .i64 t.t]] W fun e a=>e = .returned (.tuple #[])/\Rz w0 q s (Abj pl t p) a/\Ae q W a:=AeW b h t c
def Afm (nx:Nat->Bool->Tk) (pl:Nat->Nat×Nat) (x:List UInt8) (p:Rs):Rs :=
 if p.e=0 then (if isV nx x p=true then Abs pl x (nx p.a false) p else if (nx p.a false).e=0 then Abj pl (nx p.a false) p else Abl pl (nx p.a false).e (nx p.a false).f p) else p
theorem AbK {e:Int} {f:Nat} (h:e≠0):(Abl pl e f p).e≠0:=by unfold Abl;split;exact h;assumption
theorem AhC (x:List UInt8):isR nx x p = .ok (isV nx x p) p:=rfl
theorem Afl (x:List UInt8):takeR nx pl x p = .ok (isV nx x p) (takeS nx pl x p):=by
 unfold takeR takeS;rw[AhC];simp only[RO.bind];by_cases h:isV nx x p=true
 ·rw[if_pos h,if_pos h,h]
 rw[if_neg h,if_neg h,show isV nx x p=false by cases e:isV nx x p;rfl;exact absurd e h]
theorem Ad2 (b:Bool):AbG nx pl b p = .ok (nx p.a b) (AbL pl (nx p.a b) p):=rfl
theorem AhA (x:List UInt8):wantR nx pl x p = .ok () (Afm nx pl x p):=by
 unfold wantR Afm;by_cases b:p.e=0
 ·rw[if_pos b,if_pos b,Afl]
  simp only[RO.bind];by_cases h:isV nx x p=true
  ·rw[if_pos h,if_pos h];unfold takeS;rw[if_pos h]
  rw[if_neg h,if_neg h];unfold takeS;rw[if_neg h,Ad2];simp only[];unfold AbL;by_cases c:(nx p.a false).e=0
  ·rw[if_pos c,if_pos c,if_pos b]
  rw[if_neg c,if_neg c,if_neg (AbK c)]
 rw[if_neg b,if_neg b]
set_option linter.unusedSimpArgs false in
theorem AfU (J:RxC nx s w0) (K:RlC pl s) (h:Rz w0 q s p W) (x:List UInt8) :
  Calls prog 89 #[.pointer (some ⟨q,0,none⟩),.string ⟨x.toArray⟩] W fun e L=>e = .returned (.tuple #[])/\Rz w0 q s (Afm nx pl x p) L/\Ae q W L:=by
 have b:=aA (Fr.start h);have E:=aA J;have B:=aA K;obtain⟨M,-⟩:=J.lim p.a false h.ha;clear h J K;unfold Afm;by_cases C:p.e=0
 ·rw[if_pos C]
  by_cases D:isV nx x p=true
  ·rw[if_pos D]
   have H:takeS nx pl x p=Abs pl x (nx p.a false) p:=by unfold takeS;rw[if_pos D]
   go_in
   go_wp2_with (first | (go_at_call 27;(with_reducible refine(Abw b.out.z C).mono ?_);rintro e n ⟨rfl,rfl⟩) | (go_at_call 88;(with_reducible refine((Acs E.out B.out b.out.z x)).mono ?_);rw[H,D];rintro e n ⟨rfl,d,c⟩;replace b:=aA ((b.out.move d c));clear d c;(try clear g i j k l c5 m);(try clear r u v w y A);(try clear n0 n1 n2 n3 n4 nf);(try clear o0 o1 o2 o3 o4 of);(try clear k0 k1 k2 k3 k4 kf);obtain⟨g,i,j,k,l,c5,m⟩:=b.out.z.c6))
   refine bodyPost_end (results_none rfl _ _ _) rfl ?_;exact⟨rfl,b.out.z,b.out.o⟩
  rw[if_neg D];have G:isV nx x p=false:=by cases e:isV nx x p;rfl;exact absurd e D
  have H:takeS nx pl x p=p:=by unfold takeS;rw[if_neg D]
  by_cases F:(nx p.a false).e=0
  ·rw[if_pos F]
   have I:AbL pl (nx p.a false) p=p:=by unfold AbL;rw[if_pos F]
   go_in
   go_wp2_with (first | (go_at_call 27;(with_reducible refine(Abw b.out.z C).mono ?_);rintro e n ⟨rfl,rfl⟩) | (go_at_call 88;(with_reducible refine((Acs E.out B.out b.out.z x)).mono ?_);rw[H,G];rintro e n ⟨rfl,d,c⟩;replace b:=aA ((b.out.move d c));clear d c;(try clear g i j k l c5 m);(try clear r u v w y A);(try clear n0 n1 n2 n3 n4 nf);(try clear o0 o1 o2 o3 o4 of);(try clear k0 k1 k2 k3 k4 kf);obtain⟨g,i,j,k,l,c5,m⟩:=b.out.z.c6) | (go_at_call 29;(with_reducible refine((Abr E.out B.out b.out.z false)).mono ?_);rw[I];rintro e n ⟨rfl,d,c⟩;replace b:=aA ((b.out.move d c).box (.int .i64 (nx p.a false).kd) (.string ⟨(nx p.a false).tx.toArray⟩) (.float .f64 (nx p.a false).nm) (.int .i64 (nx p.a false).f) (.int .i64 (nx p.a false).t) 70);clear d c;(try clear g i j k l c5 m);(try clear r u v w y A);(try clear n0 n1 n2 n3 n4 nf);(try clear o0 o1 o2 o3 o4 of);(try clear k0 k1 k2 k3 k4 kf);obtain⟨g,i,j,k,l,c5,m⟩:=b.out.z.c6;obtain⟨r,u,v,w,y,A⟩:=b.out.b0;unfold G1) | (go_at_call 54;(with_reducible refine((Acb B.out b.out.z (nx p.a false) M)).mono ?_);rintro e n ⟨rfl,d,c⟩;replace b:=aA ((b.out.move d c));clear d c;(try clear g i j k l c5 m);(try clear r u v w y A);(try clear n0 n1 n2 n3 n4 nf);(try clear o0 o1 o2 o3 o4 of);(try clear k0 k1 k2 k3 k4 kf);obtain⟨g,i,j,k,l,c5,m⟩:=b.out.z.c6))
   refine bodyPost_end (results_none rfl _ _ _) rfl ?_;exact⟨rfl,b.out.z,b.out.o⟩
  rw[if_neg F];have I:AbL pl (nx p.a false) p=Abl pl (nx p.a false).e (nx p.a false).f p:=by unfold AbL;rw[if_neg F]
  go_in
  go_wp2_with (first | (have O:=b.out.z;go_at_call 27;have N:=(Acj O (AbK F));(with_reducible refine N.mono ?_);rintro e n ⟨rfl,rfl⟩) | (go_at_call 27;(with_reducible refine(Abw b.out.z C).mono ?_);rintro e n ⟨rfl,rfl⟩) | (go_at_call 88;(with_reducible refine((Acs E.out B.out b.out.z x)).mono ?_);rw[H,G];rintro e n ⟨rfl,d,c⟩;replace b:=aA ((b.out.move d c));clear d c;(try clear g i j k l c5 m);(try clear r u v w y A);(try clear n0 n1 n2 n3 n4 nf);(try clear o0 o1 o2 o3 o4 of);(try clear k0 k1 k2 k3 k4 kf);obtain⟨g,i,j,k,l,c5,m⟩:=b.out.z.c6) | (go_at_call 29;(with_reducible refine((Abr E.out B.out b.out.z false)).mono ?_);rw[I];rintro e n ⟨rfl,d,c⟩;replace b:=aA ((b.out.move d c).box (.int .i64 (nx p.a false).kd) (.string ⟨(nx p.a false).tx.toArray⟩) (.float .f64 (nx p.a false).nm) (.int .i64 (nx p.a false).f) (.int .i64 (nx p.a false).t) 70);clear d c;(try clear g i j k l c5 m);(try clear r u v w y A);(try clear n0 n1 n2 n3 n4 nf);(try clear o0 o1 o2 o3 o4 of);(try clear k0 k1 k2 k3 k4 kf);obtain⟨g,i,j,k,l,c5,m⟩:=b.out.z.c6;obtain⟨r,u,v,w,y,A⟩:=b.out.b0;unfold G1))
  refine bodyPost_end (results_none rfl _ _ _) rfl ?_;exact⟨rfl,b.out.z,b.out.o⟩
 rw[if_neg C]
 go_in
 go_wp2_with (go_at_call 27;(with_reducible refine(Acj b.out.z C).mono ?_);rintro e n ⟨rfl,rfl⟩)
 refine bodyPost_end (results_none rfl _ _ _) rfl ?_;exact⟨rfl,b.out.z,b.out.o⟩
end
section
variable {nx:Nat->Bool->Tk} {pl:Nat->Nat×Nat} {w0 W:World} {q:Nat} {s:ByteArray} {p:Rs}
set_option linter.unusedSimpArgs false in
theorem AbE (U:RxC nx s w0) (h:Rz w0 q s p W) (x:List UInt8) (n:Nat) (X:linesR nx x n p ≠ .hush) :
  Calls prog 28 #[.pointer (some ⟨q,0,none⟩),.string ⟨x.toArray⟩] W (AbJ q W (linesR nx x n p) fun _ p' v w'=>v = .tuple #[]/\Rz w0 q s p' w'):=by
 have V:=aA (And.intro h (Ae.refl q W));have N:=aA U;obtain⟨r,S⟩:∃r,linesR nx x n p=r:=⟨_,rfl⟩;rw[S] at X ⊢;have j:=aA S;clear S h U
 go_in
 go_wp2_with fail
 go_loopg [] n (fun g wr=>∃(m:Nat) (d:Rs),m=g/\Hid (linesR nx x m d=r)/\Hid (Rz w0 q s d wr/\Ae q W wr))
 case atStart=>exact⟨n,p,rfl,j,V⟩
 obtain⟨m,d,rfl,j,O⟩:=hrel;clear V
 cases m with
 | zero=>exact absurd j.out.symm X
 | succ m =>
 replace j:=j.out;have b:=aA (Fr.start O.out.1);have k:=O.out.2;have ha:=O.out.1.ha;have hd1:=O.out.1.d1;have d0:=O.out.1.d2;obtain⟨hf,Y⟩:=N.out.lim d.a false ha;clear O;obtain⟨l,u,w,A,B,c5,C⟩:=b.out.z.c6;rw[linesR] at j;by_cases L:d.e=0
 ·rw[if_pos L] at j
  by_cases K:(nx d.a false).e=0
  ·have f0:=N.out.ok d.a false ha K
   unfold isS at j;rcases Xt (nx d.a false).kd 1 with⟨k1,-,b1⟩ | ⟨k1,-,b1⟩
   ·rw[if_pos ⟨K,.inl k1⟩] at j
    clear k1
    go_wp2_with (first | (go_at_call 27;(with_reducible refine(Abw b.out.z L).mono ?_);rintro e D ⟨rfl,rfl⟩) | (go_at_call 48;(with_reducible refine(Abz N.out b.out.z d.a ha K).mono ?_);rintro e D ⟨rfl,i⟩;replace b:=aA ((b.out.quiet i).box (.int .i64 (nx d.a false).kd) (.string ⟨(nx d.a false).tx.toArray⟩) (.float .f64 (nx d.a false).nm) (.int .i64 (nx d.a false).f) (.int .i64 (nx d.a false).t) 70);clear i;(try clear l u w A B c5 C);(try clear E F G H I J);(try clear n0 n1 n2 n3 n4 nf);(try clear o0 o1 o2 o3 o4 of);(try clear k0 k1 k2 k3 k4 kf);obtain⟨l,u,w,A,B,c5,C⟩:=b.out.z.c6;obtain⟨E,F,G,H,I,J⟩:=b.out.b0;unfold G1))
    go_roundg m
    case rel=>exact⟨m,_,rfl,aA j,aA ⟨b.out.z.setA _ Y (by omega) (by omega),k.trans (b.out.o.trans ((Ae.refl q _).set 1 _))⟩⟩
    all_goals omega
   rcases x with _ | ⟨c,x⟩
   ·rw[if_neg (by simp[k1])] at j
    clear k1
    go_wp2_with (first | (go_at_call 27;(with_reducible refine(Abw b.out.z L).mono ?_);rintro e D ⟨rfl,rfl⟩) | (go_at_call 48;(with_reducible refine(Abz N.out b.out.z d.a ha K).mono ?_);rintro e D ⟨rfl,i⟩;replace b:=aA ((b.out.quiet i).box (.int .i64 (nx d.a false).kd) (.string ⟨(nx d.a false).tx.toArray⟩) (.float .f64 (nx d.a false).nm) (.int .i64 (nx d.a false).f) (.int .i64 (nx d.a false).t) 70);clear i;(try clear l u w A B c5 C);(try clear E F G H I J);(try clear n0 n1 n2 n3 n4 nf);(try clear o0 o1 o2 o3 o4 of);(try clear k0 k1 k2 k3 k4 kf);obtain⟨l,u,w,A,B,c5,C⟩:=b.out.z.c6;obtain⟨E,F,G,H,I,J⟩:=b.out.b0;unfold G1))
    refine bodyPost_ret (results_none rfl _ _ _) rfl ?_;exact Abx (aA j) ⟨rfl,b.out.z⟩ (k.trans b.out.o)
   generalize Q:c::x=y at *;have e0:(y==[])=false:=by rw[<- Q];rfl
   have a0:(y != [])=true:=by rw[<- Q];rfl
   have T:y.isEmpty=false:=by rw[<- Q];rfl
   have M:y≠[]:=by rw[<- Q];exact List.cons_ne_nil _ _
   clear Q;rcases Xt (nx d.a false).kd 9 with⟨P,Z,-⟩ | ⟨P,Z,-⟩
   ·rcases J0 (nx d.a false).tx y with⟨R,e1⟩ | ⟨R,e1⟩
    ·rw[if_pos ⟨K,.inr ⟨M,by rw[decide_eq_true P,decide_eq_true R];rfl⟩⟩] at j
     clear k1 P R M
     go_wp2_with (first | (go_at_call 27;(with_reducible refine(Abw b.out.z L).mono ?_);rintro e D ⟨rfl,rfl⟩) | (go_at_call 48;(with_reducible refine(Abz N.out b.out.z d.a ha K).mono ?_);rintro e D ⟨rfl,i⟩;replace b:=aA ((b.out.quiet i).box (.int .i64 (nx d.a false).kd) (.string ⟨(nx d.a false).tx.toArray⟩) (.float .f64 (nx d.a false).nm) (.int .i64 (nx d.a false).f) (.int .i64 (nx d.a false).t) 70);clear i;(try clear l u w A B c5 C);(try clear E F G H I J);(try clear n0 n1 n2 n3 n4 nf);(try clear o0 o1 o2 o3 o4 of);(try clear k0 k1 k2 k3 k4 kf);obtain⟨l,u,w,A,B,c5,C⟩:=b.out.z.c6;obtain⟨E,F,G,H,I,J⟩:=b.out.b0;unfold G1))
     go_roundg m
     case rel=>exact⟨m,_,rfl,aA j,aA ⟨b.out.z.setA _ Y (by omega) (by omega),k.trans (b.out.o.trans ((Ae.refl q _).set 1 _))⟩⟩
     all_goals omega
    rw[if_neg (by simp[k1,R])] at j;clear k1 P R M
    go_wp2_with (first | (go_at_call 27;(with_reducible refine(Abw b.out.z L).mono ?_);rintro e D ⟨rfl,rfl⟩) | (go_at_call 48;(with_reducible refine(Abz N.out b.out.z d.a ha K).mono ?_);rintro e D ⟨rfl,i⟩;replace b:=aA ((b.out.quiet i).box (.int .i64 (nx d.a false).kd) (.string ⟨(nx d.a false).tx.toArray⟩) (.float .f64 (nx d.a false).nm) (.int .i64 (nx d.a false).f) (.int .i64 (nx d.a false).t) 70);clear i;(try clear l u w A B c5 C);(try clear E F G H I J);(try clear n0 n1 n2 n3 n4 nf);(try clear o0 o1 o2 o3 o4 of);(try clear k0 k1 k2 k3 k4 kf);obtain⟨l,u,w,A,B,c5,C⟩:=b.out.z.c6;obtain⟨E,F,G,H,I,J⟩:=b.out.b0;unfold G1))
    refine bodyPost_ret (results_none rfl _ _ _) rfl ?_;exact Abx (aA j) ⟨rfl,b.out.z⟩ (k.trans b.out.o)
   rw[if_neg (by simp[k1,P])] at j;clear k1 P M
   go_wp2_with (first | (go_at_call 27;(with_reducible refine(Abw b.out.z L).mono ?_);rintro e D ⟨rfl,rfl⟩) | (go_at_call 48;(with_reducible refine(Abz N.out b.out.z d.a ha K).mono ?_);rintro e D ⟨rfl,i⟩;replace b:=aA ((b.out.quiet i).box (.int .i64 (nx d.a false).kd) (.string ⟨(nx d.a false).tx.toArray⟩) (.float .f64 (nx d.a false).nm) (.int .i64 (nx d.a false).f) (.int .i64 (nx d.a false).t) 70);clear i;(try clear l u w A B c5 C);(try clear E F G H I J);(try clear n0 n1 n2 n3 n4 nf);(try clear o0 o1 o2 o3 o4 of);(try clear k0 k1 k2 k3 k4 kf);obtain⟨l,u,w,A,B,c5,C⟩:=b.out.z.c6;obtain⟨E,F,G,H,I,J⟩:=b.out.b0;unfold G1))
   refine bodyPost_ret (results_none rfl _ _ _) rfl ?_;exact Abx (aA j) ⟨rfl,b.out.z⟩ (k.trans b.out.o)
  rw[if_neg (fun c=>K c.1)] at j
  go_wp2_with (first | (go_at_call 27;(with_reducible refine(Abw b.out.z L).mono ?_);rintro e D ⟨rfl,rfl⟩) | (go_at_call 48;(with_reducible refine(Ac6 N.out b.out.z d.a ha K).mono ?_);rintro e D ⟨rfl,i⟩;replace b:=aA ((b.out.quiet i).box (.int .i64 (nx d.a false).kd) (.string ⟨(nx d.a false).tx.toArray⟩) (.float .f64 (nx d.a false).nm) (.int .i64 (nx d.a false).f) (.int .i64 (nx d.a false).t) 70);clear i;(try clear l u w A B c5 C);(try clear E F G H I J);(try clear n0 n1 n2 n3 n4 nf);(try clear o0 o1 o2 o3 o4 of);(try clear k0 k1 k2 k3 k4 kf);obtain⟨l,u,w,A,B,c5,C⟩:=b.out.z.c6;obtain⟨E,F,G,H,I,J⟩:=b.out.b0;unfold G1))
  refine bodyPost_ret (results_none rfl _ _ _) rfl ?_;exact Abx (aA j) ⟨rfl,b.out.z⟩ (k.trans b.out.o)
 rw[if_neg L] at j
 go_wp2_with (first | (go_at_call 27;(with_reducible refine(Acj b.out.z L).mono ?_);rintro e D ⟨rfl,rfl⟩))
 refine bodyPost_end (results_none rfl _ _ _) rfl ?_;exact Abx (aA j) ⟨rfl,b.out.z⟩ (k.trans b.out.o)
end
section
variable {nx:Nat->Bool->Tk} {pl:Nat->Nat×Nat} {w0 W:World} {q:Nat} {s:ByteArray} {p:Rs}
def Afb (nx:Nat->Bool->Tk) (pl:Nat->Nat×Nat) (p:Rs):Rs:=if p.e=0 then (if (nx p.a false).e=0 then if (nx p.a false).kd=5 then { p with a:=(nx p.a false).t } else Abj pl (nx p.a false) p else Abl pl (nx p.a false).e (nx p.a false).f p) else p
theorem Aev (t:Tk):(Abj pl t p).e≠0:=by unfold Abj;split<;>exact AbK (by decide)
theorem Ahg {e:Int} {f:Nat} (h:p.e≠0):Abl pl e f p=p:=by unfold Abl;rw[if_neg h]
theorem Ad3 (t:Tk) (h:p.e≠0):AbL pl t p=p:=by unfold AbL;split;rfl;exact Ahg h
theorem Ahw:nameR nx pl p = .ok (nx p.a false) (Afb nx pl p):=by
 unfold nameR Afb;rw[Ad2];simp only[RO.bind];by_cases b:p.e=0
 ·rw[if_pos b]
  by_cases d:(nx p.a false).e=0
  ·have h:AbL pl (nx p.a false) p=p:=by unfold AbL;rw[if_pos d]
   rw[h,if_pos d];by_cases g:(nx p.a false).kd=5
   ·rw[if_neg (fun c=>c.2 g),if_pos g,if_pos b]
   rw[if_pos ⟨b,g⟩,if_neg g,if_neg (Aev _)]
  have h:AbL pl (nx p.a false) p=Abl pl (nx p.a false).e (nx p.a false).f p:=by unfold AbL;rw[if_neg d]
  rw[h,if_neg d,if_neg (fun c=>AbK d c.1),if_neg (AbK d)]
 rw[if_neg b,Ad3 _ b,if_neg (fun c=>b c.1),if_neg b]
set_option linter.unusedSimpArgs false in
theorem AfR (U:RxC nx s w0) (hP:RlC pl s) (h:Rz w0 q s p W) :
  Calls prog 90 #[.pointer (some ⟨q,0,none⟩)] W fun e w'=>e = .returned (G1 (nx p.a false))/\Rz w0 q s (Afb nx pl p) w'/\Ae q W w':=by
 have b:=aA (Fr.start1 h (.int .i64 0) (.string ⟨#[]⟩) (.float .f64 0) (.int .i64 0) (.int .i64 0) 70);have T:=aA U;have Q:=aA hP;have ha:=h.ha;have hd1:=h.d1;have a0:=h.d2;obtain⟨hf,ht⟩:=U.lim p.a false ha;have R:=U.ok p.a false ha;clear h U hP;unfold Afb;obtain⟨g,i,j,k,l,c5,m⟩:=b.out.z.c6;by_cases H:p.e=0
 ·rw[if_pos H]
  by_cases O:(nx p.a false).e=0
  ·have P:AbL pl (nx p.a false) p=p:=by unfold AbL;rw[if_pos O]
   obtain⟨g1,g2,-,-⟩:=R O;have X : -(((nx p.a false).t:Nat):Int)<=p.o:=(by omega);have Y:p.o<=(((nx p.a false).t:Nat):Int):=(by omega);rw[if_pos O];clear R;rcases Xt (nx p.a false).kd 5 with⟨S,-,b5⟩ | ⟨S,-,b5⟩
   ·rw[if_pos S];clear S
    have I:True:=trivial
    go_in
    go_wp2_with (first | (go_at_call 27;(first | (with_reducible refine(Abw b.out.z H).mono ?_) | (with_reducible refine(Acj b.out.z I).mono ?_));rintro e G ⟨rfl,rfl⟩) | (go_at_call 29;(with_reducible refine((Abr T.out Q.out b.out.z false)).mono ?_);rw[P];rintro e G ⟨rfl,d,c⟩;replace b:=aA ((b.out.move d c).box (.int .i64 (nx p.a false).kd) (.string ⟨(nx p.a false).tx.toArray⟩) (.float .f64 (nx p.a false).nm) (.int .i64 (nx p.a false).f) (.int .i64 (nx p.a false).t) 70);clear d c;(try clear g i j k l c5 m);(try clear n r u w x y);(try clear A B C D E F);(try clear o0 o1 o2 o3 o4 of);(try clear k0 k1 k2 k3 k4 kf);obtain⟨g,i,j,k,l,c5,m⟩:=b.out.z.c6;obtain⟨n,r,u,w,x,y⟩:=b.out.b0;obtain⟨A,B,C,D,E,F⟩:=b.out.b1;unfold G1;have V:=aA (b.out.move (b.out.z.setA (nx p.a false).t ht X Y) ((Ae.refl q _).set 1 _));obtain⟨d0,e0,f0,g0,i0,j0⟩:=V.out.b0;obtain⟨l0,p0,q0,r0,s0,t0⟩:=V.out.b1))
    replace b:=V;obtain⟨J,K,L,M,N,Z⟩:=((((b.out.b1.set0 (.int .i64 (nx p.a false).kd)).set1 (.string ⟨(nx p.a false).tx.toArray⟩)).set2 (.float .f64 (nx p.a false).nm)).set3 (.int .i64 (nx p.a false).f)).set4 (.int .i64 (nx p.a false).t);replace b:=aA (b.out.store1 (.int .i64 (nx p.a false).kd) (.string ⟨(nx p.a false).tx.toArray⟩) (.float .f64 (nx p.a false).nm) (.int .i64 (nx p.a false).f) (.int .i64 (nx p.a false).t));exact bodyPost_ret (v:=G1 (nx p.a false)) (by simp[G1,results,results90,go_sem,J,K,L,M,N]<;>exact rfl) rfl ⟨rfl,b.out.z,b.out.o⟩
   rw[if_neg S];clear S;have I:=Aev (pl:=pl) (p:=p) (nx p.a false)
   go_in
   go_wp2_with (first | (go_at_call 27;(first | (with_reducible refine(Abw b.out.z H).mono ?_) | (with_reducible refine(Acj b.out.z I).mono ?_));rintro e G ⟨rfl,rfl⟩) | (go_at_call 29;(with_reducible refine((Abr T.out Q.out b.out.z false)).mono ?_);rw[P];rintro e G ⟨rfl,d,c⟩;replace b:=aA ((b.out.move d c).box (.int .i64 (nx p.a false).kd) (.string ⟨(nx p.a false).tx.toArray⟩) (.float .f64 (nx p.a false).nm) (.int .i64 (nx p.a false).f) (.int .i64 (nx p.a false).t) 70);clear d c;(try clear g i j k l c5 m);(try clear n r u w x y);(try clear A B C D E F);(try clear o0 o1 o2 o3 o4 of);(try clear k0 k1 k2 k3 k4 kf);obtain⟨g,i,j,k,l,c5,m⟩:=b.out.z.c6;obtain⟨n,r,u,w,x,y⟩:=b.out.b0;obtain⟨A,B,C,D,E,F⟩:=b.out.b1;unfold G1) | (go_at_call 54;(with_reducible refine((Acb Q.out b.out.z (nx p.a false) hf)).mono ?_);rintro e G ⟨rfl,d,c⟩;replace b:=aA ((b.out.move d c));clear d c;(try clear g i j k l c5 m);(try clear n r u w x y);(try clear A B C D E F);(try clear o0 o1 o2 o3 o4 of);(try clear k0 k1 k2 k3 k4 kf);obtain⟨g,i,j,k,l,c5,m⟩:=b.out.z.c6;obtain⟨n,r,u,w,x,y⟩:=b.out.b0;obtain⟨A,B,C,D,E,F⟩:=b.out.b1))
   obtain⟨J,K,L,M,N,Z⟩:=((((b.out.b1.set0 (.int .i64 (nx p.a false).kd)).set1 (.string ⟨(nx p.a false).tx.toArray⟩)).set2 (.float .f64 (nx p.a false).nm)).set3 (.int .i64 (nx p.a false).f)).set4 (.int .i64 (nx p.a false).t);replace b:=aA (b.out.store1 (.int .i64 (nx p.a false).kd) (.string ⟨(nx p.a false).tx.toArray⟩) (.float .f64 (nx p.a false).nm) (.int .i64 (nx p.a false).f) (.int .i64 (nx p.a false).t));exact bodyPost_ret (v:=G1 (nx p.a false)) (by simp[G1,results,results90,go_sem,J,K,L,M,N]<;>exact rfl) rfl ⟨rfl,b.out.z,b.out.o⟩
  rw[if_neg O];have P:AbL pl (nx p.a false) p=Abl pl (nx p.a false).e (nx p.a false).f p:=by unfold AbL;rw[if_neg O]
  have I:=AbK (pl:=pl) (p:=p) (f:=(nx p.a false).f) O
  go_in
  go_wp2_with (first | (go_at_call 27;(first | (with_reducible refine(Abw b.out.z H).mono ?_) | (with_reducible refine(Acj b.out.z I).mono ?_));rintro e G ⟨rfl,rfl⟩) | (go_at_call 29;(with_reducible refine((Abr T.out Q.out b.out.z false)).mono ?_);rw[P];rintro e G ⟨rfl,d,c⟩;replace b:=aA ((b.out.move d c).box (.int .i64 (nx p.a false).kd) (.string ⟨(nx p.a false).tx.toArray⟩) (.float .f64 (nx p.a false).nm) (.int .i64 (nx p.a false).f) (.int .i64 (nx p.a false).t) 70);clear d c;(try clear g i j k l c5 m);(try clear n r u w x y);(try clear A B C D E F);(try clear o0 o1 o2 o3 o4 of);(try clear k0 k1 k2 k3 k4 kf);obtain⟨g,i,j,k,l,c5,m⟩:=b.out.z.c6;obtain⟨n,r,u,w,x,y⟩:=b.out.b0;obtain⟨A,B,C,D,E,F⟩:=b.out.b1;unfold G1))
  obtain⟨J,K,L,M,N,Z⟩:=((((b.out.b1.set0 (.int .i64 (nx p.a false).kd)).set1 (.string ⟨(nx p.a false).tx.toArray⟩)).set2 (.float .f64 (nx p.a false).nm)).set3 (.int .i64 (nx p.a false).f)).set4 (.int .i64 (nx p.a false).t);replace b:=aA (b.out.store1 (.int .i64 (nx p.a false).kd) (.string ⟨(nx p.a false).tx.toArray⟩) (.float .f64 (nx p.a false).nm) (.int .i64 (nx p.a false).f) (.int .i64 (nx p.a false).t));exact bodyPost_ret (v:=G1 (nx p.a false)) (by simp[G1,results,results90,go_sem,J,K,L,M,N]<;>exact rfl) rfl ⟨rfl,b.out.z,b.out.o⟩
 rw[if_neg H];have P:=Ad3 (pl:=pl) (nx p.a false) H;have I:=H
 go_in
 go_wp2_with (first | (go_at_call 27;(first | (with_reducible refine(Acj b.out.z I).mono ?_));rintro e G ⟨rfl,rfl⟩) | (go_at_call 29;(with_reducible refine((Abr T.out Q.out b.out.z false)).mono ?_);rw[P];rintro e G ⟨rfl,d,c⟩;replace b:=aA ((b.out.move d c).box (.int .i64 (nx p.a false).kd) (.string ⟨(nx p.a false).tx.toArray⟩) (.float .f64 (nx p.a false).nm) (.int .i64 (nx p.a false).f) (.int .i64 (nx p.a false).t) 70);clear d c;(try clear g i j k l c5 m);(try clear n r u w x y);(try clear A B C D E F);(try clear o0 o1 o2 o3 o4 of);(try clear k0 k1 k2 k3 k4 kf);obtain⟨g,i,j,k,l,c5,m⟩:=b.out.z.c6;obtain⟨n,r,u,w,x,y⟩:=b.out.b0;obtain⟨A,B,C,D,E,F⟩:=b.out.b1;unfold G1))
 obtain⟨J,K,L,M,N,Z⟩:=((((b.out.b1.set0 (.int .i64 (nx p.a false).kd)).set1 (.string ⟨(nx p.a false).tx.toArray⟩)).set2 (.float .f64 (nx p.a false).nm)).set3 (.int .i64 (nx p.a false).f)).set4 (.int .i64 (nx p.a false).t);replace b:=aA (b.out.store1 (.int .i64 (nx p.a false).kd) (.string ⟨(nx p.a false).tx.toArray⟩) (.float .f64 (nx p.a false).nm) (.int .i64 (nx p.a false).f) (.int .i64 (nx p.a false).t));exact bodyPost_ret (v:=G1 (nx p.a false)) (by simp[G1,results,results90,go_sem,J,K,L,M,N]<;>exact rfl) rfl ⟨rfl,b.out.z,b.out.o⟩
set_option linter.unusedSimpArgs false in
theorem AbY (b:RlC pl s) (h:Rz w0 q s p W) (t:Tk) (i:t.f<=s.size) :
  Calls prog 109 #[.pointer (some ⟨q,0,none⟩),.agg #[.int .i64 t.kd,.string ⟨t.tx.toArray⟩,.float .f64 t.nm,.int .i64 t.f,.int .i64 t.t]] W fun e k=>e = .returned (.complex .f64 (pl t.f).1 (pl t.f).2)/\Below W.heap.size W k:=by
 have a:=aA (Fr.start1 h (.int .i64 t.kd) (.string ⟨t.tx.toArray⟩) (.float .f64 t.nm) (.int .i64 t.f) (.int .i64 t.t) 70).drew;have c:=aA (AC W (.cells #[.int .i64 t.kd,.string ⟨t.tx.toArray⟩,.float .f64 t.nm,.int .i64 t.f,.int .i64 t.t] 70));have d:=aA (fun w=>b t.f w i);obtain⟨g,-⟩:=a.out.z.c6;obtain⟨-,-,-,j,-⟩:=a.out.b0;clear h b
 go_in
 go_wp2_with fail
 go_region_held3 (fun o=>o.cell? ⟨q,0,none⟩=some (.string s)/\o.cell? ⟨W.heap.size,3,none⟩=some (.int .i64 t.f)) (first | with_reducible exact⟨g,j⟩)
  (first | (go_at_call 86;refine(d.out _).mono ?_;rintro e l ⟨rfl,rfl⟩))
 go_wp2;go_ret;exact⟨rfl,c.out⟩
end
section
variable {nx:Nat->Bool->Tk} {pl:Nat->Nat×Nat} {w0 W:World} {q:Nat} {s:ByteArray} {p:Rs}
set_option linter.unusedSimpArgs false in
theorem AfQ (V:RxC nx s w0) (hP:RlC pl s) (h:Rz w0 q s p W) (r:Bool) :
  Calls prog 87 #[.pointer (some ⟨q,0,none⟩),.bool r] W fun e w'=>e = .returned (.tuple #[G1 (nx p.a r),.complex .f64 (pl (nx p.a r).f).1 (pl (nx p.a r).f).2])/\Rz w0 q s p w'/\Ae q W w':=by
 have A:=aA (V.call p.a r);have ha:=h.ha;obtain⟨w,-⟩:=V.lim p.a r ha;obtain⟨t,et⟩:∃t,nx p.a r=t:=⟨_,rfl⟩;rw[et] at A w ⊢;clear et V;have B:=aA hP;have b:=aA (Fr.start1 h (.int .i64 0) (.string ⟨#[]⟩) (.float .f64 0) (.int .i64 0) (.int .i64 0) 70);have u:=aA b.out.drew;have i:=aA (b.out.box (.int .i64 0) (.string ⟨#[]⟩) (.float .f64 0) (.int .i64 0) (.int .i64 0) 70).drew;obtain⟨k0,k1,-⟩:=u.out.z.c6;obtain⟨x,y,-⟩:=i.out.z.c6;have k:=aA u.out.z.below;have l:=aA i.out.z.below;have C:=aA i.out.b0;have hq:q≠W.heap.size+1:=by have:=h.lt;omega
 have X:=aA (show (W.alloc (.cells #[.int .i64 0,.string ⟨#[]⟩,.float .f64 0,.int .i64 0,.int .i64 0] 70)).heap.size=W.heap.size+1 by simp);rw[X.out] at C i;clear h hP b;unfold G1 at A ⊢
 go_in
 go_wp2_with fail
 go_region_held3 (fun o=>o.cell? ⟨q,0,none⟩=some (.string s)/\o.cell? ⟨q,1,none⟩=some (.int .i64 p.a))
  (first | with_reducible exact⟨k0,k1⟩ | with_reducible exact⟨x,y⟩ | with_reducible exact⟨Aa k0 g,Aa k1 g⟩ | with_reducible exact⟨Az (Aa k0 g) _,Az (Aa k1 g) _⟩ | with_reducible exact⟨Em (Aa x d) hq,Em (Aa y d) hq⟩ | with_reducible exact⟨Aa x d,Aa y d⟩)
  (first | (go_at_call 49;refine(A.out _ ha k.out).mono ?_;rintro e w1 ⟨rfl,g⟩) | (go_at_call 49;refine(A.out _ ha l.out).mono ?_;rintro e w2 ⟨rfl,d⟩;obtain⟨D,E,F,G,H,I⟩:=C.out.below d))
 ·have b:=aA ((u.out.quiet g).box (.int .i64 t.kd) (.string ⟨t.tx.toArray⟩) (.float .f64 t.nm) (.int .i64 t.f) (.int .i64 t.t) 70)
  clear k0 k1 x y k l C u i X;generalize n:w1.heap.size=bx at *;clear n
  (try clear P Q R S T c5 U);(try clear D E F G H I);(try clear Y Z n2 n3 n4 nf);(try clear o0 o1 o2 o3 o4 of);(try clear k0 k1 k2 k3 k4 kf);obtain⟨P,Q,R,S,T,c5,U⟩:=b.out.z.c6;obtain⟨D,E,F,G,H,I⟩:=b.out.b0;obtain⟨Y,Z,n2,n3,n4,nf⟩:=b.out.b1
  go_wp2_with fail
  replace b:=aA b.out.drew;obtain⟨y0,y1,y2,y3,y4,yf⟩:=b.out.b0;obtain⟨v0,v1,v2,v3,v4,vf⟩:=b.out.b1;have j:=aA (b.out.store1 (.int .i64 t.kd) (.string ⟨t.tx.toArray⟩) (.float .f64 t.nm) (.int .i64 t.f) (.int .i64 t.t));obtain⟨u0,u1,u2,u3,u4,uf⟩:=j.out.b0
  go_region_held3 (fun o=>o.cell? ⟨bx,0,none⟩=some (.int .i64 t.kd)/\o.cell? ⟨bx,1,none⟩=some (.string ⟨t.tx.toArray⟩)/\o.cell? ⟨bx,2,none⟩=some (.float .f64 t.nm)/\o.cell? ⟨bx,3,none⟩=some (.int .i64 t.f)/\o.cell? ⟨bx,4,none⟩=some (.int .i64 t.t)) (first | with_reducible exact⟨y0,y1,y2,y3,y4⟩ | with_reducible exact⟨u0,u1,u2,u3,u4⟩ | with_reducible exact⟨s0,s1,s2,s3,s4⟩ | with_reducible exact⟨J,K,L,M,N⟩ | with_reducible exact⟨b0,b1,b2,b3,O⟩)
   (first | (go_at_call 109;refine(AbY B.out b.out.z t w).mono ?_;rintro e w3 ⟨rfl,c⟩;obtain⟨r0,r1,r2,r3,r4,rf⟩:=(b.out.quiet c).b1;obtain⟨s0,s1,s2,s3,s4,sf⟩:=(b.out.quiet c).b0;obtain⟨J,K,L,M,N,af⟩:=((b.out.quiet c).store1 (.int .i64 t.kd) (.string ⟨t.tx.toArray⟩) (.float .f64 t.nm) (.int .i64 t.f) (.int .i64 t.t)).b0) | (go_at_call 109;refine(AbY B.out j.out.z t w).mono ?_;rintro e w4 ⟨rfl,m⟩;obtain⟨b0,b1,b2,b3,O,bf⟩:=(j.out.quiet m).b0))
  all_goals go_wp2
  replace b:=aA ((b.out.quiet c).store1 (.int .i64 t.kd) (.string ⟨t.tx.toArray⟩) (.float .f64 t.nm) (.int .i64 t.f) (.int .i64 t.t));obtain⟨z0,z1,z2,z3,z4,zf⟩:=b.out.b1;exact bodyPost_ret (v:=.tuple #[G1 t,.complex .f64 (pl t.f).1 (pl t.f).2]) (by simp[G1,results,results87,go_sem,z0,z1,z2,z3,z4]<;>exact rfl) rfl ⟨rfl,b.out.z,b.out.o⟩
 have b:=aA ((i.out.quiet d).store (.int .i64 t.kd) (.string ⟨t.tx.toArray⟩) (.float .f64 t.nm) (.int .i64 t.f) (.int .i64 t.t));clear k0 k1 x y k l C u i X;generalize n:W.heap.size+1=bx at *;clear n
 (try clear P Q R S T c5 U);(try clear D E F G H I);(try clear Y Z n2 n3 n4 nf);(try clear o0 o1 o2 o3 o4 of);(try clear k0 k1 k2 k3 k4 kf);obtain⟨P,Q,R,S,T,c5,U⟩:=b.out.z.c6;obtain⟨D,E,F,G,H,I⟩:=b.out.b0;obtain⟨Y,Z,n2,n3,n4,nf⟩:=b.out.b1
 go_wp2_with fail
 replace b:=aA b.out.drew;obtain⟨y0,y1,y2,y3,y4,yf⟩:=b.out.b0;obtain⟨v0,v1,v2,v3,v4,vf⟩:=b.out.b1;have j:=aA (b.out.store1 (.int .i64 t.kd) (.string ⟨t.tx.toArray⟩) (.float .f64 t.nm) (.int .i64 t.f) (.int .i64 t.t));obtain⟨u0,u1,u2,u3,u4,uf⟩:=j.out.b0
 go_region_held3 (fun o=>o.cell? ⟨bx,0,none⟩=some (.int .i64 t.kd)/\o.cell? ⟨bx,1,none⟩=some (.string ⟨t.tx.toArray⟩)/\o.cell? ⟨bx,2,none⟩=some (.float .f64 t.nm)/\o.cell? ⟨bx,3,none⟩=some (.int .i64 t.f)/\o.cell? ⟨bx,4,none⟩=some (.int .i64 t.t)) (first | with_reducible exact⟨y0,y1,y2,y3,y4⟩ | with_reducible exact⟨u0,u1,u2,u3,u4⟩ | with_reducible exact⟨s0,s1,s2,s3,s4⟩ | with_reducible exact⟨J,K,L,M,N⟩ | with_reducible exact⟨b0,b1,b2,b3,O⟩)
  (first | (go_at_call 109;refine(AbY B.out b.out.z t w).mono ?_;rintro e w3 ⟨rfl,c⟩;obtain⟨r0,r1,r2,r3,r4,rf⟩:=(b.out.quiet c).b1;obtain⟨s0,s1,s2,s3,s4,sf⟩:=(b.out.quiet c).b0;obtain⟨J,K,L,M,N,af⟩:=((b.out.quiet c).store1 (.int .i64 t.kd) (.string ⟨t.tx.toArray⟩) (.float .f64 t.nm) (.int .i64 t.f) (.int .i64 t.t)).b0) | (go_at_call 109;refine(AbY B.out j.out.z t w).mono ?_;rintro e w4 ⟨rfl,m⟩;obtain⟨b0,b1,b2,b3,O,bf⟩:=(j.out.quiet m).b0))
 all_goals go_wp2
 replace b:=aA ((b.out.quiet c).store1 (.int .i64 t.kd) (.string ⟨t.tx.toArray⟩) (.float .f64 t.nm) (.int .i64 t.f) (.int .i64 t.t));obtain⟨z0,z1,z2,z3,z4,zf⟩:=b.out.b1;exact bodyPost_ret (v:=.tuple #[G1 t,.complex .f64 (pl t.f).1 (pl t.f).2]) (by simp[G1,results,results87,go_sem,z0,z1,z2,z3,z4]<;>exact rfl) rfl ⟨rfl,b.out.z,b.out.o⟩
end
end Go.Proofs.YtfblenhlildnaaaGreatDoor
