/- Bu Bv Bw -/
import Derived.Test.YtjolfpcpcaocmaaGreatDoorBt
set_option maxRecDepth 100000
set_option maxHeartbeats 2000000
open Go.Lib renaming hid->aA
namespace Go.Proofs.YtjolfpcpcaocmaaGreatDoor
open Go.Proofs.Tryz
open Go.RowKit
theorem Zv (nx:Nat->Bool->Tk) (x:List UInt8) (p:Ps) {b:Type} (k:Bool->Ps->Hf b) :
  (NV nx x p).bind k=if (nx p.a false).e=0 then k (EP (nx p.a false) x) p else .bad (nx p.a false).f (nx p.a false).e:=by
 unfold NV;rw[N1];by_cases h:(nx p.a false).e=0
 ·rw[if_pos h,if_pos h];rfl
 rw[if_neg h,if_neg h];rfl
theorem X_ {nx:Nat->Bool->Tk} {pl:Nat->Nat×Nat} {a:List UInt8->Option Bool} {k:World} {q:Nat} {s:ByteArray} (n:Nat)
  (j:NC nx pl a k q s n .post 143) (p:Ps) (W:World) (h:Pz k q s p W) {f:Nat} {i:Int} (c:Dn nx pl a n .post p = .bad f i) :
  Calls prog 142 #[.pointer (some ⟨q,0,none⟩)] W fun e l=>e = .panicked (T3 f i)/\Ae q W l:=by
 have g:=aA (Ad W (.cells #[.int .i64 0,.string ⟨#[]⟩,.float .f64 0,.slice none 0 0,.complex .f64 0 0] 34));have d:=aA (j p _ (h.keep g.out) (by rw[c];intro h;cases h));rw[c] at d;clear j h c
 go_in
 go_wp2_with (first | (go_at_call 143;(with_reducible refine d.out.mono ?_);rintro e m ⟨rfl,b⟩))
 exact⟨rfl,rfl,(Ae.of_below q g.out).trans b⟩
theorem X' {nx:Nat->Bool->Tk} {pl:Nat->Nat×Nat} {b:List UInt8->Option Bool} {d:World} {q:Nat} {s:ByteArray} (v:F2 nx s d) (n:Nat)
  (w:NC nx pl b d q s n .post 143) (p:Ps) (W:World) (h:Pz d q s p W) {l:List Tr} {c:Ps} (m:Dn nx pl b n .post p = .ok l c) (t:¬ (nx c.a false).e=0) :
  Calls prog 142 #[.pointer (some ⟨q,0,none⟩)] W fun e y=>e = .panicked (T3 (nx c.a false).f (nx c.a false).e)/\Ae q W y:=by
 have r:=aA (Ad W (.cells #[.int .i64 0,.string ⟨#[]⟩,.float .f64 0,.slice none 0 0,.complex .f64 0 0] 34));have o:=aA (w p _ (h.keep r.out) (by rw[m];intro h;cases h));rw[m] at o;have x:=aA (fun W (h:Pz d q s c W)=>X4 v h [94] t);clear v w h m t
 go_in
 go_wp2_with (first | (go_at_call 143;(with_reducible refine o.out.mono ?_);rintro e C ⟨B,rfl,⟨⟨u,A,rfl,rfl,i⟩,k⟩,j⟩;obtain⟨ka,z,rfl⟩:=i.slice;unfold CJ) | (go_at_call 19;(with_reducible refine(x.out _ (k.keep (Ad _ _))).mono ?_);rintro e D ⟨rfl,g⟩))
 exact⟨rfl,rfl,((Ae.of_below q r.out).trans j).trans ((Ae.of_below q (Ad _ _)).trans (Ae.of_below q g))⟩
theorem Yc {nx:Nat->Bool->Tk} {pl:Nat->Nat×Nat} {c:List UInt8->Option Bool} {o:World} {q:Nat} {s:ByteArray} (r:F2 nx s o) (t:PlC pl s) (n:Nat)
  (m:NC nx pl c o q s n .post 143) (u:NC nx pl c o q s n .unary 139):NC nx pl c o q s (n+1) .power 142:=by
 intro p W h b;rw[Dn] at b ⊢
 cases i:Dn nx pl c n .post p with
 | hush=>rw[i] at b;exact absurd rfl b
 | bad f e=>exact X_ n m p W h i
 | ok l j =>
   rw[i] at b;simp only[Hf.bind] at b;show Calls _ _ _ _ (HJ q W ((NV nx [94] j).bind _) _);change (NV nx [94] j).bind _ ≠ .hush at b;rw[Zv] at b ⊢;by_cases g:(nx j.a false).e=0
   ·rw[if_pos g] at b ⊢
    cases d:EP (nx j.a false) [94] with
    | false=>exact Ya r n m p W h i g d
    | true =>
      rw[d,if_pos rfl] at b;rw[if_pos rfl]
      cases k:EQ nx pl [94] j with
      | hush=>rw[k] at b;exact absurd rfl b
      | bad f e=>rw[XL,if_pos g,if_pos d] at k;simp at k
      | ok z v =>
        rw[k] at b;exact Yb r t n m u p W h i g d k (fun e=>b (by show (Dn nx pl c n .unary v).bind _=_;rw[e];rfl))
   rw[if_neg g];exact X' r n m p W h i g
def ZO (b:World) (q:Nat) (s:ByteArray) (W:World) (l:List Tr) (a:Ps) (v:Value) (w':World):Prop :=
 Am 34 w' (W.heap.size <= ·) l v/\Pz b q s a w'
def LC (nx:Nat->Bool->Tk) (pl:Nat->Nat×Nat) (a:List UInt8->Option Bool) (b:World) (q:Nat) (s:ByteArray) (n:Nat) (k:NT) (f:FuncId):Prop :=
 ∀(p:Ps) (W:World),Pz b q s p W->Dn nx pl a n k p ≠ .hush->Calls prog f #[.pointer (some ⟨q,0,none⟩)] W (HJ q W (Dn nx pl a n k p) (ZO b q s W))
theorem XZ {nx:Nat->Bool->Tk} {pl:Nat->Nat×Nat} {k:List UInt8->Option Bool} {v:World} {q:Nat} {s:ByteArray} (w:F2 nx s v) (x:PlC pl s) (n:Nat)
  (G:LC nx pl k v q s n .list 68):LC nx pl k v q s (n+1) .index 57:=by
 intro p W h b;rw[Dn] at b ⊢;have K:=aA (fun p W (h:Pz v q s p W)=>EM w x h [93]);have o:=aA (EM w x h [91]);have F:=aA G;have L:=h.lt;clear w x h G
 cases C:EQ nx pl [91] p with
 | hush=>rw[C] at b;exact absurd rfl b
 | bad f e =>
   rw[C] at o;clear b
   go_in
   go_wp2_with (first | (go_at_call 18;(with_reducible refine o.out.mono ?_);rintro e E ⟨rfl,a⟩))
   exact⟨rfl,rfl,a⟩
 | ok z B =>
   rw[C] at o b;simp only[Hf.bind] at b ⊢
   cases t:Dn nx pl k n .list B with
   | hush=>rw[t] at b;exact absurd rfl b
   | bad f e =>
     have r:=aA (fun W h=>F.out B W h (by rw[t];intro h;cases h));rw[t] at r;clear b
     go_in
     go_wp2_with (first | (go_at_call 18;(with_reducible refine o.out.mono ?_);rintro e E ⟨I,rfl,⟨rfl,d⟩,a⟩) | (go_at_call 68;(with_reducible refine(r.out _ d).mono ?_);rintro e J ⟨rfl,c⟩))
     exact⟨rfl,rfl,a.trans c⟩
   | ok l H =>
     have r:=aA (fun W h=>F.out B W h (by rw[t];intro h;cases h));rw[t] at r b;dsimp only at b ⊢;have u:=aA (fun W h=>K.out H W h)
     cases D:EQ nx pl [93] H with
     | hush=>rw[D] at b;exact absurd rfl b
     | bad f e =>
       rw[D] at u;clear b
       go_in
       go_wp2_with (first | (go_at_call 18;(with_reducible refine o.out.mono ?_);rintro e E ⟨I,rfl,⟨rfl,d⟩,a⟩) | (go_at_call 68;(with_reducible refine(r.out _ d).mono ?_);rintro e J ⟨N,rfl,⟨g,m⟩,c⟩;obtain⟨ka,M,rfl⟩:=g.slice) | (go_at_call 18;(with_reducible refine(u.out _ m).mono ?_);rintro e O ⟨rfl,i⟩))
       exact⟨rfl,rfl,(a.trans c).trans i⟩
     | ok R P =>
       rw[D] at u;clear b
       go_in
       go_wp2_with (first | (go_at_call 18;(with_reducible refine o.out.mono ?_);rintro e E ⟨I,rfl,⟨rfl,d⟩,a⟩) | (go_at_call 68;(with_reducible refine(r.out _ d).mono ?_);rintro e J ⟨N,rfl,⟨g,m⟩,c⟩;obtain⟨ka,M,rfl⟩:=g.slice) | (go_at_call 18;(with_reducible refine(u.out _ m).mono ?_);rintro e O ⟨Q,rfl,⟨rfl,A⟩,i⟩))
       go_ret;have y:=a.size;exact⟨_,rfl,⟨(g.only i (by omega)).mono fun j _ h=>Nat.le_trans y h,A⟩,(a.trans c).trans i⟩
theorem Yt {nx:Nat->Bool->Tk} {pl:Nat->Nat×Nat} {A:List UInt8->Option Bool} {L:World} {q:Nat} {s:ByteArray} (O:F2 nx s L) (Q:PlC pl s) (n:Nat)
  (V:LC nx pl A L q s n .list 68):LC nx pl A L q s (n+1) .args 147:=by
 intro p W h i;rw[Dn] at i ⊢;have Y:=aA (fun p W (h:Pz L q s p W)=>EM O Q h [41]);have u:=aA (EM O Q h [40]);have I:=aA (fun p W (h:Pz L q s p W)=>Ea O h true);have T:=aA V;have a0:=h.lt;clear O Q h V
 cases R:EQ nx pl [40] p with
 | hush=>rw[R] at i;exact absurd rfl i
 | bad f e =>
   rw[R] at u;clear i
   go_in
   go_wp2_with (first | (go_at_call 18;(with_reducible refine u.out.mono ?_);rintro e H ⟨rfl,g⟩))
   exact⟨rfl,rfl,g⟩
 | ok z w =>
   rw[R] at u i;have x:=aA (fun W h=>I.out w W h);change (Eb nx true w).bind _ ≠ .hush at i;show Calls _ _ _ _ (HJ q W ((Eb nx true w).bind _) _);rw[N1] at i ⊢;obtain⟨t,U⟩:∃t,nx w.a true=t:=⟨_,rfl⟩;rw[U] at x i ⊢;clear U I;unfold G1 at x;by_cases y:t.e=0
   ·rw[if_pos y] at i ⊢
    have m:=aA (fun p W h=>Y.out p W h)
    cases G:EP t [41] with
    | true =>
      have F:=aA (F5 G);rw[G,if_pos rfl] at i;rw[if_pos rfl];clear G;replace m:=aA (fun W h=>m.out w W h)
      cases D:EQ nx pl [41] w with
      | hush=>rw[D] at i;exact absurd rfl i
      | bad f e =>
        rw[D] at m;clear i
        go_in
        go_wp2_with (first | (go_at_call 18;(with_reducible refine u.out.mono ?_);rintro e H ⟨K,rfl,⟨rfl,c⟩,g⟩) | (go_at_call 15;(with_reducible refine(x.out _ c).mono ?_);rintro e M ⟨b,⟨-,rfl⟩ | ⟨o,-⟩⟩;rotate_left;exact absurd y o) | (go_at_call 12;(with_reducible refine(F.out _).mono ?_);rintro e N ⟨rfl,d⟩) | (go_at_call 18;(with_reducible refine(m.out _ ((c.keep b).keep d)).mono ?_);rintro e S ⟨rfl,k⟩))
        exact⟨rfl,rfl,((g.trans (Ae.of_below q b)).trans (Ae.of_below q d)).trans k⟩
      | ok z3 p3 =>
        rw[D] at m;clear i
        go_in
        go_wp2_with (first | (go_at_call 18;(with_reducible refine u.out.mono ?_);rintro e H ⟨K,rfl,⟨rfl,c⟩,g⟩) | (go_at_call 15;(with_reducible refine(x.out _ c).mono ?_);rintro e M ⟨b,⟨-,rfl⟩ | ⟨o,-⟩⟩;rotate_left;exact absurd y o) | (go_at_call 12;(with_reducible refine(F.out _).mono ?_);rintro e N ⟨rfl,d⟩) | (go_at_call 18;(with_reducible refine(m.out _ ((c.keep b).keep d)).mono ?_);rintro e S ⟨v5,rfl,⟨rfl,C⟩,k⟩))
        go_ret;exact⟨_,rfl,⟨Am.nil _,C⟩,((g.trans (Ae.of_below q b)).trans (Ae.of_below q d)).trans k⟩
    | false =>
      have F:=aA (F5 G);rw[G,if_neg (by simp)] at i;rw[if_neg (by simp)];clear G
      cases J:Dn nx pl A n .list w with
      | hush=>rw[J] at i;exact absurd rfl i
      | bad f e =>
        have E:=aA (fun W h=>T.out w W h (by rw[J];intro h;cases h));rw[J] at E;clear i
        go_in
        go_wp2_with (first | (go_at_call 18;(with_reducible refine u.out.mono ?_);rintro e H ⟨K,rfl,⟨rfl,c⟩,g⟩) | (go_at_call 15;(with_reducible refine(x.out _ c).mono ?_);rintro e M ⟨b,⟨-,rfl⟩ | ⟨o,-⟩⟩;rotate_left;exact absurd y o) | (go_at_call 12;(with_reducible refine(F.out _).mono ?_);rintro e N ⟨rfl,d⟩) | (go_at_call 68;(with_reducible refine(E.out _ ((c.keep b).keep d)).mono ?_);rintro e X ⟨rfl,r⟩))
        exact⟨rfl,rfl,((g.trans (Ae.of_below q b)).trans (Ae.of_below q d)).trans r⟩
      | ok l P =>
        have E:=aA (fun W h=>T.out w W h (by rw[J];intro h;cases h));rw[J] at E i;replace m:=aA (fun W h=>m.out P W h);change (EQ nx pl [41] P).bind _ ≠ .hush at i;show Calls _ _ _ _ (HJ q W ((EQ nx pl [41] P).bind _) _)
        cases D:EQ nx pl [41] P with
        | hush=>rw[D] at i;exact absurd rfl i
        | bad f e =>
          rw[D] at m;clear i
          go_in
          go_wp2_with (first | (go_at_call 18;(with_reducible refine u.out.mono ?_);rintro e H ⟨K,rfl,⟨rfl,c⟩,g⟩) | (go_at_call 15;(with_reducible refine(x.out _ c).mono ?_);rintro e M ⟨b,⟨-,rfl⟩ | ⟨o,-⟩⟩;rotate_left;exact absurd y o) | (go_at_call 12;(with_reducible refine(F.out _).mono ?_);rintro e N ⟨rfl,d⟩) | (go_at_call 68;(with_reducible refine(E.out _ ((c.keep b).keep d)).mono ?_);rintro e X ⟨v4,rfl,⟨v,B⟩,r⟩;obtain⟨ka,kc,rfl⟩:=v.slice) | (go_at_call 18;(with_reducible refine(m.out _ B).mono ?_);rintro e S ⟨rfl,k⟩))
          exact⟨rfl,rfl,(((g.trans (Ae.of_below q b)).trans (Ae.of_below q d)).trans r).trans k⟩
        | ok z3 p3 =>
          rw[D] at m;clear i
          go_in
          go_wp2_with (first | (go_at_call 18;(with_reducible refine u.out.mono ?_);rintro e H ⟨K,rfl,⟨rfl,c⟩,g⟩) | (go_at_call 15;(with_reducible refine(x.out _ c).mono ?_);rintro e M ⟨b,⟨-,rfl⟩ | ⟨o,-⟩⟩;rotate_left;exact absurd y o) | (go_at_call 12;(with_reducible refine(F.out _).mono ?_);rintro e N ⟨rfl,d⟩) | (go_at_call 68;(with_reducible refine(E.out _ ((c.keep b).keep d)).mono ?_);rintro e X ⟨v4,rfl,⟨v,B⟩,r⟩;obtain⟨ka,kc,rfl⟩:=v.slice) | (go_at_call 18;(with_reducible refine(m.out _ B).mono ?_);rintro e S ⟨v5,rfl,⟨rfl,C⟩,k⟩))
          go_ret;have Z:W.heap.size<=N.heap.size:=((g.trans (Ae.of_below q b)).trans (Ae.of_below q d)).size;exact⟨_,rfl,⟨(v.only k (by omega)).mono fun j _ h=>Nat.le_trans Z h,C⟩,(((g.trans (Ae.of_below q b)).trans (Ae.of_below q d)).trans r).trans k⟩
   rw[if_neg y];clear i
   go_in
   go_wp2_with (first | (go_at_call 18;(with_reducible refine u.out.mono ?_);rintro e H ⟨K,rfl,⟨rfl,c⟩,g⟩) | (go_at_call 15;(with_reducible refine(x.out _ c).mono ?_);rintro e M ⟨b,⟨o,-⟩ | ⟨-,rfl⟩⟩;exact absurd o y))
   exact⟨rfl,rfl,g.trans (Ae.of_below q b)⟩
end Go.Proofs.YtjolfpcpcaocmaaGreatDoor
