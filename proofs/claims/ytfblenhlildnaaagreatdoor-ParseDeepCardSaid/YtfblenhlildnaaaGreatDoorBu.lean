/- Bu Bv Bw Bx By Bz -/
import Derived.Test.YtfblenhlildnaaaGreatDoorBp
import Derived.Test.YtfblenhlildnaaaGreatDoorCa
import Derived.Deep.RegionHeld3
set_option maxRecDepth 100000
set_option maxHeartbeats 4000000
open Go.Lib renaming hid->aA
open List renaming mem_cons->aB,pairwise_cons->aC,singleton_append->aH,cons_append->aJ
open Bool renaming false_eq_true->aD
open Nat renaming le_trans->aE,ne_of_lt->aF,le_refl->aG,ne_of_gt->aI
namespace Go.Proofs.YtfblenhlildnaaaGreatDoor
open Go.Proofs.Tryz
open Go.RowKit
theorem Zv (nx:Nat->Bool->Tk) (x:List UInt8) (p:Ps) {b:Type} (k:Bool->Ps->Hf b) :
  (Ab_ nx x p).bind k=if (nx p.a false).e=0 then k (isS (nx p.a false) x) p else .bad (nx p.a false).f (nx p.a false).e:=by
 unfold Ab_;rw[N1];by_cases h:(nx p.a false).e=0
 ·rw[if_pos h,if_pos h];rfl
 rw[if_neg h,if_neg h];rfl
theorem X_ {nx:Nat->Bool->Tk} {pl:Nat->Nat×Nat} {ere:List UInt8->Option Bool} {j:World} {q:Nat} {s:ByteArray} (n:Nat)
  (i:NC nx pl ere j q s n .post 298) (p:Ps) (W:World) (h:Pz j q s p W) {f:Nat} {g:Int} (b:Dn nx pl ere n .post p = .bad f g) :
  Calls prog 296 #[.pointer (some ⟨q,0,none⟩)] W fun e k=>e = .panicked (T3 f g)/\Ae q W k:=by
 have d:=aA (Ad W (.cells #[.int .i64 0,.string ⟨#[]⟩,.float .f64 0,.slice none 0 0,.complex .f64 0 0] 42));have c:=aA (i p _ (h.keep d.out) (by rw[b];intro h;cases h));rw[b] at c;clear i h b
 go_in
 go_wp2_with (first | (go_at_call 298;(with_reducible refine c.out.mono ?_);rintro e l ⟨rfl,a⟩))
 exact⟨rfl,rfl,(Ae.of_below q d.out).trans a⟩
theorem X' {nx:Nat->Bool->Tk} {pl:Nat->Nat×Nat} {ere:List UInt8->Option Bool} {c:World} {q:Nat} {s:ByteArray} (t:F2 nx s c) (n:Nat)
  (v:NC nx pl ere c q s n .post 298) (p:Ps) (W:World) (h:Pz c q s p W) {l:List Tr} {b:Ps} (k:Dn nx pl ere n .post p = .ok l b) (r:¬ (nx b.a false).e=0) :
  Calls prog 296 #[.pointer (some ⟨q,0,none⟩)] W fun e x=>e = .panicked (T3 (nx b.a false).f (nx b.a false).e)/\Ae q W x:=by
 have o:=aA (Ad W (.cells #[.int .i64 0,.string ⟨#[]⟩,.float .f64 0,.slice none 0 0,.complex .f64 0 0] 42));have m:=aA (v p _ (h.keep o.out) (by rw[k];intro h;cases h));rw[k] at m;have w:=aA (fun W (h:Pz c q s b W)=>X4 t h [94] r);clear t v h k r
 go_in
 go_wp2_with (first | (go_at_call 298;(with_reducible refine m.out.mono ?_);rintro e B ⟨A,rfl,⟨⟨u,z,rfl,rfl,g⟩,j⟩,i⟩;obtain⟨ka,y,rfl⟩:=g.slice;unfold CJ) | (go_at_call 69;(with_reducible refine(w.out _ (j.keep (Ad _ _))).mono ?_);rintro e C ⟨rfl,d⟩))
 exact⟨rfl,rfl,((Ae.of_below q o.out).trans i).trans ((Ae.of_below q (Ad _ _)).trans (Ae.of_below q d))⟩
theorem Yc {nx:Nat->Bool->Tk} {pl:Nat->Nat×Nat} {ere:List UInt8->Option Bool} {m:World} {q:Nat} {s:ByteArray} (o:F2 nx s m) (r:H6 pl s) (n:Nat)
  (k:NC nx pl ere m q s n .post 298) (t:NC nx pl ere m q s n .unary 294):NC nx pl ere m q s (n+1) .power 296:=by
 intro p W h b;rw[Dn] at b ⊢
 cases g:Dn nx pl ere n .post p with
 | hush=>rw[g] at b;exact absurd rfl b
 | bad f e=>exact X_ n k p W h g
 | ok l i =>
   rw[g] at b;simp only[Hf.bind] at b;show Calls _ _ _ _ (AbS q W ((Ab_ nx [94] i).bind _) _);change (Ab_ nx [94] i).bind _ ≠ .hush at b;rw[Zv] at b ⊢;by_cases d:(nx i.a false).e=0
   ·rw[if_pos d] at b ⊢
    cases c:isS (nx i.a false) [94] with
    | false=>exact Ya o n k p W h g d c
    | true =>
      rw[c,if_pos rfl] at b;rw[if_pos rfl]
      cases j:Abb nx pl [94] i with
      | hush=>rw[j] at b;exact absurd rfl b
      | bad f e=>rw[XL,if_pos d,if_pos c] at j;simp at j
      | ok z u =>
        rw[j] at b;exact Yb o r n k t p W h g d c j (fun e=>b (by show (Dn nx pl ere n .unary u).bind _=_;rw[e];rfl))
   rw[if_neg d];exact X' o n k p W h g d
def ZO (b:World) (q:Nat) (s:ByteArray) (W:World) (l:List Tr) (a:Ps) (v:Value) (w':World):Prop :=
 Am 42 w' (W.heap.size <= ·) l v/\Pz b q s a w'
def LC (nx:Nat->Bool->Tk) (pl:Nat->Nat×Nat) (ere:List UInt8->Option Bool) (a:World) (q:Nat) (s:ByteArray) (n:Nat) (k:NT) (f:FuncId):Prop :=
 ∀(p:Ps) (W:World),Pz a q s p W->Dn nx pl ere n k p ≠ .hush->Calls prog f #[.pointer (some ⟨q,0,none⟩)] W (AbS q W (Dn nx pl ere n k p) (ZO a q s W))
theorem XZ {nx:Nat->Bool->Tk} {pl:Nat->Nat×Nat} {ere:List UInt8->Option Bool} {u:World} {q:Nat} {s:ByteArray} (v:F2 nx s u) (w:H6 pl s) (n:Nat)
  (F:LC nx pl ere u q s n .list 222):LC nx pl ere u q s (n+1) .index 181:=by
 intro p W h b;rw[Dn] at b ⊢;have J:=aA (fun p W (h:Pz u q s p W)=>EM v w h [93]);have m:=aA (EM v w h [91]);have E:=aA F;have K:=h.lt;clear v w h F
 cases B:Abb nx pl [91] p with
 | hush=>rw[B] at b;exact absurd rfl b
 | bad f e =>
   rw[B] at m;clear b
   go_in
   go_wp2_with (first | (go_at_call 68;(with_reducible refine m.out.mono ?_);rintro e D ⟨rfl,a⟩))
   exact⟨rfl,rfl,a⟩
 | ok z A =>
   rw[B] at m b;simp only[Hf.bind] at b ⊢
   cases r:Dn nx pl ere n .list A with
   | hush=>rw[r] at b;exact absurd rfl b
   | bad f e =>
     have o:=aA (fun W h=>E.out A W h (by rw[r];intro h;cases h));rw[r] at o;clear b
     go_in
     go_wp2_with (first | (go_at_call 68;(with_reducible refine m.out.mono ?_);rintro e D ⟨H,rfl,⟨rfl,d⟩,a⟩) | (go_at_call 222;(with_reducible refine(o.out _ d).mono ?_);rintro e I ⟨rfl,c⟩))
     exact⟨rfl,rfl,a.trans c⟩
   | ok l G =>
     have o:=aA (fun W h=>E.out A W h (by rw[r];intro h;cases h));rw[r] at o b;dsimp only at b ⊢;have t:=aA (fun W h=>J.out G W h)
     cases C:Abb nx pl [93] G with
     | hush=>rw[C] at b;exact absurd rfl b
     | bad f e =>
       rw[C] at t;clear b
       go_in
       go_wp2_with (first | (go_at_call 68;(with_reducible refine m.out.mono ?_);rintro e D ⟨H,rfl,⟨rfl,d⟩,a⟩) | (go_at_call 222;(with_reducible refine(o.out _ d).mono ?_);rintro e I ⟨M,rfl,⟨g,k⟩,c⟩;obtain⟨ka,L,rfl⟩:=g.slice) | (go_at_call 68;(with_reducible refine(t.out _ k).mono ?_);rintro e N ⟨rfl,i⟩))
       exact⟨rfl,rfl,(a.trans c).trans i⟩
     | ok Q O =>
       rw[C] at t;clear b
       go_in
       go_wp2_with (first | (go_at_call 68;(with_reducible refine m.out.mono ?_);rintro e D ⟨H,rfl,⟨rfl,d⟩,a⟩) | (go_at_call 222;(with_reducible refine(o.out _ d).mono ?_);rintro e I ⟨M,rfl,⟨g,k⟩,c⟩;obtain⟨ka,L,rfl⟩:=g.slice) | (go_at_call 68;(with_reducible refine(t.out _ k).mono ?_);rintro e N ⟨P,rfl,⟨rfl,y⟩,i⟩))
       go_ret;have x:=a.size;exact⟨_,rfl,⟨(g.only i (by omega)).mono fun j _ h=>aE x h,y⟩,(a.trans c).trans i⟩
theorem Yt {nx:Nat->Bool->Tk} {pl:Nat->Nat×Nat} {ere:List UInt8->Option Bool} {K:World} {q:Nat} {s:ByteArray} (N:F2 nx s K) (P:H6 pl s) (n:Nat)
  (U:LC nx pl ere K q s n .list 222):LC nx pl ere K q s (n+1) .args 307:=by
 intro p W h i;rw[Dn] at i ⊢;have X:=aA (fun p W (h:Pz K q s p W)=>EM N P h [41]);have u:=aA (EM N P h [40]);have H:=aA (fun p W (h:Pz K q s p W)=>Ea N h true);have S:=aA U;have Z:=h.lt;clear N P h U
 cases Q:Abb nx pl [40] p with
 | hush=>rw[Q] at i;exact absurd rfl i
 | bad f e =>
   rw[Q] at u;clear i
   go_in
   go_wp2_with (first | (go_at_call 68;(with_reducible refine u.out.mono ?_);rintro e G ⟨rfl,g⟩))
   exact⟨rfl,rfl,g⟩
 | ok z w =>
   rw[Q] at u i;have x:=aA (fun W h=>H.out w W h);change (Eb nx true w).bind _ ≠ .hush at i;show Calls _ _ _ _ (AbS q W ((Eb nx true w).bind _) _);rw[N1] at i ⊢;obtain⟨t,T⟩:∃t,nx w.a true=t:=⟨_,rfl⟩;rw[T] at x i ⊢;clear T H;unfold G1 at x;by_cases y:t.e=0
   ·rw[if_pos y] at i ⊢
    have m:=aA (fun p W h=>X.out p W h)
    cases F:isS t [41] with
    | true =>
      have E:=aA (F5 F);rw[F,if_pos rfl] at i;rw[if_pos rfl];clear F;replace m:=aA (fun W h=>m.out w W h)
      cases C:Abb nx pl [41] w with
      | hush=>rw[C] at i;exact absurd rfl i
      | bad f e =>
        rw[C] at m;clear i
        go_in
        go_wp2_with (first | (go_at_call 68;(with_reducible refine u.out.mono ?_);rintro e G ⟨J,rfl,⟨rfl,c⟩,g⟩) | (go_at_call 65;(with_reducible refine(x.out _ c).mono ?_);rintro e L ⟨b,⟨-,rfl⟩ | ⟨o,-⟩⟩;rotate_left;exact absurd y o) | (go_at_call 45;(with_reducible refine(E.out _).mono ?_);rintro e M ⟨rfl,d⟩) | (go_at_call 68;(with_reducible refine(m.out _ ((c.keep b).keep d)).mono ?_);rintro e R ⟨rfl,k⟩))
        exact⟨rfl,rfl,((g.trans (Ae.of_below q b)).trans (Ae.of_below q d)).trans k⟩
      | ok z3 p3 =>
        rw[C] at m;clear i
        go_in
        go_wp2_with (first | (go_at_call 68;(with_reducible refine u.out.mono ?_);rintro e G ⟨J,rfl,⟨rfl,c⟩,g⟩) | (go_at_call 65;(with_reducible refine(x.out _ c).mono ?_);rintro e L ⟨b,⟨-,rfl⟩ | ⟨o,-⟩⟩;rotate_left;exact absurd y o) | (go_at_call 45;(with_reducible refine(E.out _).mono ?_);rintro e M ⟨rfl,d⟩) | (go_at_call 68;(with_reducible refine(m.out _ ((c.keep b).keep d)).mono ?_);rintro e R ⟨v5,rfl,⟨rfl,B⟩,k⟩))
        go_ret;exact⟨_,rfl,⟨Am.nil _,B⟩,((g.trans (Ae.of_below q b)).trans (Ae.of_below q d)).trans k⟩
    | false =>
      have E:=aA (F5 F);rw[F,if_neg (by simp)] at i;rw[if_neg (by simp)];clear F
      cases I:Dn nx pl ere n .list w with
      | hush=>rw[I] at i;exact absurd rfl i
      | bad f e =>
        have D:=aA (fun W h=>S.out w W h (by rw[I];intro h;cases h));rw[I] at D;clear i
        go_in
        go_wp2_with (first | (go_at_call 68;(with_reducible refine u.out.mono ?_);rintro e G ⟨J,rfl,⟨rfl,c⟩,g⟩) | (go_at_call 65;(with_reducible refine(x.out _ c).mono ?_);rintro e L ⟨b,⟨-,rfl⟩ | ⟨o,-⟩⟩;rotate_left;exact absurd y o) | (go_at_call 45;(with_reducible refine(E.out _).mono ?_);rintro e M ⟨rfl,d⟩) | (go_at_call 222;(with_reducible refine(D.out _ ((c.keep b).keep d)).mono ?_);rintro e V ⟨rfl,r⟩))
        exact⟨rfl,rfl,((g.trans (Ae.of_below q b)).trans (Ae.of_below q d)).trans r⟩
      | ok l O =>
        have D:=aA (fun W h=>S.out w W h (by rw[I];intro h;cases h));rw[I] at D i;replace m:=aA (fun W h=>m.out O W h);change (Abb nx pl [41] O).bind _ ≠ .hush at i;show Calls _ _ _ _ (AbS q W ((Abb nx pl [41] O).bind _) _)
        cases C:Abb nx pl [41] O with
        | hush=>rw[C] at i;exact absurd rfl i
        | bad f e =>
          rw[C] at m;clear i
          go_in
          go_wp2_with (first | (go_at_call 68;(with_reducible refine u.out.mono ?_);rintro e G ⟨J,rfl,⟨rfl,c⟩,g⟩) | (go_at_call 65;(with_reducible refine(x.out _ c).mono ?_);rintro e L ⟨b,⟨-,rfl⟩ | ⟨o,-⟩⟩;rotate_left;exact absurd y o) | (go_at_call 45;(with_reducible refine(E.out _).mono ?_);rintro e M ⟨rfl,d⟩) | (go_at_call 222;(with_reducible refine(D.out _ ((c.keep b).keep d)).mono ?_);rintro e V ⟨v4,rfl,⟨v,A⟩,r⟩;obtain⟨ka,kc,rfl⟩:=v.slice) | (go_at_call 68;(with_reducible refine(m.out _ A).mono ?_);rintro e R ⟨rfl,k⟩))
          exact⟨rfl,rfl,(((g.trans (Ae.of_below q b)).trans (Ae.of_below q d)).trans r).trans k⟩
        | ok z3 p3 =>
          rw[C] at m;clear i
          go_in
          go_wp2_with (first | (go_at_call 68;(with_reducible refine u.out.mono ?_);rintro e G ⟨J,rfl,⟨rfl,c⟩,g⟩) | (go_at_call 65;(with_reducible refine(x.out _ c).mono ?_);rintro e L ⟨b,⟨-,rfl⟩ | ⟨o,-⟩⟩;rotate_left;exact absurd y o) | (go_at_call 45;(with_reducible refine(E.out _).mono ?_);rintro e M ⟨rfl,d⟩) | (go_at_call 222;(with_reducible refine(D.out _ ((c.keep b).keep d)).mono ?_);rintro e V ⟨v4,rfl,⟨v,A⟩,r⟩;obtain⟨ka,kc,rfl⟩:=v.slice) | (go_at_call 68;(with_reducible refine(m.out _ A).mono ?_);rintro e R ⟨v5,rfl,⟨rfl,B⟩,k⟩))
          go_ret;have Y:W.heap.size<=M.heap.size:=((g.trans (Ae.of_below q b)).trans (Ae.of_below q d)).size;exact⟨_,rfl,⟨(v.only k (by omega)).mono fun j _ h=>aE Y h,B⟩,(((g.trans (Ae.of_below q b)).trans (Ae.of_below q d)).trans r).trans k⟩
   rw[if_neg y];clear i
   go_in
   go_wp2_with (first | (go_at_call 68;(with_reducible refine u.out.mono ?_);rintro e G ⟨J,rfl,⟨rfl,c⟩,g⟩) | (go_at_call 65;(with_reducible refine(x.out _ c).mono ?_);rintro e L ⟨b,⟨o,-⟩ | ⟨-,rfl⟩⟩;exact absurd o y))
   exact⟨rfl,rfl,g.trans (Ae.of_below q b)⟩
theorem CA {α β:Type} {o:Hf α} {K:α->Ps->Hf β} {r:Hf β} (a:Hid (o.bind K=r)) (b:r ≠ .hush):o ≠ .hush:=fun e=>b (by rw[<- a.out,e];rfl)
section
variable {α β:Type} {q:Nat} {W W' w':World} {r:Hf β} {good:β->Ps->Value->World->Prop}
theorem AbS.part {o:Hf α} {K:α->Ps->Hf β} {g:α->Ps->Value->World->Prop} {e:Ending} (h:AbS q W' o g e w') (b:Hid (o.bind K=r)) (j:r ≠ .hush) :
  (∃f a,e = .panicked (T3 f a)/\Ae q W' w'/\Hid (r = .bad f a))\/∃x p v,e = .returned v/\g x p v w'/\Ae q W' w'/\Hid (K x p=r):=by
 cases o with
 | hush=>exact absurd b.out.symm j
 | bad f a=>exact .inl ⟨f,a,h.1,h.2,b.out.symm⟩
 | ok x p=>obtain⟨v,c,d,i⟩:=h;exact .inr ⟨x,p,v,c,d,i,b.out⟩
theorem BX {f:Nat} {a:Int} (c:Hid (r = .bad f a)) (b:Ae q W w'):AbS q W r good (.panicked (T3 f a)) w':=by rw[c.out];exact⟨rfl,b⟩
theorem O2 {x:β} {p:Ps} {v:Value} (a:Hid (.ok x p=r)) (b:good x p v w') (c:Ae q W w'):AbS q W r good (.returned v) w':=by rw[<- a.out];exact⟨v,rfl,b,c⟩
end
theorem DS {nx:Nat->Bool->Tk} {w0 W:World} {q:Nat} {s:ByteArray} {p:Ps} (g:F2 nx s w0) (h:Pz w0 q s p W) (c:Bool) :
  Calls prog 65 #[.pointer (some ⟨q,0,none⟩),.bool c] W (AbS q W (Eb nx c p) fun t p' v w'=>v=G1 t/\p'=p/\t.e=0/\nx p.a c=t/\(p.a<=t.f/\t.f<=t.t/\t.t<=s.size/\t.tx.length<=s.size/\(t.kd≠0->p.a<t.t))/\Below W.heap.size W w'):=by
 refine(Ea g h c).mono fun e w' i=>?_;unfold Eb;rcases i with⟨d,⟨b,rfl⟩ | ⟨b,rfl⟩⟩
 ·rw[if_pos b];exact⟨_,rfl,⟨rfl,rfl,b,rfl,g.ok p.a c h.ha b,d⟩,Ae.of_below q d⟩
 rw[if_neg b];exact⟨rfl,Ae.of_below q d⟩
theorem F1 {nx:Nat->Bool->Tk} {w0 W:World} {q:Nat} {s:ByteArray} {p:Ps} (d:F2 nx s w0) (h:Pz w0 q s p W) (x:List UInt8) :
  Calls prog 69 #[.pointer (some ⟨q,0,none⟩),.string ⟨x.toArray⟩] W (AbS q W (Ab_ nx x p) fun b p' v w'=>v = .bool b/\p'=p/\Below W.heap.size W w'):=by
 refine(NW d h x).mono fun e w' f=>?_;unfold Ab_ Eb;rcases f with⟨c,⟨a,rfl⟩ | ⟨a,rfl⟩⟩
 ·rw[if_pos a];exact⟨_,rfl,⟨rfl,rfl,c⟩,Ae.of_below q c⟩
 rw[if_neg a];exact⟨rfl,Ae.of_below q c⟩
theorem EE (t:Tk) (x:List UInt8) (w:World) :
 Calls prog 45 #[.agg #[.int .i64 t.kd,.string ⟨t.tx.toArray⟩,.float .f64 t.nm,.int .i64 t.f,.int .i64 t.t],.int .i64 9,.string ⟨x.toArray⟩] w fun e w'=>e = .returned (.bool (isS t x))/\Below w.heap.size w w':=AaD t 9 x w
theorem L0 (t:Tk) (x:List UInt8) (w:World) :
 Calls prog 45 #[.agg #[.int .i64 t.kd,.string ⟨t.tx.toArray⟩,.float .f64 t.nm,.int .i64 t.f,.int .i64 t.t],.int .i64 8,.string ⟨x.toArray⟩] w fun e w'=>e = .returned (.bool (XI t x))/\Below w.heap.size w w':=AaD t 8 x w
theorem C2 {pl:Nat->Nat×Nat} {w0 W:World} {q:Nat} {s:ByteArray} {p:Ps} (b:H6 pl s) (h:Pz w0 q s p W) (t:Tk) (c:p.a<=t.f/\t.f<=t.t/\t.t<=s.size/\t.tx.length<=s.size/\(t.kd≠0->p.a<t.t)) :
  Calls prog 66 #[.pointer (some ⟨q,0,none⟩),.agg #[.int .i64 t.kd,.string ⟨t.tx.toArray⟩,.float .f64 t.nm,.int .i64 t.f,.int .i64 t.t]] W fun e w'=>e = .returned (.complex .f64 (pl t.f).1 (pl t.f).2)/\Pz w0 q s (CQ t p) w'/\Ae q W w' :=
 AbD b h.y t (by omega) (by omega) (by have:=h.d1;omega)
theorem E3 {w0 W:World} {q:Nat} {s:ByteArray} {p:Ps} (h:Pz w0 q s p W) (t:Tk) :
  Calls prog 67 #[.pointer (some ⟨q,0,none⟩),.agg #[.int .i64 t.kd,.string ⟨t.tx.toArray⟩,.float .f64 t.nm,.int .i64 t.f,.int .i64 t.t]] W fun e w'=>e = .panicked (T3 t.f (Yd t p))/\Ae q W w' :=
 (SX h t).mono fun _ _ ⟨a,b⟩=>⟨b,Ae.of_below q a⟩
theorem R' (t:Tr) (a:Option Addr) (n c:Nat) (w:World):Calls prog 137 #[.agg #[.int .i64 t.kd,.string ⟨t.nm.toArray⟩,.float .f64 t.x,.slice a n c,.complex .f64 t.z.1 t.z.2]] w fun e w'=>e = .returned (.bool (Z1 t))/\Below w.heap.size w w':=Nu t _ w
theorem Yz (t:Tk) (w:World):Calls prog 289 #[.agg #[.int .i64 t.kd,.string ⟨t.tx.toArray⟩,.float .f64 t.nm,.int .i64 t.f,.int .i64 t.t]] w fun e w'=>e = .returned (.bool (O3 t))/\Below w.heap.size w w':=YA t w
theorem XU (t:Tk) (w:World):Calls prog 180 #[.agg #[.int .i64 t.kd,.string ⟨t.tx.toArray⟩,.float .f64 t.nm,.int .i64 t.f,.int .i64 t.t]] w fun e w'=>e = .returned (.bool (I0 t))/\Below w.heap.size w w':=PV t w
structure B5 where
 b:Nat
 v0:Value
 v1:Value
 v2:Value
 v3:Value
 v4:Value
def Av (B:Nat) (l:List B5) (j:Nat):Prop:=B<=j/\∀x∈l,j≠x.b
structure Fx (w0 W:World) (q B:Nat) (s:ByteArray) (p:Ps) (l:List B5) (ks:List (List Tr×Value)) (w:World):Prop where
 z:Pz w0 q s p w
 o:Ae q W w
 hq:q<W.heap.size
 hw:w0.heap.size<=W.heap.size
 hB:W.heap.size<=B/\B<=w.heap.size
 b:∀x∈l,W.heap.size<=x.b/\C5 w x.b x.v0 x.v1 x.v2 x.v3 x.v4
 k:∀x∈ks,Am 42 w (Av B l) x.1 x.2
 d:l.Pairwise fun x y=>y.b<x.b
section
variable {w0 W w w':World} {q B:Nat} {s:ByteArray} {p p':Ps} {l:List B5} {ks:List (List Tr×Value)} {v0 v1 v2 v3 v4:Value} {b:Nat}
theorem Fx.start (h:Pz w0 q s p W):Fx w0 W q W.heap.size s p [] [] W :=
 ⟨h,Ae.refl q W,h.lt,h.below.size,⟨aG _,aG _⟩,fun _ h=>(nomatch h),fun _ h=>(nomatch h),.nil⟩
theorem Fx.start1 (h:Pz w0 q s p W) (v0 v1 v2 v3 v4:Value) (T:TypeId):Fx w0 W q (W.heap.size+1) s p [⟨W.heap.size,v0,v1,v2,v3,v4⟩] [] (W.alloc (.cells #[v0,v1,v2,v3,v4] T)) :=
 ⟨h.keep (Ad _ _),Ae.of_below q (Ad _ _),h.lt,h.below.size,⟨by omega,by simp⟩,fun x h=>by obtain rfl:=List.mem_singleton.1 h;exact⟨aG _,C5.new _ _ _ _ _ _ _⟩,fun _ h=>(nomatch h),List.pairwise_singleton _ _⟩
theorem Fx.quiet (h:Fx w0 W q B s p l ks w) (a:Below w.heap.size w w'):Fx w0 W q B s p l ks w' :=
 ⟨h.z.keep a,h.o.trans (Ae.of_below q a),h.hq,h.hw,⟨h.hB.1,aE h.hB.2 a.size⟩,fun x c=>⟨(h.b x c).1,(h.b x c).2.below a⟩,fun x c=>(h.k x c).bel a,h.d⟩
theorem Fx.move (h:Fx w0 W q B s p l ks w) (f:Pz w0 q s p' w') (c:Ae q w w'):Fx w0 W q B s p' l ks w' :=
 ⟨f,h.o.trans c,h.hq,h.hw,⟨h.hB.1,aE h.hB.2 c.size⟩,fun x a=>⟨(h.b x a).1,(h.b x a).2.only c (by have:=(h.b x a).1;have:=h.hq;omega)⟩,fun x a=>(h.k x a).only c (fun e=>by have:=h.hB.1;have:=h.hq;have:=e.1;omega),h.d⟩
theorem Fx.new (h:Fx w0 W q B s p l ks w):∀x∈l,x.b<w.heap.size:=fun x a=>(h.b x a).2.lt
theorem Fx.box (h:Fx w0 W q B s p l ks w) (v0 v1 v2 v3 v4:Value) (T:TypeId):Fx w0 W q B s p (⟨w.heap.size,v0,v1,v2,v3,v4⟩::l) ks (w.alloc (.cells #[v0,v1,v2,v3,v4] T)) :=
 let g:=h.quiet (Ad w (.cells #[v0,v1,v2,v3,v4] T))
 ⟨g.z,g.o,g.hq,g.hw,g.hB,fun x a=>by rcases aB.1 a with rfl | a;exact⟨h.o.size,C5.new _ _ _ _ _ _ _⟩;exact g.b x a,
   fun x a=>((h.k x a).mono (S':=Av B (⟨w.heap.size,v0,v1,v2,v3,v4⟩::l)) fun j f e=>⟨e.1,fun y c=>by rcases aB.1 c with rfl | c;exact aF f;exact e.2 y c⟩).bel (Ad _ _),aC.2 ⟨fun y c=>h.new y c,h.d⟩⟩
theorem Fx.read (h:Fx w0 W q B s p l ks w) {k:List Tr} {kv:Value} (e:Am 42 w' (w.heap.size <= ·) k kv) (m:Pz w0 q s p' w') (f:Ae q w w'):Fx w0 W q B s p' l ((k,kv)::ks) w' :=
 let g:=h.move m f
 ⟨g.z,g.o,g.hq,g.hw,g.hB,g.b,fun x a=>by rcases aB.1 a with rfl | a;exact e.mono fun j _ c=>⟨aE h.hB.2 c,fun y i=>by have:=h.new y i;omega⟩;exact g.k x a,g.d⟩
theorem Fx.drew (h:Fx w0 W q B s p l ks w):Fx w0 W q B s p l ks w.drew:=h.move h.z.drew ((Ae.refl q w).drew)
theorem Fx.b0 (h:Fx w0 W q B s p (⟨b,v0,v1,v2,v3,v4⟩::l) ks w):C5 w b v0 v1 v2 v3 v4:=(h.b _ (.head _)).2
theorem Fx.b1 {x:B5} (h:Fx w0 W q B s p (x::⟨b,v0,v1,v2,v3,v4⟩::l) ks w):C5 w b v0 v1 v2 v3 v4:=(h.b _ (.tail _ (.head _))).2
theorem Fx.b2 {x y:B5} (h:Fx w0 W q B s p (x::y::⟨b,v0,v1,v2,v3,v4⟩::l) ks w):C5 w b v0 v1 v2 v3 v4:=(h.b _ (.tail _ (.tail _ (.head _)))).2
theorem Fx.b3 {x y z:B5} (h:Fx w0 W q B s p (x::y::z::⟨b,v0,v1,v2,v3,v4⟩::l) ks w):C5 w b v0 v1 v2 v3 v4:=(h.b _ (.tail _ (.tail _ (.tail _ (.head _))))).2
theorem Fx.ne02 {x y z:B5} (h:Fx w0 W q B s p (x::y::z::l) ks w):x.b≠z.b:=by have a:=(aC.1 h.d).1 z (.tail _ (.head _));omega
theorem Fx.ne12 {x y z:B5} (h:Fx w0 W q B s p (x::y::z::l) ks w):y.b≠z.b:=by have a:=(aC.1 (aC.1 h.d).2).1 z (.head _);omega
theorem Fx.k0 {k:List Tr} {kv:Value} (h:Fx w0 W q B s p l ((k,kv)::ks) w):Am 42 w (B <= ·) k kv:=(h.k _ (.head _)).mono fun _ _ e=>e.1
theorem Fx.k1 {x:List Tr×Value} {k:List Tr} {kv:Value} (h:Fx w0 W q B s p l (x::(k,kv)::ks) w):Am 42 w (B <= ·) k kv:=(h.k _ (.tail _ (.head _))).mono fun _ _ e=>e.1
def Bs (l:List B5) (o:World):Prop:=∀x∈l,C5 o x.b x.v0 x.v1 x.v2 x.v3 x.v4
theorem Fx.bs (h:Fx w0 W q B s p l ks w):Bs l w:=fun x a=>(h.b x a).2
theorem Bs.b0 (h:Bs (⟨b,v0,v1,v2,v3,v4⟩::l) w):C5 w b v0 v1 v2 v3 v4:=h _ (.head _)
theorem Bs.b1 {x:B5} (h:Bs (x::⟨b,v0,v1,v2,v3,v4⟩::l) w):C5 w b v0 v1 v2 v3 v4:=h _ (.tail _ (.head _))
theorem Bs.b2 {x y:B5} (h:Bs (x::y::⟨b,v0,v1,v2,v3,v4⟩::l) w):C5 w b v0 v1 v2 v3 v4:=h _ (.tail _ (.tail _ (.head _)))
theorem Fx.region {P:Program} {b:Array Oper} {Q:Exit->Act->World->Prop} (h:Fx w0 W q B s p l ks w) (k:Nat) {id:Nat} {a:Act} (d:P.follows .mixedOrders=true)
 (c:Bs l w.drew->Kp P .any b Q (Bs l) k b.size (Array.replicate b.size false) a w.drew):(Code.region id b true).wp P Q a w:=Abt (Bs l) k d (c h.drew.bs)
theorem Fx.drop {x:B5} (h:Fx w0 W q B s p (x::l) ks w):Fx w0 W q B s p l ks w :=
 ⟨h.z,h.o,h.hq,h.hw,h.hB,fun x a=>h.b x (.tail _ a),fun x a=>(h.k x a).mono fun _ _ e=>⟨e.1,fun y c=>e.2 y (.tail _ c)⟩,(aC.1 h.d).2⟩
theorem Fx.rows {k c:List (List Tr×Value)} (h:Fx w0 W q B s p l (k++c) w):Fx w0 W q B s p l k w :=
 ⟨h.z,h.o,h.hq,h.hw,h.hB,h.b,fun x a=>h.k x (List.mem_append_left _ a),h.d⟩
theorem Fx.row1 {x:List Tr×Value} (h:Fx w0 W q B s p l (x::ks) w):Fx w0 W q B s p l [x] w:=h.rows (k:=[x])
theorem Fx.store (h:Fx w0 W q B s p (⟨b,v0,v1,v2,v3,v4⟩::l) ks w) (u0 u1 u2 u3 u4:Value) :
  Fx w0 W q B s p (⟨b,u0,u1,u2,u3,u4⟩::l) ks (((((w.setCell ⟨b,0,none⟩ u0).setCell ⟨b,1,none⟩ u1).setCell ⟨b,2,none⟩ u2).setCell ⟨b,3,none⟩ u3).setCell ⟨b,4,none⟩ u4):=by
 have i:=(((((Ae.refl b w).set 0 u0).set 1 u1).set 2 u2).set 3 u3).set 4 u4;have a:=(h.b _ (.head _)).1;have m:=h.hq;have f:=aC.1 h.d;dsimp only at a f;refine⟨h.z.far5 (aE h.hw a) (by omega) _ _ _ _ _,LI h.o a _ _ _ _ _,h.hq,h.hw,⟨h.hB.1,aE h.hB.2 i.size⟩,fun x c=>?_,fun x c=>?_,aC.2 f⟩
 ·rcases aB.1 c with rfl | c
  ·exact⟨a,((((h.b0.set0 u0).set1 u1).set2 u2).set3 u3).set4 u4⟩
  have:=f.1 x c;exact⟨(h.b x (.tail _ c)).1,(h.b x (.tail _ c)).2.far5 (by omega)⟩
 exact((h.k x c).only i (fun e=>e.2 _ (.head _) rfl)).mono fun j _ e=>⟨e.1,fun y g=>by rcases aB.1 g with rfl | g;exact e.2 ⟨b,v0,v1,v2,v3,v4⟩ (.head _);exact e.2 _ (.tail _ g)⟩
theorem Fx.kid1 {u:Tr} {kv:Value} (h:Fx w0 W q B s p l ((u.ks,kv)::ks) w):Fx w0 W q B s p l (([u],.slice (some ⟨w.heap.size,0,none⟩) 1 1)::(u.ks,kv)::ks) (w.alloc (.cells #[.int .i64 u.kd,.string ⟨u.nm.toArray⟩,.float .f64 u.x,kv,.complex .f64 u.z.1 u.z.2] 42)) :=
 let g:=h.quiet (Ad w (.cells #[.int .i64 u.kd,.string ⟨u.nm.toArray⟩,.float .f64 u.x,kv,.complex .f64 u.z.1 u.z.2] 42))
 ⟨g.z,g.o,g.hq,g.hw,g.hB,g.b,fun x a=>by
   rcases aB.1 a with rfl | a
   ·have f:=h.k _ (.head _)
    refine Am.row _ [(u,kv)] w.heap.size 1 _ ⟨h.hB.2,fun y m=>aI (h.new y m)⟩ (heap_alloc_new _ _) (by simp) (by decide) rfl rfl fun p i=>?_;obtain rfl:p=(u,kv):=(by simpa using i);exact(f.mono fun j c e=>⟨e,aF c⟩).bel (Ad _ _)
   exact g.k x a,g.d⟩
theorem Fx.kid2 {u v:Tr} {a kv:Value} (h:Fx w0 W q B s p l ((v.ks,kv)::(u.ks,a)::ks) w):Fx w0 W q B s p l (([u,v],.slice (some ⟨w.heap.size,0,none⟩) 2 2)::(v.ks,kv)::(u.ks,a)::ks) (w.alloc (.cells #[.int .i64 u.kd,.string ⟨u.nm.toArray⟩,.float .f64 u.x,a,.complex .f64 u.z.1 u.z.2,.int .i64 v.kd,.string ⟨v.nm.toArray⟩,.float .f64 v.x,kv,.complex .f64 v.z.1 v.z.2] 42)) :=
 let g:=h.quiet (Ad w (.cells #[.int .i64 u.kd,.string ⟨u.nm.toArray⟩,.float .f64 u.x,a,.complex .f64 u.z.1 u.z.2,.int .i64 v.kd,.string ⟨v.nm.toArray⟩,.float .f64 v.x,kv,.complex .f64 v.z.1 v.z.2] 42))
 ⟨g.z,g.o,g.hq,g.hw,g.hB,g.b,fun x i=>by
   rcases aB.1 i with rfl | i
   ·refine Am.row _ [(u,a),(v,kv)] w.heap.size 2 _ ⟨h.hB.2,fun y m=>aI (h.new y m)⟩ (heap_alloc_new _ _) (by simp) (by decide) rfl rfl fun p f=>?_
    rcases aB.1 f with rfl | f
    ·exact((h.k _ (.tail _ (.head _))).mono fun j c e=>⟨e,aF c⟩).bel (Ad _ _)
    obtain rfl:p=(v,kv):=(by simpa using f);exact((h.k _ (.head _)).mono fun j c e=>⟨e,aF c⟩).bel (Ad _ _)
   exact g.k x i,g.d⟩
theorem Fx.kid3 {u v y:Tr} {i kv a:Value} (h:Fx w0 W q B s p l ((y.ks,a)::(v.ks,kv)::(u.ks,i)::ks) w):Fx w0 W q B s p l (([u,v,y],.slice (some ⟨w.heap.size,0,none⟩) 3 3)::(y.ks,a)::(v.ks,kv)::(u.ks,i)::ks) (w.alloc (.cells #[.int .i64 u.kd,.string ⟨u.nm.toArray⟩,.float .f64 u.x,i,.complex .f64 u.z.1 u.z.2,.int .i64 v.kd,.string ⟨v.nm.toArray⟩,.float .f64 v.x,kv,.complex .f64 v.z.1 v.z.2,.int .i64 y.kd,.string ⟨y.nm.toArray⟩,.float .f64 y.x,a,.complex .f64 y.z.1 y.z.2] 42)) :=
 let g:=h.quiet (Ad w (.cells #[.int .i64 u.kd,.string ⟨u.nm.toArray⟩,.float .f64 u.x,i,.complex .f64 u.z.1 u.z.2,.int .i64 v.kd,.string ⟨v.nm.toArray⟩,.float .f64 v.x,kv,.complex .f64 v.z.1 v.z.2,.int .i64 y.kd,.string ⟨y.nm.toArray⟩,.float .f64 y.x,a,.complex .f64 y.z.1 y.z.2] 42))
 ⟨g.z,g.o,g.hq,g.hw,g.hB,g.b,fun x m=>by
   rcases aB.1 m with rfl | m
   ·refine Am.row _ [(u,i),(v,kv),(y,a)] w.heap.size 3 _ ⟨h.hB.2,fun y n=>aI (h.new y n)⟩ (heap_alloc_new _ _) (by simp) (by decide) rfl rfl fun p f=>?_
    rcases aB.1 f with rfl | f
    ·exact((h.k _ (.tail _ (.tail _ (.head _)))).mono fun j c e=>⟨e,aF c⟩).bel (Ad _ _)
    rcases aB.1 f with rfl | f
    ·exact((h.k _ (.tail _ (.head _))).mono fun j c e=>⟨e,aF c⟩).bel (Ad _ _)
    obtain rfl:p=(y,a):=(by simpa using f);exact((h.k _ (.head _)).mono fun j c e=>⟨e,aF c⟩).bel (Ad _ _)
   exact g.k x m,g.d⟩
theorem Fx.done (h:Fx w0 W q (W.heap.size+1) s p l ks w) {t:Tr} {kv:Value} (b:Am 42 w (W.heap.size+1 <= ·) t.ks kv) (u0 u1 u2 u3 u4:Value) {r:Hf (List Tr)} (a:Hid (.ok [t] p=r)) :
  AbS q W r (NM w0 q s W) (.returned (CJ t kv)) (((((w.setCell ⟨W.heap.size,0,none⟩ u0).setCell ⟨W.heap.size,1,none⟩ u1).setCell ⟨W.heap.size,2,none⟩ u2).setCell ⟨W.heap.size,3,none⟩ u3).setCell ⟨W.heap.size,4,none⟩ u4):=by
 have c:=(((((Ae.refl W.heap.size w).set 0 u0).set 1 u1).set 2 u2).set 3 u3).set 4 u4;have d:=h.hq;exact O2 a ⟨⟨t,kv,rfl,rfl,(b.only c (by omega)).mono fun j _ h=>by omega⟩,h.z.far5 h.hw (by omega) _ _ _ _ _⟩ (LI h.o (aG _) _ _ _ _ _)
end
set_option linter.unusedSimpArgs false in
theorem YM {nx:Nat->Bool->Tk} {pl:Nat->Nat×Nat} {ere:List UInt8->Option Bool} {w0:World} {q:Nat} {s:ByteArray} (hN:F2 nx s w0) (hP:H6 pl s) (n:Nat)
  (hO:NC nx pl ere w0 q s n .primary 300):NC nx pl ere w0 q s (n+1) .post 298:=by
 intro p W h hh;obtain⟨r,er⟩:∃r,Dn nx pl ere (n+1) .post p=r:=⟨_,rfl⟩;rw[er] at hh ⊢;rw[Dn] at er;have V:=aA er;have a:=aA (Fx.start1 h (.int .i64 0) (.string ⟨#[]⟩) (.float .f64 0) (.slice none 0 0) (.complex .f64 0 0) 42);have HN:=aA hN;have HP:=aA hP;have HO:=aA (fun p W h g=>hO p W h g);clear er h hN hP hO;obtain⟨i,j,k,l,m,w⟩:=a.out.b0
 go_in
 go_wp2_with (first | (go_at_call 300;(with_reducible refine(HO.out _ _ a.out.z (CA V hh)).mono ?_);intro e Y ha;rcases ha.part V hh with⟨f,er,rfl,U,hr⟩ | ⟨_,p1,v,rfl,⟨⟨u,kv,rfl,rfl,hk⟩,X⟩,U,a0⟩;exact⟨rfl,BX hr (a.out.o.trans U)⟩;replace V:=a0;clear a0 ha;(try dsimp only at V);obtain⟨au,cu,rfl⟩:=hk.slice;replace a:=aA ((a.out.read hk X U).box (.int .i64 u.kd) (.string ⟨u.nm.toArray⟩) (.float .f64 u.x) (.slice au u.ks.length cu) (.complex .f64 u.z.1 u.z.2) 42);clear hk X U;(try dsimp only[hd1,List.headD,aH,aJ,List.nil_append] at V);(try clear i j k l m w);(try clear y A B C D E);(try clear O P Q R S T);(try clear m30 m31 m32 m33 m34 m3f);obtain⟨i,j,k,l,m,w⟩:=a.out.b0;obtain⟨y,A,B,C,D,E⟩:=a.out.b1;unfold CJ) | (go_at_call 65;(with_reducible refine(DS HN.out a.out.z false).mono ?_);intro e Z ha;rcases ha.part V hh with⟨f,er,rfl,U,hr⟩ | ⟨d,p2,v,rfl,⟨rfl,rfl,h0,et,c0,hb⟩,U,a0⟩;exact⟨rfl,BX hr (a.out.o.trans U)⟩;replace V:=a0;clear a0 ha;(try dsimp only at V);replace a:=aA ((a.out.quiet hb).box (.int .i64 d.kd) (.string ⟨d.tx.toArray⟩) (.float .f64 d.nm) (.int .i64 d.f) (.int .i64 d.t) 70);clear h0 et hb U;(try clear i j k l m w);(try clear y A B C D E);(try clear O P Q R S T);(try clear m30 m31 m32 m33 m34 m3f);obtain⟨i,j,k,l,m,w⟩:=a.out.b0;obtain⟨y,A,B,C,D,E⟩:=a.out.b1;obtain⟨O,P,Q,R,S,T⟩:=a.out.b2;unfold G1) | (go_at_call 137;(with_reducible refine(R' u au u.ks.length cu _).mono ?_);rintro e w3 ⟨rfl,hb⟩;replace a:=aA (a.out.quiet hb);clear hb;cases hs:Z1 u<;>(simp only[hs,if_true,if_false,aD,reduceIte,and_true,true_and,and_false,false_and] at V;clear hs);all_goals ((try clear i j k l m w);(try clear y A B C D E);(try clear O P Q R S T);(try clear m30 m31 m32 m33 m34 m3f);obtain⟨i,j,k,l,m,w⟩:=a.out.b0;obtain⟨y,A,B,C,D,E⟩:=a.out.b1;obtain⟨O,P,Q,R,S,T⟩:=a.out.b2)) | (go_at_call 45;(with_reducible refine(EE d [43,43] _).mono ?_);rintro e w4 ⟨rfl,hb⟩;replace a:=aA (a.out.quiet hb);clear hb;cases hs:isS d [43,43]<;>(simp only[hs,if_true,if_false,aD,reduceIte,or_true,true_or,or_false,false_or,and_true,true_and,and_false,false_and] at V;clear hs);all_goals ((try clear i j k l m w);(try clear y A B C D E);(try clear O P Q R S T);(try clear m30 m31 m32 m33 m34 m3f);obtain⟨i,j,k,l,m,w⟩:=a.out.b0;obtain⟨y,A,B,C,D,E⟩:=a.out.b1;obtain⟨O,P,Q,R,S,T⟩:=a.out.b2)) | (go_at_call 45;(with_reducible refine(EE d [45,45] _).mono ?_);rintro e w5 ⟨rfl,hb⟩;replace a:=aA (a.out.quiet hb);clear hb;cases hs:isS d [45,45]<;>(simp only[hs,if_true,if_false,aD,reduceIte,or_true,true_or,or_false,false_or,and_true,true_and,and_false,false_and] at V;clear hs);all_goals ((try clear i j k l m w);(try clear y A B C D E);(try clear O P Q R S T);(try clear m30 m31 m32 m33 m34 m3f);obtain⟨i,j,k,l,m,w⟩:=a.out.b0;obtain⟨y,A,B,C,D,E⟩:=a.out.b1;obtain⟨O,P,Q,R,S,T⟩:=a.out.b2)))
 iterate 2
  focus
   obtain⟨z0,z1,z2,z3,z4,zf⟩:=((((a.out.b2.set0 (.int .i64 u.kd)).set1 (.string ⟨u.nm.toArray⟩)).set2 (.float .f64 u.x)).set3 (.slice au u.ks.length cu)).set4 (.complex .f64 u.z.1 u.z.2);exact bodyPost_ret (v:=CJ u (.slice au u.ks.length cu)) (by simp[CJ,results,results298,go_sem,z0,z1,z2,z3,z4]<;>exact rfl) rfl (a.out.done a.out.k0 _ _ _ _ _ V)
 ·have b:Z.heap.size≠W.heap.size:=a.out.ne02
  have c:Y.heap.size≠W.heap.size:=a.out.ne12;obtain⟨d0,e0,f0,g0,i0,-⟩:=a.out.drew.b0;obtain⟨j0,l0,m0,o0,p0,-⟩:=a.out.drew.b1;obtain⟨q0,r0,s0,t0,v0,-⟩:=a.out.kid1.drew.b0;obtain⟨x0,y0,a1,c1,d1,-⟩:=a.out.kid1.drew.b1
  (try clear i j k l m w);(try clear y A B C D E);(try clear O P Q R S T);(try clear m30 m31 m32 m33 m34 m3f)
  go_region_held3 (fun o=>o.cell? ⟨Z.heap.size,0,none⟩=some (.int .i64 d.kd)/\o.cell? ⟨Z.heap.size,1,none⟩=some (.string ⟨d.tx.toArray⟩)/\o.cell? ⟨Z.heap.size,2,none⟩=some (.float .f64 d.nm)/\o.cell? ⟨Z.heap.size,3,none⟩=some (.int .i64 d.f)/\o.cell? ⟨Z.heap.size,4,none⟩=some (.int .i64 d.t)/\o.cell? ⟨Y.heap.size,0,none⟩=some (.int .i64 u.kd)/\o.cell? ⟨Y.heap.size,1,none⟩=some (.string ⟨u.nm.toArray⟩)/\o.cell? ⟨Y.heap.size,2,none⟩=some (.float .f64 u.x)/\o.cell? ⟨Y.heap.size,3,none⟩=some (.slice au u.ks.length cu)/\o.cell? ⟨Y.heap.size,4,none⟩=some (.complex .f64 u.z.1 u.z.2)) (first | with_reducible exact⟨d0,e0,f0,g0,i0,j0,l0,m0,o0,p0⟩ | with_reducible exact⟨q0,r0,s0,t0,v0,x0,y0,a1,c1,d1⟩ | with_reducible exact⟨s00,F,G,H,I,J,K,L,M,N⟩ | with_reducible exact⟨Az s00 _,Az F _,Az G _,Az H _,Az I _,Az J _,Az K _,Az L _,Az M _,Az N _⟩ | with_reducible exact⟨Em s00 b,Em F b,Em G b,Em H b,Em I b,Em J c,Em K c,Em L c,Em M c,Em N c⟩ | with_reducible exact⟨Em (Az s00 _) b,Em (Az F _) b,Em (Az G _) b,Em (Az H _) b,Em (Az I _) b,Em (Az J _) c,Em (Az K _) c,Em (Az L _) c,Em (Az M _) c,Em (Az N _) c⟩) (first | (go_at_call 66;(with_reducible refine(C2 HP.out a.out.drew.z d c0).mono ?_);rintro e w6 ⟨rfl,X,U⟩;replace a:=aA (a.out.drew.move X U);clear X U;obtain⟨s00,F,G,H,I,-⟩:=a.out.b0;obtain⟨J,K,L,M,N,-⟩:=a.out.b1;obtain⟨n0,n1,n2,n3,n4,nf⟩:=a.out.kid1.b2) | (go_at_call 66;(with_reducible refine(C2 HP.out a.out.kid1.drew.z d c0).mono ?_);rintro e w6 ⟨rfl,X,U⟩;replace a:=aA (a.out.kid1.drew.move X U);clear X U;obtain⟨s00,F,G,H,I,-⟩:=a.out.b0;obtain⟨J,K,L,M,N,-⟩:=a.out.b1;obtain⟨n0,n1,n2,n3,n4,nf⟩:=a.out.b2))
  all_goals go_wp2
  ·replace a:=aA a.out.kid1
   obtain⟨z0,z1,z2,z3,z4,zf⟩:=((((a.out.b2.set0 (.int .i64 18)).set1 (.string ⟨d.tx.toArray⟩)).set2 (.float .f64 0)).set3 (.slice (some ⟨w6.heap.size,0,none⟩) 1 1)).set4 (.complex .f64 (pl d.f).1 (pl d.f).2);exact bodyPost_ret (v:=.agg #[.int .i64 18,.string ⟨d.tx.toArray⟩,.float .f64 0,.slice (some ⟨w6.heap.size,0,none⟩) 1 1,.complex .f64 (pl d.f).1 (pl d.f).2]) (by simp[results,results298,go_sem,z0,z1,z2,z3,z4]<;>exact rfl) rfl (a.out.done (t:=.mk 18 d.tx 0 (pl d.f) [u]) a.out.k0 _ _ _ _ _ V)
  obtain⟨z0,z1,z2,z3,z4,zf⟩:=((((a.out.b2.set0 (.int .i64 18)).set1 (.string ⟨d.tx.toArray⟩)).set2 (.float .f64 0)).set3 (.slice (some ⟨w5.heap.size,0,none⟩) 1 1)).set4 (.complex .f64 (pl d.f).1 (pl d.f).2);exact bodyPost_ret (v:=.agg #[.int .i64 18,.string ⟨d.tx.toArray⟩,.float .f64 0,.slice (some ⟨w5.heap.size,0,none⟩) 1 1,.complex .f64 (pl d.f).1 (pl d.f).2]) (by simp[results,results298,go_sem,z0,z1,z2,z3,z4]<;>exact rfl) rfl (a.out.done (t:=.mk 18 d.tx 0 (pl d.f) [u]) a.out.k0 _ _ _ _ _ V)
 have b:Z.heap.size≠W.heap.size:=a.out.ne02;have c:Y.heap.size≠W.heap.size:=a.out.ne12;obtain⟨d0,e0,f0,g0,i0,-⟩:=a.out.drew.b0;obtain⟨j0,l0,m0,o0,p0,-⟩:=a.out.drew.b1;obtain⟨q0,r0,s0,t0,v0,-⟩:=a.out.kid1.drew.b0;obtain⟨x0,y0,a1,c1,d1,-⟩:=a.out.kid1.drew.b1
 (try clear i j k l m w);(try clear y A B C D E);(try clear O P Q R S T);(try clear m30 m31 m32 m33 m34 m3f)
 go_region_held3 (fun o=>o.cell? ⟨Z.heap.size,0,none⟩=some (.int .i64 d.kd)/\o.cell? ⟨Z.heap.size,1,none⟩=some (.string ⟨d.tx.toArray⟩)/\o.cell? ⟨Z.heap.size,2,none⟩=some (.float .f64 d.nm)/\o.cell? ⟨Z.heap.size,3,none⟩=some (.int .i64 d.f)/\o.cell? ⟨Z.heap.size,4,none⟩=some (.int .i64 d.t)/\o.cell? ⟨Y.heap.size,0,none⟩=some (.int .i64 u.kd)/\o.cell? ⟨Y.heap.size,1,none⟩=some (.string ⟨u.nm.toArray⟩)/\o.cell? ⟨Y.heap.size,2,none⟩=some (.float .f64 u.x)/\o.cell? ⟨Y.heap.size,3,none⟩=some (.slice au u.ks.length cu)/\o.cell? ⟨Y.heap.size,4,none⟩=some (.complex .f64 u.z.1 u.z.2)) (first | with_reducible exact⟨d0,e0,f0,g0,i0,j0,l0,m0,o0,p0⟩ | with_reducible exact⟨q0,r0,s0,t0,v0,x0,y0,a1,c1,d1⟩ | with_reducible exact⟨s00,F,G,H,I,J,K,L,M,N⟩ | with_reducible exact⟨Az s00 _,Az F _,Az G _,Az H _,Az I _,Az J _,Az K _,Az L _,Az M _,Az N _⟩ | with_reducible exact⟨Em s00 b,Em F b,Em G b,Em H b,Em I b,Em J c,Em K c,Em L c,Em M c,Em N c⟩ | with_reducible exact⟨Em (Az s00 _) b,Em (Az F _) b,Em (Az G _) b,Em (Az H _) b,Em (Az I _) b,Em (Az J _) c,Em (Az K _) c,Em (Az L _) c,Em (Az M _) c,Em (Az N _) c⟩) (first | (go_at_call 66;(with_reducible refine(C2 HP.out a.out.drew.z d c0).mono ?_);rintro e w6 ⟨rfl,X,U⟩;replace a:=aA (a.out.drew.move X U);clear X U;obtain⟨s00,F,G,H,I,-⟩:=a.out.b0;obtain⟨J,K,L,M,N,-⟩:=a.out.b1;obtain⟨n0,n1,n2,n3,n4,nf⟩:=a.out.kid1.b2) | (go_at_call 66;(with_reducible refine(C2 HP.out a.out.kid1.drew.z d c0).mono ?_);rintro e w6 ⟨rfl,X,U⟩;replace a:=aA (a.out.kid1.drew.move X U);clear X U;obtain⟨s00,F,G,H,I,-⟩:=a.out.b0;obtain⟨J,K,L,M,N,-⟩:=a.out.b1;obtain⟨n0,n1,n2,n3,n4,nf⟩:=a.out.b2))
 all_goals go_wp2
 ·replace a:=aA a.out.kid1
  obtain⟨z0,z1,z2,z3,z4,zf⟩:=((((a.out.b2.set0 (.int .i64 18)).set1 (.string ⟨d.tx.toArray⟩)).set2 (.float .f64 0)).set3 (.slice (some ⟨w6.heap.size,0,none⟩) 1 1)).set4 (.complex .f64 (pl d.f).1 (pl d.f).2);exact bodyPost_ret (v:=.agg #[.int .i64 18,.string ⟨d.tx.toArray⟩,.float .f64 0,.slice (some ⟨w6.heap.size,0,none⟩) 1 1,.complex .f64 (pl d.f).1 (pl d.f).2]) (by simp[results,results298,go_sem,z0,z1,z2,z3,z4]<;>exact rfl) rfl (a.out.done (t:=.mk 18 d.tx 0 (pl d.f) [u]) a.out.k0 _ _ _ _ _ V)
 obtain⟨z0,z1,z2,z3,z4,zf⟩:=((((a.out.b2.set0 (.int .i64 18)).set1 (.string ⟨d.tx.toArray⟩)).set2 (.float .f64 0)).set3 (.slice (some ⟨w4.heap.size,0,none⟩) 1 1)).set4 (.complex .f64 (pl d.f).1 (pl d.f).2);exact bodyPost_ret (v:=.agg #[.int .i64 18,.string ⟨d.tx.toArray⟩,.float .f64 0,.slice (some ⟨w4.heap.size,0,none⟩) 1 1,.complex .f64 (pl d.f).1 (pl d.f).2]) (by simp[results,results298,go_sem,z0,z1,z2,z3,z4]<;>exact rfl) rfl (a.out.done (t:=.mk 18 d.tx 0 (pl d.f) [u]) a.out.k0 _ _ _ _ _ V)
set_option linter.unusedSimpArgs false in
theorem Zn {nx:Nat->Bool->Tk} {pl:Nat->Nat×Nat} {ere:List UInt8->Option Bool} {w0:World} {q:Nat} {s:ByteArray} (hN:F2 nx s w0) (hP:H6 pl s) (n:Nat)
  (hO:∀m,m<=n->NC nx pl ere w0 q s m .prod 292):NC nx pl ere w0 q s (n+1) .sum 288:=by
 intro p W h V;obtain⟨r,T⟩:∃r,Dn nx pl ere (n+1) .sum p=r:=⟨_,rfl⟩;rw[T] at V ⊢;rw[Dn] at T;have F:=aA T;have a:=aA (Fx.start1 h (.int .i64 0) (.string ⟨#[]⟩) (.float .f64 0) (.slice none 0 0) (.complex .f64 0 0) 42);have HN:=aA hN;have HP:=aA hP;have HO:=aA (fun m (hm:m<=n) p W h g=>hO m hm p W h g);clear T h hN hP hO;obtain⟨b,c,d,i,j,k⟩:=a.out.b0
 go_in
 go_wp2_with (first | (go_at_call 292;(with_reducible refine(HO.out _ (aG _) _ _ a.out.z (CA F V)).mono ?_);intro e w1 ha;rcases ha.part F V with⟨f,T,rfl,P,hr⟩ | ⟨_,p1,v,rfl,⟨⟨u,kv,rfl,rfl,X⟩,S⟩,P,O⟩;exact⟨rfl,BX hr (a.out.o.trans P)⟩;replace F:=O;clear O ha;(try dsimp only at F);obtain⟨au,cu,rfl⟩:=X.slice;replace a:=aA ((a.out.read X S P).box (.int .i64 u.kd) (.string ⟨u.nm.toArray⟩) (.float .f64 u.x) (.slice au u.ks.length cu) (.complex .f64 u.z.1 u.z.2) 42);clear X S P;(try dsimp only[hd1,List.headD,aH,aJ,List.nil_append] at F);(try clear b c d i j k);(try clear l A B C D E);(try clear G H I J L M);(try clear m30 m31 m32 m33 m34 m3f);obtain⟨b,c,d,i,j,k⟩:=a.out.b0;obtain⟨l,A,B,C,D,E⟩:=a.out.b1;unfold CJ))
 (try clear b c d i j k);(try clear l A B C D E);(try clear G H I J L M);(try clear m30 m31 m32 m33 m34 m3f)
 go_loopg [] n (fun g wr=>∃(m:Nat) (x:Tr) (Y:Option Addr) (Z:Nat) (pr:Ps),m=g/\m<=n/\Hid (Dn nx pl ere m (.sumL x) pr=r)/\Hid (Fx w0 W q (W.heap.size+1) s pr [⟨w1.heap.size,.int .i64 x.kd,.string ⟨x.nm.toArray⟩,.float .f64 x.x,.slice Y x.ks.length Z,.complex .f64 x.z.1 x.z.2⟩,⟨W.heap.size,.int .i64 0,.string ⟨#[]⟩,.float .f64 0,.slice none 0 0,.complex .f64 0 0⟩] [(x.ks,.slice Y x.ks.length Z)] wr))
 case atStart=>exact⟨n,u,au,cu,p1,rfl,aG _,F,a⟩
 clear a F;obtain⟨m,x,Y,Z,pr,rfl,c0,F,a⟩:=hrel
 cases m with
 | zero=>exact absurd F.out.symm V
 | succ m =>
 replace F:=aA (by have:=F.out;rw[Dn] at this;exact this);obtain⟨b,c,d,i,j,k⟩:=a.out.b0;obtain⟨l,A,B,C,D,E⟩:=a.out.b1
 go_wp2_with (first | (go_at_call 65;(with_reducible refine(DS HN.out a.out.z false).mono ?_);intro e w2 ha;rcases ha.part F V with⟨f,T,rfl,P,hr⟩ | ⟨N,p2,v,rfl,⟨rfl,rfl,h0,et,a0,R⟩,P,O⟩;exact⟨rfl,BX hr (a.out.o.trans P)⟩;replace F:=O;clear O ha;(try dsimp only at F);replace a:=aA ((a.out.quiet R).box (.int .i64 N.kd) (.string ⟨N.tx.toArray⟩) (.float .f64 N.nm) (.int .i64 N.f) (.int .i64 N.t) 70);clear h0 et R P;(try clear b c d i j k);(try clear l A B C D E);(try clear G H I J L M);(try clear m30 m31 m32 m33 m34 m3f);obtain⟨b,c,d,i,j,k⟩:=a.out.b0;obtain⟨l,A,B,C,D,E⟩:=a.out.b1;obtain⟨G,H,I,J,L,M⟩:=a.out.b2;unfold G1) | (go_at_call 45;(with_reducible refine(EE N [43] _).mono ?_);rintro e w3 ⟨rfl,R⟩;replace a:=aA (a.out.quiet R);clear R;cases hs:isS N [43]<;>(simp only[hs,if_true,if_false,aD,reduceIte,or_true,true_or,or_false,false_or,and_true,true_and,and_false,false_and] at F;clear hs);all_goals ((try clear b c d i j k);(try clear l A B C D E);(try clear G H I J L M);(try clear m30 m31 m32 m33 m34 m3f);obtain⟨b,c,d,i,j,k⟩:=a.out.b0;obtain⟨l,A,B,C,D,E⟩:=a.out.b1;obtain⟨G,H,I,J,L,M⟩:=a.out.b2)) | (go_at_call 45;(with_reducible refine(EE N [45] _).mono ?_);rintro e w4 ⟨rfl,R⟩;replace a:=aA (a.out.quiet R);clear R;cases hs:isS N [45]<;>(simp only[hs,if_true,if_false,aD,reduceIte,or_true,true_or,or_false,false_or,and_true,true_and,and_false,false_and] at F;clear hs);all_goals ((try clear b c d i j k);(try clear l A B C D E);(try clear G H I J L M);(try clear m30 m31 m32 m33 m34 m3f);obtain⟨b,c,d,i,j,k⟩:=a.out.b0;obtain⟨l,A,B,C,D,E⟩:=a.out.b1;obtain⟨G,H,I,J,L,M⟩:=a.out.b2)) | (go_at_call 66;(with_reducible refine(C2 HP.out a.out.z N a0).mono ?_);rintro e w7 ⟨rfl,S,P⟩;replace a:=aA (a.out.move S P);clear S P;(try clear b c d i j k);(try clear l A B C D E);(try clear G H I J L M);(try clear m30 m31 m32 m33 m34 m3f);obtain⟨b,c,d,i,j,k⟩:=a.out.b0;obtain⟨l,A,B,C,D,E⟩:=a.out.b1;obtain⟨G,H,I,J,L,M⟩:=a.out.b2))
 ·obtain⟨z0,z1,z2,z3,z4,zf⟩:=((((a.out.b2.set0 (.int .i64 x.kd)).set1 (.string ⟨x.nm.toArray⟩)).set2 (.float .f64 x.x)).set3 (.slice Y x.ks.length Z)).set4 (.complex .f64 x.z.1 x.z.2)
  exact bodyPost_ret (v:=CJ x (.slice Y x.ks.length Z)) (by simp[CJ,results,results288,go_sem,z0,z1,z2,z3,z4]<;>exact rfl) rfl (a.out.done a.out.k0 _ _ _ _ _ F)
 iterate 2
  focus
   (try clear b c d i j k);(try clear l A B C D E);(try clear G H I J L M);(try clear m30 m31 m32 m33 m34 m3f)
   refine a.out.region 8 (by kernel_rfl) (fun Q=>?_);refine AbP 0 (.pointer (some ⟨w2.heap.size,1,none⟩)) rfl Q ?_
   try simp only[Act.put,sP]
   refine AbU 1 (.string ⟨N.tx.toArray⟩) rfl (fun w hS=>by obtain⟨s0,s1,s2,s3,s4,-⟩:=hS.b0;go_simp) Q ?_
   try simp only[Act.put,sP]
   refine AbP 2 (.complex .f64 (pl N.f).1 (pl N.f).2) rfl Q ?_
   try simp only[Act.put,sP]
   refine AbU 3 ((.agg #[.int .i64 x.kd,.string ⟨x.nm.toArray⟩,.float .f64 x.x,.slice Y x.ks.length Z,.complex .f64 x.z.1 x.z.2])) rfl (fun w hS=>by obtain⟨s0,s1,s2,s3,s4,-⟩:=hS.b1;go_simp) Q ?_
   try simp only[Act.put,sP]
   refine AbP 4 (.pointer (some ⟨q,0,none⟩)) rfl Q ?_
   try simp only[Act.put,sP]
   refine AaC 5 rfl (fun K U=>?_)
   try go_simp
   go_at_call 292
   refine(HO.out _ (by omega) _ _ a.out.drew.z (CA F V)).mono ?_;intro e w8 ha;rcases ha.part F V with⟨f,T,rfl,P,hr⟩ | ⟨_,p8,v,rfl,⟨⟨y,kv,rfl,rfl,X⟩,S⟩,P,O⟩
   ·exact⟨rfl,BX hr (a.out.drew.o.trans P)⟩
   replace F:=O;clear O ha
   (try dsimp only at F)
   obtain⟨ay,cy,rfl⟩:=X.slice;replace a:=aA (a.out.drew.read X S P);clear X S P Q;unfold CJ;refine U.out _ _ (.inr a.out.bs) ?_
   try simp only[Act.put,sP]
   refine AaC 6 rfl (fun K U=>?_)
   try go_simp
   replace a:=aA a.out.kid2;refine U.out _ _ (.inr a.out.bs) ?_
   try simp only[Act.put,sP]
   refine AaC 7 rfl (fun K U=>?_)
   try go_simp
   refine U.out _ _ (.inr a.out.bs) ?_
   try simp only[Act.put,sP]
   obtain⟨n0,n1,n2,n3,n4,nf⟩:=a.out.drop.b0;refine AaC 8 rfl (fun K U=>?_)
   try go_simp
   replace a:=aA (a.out.drop.store (.int .i64 15) (.string ⟨N.tx.toArray⟩) (.float .f64 0) (.slice (some ⟨w8.heap.size,0,none⟩) 2 2) (.complex .f64 (pl N.f).1 (pl N.f).2));refine U.out _ _ (.inl rfl) ?_
   try simp only[Act.put,sP]
   refine Aal (by kernel_rfl) ?_ _;go_wp2
   go_roundg m
   case rel=>exact⟨m,.mk 15 N.tx 0 (pl N.f) [x,y],some ⟨w8.heap.size,0,none⟩,2,p8,rfl,by omega,F,aA a.out.row1⟩
   all_goals omega
end Go.Proofs.YtfblenhlildnaaaGreatDoor
