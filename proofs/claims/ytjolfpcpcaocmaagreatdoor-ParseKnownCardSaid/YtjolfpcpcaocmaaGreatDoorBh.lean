/- Bh Bi -/
import Derived.Test.YtjolfpcpcaocmaaGreatDoorBg
set_option maxRecDepth 100000
set_option maxHeartbeats 2000000
open Go.Lib renaming hid->aA
open Bool renaming false_eq_true->aB,false_or->aC,true_or->aD
namespace Go.Proofs.YtjolfpcpcaocmaaGreatDoor
open Go.Proofs.Tryz
open Go.RowKit
theorem XL (nx:Nat->Bool->Tk) (pl:Nat->Nat×Nat) (x:List UInt8) (p:Ps):EQ nx pl x p =
  if (nx p.a false).e=0 then
   if EP (nx p.a false) x=true then
    if (((x==[40])||(x==[91]))||(x==[123]))=true then (if 40<p.deep+1 then .bad (nx p.a false).f 26 else .ok (pl (nx p.a false).f) { p with a:=(nx p.a false).t,deep:=p.deep+1 })
    else if (((x==[41])||(x==[93]))||(x==[125]))=true then .ok (pl (nx p.a false).f) { p with a:=(nx p.a false).t,deep:=p.deep-1 }
    else .ok (pl (nx p.a false).f) { p with a:=(nx p.a false).t }
   else .bad (nx p.a false).f (Yd (nx p.a false) p)
  else .bad (nx p.a false).f (nx p.a false).e:=by
 unfold EQ Eb ZT ZV;simp only[Zr];by_cases b:(nx p.a false).e=0
 ·rw[if_pos b,if_pos b];rfl
 rw[if_neg b,if_neg b];rfl
theorem Z0 {t:Tk} {x:List UInt8} (h:EP t x=true):t.kd≠0:=by
 unfold EP at h;rw[Bool.and_eq_true] at h;have:=of_decide_eq_true h.1;omega
theorem Zl {nx:Nat->Bool->Tk} {c W:World} {q:Nat} {s:ByteArray} {p:Ps} (l:F2 nx s c) (h:Pz c q s p W) (x:List UInt8) (j:¬ (nx p.a false).e=0) :
  Calls prog 18 #[.pointer (some ⟨q,0,none⟩),.string ⟨x.toArray⟩] W fun e m=>e = .panicked (T3 (nx p.a false).f (nx p.a false).e)/\Ae q W m:=by
 have d:=aA (fun g (i:Pz c q s p g)=>Ea l i false)
 go_in
 go_wp2_with (first | (go_at_call 15;(with_reducible refine(d.out _ h).mono ?_);rintro e n ⟨b,⟨k,-⟩ | ⟨-,rfl⟩⟩;exact absurd k j))
 exact⟨rfl,rfl,Ae.of_below q b⟩
theorem EM {nx:Nat->Bool->Tk} {pl:Nat->Nat×Nat} {u W:World} {q:Nat} {s:ByteArray} {p:Ps} (j:F2 nx s u) (l:PlC pl s) (h:Pz u q s p W) (x:List UInt8) :
  Calls prog 18 #[.pointer (some ⟨q,0,none⟩),.string ⟨x.toArray⟩] W (HJ q W (EQ nx pl x p) fun z r v w'=>v = .complex .f64 z.1 z.2/\Pz u q s r w'):=by
 rw[XL];have c:∀(z:Nat×Nat) (r:Ps) (e:Ending) (w':World),e = .returned (.complex .f64 z.1 z.2)/\Pz u q s r w'/\Ae q W w'->HJ q W (.ok z r) (fun z r v w'=>v = .complex .f64 z.1 z.2/\Pz u q s r w') e w':=fun z r e w' ⟨w,y,A⟩=>⟨_,w,⟨rfl,y⟩,A⟩;by_cases i:(nx p.a false).e=0
 ·rw[if_pos i]
  cases k:EP (nx p.a false) x with
  | false=>simp only[aB,if_false];exact ZL j l h x i k
  | true =>
    have t:=Z0 k;simp only[if_true]
    cases d:x==[40] with
    | true =>
      simp only[aD,if_true];by_cases b:40<p.deep+1
      ·rw[if_pos b];exact XM j l h x i k d b
      rw[if_neg b];exact(ZH j l h x i k d b t).mono fun e w' h=>c _ _ e w' h
    | false =>
      cases g:x==[91] with
      | true =>
        simp only[aC,aD,if_true];by_cases b:40<p.deep+1
        ·rw[if_pos b];exact XN j l h x i k d g b
        rw[if_neg b];exact(ZJ j l h x i k d g b t).mono fun e w' h=>c _ _ e w' h
      | false =>
        cases f:x==[123] with
        | true =>
          simp only[aC,if_true];by_cases b:40<p.deep+1
          ·rw[if_pos b];exact Xy j l h x i k d g f b
          rw[if_neg b];exact(Zj j l h x i k d g f b t).mono fun e w' h=>c _ _ e w' h
        | false =>
          simp only[Bool.or_self,aB,if_false]
          cases m:x==[41] with
          | true=>simp only[aD,if_true];exact(ZI j l h x i k d g f m t).mono fun e w' h=>c _ _ e w' h
          | false =>
            cases o:x==[93] with
            | true=>simp only[aC,aD,if_true];exact(ZK j l h x i k d g f m o t).mono fun e w' h=>c _ _ e w' h
            | false =>
              cases n:x==[125] with
              | true=>simp only[aC,if_true];exact(Zk j l h x i k d g f m o n t).mono fun e w' h=>c _ _ e w' h
              | false=>simp only[Bool.or_self,aB,if_false];exact(Ye j l h x i k d g f m o n).mono fun e w' h=>c _ _ e w' h
 rw[if_neg i];exact Zl j h x i
theorem M' {nx:Nat->Bool->Tk} {pl:Nat->Nat×Nat} {A W:World} {q:Nat} {s:ByteArray} {p:Ps} (G:F2 nx s A) (I:PlC pl s) (h:Pz A q s p W) (u:Bool) (n:Nat) (K:Lf nx u n p ≠ .hush) :
  Calls prog 21 #[.pointer (some ⟨q,0,none⟩),.bool u] W (HJ q W (Lf nx u n p) fun _ T v U=>v = .tuple #[]/\Pz A q s T U):=by
 have M:=aA (fun d D (F:Pz A q s d D)=>Ea G F u);have L:=aA (fun d D (F:Py A q s d D) (t:Tk) (P:t.f<=s.size) (R:t.t<=s.size) (O : -(t.t:Int)<=d.deep)=>E2 I F t P R O);have H:=aA G.ok;have J:=aA (And.intro h (Ae.refl q W));obtain⟨r,E⟩:∃r,Lf nx u n p=r:=⟨_,rfl⟩;rw[E] at K ⊢;have j:=aA E;clear E G I h
 go_in
 go_wp2_with fail
 go_loopg [] n (fun g wr=>∃(m:Nat) (d:Ps),m=g/\Hid (Lf nx u m d=r)/\Hid (Pz A q s d wr/\Ae q W wr))
 case atStart=>exact⟨n,p,rfl,j,J⟩
 obtain⟨m,d,rfl,j,w⟩:=hrel;clear J
 cases m with
 | zero=>exact absurd j.out.symm K
 | succ m =>
 have c:=j.out;have k:=H.out d.a u w.out.1.ha;have hd1:=w.out.1.d1;clear j H;have i:=aA (M.out d _ w.out.1);rw[Lf,Eb] at c;obtain⟨t,N⟩:∃t,nx d.a u=t:=⟨_,rfl⟩;rw[N] at c i k;unfold G1 at i;by_cases x:t.e=0
 ·rw[if_pos x] at c
  simp only[Hf.bind] at c;have V:=k x;have l:=aA (fun C (b:Below wr.heap.size wr C)=>Tf.start (w.out.1.keep b) (w.out.2.trans (Ae.of_below q b)) t 49);by_cases z:t.kd=1
  ·rw[if_pos z] at c
   have j:=aA c;have b1:(t.kd==1)=true:=beq_iff_eq.2 z;clear c k z
   go_wp2_with (first | (go_at_call 15;(with_reducible refine i.out.mono ?_);rintro e C ⟨b,⟨-,rfl⟩ | ⟨B,-⟩⟩;rotate_left;exact absurd x B;replace l:=aA (l.out _ b)) | (go_at_call 16;refine(L.out d _ l.out.p.y t (by omega) (by omega) (by omega)).mono ?_;rintro e X ⟨rfl,S,Q⟩))
   go_roundg m
   case rel=>exact⟨m,_,rfl,j,aA ⟨S,l.out.o.trans Q⟩⟩
   all_goals omega
  rw[if_neg z] at c;have b1:(t.kd==1)=false:=beq_eq_false_iff_ne.2 z;have j:=aA c;clear c k z
  go_wp2_with (first | (go_at_call 15;(with_reducible refine i.out.mono ?_);rintro e C ⟨b,⟨-,rfl⟩ | ⟨B,-⟩⟩;rotate_left;exact absurd x B;replace l:=aA (l.out _ b)))
  refine bodyPost_ret (results_none rfl _ _ _) rfl ?_;rw[<- j.out];exact⟨_,rfl,⟨rfl,l.out.p⟩,l.out.o⟩
 rw[if_neg x] at c;have j:=aA c;clear c k
 go_wp2_with (first | (go_at_call 15;(with_reducible refine i.out.mono ?_);rintro e C ⟨b,⟨B,-⟩ | ⟨-,rfl⟩⟩;exact absurd B x))
 exact⟨rfl,by rw[<- j.out];exact⟨rfl,w.out.2.trans (Ae.of_below q b)⟩⟩
end Go.Proofs.YtjolfpcpcaocmaaGreatDoor
