/- Bg -/
import Derived.Test.YtjolfpcpcaocmaaGreatDoorBf
set_option maxRecDepth 100000
set_option maxHeartbeats 2000000
open Go.Lib renaming hid->aA
namespace Go.Proofs.YtjolfpcpcaocmaaGreatDoor
open Go.Proofs.Tryz
open Go.RowKit
def HJ {c:Type} (q:Nat) (W:World) (r:Hf c) (b:c->Ps->Value->World->Prop) (e:Ending) (w':World):Prop :=
 match r with
 | .ok a p'=>∃v,e = .returned v/\b a p' v w'/\Ae q W w'
 | .bad f er=>e = .panicked (T3 f er)/\Ae q W w'
 | .hush=>True
structure Tf (w0 W:World) (q b:Nat) (s:ByteArray) (p:Ps) (t:Tk) (w:World):Prop where
 t:C5 w b (.int .i64 t.kd) (.string ⟨t.tx.toArray⟩) (.float .f64 t.nm) (.int .i64 t.f) (.int .i64 t.t)
 p:Pz w0 q s p w
 o:Ae q W w
 hb:W.heap.size<=b
theorem Tf.keep {c W w w':World} {q b:Nat} {s:ByteArray} {p:Ps} {t:Tk} (h:Tf c W q b s p t w) (a:Below w.heap.size w w'):Tf c W q b s p t w' :=
 ⟨h.t.below a,h.p.keep a,h.o.trans (Ae.of_below q a),h.hb⟩
theorem Tf.start {b W w:World} {q:Nat} {s:ByteArray} {p:Ps} (h:Pz b q s p w) (a:Ae q W w) (t:Tk) (T:TypeId):Tf b W q w.heap.size s p t (w.alloc (.cells #[.int .i64 t.kd,.string ⟨t.tx.toArray⟩,.float .f64 t.nm,.int .i64 t.f,.int .i64 t.t] T)) :=
 ⟨C5.new _ _ _ _ _ _ _,h.keep (Ad _ _),a.trans (Ae.of_below q (Ad _ _)),a.size⟩
theorem _root_.Go.C5.elsewhere {w:World} {q b i:Nat} {u v0 v1 v2 v3 v4:Value} (h:C5 w b v0 v1 v2 v3 v4) (a:q≠b):C5 (w.setCell ⟨q,i,none⟩ u) b v0 v1 v2 v3 v4:=by
 have e:∀j,(⟨q,i,none⟩:Addr)≠⟨b,j,none⟩:=fun j e=>a (by injection e);exact⟨by rw[Ag (e 0)];exact h.c0,by rw[Ag (e 1)];exact h.c1,by rw[Ag (e 2)];exact h.c2,by rw[Ag (e 3)];exact h.c3,by rw[Ag (e 4)];exact h.c4,fun j=>by rw[World.frozen?_setCell];exact h.fz j⟩
structure Tg (w0 W:World) (q b:Nat) (s:ByteArray) (p:Ps) (t:Tk) (w:World):Prop where
 t:C5 w b (.int .i64 t.kd) (.string ⟨t.tx.toArray⟩) (.float .f64 t.nm) (.int .i64 t.f) (.int .i64 t.t)
 c:C4 w q (.string s) (.int .i64 p.a) (.int .i64 p.deep) (.int .i64 p.outs)
 o:Ae q W w
theorem Tf.deeper {a W w:World} {q b:Nat} {s:ByteArray} {p:Ps} {t:Tk} (h:Tf a W q b s p t w) (e:q<W.heap.size) (d:Int):Tg a W q b s { p with deep:=d } t (w.setCell ⟨q,2,none⟩ (.int .i64 d)) :=
 ⟨h.t.elsewhere (by have:=h.hb;omega),h.p.c.set2 _,h.o.set 2 _⟩
theorem Zr (x y:List UInt8):decide (x=y)=(x==y):=by
 by_cases h:x=y
 ·rw[decide_eq_true h,beq_iff_eq.2 h]
 rw[decide_eq_false h,beq_eq_false_iff_ne.2 h]
theorem ZL {nx:Nat->Bool->Tk} {pl:Nat->Nat×Nat} {l W:World} {q:Nat} {s:ByteArray} {p:Ps} (n:F2 nx s l) (_hP:PlC pl s) (h:Pz l q s p W) (x:List UInt8) (m:(nx p.a false).e=0) (r:EP (nx p.a false) x=false) :
  Calls prog 18 #[.pointer (some ⟨q,0,none⟩),.string ⟨x.toArray⟩] W (fun e G=>e = .panicked (T3 (nx p.a false).f (Yd (nx p.a false) p))/\Ae q W G):=by
 have i:=aA (fun y (A:Pz l q s p y)=>Ea n A false);have k:=n.ok p.a false h.ha;have hd1:=h.d1;have C:=h.d2;have ha:=h.ha;have F:=h.hs;have D:=h.lt;have E:∀(x:Value) (w:World),Sem.run prog (Instr.panic (.iface 44 x)) w = .halt (.panic (.iface 44 x)) w:=fun _ _=>rfl;obtain⟨t,z⟩:∃t,nx p.a false=t:=⟨_,rfl⟩;rw[z] at i k m r ⊢;unfold G1 at i;have d:=aA (fun u (b:Below W.heap.size W u)=>Tf.start (h.keep b) (Ae.of_below q b) t 49);have v:=aA (F5 r)
 go_in
 go_wp2_with (first | (go_at_call 15;(with_reducible refine(i.out _ h).mono ?_);rintro e u ⟨b,⟨-,rfl⟩ | ⟨B,-⟩⟩;rotate_left;exact absurd m B;replace d:=aA (d.out _ b)) | (go_at_call 12;(with_reducible refine(v.out _).mono ?_);rintro e R ⟨rfl,g⟩;replace d:=aA (d.out.keep g);clear g;obtain⟨H,I,J,K,L,M⟩:=d.out.t;obtain⟨N,q1,O,P,Q⟩:=d.out.p.c) | (go_at_call 17;refine(SX d.out.p t).mono ?_;rintro e S ⟨j,rfl⟩))
 exact⟨rfl,rfl,d.out.o.trans (Ae.of_below q j)⟩
theorem Ye {nx:Nat->Bool->Tk} {pl:Nat->Nat×Nat} {i W:World} {q:Nat} {s:ByteArray} {p:Ps} (r:F2 nx s i) (J:PlC pl s) (h:Pz i q s p W) (x:List UInt8) (n:(nx p.a false).e=0) (u:EP (nx p.a false) x=true) (C:(x==[40])=false) (E:(x==[91])=false) (l:(x==[123])=false) (D:(x==[41])=false) (F:(x==[93])=false) (m:(x==[125])=false) :
  Calls prog 18 #[.pointer (some ⟨q,0,none⟩),.string ⟨x.toArray⟩] W (fun e v=>e = .returned (.complex .f64 (pl (nx p.a false).f).1 (pl (nx p.a false).f).2)/\Pz i q s (CQ (nx p.a false) p) v/\Ae q W v):=by
 have j:=aA (fun B (H:Pz i q s p B)=>Ea r H false);have k:=r.ok p.a false h.ha;have hd1:=h.d1;have K:=h.d2;have ha:=h.ha;have O:=h.hs;have L:=h.lt;have N:∀(x:Value) (w:World),Sem.run prog (Instr.panic (.iface 44 x)) w = .halt (.panic (.iface 44 x)) w:=fun _ _=>rfl;obtain⟨t,G⟩:∃t,nx p.a false=t:=⟨_,rfl⟩;rw[G] at j k n u ⊢;unfold G1 at j;have d:=aA (fun z (b:Below W.heap.size W z)=>Tf.start (h.keep b) (Ae.of_below q b) t 49);have A:=aA (F5 u)
 go_in
 go_wp2_with (first | (go_at_call 15;(with_reducible refine(j.out _ h).mono ?_);rintro e z ⟨b,⟨-,rfl⟩ | ⟨I,-⟩⟩;rotate_left;exact absurd n I;replace d:=aA (d.out _ b)) | (go_at_call 12;(with_reducible refine(A.out _).mono ?_);rintro e w2 ⟨rfl,g⟩;replace d:=aA (d.out.keep g);clear g;obtain⟨Q,R,S,T,U,V⟩:=d.out.t;obtain⟨X,q1,Y,Z,qf⟩:=d.out.p.c) | (go_at_call 16;refine(E2 J d.out.p.y t (by omega) (by omega) (by omega)).mono ?_;rintro e w3 ⟨rfl,P,M⟩))
 go_ret;exact⟨rfl,P,d.out.o.trans M⟩
theorem XM {nx:Nat->Bool->Tk} {pl:Nat->Nat×Nat} {n W:World} {q:Nat} {s:ByteArray} {p:Ps} (u:F2 nx s n) (_hP:PlC pl s) (h:Pz n q s p W) (x:List UInt8) (r:(nx p.a false).e=0) (v:EP (nx p.a false) x=true) (B:(x==[40])=true) (k:40<p.deep+1) :
  Calls prog 18 #[.pointer (some ⟨q,0,none⟩),.string ⟨x.toArray⟩] W (fun e I=>e = .panicked (T3 (nx p.a false).f 26)/\Ae q W I):=by
 have i:=aA (fun A (D:Pz n q s p A)=>Ea u D false);have m:=u.ok p.a false h.ha;have hd1:=h.d1;have F:=h.d2;have ha:=h.ha;have H:=h.hs;have l:=h.lt;have G:∀(x:Value) (w:World),Sem.run prog (Instr.panic (.iface 44 x)) w = .halt (.panic (.iface 44 x)) w:=fun _ _=>rfl;obtain⟨t,C⟩:∃t,nx p.a false=t:=⟨_,rfl⟩;rw[C] at i m r v ⊢;unfold G1 at i;have d:=aA (fun y (b:Below W.heap.size W y)=>Tf.start (h.keep b) (Ae.of_below q b) t 49);have z:=aA (F5 v);have K:wrap64 (p.deep+1)=p.deep+1:=by unfold wrap64;omega
 have J:decide (40<p.deep+1)=true:=decide_eq_true k
 go_in
 go_wp2_with (first | (go_at_call 15;(with_reducible refine(i.out _ h).mono ?_);rintro e y ⟨b,⟨-,rfl⟩ | ⟨E,-⟩⟩;rotate_left;exact absurd r E;replace d:=aA (d.out _ b)) | (go_at_call 12;(with_reducible refine(z.out _).mono ?_);rintro e w2 ⟨rfl,g⟩;replace d:=aA (d.out.keep g);clear g;obtain⟨M,N,O,P,Q,R⟩:=d.out.t;obtain⟨S,q1,T,U,V⟩:=d.out.p.c;have j:=aA (d.out.deeper l (p.deep+1));obtain⟨k0,k1,k2,k3,k4,L⟩:=j.out.t;obtain⟨X,Y,Z,r3,rf⟩:=j.out.c))
 exact⟨rfl,rfl,j.out.o⟩
theorem ZH {nx:Nat->Bool->Tk} {pl:Nat->Nat×Nat} {j W:World} {q:Nat} {s:ByteArray} {p:Ps} (u:F2 nx s j) (I:PlC pl s) (h:Pz j q s p W) (x:List UInt8) (m:(nx p.a false).e=0) (z:EP (nx p.a false) x=true) (E:(x==[40])=true) (n:¬ 40<p.deep+1) (v:(nx p.a false).kd≠0) :
  Calls prog 18 #[.pointer (some ⟨q,0,none⟩),.string ⟨x.toArray⟩] W (fun e A=>e = .returned (.complex .f64 (pl (nx p.a false).f).1 (pl (nx p.a false).f).2)/\Pz j q s { CQ (nx p.a false) p with deep:=p.deep+1 } A/\Ae q W A):=by
 have k:=aA (fun D (G:Pz j q s p D)=>Ea u G false);have i:=u.ok p.a false h.ha;have hd1:=h.d1;have J:=h.d2;have ha:=h.ha;have M:=h.hs;have r:=h.lt;have L:∀(x:Value) (w:World),Sem.run prog (Instr.panic (.iface 44 x)) w = .halt (.panic (.iface 44 x)) w:=fun _ _=>rfl;obtain⟨t,F⟩:∃t,nx p.a false=t:=⟨_,rfl⟩;rw[F] at k i m z v ⊢;unfold G1 at k;have d:=aA (fun B (b:Below W.heap.size W B)=>Tf.start (h.keep b) (Ae.of_below q b) t 49);have C:=aA (F5 z);have P:wrap64 (p.deep+1)=p.deep+1:=by unfold wrap64;omega
 have O:decide (40<p.deep+1)=false:=decide_eq_false n
 go_in
 go_wp2_with (first | (go_at_call 15;(with_reducible refine(k.out _ h).mono ?_);rintro e B ⟨b,⟨-,rfl⟩ | ⟨H,-⟩⟩;rotate_left;exact absurd m H;replace d:=aA (d.out _ b)) | (go_at_call 12;(with_reducible refine(C.out _).mono ?_);rintro e w2 ⟨rfl,g⟩;replace d:=aA (d.out.keep g);clear g;obtain⟨R,S,T,U,V,X⟩:=d.out.t;obtain⟨Y,q1,Z,q3,qf⟩:=d.out.p.c;have l:=aA (d.out.deeper r (p.deep+1));obtain⟨k0,k1,k2,k3,k4,Q⟩:=l.out.t;obtain⟨r0,r1,r2,r3,rf⟩:=l.out.c) | (go_at_call 16;refine(E2 I (d.out.p.y.deeper (p.deep+1) (by omega)) t (by omega) (by omega) (by have:=i m;have:=this.2.2.2.2 v;show -(t.t:Int)<=p.deep+1;omega)).mono ?_;rintro e w3 ⟨rfl,N,K⟩))
 go_ret;exact⟨rfl,N,l.out.o.trans K⟩
theorem XN {nx:Nat->Bool->Tk} {pl:Nat->Nat×Nat} {n W:World} {q:Nat} {s:ByteArray} {p:Ps} (u:F2 nx s n) (_hP:PlC pl s) (h:Pz n q s p W) (x:List UInt8) (r:(nx p.a false).e=0) (v:EP (nx p.a false) x=true) (B:(x==[40])=false) (C:(x==[91])=true) (k:40<p.deep+1) :
  Calls prog 18 #[.pointer (some ⟨q,0,none⟩),.string ⟨x.toArray⟩] W (fun e J=>e = .panicked (T3 (nx p.a false).f 26)/\Ae q W J):=by
 have i:=aA (fun A (E:Pz n q s p A)=>Ea u E false);have m:=u.ok p.a false h.ha;have hd1:=h.d1;have G:=h.d2;have ha:=h.ha;have I:=h.hs;have l:=h.lt;have H:∀(x:Value) (w:World),Sem.run prog (Instr.panic (.iface 44 x)) w = .halt (.panic (.iface 44 x)) w:=fun _ _=>rfl;obtain⟨t,D⟩:∃t,nx p.a false=t:=⟨_,rfl⟩;rw[D] at i m r v ⊢;unfold G1 at i;have d:=aA (fun y (b:Below W.heap.size W y)=>Tf.start (h.keep b) (Ae.of_below q b) t 49);have z:=aA (F5 v);have L:wrap64 (p.deep+1)=p.deep+1:=by unfold wrap64;omega
 have K:decide (40<p.deep+1)=true:=decide_eq_true k
 go_in
 go_wp2_with (first | (go_at_call 15;(with_reducible refine(i.out _ h).mono ?_);rintro e y ⟨b,⟨-,rfl⟩ | ⟨F,-⟩⟩;rotate_left;exact absurd r F;replace d:=aA (d.out _ b)) | (go_at_call 12;(with_reducible refine(z.out _).mono ?_);rintro e w2 ⟨rfl,g⟩;replace d:=aA (d.out.keep g);clear g;obtain⟨N,O,P,Q,R,S⟩:=d.out.t;obtain⟨T,q1,U,V,X⟩:=d.out.p.c;have j:=aA (d.out.deeper l (p.deep+1));obtain⟨k0,k1,k2,k3,k4,M⟩:=j.out.t;obtain⟨Y,Z,r2,r3,rf⟩:=j.out.c))
 exact⟨rfl,rfl,j.out.o⟩
theorem ZJ {nx:Nat->Bool->Tk} {pl:Nat->Nat×Nat} {j W:World} {q:Nat} {s:ByteArray} {p:Ps} (u:F2 nx s j) (J:PlC pl s) (h:Pz j q s p W) (x:List UInt8) (m:(nx p.a false).e=0) (z:EP (nx p.a false) x=true) (E:(x==[40])=false) (F:(x==[91])=true) (n:¬ 40<p.deep+1) (v:(nx p.a false).kd≠0) :
  Calls prog 18 #[.pointer (some ⟨q,0,none⟩),.string ⟨x.toArray⟩] W (fun e A=>e = .returned (.complex .f64 (pl (nx p.a false).f).1 (pl (nx p.a false).f).2)/\Pz j q s { CQ (nx p.a false) p with deep:=p.deep+1 } A/\Ae q W A):=by
 have k:=aA (fun D (H:Pz j q s p D)=>Ea u H false);have i:=u.ok p.a false h.ha;have hd1:=h.d1;have K:=h.d2;have ha:=h.ha;have N:=h.hs;have r:=h.lt;have M:∀(x:Value) (w:World),Sem.run prog (Instr.panic (.iface 44 x)) w = .halt (.panic (.iface 44 x)) w:=fun _ _=>rfl;obtain⟨t,G⟩:∃t,nx p.a false=t:=⟨_,rfl⟩;rw[G] at k i m z v ⊢;unfold G1 at k;have d:=aA (fun B (b:Below W.heap.size W B)=>Tf.start (h.keep b) (Ae.of_below q b) t 49);have C:=aA (F5 z);have Q:wrap64 (p.deep+1)=p.deep+1:=by unfold wrap64;omega
 have P:decide (40<p.deep+1)=false:=decide_eq_false n
 go_in
 go_wp2_with (first | (go_at_call 15;(with_reducible refine(k.out _ h).mono ?_);rintro e B ⟨b,⟨-,rfl⟩ | ⟨I,-⟩⟩;rotate_left;exact absurd m I;replace d:=aA (d.out _ b)) | (go_at_call 12;(with_reducible refine(C.out _).mono ?_);rintro e w2 ⟨rfl,g⟩;replace d:=aA (d.out.keep g);clear g;obtain⟨S,T,U,V,X,Y⟩:=d.out.t;obtain⟨Z,q1,q2,q3,qf⟩:=d.out.p.c;have l:=aA (d.out.deeper r (p.deep+1));obtain⟨k0,k1,k2,k3,k4,R⟩:=l.out.t;obtain⟨r0,r1,r2,r3,rf⟩:=l.out.c) | (go_at_call 16;refine(E2 J (d.out.p.y.deeper (p.deep+1) (by omega)) t (by omega) (by omega) (by have:=i m;have:=this.2.2.2.2 v;show -(t.t:Int)<=p.deep+1;omega)).mono ?_;rintro e w3 ⟨rfl,O,L⟩))
 go_ret;exact⟨rfl,O,l.out.o.trans L⟩
theorem Xy {nx:Nat->Bool->Tk} {pl:Nat->Nat×Nat} {n W:World} {q:Nat} {s:ByteArray} {p:Ps} (v:F2 nx s n) (_hP:PlC pl s) (h:Pz n q s p W) (x:List UInt8) (u:(nx p.a false).e=0) (y:EP (nx p.a false) x=true) (C:(x==[40])=false) (D:(x==[91])=false) (r:(x==[123])=true) (k:40<p.deep+1) :
  Calls prog 18 #[.pointer (some ⟨q,0,none⟩),.string ⟨x.toArray⟩] W (fun e K=>e = .panicked (T3 (nx p.a false).f 26)/\Ae q W K):=by
 have i:=aA (fun B (F:Pz n q s p B)=>Ea v F false);have m:=v.ok p.a false h.ha;have hd1:=h.d1;have H:=h.d2;have ha:=h.ha;have J:=h.hs;have l:=h.lt;have I:∀(x:Value) (w:World),Sem.run prog (Instr.panic (.iface 44 x)) w = .halt (.panic (.iface 44 x)) w:=fun _ _=>rfl;obtain⟨t,E⟩:∃t,nx p.a false=t:=⟨_,rfl⟩;rw[E] at i m u y ⊢;unfold G1 at i;have d:=aA (fun z (b:Below W.heap.size W z)=>Tf.start (h.keep b) (Ae.of_below q b) t 49);have A:=aA (F5 y);have M:wrap64 (p.deep+1)=p.deep+1:=by unfold wrap64;omega
 have L:decide (40<p.deep+1)=true:=decide_eq_true k
 go_in
 go_wp2_with (first | (go_at_call 15;(with_reducible refine(i.out _ h).mono ?_);rintro e z ⟨b,⟨-,rfl⟩ | ⟨G,-⟩⟩;rotate_left;exact absurd u G;replace d:=aA (d.out _ b)) | (go_at_call 12;(with_reducible refine(A.out _).mono ?_);rintro e w2 ⟨rfl,g⟩;replace d:=aA (d.out.keep g);clear g;obtain⟨O,P,Q,R,S,T⟩:=d.out.t;obtain⟨U,q1,V,X,Y⟩:=d.out.p.c;have j:=aA (d.out.deeper l (p.deep+1));obtain⟨k0,k1,k2,k3,k4,N⟩:=j.out.t;obtain⟨Z,r1,r2,r3,rf⟩:=j.out.c))
 exact⟨rfl,rfl,j.out.o⟩
theorem Zj {nx:Nat->Bool->Tk} {pl:Nat->Nat×Nat} {j W:World} {q:Nat} {s:ByteArray} {p:Ps} (v:F2 nx s j) (K:PlC pl s) (h:Pz j q s p W) (x:List UInt8) (m:(nx p.a false).e=0) (A:EP (nx p.a false) x=true) (F:(x==[40])=false) (G:(x==[91])=false) (u:(x==[123])=true) (n:¬ 40<p.deep+1) (z:(nx p.a false).kd≠0) :
  Calls prog 18 #[.pointer (some ⟨q,0,none⟩),.string ⟨x.toArray⟩] W (fun e B=>e = .returned (.complex .f64 (pl (nx p.a false).f).1 (pl (nx p.a false).f).2)/\Pz j q s { CQ (nx p.a false) p with deep:=p.deep+1 } B/\Ae q W B):=by
 have k:=aA (fun E (I:Pz j q s p E)=>Ea v I false);have i:=v.ok p.a false h.ha;have hd1:=h.d1;have L:=h.d2;have ha:=h.ha;have O:=h.hs;have r:=h.lt;have N:∀(x:Value) (w:World),Sem.run prog (Instr.panic (.iface 44 x)) w = .halt (.panic (.iface 44 x)) w:=fun _ _=>rfl;obtain⟨t,H⟩:∃t,nx p.a false=t:=⟨_,rfl⟩;rw[H] at k i m A z ⊢;unfold G1 at k;have d:=aA (fun C (b:Below W.heap.size W C)=>Tf.start (h.keep b) (Ae.of_below q b) t 49);have D:=aA (F5 A);have R:wrap64 (p.deep+1)=p.deep+1:=by unfold wrap64;omega
 have Q:decide (40<p.deep+1)=false:=decide_eq_false n
 go_in
 go_wp2_with (first | (go_at_call 15;(with_reducible refine(k.out _ h).mono ?_);rintro e C ⟨b,⟨-,rfl⟩ | ⟨J,-⟩⟩;rotate_left;exact absurd m J;replace d:=aA (d.out _ b)) | (go_at_call 12;(with_reducible refine(D.out _).mono ?_);rintro e w2 ⟨rfl,g⟩;replace d:=aA (d.out.keep g);clear g;obtain⟨T,U,V,X,Y,Z⟩:=d.out.t;obtain⟨q0,q1,q2,q3,qf⟩:=d.out.p.c;have l:=aA (d.out.deeper r (p.deep+1));obtain⟨k0,k1,k2,k3,k4,S⟩:=l.out.t;obtain⟨r0,r1,r2,r3,rf⟩:=l.out.c) | (go_at_call 16;refine(E2 K (d.out.p.y.deeper (p.deep+1) (by omega)) t (by omega) (by omega) (by have:=i m;have:=this.2.2.2.2 z;show -(t.t:Int)<=p.deep+1;omega)).mono ?_;rintro e w3 ⟨rfl,P,M⟩))
 go_ret;exact⟨rfl,P,l.out.o.trans M⟩
theorem ZI {nx:Nat->Bool->Tk} {pl:Nat->Nat×Nat} {j W:World} {q:Nat} {s:ByteArray} {p:Ps} (u:F2 nx s j) (K:PlC pl s) (h:Pz j q s p W) (x:List UInt8) (m:(nx p.a false).e=0) (z:EP (nx p.a false) x=true) (E:(x==[40])=false) (G:(x==[91])=false) (r:(x==[123])=false) (F:(x==[41])=true) (v:(nx p.a false).kd≠0) :
  Calls prog 18 #[.pointer (some ⟨q,0,none⟩),.string ⟨x.toArray⟩] W (fun e A=>e = .returned (.complex .f64 (pl (nx p.a false).f).1 (pl (nx p.a false).f).2)/\Pz j q s { CQ (nx p.a false) p with deep:=p.deep-1 } A/\Ae q W A):=by
 have k:=aA (fun D (I:Pz j q s p D)=>Ea u I false);have i:=u.ok p.a false h.ha;have hd1:=h.d1;have L:=h.d2;have ha:=h.ha;have O:=h.hs;have n:=h.lt;have N:∀(x:Value) (w:World),Sem.run prog (Instr.panic (.iface 44 x)) w = .halt (.panic (.iface 44 x)) w:=fun _ _=>rfl;obtain⟨t,H⟩:∃t,nx p.a false=t:=⟨_,rfl⟩;rw[H] at k i m z v ⊢;unfold G1 at k;have d:=aA (fun B (b:Below W.heap.size W B)=>Tf.start (h.keep b) (Ae.of_below q b) t 49);have C:=aA (F5 z);have Q:wrap64 (p.deep-1)=p.deep-1:=by unfold wrap64;omega
 go_in
 go_wp2_with (first | (go_at_call 15;(with_reducible refine(k.out _ h).mono ?_);rintro e B ⟨b,⟨-,rfl⟩ | ⟨J,-⟩⟩;rotate_left;exact absurd m J;replace d:=aA (d.out _ b)) | (go_at_call 12;(with_reducible refine(C.out _).mono ?_);rintro e w2 ⟨rfl,g⟩;replace d:=aA (d.out.keep g);clear g;obtain⟨S,T,U,V,X,Y⟩:=d.out.t;obtain⟨Z,q1,q2,q3,qf⟩:=d.out.p.c;have l:=aA (d.out.deeper n (p.deep-1));obtain⟨k0,k1,k2,k3,k4,R⟩:=l.out.t;obtain⟨r0,r1,r2,r3,rf⟩:=l.out.c) | (go_at_call 16;refine(E2 K (d.out.p.y.deeper (p.deep-1) (by omega)) t (by omega) (by omega) (by have:=i m;have:=this.2.2.2.2 v;show -(t.t:Int)<=p.deep-1;omega)).mono ?_;rintro e w3 ⟨rfl,P,M⟩))
 go_ret;exact⟨rfl,P,l.out.o.trans M⟩
theorem ZK {nx:Nat->Bool->Tk} {pl:Nat->Nat×Nat} {j W:World} {q:Nat} {s:ByteArray} {p:Ps} (u:F2 nx s j) (L:PlC pl s) (h:Pz j q s p W) (x:List UInt8) (m:(nx p.a false).e=0) (z:EP (nx p.a false) x=true) (E:(x==[40])=false) (G:(x==[91])=false) (r:(x==[123])=false) (F:(x==[41])=false) (H:(x==[93])=true) (v:(nx p.a false).kd≠0) :
  Calls prog 18 #[.pointer (some ⟨q,0,none⟩),.string ⟨x.toArray⟩] W (fun e A=>e = .returned (.complex .f64 (pl (nx p.a false).f).1 (pl (nx p.a false).f).2)/\Pz j q s { CQ (nx p.a false) p with deep:=p.deep-1 } A/\Ae q W A):=by
 have k:=aA (fun D (J:Pz j q s p D)=>Ea u J false);have i:=u.ok p.a false h.ha;have hd1:=h.d1;have M:=h.d2;have ha:=h.ha;have P:=h.hs;have n:=h.lt;have O:∀(x:Value) (w:World),Sem.run prog (Instr.panic (.iface 44 x)) w = .halt (.panic (.iface 44 x)) w:=fun _ _=>rfl;obtain⟨t,I⟩:∃t,nx p.a false=t:=⟨_,rfl⟩;rw[I] at k i m z v ⊢;unfold G1 at k;have d:=aA (fun B (b:Below W.heap.size W B)=>Tf.start (h.keep b) (Ae.of_below q b) t 49);have C:=aA (F5 z);have R:wrap64 (p.deep-1)=p.deep-1:=by unfold wrap64;omega
 go_in
 go_wp2_with (first | (go_at_call 15;(with_reducible refine(k.out _ h).mono ?_);rintro e B ⟨b,⟨-,rfl⟩ | ⟨K,-⟩⟩;rotate_left;exact absurd m K;replace d:=aA (d.out _ b)) | (go_at_call 12;(with_reducible refine(C.out _).mono ?_);rintro e w2 ⟨rfl,g⟩;replace d:=aA (d.out.keep g);clear g;obtain⟨T,U,V,X,Y,Z⟩:=d.out.t;obtain⟨q0,q1,q2,q3,qf⟩:=d.out.p.c;have l:=aA (d.out.deeper n (p.deep-1));obtain⟨k0,k1,k2,k3,k4,S⟩:=l.out.t;obtain⟨r0,r1,r2,r3,rf⟩:=l.out.c) | (go_at_call 16;refine(E2 L (d.out.p.y.deeper (p.deep-1) (by omega)) t (by omega) (by omega) (by have:=i m;have:=this.2.2.2.2 v;show -(t.t:Int)<=p.deep-1;omega)).mono ?_;rintro e w3 ⟨rfl,Q,N⟩))
 go_ret;exact⟨rfl,Q,l.out.o.trans N⟩
theorem Zk {nx:Nat->Bool->Tk} {pl:Nat->Nat×Nat} {j W:World} {q:Nat} {s:ByteArray} {p:Ps} (v:F2 nx s j) (M:PlC pl s) (h:Pz j q s p W) (x:List UInt8) (m:(nx p.a false).e=0) (A:EP (nx p.a false) x=true) (F:(x==[40])=false) (H:(x==[91])=false) (r:(x==[123])=false) (G:(x==[41])=false) (I:(x==[93])=false) (u:(x==[125])=true) (z:(nx p.a false).kd≠0) :
  Calls prog 18 #[.pointer (some ⟨q,0,none⟩),.string ⟨x.toArray⟩] W (fun e B=>e = .returned (.complex .f64 (pl (nx p.a false).f).1 (pl (nx p.a false).f).2)/\Pz j q s { CQ (nx p.a false) p with deep:=p.deep-1 } B/\Ae q W B):=by
 have k:=aA (fun E (K:Pz j q s p E)=>Ea v K false);have i:=v.ok p.a false h.ha;have hd1:=h.d1;have N:=h.d2;have ha:=h.ha;have Q:=h.hs;have n:=h.lt;have P:∀(x:Value) (w:World),Sem.run prog (Instr.panic (.iface 44 x)) w = .halt (.panic (.iface 44 x)) w:=fun _ _=>rfl;obtain⟨t,J⟩:∃t,nx p.a false=t:=⟨_,rfl⟩;rw[J] at k i m A z ⊢;unfold G1 at k;have d:=aA (fun C (b:Below W.heap.size W C)=>Tf.start (h.keep b) (Ae.of_below q b) t 49);have D:=aA (F5 A);have S:wrap64 (p.deep-1)=p.deep-1:=by unfold wrap64;omega
 go_in
 go_wp2_with (first | (go_at_call 15;(with_reducible refine(k.out _ h).mono ?_);rintro e C ⟨b,⟨-,rfl⟩ | ⟨L,-⟩⟩;rotate_left;exact absurd m L;replace d:=aA (d.out _ b)) | (go_at_call 12;(with_reducible refine(D.out _).mono ?_);rintro e w2 ⟨rfl,g⟩;replace d:=aA (d.out.keep g);clear g;obtain⟨U,V,X,Y,Z,mf⟩:=d.out.t;obtain⟨q0,q1,q2,q3,qf⟩:=d.out.p.c;have l:=aA (d.out.deeper n (p.deep-1));obtain⟨k0,k1,k2,k3,k4,T⟩:=l.out.t;obtain⟨r0,r1,r2,r3,rf⟩:=l.out.c) | (go_at_call 16;refine(E2 M (d.out.p.y.deeper (p.deep-1) (by omega)) t (by omega) (by omega) (by have:=i m;have:=this.2.2.2.2 z;show -(t.t:Int)<=p.deep-1;omega)).mono ?_;rintro e w3 ⟨rfl,R,O⟩))
 go_ret;exact⟨rfl,R,l.out.o.trans O⟩
end Go.Proofs.YtjolfpcpcaocmaaGreatDoor
