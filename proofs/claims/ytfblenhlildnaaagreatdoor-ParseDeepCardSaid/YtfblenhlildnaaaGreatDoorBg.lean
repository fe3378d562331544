/- Bg Bh Bi Bj Bk Bl Bm Bn Bo -/
import Derived.Test.YtfblenhlildnaaaGreatDoorBf
set_option maxRecDepth 100000
set_option maxHeartbeats 2000000
open Go.Lib renaming hid->aA
open Bool renaming false_eq_true->aB,false_or->aC,true_or->aE
open Go.World renaming size_alloc->aD,frozen?_setCell->aF
namespace Go.Proofs.YtfblenhlildnaaaGreatDoor
open Go.Proofs.Tryz
open Go.RowKit
def AbS {c:Type} (q:Nat) (W:World) (r:Hf c) (b:c->Ps->Value->World->Prop) (e:Ending) (w':World):Prop :=
 match r with
 | .ok a p'=>∃v,e = .returned v/\b a p' v w'/\Ae q W w'
 | .bad f er=>e = .panicked (T3 f er)/\Ae q W w'
 | .hush=>True
structure Tf (w0 W:World) (q b:Nat) (s:ByteArray) (p:Ps) (t:Tk) (w:World):Prop where
 t:C5 w b (.int .i64 t.kd) (.string ⟨t.tx.toArray⟩) (.float .f64 t.nm) (.int .i64 t.f) (.int .i64 t.t)
 p:Pz w0 q s p w
 o:Ae q W w
 hb:W.heap.size<=b
theorem Tf.keep {c W w w':World} {q b:Nat} {s:ByteArray} {p:Ps} {t:Tk} (h:Tf c W q b s p t w) (a:Below w.heap.size w w'):Tf c W q b s p t w' :=
 ⟨h.t.below a,h.p.keep a,h.o.trans (Ae.of_below q a),h.hb⟩
theorem Tf.start {b W w:World} {q:Nat} {s:ByteArray} {p:Ps} (h:Pz b q s p w) (a:Ae q W w) (t:Tk) (T:TypeId):Tf b W q w.heap.size s p t (w.alloc (.cells #[.int .i64 t.kd,.string ⟨t.tx.toArray⟩,.float .f64 t.nm,.int .i64 t.f,.int .i64 t.t] T)) :=
 ⟨C5.new _ _ _ _ _ _ _,h.keep (Ad _ _),a.trans (Ae.of_below q (Ad _ _)),a.size⟩
theorem _root_.Go.C5.elsewhere {w:World} {q b i:Nat} {u v0 v1 v2 v3 v4:Value} (h:C5 w b v0 v1 v2 v3 v4) (a:q≠b):C5 (w.setCell ⟨q,i,none⟩ u) b v0 v1 v2 v3 v4:=by
 have e:∀j,(⟨q,i,none⟩:Addr)≠⟨b,j,none⟩:=fun j e=>a (by injection e);exact⟨by rw[Ag (e 0)];exact h.c0,by rw[Ag (e 1)];exact h.c1,by rw[Ag (e 2)];exact h.c2,by rw[Ag (e 3)];exact h.c3,by rw[Ag (e 4)];exact h.c4,fun j=>by rw[aF];exact h.fz j⟩
structure Tg (w0 W:World) (q b:Nat) (s:ByteArray) (p:Ps) (t:Tk) (w:World):Prop where
 t:C5 w b (.int .i64 t.kd) (.string ⟨t.tx.toArray⟩) (.float .f64 t.nm) (.int .i64 t.f) (.int .i64 t.t)
 c:C4 w q (.string s) (.int .i64 p.a) (.int .i64 p.deep) (.int .i64 p.outs)
 o:Ae q W w
theorem Tf.deeper {a W w:World} {q b:Nat} {s:ByteArray} {p:Ps} {t:Tk} (h:Tf a W q b s p t w) (e:q<W.heap.size) (d:Int):Tg a W q b s { p with deep:=d } t (w.setCell ⟨q,2,none⟩ (.int .i64 d)) :=
 ⟨h.t.elsewhere (by have:=h.hb;omega),h.p.c.set2 _,h.o.set 2 _⟩
theorem Zr (x y:List UInt8):decide (x=y)=(x==y):=by
 by_cases h:x=y
 ·rw[decide_eq_true h,beq_iff_eq.2 h]
 rw[decide_eq_false h,beq_eq_false_iff_ne.2 h]
theorem ZL {nx:Nat->Bool->Tk} {pl:Nat->Nat×Nat} {l W:World} {q:Nat} {s:ByteArray} {p:Ps} (n:F2 nx s l) (_hP:H6 pl s) (h:Pz l q s p W) (x:List UInt8) (m:(nx p.a false).e=0) (r:isS (nx p.a false) x=false) :
  Calls prog 68 #[.pointer (some ⟨q,0,none⟩),.string ⟨x.toArray⟩] W (fun e G=>e = .panicked (T3 (nx p.a false).f (Yd (nx p.a false) p))/\Ae q W G):=by
 have i:=aA (fun y (A:Pz l q s p y)=>Ea n A false);have k:=n.ok p.a false h.ha;have hd1:=h.d1;have C:=h.d2;have ha:=h.ha;have F:=h.hs;have D:=h.lt;have E:∀(x:Value) (w:World),Sem.run prog (Instr.panic (.iface 61 x)) w = .halt (.panic (.iface 61 x)) w:=fun _ _=>rfl;obtain⟨t,z⟩:∃t,nx p.a false=t:=⟨_,rfl⟩;rw[z] at i k m r ⊢;unfold G1 at i;have d:=aA (fun u (b:Below W.heap.size W u)=>Tf.start (h.keep b) (Ae.of_below q b) t 70);have v:=aA (F5 r)
 go_in
 go_wp2_with (first | (go_at_call 65;(with_reducible refine(i.out _ h).mono ?_);rintro e u ⟨b,⟨-,rfl⟩ | ⟨B,-⟩⟩;rotate_left;exact absurd m B;replace d:=aA (d.out _ b)) | (go_at_call 45;(with_reducible refine(v.out _).mono ?_);rintro e R ⟨rfl,g⟩;replace d:=aA (d.out.keep g);clear g;obtain⟨H,I,J,K,L,M⟩:=d.out.t;obtain⟨N,q1,O,P,Q⟩:=d.out.p.c) | (go_at_call 67;refine(SX d.out.p t).mono ?_;rintro e S ⟨j,rfl⟩))
 exact⟨rfl,rfl,d.out.o.trans (Ae.of_below q j)⟩
theorem Ye {nx:Nat->Bool->Tk} {pl:Nat->Nat×Nat} {i W:World} {q:Nat} {s:ByteArray} {p:Ps} (r:F2 nx s i) (J:H6 pl s) (h:Pz i q s p W) (x:List UInt8) (n:(nx p.a false).e=0) (u:isS (nx p.a false) x=true) (C:(x==[40])=false) (E:(x==[91])=false) (l:(x==[123])=false) (D:(x==[41])=false) (F:(x==[93])=false) (m:(x==[125])=false) :
  Calls prog 68 #[.pointer (some ⟨q,0,none⟩),.string ⟨x.toArray⟩] W (fun e v=>e = .returned (.complex .f64 (pl (nx p.a false).f).1 (pl (nx p.a false).f).2)/\Pz i q s (CQ (nx p.a false) p) v/\Ae q W v):=by
 have j:=aA (fun B (H:Pz i q s p B)=>Ea r H false);have k:=r.ok p.a false h.ha;have hd1:=h.d1;have K:=h.d2;have ha:=h.ha;have O:=h.hs;have L:=h.lt;have N:∀(x:Value) (w:World),Sem.run prog (Instr.panic (.iface 61 x)) w = .halt (.panic (.iface 61 x)) w:=fun _ _=>rfl;obtain⟨t,G⟩:∃t,nx p.a false=t:=⟨_,rfl⟩;rw[G] at j k n u ⊢;unfold G1 at j;have d:=aA (fun z (b:Below W.heap.size W z)=>Tf.start (h.keep b) (Ae.of_below q b) t 70);have A:=aA (F5 u)
 go_in
 go_wp2_with (first | (go_at_call 65;(with_reducible refine(j.out _ h).mono ?_);rintro e z ⟨b,⟨-,rfl⟩ | ⟨I,-⟩⟩;rotate_left;exact absurd n I;replace d:=aA (d.out _ b)) | (go_at_call 45;(with_reducible refine(A.out _).mono ?_);rintro e w2 ⟨rfl,g⟩;replace d:=aA (d.out.keep g);clear g;obtain⟨Q,R,S,T,U,V⟩:=d.out.t;obtain⟨X,q1,Y,Z,qf⟩:=d.out.p.c) | (go_at_call 66;refine(AbD J d.out.p.y t (by omega) (by omega) (by omega)).mono ?_;rintro e w3 ⟨rfl,P,M⟩))
 go_ret;exact⟨rfl,P,d.out.o.trans M⟩
theorem XM {nx:Nat->Bool->Tk} {pl:Nat->Nat×Nat} {n W:World} {q:Nat} {s:ByteArray} {p:Ps} (u:F2 nx s n) (_hP:H6 pl s) (h:Pz n q s p W) (x:List UInt8) (r:(nx p.a false).e=0) (v:isS (nx p.a false) x=true) (B:(x==[40])=true) (k:40<p.deep+1) :
  Calls prog 68 #[.pointer (some ⟨q,0,none⟩),.string ⟨x.toArray⟩] W (fun e I=>e = .panicked (T3 (nx p.a false).f 26)/\Ae q W I):=by
 have i:=aA (fun A (D:Pz n q s p A)=>Ea u D false);have m:=u.ok p.a false h.ha;have hd1:=h.d1;have F:=h.d2;have ha:=h.ha;have H:=h.hs;have l:=h.lt;have G:∀(x:Value) (w:World),Sem.run prog (Instr.panic (.iface 61 x)) w = .halt (.panic (.iface 61 x)) w:=fun _ _=>rfl;obtain⟨t,C⟩:∃t,nx p.a false=t:=⟨_,rfl⟩;rw[C] at i m r v ⊢;unfold G1 at i;have d:=aA (fun y (b:Below W.heap.size W y)=>Tf.start (h.keep b) (Ae.of_below q b) t 70);have z:=aA (F5 v);have K:wrap64 (p.deep+1)=p.deep+1:=by unfold wrap64;omega
 have J:decide (40<p.deep+1)=true:=decide_eq_true k
 go_in
 go_wp2_with (first | (go_at_call 65;(with_reducible refine(i.out _ h).mono ?_);rintro e y ⟨b,⟨-,rfl⟩ | ⟨E,-⟩⟩;rotate_left;exact absurd r E;replace d:=aA (d.out _ b)) | (go_at_call 45;(with_reducible refine(z.out _).mono ?_);rintro e w2 ⟨rfl,g⟩;replace d:=aA (d.out.keep g);clear g;obtain⟨P,Q,R,S,T,U⟩:=d.out.t;obtain⟨V,q1,X,Y,Z⟩:=d.out.p.c;have j:=aA (d.out.deeper l (p.deep+1));obtain⟨k0,k1,L,M,N,O⟩:=j.out.t;obtain⟨r0,r1,r2,r3,rf⟩:=j.out.c))
 exact⟨rfl,rfl,j.out.o⟩
theorem ZH {nx:Nat->Bool->Tk} {pl:Nat->Nat×Nat} {j W:World} {q:Nat} {s:ByteArray} {p:Ps} (u:F2 nx s j) (I:H6 pl s) (h:Pz j q s p W) (x:List UInt8) (m:(nx p.a false).e=0) (z:isS (nx p.a false) x=true) (E:(x==[40])=true) (n:¬ 40<p.deep+1) (v:(nx p.a false).kd≠0) :
  Calls prog 68 #[.pointer (some ⟨q,0,none⟩),.string ⟨x.toArray⟩] W (fun e A=>e = .returned (.complex .f64 (pl (nx p.a false).f).1 (pl (nx p.a false).f).2)/\Pz j q s { CQ (nx p.a false) p with deep:=p.deep+1 } A/\Ae q W A):=by
 have k:=aA (fun D (G:Pz j q s p D)=>Ea u G false);have i:=u.ok p.a false h.ha;have hd1:=h.d1;have J:=h.d2;have ha:=h.ha;have M:=h.hs;have r:=h.lt;have L:∀(x:Value) (w:World),Sem.run prog (Instr.panic (.iface 61 x)) w = .halt (.panic (.iface 61 x)) w:=fun _ _=>rfl;obtain⟨t,F⟩:∃t,nx p.a false=t:=⟨_,rfl⟩;rw[F] at k i m z v ⊢;unfold G1 at k;have d:=aA (fun B (b:Below W.heap.size W B)=>Tf.start (h.keep b) (Ae.of_below q b) t 70);have C:=aA (F5 z);have P:wrap64 (p.deep+1)=p.deep+1:=by unfold wrap64;omega
 have O:decide (40<p.deep+1)=false:=decide_eq_false n
 go_in
 go_wp2_with (first | (go_at_call 65;(with_reducible refine(k.out _ h).mono ?_);rintro e B ⟨b,⟨-,rfl⟩ | ⟨H,-⟩⟩;rotate_left;exact absurd m H;replace d:=aA (d.out _ b)) | (go_at_call 45;(with_reducible refine(C.out _).mono ?_);rintro e w2 ⟨rfl,g⟩;replace d:=aA (d.out.keep g);clear g;obtain⟨U,V,X,Y,Z,mf⟩:=d.out.t;obtain⟨q0,q1,q2,q3,qf⟩:=d.out.p.c;have l:=aA (d.out.deeper r (p.deep+1));obtain⟨k0,k1,Q,R,S,T⟩:=l.out.t;obtain⟨r0,r1,r2,r3,rf⟩:=l.out.c) | (go_at_call 66;refine(AbD I (d.out.p.y.deeper (p.deep+1) (by omega)) t (by omega) (by omega) (by have:=i m;have:=this.2.2.2.2 v;show -(t.t:Int)<=p.deep+1;omega)).mono ?_;rintro e w3 ⟨rfl,N,K⟩))
 go_ret;exact⟨rfl,N,l.out.o.trans K⟩
theorem XN {nx:Nat->Bool->Tk} {pl:Nat->Nat×Nat} {n W:World} {q:Nat} {s:ByteArray} {p:Ps} (u:F2 nx s n) (_hP:H6 pl s) (h:Pz n q s p W) (x:List UInt8) (r:(nx p.a false).e=0) (v:isS (nx p.a false) x=true) (B:(x==[40])=false) (C:(x==[91])=true) (k:40<p.deep+1) :
  Calls prog 68 #[.pointer (some ⟨q,0,none⟩),.string ⟨x.toArray⟩] W (fun e J=>e = .panicked (T3 (nx p.a false).f 26)/\Ae q W J):=by
 have i:=aA (fun A (E:Pz n q s p A)=>Ea u E false);have m:=u.ok p.a false h.ha;have hd1:=h.d1;have G:=h.d2;have ha:=h.ha;have I:=h.hs;have l:=h.lt;have H:∀(x:Value) (w:World),Sem.run prog (Instr.panic (.iface 61 x)) w = .halt (.panic (.iface 61 x)) w:=fun _ _=>rfl;obtain⟨t,D⟩:∃t,nx p.a false=t:=⟨_,rfl⟩;rw[D] at i m r v ⊢;unfold G1 at i;have d:=aA (fun y (b:Below W.heap.size W y)=>Tf.start (h.keep b) (Ae.of_below q b) t 70);have z:=aA (F5 v);have L:wrap64 (p.deep+1)=p.deep+1:=by unfold wrap64;omega
 have K:decide (40<p.deep+1)=true:=decide_eq_true k
 go_in
 go_wp2_with (first | (go_at_call 65;(with_reducible refine(i.out _ h).mono ?_);rintro e y ⟨b,⟨-,rfl⟩ | ⟨F,-⟩⟩;rotate_left;exact absurd r F;replace d:=aA (d.out _ b)) | (go_at_call 45;(with_reducible refine(z.out _).mono ?_);rintro e w2 ⟨rfl,g⟩;replace d:=aA (d.out.keep g);clear g;obtain⟨Q,R,S,T,U,V⟩:=d.out.t;obtain⟨X,q1,Y,Z,qf⟩:=d.out.p.c;have j:=aA (d.out.deeper l (p.deep+1));obtain⟨k0,k1,M,N,O,P⟩:=j.out.t;obtain⟨r0,r1,r2,r3,rf⟩:=j.out.c))
 exact⟨rfl,rfl,j.out.o⟩
theorem ZJ {nx:Nat->Bool->Tk} {pl:Nat->Nat×Nat} {j W:World} {q:Nat} {s:ByteArray} {p:Ps} (u:F2 nx s j) (J:H6 pl s) (h:Pz j q s p W) (x:List UInt8) (m:(nx p.a false).e=0) (z:isS (nx p.a false) x=true) (E:(x==[40])=false) (F:(x==[91])=true) (n:¬ 40<p.deep+1) (v:(nx p.a false).kd≠0) :
  Calls prog 68 #[.pointer (some ⟨q,0,none⟩),.string ⟨x.toArray⟩] W (fun e A=>e = .returned (.complex .f64 (pl (nx p.a false).f).1 (pl (nx p.a false).f).2)/\Pz j q s { CQ (nx p.a false) p with deep:=p.deep+1 } A/\Ae q W A):=by
 have k:=aA (fun D (H:Pz j q s p D)=>Ea u H false);have i:=u.ok p.a false h.ha;have hd1:=h.d1;have K:=h.d2;have ha:=h.ha;have N:=h.hs;have r:=h.lt;have M:∀(x:Value) (w:World),Sem.run prog (Instr.panic (.iface 61 x)) w = .halt (.panic (.iface 61 x)) w:=fun _ _=>rfl;obtain⟨t,G⟩:∃t,nx p.a false=t:=⟨_,rfl⟩;rw[G] at k i m z v ⊢;unfold G1 at k;have d:=aA (fun B (b:Below W.heap.size W B)=>Tf.start (h.keep b) (Ae.of_below q b) t 70);have C:=aA (F5 z);have Q:wrap64 (p.deep+1)=p.deep+1:=by unfold wrap64;omega
 have P:decide (40<p.deep+1)=false:=decide_eq_false n
 go_in
 go_wp2_with (first | (go_at_call 65;(with_reducible refine(k.out _ h).mono ?_);rintro e B ⟨b,⟨-,rfl⟩ | ⟨I,-⟩⟩;rotate_left;exact absurd m I;replace d:=aA (d.out _ b)) | (go_at_call 45;(with_reducible refine(C.out _).mono ?_);rintro e w2 ⟨rfl,g⟩;replace d:=aA (d.out.keep g);clear g;obtain⟨V,X,Y,Z,m4,mf⟩:=d.out.t;obtain⟨q0,q1,q2,q3,qf⟩:=d.out.p.c;have l:=aA (d.out.deeper r (p.deep+1));obtain⟨k0,k1,R,S,T,U⟩:=l.out.t;obtain⟨r0,r1,r2,r3,rf⟩:=l.out.c) | (go_at_call 66;refine(AbD J (d.out.p.y.deeper (p.deep+1) (by omega)) t (by omega) (by omega) (by have:=i m;have:=this.2.2.2.2 v;show -(t.t:Int)<=p.deep+1;omega)).mono ?_;rintro e w3 ⟨rfl,O,L⟩))
 go_ret;exact⟨rfl,O,l.out.o.trans L⟩
theorem Xy {nx:Nat->Bool->Tk} {pl:Nat->Nat×Nat} {n W:World} {q:Nat} {s:ByteArray} {p:Ps} (v:F2 nx s n) (_hP:H6 pl s) (h:Pz n q s p W) (x:List UInt8) (u:(nx p.a false).e=0) (y:isS (nx p.a false) x=true) (C:(x==[40])=false) (D:(x==[91])=false) (r:(x==[123])=true) (k:40<p.deep+1) :
  Calls prog 68 #[.pointer (some ⟨q,0,none⟩),.string ⟨x.toArray⟩] W (fun e K=>e = .panicked (T3 (nx p.a false).f 26)/\Ae q W K):=by
 have i:=aA (fun B (F:Pz n q s p B)=>Ea v F false);have m:=v.ok p.a false h.ha;have hd1:=h.d1;have H:=h.d2;have ha:=h.ha;have J:=h.hs;have l:=h.lt;have I:∀(x:Value) (w:World),Sem.run prog (Instr.panic (.iface 61 x)) w = .halt (.panic (.iface 61 x)) w:=fun _ _=>rfl;obtain⟨t,E⟩:∃t,nx p.a false=t:=⟨_,rfl⟩;rw[E] at i m u y ⊢;unfold G1 at i;have d:=aA (fun z (b:Below W.heap.size W z)=>Tf.start (h.keep b) (Ae.of_below q b) t 70);have A:=aA (F5 y);have M:wrap64 (p.deep+1)=p.deep+1:=by unfold wrap64;omega
 have L:decide (40<p.deep+1)=true:=decide_eq_true k
 go_in
 go_wp2_with (first | (go_at_call 65;(with_reducible refine(i.out _ h).mono ?_);rintro e z ⟨b,⟨-,rfl⟩ | ⟨G,-⟩⟩;rotate_left;exact absurd u G;replace d:=aA (d.out _ b)) | (go_at_call 45;(with_reducible refine(A.out _).mono ?_);rintro e w2 ⟨rfl,g⟩;replace d:=aA (d.out.keep g);clear g;obtain⟨R,S,T,U,V,X⟩:=d.out.t;obtain⟨Y,q1,Z,q3,qf⟩:=d.out.p.c;have j:=aA (d.out.deeper l (p.deep+1));obtain⟨k0,k1,N,O,P,Q⟩:=j.out.t;obtain⟨r0,r1,r2,r3,rf⟩:=j.out.c))
 exact⟨rfl,rfl,j.out.o⟩
theorem Zj {nx:Nat->Bool->Tk} {pl:Nat->Nat×Nat} {j W:World} {q:Nat} {s:ByteArray} {p:Ps} (v:F2 nx s j) (K:H6 pl s) (h:Pz j q s p W) (x:List UInt8) (m:(nx p.a false).e=0) (A:isS (nx p.a false) x=true) (F:(x==[40])=false) (G:(x==[91])=false) (u:(x==[123])=true) (n:¬ 40<p.deep+1) (z:(nx p.a false).kd≠0) :
  Calls prog 68 #[.pointer (some ⟨q,0,none⟩),.string ⟨x.toArray⟩] W (fun e B=>e = .returned (.complex .f64 (pl (nx p.a false).f).1 (pl (nx p.a false).f).2)/\Pz j q s { CQ (nx p.a false) p with deep:=p.deep+1 } B/\Ae q W B):=by
 have k:=aA (fun E (I:Pz j q s p E)=>Ea v I false);have i:=v.ok p.a false h.ha;have hd1:=h.d1;have L:=h.d2;have ha:=h.ha;have O:=h.hs;have r:=h.lt;have N:∀(x:Value) (w:World),Sem.run prog (Instr.panic (.iface 61 x)) w = .halt (.panic (.iface 61 x)) w:=fun _ _=>rfl;obtain⟨t,H⟩:∃t,nx p.a false=t:=⟨_,rfl⟩;rw[H] at k i m A z ⊢;unfold G1 at k;have d:=aA (fun C (b:Below W.heap.size W C)=>Tf.start (h.keep b) (Ae.of_below q b) t 70);have D:=aA (F5 A);have R:wrap64 (p.deep+1)=p.deep+1:=by unfold wrap64;omega
 have Q:decide (40<p.deep+1)=false:=decide_eq_false n
 go_in
 go_wp2_with (first | (go_at_call 65;(with_reducible refine(k.out _ h).mono ?_);rintro e C ⟨b,⟨-,rfl⟩ | ⟨J,-⟩⟩;rotate_left;exact absurd m J;replace d:=aA (d.out _ b)) | (go_at_call 45;(with_reducible refine(D.out _).mono ?_);rintro e w2 ⟨rfl,g⟩;replace d:=aA (d.out.keep g);clear g;obtain⟨X,Y,Z,m3,m4,mf⟩:=d.out.t;obtain⟨q0,q1,q2,q3,qf⟩:=d.out.p.c;have l:=aA (d.out.deeper r (p.deep+1));obtain⟨k0,k1,S,T,U,V⟩:=l.out.t;obtain⟨r0,r1,r2,r3,rf⟩:=l.out.c) | (go_at_call 66;refine(AbD K (d.out.p.y.deeper (p.deep+1) (by omega)) t (by omega) (by omega) (by have:=i m;have:=this.2.2.2.2 z;show -(t.t:Int)<=p.deep+1;omega)).mono ?_;rintro e w3 ⟨rfl,P,M⟩))
 go_ret;exact⟨rfl,P,l.out.o.trans M⟩
theorem ZI {nx:Nat->Bool->Tk} {pl:Nat->Nat×Nat} {j W:World} {q:Nat} {s:ByteArray} {p:Ps} (u:F2 nx s j) (K:H6 pl s) (h:Pz j q s p W) (x:List UInt8) (m:(nx p.a false).e=0) (z:isS (nx p.a false) x=true) (E:(x==[40])=false) (G:(x==[91])=false) (r:(x==[123])=false) (F:(x==[41])=true) (v:(nx p.a false).kd≠0) :
  Calls prog 68 #[.pointer (some ⟨q,0,none⟩),.string ⟨x.toArray⟩] W (fun e A=>e = .returned (.complex .f64 (pl (nx p.a false).f).1 (pl (nx p.a false).f).2)/\Pz j q s { CQ (nx p.a false) p with deep:=p.deep-1 } A/\Ae q W A):=by
 have k:=aA (fun D (I:Pz j q s p D)=>Ea u I false);have i:=u.ok p.a false h.ha;have hd1:=h.d1;have L:=h.d2;have ha:=h.ha;have O:=h.hs;have n:=h.lt;have N:∀(x:Value) (w:World),Sem.run prog (Instr.panic (.iface 61 x)) w = .halt (.panic (.iface 61 x)) w:=fun _ _=>rfl;obtain⟨t,H⟩:∃t,nx p.a false=t:=⟨_,rfl⟩;rw[H] at k i m z v ⊢;unfold G1 at k;have d:=aA (fun B (b:Below W.heap.size W B)=>Tf.start (h.keep b) (Ae.of_below q b) t 70);have C:=aA (F5 z);have Q:wrap64 (p.deep-1)=p.deep-1:=by unfold wrap64;omega
 go_in
 go_wp2_with (first | (go_at_call 65;(with_reducible refine(k.out _ h).mono ?_);rintro e B ⟨b,⟨-,rfl⟩ | ⟨J,-⟩⟩;rotate_left;exact absurd m J;replace d:=aA (d.out _ b)) | (go_at_call 45;(with_reducible refine(C.out _).mono ?_);rintro e w2 ⟨rfl,g⟩;replace d:=aA (d.out.keep g);clear g;obtain⟨V,X,Y,Z,m4,mf⟩:=d.out.t;obtain⟨q0,q1,q2,q3,qf⟩:=d.out.p.c;have l:=aA (d.out.deeper n (p.deep-1));obtain⟨k0,k1,R,S,T,U⟩:=l.out.t;obtain⟨r0,r1,r2,r3,rf⟩:=l.out.c) | (go_at_call 66;refine(AbD K (d.out.p.y.deeper (p.deep-1) (by omega)) t (by omega) (by omega) (by have:=i m;have:=this.2.2.2.2 v;show -(t.t:Int)<=p.deep-1;omega)).mono ?_;rintro e w3 ⟨rfl,P,M⟩))
 go_ret;exact⟨rfl,P,l.out.o.trans M⟩
theorem ZK {nx:Nat->Bool->Tk} {pl:Nat->Nat×Nat} {j W:World} {q:Nat} {s:ByteArray} {p:Ps} (u:F2 nx s j) (L:H6 pl s) (h:Pz j q s p W) (x:List UInt8) (m:(nx p.a false).e=0) (z:isS (nx p.a false) x=true) (E:(x==[40])=false) (G:(x==[91])=false) (r:(x==[123])=false) (F:(x==[41])=false) (H:(x==[93])=true) (v:(nx p.a false).kd≠0) :
  Calls prog 68 #[.pointer (some ⟨q,0,none⟩),.string ⟨x.toArray⟩] W (fun e A=>e = .returned (.complex .f64 (pl (nx p.a false).f).1 (pl (nx p.a false).f).2)/\Pz j q s { CQ (nx p.a false) p with deep:=p.deep-1 } A/\Ae q W A):=by
 have k:=aA (fun D (J:Pz j q s p D)=>Ea u J false);have i:=u.ok p.a false h.ha;have hd1:=h.d1;have M:=h.d2;have ha:=h.ha;have P:=h.hs;have n:=h.lt;have O:∀(x:Value) (w:World),Sem.run prog (Instr.panic (.iface 61 x)) w = .halt (.panic (.iface 61 x)) w:=fun _ _=>rfl;obtain⟨t,I⟩:∃t,nx p.a false=t:=⟨_,rfl⟩;rw[I] at k i m z v ⊢;unfold G1 at k;have d:=aA (fun B (b:Below W.heap.size W B)=>Tf.start (h.keep b) (Ae.of_below q b) t 70);have C:=aA (F5 z);have R:wrap64 (p.deep-1)=p.deep-1:=by unfold wrap64;omega
 go_in
 go_wp2_with (first | (go_at_call 65;(with_reducible refine(k.out _ h).mono ?_);rintro e B ⟨b,⟨-,rfl⟩ | ⟨K,-⟩⟩;rotate_left;exact absurd m K;replace d:=aA (d.out _ b)) | (go_at_call 45;(with_reducible refine(C.out _).mono ?_);rintro e w2 ⟨rfl,g⟩;replace d:=aA (d.out.keep g);clear g;obtain⟨X,Y,Z,m3,m4,mf⟩:=d.out.t;obtain⟨q0,q1,q2,q3,qf⟩:=d.out.p.c;have l:=aA (d.out.deeper n (p.deep-1));obtain⟨k0,k1,S,T,U,V⟩:=l.out.t;obtain⟨r0,r1,r2,r3,rf⟩:=l.out.c) | (go_at_call 66;refine(AbD L (d.out.p.y.deeper (p.deep-1) (by omega)) t (by omega) (by omega) (by have:=i m;have:=this.2.2.2.2 v;show -(t.t:Int)<=p.deep-1;omega)).mono ?_;rintro e w3 ⟨rfl,Q,N⟩))
 go_ret;exact⟨rfl,Q,l.out.o.trans N⟩
theorem Zk {nx:Nat->Bool->Tk} {pl:Nat->Nat×Nat} {j W:World} {q:Nat} {s:ByteArray} {p:Ps} (v:F2 nx s j) (M:H6 pl s) (h:Pz j q s p W) (x:List UInt8) (m:(nx p.a false).e=0) (A:isS (nx p.a false) x=true) (F:(x==[40])=false) (H:(x==[91])=false) (r:(x==[123])=false) (G:(x==[41])=false) (I:(x==[93])=false) (u:(x==[125])=true) (z:(nx p.a false).kd≠0) :
  Calls prog 68 #[.pointer (some ⟨q,0,none⟩),.string ⟨x.toArray⟩] W (fun e B=>e = .returned (.complex .f64 (pl (nx p.a false).f).1 (pl (nx p.a false).f).2)/\Pz j q s { CQ (nx p.a false) p with deep:=p.deep-1 } B/\Ae q W B):=by
 have k:=aA (fun E (K:Pz j q s p E)=>Ea v K false);have i:=v.ok p.a false h.ha;have hd1:=h.d1;have N:=h.d2;have ha:=h.ha;have Q:=h.hs;have n:=h.lt;have P:∀(x:Value) (w:World),Sem.run prog (Instr.panic (.iface 61 x)) w = .halt (.panic (.iface 61 x)) w:=fun _ _=>rfl;obtain⟨t,J⟩:∃t,nx p.a false=t:=⟨_,rfl⟩;rw[J] at k i m A z ⊢;unfold G1 at k;have d:=aA (fun C (b:Below W.heap.size W C)=>Tf.start (h.keep b) (Ae.of_below q b) t 70);have D:=aA (F5 A);have S:wrap64 (p.deep-1)=p.deep-1:=by unfold wrap64;omega
 go_in
 go_wp2_with (first | (go_at_call 65;(with_reducible refine(k.out _ h).mono ?_);rintro e C ⟨b,⟨-,rfl⟩ | ⟨L,-⟩⟩;rotate_left;exact absurd m L;replace d:=aA (d.out _ b)) | (go_at_call 45;(with_reducible refine(D.out _).mono ?_);rintro e w2 ⟨rfl,g⟩;replace d:=aA (d.out.keep g);clear g;obtain⟨Y,Z,m2,m3,m4,mf⟩:=d.out.t;obtain⟨q0,q1,q2,q3,qf⟩:=d.out.p.c;have l:=aA (d.out.deeper n (p.deep-1));obtain⟨k0,k1,T,U,V,X⟩:=l.out.t;obtain⟨r0,r1,r2,r3,rf⟩:=l.out.c) | (go_at_call 66;refine(AbD M (d.out.p.y.deeper (p.deep-1) (by omega)) t (by omega) (by omega) (by have:=i m;have:=this.2.2.2.2 z;show -(t.t:Int)<=p.deep-1;omega)).mono ?_;rintro e w3 ⟨rfl,R,O⟩))
 go_ret;exact⟨rfl,R,l.out.o.trans O⟩
theorem XL (nx:Nat->Bool->Tk) (pl:Nat->Nat×Nat) (x:List UInt8) (p:Ps):Abb nx pl x p =
  if (nx p.a false).e=0 then
   if isS (nx p.a false) x=true then
    if (((x==[40])||(x==[91]))||(x==[123]))=true then (if 40<p.deep+1 then .bad (nx p.a false).f 26 else .ok (pl (nx p.a false).f) { p with a:=(nx p.a false).t,deep:=p.deep+1 })
    else if (((x==[41])||(x==[93]))||(x==[125]))=true then .ok (pl (nx p.a false).f) { p with a:=(nx p.a false).t,deep:=p.deep-1 }
    else .ok (pl (nx p.a false).f) { p with a:=(nx p.a false).t }
   else .bad (nx p.a false).f (Yd (nx p.a false) p)
  else .bad (nx p.a false).f (nx p.a false).e:=by
 unfold Abb Eb ZT ZV;simp only[Zr];by_cases b:(nx p.a false).e=0
 ·rw[if_pos b,if_pos b];rfl
 rw[if_neg b,if_neg b];rfl
theorem Z0 {t:Tk} {x:List UInt8} (h:isS t x=true):t.kd≠0:=by
 unfold isS at h;rw[Bool.and_eq_true] at h;have:=of_decide_eq_true h.1;omega
theorem Zl {nx:Nat->Bool->Tk} {c W:World} {q:Nat} {s:ByteArray} {p:Ps} (l:F2 nx s c) (h:Pz c q s p W) (x:List UInt8) (j:¬ (nx p.a false).e=0) :
  Calls prog 68 #[.pointer (some ⟨q,0,none⟩),.string ⟨x.toArray⟩] W fun e m=>e = .panicked (T3 (nx p.a false).f (nx p.a false).e)/\Ae q W m:=by
 have d:=aA (fun g (i:Pz c q s p g)=>Ea l i false)
 go_in
 go_wp2_with (first | (go_at_call 65;(with_reducible refine(d.out _ h).mono ?_);rintro e n ⟨b,⟨k,-⟩ | ⟨-,rfl⟩⟩;exact absurd k j))
 exact⟨rfl,rfl,Ae.of_below q b⟩
theorem EM {nx:Nat->Bool->Tk} {pl:Nat->Nat×Nat} {u W:World} {q:Nat} {s:ByteArray} {p:Ps} (j:F2 nx s u) (l:H6 pl s) (h:Pz u q s p W) (x:List UInt8) :
  Calls prog 68 #[.pointer (some ⟨q,0,none⟩),.string ⟨x.toArray⟩] W (AbS q W (Abb nx pl x p) fun z r v w'=>v = .complex .f64 z.1 z.2/\Pz u q s r w'):=by
 rw[XL];have c:∀(z:Nat×Nat) (r:Ps) (e:Ending) (w':World),e = .returned (.complex .f64 z.1 z.2)/\Pz u q s r w'/\Ae q W w'->AbS q W (.ok z r) (fun z r v w'=>v = .complex .f64 z.1 z.2/\Pz u q s r w') e w':=fun z r e w' ⟨w,y,A⟩=>⟨_,w,⟨rfl,y⟩,A⟩;by_cases i:(nx p.a false).e=0
 ·rw[if_pos i]
  cases k:isS (nx p.a false) x with
  | false=>simp only[aB,if_false];exact ZL j l h x i k
  | true =>
    have t:=Z0 k;simp only[if_true]
    cases d:x==[40] with
    | true =>
      simp only[aE,if_true];by_cases b:40<p.deep+1
      ·rw[if_pos b];exact XM j l h x i k d b
      rw[if_neg b];exact(ZH j l h x i k d b t).mono fun e w' h=>c _ _ e w' h
    | false =>
      cases g:x==[91] with
      | true =>
        simp only[aC,aE,if_true];by_cases b:40<p.deep+1
        ·rw[if_pos b];exact XN j l h x i k d g b
        rw[if_neg b];exact(ZJ j l h x i k d g b t).mono fun e w' h=>c _ _ e w' h
      | false =>
        cases f:x==[123] with
        | true =>
          simp only[aC,if_true];by_cases b:40<p.deep+1
          ·rw[if_pos b];exact Xy j l h x i k d g f b
          rw[if_neg b];exact(Zj j l h x i k d g f b t).mono fun e w' h=>c _ _ e w' h
        | false =>
          simp only[Bool.or_self,aB,if_false]
          cases m:x==[41] with
          | true=>simp only[aE,if_true];exact(ZI j l h x i k d g f m t).mono fun e w' h=>c _ _ e w' h
          | false =>
            cases o:x==[93] with
            | true=>simp only[aC,aE,if_true];exact(ZK j l h x i k d g f m o t).mono fun e w' h=>c _ _ e w' h
            | false =>
              cases n:x==[125] with
              | true=>simp only[aC,if_true];exact(Zk j l h x i k d g f m o n t).mono fun e w' h=>c _ _ e w' h
              | false=>simp only[Bool.or_self,aB,if_false];exact(Ye j l h x i k d g f m o n).mono fun e w' h=>c _ _ e w' h
 rw[if_neg i];exact Zl j h x i
theorem M' {nx:Nat->Bool->Tk} {pl:Nat->Nat×Nat} {A W:World} {q:Nat} {s:ByteArray} {p:Ps} (G:F2 nx s A) (I:H6 pl s) (h:Pz A q s p W) (u:Bool) (n:Nat) (K:Lf nx u n p ≠ .hush) :
  Calls prog 71 #[.pointer (some ⟨q,0,none⟩),.bool u] W (AbS q W (Lf nx u n p) fun _ T v U=>v = .tuple #[]/\Pz A q s T U):=by
 have M:=aA (fun d D (F:Pz A q s d D)=>Ea G F u);have L:=aA (fun d D (F:Py A q s d D) (t:Tk) (P:t.f<=s.size) (R:t.t<=s.size) (O : -(t.t:Int)<=d.deep)=>AbD I F t P R O);have H:=aA G.ok;have J:=aA (And.intro h (Ae.refl q W));obtain⟨r,E⟩:∃r,Lf nx u n p=r:=⟨_,rfl⟩;rw[E] at K ⊢;have j:=aA E;clear E G I h
 go_in
 go_wp2_with fail
 go_loopg [] n (fun g wr=>∃(m:Nat) (d:Ps),m=g/\Hid (Lf nx u m d=r)/\Hid (Pz A q s d wr/\Ae q W wr))
 case atStart=>exact⟨n,p,rfl,j,J⟩
 obtain⟨m,d,rfl,j,w⟩:=hrel;clear J
 cases m with
 | zero=>exact absurd j.out.symm K
 | succ m =>
 have c:=j.out;have k:=H.out d.a u w.out.1.ha;have hd1:=w.out.1.d1;clear j H;have i:=aA (M.out d _ w.out.1);rw[Lf,Eb] at c;obtain⟨t,N⟩:∃t,nx d.a u=t:=⟨_,rfl⟩;rw[N] at c i k;unfold G1 at i;by_cases x:t.e=0
 ·rw[if_pos x] at c
  simp only[Hf.bind] at c;have V:=k x;have l:=aA (fun C (b:Below wr.heap.size wr C)=>Tf.start (w.out.1.keep b) (w.out.2.trans (Ae.of_below q b)) t 70);by_cases z:t.kd=1
  ·rw[if_pos z] at c
   have j:=aA c;have b1:(t.kd==1)=true:=beq_iff_eq.2 z;clear c k z
   go_wp2_with (first | (go_at_call 65;(with_reducible refine i.out.mono ?_);rintro e C ⟨b,⟨-,rfl⟩ | ⟨B,-⟩⟩;rotate_left;exact absurd x B;replace l:=aA (l.out _ b)) | (go_at_call 66;refine(L.out d _ l.out.p.y t (by omega) (by omega) (by omega)).mono ?_;rintro e X ⟨rfl,S,Q⟩))
   go_roundg m
   case rel=>exact⟨m,_,rfl,j,aA ⟨S,l.out.o.trans Q⟩⟩
   all_goals omega
  rw[if_neg z] at c;have b1:(t.kd==1)=false:=beq_eq_false_iff_ne.2 z;have j:=aA c;clear c k z
  go_wp2_with (first | (go_at_call 65;(with_reducible refine i.out.mono ?_);rintro e C ⟨b,⟨-,rfl⟩ | ⟨B,-⟩⟩;rotate_left;exact absurd x B;replace l:=aA (l.out _ b)))
  refine bodyPost_ret (results_none rfl _ _ _) rfl ?_;rw[<- j.out];exact⟨_,rfl,⟨rfl,l.out.p⟩,l.out.o⟩
 rw[if_neg x] at c;have j:=aA c;clear c k
 go_wp2_with (first | (go_at_call 65;(with_reducible refine i.out.mono ?_);rintro e C ⟨b,⟨B,-⟩ | ⟨-,rfl⟩⟩;exact absurd B x))
 exact⟨rfl,by rw[<- j.out];exact⟨rfl,w.out.2.trans (Ae.of_below q b)⟩⟩
theorem Pz.far5 {d w:World} {q b:Nat} {s:ByteArray} {p:Ps} (h:Pz d q s p w) (e:d.heap.size<=b) (a:q≠b) (v0 v1 v2 v3 v4:Value) :
  Pz d q s p (((((w.setCell ⟨b,0,none⟩ v0).setCell ⟨b,1,none⟩ v1).setCell ⟨b,2,none⟩ v2).setCell ⟨b,3,none⟩ v3).setCell ⟨b,4,none⟩ v4) :=
 ⟨Zq h.below e _ _ _ _ _,h.hq,⟨Em h.c.c0 a,Em h.c.c1 a,Em h.c.c2 a,Em h.c.c3 a,fun j=>by simp only[aF];exact h.c.fz j⟩,h.ha,h.hs,h.d1,h.d2⟩
theorem LI {a w:World} {q b:Nat} (h:Ae q a w) (c:a.heap.size<=b) (v0 v1 v2 v3 v4:Value) :
  Ae q a (((((w.setCell ⟨b,0,none⟩ v0).setCell ⟨b,1,none⟩ v1).setCell ⟨b,2,none⟩ v2).setCell ⟨b,3,none⟩ v3).setCell ⟨b,4,none⟩ v4) :=
 h.under (((((Ae.refl b w).set 0 _).set 1 _).set 2 _).set 3 _ |>.set 4 _) c
theorem XG {nx:Nat->Bool->Tk} {pl:Nat->Nat×Nat} {C W:World} {q:Nat} {s:ByteArray} {p:Ps} (S:F2 nx s C) (Y:H6 pl s) (h:Pz C q s p W) (w:Bool) (n:Nat) (hn:LB nx w n p ≠ .hush) :
  Calls prog 44 #[.pointer (some ⟨q,0,none⟩),.bool w] W (AbS q W (LB nx w n p) fun t p' v w'=>v=G1 t/\t.e=0/\nx p'.a w=t/\Pz C q s p' w'):=by
 have HP:=aA (fun u N (R:Pz C q s u N)=>Ea S R w);have U:=aA (fun u N (R:Py C q s u N) (t:Tk) (hf:t.f<=s.size) (ht:t.t<=s.size) (hd : -(t.t:Int)<=u.deep)=>AbD Y R t hf ht hd);have V:=aA S.ok;have a0:=h.lt;have b0:=h.below.size;obtain⟨o,X⟩:∃o:Obj,o = .cells #[.int .i64 0,.string ⟨#[]⟩,.float .f64 0,.int .i64 0,.int .i64 0] 70:=⟨_,rfl⟩
 have Z:Hid (Pz C q s p (W.alloc o)/\Ae q W (W.alloc o)/\C5 (W.alloc o) W.heap.size (.int .i64 0) (.string ⟨#[]⟩) (.float .f64 0) (.int .i64 0) (.int .i64 0)) :=
  ⟨h.keep (Ad _ _),Ae.of_below q (Ad _ _),X▸C5.new _ _ _ _ _ _ _⟩
 subst X;obtain⟨r,O⟩:∃r,LB nx w n p=r:=⟨_,rfl⟩;rw[O] at hn ⊢;have k:=aA O;clear O S Y h
 go_in
 go_wp2_with fail
 go_loopg [] n (fun g wr=>∃(m:Nat) (u:Ps),m=g/\Hid (LB nx w m u=r)/\Hid (Pz C q s u wr/\Ae q W wr/\C5 wr W.heap.size (.int .i64 0) (.string ⟨#[]⟩) (.float .f64 0) (.int .i64 0) (.int .i64 0)))
 case atStart=>exact⟨n,p,rfl,k,Z⟩
 obtain⟨m,u,rfl,k,z⟩:=hrel;clear Z
 cases m with
 | zero=>exact absurd k.out.symm hn
 | succ m =>
 have d:=k.out;have l:=V.out u.a w z.out.1.ha;have hd1:=z.out.1.d1;clear k V;have j:=aA (HP.out u _ z.out.1);rw[LB,Eb] at d;obtain⟨t,P⟩:∃t,nx u.a w=t:=⟨_,rfl⟩;rw[P] at d j l;have Q:=aA P;clear P;unfold G1 at j;by_cases x:t.e=0
 ·rw[if_pos x] at d
  simp only[Hf.bind] at d;have hk:=l x;have b:=aA (fun L (c:Below wr.heap.size wr L)=>And.intro (Tf.start (z.out.1.keep c) (z.out.2.1.trans (Ae.of_below q c)) t 70) ((z.out.2.2.below c).alloc (.cells #[.int .i64 t.kd,.string ⟨t.tx.toArray⟩,.float .f64 t.nm,.int .i64 t.f,.int .i64 t.t] 70)));by_cases A:t.kd=1
  ·rw[if_pos (.inl A)] at d
   have k:=aA d;have b1:(t.kd==1)=true:=beq_iff_eq.2 A;have b2:(t.kd != 1)=false:=by unfold bne;rw[b1];rfl
   clear b1;clear d l A
   go_wp2_with (first | (go_at_call 65;(with_reducible refine j.out.mono ?_);rintro e L ⟨c,⟨-,rfl⟩ | ⟨B,-⟩⟩;rotate_left;exact absurd x B;replace b:=aA (b.out _ c);obtain⟨E,F,G,H,I,J⟩:=b.out.1.t) | (go_at_call 66;refine(U.out u _ b.out.1.p.y t (by omega) (by omega) (by omega)).mono ?_;rintro e w3 ⟨rfl,T,K⟩))
   go_roundg m
   case rel=>exact⟨m,_,rfl,k,aA ⟨T,b.out.1.o.trans K,b.out.2.only K (by omega)⟩⟩
   all_goals omega
  have b1:(t.kd==1)=false:=beq_eq_false_iff_ne.2 A;have b2:(t.kd != 1)=true:=by unfold bne;rw[b1];rfl
  clear b1
  cases D:isS t [59] with
  | true =>
    rw[if_pos (.inr D)] at d;have k:=aA d;have M:=aA (F5 D);clear d l A D
    go_wp2_with (first | (go_at_call 65;(with_reducible refine j.out.mono ?_);rintro e L ⟨c,⟨-,rfl⟩ | ⟨B,-⟩⟩;rotate_left;exact absurd x B;replace b:=aA (b.out _ c);obtain⟨E,F,G,H,I,J⟩:=b.out.1.t) | (go_at_call 45;(with_reducible refine(M.out _).mono ?_);rintro e w2 ⟨rfl,i⟩;replace b:=aA (And.intro (b.out.1.keep i) (b.out.2.below i));clear i E F G H I J;obtain⟨E,F,G,H,I,J⟩:=b.out.1.t;obtain⟨n0,n1,n2,n3,n4,nf⟩:=b.out.2) | (go_at_call 66;refine(U.out u _ b.out.1.p.y t (by omega) (by omega) (by omega)).mono ?_;rintro e w3 ⟨rfl,T,K⟩))
    go_roundg m
    case rel=>exact⟨m,_,rfl,k,aA ⟨T,b.out.1.o.trans K,b.out.2.only K (by omega)⟩⟩
    all_goals omega
  | false =>
    rw[if_neg (by rintro(h | h);exact A h;rw[D] at h;cases h)] at d;have k:=aA d;have M:=aA (F5 D);clear d l A D
    go_wp2_with (first | (go_at_call 65;(with_reducible refine j.out.mono ?_);rintro e L ⟨c,⟨-,rfl⟩ | ⟨B,-⟩⟩;rotate_left;exact absurd x B;replace b:=aA (b.out _ c);obtain⟨E,F,G,H,I,J⟩:=b.out.1.t) | (go_at_call 45;(with_reducible refine(M.out _).mono ?_);rintro e w2 ⟨rfl,i⟩;replace b:=aA (And.intro (b.out.1.keep i) (b.out.2.below i));clear i E F G H I J;obtain⟨E,F,G,H,I,J⟩:=b.out.1.t;obtain⟨n0,n1,n2,n3,n4,nf⟩:=b.out.2))
    obtain⟨z0,z1,z2,z3,z4,zf⟩:=((((b.out.2.set0 (.int .i64 t.kd)).set1 (.string ⟨t.tx.toArray⟩)).set2 (.float .f64 t.nm)).set3 (.int .i64 t.f)).set4 (.int .i64 t.t);exact bodyPost_ret (v:=.agg #[.int .i64 t.kd,.string ⟨t.tx.toArray⟩,.float .f64 t.nm,.int .i64 t.f,.int .i64 t.t]) (by simp[results,results44,go_sem,z0,z1,z2,z3,z4]<;>exact rfl) rfl (by rw[<- k.out];exact⟨_,rfl,⟨rfl,x,Q.out,b.out.1.p.far5 (by omega) (by omega) _ _ _ _ _⟩,LI b.out.1.o (Nat.le_refl _) _ _ _ _ _⟩)
 rw[if_neg x] at d;have k:=aA d;clear d l
 go_wp2_with (first | (go_at_call 65;(with_reducible refine j.out.mono ?_);rintro e L ⟨c,⟨B,-⟩ | ⟨-,rfl⟩⟩;exact absurd B x))
 exact⟨rfl,by rw[<- k.out];exact⟨rfl,z.out.2.1.trans (Ae.of_below q c)⟩⟩
def CJ (t:Tr) (kv:Value):Value:=.agg #[.int .i64 t.kd,.string ⟨t.nm.toArray⟩,.float .f64 t.x,kv,.complex .f64 t.z.1 t.z.2]
theorem Nu (t:Tr) (kv:Value) (w:World):Calls prog 137 #[CJ t kv] w fun e h=>e = .returned (.bool (Z1 t))/\Below w.heap.size w h:=by
 unfold CJ Z1;generalize t.kd=k;by_cases a:k=4
 ·have d:(k==4)=true:=beq_iff_eq.2 a
  rw[decide_eq_true a];clear a
  go_in
  go_wp2;go_ret;exact⟨rfl,Ad w _⟩
 have d:(k==4)=false:=beq_eq_false_iff_ne.2 a;rw[decide_eq_false a];clear a;by_cases b:k=5
 ·have f:(k==5)=true:=beq_iff_eq.2 b
  rw[decide_eq_true b];clear b
  go_in
  go_wp2;go_ret;exact⟨rfl,Ad w _⟩
 have f:(k==5)=false:=beq_eq_false_iff_ne.2 b;rw[decide_eq_false b];clear b;by_cases c:k=6
 ·have g:(k==6)=true:=beq_iff_eq.2 c
  rw[decide_eq_true c];clear c
  go_in
  go_wp2;go_ret;exact⟨rfl,Ad w _⟩
 have g:(k==6)=false:=beq_eq_false_iff_ne.2 c;rw[decide_eq_false c];clear c
 go_in
 go_wp2;go_ret;exact⟨rfl,Ad w _⟩
set_option linter.unusedSimpArgs false in
theorem PV (t:Tk) (w:World):Calls prog 180 #[G1 t] w fun e F=>e = .returned (.bool (I0 t))/\Below w.heap.size w F:=by
 obtain⟨v,b⟩:∃v,I0 t=v:=⟨_,rfl⟩;rw[b];unfold I0 at b;unfold G1;generalize t.kd=k at *;generalize t.tx=x at *;by_cases a:k=2
 ·have b2:(k==2)=true:=beq_iff_eq.2 a
  obtain rfl:v=true:=by rw[<- b];simp[a]
  clear b a
  go_in
  go_wp2;go_ret;exact⟨rfl,Ad w _⟩
 have b2:(k==2)=false:=beq_eq_false_iff_ne.2 a;by_cases c:k=3
 ·have b3:(k==3)=true:=beq_iff_eq.2 c
  obtain rfl:v=true:=by rw[<- b];simp[a,c]
  clear b a c
  go_in
  go_wp2;go_ret;exact⟨rfl,Ad w _⟩
 have b3:(k==3)=false:=beq_eq_false_iff_ne.2 c;by_cases d:k=4
 ·have r:(k==4)=true:=beq_iff_eq.2 d
  obtain rfl:v=true:=by rw[<- b];simp[a,c,d]
  clear b a c d
  go_in
  go_wp2;go_ret;exact⟨rfl,Ad w _⟩
 have r:(k==4)=false:=beq_eq_false_iff_ne.2 d;by_cases f:k=5
 ·have s:(k==5)=true:=beq_iff_eq.2 f
  obtain rfl:v=true:=by rw[<- b];simp[a,c,d,f]
  clear b a c d f
  go_in
  go_wp2;go_ret;exact⟨rfl,Ad w _⟩
 have s:(k==5)=false:=beq_eq_false_iff_ne.2 f;by_cases g:k=6
 ·have u:(k==6)=true:=beq_iff_eq.2 g
  obtain rfl:v=true:=by rw[<- b];simp[a,c,d,f,g]
  clear b a c d f g
  go_in
  go_wp2;go_ret;exact⟨rfl,Ad w _⟩
 have u:(k==6)=false:=beq_eq_false_iff_ne.2 g;by_cases h:k=7
 ·have y:(k==7)=true:=beq_iff_eq.2 h
  obtain rfl:v=true:=by rw[<- b];simp[a,c,d,f,g,h]
  clear b a c d f g h
  go_in
  go_wp2;go_ret;exact⟨rfl,Ad w _⟩
 have y:(k==7)=false:=beq_eq_false_iff_ne.2 h;by_cases i:k=9
 ·have z:(k==9)=true:=beq_iff_eq.2 i
  by_cases j:x=[36]
  ·have A:(x==[36])=true:=beq_iff_eq.2 j
   obtain rfl:v=true:=by rw[<- b];simp[a,c,d,f,g,h,i,j]
   clear b a c d f g h i j
   go_in
   go_wp2;go_ret;exact⟨rfl,Ad w _⟩
  have A:(x==[36])=false:=beq_eq_false_iff_ne.2 j;by_cases l:x=[40]
  ·have B:(x==[40])=true:=beq_iff_eq.2 l
   obtain rfl:v=true:=by rw[<- b];simp[a,c,d,f,g,h,i,j,l]
   clear b a c d f g h i j l
   go_in
   go_wp2;go_ret;exact⟨rfl,Ad w _⟩
  have B:(x==[40])=false:=beq_eq_false_iff_ne.2 l;by_cases m:x=[43,43]
  ·have C:(x==[43,43])=true:=beq_iff_eq.2 m
   obtain rfl:v=true:=by rw[<- b];simp[a,c,d,f,g,h,i,j,l,m]
   clear b a c d f g h i j l m
   go_in
   go_wp2;go_ret;exact⟨rfl,Ad w _⟩
  have C:(x==[43,43])=false:=beq_eq_false_iff_ne.2 m;by_cases n:x=[45,45]
  ·have D:(x==[45,45])=true:=beq_iff_eq.2 n
   obtain rfl:v=true:=by rw[<- b];simp[a,c,d,f,g,h,i,j,l,m,n]
   clear b a c d f g h i j l m n
   go_in
   go_wp2;go_ret;exact⟨rfl,Ad w _⟩
  have D:(x==[45,45])=false:=beq_eq_false_iff_ne.2 n;by_cases o:x=[43]
  ·have E:(x==[43])=true:=beq_iff_eq.2 o
   obtain rfl:v=true:=by rw[<- b];simp[a,c,d,f,g,h,i,j,l,m,n,o]
   clear b a c d f g h i j l m n o
   go_in
   go_wp2;go_ret;exact⟨rfl,Ad w _⟩
  have E:(x==[43])=false:=beq_eq_false_iff_ne.2 o;by_cases p:x=[45]
  ·have c5:(x==[45])=true:=beq_iff_eq.2 p
   obtain rfl:v=true:=by rw[<- b];simp[a,c,d,f,g,h,i,j,l,m,n,o,p]
   clear b a c d f g h i j l m n o p
   go_in
   go_wp2;go_ret;exact⟨rfl,Ad w _⟩
  have c5:(x==[45])=false:=beq_eq_false_iff_ne.2 p;by_cases q:x=[33]
  ·have c6:(x==[33])=true:=beq_iff_eq.2 q
   obtain rfl:v=true:=by rw[<- b];simp[a,c,d,f,g,h,i,j,l,m,n,o,p,q]
   clear b a c d f g h i j l m n o p q
   go_in
   go_wp2;go_ret;exact⟨rfl,Ad w _⟩
  have c6:(x==[33])=false:=beq_eq_false_iff_ne.2 q;obtain rfl:v=false:=by rw[<- b];simp[a,c,d,f,g,h,i,j,l,m,n,o,p,q]
  clear b a c d f g h i j l m n o p q
  go_in
  go_wp2;go_ret;exact⟨rfl,Ad w _⟩
 have z:(k==9)=false:=beq_eq_false_iff_ne.2 i;obtain rfl:v=false:=by rw[<- b];simp[a,c,d,f,g,h,i]
 clear b a c d f g h i
 go_in
 go_wp2;go_ret;exact⟨rfl,Ad w _⟩
theorem Y2 {t:Tk} {b:Bool} (h:I0 t=b) (w:World) :
 Calls prog 180 #[.agg #[.int .i64 t.kd,.string ⟨t.tx.toArray⟩,.float .f64 t.nm,.int .i64 t.f,.int .i64 t.t]] w fun e a=>e = .returned (.bool b)/\Below w.heap.size w a:=h▸PV t w
structure Uf (W:World) (b:Nat) (t:Tk) (w:World):Prop where
 t:C5 w b (.int .i64 t.kd) (.string ⟨t.tx.toArray⟩) (.float .f64 t.nm) (.int .i64 t.f) (.int .i64 t.t)
 b:Below W.heap.size W w
theorem Uf.keep {W w w':World} {b:Nat} {t:Tk} (h:Uf W b t w) (a:Below w.heap.size w w'):Uf W b t w':=⟨h.t.below a,h.b.trans (a.mono h.b.size)⟩
theorem Uf.start (W:World) (t:Tk) (T:TypeId):Uf W W.heap.size t (W.alloc (.cells #[.int .i64 t.kd,.string ⟨t.tx.toArray⟩,.float .f64 t.nm,.int .i64 t.f,.int .i64 t.t] T)):=⟨C5.new _ _ _ _ _ _ _,Ad _ _⟩
theorem YA (t:Tk) (W:World):Calls prog 289 #[G1 t] W fun e w=>e = .returned (.bool (O3 t))/\Below W.heap.size W w:=by
 have c:=aA (Uf.start W t 70);obtain⟨v,l⟩:∃v,O3 t=v:=⟨_,rfl⟩;rw[l];unfold O3 at l;unfold G1;obtain⟨b0,q⟩:∃b,I0 t=b:=⟨_,rfl⟩;have m:=aA (Y2 q);rw[q] at l;obtain⟨b1,r⟩:∃b,isS t [43]=b:=⟨_,rfl⟩;have n:=aA (F5 r);rw[r] at l;obtain⟨b2,s⟩:∃b,isS t [45]=b:=⟨_,rfl⟩;have o:=aA (F5 s);rw[s] at l;obtain⟨b3,u⟩:∃b,isS t [33]=b:=⟨_,rfl⟩;have p:=aA (F5 u);rw[u] at l;clear q r s u;obtain⟨d,f,g,h,i,j⟩:=c.out.t
 cases b0 with
 | false =>
   obtain rfl:v=false:=by rw[<- l];rfl
   clear l
   go_in
   go_wp2_with (first | (go_at_call 180;(with_reducible refine(m.out _).mono ?_);rintro e k ⟨rfl,a⟩;clear d f g h i j;replace c:=aA (c.out.keep a);clear a;obtain⟨d,f,g,h,i,j⟩:=c.out.t) | (go_at_call 45;(with_reducible refine(n.out _).mono ?_);rintro e k ⟨rfl,a⟩;clear d f g h i j;replace c:=aA (c.out.keep a);clear a;obtain⟨d,f,g,h,i,j⟩:=c.out.t) | (go_at_call 45;(with_reducible refine(o.out _).mono ?_);rintro e k ⟨rfl,a⟩;clear d f g h i j;replace c:=aA (c.out.keep a);clear a;obtain⟨d,f,g,h,i,j⟩:=c.out.t) | (go_at_call 45;(with_reducible refine(p.out _).mono ?_);rintro e k ⟨rfl,a⟩;clear d f g h i j;replace c:=aA (c.out.keep a);clear a;obtain⟨d,f,g,h,i,j⟩:=c.out.t))
   go_ret;exact⟨rfl,c.out.b⟩
 | true =>
   cases b1 with
   | true =>
     obtain rfl:v=false:=by rw[<- l];rfl
     clear l
     go_in
     go_wp2_with (first | (go_at_call 180;(with_reducible refine(m.out _).mono ?_);rintro e k ⟨rfl,a⟩;clear d f g h i j;replace c:=aA (c.out.keep a);clear a;obtain⟨d,f,g,h,i,j⟩:=c.out.t) | (go_at_call 45;(with_reducible refine(n.out _).mono ?_);rintro e k ⟨rfl,a⟩;clear d f g h i j;replace c:=aA (c.out.keep a);clear a;obtain⟨d,f,g,h,i,j⟩:=c.out.t) | (go_at_call 45;(with_reducible refine(o.out _).mono ?_);rintro e k ⟨rfl,a⟩;clear d f g h i j;replace c:=aA (c.out.keep a);clear a;obtain⟨d,f,g,h,i,j⟩:=c.out.t) | (go_at_call 45;(with_reducible refine(p.out _).mono ?_);rintro e k ⟨rfl,a⟩;clear d f g h i j;replace c:=aA (c.out.keep a);clear a;obtain⟨d,f,g,h,i,j⟩:=c.out.t))
     go_ret;exact⟨rfl,c.out.b⟩
   | false =>
     cases b2 with
     | true =>
       obtain rfl:v=false:=by rw[<- l];rfl
       clear l
       go_in
       go_wp2_with (first | (go_at_call 180;(with_reducible refine(m.out _).mono ?_);rintro e k ⟨rfl,a⟩;clear d f g h i j;replace c:=aA (c.out.keep a);clear a;obtain⟨d,f,g,h,i,j⟩:=c.out.t) | (go_at_call 45;(with_reducible refine(n.out _).mono ?_);rintro e k ⟨rfl,a⟩;clear d f g h i j;replace c:=aA (c.out.keep a);clear a;obtain⟨d,f,g,h,i,j⟩:=c.out.t) | (go_at_call 45;(with_reducible refine(o.out _).mono ?_);rintro e k ⟨rfl,a⟩;clear d f g h i j;replace c:=aA (c.out.keep a);clear a;obtain⟨d,f,g,h,i,j⟩:=c.out.t) | (go_at_call 45;(with_reducible refine(p.out _).mono ?_);rintro e k ⟨rfl,a⟩;clear d f g h i j;replace c:=aA (c.out.keep a);clear a;obtain⟨d,f,g,h,i,j⟩:=c.out.t))
       go_ret;exact⟨rfl,c.out.b⟩
     | false =>
       cases b3 with
       | true =>
         obtain rfl:v=false:=by rw[<- l];rfl
         clear l
         go_in
         go_wp2_with (first | (go_at_call 180;(with_reducible refine(m.out _).mono ?_);rintro e k ⟨rfl,a⟩;clear d f g h i j;replace c:=aA (c.out.keep a);clear a;obtain⟨d,f,g,h,i,j⟩:=c.out.t) | (go_at_call 45;(with_reducible refine(n.out _).mono ?_);rintro e k ⟨rfl,a⟩;clear d f g h i j;replace c:=aA (c.out.keep a);clear a;obtain⟨d,f,g,h,i,j⟩:=c.out.t) | (go_at_call 45;(with_reducible refine(o.out _).mono ?_);rintro e k ⟨rfl,a⟩;clear d f g h i j;replace c:=aA (c.out.keep a);clear a;obtain⟨d,f,g,h,i,j⟩:=c.out.t) | (go_at_call 45;(with_reducible refine(p.out _).mono ?_);rintro e k ⟨rfl,a⟩;clear d f g h i j;replace c:=aA (c.out.keep a);clear a;obtain⟨d,f,g,h,i,j⟩:=c.out.t))
         go_ret;exact⟨rfl,c.out.b⟩
       | false =>
         obtain rfl:v=true:=by rw[<- l];rfl
         clear l
         go_in
         go_wp2_with (first | (go_at_call 180;(with_reducible refine(m.out _).mono ?_);rintro e k ⟨rfl,a⟩;clear d f g h i j;replace c:=aA (c.out.keep a);clear a;obtain⟨d,f,g,h,i,j⟩:=c.out.t) | (go_at_call 45;(with_reducible refine(n.out _).mono ?_);rintro e k ⟨rfl,a⟩;clear d f g h i j;replace c:=aA (c.out.keep a);clear a;obtain⟨d,f,g,h,i,j⟩:=c.out.t) | (go_at_call 45;(with_reducible refine(o.out _).mono ?_);rintro e k ⟨rfl,a⟩;clear d f g h i j;replace c:=aA (c.out.keep a);clear a;obtain⟨d,f,g,h,i,j⟩:=c.out.t) | (go_at_call 45;(with_reducible refine(p.out _).mono ?_);rintro e k ⟨rfl,a⟩;clear d f g h i j;replace c:=aA (c.out.keep a);clear a;obtain⟨d,f,g,h,i,j⟩:=c.out.t))
         go_ret;exact⟨rfl,c.out.b⟩
def NM (b:World) (q:Nat) (s:ByteArray) (W:World) (l:List Tr) (a:Ps) (v:Value) (w':World):Prop :=
 (∃t kv,l=[t]/\v=CJ t kv/\Am 42 w' (W.heap.size <= ·) t.ks kv)/\Pz b q s a w'
def NC (nx:Nat->Bool->Tk) (pl:Nat->Nat×Nat) (ere:List UInt8->Option Bool) (a:World) (q:Nat) (s:ByteArray) (n:Nat) (k:NT) (f:FuncId):Prop :=
 ∀(p:Ps) (W:World),Pz a q s p W->Dn nx pl ere n k p ≠ .hush->Calls prog f #[.pointer (some ⟨q,0,none⟩)] W (AbS q W (Dn nx pl ere n k p) (NM a q s W))
theorem F3 {a W w1 w:World} {q:Nat} {s:ByteArray} {p:Ps} {t:Tr} {kv:Value} (b:Am 42 w (w1.heap.size <= ·) t.ks kv) (g:W.heap.size+1<=w1.heap.size) (f:Pz a q s p w) (c:Ae q W w) (i:q<W.heap.size) (e:a.heap.size<=W.heap.size) (v0 v1 v2 v3 v4:Value) :
  NM a q s W [t] p (CJ t kv) (((((w.setCell ⟨W.heap.size,0,none⟩ v0).setCell ⟨W.heap.size,1,none⟩ v1).setCell ⟨W.heap.size,2,none⟩ v2).setCell ⟨W.heap.size,3,none⟩ v3).setCell ⟨W.heap.size,4,none⟩ v4) /\
  Ae q W (((((w.setCell ⟨W.heap.size,0,none⟩ v0).setCell ⟨W.heap.size,1,none⟩ v1).setCell ⟨W.heap.size,2,none⟩ v2).setCell ⟨W.heap.size,3,none⟩ v3).setCell ⟨W.heap.size,4,none⟩ v4):=by
 have d:=(((((Ae.refl W.heap.size w).set 0 v0).set 1 v1).set 2 v2).set 3 v3).set 4 v4;exact⟨⟨⟨t,kv,rfl,rfl,(b.only d (by omega)).mono fun j _ h=>by omega⟩,f.far5 e (by omega) _ _ _ _ _⟩,LI c (Nat.le_refl _) _ _ _ _ _⟩
theorem XW {nx:Nat->Bool->Tk} {pl:Nat->Nat×Nat} {ere:List UInt8->Option Bool} {w:World} {q:Nat} {s:ByteArray} (D:F2 nx s w) (E:H6 pl s) (n:Nat)
  (O:NC nx pl ere w q s n .expr 103):NC nx pl ere w q s (n+1) .cond1 130:=by
 intro p W h b;rw[Dn] at b ⊢;have T:=aA (fun p W (h:Pz w q s p W)=>EM D E h [40]);have U:=aA (fun p W (h:Pz w q s p W)=>EM D E h [41]);have M:=aA O;have G:=h.lt;have H:=h.below.size;obtain⟨o,N⟩:∃o:Obj,o = .cells #[.int .i64 0,.string ⟨#[]⟩,.float .f64 0,.slice none 0 0,.complex .f64 0 0] 42:=⟨_,rfl⟩
 have u:Hid (Pz w q s p (W.alloc o)/\Ae q W (W.alloc o)/\C5 (W.alloc o) W.heap.size (.int .i64 0) (.string ⟨#[]⟩) (.float .f64 0) (.slice none 0 0) (.complex .f64 0 0)) :=
  ⟨h.keep (Ad _ _),Ae.of_below q (Ad _ _),N▸C5.new _ _ _ _ _ _ _⟩
 subst N;clear D E h O;have m:=aA (T.out p _ u.out.1)
 cases K:Abb nx pl [40] p with
 | hush=>rw[K] at b;exact absurd rfl b
 | bad f e =>
   rw[K] at m;clear b
   go_in
   go_wp2_with (first | (go_at_call 68;(with_reducible refine m.out.mono ?_);rintro e A ⟨rfl,a⟩))
   exact⟨rfl,rfl,u.out.2.1.trans a⟩
 | ok z J =>
   rw[K] at m b;simp only[Hf.bind] at b ⊢
   cases y:Dn nx pl ere n .expr J with
   | hush=>rw[y] at b;exact absurd rfl b
   | bad f e =>
     have r:=aA (fun W h=>M.out J W h (by rw[y];intro h;cases h));rw[y] at r;clear b
     go_in
     go_wp2_with (first | (go_at_call 68;(with_reducible refine m.out.mono ?_);rintro e A ⟨R,rfl,⟨rfl,g⟩,a⟩) | (go_at_call 103;(with_reducible refine(r.out _ g).mono ?_);rintro e C ⟨rfl,c⟩))
     exact⟨rfl,rfl,(u.out.2.1.trans a).trans c⟩
   | ok l Q =>
     have r:=aA (fun W h=>M.out J W h (by rw[y];intro h;cases h));rw[y] at r b;dsimp only at b ⊢;have B:=aA (fun W h=>U.out Q W h)
     cases L:Abb nx pl [41] Q with
     | hush=>rw[L] at b;exact absurd rfl b
     | bad f e =>
       rw[L] at B;clear b
       go_in
       go_wp2_with (first | (go_at_call 68;(with_reducible refine m.out.mono ?_);rintro e A ⟨R,rfl,⟨rfl,g⟩,a⟩) | (go_at_call 103;(with_reducible refine(r.out _ g).mono ?_);rintro e C ⟨Y,rfl,⟨⟨t,X,rfl,rfl,i⟩,j⟩,c⟩;obtain⟨ka,k,rfl⟩:=i.slice;unfold CJ) | (go_at_call 68;(with_reducible refine(B.out _ (j.keep (Ad _ _))).mono ?_);rintro e Z ⟨rfl,d⟩))
       exact⟨rfl,rfl,((u.out.2.1.trans a).trans (c.trans (Ae.of_below q (Ad _ _)))).trans d⟩
     | ok S p3 =>
       rw[L] at B;clear b
       go_in
       go_wp2_with (first | (go_at_call 68;(with_reducible refine m.out.mono ?_);rintro e A ⟨R,rfl,⟨rfl,g⟩,a⟩) | (go_at_call 103;(with_reducible refine(r.out _ g).mono ?_);rintro e C ⟨Y,rfl,⟨⟨t,X,rfl,rfl,i⟩,j⟩,c⟩;obtain⟨ka,k,rfl⟩:=i.slice;unfold CJ) | (go_at_call 68;(with_reducible refine(B.out _ (j.keep (Ad _ _))).mono ?_);rintro e Z ⟨v3,rfl,⟨rfl,I⟩,d⟩;have F:=a.size;have V:=c.size;simp only[aD] at F;obtain⟨m0,m1,m2,m3,m4,mf⟩:=(C5.new C (.int .i64 t.kd) (.string ⟨t.nm.toArray⟩) (.float .f64 t.x) (.slice ka t.ks.length k) (.complex .f64 t.z.1 t.z.2) 42).only d (by omega);have HC:=aA ((((u.out.2.2.only a (by omega)).only c (by omega)).alloc (.cells #[.int .i64 t.kd,.string ⟨t.nm.toArray⟩,.float .f64 t.x,.slice ka t.ks.length k,.complex .f64 t.z.1 t.z.2] 42)).only d (by omega));obtain⟨n0,n1,n2,n3,n4,nf⟩:=HC.out))
       obtain⟨z0,z1,z2,S,z4,zf⟩:=((((HC.out.set0 (.int .i64 t.kd)).set1 (.string ⟨t.nm.toArray⟩)).set2 (.float .f64 t.x)).set3 (.slice ka t.ks.length k)).set4 (.complex .f64 t.z.1 t.z.2);have P:=F3 (W:=W) (w1:=A) ((i.bel (Ad C (.cells #[.int .i64 t.kd,.string ⟨t.nm.toArray⟩,.float .f64 t.x,.slice ka t.ks.length k,.complex .f64 t.z.1 t.z.2] 42))).only d (by omega)) (by omega) I (((u.out.2.1.trans a).trans (c.trans (Ae.of_below q (Ad _ _)))).trans d) G H (.int .i64 t.kd) (.string ⟨t.nm.toArray⟩) (.float .f64 t.x) (.slice ka t.ks.length k) (.complex .f64 t.z.1 t.z.2);exact bodyPost_ret (v:=CJ t (.slice ka t.ks.length k)) (by simp[CJ,results,results130,go_sem,z0,z1,z2,S,z4]<;>exact rfl) rfl ⟨_,rfl,P.1,P.2⟩
theorem N1 (nx:Nat->Bool->Tk) (b:Bool) (p:Ps) {c:Type} (k:Tk->Ps->Hf c) :
  (Eb nx b p).bind k=if (nx p.a b).e=0 then k (nx p.a b) p else .bad (nx p.a b).f (nx p.a b).e:=by
 unfold Eb;by_cases h:(nx p.a b).e=0
 ·rw[if_pos h,if_pos h];rfl
 rw[if_neg h,if_neg h];rfl
theorem XF {nx:Nat->Bool->Tk} {pl:Nat->Nat×Nat} {ere:List UInt8->Option Bool} {J:World} {q:Nat} {s:ByteArray} (X:F2 nx s J) (n:Nat)
  (V:NC nx pl ere J q s n .cond1 130) (Y:NC nx pl ere J q s n .operand 303):NC nx pl ere J q s (n+1) .dollar 312:=by
 intro p W h g;rw[Dn,N1] at g ⊢;have H:=h.lt;have I:=h.below.size;obtain⟨o,T⟩:∃o:Obj,o = .cells #[.int .i64 0,.string ⟨#[]⟩,.float .f64 0,.slice none 0 0,.complex .f64 0 0] 42:=⟨_,rfl⟩
 have i:Hid (Pz J q s p (W.alloc o)/\Ae q W (W.alloc o)/\C5 (W.alloc o) W.heap.size (.int .i64 0) (.string ⟨#[]⟩) (.float .f64 0) (.slice none 0 0) (.complex .f64 0 0)) :=
  ⟨h.keep (Ad _ _),Ae.of_below q (Ad _ _),T▸C5.new _ _ _ _ _ _ _⟩
 subst T;have r:=aA (Ea X i.out.1 true);have HC:=aA V;have L:=aA Y;clear X h V Y;obtain⟨t,U⟩:∃t,nx p.a true=t:=⟨_,rfl⟩;rw[U] at r g ⊢;clear U;unfold G1 at r;by_cases w:t.e=0
 ·rw[if_pos w] at g ⊢
  cases D:isS t [40] with
  | true =>
    rw[D] at g;rw[if_pos rfl] at g;rw[if_pos rfl];have F:=aA (F5 D);have k:=aA (fun W h=>HC.out p W h g);clear D HC L
    cases C:Dn nx pl ere n .cond1 p with
    | hush=>exact absurd C g
    | bad f e =>
      rw[C] at k;clear g
      go_in
      go_wp2_with (first | (go_at_call 65;(with_reducible refine r.out.mono ?_);rintro e E ⟨b,⟨-,rfl⟩ | ⟨m,-⟩⟩;rotate_left;exact absurd w m) | (go_at_call 45;(with_reducible refine(F.out _).mono ?_);rintro e K ⟨rfl,c⟩) | (go_at_call 130;(with_reducible refine(k.out _ ((i.out.1.keep b).keep c)).mono ?_);rintro e N ⟨rfl,d⟩))
      exact⟨rfl,rfl,((i.out.2.1.trans (Ae.of_below q b)).trans (Ae.of_below q c)).trans d⟩
    | ok l p2 =>
      rw[C] at k;clear g
      go_in
      go_wp2_with (first | (go_at_call 65;(with_reducible refine r.out.mono ?_);rintro e E ⟨b,⟨-,rfl⟩ | ⟨m,-⟩⟩;rotate_left;exact absurd w m) | (go_at_call 45;(with_reducible refine(F.out _).mono ?_);rintro e K ⟨rfl,c⟩) | (go_at_call 130;(with_reducible refine(k.out _ ((i.out.1.keep b).keep c)).mono ?_);rintro e N ⟨v3,rfl,⟨⟨u,Z,rfl,rfl,j⟩,A⟩,d⟩;obtain⟨ka,B,rfl⟩:=j.slice;unfold CJ;have y:=b.size;have M:=c.size;simp only[aD] at y;have HC:=aA (((i.out.2.2.below b).below c).only d (by omega));obtain⟨n0,n1,n2,n3,n4,nf⟩:=HC.out))
      obtain⟨O,P,Q,R,S,zf⟩:=((((HC.out.set0 (.int .i64 u.kd)).set1 (.string ⟨u.nm.toArray⟩)).set2 (.float .f64 u.x)).set3 (.slice ka u.ks.length B)).set4 (.complex .f64 u.z.1 u.z.2);have G:=F3 (W:=W) (w1:=K) j (by omega) A (((i.out.2.1.trans (Ae.of_below q b)).trans (Ae.of_below q c)).trans d) H I (.int .i64 u.kd) (.string ⟨u.nm.toArray⟩) (.float .f64 u.x) (.slice ka u.ks.length B) (.complex .f64 u.z.1 u.z.2);exact bodyPost_ret (v:=CJ u (.slice ka u.ks.length B)) (by simp[CJ,results,results312,go_sem,O,P,Q,R,S]<;>exact rfl) rfl ⟨_,rfl,G.1,G.2⟩
  | false =>
    rw[D] at g;rw[if_neg (by simp)] at g;rw[if_neg (by simp)];have F:=aA (F5 D);have k:=aA (fun W h=>L.out p W h g);clear D HC L
    cases C:Dn nx pl ere n .operand p with
    | hush=>exact absurd C g
    | bad f e =>
      rw[C] at k;clear g
      go_in
      go_wp2_with (first | (go_at_call 65;(with_reducible refine r.out.mono ?_);rintro e E ⟨b,⟨-,rfl⟩ | ⟨m,-⟩⟩;rotate_left;exact absurd w m) | (go_at_call 45;(with_reducible refine(F.out _).mono ?_);rintro e K ⟨rfl,c⟩) | (go_at_call 303;(with_reducible refine(k.out _ ((i.out.1.keep b).keep c)).mono ?_);rintro e N ⟨rfl,d⟩))
      exact⟨rfl,rfl,((i.out.2.1.trans (Ae.of_below q b)).trans (Ae.of_below q c)).trans d⟩
    | ok l p2 =>
      rw[C] at k;clear g
      go_in
      go_wp2_with (first | (go_at_call 65;(with_reducible refine r.out.mono ?_);rintro e E ⟨b,⟨-,rfl⟩ | ⟨m,-⟩⟩;rotate_left;exact absurd w m) | (go_at_call 45;(with_reducible refine(F.out _).mono ?_);rintro e K ⟨rfl,c⟩) | (go_at_call 303;(with_reducible refine(k.out _ ((i.out.1.keep b).keep c)).mono ?_);rintro e N ⟨v3,rfl,⟨⟨u,Z,rfl,rfl,j⟩,A⟩,d⟩;obtain⟨ka,B,rfl⟩:=j.slice;unfold CJ;have y:=b.size;have M:=c.size;simp only[aD] at y;have HC:=aA (((i.out.2.2.below b).below c).only d (by omega));obtain⟨n0,n1,n2,n3,n4,nf⟩:=HC.out))
      obtain⟨O,P,Q,R,S,zf⟩:=((((HC.out.set0 (.int .i64 u.kd)).set1 (.string ⟨u.nm.toArray⟩)).set2 (.float .f64 u.x)).set3 (.slice ka u.ks.length B)).set4 (.complex .f64 u.z.1 u.z.2);have G:=F3 (W:=W) (w1:=K) j (by omega) A (((i.out.2.1.trans (Ae.of_below q b)).trans (Ae.of_below q c)).trans d) H I (.int .i64 u.kd) (.string ⟨u.nm.toArray⟩) (.float .f64 u.x) (.slice ka u.ks.length B) (.complex .f64 u.z.1 u.z.2);exact bodyPost_ret (v:=CJ u (.slice ka u.ks.length B)) (by simp[CJ,results,results312,go_sem,O,P,Q,R,S]<;>exact rfl) rfl ⟨_,rfl,G.1,G.2⟩
 rw[if_neg w]
 go_in
 go_wp2_with (first | (go_at_call 65;(with_reducible refine r.out.mono ?_);rintro e E ⟨b,⟨m,-⟩ | ⟨-,rfl⟩⟩;exact absurd m w))
 exact⟨rfl,rfl,i.out.2.1.trans (Ae.of_below q b)⟩
end Go.Proofs.YtfblenhlildnaaaGreatDoor
