/- Nh -/
import Derived.Test.YtipfpohlnhmlpaaGreatDoorNg
set_option maxRecDepth 100000
set_option maxHeartbeats 8000000
open Go.Lib renaming hid->aA
namespace Go.Proofs.YtipfpohlnhmlpaaGreatDoor
open Go.Proofs.Tryz
open Go.RowKit
def nv (k:Int) (nm:List UInt8) (x:Nat) (v:Value) (c d:Nat):Value:=.agg #[.int .i64 k,.string ⟨nm.toArray⟩,.float .f64 x,v,.complex .f64 c d]
def Xm (w:World) (b i j o p q:Nat) (k:Int) (nm:List UInt8) (x:Nat) (v:Value) (c d:Nat):Prop :=
 w.cell? ⟨b,i,none⟩=some (.int .i64 k)/\w.cell? ⟨b,j,none⟩=some (.string ⟨nm.toArray⟩)/\w.cell? ⟨b,o,none⟩=some (.float .f64 x)/\w.cell? ⟨b,p,none⟩=some v/\w.cell? ⟨b,q,none⟩=some (.complex .f64 c d)
theorem Xm.bel {w w':World} {b i j o p q:Nat} {k:Int} {nm:List UInt8} {x:Nat} {v:Value} {c d:Nat} (h:Xm w b i j o p q k nm x v c d) (a:Below w.heap.size w w'):Xm w' b i j o p q k nm x v c d :=
 ⟨Aa h.1 a,Aa h.2.1 a,Aa h.2.2.1 a,Aa h.2.2.2.1 a,Aa h.2.2.2.2 a⟩
def CB (f:FuncId) (args:Array Value) (W:World) (r:Bool):Prop:=Calls prog f args W fun e a=>e = .returned (.bool r)/\Below W.heap.size W a
def CA (f:FuncId) (args:Array Value) (W:World) (r:Bool):Prop:=∀a,Below W.heap.size W a->CB f args a r
theorem ck {f:FuncId} {args:Array Value} {W a:World} {r:Bool} {n:Nat} {P:Ending->World->Prop} (h:CB f args a r) (c:Hid (Below n W a)) (d:n<=a.heap.size)
  (k:∀w,Below a.heap.size a w->Hid (Below n W w)->P (.returned (.bool r)) w):Calls prog f args a P:=by
 refine Calls.mono h ?_;rintro e w ⟨rfl,b⟩;exact k w b (aA (c.out.trans (b.mono d)))
theorem Xl (W:World) (k:Int) (nm:List UInt8) (x:Nat) (v:Value) (c d:Nat):Hid (Below W.heap.size W (W.alloc (.cells #[.int .i64 k,.string ⟨nm.toArray⟩,.float .f64 x,v,.complex .f64 c d] 60))) /\
  (W.alloc (.cells #[.int .i64 k,.string ⟨nm.toArray⟩,.float .f64 x,v,.complex .f64 c d] 60)).cell? ⟨W.heap.size,0,none⟩=some (.int .i64 k) /\
  (W.alloc (.cells #[.int .i64 k,.string ⟨nm.toArray⟩,.float .f64 x,v,.complex .f64 c d] 60)).cell? ⟨W.heap.size,1,none⟩=some (.string ⟨nm.toArray⟩) /\
  (W.alloc (.cells #[.int .i64 k,.string ⟨nm.toArray⟩,.float .f64 x,v,.complex .f64 c d] 60)).cell? ⟨W.heap.size,3,none⟩=some v /\
  (W.alloc (.cells #[.int .i64 k,.string ⟨nm.toArray⟩,.float .f64 x,v,.complex .f64 c d] 60)).cell? ⟨W.heap.size,2,none⟩=some (.float .f64 x) /\
  (W.alloc (.cells #[.int .i64 k,.string ⟨nm.toArray⟩,.float .f64 x,v,.complex .f64 c d] 60)).cell? ⟨W.heap.size,4,none⟩=some (.complex .f64 c d):=by
 refine⟨aA (Ad W _),?_,?_,?_,?_,?_⟩<;>(rw[World.cell?_alloc_at _ _ _ _ rfl];rfl)
theorem Ut (x b cap:Nat) (z:Nat×Nat) (d:Nat) (W:World) (H:d<=200)
  (u:Int) (w:List UInt8) (D:Nat) (A:Value) (m o:Nat)
  (f:Xm W b 0 1 2 3 4 u w D A m o)
  (v:Int) (y:List UInt8) (E:Nat) (B:Value) (n p:Nat)
  (e:Xm W b 5 6 7 8 9 v y E B n p)
  (l k:Bool)
  (t:∀G,CB 74 #[nv 31 [] x (.slice (some ⟨b,0,none⟩) 2 cap) z.1 z.2] G true)
  (h:CA 73 #[nv u w D A m o,.int .i64 ((d:Int)+1)] W l)
  (g:CA 52 #[nv v y E B n p,.int .i64 ((d:Int)+1)] W k) :
  CB 75 #[nv 31 [] x (.slice (some ⟨b,0,none⟩) 2 cap) z.1 z.2,.int .i64 d] W ((l&&k)):=by
 obtain⟨c,q,r,s,-,-⟩:=Xl W 31 [] x (.slice (some ⟨b,0,none⟩) 2 cap) z.1 z.2;replace f:=f.bel c.out;replace e:=e.bel c.out;have F:=aA t;have j:=aA h;have i:=aA g;clear t h g;unfold CB nv
 go_in
 go_wp2_with fail
 (go_at_call 74;refine ck (F.out _) c c.out.size ?_;clear c;intro C a c;replace q:=Aa q a;replace r:=Aa r a;replace s:=Aa s a;replace f:=Xm.bel f a;replace e:=Xm.bel e a;clear a)
 obtain⟨_,_,_,_,_⟩:=f
 go_wp2_with fail
 (go_at_call 73;refine ck (j.out _ c.out) c c.out.size ?_;clear c;intro C a c;replace e:=Xm.bel e a;clear a)
 cases l with
 | true =>
   obtain⟨_,_,_,_,_⟩:=e
   go_wp2_with fail
   (go_at_call 52;refine ck (i.out _ c.out) c c.out.size ?_;clear c;intro C a c;clear a)
   cases k with
   | true =>
     go_wp2;go_ret;exact⟨by simp,c.out⟩
   | false =>
     go_wp2;go_ret;exact⟨by simp,c.out⟩
 | false =>
   go_wp2;go_ret;exact⟨by simp,c.out⟩
theorem Uu (x b cap:Nat) (z:Nat×Nat) (d:Nat) (W:World) (R:d<=200)
  (D:Int) (G:List UInt8) (M:Nat) (J:Value) (r u:Nat)
  (f:Xm W b 0 1 2 3 4 D G M J r u)
  (E:Int) (H:List UInt8) (N:Nat) (K:Value) (s v:Nat)
  (e:Xm W b 5 6 7 8 9 E H N K s v)
  (F:Int) (I:List UInt8) (O:Nat) (L:Value) (t w:Nat)
  (g:Xm W b 10 11 12 13 14 F I O L t w)
  (o p n:Bool)
  (C:∀Q,CB 74 #[nv 31 [] x (.slice (some ⟨b,0,none⟩) 3 cap) z.1 z.2] Q true)
  (i:CA 52 #[nv F I O L t w,.int .i64 ((d:Int)+1)] W o)
  (j:CA 73 #[nv D G M J r u,.int .i64 ((d:Int)+1)] W p)
  (h:CA 52 #[nv E H N K s v,.int .i64 ((d:Int)+1)] W n) :
  CB 75 #[nv 31 [] x (.slice (some ⟨b,0,none⟩) 3 cap) z.1 z.2,.int .i64 d] W ((o&&(p&&n))):=by
 obtain⟨c,y,A,B,-,-⟩:=Xl W 31 [] x (.slice (some ⟨b,0,none⟩) 3 cap) z.1 z.2;replace f:=f.bel c.out;replace e:=e.bel c.out;replace g:=g.bel c.out;have P:=aA C;have l:=aA i;have m:=aA j;have k:=aA h;clear C i j h;unfold CB nv
 go_in
 go_wp2_with fail
 (go_at_call 74;refine ck (P.out _) c c.out.size ?_;clear c;intro q a c;replace y:=Aa y a;replace A:=Aa A a;replace B:=Aa B a;replace f:=Xm.bel f a;replace e:=Xm.bel e a;replace g:=Xm.bel g a;clear a)
 obtain⟨_,_,_,_,_⟩:=g
 go_wp2_with fail
 (go_at_call 52;refine ck (l.out _ c.out) c c.out.size ?_;clear c;intro q a c;replace f:=Xm.bel f a;replace e:=Xm.bel e a;clear a)
 cases o with
 | true =>
   obtain⟨_,_,_,_,_⟩:=f
   go_wp2_with fail
   (go_at_call 73;refine ck (m.out _ c.out) c c.out.size ?_;clear c;intro q a c;replace e:=Xm.bel e a;clear a)
   cases p with
   | true =>
     obtain⟨_,_,_,_,_⟩:=e
     go_wp2_with fail
     (go_at_call 52;refine ck (k.out _ c.out) c c.out.size ?_;clear c;intro q a c;clear a)
     cases n with
     | true =>
       go_wp2;go_ret;exact⟨by simp,c.out⟩
     | false =>
       go_wp2;go_ret;exact⟨by simp,c.out⟩
   | false =>
     go_wp2;go_ret;exact⟨by simp,c.out⟩
 | false =>
   go_wp2;go_ret;exact⟨by simp,c.out⟩
theorem Wx (x b cap:Nat) (z:Nat×Nat) (d:Nat) (W:World) (H:d<=200)
  (u:Int) (w:List UInt8) (D:Nat) (A:Value) (m o:Nat)
  (f:Xm W b 0 1 2 3 4 u w D A m o)
  (v:Int) (y:List UInt8) (E:Nat) (B:Value) (n p:Nat)
  (e:Xm W b 5 6 7 8 9 v y E B n p)
  (l k:Bool)
  (t:∀G,CB 74 #[nv 32 [] x (.slice (some ⟨b,0,none⟩) 2 cap) z.1 z.2] G true)
  (h:CA 73 #[nv u w D A m o,.int .i64 ((d:Int)+1)] W l)
  (g:CA 52 #[nv v y E B n p,.int .i64 ((d:Int)+1)] W k) :
  CB 75 #[nv 32 [] x (.slice (some ⟨b,0,none⟩) 2 cap) z.1 z.2,.int .i64 d] W ((l&&k)):=by
 obtain⟨c,q,r,s,-,-⟩:=Xl W 32 [] x (.slice (some ⟨b,0,none⟩) 2 cap) z.1 z.2;replace f:=f.bel c.out;replace e:=e.bel c.out;have F:=aA t;have j:=aA h;have i:=aA g;clear t h g;unfold CB nv
 go_in
 go_wp2_with fail
 (go_at_call 74;refine ck (F.out _) c c.out.size ?_;clear c;intro C a c;replace q:=Aa q a;replace r:=Aa r a;replace s:=Aa s a;replace f:=Xm.bel f a;replace e:=Xm.bel e a;clear a)
 obtain⟨_,_,_,_,_⟩:=f
 go_wp2_with fail
 (go_at_call 73;refine ck (j.out _ c.out) c c.out.size ?_;clear c;intro C a c;replace e:=Xm.bel e a;clear a)
 cases l with
 | true =>
   obtain⟨_,_,_,_,_⟩:=e
   go_wp2_with fail
   (go_at_call 52;refine ck (i.out _ c.out) c c.out.size ?_;clear c;intro C a c;clear a)
   cases k with
   | true =>
     go_wp2;go_ret;exact⟨by simp,c.out⟩
   | false =>
     go_wp2;go_ret;exact⟨by simp,c.out⟩
 | false =>
   go_wp2;go_ret;exact⟨by simp,c.out⟩
theorem Wy (x b cap:Nat) (z:Nat×Nat) (d:Nat) (W:World) (H:d<=200)
  (u:Int) (w:List UInt8) (D:Nat) (A:Value) (m o:Nat)
  (f:Xm W b 0 1 2 3 4 u w D A m o)
  (v:Int) (y:List UInt8) (E:Nat) (B:Value) (n p:Nat)
  (e:Xm W b 5 6 7 8 9 v y E B n p)
  (k l:Bool)
  (t:∀G,CB 74 #[nv 33 [] x (.slice (some ⟨b,0,none⟩) 2 cap) z.1 z.2] G true)
  (g:CA 52 #[nv u w D A m o,.int .i64 ((d:Int)+1)] W k)
  (h:CA 73 #[nv v y E B n p,.int .i64 ((d:Int)+1)] W l) :
  CB 75 #[nv 33 [] x (.slice (some ⟨b,0,none⟩) 2 cap) z.1 z.2,.int .i64 d] W ((k&&l)):=by
 obtain⟨c,q,r,s,-,-⟩:=Xl W 33 [] x (.slice (some ⟨b,0,none⟩) 2 cap) z.1 z.2;replace f:=f.bel c.out;replace e:=e.bel c.out;have F:=aA t;have i:=aA g;have j:=aA h;clear t g h;unfold CB nv
 go_in
 go_wp2_with fail
 (go_at_call 74;refine ck (F.out _) c c.out.size ?_;clear c;intro C a c;replace q:=Aa q a;replace r:=Aa r a;replace s:=Aa s a;replace f:=Xm.bel f a;replace e:=Xm.bel e a;clear a)
 obtain⟨_,_,_,_,_⟩:=f
 go_wp2_with fail
 (go_at_call 52;refine ck (i.out _ c.out) c c.out.size ?_;clear c;intro C a c;replace e:=Xm.bel e a;clear a)
 cases k with
 | true =>
   obtain⟨_,_,_,_,_⟩:=e
   go_wp2_with fail
   (go_at_call 73;refine ck (j.out _ c.out) c c.out.size ?_;clear c;intro C a c;clear a)
   cases l with
   | true =>
     go_wp2;go_ret;exact⟨by simp,c.out⟩
   | false =>
     go_wp2;go_ret;exact⟨by simp,c.out⟩
 | false =>
   go_wp2;go_ret;exact⟨by simp,c.out⟩
theorem Wz (x b cap:Nat) (z:Nat×Nat) (d:Nat) (W:World) (hd:d<=200)
  (J:Int) (L:List UInt8) (Q:Nat) (O:Value) (E G:Nat)
  (j:Xm W b 0 1 2 3 4 J L Q O E G)
  (Z:Int) (n1:List UInt8) (x1:Nat) (w1:Value) (V X:Nat)
  (h:Xm W b 5 6 7 8 9 Z n1 x1 w1 V X)
  (K:Int) (M:List UInt8) (R:Nat) (P:Value) (F H:Nat)
  (f:Xm W b 10 11 12 13 14 K M R P F H)
  (k3:Int) (n3:List UInt8) (x3:Nat) (w3:Value) (c3 d3:Nat)
  (e:Xm W b 15 16 17 18 19 k3 n3 x3 w3 c3 d3)
  (o0 Y s0 N I p o q k:Bool)
  (hb:∀W',CB 74 #[nv 34 [] x (.slice (some ⟨b,0,none⟩) 4 cap) z.1 z.2] W' true)
  (y:CA 92 #[nv J L Q O E G] W o0)
  (v:CA 93 #[nv J L Q O E G] W Y)
  (C:CA 75 #[nv J L Q O E G,.int .i64 ((d:Int)+1)] W s0)
  (A:CA 92 #[nv Z n1 x1 w1 V X] W N)
  (u:CA 73 #[nv Z n1 x1 w1 V X,.int .i64 ((d:Int)+1)] W I)
  (B:CA 92 #[nv K M R P F H] W p)
  (w:CA 93 #[nv K M R P F H] W o)
  (D:CA 75 #[nv K M R P F H,.int .i64 ((d:Int)+1)] W q)
  (t:CA 52 #[nv k3 n3 x3 w3 c3 d3,.int .i64 ((d:Int)+1)] W k) :
  CB 75 #[nv 34 [] x (.slice (some ⟨b,0,none⟩) 4 cap) z.1 z.2,.int .i64 d] W (((o0||(Y&&s0))&&((N||I)&&((p||(o&&q))&&k)))):=by
 obtain⟨c,g0,g1,g3,-,-⟩:=Xl W 34 [] x (.slice (some ⟨b,0,none⟩) 4 cap) z.1 z.2;replace j:=j.bel c.out;replace h:=h.bel c.out;replace f:=f.bel c.out;replace e:=e.bel c.out;have Hb:=aA hb;have T:=aA y;have S:=aA v;have U:=aA C;have s:=aA A;have r:=aA u;have m:=aA B;have l:=aA w;have n:=aA D;have i:=aA t;clear hb y v C A u B w D t;unfold CB nv
 go_in
 go_wp2_with fail
 (go_at_call 74;refine ck (Hb.out _) c c.out.size ?_;clear c;intro g a c;replace g0:=Aa g0 a;replace g1:=Aa g1 a;replace g3:=Aa g3 a;replace j:=Xm.bel j a;replace h:=Xm.bel h a;replace f:=Xm.bel f a;replace e:=Xm.bel e a;clear a)
 obtain⟨_,_,_,_,_⟩:=id j
 go_wp2_with fail
 (go_at_call 92;refine ck (T.out _ c.out) c c.out.size ?_;clear c;intro g a c;replace j:=Xm.bel j a;replace h:=Xm.bel h a;replace f:=Xm.bel f a;replace e:=Xm.bel e a;clear a)
 cases o0 with
 | true =>
   obtain⟨_,_,_,_,_⟩:=id h
   go_wp2_with fail
   (go_at_call 92;refine ck (s.out _ c.out) c c.out.size ?_;clear c;intro g a c;replace h:=Xm.bel h a;replace f:=Xm.bel f a;replace e:=Xm.bel e a;clear a)
   cases N with
   | true =>
     obtain⟨_,_,_,_,_⟩:=id f
     go_wp2_with fail
     (go_at_call 92;refine ck (m.out _ c.out) c c.out.size ?_;clear c;intro g a c;replace f:=Xm.bel f a;replace e:=Xm.bel e a;clear a)
     cases p with
     | true =>
       obtain⟨_,_,_,_,_⟩:=e
       go_wp2_with fail
       (go_at_call 52;refine ck (i.out _ c.out) c c.out.size ?_;clear c;intro g a c;clear a)
       cases k with
       | true =>
         go_wp2;go_ret;exact⟨by simp,c.out⟩
       | false =>
         go_wp2;go_ret;exact⟨by simp,c.out⟩
     | false =>
       obtain⟨_,_,_,_,_⟩:=id f
       go_wp2_with fail
       (go_at_call 93;refine ck (l.out _ c.out) c c.out.size ?_;clear c;intro g a c;replace f:=Xm.bel f a;replace e:=Xm.bel e a;clear a)
       cases o with
       | true =>
         obtain⟨_,_,_,_,_⟩:=f
         go_wp2_with fail
         (go_at_call 75;refine ck (n.out _ c.out) c c.out.size ?_;clear c;intro g a c;replace e:=Xm.bel e a;clear a)
         cases q with
         | true =>
           obtain⟨_,_,_,_,_⟩:=e
           go_wp2_with fail
           (go_at_call 52;refine ck (i.out _ c.out) c c.out.size ?_;clear c;intro g a c;clear a)
           cases k with
           | true =>
             go_wp2;go_ret;exact⟨by simp,c.out⟩
           | false =>
             go_wp2;go_ret;exact⟨by simp,c.out⟩
         | false =>
           go_wp2;go_ret;exact⟨by simp,c.out⟩
       | false =>
         go_wp2;go_ret;exact⟨by simp,c.out⟩
   | false =>
     obtain⟨_,_,_,_,_⟩:=h
     go_wp2_with fail
     (go_at_call 73;refine ck (r.out _ c.out) c c.out.size ?_;clear c;intro g a c;replace f:=Xm.bel f a;replace e:=Xm.bel e a;clear a)
     cases I with
     | true =>
       obtain⟨_,_,_,_,_⟩:=id f
       go_wp2_with fail
       (go_at_call 92;refine ck (m.out _ c.out) c c.out.size ?_;clear c;intro g a c;replace f:=Xm.bel f a;replace e:=Xm.bel e a;clear a)
       cases p with
       | true =>
         obtain⟨_,_,_,_,_⟩:=e
         go_wp2_with fail
         (go_at_call 52;refine ck (i.out _ c.out) c c.out.size ?_;clear c;intro g a c;clear a)
         cases k with
         | true =>
           go_wp2;go_ret;exact⟨by simp,c.out⟩
         | false =>
           go_wp2;go_ret;exact⟨by simp,c.out⟩
       | false =>
         obtain⟨_,_,_,_,_⟩:=id f
         go_wp2_with fail
         (go_at_call 93;refine ck (l.out _ c.out) c c.out.size ?_;clear c;intro g a c;replace f:=Xm.bel f a;replace e:=Xm.bel e a;clear a)
         cases o with
         | true =>
           obtain⟨_,_,_,_,_⟩:=f
           go_wp2_with fail
           (go_at_call 75;refine ck (n.out _ c.out) c c.out.size ?_;clear c;intro g a c;replace e:=Xm.bel e a;clear a)
           cases q with
           | true =>
             obtain⟨_,_,_,_,_⟩:=e
             go_wp2_with fail
             (go_at_call 52;refine ck (i.out _ c.out) c c.out.size ?_;clear c;intro g a c;clear a)
             cases k with
             | true =>
               go_wp2;go_ret;exact⟨by simp,c.out⟩
             | false =>
               go_wp2;go_ret;exact⟨by simp,c.out⟩
           | false =>
             go_wp2;go_ret;exact⟨by simp,c.out⟩
         | false =>
           go_wp2;go_ret;exact⟨by simp,c.out⟩
     | false =>
       go_wp2;go_ret;exact⟨by simp,c.out⟩
 | false =>
   obtain⟨_,_,_,_,_⟩:=id j
   go_wp2_with fail
   (go_at_call 93;refine ck (S.out _ c.out) c c.out.size ?_;clear c;intro g a c;replace j:=Xm.bel j a;replace h:=Xm.bel h a;replace f:=Xm.bel f a;replace e:=Xm.bel e a;clear a)
   cases Y with
   | true =>
     obtain⟨_,_,_,_,_⟩:=j
     go_wp2_with fail
     (go_at_call 75;refine ck (U.out _ c.out) c c.out.size ?_;clear c;intro g a c;replace h:=Xm.bel h a;replace f:=Xm.bel f a;replace e:=Xm.bel e a;clear a)
     cases s0 with
     | true =>
       obtain⟨_,_,_,_,_⟩:=id h
       go_wp2_with fail
       (go_at_call 92;refine ck (s.out _ c.out) c c.out.size ?_;clear c;intro g a c;replace h:=Xm.bel h a;replace f:=Xm.bel f a;replace e:=Xm.bel e a;clear a)
       cases N with
       | true =>
         obtain⟨_,_,_,_,_⟩:=id f
         go_wp2_with fail
         (go_at_call 92;refine ck (m.out _ c.out) c c.out.size ?_;clear c;intro g a c;replace f:=Xm.bel f a;replace e:=Xm.bel e a;clear a)
         cases p with
         | true =>
           obtain⟨_,_,_,_,_⟩:=e
           go_wp2_with fail
           (go_at_call 52;refine ck (i.out _ c.out) c c.out.size ?_;clear c;intro g a c;clear a)
           cases k with
           | true =>
             go_wp2;go_ret;exact⟨by simp,c.out⟩
           | false =>
             go_wp2;go_ret;exact⟨by simp,c.out⟩
         | false =>
           obtain⟨_,_,_,_,_⟩:=id f
           go_wp2_with fail
           (go_at_call 93;refine ck (l.out _ c.out) c c.out.size ?_;clear c;intro g a c;replace f:=Xm.bel f a;replace e:=Xm.bel e a;clear a)
           cases o with
           | true =>
             obtain⟨_,_,_,_,_⟩:=f
             go_wp2_with fail
             (go_at_call 75;refine ck (n.out _ c.out) c c.out.size ?_;clear c;intro g a c;replace e:=Xm.bel e a;clear a)
             cases q with
             | true =>
               obtain⟨_,_,_,_,_⟩:=e
               go_wp2_with fail
               (go_at_call 52;refine ck (i.out _ c.out) c c.out.size ?_;clear c;intro g a c;clear a)
               cases k with
               | true =>
                 go_wp2;go_ret;exact⟨by simp,c.out⟩
               | false =>
                 go_wp2;go_ret;exact⟨by simp,c.out⟩
             | false =>
               go_wp2;go_ret;exact⟨by simp,c.out⟩
           | false =>
             go_wp2;go_ret;exact⟨by simp,c.out⟩
       | false =>
         obtain⟨_,_,_,_,_⟩:=h
         go_wp2_with fail
         (go_at_call 73;refine ck (r.out _ c.out) c c.out.size ?_;clear c;intro g a c;replace f:=Xm.bel f a;replace e:=Xm.bel e a;clear a)
         cases I with
         | true =>
           obtain⟨_,_,_,_,_⟩:=id f
           go_wp2_with fail
           (go_at_call 92;refine ck (m.out _ c.out) c c.out.size ?_;clear c;intro g a c;replace f:=Xm.bel f a;replace e:=Xm.bel e a;clear a)
           cases p with
           | true =>
             obtain⟨_,_,_,_,_⟩:=e
             go_wp2_with fail
             (go_at_call 52;refine ck (i.out _ c.out) c c.out.size ?_;clear c;intro g a c;clear a)
             cases k with
             | true =>
               go_wp2;go_ret;exact⟨by simp,c.out⟩
             | false =>
               go_wp2;go_ret;exact⟨by simp,c.out⟩
           | false =>
             obtain⟨_,_,_,_,_⟩:=id f
             go_wp2_with fail
             (go_at_call 93;refine ck (l.out _ c.out) c c.out.size ?_;clear c;intro g a c;replace f:=Xm.bel f a;replace e:=Xm.bel e a;clear a)
             cases o with
             | true =>
               obtain⟨_,_,_,_,_⟩:=f
               go_wp2_with fail
               (go_at_call 75;refine ck (n.out _ c.out) c c.out.size ?_;clear c;intro g a c;replace e:=Xm.bel e a;clear a)
               cases q with
               | true =>
                 obtain⟨_,_,_,_,_⟩:=e
                 go_wp2_with fail
                 (go_at_call 52;refine ck (i.out _ c.out) c c.out.size ?_;clear c;intro g a c;clear a)
                 cases k with
                 | true =>
                   go_wp2;go_ret;exact⟨by simp,c.out⟩
                 | false =>
                   go_wp2;go_ret;exact⟨by simp,c.out⟩
               | false =>
                 go_wp2;go_ret;exact⟨by simp,c.out⟩
             | false =>
               go_wp2;go_ret;exact⟨by simp,c.out⟩
         | false =>
           go_wp2;go_ret;exact⟨by simp,c.out⟩
     | false =>
       go_wp2;go_ret;exact⟨by simp,c.out⟩
   | false =>
     go_wp2;go_ret;exact⟨by simp,c.out⟩
theorem Uz (x b cap:Nat) (z:Nat×Nat) (d:Nat) (W:World) (M:d<=200)
  (p:Int) (D:List UInt8) (H:Nat) (F:Value) (r t:Nat)
  (g:Xm W b 0 1 2 3 4 p D H F r t)
  (C:Int) (E:List UInt8) (I:Nat) (G:Value) (s u:Nat)
  (f:Xm W b 5 6 7 8 9 C E I G s u)
  (n m:Bool)
  (A:∀j,CB 74 #[nv 35 [] x (.slice (some ⟨b,0,none⟩) 2 cap) z.1 z.2] j true)
  (i:CA 73 #[nv p D H F r t,.int .i64 ((d:Int)+1)] W n)
  (h:CA 52 #[nv C E I G s u,.int .i64 ((d:Int)+1)] W m)
  (B:∀j,Calls prog 53 #[.string ⟨[].toArray⟩] j fun e L=>e = .returned (.bool true)/\j=L) (o:p=4) :
  CB 75 #[nv 35 [] x (.slice (some ⟨b,0,none⟩) 2 cap) z.1 z.2,.int .i64 d] W ((n&&m)):=by
 obtain⟨c,v,w,y,-,-⟩:=Xl W 35 [] x (.slice (some ⟨b,0,none⟩) 2 cap) z.1 z.2;replace g:=g.bel c.out;replace f:=f.bel c.out;have K:=aA A;have l:=aA i;have k:=aA h;clear A i h;subst o;have J:=aA B;clear B;unfold CB nv
 go_in
 go_wp2_with fail
 (go_at_call 74;refine ck (K.out _) c c.out.size ?_;clear c;intro q a c;replace v:=Aa v a;replace w:=Aa w a;replace y:=Aa y a;replace g:=Xm.bel g a;replace f:=Xm.bel f a;clear a)
 go_wp2_with fail
 (go_at_call 53;refine(J.out _).mono ?_;rintro e q ⟨rfl,rfl⟩)
 obtain⟨_,_,_,_,_⟩:=g
 go_wp2_with fail
 (go_at_call 73;refine ck (l.out _ c.out) c c.out.size ?_;clear c;intro q a c;replace f:=Xm.bel f a;clear a)
 cases n with
 | true =>
   obtain⟨_,_,_,_,_⟩:=f
   go_wp2_with fail
   (go_at_call 52;refine ck (k.out _ c.out) c c.out.size ?_;clear c;intro q a c;clear a)
   cases m with
   | true =>
     go_wp2;go_ret;exact⟨by simp,c.out⟩
   | false =>
     go_wp2;go_ret;exact⟨by simp,c.out⟩
 | false =>
   go_wp2;go_ret;exact⟨by simp,c.out⟩
theorem UA (g:UInt8) (h:List UInt8)
  (x b cap:Nat) (z:Nat×Nat) (d:Nat) (W:World) (R:d<=200)
  (t:Int) (H:List UInt8) (L:Nat) (J:Value) (v y:Nat)
  (j:Xm W b 0 1 2 3 4 t H L J v y)
  (G:Int) (I:List UInt8) (M:Nat) (K:Value) (w A:Nat)
  (i:Xm W b 5 6 7 8 9 G I M K w A)
  (q p:Bool)
  (E:∀m,CB 74 #[nv 35 (g::h) x (.slice (some ⟨b,0,none⟩) 2 cap) z.1 z.2] m true)
  (l:CA 73 #[nv t H L J v y,.int .i64 ((d:Int)+1)] W q)
  (k:CA 52 #[nv G I M K w A,.int .i64 ((d:Int)+1)] W p)
  (F:∀m,Calls prog 53 #[.string ⟨(g::h).toArray⟩] m fun e Q=>e = .returned (.bool true)/\m=Q) (s:t=4) :
  CB 75 #[nv 35 (g::h) x (.slice (some ⟨b,0,none⟩) 2 cap) z.1 z.2,.int .i64 d] W ((q&&p)):=by
 obtain⟨f,B,C,D,-,-⟩:=Xl W 35 (g::h) x (.slice (some ⟨b,0,none⟩) 2 cap) z.1 z.2;replace j:=j.bel f.out;replace i:=i.bel f.out;have O:=aA E;have o:=aA l;have n:=aA k;clear E l k;subst s;have N:=aA F;clear F;have P:=Ex (c:=g) (r:=h);unfold CB nv
 go_in
 go_wp2_with fail
 (go_at_call 74;refine ck (O.out _) f f.out.size ?_;clear f;intro u a f;replace B:=Aa B a;replace C:=Aa C a;replace D:=Aa D a;replace j:=Xm.bel j a;replace i:=Xm.bel i a;clear a)
 go_wp2_with fail
 (go_at_call 53;refine(N.out _).mono ?_;rintro e u ⟨rfl,rfl⟩)
 obtain⟨_,_,_,_,_⟩:=j
 go_wp2_with fail
 (go_at_call 73;refine ck (o.out _ f.out) f f.out.size ?_;clear f;intro u a f;replace i:=Xm.bel i a;clear a)
 cases q with
 | true =>
   obtain⟨_,_,_,_,_⟩:=i
   go_wp2_with fail
   (go_at_call 52;refine ck (n.out _ f.out) f f.out.size ?_;clear f;intro u a f;clear a)
   cases p with
   | true =>
     go_wp2;go_ret;exact⟨by simp,f.out⟩
   | false =>
     go_wp2;go_ret;exact⟨by simp,f.out⟩
 | false =>
   go_wp2;go_ret;exact⟨by simp,f.out⟩
theorem WA (x b cap:Nat) (z:Nat×Nat) (d:Nat) (W:World) (C:d<=200)
  (nm:List UInt8)
  (g:Int) (p:List UInt8) (t:Nat) (r:Value) (j l:Nat)
  (y:Xm W b 0 1 2 3 4 g p t r j l)
  (o:Int) (q:List UInt8) (u:Nat) (s:Value) (k m:Nat)
  (A:Xm W b 5 6 7 8 9 o q u s k m)
  (n i:Bool)
  (B:∀h,CB 74 #[nv 35 nm x (.slice (some ⟨b,0,none⟩) 2 cap) z.1 z.2] h true)
  (c:CA 73 #[nv g p t r j l,.int .i64 ((d:Int)+1)] W n)
  (a:CA 52 #[nv o q u s k m,.int .i64 ((d:Int)+1)] W i)
  (D:∀h,Calls prog 53 #[.string ⟨nm.toArray⟩] h fun e E=>e = .returned (.bool true)/\h=E) (f:g=4) :
  CB 75 #[nv 35 nm x (.slice (some ⟨b,0,none⟩) 2 cap) z.1 z.2,.int .i64 d] W ((n&&i)):=by
 cases nm with
 | nil=>exact Uz x b cap z d W C g p t r j l y o q u s k m A n i B c a D f
 | cons v w=>exact UA v w x b cap z d W C g p t r j l y o q u s k m A n i B c a D f
theorem O4 (k:Int) (nm:List UInt8) (x:Nat) (a:Option Addr) (n cap:Nat) (z:Nat×Nat) (d:Nat) (W:World) (_hl:n<=8796093022208) (g:¬ d<=200)
  : CB 75 #[nv k nm x (.slice a n cap) z.1 z.2,.int .i64 d] W (false):=by
 obtain⟨b,c,e,f,-,-⟩:=Xl W k nm x (.slice a n cap) z.1 z.2;unfold CB nv
 go_in
 go_wp2;go_ret;exact⟨rfl,b.out⟩
theorem Ky (k:Int) (nm:List UInt8) (x:Nat) (a:Option Addr) (n cap:Nat) (z:Nat×Nat) (d:Nat) (W:World) (_hl:n<=8796093022208) (l:d<=200)
  (h:∀j,CB 74 #[nv k nm x (.slice a n cap) z.1 z.2] j false)
   : CB 75 #[nv k nm x (.slice a n cap) z.1 z.2,.int .i64 d] W (false):=by
 obtain⟨c,e,f,g,-,-⟩:=Xl W k nm x (.slice a n cap) z.1 z.2;have i:=aA h;clear h;unfold CB nv
 go_in
 go_wp2_with (first | (go_at_call 74;refine ck (i.out _) c c.out.size ?_;clear c;intro m b c;replace e:=Aa e b;replace f:=Aa f b;replace g:=Aa g b;clear b))
 go_ret;exact⟨rfl,c.out⟩
theorem MM (k:Int) (b:UInt8) (f:List UInt8) (x:Nat) (a:Option Addr) (n cap:Nat) (z:Nat×Nat) (d:Nat) (W:World) (_hl:n<=8796093022208) (v:d<=200)
  (o:∀q,CB 74 #[nv k (b::f) x (.slice a n cap) z.1 z.2] q true)
  (h:¬ k=35) (i:¬ k=41):CB 75 #[nv k (b::f) x (.slice a n cap) z.1 z.2,.int .i64 d] W (false):=by
 obtain⟨g,j,l,m,-,-⟩:=Xl W k (b::f) x (.slice a n cap) z.1 z.2;have p:=aA o;clear o;have s:=Ex (c:=b) (r:=f);have t:(k != 35)=true:=(by simp[h]);have u:(k != 41)=true:=(by simp[i]);unfold CB nv
 go_in
 go_wp2_with (first | (go_at_call 74;refine ck (p.out _) g g.out.size ?_;clear g;intro w e g;replace j:=Aa j e;replace l:=Aa l e;replace m:=Aa m e;clear e))
 go_ret;exact⟨rfl,g.out⟩
theorem UF (k:Int) (x:Nat) (a:Option Addr) (n cap:Nat) (z:Nat×Nat) (d:Nat) (W:World) (_hl:n<=8796093022208) (D:d<=200)
  (h:∀j,CB 74 #[nv k [] x (.slice a n cap) z.1 z.2] j true)
  (l:¬ k=30) (m:¬ k=31) (o:¬ k=32) (p:¬ k=33) (q:¬ k=34) (r:¬ k=35) (s:¬ k=36) (t:¬ k=37) (u:¬ k=38) (v:¬ k=39) (w:¬ k=40) (y:¬ k=41) (A:¬ k=42) (B:¬ k=43) (C:¬ k=44):CB 75 #[nv k [] x (.slice a n cap) z.1 z.2,.int .i64 d] W (false):=by
 obtain⟨c,e,f,g,-,-⟩:=Xl W k [] x (.slice a n cap) z.1 z.2;have i:=aA h;clear h;unfold CB nv
 go_in
 go_wp2_with (first | (go_at_call 74;refine ck (i.out _) c c.out.size ?_;clear c;intro E b c;replace e:=Aa e b;replace f:=Aa f b;replace g:=Aa g b;clear b))
 go_ret;exact⟨rfl,c.out⟩
theorem Ww (v:Bool) (x:Nat) (a:Option Addr) (n cap:Nat) (z:Nat×Nat) (d:Nat) (W:World) (_hl:n<=8796093022208) (q:d<=200)
  (j:∀o,CB 74 #[nv 30 [] x (.slice a n cap) z.1 z.2] o true)
  (k:CA 52 #[nv 30 [] x (.slice a n cap) z.1 z.2,.int .i64 d] W v)
   : CB 75 #[nv 30 [] x (.slice a n cap) z.1 z.2,.int .i64 d] W (v):=by
 obtain⟨c,e,f,h,g,i⟩:=Xl W 30 [] x (.slice a n cap) z.1 z.2;have l:=aA j;clear j;have m:=aA k;clear k;unfold CB nv
 go_in
 go_wp2_with (first | (go_at_call 74;refine ck (l.out _) c c.out.size ?_;clear c;intro p b c;replace e:=Aa e b;replace f:=Aa f b;replace h:=Aa h b;replace g:=Aa g b;replace i:=Aa i b;clear b) | (go_at_call 52;refine ck (m.out _ c.out) c c.out.size ?_;clear c;intro p b c;replace e:=Aa e b;replace f:=Aa f b;replace h:=Aa h b;replace g:=Aa g b;replace i:=Aa i b;clear b))
 go_ret;exact⟨rfl,c.out⟩
theorem Us (x:Nat) (a:Option Addr) (n cap:Nat) (z:Nat×Nat) (d:Nat) (W:World) (_hl:n<=8796093022208) (m:d<=200)
  (h:∀j,CB 74 #[nv 31 [] x (.slice a n cap) z.1 z.2] j true)
  (k:¬ n=2) (l:¬ n=3):CB 75 #[nv 31 [] x (.slice a n cap) z.1 z.2,.int .i64 d] W (false):=by
 obtain⟨c,e,f,g,-,-⟩:=Xl W 31 [] x (.slice a n cap) z.1 z.2;have i:=aA h;clear h;unfold CB nv
 go_in
 go_wp2_with (first | (go_at_call 74;refine ck (i.out _) c c.out.size ?_;clear c;intro o b c;replace e:=Aa e b;replace f:=Aa f b;replace g:=Aa g b;clear b))
 go_ret;exact⟨rfl,c.out⟩
theorem Uv (x:Nat) (a:Option Addr) (n cap:Nat) (z:Nat×Nat) (d:Nat) (W:World) (_hl:n<=8796093022208) (l:d<=200)
  (h:∀j,CB 74 #[nv 32 [] x (.slice a n cap) z.1 z.2] j true)
  (k:¬ n=2):CB 75 #[nv 32 [] x (.slice a n cap) z.1 z.2,.int .i64 d] W (false):=by
 obtain⟨c,e,f,g,-,-⟩:=Xl W 32 [] x (.slice a n cap) z.1 z.2;have i:=aA h;clear h;unfold CB nv
 go_in
 go_wp2_with (first | (go_at_call 74;refine ck (i.out _) c c.out.size ?_;clear c;intro m b c;replace e:=Aa e b;replace f:=Aa f b;replace g:=Aa g b;clear b))
 go_ret;exact⟨rfl,c.out⟩
theorem Uw (x:Nat) (a:Option Addr) (n cap:Nat) (z:Nat×Nat) (d:Nat) (W:World) (_hl:n<=8796093022208) (l:d<=200)
  (h:∀j,CB 74 #[nv 33 [] x (.slice a n cap) z.1 z.2] j true)
  (k:¬ n=2):CB 75 #[nv 33 [] x (.slice a n cap) z.1 z.2,.int .i64 d] W (false):=by
 obtain⟨c,e,f,g,-,-⟩:=Xl W 33 [] x (.slice a n cap) z.1 z.2;have i:=aA h;clear h;unfold CB nv
 go_in
 go_wp2_with (first | (go_at_call 74;refine ck (i.out _) c c.out.size ?_;clear c;intro m b c;replace e:=Aa e b;replace f:=Aa f b;replace g:=Aa g b;clear b))
 go_ret;exact⟨rfl,c.out⟩
theorem Ux (x:Nat) (a:Option Addr) (n cap:Nat) (z:Nat×Nat) (d:Nat) (W:World) (_hl:n<=8796093022208) (l:d<=200)
  (h:∀j,CB 74 #[nv 34 [] x (.slice a n cap) z.1 z.2] j true)
  (k:¬ n=4):CB 75 #[nv 34 [] x (.slice a n cap) z.1 z.2,.int .i64 d] W (false):=by
 obtain⟨c,e,f,g,-,-⟩:=Xl W 34 [] x (.slice a n cap) z.1 z.2;have i:=aA h;clear h;unfold CB nv
 go_in
 go_wp2_with (first | (go_at_call 74;refine ck (i.out _) c c.out.size ?_;clear c;intro m b c;replace e:=Aa e b;replace f:=Aa f b;replace g:=Aa g b;clear b))
 go_ret;exact⟨rfl,c.out⟩
theorem Qt (x:Nat) (a:Option Addr) (n cap:Nat) (z:Nat×Nat) (d:Nat) (W:World) (_hl:n<=8796093022208) (o:d<=200)
  (h:∀l,CB 74 #[nv 35 [] x (.slice a n cap) z.1 z.2] l true)
  (i:CA 53 #[.string ⟨[].toArray⟩] W false)
   : CB 75 #[nv 35 [] x (.slice a n cap) z.1 z.2,.int .i64 d] W (false):=by
 obtain⟨c,e,f,g,-,-⟩:=Xl W 35 [] x (.slice a n cap) z.1 z.2;have j:=aA h;clear h;have k:=aA i;clear i;unfold CB nv
 go_in
 go_wp2_with (first | (go_at_call 74;refine ck (j.out _) c c.out.size ?_;clear c;intro m b c;replace e:=Aa e b;replace f:=Aa f b;replace g:=Aa g b;clear b) | (go_at_call 53;refine ck (k.out _ c.out) c c.out.size ?_;clear c;intro m b c;replace e:=Aa e b;replace f:=Aa f b;replace g:=Aa g b;clear b))
 go_ret;exact⟨rfl,c.out⟩
theorem Qu (e:UInt8) (f:List UInt8) (x:Nat) (a:Option Addr) (n cap:Nat) (z:Nat×Nat) (d:Nat) (W:World) (_hl:n<=8796093022208) (t:d<=200)
  (k:∀p,CB 74 #[nv 35 (e::f) x (.slice a n cap) z.1 z.2] p true)
  (l:CA 53 #[.string ⟨(e::f).toArray⟩] W false)
   : CB 75 #[nv 35 (e::f) x (.slice a n cap) z.1 z.2,.int .i64 d] W (false):=by
 obtain⟨g,h,i,j,-,-⟩:=Xl W 35 (e::f) x (.slice a n cap) z.1 z.2;have m:=aA k;clear k;have o:=aA l;clear l;have q:=Ex (c:=e) (r:=f);unfold CB nv
 go_in
 go_wp2_with (first | (go_at_call 74;refine ck (m.out _) g g.out.size ?_;clear g;intro s b g;replace h:=Aa h b;replace i:=Aa i b;replace j:=Aa j b;clear b) | (go_at_call 53;refine ck (o.out _ g.out) g g.out.size ?_;clear g;intro s b g;replace h:=Aa h b;replace i:=Aa i b;replace j:=Aa j b;clear b))
 go_ret;exact⟨rfl,g.out⟩
theorem O0 (nm:List UInt8) (x:Nat) (a:Option Addr) (n cap:Nat) (z:Nat×Nat) (d:Nat) (W:World) (_hl:n<=8796093022208) (f:d<=200)
  (e:∀h,CB 74 #[nv 35 nm x (.slice a n cap) z.1 z.2] h true)
  (g:CA 53 #[.string ⟨nm.toArray⟩] W false)
   : CB 75 #[nv 35 nm x (.slice a n cap) z.1 z.2,.int .i64 d] W (false):=by
 cases nm with
 | nil=>exact Qt x a n cap z d W _hl f e g
 | cons b c=>exact Qu b c x a n cap z d W _hl f e g
theorem Qr (x:Nat) (a:Option Addr) (n cap:Nat) (z:Nat×Nat) (d:Nat) (W:World) (_hl:n<=8796093022208) (p:d<=200)
  (h:∀l,CB 74 #[nv 35 [] x (.slice a n cap) z.1 z.2] l true)
  (i:CA 53 #[.string ⟨[].toArray⟩] W true)
  (o:¬ n=2):CB 75 #[nv 35 [] x (.slice a n cap) z.1 z.2,.int .i64 d] W (false):=by
 obtain⟨c,e,f,g,-,-⟩:=Xl W 35 [] x (.slice a n cap) z.1 z.2;have j:=aA h;clear h;have k:=aA i;clear i;unfold CB nv
 go_in
 go_wp2_with (first | (go_at_call 74;refine ck (j.out _) c c.out.size ?_;clear c;intro m b c;replace e:=Aa e b;replace f:=Aa f b;replace g:=Aa g b;clear b) | (go_at_call 53;refine ck (k.out _ c.out) c c.out.size ?_;clear c;intro m b c;replace e:=Aa e b;replace f:=Aa f b;replace g:=Aa g b;clear b))
 go_ret;exact⟨rfl,c.out⟩
theorem Qs (e:UInt8) (f:List UInt8) (x:Nat) (a:Option Addr) (n cap:Nat) (z:Nat×Nat) (d:Nat) (W:World) (_hl:n<=8796093022208) (u:d<=200)
  (k:∀p,CB 74 #[nv 35 (e::f) x (.slice a n cap) z.1 z.2] p true)
  (l:CA 53 #[.string ⟨(e::f).toArray⟩] W true)
  (t:¬ n=2):CB 75 #[nv 35 (e::f) x (.slice a n cap) z.1 z.2,.int .i64 d] W (false):=by
 obtain⟨g,h,i,j,-,-⟩:=Xl W 35 (e::f) x (.slice a n cap) z.1 z.2;have m:=aA k;clear k;have o:=aA l;clear l;have q:=Ex (c:=e) (r:=f);unfold CB nv
 go_in
 go_wp2_with (first | (go_at_call 74;refine ck (m.out _) g g.out.size ?_;clear g;intro s b g;replace h:=Aa h b;replace i:=Aa i b;replace j:=Aa j b;clear b) | (go_at_call 53;refine ck (o.out _ g.out) g g.out.size ?_;clear g;intro s b g;replace h:=Aa h b;replace i:=Aa i b;replace j:=Aa j b;clear b))
 go_ret;exact⟨rfl,g.out⟩
theorem Uy (nm:List UInt8) (x:Nat) (a:Option Addr) (n cap:Nat) (z:Nat×Nat) (d:Nat) (W:World) (_hl:n<=8796093022208) (g:d<=200)
  (f:∀i,CB 74 #[nv 35 nm x (.slice a n cap) z.1 z.2] i true)
  (h:CA 53 #[.string ⟨nm.toArray⟩] W true)
  (e:¬ n=2):CB 75 #[nv 35 nm x (.slice a n cap) z.1 z.2,.int .i64 d] W (false):=by
 cases nm with
 | nil=>exact Qr x a n cap z d W _hl g f h e
 | cons b c=>exact Qs b c x a n cap z d W _hl g f h e
theorem WB (x:Nat) (a:Option Addr) (n cap:Nat) (z:Nat×Nat) (d:Nat) (W:World) (_hl:n<=8796093022208) (m:d<=200)
  (j:∀k,CB 74 #[nv 36 [] x (.slice a n cap) z.1 z.2] k true)
   : CB 75 #[nv 36 [] x (.slice a n cap) z.1 z.2,.int .i64 d] W (decide (n=0)):=by
 obtain⟨c,e,f,g,-,-⟩:=Xl W 36 [] x (.slice a n cap) z.1 z.2;have i:=aA j;clear j;by_cases h:n=0
 ·(first | subst h | skip)
  unfold CB nv
  go_in
  go_wp2_with (first | (go_at_call 74;refine ck (i.out _) c c.out.size ?_;clear c;intro l b c;replace e:=Aa e b;replace f:=Aa f b;replace g:=Aa g b;clear b))
  go_ret;exact⟨by simp[*],c.out⟩
 skip
 unfold CB nv
 go_in
 go_wp2_with (first | (go_at_call 74;refine ck (i.out _) c c.out.size ?_;clear c;intro l b c;replace e:=Aa e b;replace f:=Aa f b;replace g:=Aa g b;clear b))
 go_ret;exact⟨by simp[*],c.out⟩
theorem WC (x:Nat) (a:Option Addr) (n cap:Nat) (z:Nat×Nat) (d:Nat) (W:World) (_hl:n<=8796093022208) (m:d<=200)
  (j:∀k,CB 74 #[nv 37 [] x (.slice a n cap) z.1 z.2] k true)
   : CB 75 #[nv 37 [] x (.slice a n cap) z.1 z.2,.int .i64 d] W (decide (n=0)):=by
 obtain⟨c,e,f,g,-,-⟩:=Xl W 37 [] x (.slice a n cap) z.1 z.2;have i:=aA j;clear j;by_cases h:n=0
 ·(first | subst h | skip)
  unfold CB nv
  go_in
  go_wp2_with (first | (go_at_call 74;refine ck (i.out _) c c.out.size ?_;clear c;intro l b c;replace e:=Aa e b;replace f:=Aa f b;replace g:=Aa g b;clear b))
  go_ret;exact⟨by simp[*],c.out⟩
 skip
 unfold CB nv
 go_in
 go_wp2_with (first | (go_at_call 74;refine ck (i.out _) c c.out.size ?_;clear c;intro l b c;replace e:=Aa e b;replace f:=Aa f b;replace g:=Aa g b;clear b))
 go_ret;exact⟨by simp[*],c.out⟩
theorem WD (x:Nat) (a:Option Addr) (n cap:Nat) (z:Nat×Nat) (d:Nat) (W:World) (_hl:n<=8796093022208) (m:d<=200)
  (j:∀k,CB 74 #[nv 38 [] x (.slice a n cap) z.1 z.2] k true)
   : CB 75 #[nv 38 [] x (.slice a n cap) z.1 z.2,.int .i64 d] W (decide (n=0)):=by
 obtain⟨c,e,f,g,-,-⟩:=Xl W 38 [] x (.slice a n cap) z.1 z.2;have i:=aA j;clear j;by_cases h:n=0
 ·(first | subst h | skip)
  unfold CB nv
  go_in
  go_wp2_with (first | (go_at_call 74;refine ck (i.out _) c c.out.size ?_;clear c;intro l b c;replace e:=Aa e b;replace f:=Aa f b;replace g:=Aa g b;clear b))
  go_ret;exact⟨by simp[*],c.out⟩
 skip
 unfold CB nv
 go_in
 go_wp2_with (first | (go_at_call 74;refine ck (i.out _) c c.out.size ?_;clear c;intro l b c;replace e:=Aa e b;replace f:=Aa f b;replace g:=Aa g b;clear b))
 go_ret;exact⟨by simp[*],c.out⟩
theorem WE (v:Bool) (x:Nat) (a:Option Addr) (n cap:Nat) (z:Nat×Nat) (d:Nat) (W:World) (_hl:n<=8796093022208) (p:d<=200)
  (l:∀o,CB 74 #[nv 39 [] x (.slice a n cap) z.1 z.2] o true)
  (m:CA 51 #[.slice a n cap,.int .i64 ((d:Int)+1)] W v)
   : CB 75 #[nv 39 [] x (.slice a n cap) z.1 z.2,.int .i64 d] W (decide (n<=1)&&v):=by
 obtain⟨c,e,f,g,-,-⟩:=Xl W 39 [] x (.slice a n cap) z.1 z.2;have j:=aA l;clear l;have k:=aA m;clear m;by_cases h:n<=1
 ·(first | subst h | skip)
  unfold CB nv
  go_in
  go_wp2_with (first | (go_at_call 74;refine ck (j.out _) c c.out.size ?_;clear c;intro i b c;replace e:=Aa e b;replace f:=Aa f b;replace g:=Aa g b;clear b) | (go_at_call 51;refine ck (k.out _ c.out) c c.out.size ?_;clear c;intro i b c;replace e:=Aa e b;replace f:=Aa f b;replace g:=Aa g b;clear b))
  go_ret;exact⟨by simp[*],c.out⟩
 skip
 unfold CB nv
 go_in
 go_wp2_with (first | (go_at_call 74;refine ck (j.out _) c c.out.size ?_;clear c;intro i b c;replace e:=Aa e b;replace f:=Aa f b;replace g:=Aa g b;clear b) | (go_at_call 51;refine ck (k.out _ c.out) c c.out.size ?_;clear c;intro i b c;replace e:=Aa e b;replace f:=Aa f b;replace g:=Aa g b;clear b))
 go_ret;exact⟨by simp[*],c.out⟩
theorem WF (v:Bool) (x:Nat) (a:Option Addr) (n cap:Nat) (z:Nat×Nat) (d:Nat) (W:World) (_hl:n<=8796093022208) (p:d<=200)
  (l:∀o,CB 74 #[nv 40 [] x (.slice a n cap) z.1 z.2] o true)
  (m:CA 51 #[.slice a n cap,.int .i64 ((d:Int)+1)] W v)
   : CB 75 #[nv 40 [] x (.slice a n cap) z.1 z.2,.int .i64 d] W (decide (n<=1)&&v):=by
 obtain⟨c,e,f,g,-,-⟩:=Xl W 40 [] x (.slice a n cap) z.1 z.2;have j:=aA l;clear l;have k:=aA m;clear m;by_cases h:n<=1
 ·(first | subst h | skip)
  unfold CB nv
  go_in
  go_wp2_with (first | (go_at_call 74;refine ck (j.out _) c c.out.size ?_;clear c;intro i b c;replace e:=Aa e b;replace f:=Aa f b;replace g:=Aa g b;clear b) | (go_at_call 51;refine ck (k.out _ c.out) c c.out.size ?_;clear c;intro i b c;replace e:=Aa e b;replace f:=Aa f b;replace g:=Aa g b;clear b))
  go_ret;exact⟨by simp[*],c.out⟩
 skip
 unfold CB nv
 go_in
 go_wp2_with (first | (go_at_call 74;refine ck (j.out _) c c.out.size ?_;clear c;intro i b c;replace e:=Aa e b;replace f:=Aa f b;replace g:=Aa g b;clear b) | (go_at_call 51;refine ck (k.out _ c.out) c c.out.size ?_;clear c;intro i b c;replace e:=Aa e b;replace f:=Aa f b;replace g:=Aa g b;clear b))
 go_ret;exact⟨by simp[*],c.out⟩
theorem Qx (x:Nat) (a:Option Addr) (n cap:Nat) (z:Nat×Nat) (d:Nat) (W:World) (_hl:n<=8796093022208) (o:d<=200)
  (h:∀l,CB 74 #[nv 41 [] x (.slice a n cap) z.1 z.2] l true)
  (i:CA 53 #[.string ⟨[].toArray⟩] W false)
   : CB 75 #[nv 41 [] x (.slice a n cap) z.1 z.2,.int .i64 d] W (false):=by
 obtain⟨c,e,f,g,-,-⟩:=Xl W 41 [] x (.slice a n cap) z.1 z.2;have j:=aA h;clear h;have k:=aA i;clear i;unfold CB nv
 go_in
 go_wp2_with (first | (go_at_call 74;refine ck (j.out _) c c.out.size ?_;clear c;intro m b c;replace e:=Aa e b;replace f:=Aa f b;replace g:=Aa g b;clear b) | (go_at_call 53;refine ck (k.out _ c.out) c c.out.size ?_;clear c;intro m b c;replace e:=Aa e b;replace f:=Aa f b;replace g:=Aa g b;clear b))
 go_ret;exact⟨rfl,c.out⟩
theorem Qy (e:UInt8) (f:List UInt8) (x:Nat) (a:Option Addr) (n cap:Nat) (z:Nat×Nat) (d:Nat) (W:World) (_hl:n<=8796093022208) (t:d<=200)
  (k:∀p,CB 74 #[nv 41 (e::f) x (.slice a n cap) z.1 z.2] p true)
  (l:CA 53 #[.string ⟨(e::f).toArray⟩] W false)
   : CB 75 #[nv 41 (e::f) x (.slice a n cap) z.1 z.2,.int .i64 d] W (false):=by
 obtain⟨g,h,i,j,-,-⟩:=Xl W 41 (e::f) x (.slice a n cap) z.1 z.2;have m:=aA k;clear k;have o:=aA l;clear l;have q:=Ex (c:=e) (r:=f);unfold CB nv
 go_in
 go_wp2_with (first | (go_at_call 74;refine ck (m.out _) g g.out.size ?_;clear g;intro s b g;replace h:=Aa h b;replace i:=Aa i b;replace j:=Aa j b;clear b) | (go_at_call 53;refine ck (o.out _ g.out) g g.out.size ?_;clear g;intro s b g;replace h:=Aa h b;replace i:=Aa i b;replace j:=Aa j b;clear b))
 go_ret;exact⟨rfl,g.out⟩
theorem UE (nm:List UInt8) (x:Nat) (a:Option Addr) (n cap:Nat) (z:Nat×Nat) (d:Nat) (W:World) (_hl:n<=8796093022208) (f:d<=200)
  (e:∀h,CB 74 #[nv 41 nm x (.slice a n cap) z.1 z.2] h true)
  (g:CA 53 #[.string ⟨nm.toArray⟩] W false)
   : CB 75 #[nv 41 nm x (.slice a n cap) z.1 z.2,.int .i64 d] W (false):=by
 cases nm with
 | nil=>exact Qx x a n cap z d W _hl f e g
 | cons b c=>exact Qy b c x a n cap z d W _hl f e g
theorem UC (v:Bool) (x:Nat) (a:Option Addr) (n cap:Nat) (z:Nat×Nat) (d:Nat) (W:World) (_hl:n<=8796093022208) (q:d<=200)
  (h:∀p,CB 74 #[nv 41 [] x (.slice a n cap) z.1 z.2] p true)
  (i:CA 53 #[.string ⟨[].toArray⟩] W true)
  (j:CA 51 #[.slice a n cap,.int .i64 ((d:Int)+1)] W v)
   : CB 75 #[nv 41 [] x (.slice a n cap) z.1 z.2,.int .i64 d] W (v):=by
 obtain⟨c,e,f,g,-,-⟩:=Xl W 41 [] x (.slice a n cap) z.1 z.2;have l:=aA h;clear h;have m:=aA i;clear i;have o:=aA j;clear j;unfold CB nv
 go_in
 go_wp2_with (first | (go_at_call 74;refine ck (l.out _) c c.out.size ?_;clear c;intro k b c;replace e:=Aa e b;replace f:=Aa f b;replace g:=Aa g b;clear b) | (go_at_call 53;refine ck (m.out _ c.out) c c.out.size ?_;clear c;intro k b c;replace e:=Aa e b;replace f:=Aa f b;replace g:=Aa g b;clear b) | (go_at_call 51;refine ck (o.out _ c.out) c c.out.size ?_;clear c;intro k b c;replace e:=Aa e b;replace f:=Aa f b;replace g:=Aa g b;clear b))
 go_ret;exact⟨rfl,c.out⟩
theorem UD (f:UInt8) (g:List UInt8) (v:Bool) (x:Nat) (a:Option Addr) (n cap:Nat) (z:Nat×Nat) (d:Nat) (W:World) (_hl:n<=8796093022208) (w:d<=200)
  (k:∀t,CB 74 #[nv 41 (f::g) x (.slice a n cap) z.1 z.2] t true)
  (l:CA 53 #[.string ⟨(f::g).toArray⟩] W true)
  (m:CA 51 #[.slice a n cap,.int .i64 ((d:Int)+1)] W v)
   : CB 75 #[nv 41 (f::g) x (.slice a n cap) z.1 z.2,.int .i64 d] W (v):=by
 obtain⟨e,h,i,j,-,-⟩:=Xl W 41 (f::g) x (.slice a n cap) z.1 z.2;have p:=aA k;clear k;have q:=aA l;clear l;have s:=aA m;clear m;have u:=Ex (c:=f) (r:=g);unfold CB nv
 go_in
 go_wp2_with (first | (go_at_call 74;refine ck (p.out _) e e.out.size ?_;clear e;intro o b e;replace h:=Aa h b;replace i:=Aa i b;replace j:=Aa j b;clear b) | (go_at_call 53;refine ck (q.out _ e.out) e e.out.size ?_;clear e;intro o b e;replace h:=Aa h b;replace i:=Aa i b;replace j:=Aa j b;clear b) | (go_at_call 51;refine ck (s.out _ e.out) e e.out.size ?_;clear e;intro o b e;replace h:=Aa h b;replace i:=Aa i b;replace j:=Aa j b;clear b))
 go_ret;exact⟨rfl,e.out⟩
theorem WG (nm:List UInt8) (v:Bool) (x:Nat) (a:Option Addr) (n cap:Nat) (z:Nat×Nat) (d:Nat) (W:World) (_hl:n<=8796093022208) (f:d<=200)
  (e:∀i,CB 74 #[nv 41 nm x (.slice a n cap) z.1 z.2] i true)
  (g:CA 53 #[.string ⟨nm.toArray⟩] W true)
  (h:CA 51 #[.slice a n cap,.int .i64 ((d:Int)+1)] W v)
   : CB 75 #[nv 41 nm x (.slice a n cap) z.1 z.2,.int .i64 d] W (v):=by
 cases nm with
 | nil=>exact UC v x a n cap z d W _hl f e g h
 | cons b c=>exact UD b c v x a n cap z d W _hl f e g h
theorem WH (v:Bool) (x:Nat) (a:Option Addr) (n cap:Nat) (z:Nat×Nat) (d:Nat) (W:World) (_hl:n<=8796093022208) (o:d<=200)
  (h:∀l,CB 74 #[nv 42 [] x (.slice a n cap) z.1 z.2] l true)
  (i:CA 51 #[.slice a n cap,.int .i64 ((d:Int)+1)] W v)
   : CB 75 #[nv 42 [] x (.slice a n cap) z.1 z.2,.int .i64 d] W (v):=by
 obtain⟨c,e,f,g,-,-⟩:=Xl W 42 [] x (.slice a n cap) z.1 z.2;have j:=aA h;clear h;have k:=aA i;clear i;unfold CB nv
 go_in
 go_wp2_with (first | (go_at_call 74;refine ck (j.out _) c c.out.size ?_;clear c;intro m b c;replace e:=Aa e b;replace f:=Aa f b;replace g:=Aa g b;clear b) | (go_at_call 51;refine ck (k.out _ c.out) c c.out.size ?_;clear c;intro m b c;replace e:=Aa e b;replace f:=Aa f b;replace g:=Aa g b;clear b))
 go_ret;exact⟨rfl,c.out⟩
theorem WI (v:Bool) (x:Nat) (a:Option Addr) (n cap:Nat) (z:Nat×Nat) (d:Nat) (W:World) (_hl:n<=8796093022208) (p:d<=200)
  (l:∀o,CB 74 #[nv 43 [] x (.slice a n cap) z.1 z.2] o true)
  (m:CA 51 #[.slice a n cap,.int .i64 ((d:Int)+1)] W v)
   : CB 75 #[nv 43 [] x (.slice a n cap) z.1 z.2,.int .i64 d] W (decide (1<=n)&&v):=by
 obtain⟨c,e,f,g,-,-⟩:=Xl W 43 [] x (.slice a n cap) z.1 z.2;have j:=aA l;clear l;have k:=aA m;clear m;by_cases h:1<=n
 ·(first | subst h | skip)
  unfold CB nv
  go_in
  go_wp2_with (first | (go_at_call 74;refine ck (j.out _) c c.out.size ?_;clear c;intro i b c;replace e:=Aa e b;replace f:=Aa f b;replace g:=Aa g b;clear b) | (go_at_call 51;refine ck (k.out _ c.out) c c.out.size ?_;clear c;intro i b c;replace e:=Aa e b;replace f:=Aa f b;replace g:=Aa g b;clear b))
  go_ret;exact⟨by simp[*],c.out⟩
 skip
 unfold CB nv
 go_in
 go_wp2_with (first | (go_at_call 74;refine ck (j.out _) c c.out.size ?_;clear c;intro i b c;replace e:=Aa e b;replace f:=Aa f b;replace g:=Aa g b;clear b) | (go_at_call 51;refine ck (k.out _ c.out) c c.out.size ?_;clear c;intro i b c;replace e:=Aa e b;replace f:=Aa f b;replace g:=Aa g b;clear b))
 go_ret;exact⟨by simp[*],c.out⟩
theorem WJ (v:Bool) (x:Nat) (a:Option Addr) (n cap:Nat) (z:Nat×Nat) (d:Nat) (W:World) (_hl:n<=8796093022208) (p:d<=200)
  (l:∀o,CB 74 #[nv 44 [] x (.slice a n cap) z.1 z.2] o true)
  (m:CA 51 #[.slice a n cap,.int .i64 ((d:Int)+1)] W v)
   : CB 75 #[nv 44 [] x (.slice a n cap) z.1 z.2,.int .i64 d] W (decide (n=1)&&v):=by
 obtain⟨c,e,f,g,-,-⟩:=Xl W 44 [] x (.slice a n cap) z.1 z.2;have j:=aA l;clear l;have k:=aA m;clear m;by_cases h:n=1
 ·(first | subst h | skip)
  unfold CB nv
  go_in
  go_wp2_with (first | (go_at_call 74;refine ck (j.out _) c c.out.size ?_;clear c;intro i b c;replace e:=Aa e b;replace f:=Aa f b;replace g:=Aa g b;clear b) | (go_at_call 51;refine ck (k.out _ c.out) c c.out.size ?_;clear c;intro i b c;replace e:=Aa e b;replace f:=Aa f b;replace g:=Aa g b;clear b))
  go_ret;exact⟨by simp[*],c.out⟩
 skip
 unfold CB nv
 go_in
 go_wp2_with (first | (go_at_call 74;refine ck (j.out _) c c.out.size ?_;clear c;intro i b c;replace e:=Aa e b;replace f:=Aa f b;replace g:=Aa g b;clear b) | (go_at_call 51;refine ck (k.out _ c.out) c c.out.size ?_;clear c;intro i b c;replace e:=Aa e b;replace f:=Aa f b;replace g:=Aa g b;clear b))
 go_ret;exact⟨by simp[*],c.out⟩
theorem Qv (x b cap:Nat) (z:Nat×Nat) (d:Nat) (W:World) (s:d<=200) (m:Int) (c:W.cell? ⟨b,0,none⟩=some (.int .i64 m)) (r:¬ m=4)
  (k:∀g,CB 74 #[nv 35 [] x (.slice (some ⟨b,0,none⟩) 2 cap) z.1 z.2] g true)
  (l:∀g,Calls prog 53 #[.string ⟨[].toArray⟩] g fun e p=>e = .returned (.bool true)/\g=p) :
  CB 75 #[nv 35 [] x (.slice (some ⟨b,0,none⟩) 2 cap) z.1 z.2,.int .i64 d] W (false):=by
 obtain⟨f,h,i,j,-,-⟩:=Xl W 35 [] x (.slice (some ⟨b,0,none⟩) 2 cap) z.1 z.2;replace c:=Aa c f.out;have o:=aA k;have n:=aA l;clear k l;unfold CB nv
 go_in
 go_wp2_with (first | (go_at_call 74;refine ck (o.out _) f f.out.size ?_;clear f;intro q a f;replace h:=Aa h a;replace i:=Aa i a;replace j:=Aa j a;replace c:=Aa c a;clear a) | (go_at_call 53;refine(n.out _).mono ?_;rintro e q ⟨rfl,rfl⟩))
 go_ret;exact⟨rfl,f.out⟩
theorem Qw (a:UInt8) (g:List UInt8) (x b cap:Nat) (z:Nat×Nat) (d:Nat) (W:World) (y:d<=200) (p:Int) (h:W.cell? ⟨b,0,none⟩=some (.int .i64 p)) (w:¬ p=4)
  (n:∀j,CB 74 #[nv 35 (a::g) x (.slice (some ⟨b,0,none⟩) 2 cap) z.1 z.2] j true)
  (o:∀j,Calls prog 53 #[.string ⟨(a::g).toArray⟩] j fun e u=>e = .returned (.bool true)/\j=u) :
  CB 75 #[nv 35 (a::g) x (.slice (some ⟨b,0,none⟩) 2 cap) z.1 z.2,.int .i64 d] W (false):=by
 obtain⟨i,k,l,m,-,-⟩:=Xl W 35 (a::g) x (.slice (some ⟨b,0,none⟩) 2 cap) z.1 z.2;replace h:=Aa h i.out;have t:=Ex (c:=a) (r:=g);have s:=aA n;have q:=aA o;clear n o;unfold CB nv
 go_in
 go_wp2_with (first | (go_at_call 74;refine ck (s.out _) i i.out.size ?_;clear i;intro v f i;replace k:=Aa k f;replace l:=Aa l f;replace m:=Aa m f;replace h:=Aa h f;clear f) | (go_at_call 53;refine(q.out _).mono ?_;rintro e v ⟨rfl,rfl⟩))
 go_ret;exact⟨rfl,i.out⟩
theorem UB (nm:List UInt8) (x b cap:Nat) (z:Nat×Nat) (d:Nat) (W:World) (k:d<=200) (f:Int) (a:W.cell? ⟨b,0,none⟩=some (.int .i64 f)) (i:¬ f=4)
  (j:∀c,CB 74 #[nv 35 nm x (.slice (some ⟨b,0,none⟩) 2 cap) z.1 z.2] c true)
  (l:∀c,Calls prog 53 #[.string ⟨nm.toArray⟩] c fun e m=>e = .returned (.bool true)/\c=m) :
  CB 75 #[nv 35 nm x (.slice (some ⟨b,0,none⟩) 2 cap) z.1 z.2,.int .i64 d] W (false):=by
 cases nm with
 | nil=>exact Qv x b cap z d W k f a i j l
 | cons g h=>exact Qw g h x b cap z d W k f a i j l
end Go.Proofs.YtipfpohlnhmlpaaGreatDoor
