/- Bm -/
import Derived.Test.YtjolfpcpcaocmaaGreatDoorBj
set_option maxRecDepth 100000
set_option maxHeartbeats 2000000
open Go.Lib renaming hid->aA
namespace Go.Proofs.YtjolfpcpcaocmaaGreatDoor
open Go.Proofs.Tryz
open Go.RowKit
theorem Y2 {t:Tk} {b:Bool} (h:I0 t=b) (w:World) :
 Calls prog 56 #[.agg #[.int .i64 t.kd,.string ⟨t.tx.toArray⟩,.float .f64 t.nm,.int .i64 t.f,.int .i64 t.t]] w fun e a=>e = .returned (.bool b)/\Below w.heap.size w a:=h▸PV t w
structure Uf (W:World) (b:Nat) (t:Tk) (w:World):Prop where
 t:C5 w b (.int .i64 t.kd) (.string ⟨t.tx.toArray⟩) (.float .f64 t.nm) (.int .i64 t.f) (.int .i64 t.t)
 b:Below W.heap.size W w
theorem Uf.keep {W w w':World} {b:Nat} {t:Tk} (h:Uf W b t w) (a:Below w.heap.size w w'):Uf W b t w':=⟨h.t.below a,h.b.trans (a.mono h.b.size)⟩
theorem Uf.start (W:World) (t:Tk) (T:TypeId):Uf W W.heap.size t (W.alloc (.cells #[.int .i64 t.kd,.string ⟨t.tx.toArray⟩,.float .f64 t.nm,.int .i64 t.f,.int .i64 t.t] T)):=⟨C5.new _ _ _ _ _ _ _,Ad _ _⟩
theorem YA (t:Tk) (W:World):Calls prog 124 #[G1 t] W fun e w=>e = .returned (.bool (O3 t))/\Below W.heap.size W w:=by
 have c:=aA (Uf.start W t 49);obtain⟨v,l⟩:∃v,O3 t=v:=⟨_,rfl⟩;rw[l];unfold O3 at l;unfold G1;obtain⟨b0,q⟩:∃b,I0 t=b:=⟨_,rfl⟩;have m:=aA (Y2 q);rw[q] at l;obtain⟨b1,r⟩:∃b,EP t [43]=b:=⟨_,rfl⟩;have n:=aA (F5 r);rw[r] at l;obtain⟨b2,s⟩:∃b,EP t [45]=b:=⟨_,rfl⟩;have o:=aA (F5 s);rw[s] at l;obtain⟨b3,u⟩:∃b,EP t [33]=b:=⟨_,rfl⟩;have p:=aA (F5 u);rw[u] at l;clear q r s u;obtain⟨d,f,g,h,i,j⟩:=c.out.t
 cases b0 with
 | false =>
   obtain rfl:v=false:=by rw[<- l];rfl
   clear l
   go_in
   go_wp2_with (first | (go_at_call 56;(with_reducible refine(m.out _).mono ?_);rintro e k ⟨rfl,a⟩;clear d f g h i j;replace c:=aA (c.out.keep a);clear a;obtain⟨d,f,g,h,i,j⟩:=c.out.t) | (go_at_call 12;(with_reducible refine(n.out _).mono ?_);rintro e k ⟨rfl,a⟩;clear d f g h i j;replace c:=aA (c.out.keep a);clear a;obtain⟨d,f,g,h,i,j⟩:=c.out.t) | (go_at_call 12;(with_reducible refine(o.out _).mono ?_);rintro e k ⟨rfl,a⟩;clear d f g h i j;replace c:=aA (c.out.keep a);clear a;obtain⟨d,f,g,h,i,j⟩:=c.out.t) | (go_at_call 12;(with_reducible refine(p.out _).mono ?_);rintro e k ⟨rfl,a⟩;clear d f g h i j;replace c:=aA (c.out.keep a);clear a;obtain⟨d,f,g,h,i,j⟩:=c.out.t))
   go_ret;exact⟨rfl,c.out.b⟩
 | true =>
   cases b1 with
   | true =>
     obtain rfl:v=false:=by rw[<- l];rfl
     clear l
     go_in
     go_wp2_with (first | (go_at_call 56;(with_reducible refine(m.out _).mono ?_);rintro e k ⟨rfl,a⟩;clear d f g h i j;replace c:=aA (c.out.keep a);clear a;obtain⟨d,f,g,h,i,j⟩:=c.out.t) | (go_at_call 12;(with_reducible refine(n.out _).mono ?_);rintro e k ⟨rfl,a⟩;clear d f g h i j;replace c:=aA (c.out.keep a);clear a;obtain⟨d,f,g,h,i,j⟩:=c.out.t) | (go_at_call 12;(with_reducible refine(o.out _).mono ?_);rintro e k ⟨rfl,a⟩;clear d f g h i j;replace c:=aA (c.out.keep a);clear a;obtain⟨d,f,g,h,i,j⟩:=c.out.t) | (go_at_call 12;(with_reducible refine(p.out _).mono ?_);rintro e k ⟨rfl,a⟩;clear d f g h i j;replace c:=aA (c.out.keep a);clear a;obtain⟨d,f,g,h,i,j⟩:=c.out.t))
     go_ret;exact⟨rfl,c.out.b⟩
   | false =>
     cases b2 with
     | true =>
       obtain rfl:v=false:=by rw[<- l];rfl
       clear l
       go_in
       go_wp2_with (first | (go_at_call 56;(with_reducible refine(m.out _).mono ?_);rintro e k ⟨rfl,a⟩;clear d f g h i j;replace c:=aA (c.out.keep a);clear a;obtain⟨d,f,g,h,i,j⟩:=c.out.t) | (go_at_call 12;(with_reducible refine(n.out _).mono ?_);rintro e k ⟨rfl,a⟩;clear d f g h i j;replace c:=aA (c.out.keep a);clear a;obtain⟨d,f,g,h,i,j⟩:=c.out.t) | (go_at_call 12;(with_reducible refine(o.out _).mono ?_);rintro e k ⟨rfl,a⟩;clear d f g h i j;replace c:=aA (c.out.keep a);clear a;obtain⟨d,f,g,h,i,j⟩:=c.out.t) | (go_at_call 12;(with_reducible refine(p.out _).mono ?_);rintro e k ⟨rfl,a⟩;clear d f g h i j;replace c:=aA (c.out.keep a);clear a;obtain⟨d,f,g,h,i,j⟩:=c.out.t))
       go_ret;exact⟨rfl,c.out.b⟩
     | false =>
       cases b3 with
       | true =>
         obtain rfl:v=false:=by rw[<- l];rfl
         clear l
         go_in
         go_wp2_with (first | (go_at_call 56;(with_reducible refine(m.out _).mono ?_);rintro e k ⟨rfl,a⟩;clear d f g h i j;replace c:=aA (c.out.keep a);clear a;obtain⟨d,f,g,h,i,j⟩:=c.out.t) | (go_at_call 12;(with_reducible refine(n.out _).mono ?_);rintro e k ⟨rfl,a⟩;clear d f g h i j;replace c:=aA (c.out.keep a);clear a;obtain⟨d,f,g,h,i,j⟩:=c.out.t) | (go_at_call 12;(with_reducible refine(o.out _).mono ?_);rintro e k ⟨rfl,a⟩;clear d f g h i j;replace c:=aA (c.out.keep a);clear a;obtain⟨d,f,g,h,i,j⟩:=c.out.t) | (go_at_call 12;(with_reducible refine(p.out _).mono ?_);rintro e k ⟨rfl,a⟩;clear d f g h i j;replace c:=aA (c.out.keep a);clear a;obtain⟨d,f,g,h,i,j⟩:=c.out.t))
         go_ret;exact⟨rfl,c.out.b⟩
       | false =>
         obtain rfl:v=true:=by rw[<- l];rfl
         clear l
         go_in
         go_wp2_with (first | (go_at_call 56;(with_reducible refine(m.out _).mono ?_);rintro e k ⟨rfl,a⟩;clear d f g h i j;replace c:=aA (c.out.keep a);clear a;obtain⟨d,f,g,h,i,j⟩:=c.out.t) | (go_at_call 12;(with_reducible refine(n.out _).mono ?_);rintro e k ⟨rfl,a⟩;clear d f g h i j;replace c:=aA (c.out.keep a);clear a;obtain⟨d,f,g,h,i,j⟩:=c.out.t) | (go_at_call 12;(with_reducible refine(o.out _).mono ?_);rintro e k ⟨rfl,a⟩;clear d f g h i j;replace c:=aA (c.out.keep a);clear a;obtain⟨d,f,g,h,i,j⟩:=c.out.t) | (go_at_call 12;(with_reducible refine(p.out _).mono ?_);rintro e k ⟨rfl,a⟩;clear d f g h i j;replace c:=aA (c.out.keep a);clear a;obtain⟨d,f,g,h,i,j⟩:=c.out.t))
         go_ret;exact⟨rfl,c.out.b⟩
end Go.Proofs.YtjolfpcpcaocmaaGreatDoor
