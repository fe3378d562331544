/- Od Oe Of -/
import Derived.Test.YtfblenhlildnaaaGreatDoorLz
import Derived.Test.YtfblenhlildnaaaGreatDoorDp
import Derived.Test.YtfblenhlildnaaaGreatDoorCa
import Derived.Deep.AppendLies
set_option maxRecDepth 100000
set_option maxHeartbeats 4000000
open Go.Lib renaming hid->aA
open Nat renaming lt_of_lt_of_le->aB,le_refl->aC
namespace Go.Proofs.YtfblenhlildnaaaGreatDoor
open Go.Proofs.Tryz
open Go.RowKit
section
variable {w0 W V w w':World} {q B b:Nat} {s:ByteArray} {p:Rs} {l:List B5} {ks:List (List Tr×Value)} {v0 v1 v2 v3 v4 v5 v6 v7 v8:Value}
theorem Fr.box9 (h:Fr w0 W q B s p l ks w) (v0 v1 v2 v3 v4 v5 v6 v7 v8:Value) (T:TypeId):Fr w0 W q B s p (⟨w.heap.size,v0,v1,v2,v3,v4⟩::l) ks (w.alloc (.cells #[v0,v1,v2,v3,v4,v5,v6,v7,v8] T)) :=
 let g:=h.quiet (Ad w (.cells #[v0,v1,v2,v3,v4,v5,v6,v7,v8] T))
 ⟨g.z,g.o,g.hq,g.hw,g.hB,fun x a=>by rcases List.mem_cons.1 a with rfl | a;exact⟨h.o.size,(CN.new w [v0,v1,v2,v3,v4,v5,v6,v7,v8] T).c5⟩;exact g.b x a,
   fun x a=>((h.k x a).mono (S':=Av B (⟨w.heap.size,v0,v1,v2,v3,v4⟩::l)) fun j f e=>⟨e.1,fun y c=>by rcases List.mem_cons.1 c with rfl | c;exact Nat.ne_of_lt f;exact e.2 y c⟩).bel (Ad _ _),List.pairwise_cons.2 ⟨fun y c=>h.new y c,h.d⟩⟩
def AfZ (w0:World) (q:Nat) (s:ByteArray) (W:World) (u:Rl) (a:Rs) (v:Value) (w':World):Prop :=
 (∃kv,v = .tuple #[Zh u (.slice none 0 0) kv,.bool true]/\u.ps=[]/\Am 42 w' (W.heap.size <= ·) u.b.ks kv)/\Rz w0 q s a w'
theorem Fr.done9 (h:Fr w0 V q B s p l ks w) (f:V.heap.size=B) (o:Ae q W V) (i:W.heap.size<V.heap.size) (n:q<W.heap.size) (m:w0.heap.size<=W.heap.size) {u:Rl} {kv:Value} (a:u.ps=[]) (g:(u.b.ks,kv)∈ks) (u0 u1 u2 u3 u4 u5 u6 u7 u8:Value) {r:RO Rl} (d:Hid (.ok u p=r)) :
  AbJ q W r (AfZ w0 q s W) (.returned (.tuple #[Zh u (.slice none 0 0) kv,.bool true])) (((((((((w.setCell ⟨W.heap.size,0,none⟩ u0).setCell ⟨W.heap.size,1,none⟩ u1).setCell ⟨W.heap.size,2,none⟩ u2).setCell ⟨W.heap.size,3,none⟩ u3).setCell ⟨W.heap.size,4,none⟩ u4).setCell ⟨W.heap.size,5,none⟩ u5).setCell ⟨W.heap.size,6,none⟩ u6).setCell ⟨W.heap.size,7,none⟩ u7).setCell ⟨W.heap.size,8,none⟩ u8):=by
 subst f;have c:=YG w W.heap.size u0 u1 u2 u3 u4 u5 u6 u7 u8;exact Abx d ⟨⟨kv,rfl,a,((h.k _ g).only c (fun e=>by have:=e.1;omega)).mono fun j _ e=>Nat.le_trans (Nat.le_of_lt i) e.1⟩,h.z.other c m (by omega)⟩ ((o.trans h.o).under c (aC _))
end
set_option linter.unusedSimpArgs false in
theorem AgC {nx:Nat->Bool->Tk} {pl:Nat->Nat×Nat} {ere:List UInt8->Option Bool} {w0:World} {q:Nat} {s:ByteArray} (hN:RxC nx s w0) (hP:RlC pl s) (n:Nat)
  (hB:SR nx pl ere w0 q s n .block 91) (hW:NoW nx) (p:Rs) (W:World) (h:Rz w0 q s p W) (hi:isR nx [123] p = .ok true p) (T:((Abo nx pl true p).bind fun h s=>(Aaq nx pl ere n .block s).bind fun l s => .ok (⟨5,0,[],hd1 l,h.2⟩:Rl) s) ≠ .hush) :
  Calls prog 53 #[.pointer (some ⟨q,0,none⟩)] W (AbJ q W ((Abo nx pl true p).bind fun h s=>(Aaq nx pl ere n .block s).bind fun l s => .ok (⟨5,0,[],hd1 l,h.2⟩:Rl) s) (AfZ w0 q s W)):=by
 obtain⟨r,Z⟩:∃r,((Abo nx pl true p).bind fun h s=>(Aaq nx pl ere n .block s).bind fun l s => .ok (⟨5,0,[],hd1 l,h.2⟩:Rl) s)=r:=⟨_,rfl⟩;rw[Z] at T ⊢;have K:=aA Z;have b0:W.heap.size≠q:=by have:=h.lt;omega
 have H:∀(w:World) (o:Obj),(w.alloc o).heap.size=w.heap.size+1:=fun w o=>by simp
 have E0:∀(w:World),(w.alloc (.cells #[.int .i64 0,.int .i64 0,.slice none 0 0,.int .i64 0,.string ⟨#[]⟩,.float .f64 0,.slice none 0 0,.complex .f64 0 0,.complex .f64 0 0] 44)).heap.size=w.heap.size+1:=fun w=>H w _;have X:=aA (And.intro h.lt h.below.size);have Q:=aA (CN.new W [.int .i64 0,.int .i64 0,.slice none 0 0,.int .i64 0,.string ⟨#[]⟩,.float .f64 0,.slice none 0 0,.complex .f64 0 0,.complex .f64 0 0] 44);have d:=aA (Fr.start (h.keep (Ad W (.cells #[.int .i64 0,.int .i64 0,.slice none 0 0,.int .i64 0,.string ⟨#[]⟩,.float .f64 0,.slice none 0 0,.complex .f64 0 0,.complex .f64 0 0] 44))));have L:=aA hN;have P:=aA hP
 have HI:=aA hi;have S:=aA hW;have HB:=aA (fun(p:Rs) (W:World) (h:Rz w0 q s p W) (g:Aaq nx pl ere n .block p ≠ .hush)=>hB p W h g);clear Z h hi hN hP hW hB
 go_in
 go_wp2_with (first | (go_at_call 87;(with_reducible refine(Ab4 L.out P.out d.out.z true).mono ?_);intro e A ha;obtain⟨⟨t,z⟩,p1,v,rfl,⟨⟨rfl,rfl,-⟩,m⟩,j,G⟩:=ha.part K T;replace K:=G;clear G ha;(try dsimp only at K);(try dsimp only);have HO:=aA (((Ae.of_below q (Ad W (.cells #[.int .i64 0,.int .i64 0,.slice none 0 0,.int .i64 0,.string ⟨#[]⟩,.float .f64 0,.slice none 0 0,.complex .f64 0 0,.complex .f64 0 0] 44))).trans j).trans (Ae.of_below q (Ad A (.cells #[.int .i64 t.kd,.string ⟨t.tx.toArray⟩,.float .f64 t.nm,.int .i64 t.f,.int .i64 t.t] 70))));have V:=aA (j.trans (Ae.of_below q (Ad A (.cells #[.int .i64 t.kd,.string ⟨t.tx.toArray⟩,.float .f64 t.nm,.int .i64 t.f,.int .i64 t.t] 70))));have a0:=X.out.1;have R:=j.size;rw[E0 W] at R;have O:(A.alloc (.cells #[.int .i64 t.kd,.string ⟨t.tx.toArray⟩,.float .f64 t.nm,.int .i64 t.f,.int .i64 t.t] 70)).heap.size=A.heap.size+1:=H A _;have Y:=aA (show W.heap.size<(A.alloc (.cells #[.int .i64 t.kd,.string ⟨t.tx.toArray⟩,.float .f64 t.nm,.int .i64 t.f,.int .i64 t.t] 70)).heap.size by rw[O];omega);have B:A.heap.size+1≠q:=(by omega);have I:A.heap.size+1+1≠q:=(by omega);have a:=aA (((CN.new (A.alloc (.cells #[.int .i64 t.kd,.string ⟨t.tx.toArray⟩,.float .f64 t.nm,.int .i64 t.f,.int .i64 t.t] 70)) [.int .i64 0,.int .i64 0,.slice none 0 0,.int .i64 0,.string ⟨#[]⟩,.float .f64 0,.slice none 0 0,.complex .f64 0 0,.complex .f64 z.1 z.2] 44).alloc (.cells #[.string ⟨#[66,69,71,73,78]⟩,.string ⟨#[69,78,68]⟩,.string ⟨#[71,65,80]⟩] 112)).alloc (.cells #[.int .i64 1,.int .i64 2,.int .i64 4] 113));have b:=aA ((CN.new ((A.alloc (.cells #[.int .i64 t.kd,.string ⟨t.tx.toArray⟩,.float .f64 t.nm,.int .i64 t.f,.int .i64 t.t] 70)).alloc (.cells #[.int .i64 0,.int .i64 0,.slice none 0 0,.int .i64 0,.string ⟨#[]⟩,.float .f64 0,.slice none 0 0,.complex .f64 0 0,.complex .f64 z.1 z.2] 44)) [.string ⟨#[66,69,71,73,78]⟩,.string ⟨#[69,78,68]⟩,.string ⟨#[71,65,80]⟩] 112).alloc (.cells #[.int .i64 1,.int .i64 2,.int .i64 4] 113));replace d:=aA ((((Fr.start (m.keep (Ad A (.cells #[.int .i64 t.kd,.string ⟨t.tx.toArray⟩,.float .f64 t.nm,.int .i64 t.f,.int .i64 t.t] 70)))).box9 (.int .i64 0) (.int .i64 0) (.slice none 0 0) (.int .i64 0) (.string ⟨#[]⟩) (.float .f64 0) (.slice none 0 0) (.complex .f64 0 0) (.complex .f64 z.1 z.2) 44).quiet (Ad _ (.cells #[.string ⟨#[66,69,71,73,78]⟩,.string ⟨#[69,78,68]⟩,.string ⟨#[71,65,80]⟩] 112))).quiet (Ad _ (.cells #[.int .i64 1,.int .i64 2,.int .i64 4] 113)));rw[H (A.alloc (.cells #[.int .i64 t.kd,.string ⟨t.tx.toArray⟩,.float .f64 t.nm,.int .i64 t.f,.int .i64 t.t] 70)) (.cells #[.int .i64 0,.int .i64 0,.slice none 0 0,.int .i64 0,.string ⟨#[]⟩,.float .f64 0,.slice none 0 0,.complex .f64 0 0,.complex .f64 z.1 z.2] 44),O] at b;rw[O] at d a;have U:=aA O;clear m j a0 R O;(try clear u0 u1 u2 u3 u4 u5 u6 u7 u8 C);(try clear D E F);have u0:=a.out.c 0 _ rfl;have u1:=a.out.c 1 _ rfl;have u2:=a.out.c 2 _ rfl;have u3:=a.out.c 3 _ rfl;have u4:=a.out.c 4 _ rfl;have u5:=a.out.c 5 _ rfl;have u6:=a.out.c 6 _ rfl;have u7:=a.out.c 7 _ rfl;have u8:=a.out.c 8 _ rfl;have C:=a.out.z;have D:=b.out.c 0 _ rfl;have E:=b.out.c 1 _ rfl;have F:=b.out.c 2 _ rfl;unfold G1))
 clear E0 H
 (try clear u0 u1 u2 u3 u4 u5 u6 u7 u8 C);(try clear D E F)
 go_loopg [9] 4 (fun g v9 wr=>∃i:Nat,g+i=4/\i<=3/\v9 = .int .i64 i/\Hid (Fr w0 (A.alloc (.cells #[.int .i64 t.kd,.string ⟨t.tx.toArray⟩,.float .f64 t.nm,.int .i64 t.f,.int .i64 t.t] 70)) q (A.heap.size+1) s p1 [⟨A.heap.size+1,.int .i64 0,.int .i64 0,.slice none 0 0,.int .i64 0,.string ⟨#[]⟩⟩] [] wr)/\Hid (CN wr (A.heap.size+1) [.int .i64 0,.int .i64 0,.slice none 0 0,.int .i64 0,.string ⟨#[]⟩,.float .f64 0,.slice none 0 0,.complex .f64 0 0,.complex .f64 z.1 z.2])/\Hid (CN wr (A.heap.size+1+1) [.string ⟨#[66,69,71,73,78]⟩,.string ⟨#[69,78,68]⟩,.string ⟨#[71,65,80]⟩]))
 case atStart=>exact⟨0,rfl,by omega,rfl,d,a,b⟩
 clear d a b;obtain⟨i,c0,d0,rfl,d,a,b⟩:=hrel;have D:=b.out.c 0 _ rfl;have E:=b.out.c 1 _ rfl;have F:=b.out.c 2 _ rfl;have u0:=a.out.c 0 _ rfl;have u1:=a.out.c 1 _ rfl;have u2:=a.out.c 2 _ rfl;have u3:=a.out.c 3 _ rfl;have u4:=a.out.c 4 _ rfl;have u5:=a.out.c 5 _ rfl;have u6:=a.out.c 6 _ rfl;have u7:=a.out.c 7 _ rfl;have u8:=a.out.c 8 _ rfl;have C:=a.out.z;rcases (show i=0\/i=1\/i=2\/i=3 by omega) with rfl | rfl | rfl | rfl
 ·go_wp2_with (first | (go_at_call 88;(with_reducible refine(Aca S.out L.out P.out d.out.z _ (by decide)).mono ?_);rintro e w2 ⟨rfl,m,j⟩;replace a:=aA (a.out.only j B);replace b:=aA (b.out.only j I);replace d:=aA (d.out.move m j);clear m j;(try clear u0 u1 u2 u3 u4 u5 u6 u7 u8 C);(try clear D E F);have u0:=a.out.c 0 _ rfl;have u1:=a.out.c 1 _ rfl;have u2:=a.out.c 2 _ rfl;have u3:=a.out.c 3 _ rfl;have u4:=a.out.c 4 _ rfl;have u5:=a.out.c 5 _ rfl;have u6:=a.out.c 6 _ rfl;have u7:=a.out.c 7 _ rfl;have u8:=a.out.c 8 _ rfl;have C:=a.out.z;have D:=b.out.c 0 _ rfl;have E:=b.out.c 1 _ rfl;have F:=b.out.c 2 _ rfl))
  go_roundg 3
  case rel=>exact⟨1,by omega,by omega,rfl,d,a,b⟩
  all_goals omega
 ·go_wp2_with (first | (go_at_call 88;(with_reducible refine(Aca S.out L.out P.out d.out.z _ (by decide)).mono ?_);rintro e w2 ⟨rfl,m,j⟩;replace a:=aA (a.out.only j B);replace b:=aA (b.out.only j I);replace d:=aA (d.out.move m j);clear m j;(try clear u0 u1 u2 u3 u4 u5 u6 u7 u8 C);(try clear D E F);have u0:=a.out.c 0 _ rfl;have u1:=a.out.c 1 _ rfl;have u2:=a.out.c 2 _ rfl;have u3:=a.out.c 3 _ rfl;have u4:=a.out.c 4 _ rfl;have u5:=a.out.c 5 _ rfl;have u6:=a.out.c 6 _ rfl;have u7:=a.out.c 7 _ rfl;have u8:=a.out.c 8 _ rfl;have C:=a.out.z;have D:=b.out.c 0 _ rfl;have E:=b.out.c 1 _ rfl;have F:=b.out.c 2 _ rfl))
  go_roundg 2
  case rel=>exact⟨2,by omega,by omega,rfl,d,a,b⟩
  all_goals omega
 ·go_wp2_with (first | (go_at_call 88;(with_reducible refine(Aca S.out L.out P.out d.out.z _ (by decide)).mono ?_);rintro e w2 ⟨rfl,m,j⟩;replace a:=aA (a.out.only j B);replace b:=aA (b.out.only j I);replace d:=aA (d.out.move m j);clear m j;(try clear u0 u1 u2 u3 u4 u5 u6 u7 u8 C);(try clear D E F);have u0:=a.out.c 0 _ rfl;have u1:=a.out.c 1 _ rfl;have u2:=a.out.c 2 _ rfl;have u3:=a.out.c 3 _ rfl;have u4:=a.out.c 4 _ rfl;have u5:=a.out.c 5 _ rfl;have u6:=a.out.c 6 _ rfl;have u7:=a.out.c 7 _ rfl;have u8:=a.out.c 8 _ rfl;have C:=a.out.z;have D:=b.out.c 0 _ rfl;have E:=b.out.c 1 _ rfl;have F:=b.out.c 2 _ rfl))
  go_roundg 1
  case rel=>exact⟨3,by omega,by omega,rfl,d,a,b⟩
  all_goals omega
 go_wp2_with (first | (go_at_call 88;(with_reducible refine(Aca S.out L.out P.out d.out.z _ (by decide)).mono ?_);rintro e w2 ⟨rfl,m,j⟩;replace a:=aA (a.out.only j B);replace b:=aA (b.out.only j I);replace d:=aA (d.out.move m j);clear m j;(try clear u0 u1 u2 u3 u4 u5 u6 u7 u8 C);(try clear D E F);have u0:=a.out.c 0 _ rfl;have u1:=a.out.c 1 _ rfl;have u2:=a.out.c 2 _ rfl;have u3:=a.out.c 3 _ rfl;have u4:=a.out.c 4 _ rfl;have u5:=a.out.c 5 _ rfl;have u6:=a.out.c 6 _ rfl;have u7:=a.out.c 7 _ rfl;have u8:=a.out.c 8 _ rfl;have C:=a.out.z;have D:=b.out.c 0 _ rfl;have E:=b.out.c 1 _ rfl;have F:=b.out.c 2 _ rfl;replace d:=aA (d.out.wide ((Ae.refl _ _).set 0 (.int .i64 5)) (a.out.kind (.int .i64 5)));replace a:=aA (a.out.kind (.int .i64 5));clear b) | (go_at_call 51;(refine(AbB L.out d.out.z [123]).mono ?_);intro e w3 ha;rw[HI.out] at ha;obtain⟨v,rfl,⟨⟨rfl,-,-⟩,m⟩,j⟩:=ha;replace a:=aA (a.out.only j B);replace d:=aA (d.out.move m j);clear m j) | (go_at_call 91;(with_reducible refine(HB.out _ _ d.out.z (K0 K T)).mono ?_);intro e w4 ha;obtain⟨_,p4,v,rfl,⟨⟨y,kv,rfl,rfl,hk⟩,m⟩,j,G⟩:=ha.part K T;replace K:=G;clear G ha;(try dsimp only[hd1,List.headD] at K);obtain⟨M,N,rfl⟩:=hk.slice;replace a:=aA (a.out.only j B);replace d:=aA (d.out.read hk m j);clear hk m j;(try clear u0 u1 u2 u3 u4 u5 u6 u7 u8 C);(try clear D E F);have u0:=a.out.c 0 _ rfl;have u1:=a.out.c 1 _ rfl;have u2:=a.out.c 2 _ rfl;have u3:=a.out.c 3 _ rfl;have u4:=a.out.c 4 _ rfl;have u5:=a.out.c 5 _ rfl;have u6:=a.out.c 6 _ rfl;have u7:=a.out.c 7 _ rfl;have u8:=a.out.c 8 _ rfl;have C:=a.out.z;replace d:=aA (d.out.wide (EZ _ _ (.int .i64 y.kd) (.string ⟨y.nm.toArray⟩) (.float .f64 y.x) (.slice M y.ks.length N) (.complex .f64 y.z.1 y.z.2)) (a.out.body (.int .i64 y.kd) (.string ⟨y.nm.toArray⟩) (.float .f64 y.x) (.slice M y.ks.length N) (.complex .f64 y.z.1 y.z.2)));replace a:=aA (a.out.body (.int .i64 y.kd) (.string ⟨y.nm.toArray⟩) (.float .f64 y.x) (.slice M y.ks.length N) (.complex .f64 y.z.1 y.z.2));have v0:=a.out.c 0 _ rfl;have v1:=a.out.c 1 _ rfl;have v2:=a.out.c 2 _ rfl;have v3:=a.out.c 3 _ rfl;have v4:=a.out.c 4 _ rfl;have v5:=a.out.c 5 _ rfl;have v6:=a.out.c 6 _ rfl;have v7:=a.out.c 7 _ rfl;have v8:=a.out.c 8 _ rfl;have vf:=a.out.z;have k:=aA (Q.out.only (V.out.trans d.out.o) b0);have k0:=k.out.c 0 _ rfl;have k1:=k.out.c 1 _ rfl;have k2:=k.out.c 2 _ rfl;have k3:=k.out.c 3 _ rfl;have k4:=k.out.c 4 _ rfl;have k5:=k.out.c 5 _ rfl;have k6:=k.out.c 6 _ rfl;have k7:=k.out.c 7 _ rfl;have k8:=k.out.c 8 _ rfl;have kf:=k.out.z;unfold CJ))
 obtain⟨J,zf,-⟩:=k.out.all9 (.int .i64 5) (.int .i64 0) (.slice none 0 0) (.int .i64 y.kd) (.string ⟨y.nm.toArray⟩) (.float .f64 y.x) (.slice M y.ks.length N) (.complex .f64 y.z.1 y.z.2) (.complex .f64 z.1 z.2);have z0:=J 0 _ rfl;have z1:=J 1 _ rfl;have z2:=J 2 _ rfl;have z3:=J 3 _ rfl;have z4:=J 4 _ rfl;have z5:=J 5 _ rfl;have z6:=J 6 _ rfl;have z7:=J 7 _ rfl;have z8:=J 8 _ rfl;exact bodyPost_ret (v:=.tuple #[.agg #[.int .i64 5,.int .i64 0,.slice none 0 0,.int .i64 y.kd,.string ⟨y.nm.toArray⟩,.float .f64 y.x,.slice M y.ks.length N,.complex .f64 y.z.1 y.z.2,.complex .f64 z.1 z.2],.bool true]) (by simp[results,results53,go_sem,z0,z1,z2,z3,z4,z5,z6,z7,z8]<;>exact rfl) rfl (d.out.done9 U.out HO.out Y.out X.out.1 X.out.2 (u:=⟨5,0,[],y,z⟩) (kv:=.slice M y.ks.length N) rfl (.head _) _ _ _ _ _ _ _ _ _ K)
structure Gy (w0 W:World) (q P:Nat) (s:ByteArray) (p:Rs) (c:Value) (rs:List Rl) (v:Value) (w:World):Prop where
 z:Rz w0 q s p w
 o:XT q P W w
 hq:q<W.heap.size
 hP:P<W.heap.size
 hn:P≠q
 h0:w0.heap.size<=P
 c:CN w P [c,.slice none 0 0]
 r:Lr w W.heap.size rs v
section
variable {w0 W w w':World} {q P:Nat} {s:ByteArray} {p p':Rs} {c:Value} {rs:List Rl} {v:Value}
theorem Gy.quiet (h:Gy w0 W q P s p c rs v w) (a:Below w.heap.size w w'):Gy w0 W q P s p c rs v w' :=
 have b:=Ae.of_below q a
 ⟨h.z.keep a,h.o.then b fun g e => .inl (by injection e with e;exact e.symm),h.hq,h.hP,h.hn,h.h0,h.c.quiet a,h.r.kept b fun g e=>by injection e with e;have:=h.hq;omega⟩
theorem Gy.move (h:Gy w0 W q P s p c rs v w) (b:Rz w0 q s p' w') (a:Ae q w w'):Gy w0 W q P s p' c rs v w' :=
 ⟨b,h.o.then a fun g e => .inl (by injection e with e;exact e.symm),h.hq,h.hP,h.hn,h.h0,h.c.only a h.hn,h.r.kept a fun g e=>by injection e with e;have:=h.hq;omega⟩
theorem Gy.drew (h:Gy w0 W q P s p c rs v w):Gy w0 W q P s p c rs v w.drew:=h.move h.z.drew (Ae.refl q w).drew
theorem Gy.append {L:List (Rl×Value×Value)} {u:Rl} {pv kv f:Value} (h:Gy w0 W q P s p c rs v w) (m:L.map Prod.fst=rs) (b:∀k,v.ownBlock=some k->W.heap.size<=k/\k<w.heap.size) (i:∀x∈L,Yj w (fun j=>W.heap.size<=j/\some j≠v.ownBlock) x)
  (y:Yj w (fun j=>W.heap.size<=j/\some j≠v.ownBlock) (u,pv,kv)) (A:w'.ownsRow W.heap.size 44 9 f (L.length+1) (AW L++AW [(u,pv,kv)])) (a:w.grownBy w' v.ownBlock)
  (B:f.ownBlock=v.ownBlock\/f.ownBlock=some w.heap.size):Gy w0 W q P s p c (rs++[u]) f w':=by
 have r:=h.hq;have n:=h.hP;have C:=h.z.hq;have t:=Lr.append m i y A a B;refine⟨?_,h.o.then a fun g e => .inr (.inr (b g e).1),r,n,h.hn,h.h0,h.c.kept (a.block P h.c.l fun e=>?_) (aB h.c.l a.size),t⟩
 ·cases d:v.ownBlock with
  | none=>rw[d] at a;exact h.z.keep ⟨a.os,a.tape,a.output,a.size,fun k i=>a.block k i (by simp)⟩
  | some g=>rw[d] at a;have:=(b g d).1;exact h.z.other a (by omega) (by omega)
 have:=(b P e.symm).1;omega
theorem Gy.put (h:Gy w0 W q P s p c rs v w) (u:Value):Gy w0 W q P s p u rs v (w.setCell ⟨P,0,none⟩ u) :=
 have a:=(Ae.refl P w).set 0 u
 ⟨h.z.other a h.h0 (Ne.symm h.hn),h.o.then a fun g e => .inr (.inl (by injection e with e;exact e.symm)),h.hq,h.hP,h.hn,h.h0,h.c.set 0 u (by simp),h.r.kept a fun g e=>by injection e with e;have:=h.hP;omega⟩
theorem Gy.start (h:Rz w0 q s p W) (b:P<W.heap.size) (d:P≠q) (a:w0.heap.size<=P) (c:CN W P [.slice none 0 0,.slice none 0 0]):Gy w0 W q P s p (.slice none 0 0) [] (.slice none 0 0) W :=
 ⟨h,XT.refl q P W,h.lt,b,d,a,c,Lr.nil _ _⟩
end
theorem AbJ.alone {a:Type} {q:Nat} {W w':World} {r:RO a} {g:a->Rs->Value->World->Prop} {e:Ending} (h:AbJ q W r g e w') (f:r ≠ .hush):∃x p v,e = .returned v/\g x p v w'/\Ae q W w'/\Hid (RO.ok x p=r):=by
 cases r with
 | hush=>exact absurd rfl f
 | ok x p=>obtain⟨v,b,c,d⟩:=h;exact⟨x,p,v,b,c,d,rfl⟩
def AgL (w0 W:World) (q P:Nat) (s:ByteArray) (r:RO Rl) (e:Ending) (w':World):Prop :=
 match r with
 | .ok u p'=>e = .returned (.tuple #[])/\∃v,Gy w0 W q P s p' v [u] v w'
 | .hush=>True
set_option linter.unusedSimpArgs false in
theorem Agy {nx:Nat->Bool->Tk} {pl:Nat->Nat×Nat} {ere:List UInt8->Option Bool} {w0:World} {q:Nat} {s:ByteArray} (Z:RxC nx s w0) (hP:RlC pl s) (n:Nat)
  (hB:SR nx pl ere w0 q s n .block 91) (hW:NoW nx) (p:Rs) (P:Nat) (W:World) (h:Rz w0 q s p W) (G:P<W.heap.size) (H:P≠q) (F:w0.heap.size<=P) (hC:CN W P [.slice none 0 0,.slice none 0 0]) (hi:isR nx [123] p = .ok true p) (hh:((Abo nx pl true p).bind fun h s=>(Aaq nx pl ere n .block s).bind fun l s => .ok (⟨5,0,[],hd1 l,h.2⟩:Rl) s) ≠ .hush) :
  Calls prog 30 #[.pointer (some ⟨q,0,none⟩),.pointer (some ⟨P,0,none⟩)] W (AgL w0 W q P s ((Abo nx pl true p).bind fun h s=>(Aaq nx pl ere n .block s).bind fun l s => .ok (⟨5,0,[],hd1 l,h.2⟩:Rl) s)):=by
 obtain⟨r,er⟩:∃r,((Abo nx pl true p).bind fun h s=>(Aaq nx pl ere n .block s).bind fun l s => .ok (⟨5,0,[],hd1 l,h.2⟩:Rl) s)=r:=⟨_,rfl⟩;have HU:=aA (fun(W':World) (h':Rz w0 q s p W')=>AgC Z hP n hB hW p W' h' hi hh);rw[er] at hh HU ⊢;have d:=aA (Gy.start h G H F hC);have HN:=aA Z;have HW:=aA hW;clear er h hi Z hP hW hB G H F hC;obtain⟨i0,a0,b0,c0,d0⟩:=info_parts Aaj
 go_in
 go_wp2_with (first | (go_at_call 51;(refine(AbB HN.out d.out.z [102,117,110,99,116,105,111,110]).mono ?_);intro e w1 ha;rw[Ae9 HW.out [102,117,110,99,116,105,111,110] (by decide)] at ha;obtain⟨v,rfl,⟨⟨rfl,-,-⟩,R⟩,N⟩:=ha;replace d:=aA (d.out.move R N);clear R N) | (go_at_call 53;(with_reducible refine(HU.out _ d.out.z).mono ?_);intro e y ha;obtain⟨u,p2,v,rfl,⟨⟨kv,rfl,O,hk⟩,R⟩,N,HR⟩:=AbJ.alone ha hh;clear ha;have U:=aA O;clear O;obtain⟨m,t,rfl⟩:=Am.slice (v:=kv) (ks:=u.b.ks) hk;have C:=aA (hk.mono (S':=fun j=>W.heap.size<=j/\some j≠(none:Option Nat)) fun j _ hj=>⟨Nat.le_trans d.out.o.size hj,fun e=>nomatch e⟩);replace d:=aA (d.out.move R N);have HT:=aA (show W.heap.size<=y.heap.size from d.out.o.size);clear R N hk;have i:=aA (CN.new y [.int .i64 u.k,.int .i64 u.n,.slice none 0 0,.int .i64 u.b.kd,.string ⟨u.b.nm.toArray⟩,.float .f64 u.b.x,.slice m u.b.ks.length t,.complex .f64 u.b.z.1 u.b.z.2,.complex .f64 u.z.1 u.z.2] 44);replace d:=aA (d.out.quiet (Ad y (.cells #[.int .i64 u.k,.int .i64 u.n,.slice none 0 0,.int .i64 u.b.kd,.string ⟨u.b.nm.toArray⟩,.float .f64 u.b.x,.slice m u.b.ks.length t,.complex .f64 u.b.z.1 u.b.z.2,.complex .f64 u.z.1 u.z.2] 44)));replace C:=aA (C.out.kept (w':=y.alloc (.cells #[.int .i64 u.k,.int .i64 u.n,.slice none 0 0,.int .i64 u.b.kd,.string ⟨u.b.nm.toArray⟩,.float .f64 u.b.x,.slice m u.b.ks.length t,.complex .f64 u.b.z.1 u.b.z.2,.complex .f64 u.z.1 u.z.2] 44)) (Ad _ _).size fun j _ S=>(Ad _ _).block j S);unfold Zh))
 have E:=aA (show y.heap.size<(y.alloc (.cells #[.int .i64 u.k,.int .i64 u.n,.slice none 0 0,.int .i64 u.b.kd,.string ⟨u.b.nm.toArray⟩,.float .f64 u.b.x,.slice m u.b.ks.length t,.complex .f64 u.b.z.1 u.b.z.2,.complex .f64 u.z.1 u.z.2] 44)).drew.heap.size from i.out.l);refine Abt (fun o=>CN o P [.slice none 0 0,.slice none 0 0]/\CN o y.heap.size [.int .i64 u.k,.int .i64 u.n,.slice none 0 0,.int .i64 u.b.kd,.string ⟨u.b.nm.toArray⟩,.float .f64 u.b.x,.slice m u.b.ks.length t,.complex .f64 u.b.z.1 u.b.z.2,.complex .f64 u.z.1 u.z.2]) 10 (by kernel_rfl) ?_;have f:CN (y.alloc (.cells #[.int .i64 u.k,.int .i64 u.n,.slice none 0 0,.int .i64 u.b.kd,.string ⟨u.b.nm.toArray⟩,.float .f64 u.b.x,.slice m u.b.ks.length t,.complex .f64 u.b.z.1 u.b.z.2,.complex .f64 u.z.1 u.z.2] 44)).drew P [.slice none 0 0,.slice none 0 0]/\CN (y.alloc (.cells #[.int .i64 u.k,.int .i64 u.n,.slice none 0 0,.int .i64 u.b.kd,.string ⟨u.b.nm.toArray⟩,.float .f64 u.b.x,.slice m u.b.ks.length t,.complex .f64 u.b.z.1 u.b.z.2,.complex .f64 u.z.1 u.z.2] 44)).drew y.heap.size [.int .i64 u.k,.int .i64 u.n,.slice none 0 0,.int .i64 u.b.kd,.string ⟨u.b.nm.toArray⟩,.float .f64 u.b.x,.slice m u.b.ks.length t,.complex .f64 u.b.z.1 u.b.z.2,.complex .f64 u.z.1 u.z.2]:=⟨d.out.drew.c,i.out.drew⟩
 refine AbP 0 (.pointer (some ⟨P,0,none⟩)) rfl f ?_
 try simp only[Act.put,sP]
 refine AbP 1 (.pointer (some ⟨P,0,none⟩)) rfl f ?_
 try simp only[Act.put,sP]
 refine AbP 2 (.pointer (some ⟨P,0,none⟩)) rfl f ?_
 try simp only[Act.put,sP]
 refine AbP 3 (.pointer (some ⟨P,0,none⟩)) rfl f ?_
 try simp only[Act.put,sP]
 refine AbU 4 (.slice none 0 0) rfl (fun w A=>by have s0:=A.1.c 0 _ rfl;go_simp) f ?_
 try simp only[Act.put,sP]
 refine AbU 5 (.agg #[.int .i64 u.k,.int .i64 u.n,.slice none 0 0,.int .i64 u.b.kd,.string ⟨u.b.nm.toArray⟩,.float .f64 u.b.x,.slice m u.b.ks.length t,.complex .f64 u.b.z.1 u.b.z.2,.complex .f64 u.z.1 u.z.2]) rfl (fun w A=>by have s0:=A.2.c 0 _ rfl;have s1:=A.2.c 1 _ rfl;have s2:=A.2.c 2 _ rfl;have s3:=A.2.c 3 _ rfl;have s4:=A.2.c 4 _ rfl;have s5:=A.2.c 5 _ rfl;have s6:=A.2.c 6 _ rfl;have s7:=A.2.c 7 _ rfl;have s8:=A.2.c 8 _ rfl;go_simp) f ?_
 try simp only[Act.put,sP]
 replace d:=aA d.out.drew;replace i:=aA f.2;replace C:=aA (C.out.kept (w':=(y.alloc (.cells #[.int .i64 u.k,.int .i64 u.n,.slice none 0 0,.int .i64 u.b.kd,.string ⟨u.b.nm.toArray⟩,.float .f64 u.b.x,.slice m u.b.ks.length t,.complex .f64 u.b.z.1 u.b.z.2,.complex .f64 u.z.1 u.z.2] 44)).drew) (aC _) fun j _ S=>rfl);have I:W.heap.size<=y.heap.size/\y.heap.size<(y.alloc (.cells #[.int .i64 u.k,.int .i64 u.n,.slice none 0 0,.int .i64 u.b.kd,.string ⟨u.b.nm.toArray⟩,.float .f64 u.b.x,.slice m u.b.ks.length t,.complex .f64 u.b.z.1 u.b.z.2,.complex .f64 u.z.1 u.z.2] 44)).drew.heap.size:=⟨HT.out,E.out⟩;clear f E
 revert d i C I
 generalize World.drew _=X;intro d i C I;refine AaC 6 rfl (fun K D=>?_)
 try go_simp
 replace d:=aA (d.out.quiet (Ad _ (.cells #[.int .i64 u.k,.int .i64 u.n,.slice none 0 0,.int .i64 u.b.kd,.string ⟨u.b.nm.toArray⟩,.float .f64 u.b.x,.slice m u.b.ks.length t,.complex .f64 u.b.z.1 u.b.z.2,.complex .f64 u.z.1 u.z.2] 44)));replace i:=aA (i.out.quiet (Ad _ (.cells #[.int .i64 u.k,.int .i64 u.n,.slice none 0 0,.int .i64 u.b.kd,.string ⟨u.b.nm.toArray⟩,.float .f64 u.b.x,.slice m u.b.ks.length t,.complex .f64 u.b.z.1 u.b.z.2,.complex .f64 u.z.1 u.z.2] 44)));replace C:=aA (C.out.kept (w':=X.alloc (.cells #[.int .i64 u.k,.int .i64 u.n,.slice none 0 0,.int .i64 u.b.kd,.string ⟨u.b.nm.toArray⟩,.float .f64 u.b.x,.slice m u.b.ks.length t,.complex .f64 u.b.z.1 u.b.z.2,.complex .f64 u.z.1 u.z.2] 44)) (Ad _ _).size fun j _ S=>(Ad _ _).block j S)
 refine D.out _ _ (.inr ⟨d.out.c,i.out⟩) ?_
 try simp only[Act.put,sP]
 obtain⟨L,Y,B,J⟩:=d.out.r;obtain rfl:L=[]:=by cases L with | nil=>rfl | cons a L=>cases Y
 have M:=B.lt;have Q:=d.out.o.size;refine AaC 7 rfl (fun K D=>?_);refine wp_append_lies _ (.tmp 31) (.tmp 33) 30 rfl W.heap.size 44 i0 _ 9 128 underlying30 a0 b0 c0 d0 rfl (by decide) _ 0 (AW []) rfl B ⟨X.heap.size,0,none⟩ 1 1 (AW [(u,.slice none 0 0,.slice m u.b.ks.length t)]) rfl rfl (Aaw _ _ _ _ _) (Agr _ _ _ _ _ _ _) (by decide) (by decide) (by omega) Q _ rfl ?_;intro g V w9 o1 T o3 o4;have hF:=d.out.append Y M J ⟨(by show Am _ _ _ u.ps _;rw[U.out];exact Am.nil _),C.out⟩ o1 T (by rcases o3 with e | e;exact .inl e.symm;exact .inr (by rw[e];rfl));replace i:=aA (i.out.kept (T.block _ i.out.l fun e=>nomatch e) (aB i.out.l T.size))
 replace d:=aA hF;clear hF o1 T o3 o4 Y B J Q C M;refine D.out _ _ (.inr ⟨d.out.c,i.out⟩) ?_
 try simp only[Act.put,sP]
 refine AaC 8 rfl (fun K D=>?_)
 try go_simp
 refine D.out _ _ (.inr ⟨d.out.c,i.out⟩) ?_
 try simp only[Act.put,sP]
 refine AaC 9 rfl (fun K D=>?_)
 try go_simp
 refine D.out _ _ (.inr ⟨d.out.c,i.out⟩) ?_
 try simp only[Act.put,sP]
 have n0:=d.out.c.c 0 _ rfl;have n1:=d.out.c.c 1 _ rfl;have nf:=d.out.c.z;refine AaC 10 rfl (fun K D=>?_)
 try go_simp
 replace d:=aA (d.out.put (.slice (some ⟨g,0,none⟩) 1 V));refine D.out _ _ (.inl rfl) ?_
 try simp only[Act.put,sP]
 refine Aal (by kernel_rfl) ?_ _
 go_wp2_with (first | (go_at_call 27;(with_reducible refine(Abv d.out.z).mono ?_);rintro e w4 ⟨rfl,rfl⟩;rcases okC p2 with⟨he,hb⟩ | ⟨he,hb⟩<;>rw[hb]<;>clear hb he))
 all_goals
  rw[<- HR.out];exact bodyPost_ret (results_none rfl _ _ _) rfl ⟨rfl,_,d.out⟩
structure Aif (nx:Nat->Bool->Tk) (pl:Nat->Nat×Nat) (ere:List UInt8->Option Bool) (w0:World) (q:Nat) (s:ByteArray) (n:Nat):Prop where
 stmt:SR nx pl ere w0 q s n .stmt 110
 simple:SR nx pl ere w0 q s n .simple 148
 block:SR nx pl ere w0 q s n .block 91
theorem AhE {nx:Nat->Bool->Tk} {pl:Nat->Nat×Nat} {ere:List UInt8->Option Bool} {w0:World} {q:Nat} {s:ByteArray} (a:RxC nx s w0) (b:RlC pl s) (d:∀x,ere x=none) (c:NoW nx):∀n m,m<=n->Aif nx pl ere w0 q s m
 | 0,m,hm=>by
   obtain rfl:m=0:=(by omega);exact⟨fun _ _ _ h=>absurd rfl h,fun _ _ _ h=>absurd rfl h,fun _ _ _ h=>absurd rfl h⟩
 | n+1,m,hm=>by
   have I:=AhE (q:=q) a b d c n;by_cases h:m<=n
   ·exact I m h
   obtain rfl:m=n+1:=(by omega);have E:=I n (aC _);have A:=AhD (q:=q) a b d n n (aC _);exact⟨AgD a b n E.block E.simple c,AeT a b n A.expr c,AfL a b n (fun m h=>(I m h).stmt) c⟩
section
variable {nx:Nat->Bool->Tk} {pl:Nat->Nat×Nat} {ere:List UInt8->Option Bool} {w0 W w w' X Wi:World} {q P b n m:Nat} {s:ByteArray} {p:Rs} {vs:List Value}
abbrev AcD (nx:Nat->Bool->Tk) (pl:Nat->Nat×Nat) (ere:List UInt8->Option Bool) (n:Nat) (p:Rs):RO Rl:=(Abo nx pl true p).bind fun h s=>(Aaq nx pl ere n .block s).bind fun l s => .ok (⟨5,0,[],hd1 l,h.2⟩:Rl) s
def Lst (nx:Nat->Bool->Tk) (pl:Nat->Nat×Nat) (m:Nat) (s:Rs):Prop:=s.e=0->∀k s1 a t,m=k+1->linesR nx [59] k s = .ok () s1->AbG nx pl true s1 = .ok t a->a.e=0->t.kd=0
def Fst (nx:Nat->Bool->Tk) (pl:Nat->Nat×Nat) (ere:List UInt8->Option Bool) (m:Nat) (s:Rs):Prop:=∀k s1 a t,m=k+1->linesR nx [59] k s = .ok () s1->AbG nx pl true s1 = .ok t a->a.e=0->t.kd≠0 ->
 isR nx [123] a = .ok true a/\∀u b,AcD nx pl ere k a = .ok u b->Lst nx pl k b
theorem Ae' (H:NoW nx) (a:isR nx [123] p = .ok true p) (n:Nat):Ab5 nx pl ere n p=AcD nx pl ere n p:=by
 unfold Ab5 AeS AcD;simp only[Abo,AbI H [66,69,71,73,78] (by decide),AbI H [69,78,68] (by decide),AbI H [71,65,80] (by decide),AbI H [69,86,69,82,89] (by decide),a,RO.bind,Bool.false_eq_true,if_false,if_true]
 cases Aaq nx pl ere n .block p with
 | hush=>rfl
 | ok l s=>simp
theorem AfE {a:Type} (H:NoW nx) (c:isR nx [123] p = .ok true p) {K:Rl->Rs->RO a} {A:RO a} {r:RO a} (h:((isR nx [102,117,110,99,116,105,111,110] p).bind fun b s=>if b=true then A else (Ab5 nx pl ere n s).bind K)=r):(AcD nx pl ere n p).bind K=r:=by
 rw[Ae9 H _ (by decide)] at h;rw[<- Ae' H c n];exact h
theorem AgN {a c:Type} {o:RO a} {K:a->Rs->RO c} {r:RO c} {u:a} {b:Rs} (d:o = .ok u b) (h:o.bind K=r):K u b=r:=by rw[d] at h;exact h
theorem AgL.part {r:RO Rl} {e:Ending} (h:AgL w0 W q P s r e w') (b:r ≠ .hush):∃u a,r = .ok u a/\e = .returned (.tuple #[])/\∃v,Gy w0 W q P s a v [u] v w':=by
 cases r with
 | hush=>exact absurd rfl b
 | ok u a=>exact⟨u,a,rfl,h.1,h.2⟩
theorem Ab8 (a:CN X b vs) (c:XT q P X Wi) (f:XT q P Wi w) (d:b≠q) (e:b≠P):CN w b vs :=
 a.kept ((f.block b (aB a.l c.size) d e).trans (c.block b a.l d e)) (aB (aB a.l c.size) f.size)
theorem ok2 (p:Rs) (t:Tk):(p.e≠0/\decide (p.e=0)=false)\/(p.e=0/\t.kd=0/\decide (p.e=0)=true/\(t.kd==0)=true)\/(p.e=0/\t.kd≠0/\decide (p.e=0)=true/\(t.kd==0)=false):=by
 rcases okC p with⟨b,a⟩ | ⟨b,a⟩
 ·rcases Xt t.kd 0 with⟨d,c,-⟩ | ⟨d,c,-⟩
  ·exact .inr (.inl ⟨b,d,a,c⟩)
  exact .inr (.inr ⟨b,d,a,c⟩)
 exact .inl ⟨b,a⟩
def AhG (w:World) (rs:List Rl) (p:Rs) (e:Ending) (w':World):Prop:=Below w.heap.size w w' /\
 if p.e=0 then ∃B v,e = .returned (.tuple #[.agg #[v,.slice none 0 0],.complex .f64 0 0,.int .i64 0])/\Lr w' B rs v
 else e = .returned (.tuple #[.agg #[.slice none 0 0,.slice none 0 0],.complex .f64 p.z.1 p.z.2,.int .i64 p.e])
theorem AgW {rs:List Rl} (h:Rz w q s p W) (a:p.e≠0) (u v:Value):AhG w rs p (.returned (.tuple #[.agg #[.slice none 0 0,.slice none 0 0],.complex .f64 p.z.1 p.z.2,.int .i64 p.e])) (((W.setCell ⟨w.heap.size,0,none⟩ u).setCell ⟨w.heap.size,1,none⟩ v).drew):=by
 refine⟨((((Ae.refl w.heap.size W).set 0 u).set 1 v).drew).below_of h.below (aC _) h.below.size,?_⟩;rw[if_neg a]
theorem Aik {rs:List Rl} {v:Value} (h:Gy w Wi q P s p v rs v W) (c:w.heap.size<Wi.heap.size) (b:p.e=0):AhG w rs p (.returned (.tuple #[.agg #[v,.slice none 0 0],.complex .f64 0 0,.int .i64 0])) ((W.setCell ⟨w.heap.size,0,none⟩ v).setCell ⟨w.heap.size,1,none⟩ (.slice none 0 0)):=by
 have a:=((Ae.refl w.heap.size W).set 0 v).set 1 (.slice none 0 0);refine⟨a.below_of h.z.below (aC _) h.z.below.size,?_⟩;rw[if_pos b];exact⟨Wi.heap.size,v,rfl,h.r.kept a fun g e=>by injection e with e;omega⟩
end
set_option linter.unusedSimpArgs false in
theorem AdH {nx:Nat->Bool->Tk} {pl:Nat->Nat×Nat} {ere:List UInt8->Option Bool} (s:ByteArray) (hs:s.size<=4096) (w:World) (hN:RxC nx s w) (hP:RlC pl s) (hE:∀x,ere x=none) (hW:NoW nx) (n:Nat) (rs:List Rl) (fs:List Fu) (p':Rs)
  (hr:AbM nx pl ere n [] [] ⟨0,0,false,0,(0,0)⟩ = .ok (rs,fs) p') (hF:Fst nx pl ere n ⟨0,0,false,0,(0,0)⟩):Calls prog 15 #[.string s] w (AhG w rs p'):=by
 obtain⟨r,er⟩:∃r,AbM nx pl ere n [] [] ⟨0,0,false,0,(0,0)⟩=r:=⟨_,rfl⟩;have E:=aA (er.symm.trans hr);have Z:r ≠ .hush:=by rw[E.out];exact fun e=>nomatch e
 have h:=aA er;have E':∀(w:World) (o:Obj),(w.alloc o).heap.size=w.heap.size+1:=fun w o=>by simp
 obtain⟨X,hX⟩:∃X,(((w.alloc (.cells #[.slice none 0 0,.slice none 0 0] 33)).alloc (.cells #[.string s,.int .i64 0,.int .i64 0,.bool false,.int .i64 0,.complex .f64 0 0] 67)).alloc (.cells #[.slice none 0 0,.slice none 0 0] 33))=X:=⟨_,rfl⟩;have I:=Ad w (.cells #[.slice none 0 0,.slice none 0 0] 33);have f0:=Ad (w.alloc (.cells #[.slice none 0 0,.slice none 0 0] 33)) (.cells #[.string s,.int .i64 0,.int .i64 0,.bool false,.int .i64 0,.complex .f64 0 0] 67);have j0:=Ad ((w.alloc (.cells #[.slice none 0 0,.slice none 0 0] 33)).alloc (.cells #[.string s,.int .i64 0,.int .i64 0,.bool false,.int .i64 0,.complex .f64 0 0] 67)) (.cells #[.slice none 0 0,.slice none 0 0] 33)
 have b0:CN X w.heap.size [.slice none 0 0,.slice none 0 0]:=by rw[<- hX];exact((CN.new w [.slice none 0 0,.slice none 0 0] 33).alloc (.cells #[.string s,.int .i64 0,.int .i64 0,.bool false,.int .i64 0,.complex .f64 0 0] 67)).alloc (.cells #[.slice none 0 0,.slice none 0 0] 33)
 have l0:CN X (w.heap.size+1) (rsV s ⟨0,0,false,0,(0,0)⟩):=by rw[<- hX,<- E' w (.cells #[.slice none 0 0,.slice none 0 0] 33)];exact(CN.new (w.alloc (.cells #[.slice none 0 0,.slice none 0 0] 33)) (rsV s ⟨0,0,false,0,(0,0)⟩) 67).alloc (.cells #[.slice none 0 0,.slice none 0 0] 33)
 have k0:CN X (w.heap.size+1+1) [.slice none 0 0,.slice none 0 0]:=by rw[<- hX,<- E' w (.cells #[.slice none 0 0,.slice none 0 0] 33),<- E' (w.alloc (.cells #[.slice none 0 0,.slice none 0 0] 33)) (.cells #[.string s,.int .i64 0,.int .i64 0,.bool false,.int .i64 0,.complex .f64 0 0] 67)];exact CN.new ((w.alloc (.cells #[.slice none 0 0,.slice none 0 0] 33)).alloc (.cells #[.string s,.int .i64 0,.int .i64 0,.bool false,.int .i64 0,.complex .f64 0 0] 67)) [.slice none 0 0,.slice none 0 0] 33
 have s0:X.heap.size=w.heap.size+1+1+1:=(by rw[<- hX,E',E',E']);have a0:Below w.heap.size w X:=by rw[<- hX];exact(I.trans (f0.mono I.size)).trans (j0.mono (I.trans (f0.mono I.size)).size)
 have F:Rz w (w.heap.size+1) s ⟨0,0,false,0,(0,0)⟩ X:=⟨a0,by omega,l0,Nat.zero_le _,hs,by simp,by simp⟩;have b:=aA (Gy.start F (by omega) (by omega) (by omega) k0);have j:=aA (show w.heap.size≠(w.heap.size+1)/\w.heap.size≠(w.heap.size+1+1)/\CN X w.heap.size [.slice none 0 0,.slice none 0 0]/\w.heap.size<X.heap.size from ⟨by omega,by omega,b0,by omega⟩);have q0:=aA hX;have HN:=aA hN;have HP:=aA hP;have HW:=aA hW;have HS:=aA (fun m=>(AhE (q:=(w.heap.size+1)) hN hP hE hW m m (aC _)).block);have O:=aA hF;clear er hr E' hX I f0 j0 b0 l0 k0 s0 a0 F hN hP hE hW hF
 go_in
 go_wp2
 go_loopg [] 2 (fun g wr=>∃(Wi:World) (m:Nat) (pr:Rs) (G:List Rl) (v:Value),Hid (XT (w.heap.size+1) (w.heap.size+1+1) X Wi)/\Hid (Gy w Wi (w.heap.size+1) (w.heap.size+1+1) s pr v G v wr)/\Hid (AbM nx pl ere m G [] pr=r)/\((g=2/\G=[]/\v = .slice none 0 0/\Wi=X/\Fst nx pl ere m pr)\/(g=1/\Lst nx pl m pr)))
 case atStart =>
  rw[q0.out];exact⟨X,n,⟨0,0,false,0,(0,0)⟩,[],.slice none 0 0,aA (XT.refl _ _ _),b,h,.inl ⟨rfl,rfl,rfl,rfl,O.out⟩⟩
 clear b h O;obtain⟨Wi,m,pr,G,v,k,b,h,h0⟩:=hrel
 cases m with
 | zero=>exact absurd h.out.symm Z
 | succ m =>
 replace h:=aA (by have:=h.out;rw[AbM] at this;exact this);have A:=aA True.intro;rcases h0 with⟨rfl,rfl,rfl,rfl,hF⟩ | ⟨rfl,hL⟩
 ·have O:=aA hF
  clear hF
  go_wp2_with (first | (go_at_call 27;have ht:=y;clear ht;(with_reducible refine(Abv b.out.z).mono ?_);rintro e w4 ⟨rfl,rfl⟩;(try clear P Q R S T c5 U);(try clear V W Y);(try clear r0 r1 rf);(try clear m0 m1 m2 m3 m4 mf);obtain⟨P,Q,R,S,T,c5,U⟩:=b.out.z.c6;have V:=b.out.c.c 0 _ rfl;have W:=b.out.c.c 1 _ rfl;have Y:=b.out.c.z;have a:=Ab8 j.out.2.2.1 k.out b.out.o j.out.1 j.out.2.1;have r0:=a.c 0 _ rfl;have r1:=a.c 1 _ rfl;have rf:=a.z;clear a;obtain⟨m0,m1,m2,m3,m4,mf⟩:=e0.out;rcases ok2 p3 t with⟨i,D⟩ | ⟨i,J,D,bk⟩ | ⟨i,J,D,bk⟩<;>rw[D]<;>clear D<;>(first | (replace h:=Ym (Or.inl i) h;have B:=aA i;clear i y) | (replace h:=Ym (Or.inr J) h;have C:=aA i;clear i J y) | (replace h:=XY (fun d=>d.elim (fun e=>e i) J) h;have N:=O.out m _ _ _ rfl d0.out y.out i J;have HI:=aA N.1;have o0:=aA N.2;replace h:=aA (AfE HW.out N.1 h.out);have HQ:=aA (show (w.heap.size+1+1)<(w3.alloc (.cells #[.int .i64 t.kd,.string ⟨t.tx.toArray⟩,.float .f64 t.nm,.int .i64 t.f,.int .i64 t.t] 70)).heap.size/\(w.heap.size+1+1)≠(w.heap.size+1)/\w.heap.size<=(w.heap.size+1+1) from ⟨by have:=b.out.hP;have:=b.out.o.size;omega,by omega,by omega⟩);clear N i J y))) | (go_at_call 27;have ht:=A;clear ht;(with_reducible refine(Abv b.out.z).mono ?_);rintro e w1 ⟨rfl,rfl⟩;(try clear P Q R S T c5 U);(try clear V W Y);(try clear r0 r1 rf);(try clear m0 m1 m2 m3 m4 mf);obtain⟨P,Q,R,S,T,c5,U⟩:=b.out.z.c6;have V:=b.out.c.c 0 _ rfl;have W:=b.out.c.c 1 _ rfl;have Y:=b.out.c.z;have a:=Ab8 j.out.2.2.1 k.out b.out.o j.out.1 j.out.2.1;have r0:=a.c 0 _ rfl;have r1:=a.c 1 _ rfl;have rf:=a.z;clear a;rcases okC pr with⟨i,D⟩ | ⟨i,D⟩<;>rw[D]<;>clear D<;>(first | (replace h:=Ym i h;have B:=aA i;clear i A) | (replace h:=XY (fun e=>e i) h;have i0:=aA i;clear i A))) | (go_at_call 27;(with_reducible refine(Abv b.out.z).mono ?_);rintro e w5 ⟨rfl,rfl⟩;first | (rw[show decide _=false from decide_eq_false B.out]) | (rw[show decide _=true from decide_eq_true C.out])) | (go_at_call 28;(with_reducible refine(AbE HN.out b.out.z [59] _ (K0 h Z)).mono ?_);intro e w2 ha;obtain⟨_,p2,v2,rfl,⟨rfl,F⟩,K,l,d0⟩:=ha.partE h Z;replace h:=l;clear l ha;(try dsimp only at h);replace b:=aA (b.out.move F K);clear F K;(try clear P Q R S T c5 U);(try clear V W Y);(try clear r0 r1 rf);(try clear m0 m1 m2 m3 m4 mf)) | (go_at_call 29;(with_reducible refine(Aer HN.out HP.out b.out.z true).mono ?_);intro e w3 ha;obtain⟨t,p3,v3,rfl,⟨⟨-,rfl⟩,F⟩,K,l,y⟩:=ha.partE h Z;replace h:=l;clear l ha;(try dsimp only at h);have e0:=aA (C5.new w3 (.int .i64 t.kd) (.string ⟨t.tx.toArray⟩) (.float .f64 t.nm) (.int .i64 t.f) (.int .i64 t.t) 70);replace b:=aA ((b.out.move F K).quiet (Ad w3 (.cells #[.int .i64 t.kd,.string ⟨t.tx.toArray⟩,.float .f64 t.nm,.int .i64 t.f,.int .i64 t.t] 70)));clear F K;unfold G1) | (go_at_call 30;(with_reducible refine(Agy HN.out HP.out m (HS.out m) HW.out p3 _ _ b.out.z HQ.out.1 HQ.out.2.1 HQ.out.2.2 b.out.c HI.out (K0 h Z)).mono ?_);intro e w6 ha;obtain⟨u,p6,hu,rfl,v6,hG⟩:=AgL.part ha (K0 h Z);replace h:=aA (AgN hu h.out);have HL:=aA (o0.out u p6 hu);have p0:=aA b.out.o;replace b:=aA hG;clear ha hu hG  ))
  ·go_region
   all_goals
    go_wp2;have e:=h.out.trans E.out;injection e with p H;injection p with p e3;subst p H;have a:=(Ab8 j.out.2.2.1 k.out b.out.o j.out.1 j.out.2.1).set 0 (.slice none 0 0) (by simp);have L:=a.c 0 _ rfl;have M:=(a.set 1 (.slice none 0 0) (by simp)).c 1 _ rfl;exact bodyPost_ret (v:=.tuple #[.agg #[.slice none 0 0,.slice none 0 0],.complex .f64 _ _,.int .i64 _]) (by simp[results,results15,go_sem,L,M]<;>exact rfl) rfl (AgW b.out.z B.out _ _)
  ·have e:=h.out.trans E.out
   injection e with p H;injection p with p e3;subst p H;have a:=((Ab8 j.out.2.2.1 k.out b.out.o j.out.1 j.out.2.1).set 0 (.slice none 0 0) (by simp)).set 1 (.slice none 0 0) (by simp);have L:=a.c 0 _ rfl;have M:=a.c 1 _ rfl;exact bodyPost_ret (v:=.tuple #[.agg #[(.slice none 0 0),.slice none 0 0],.complex .f64 0 0,.int .i64 0]) (by simp[results,results15,go_sem,L,M]<;>exact rfl) rfl (Aik b.out (aB j.out.2.2.2 k.out.size) C.out)
  ·go_roundg 1
   case rel=>exact⟨_,m,p6,[u],v6,p0,b,h,.inr ⟨rfl,HL.out⟩⟩
   all_goals omega
  go_region
  all_goals
   go_wp2;have e:=h.out.trans E.out;injection e with p H;injection p with p e3;subst p H;have a:=(Ab8 j.out.2.2.1 k.out b.out.o j.out.1 j.out.2.1).set 0 (.slice none 0 0) (by simp);have L:=a.c 0 _ rfl;have M:=(a.set 1 (.slice none 0 0) (by simp)).c 1 _ rfl;exact bodyPost_ret (v:=.tuple #[.agg #[.slice none 0 0,.slice none 0 0],.complex .f64 _ _,.int .i64 _]) (by simp[results,results15,go_sem,L,M]<;>exact rfl) rfl (AgW b.out.z B.out _ _)
 have n0:=aA hL;clear hL;obtain⟨va,vc,rfl⟩:=Lr.slice (v:=v) b.out.r
 go_wp2_with (first | (go_at_call 27;have ht:=y;clear ht;(with_reducible refine(Abv b.out.z).mono ?_);rintro e w4 ⟨rfl,rfl⟩;(try clear P Q R S T c5 U);(try clear V W Y);(try clear r0 r1 rf);(try clear m0 m1 m2 m3 m4 mf);obtain⟨P,Q,R,S,T,c5,U⟩:=b.out.z.c6;have V:=b.out.c.c 0 _ rfl;have W:=b.out.c.c 1 _ rfl;have Y:=b.out.c.z;have a:=Ab8 j.out.2.2.1 k.out b.out.o j.out.1 j.out.2.1;have r0:=a.c 0 _ rfl;have r1:=a.c 1 _ rfl;have rf:=a.z;clear a;obtain⟨m0,m1,m2,m3,m4,mf⟩:=e0.out;rcases ok2 p3 t with⟨i,D⟩ | ⟨i,J,D,bk⟩ | ⟨i,J,D,bk⟩<;>rw[D]<;>clear D<;>(first | (replace h:=Ym (Or.inl i) h;have B:=aA i;clear i y) | (replace h:=Ym (Or.inr J) h;have C:=aA i;clear i J y) | (exact absurd (n0.out i0.out m _ _ _ rfl d0.out y.out i) J))) | (go_at_call 27;have ht:=A;clear ht;(with_reducible refine(Abv b.out.z).mono ?_);rintro e w1 ⟨rfl,rfl⟩;(try clear P Q R S T c5 U);(try clear V W Y);(try clear r0 r1 rf);(try clear m0 m1 m2 m3 m4 mf);obtain⟨P,Q,R,S,T,c5,U⟩:=b.out.z.c6;have V:=b.out.c.c 0 _ rfl;have W:=b.out.c.c 1 _ rfl;have Y:=b.out.c.z;have a:=Ab8 j.out.2.2.1 k.out b.out.o j.out.1 j.out.2.1;have r0:=a.c 0 _ rfl;have r1:=a.c 1 _ rfl;have rf:=a.z;clear a;rcases okC pr with⟨i,D⟩ | ⟨i,D⟩<;>rw[D]<;>clear D<;>(first | (replace h:=Ym i h;have B:=aA i;clear i A) | (replace h:=XY (fun e=>e i) h;have i0:=aA i;clear i A))) | (go_at_call 27;(with_reducible refine(Abv b.out.z).mono ?_);rintro e w5 ⟨rfl,rfl⟩;first | (rw[show decide _=false from decide_eq_false B.out]) | (rw[show decide _=true from decide_eq_true C.out])) | (go_at_call 28;(with_reducible refine(AbE HN.out b.out.z [59] _ (K0 h Z)).mono ?_);intro e w2 ha;obtain⟨_,p2,v2,rfl,⟨rfl,F⟩,K,l,d0⟩:=ha.partE h Z;replace h:=l;clear l ha;(try dsimp only at h);replace b:=aA (b.out.move F K);clear F K;(try clear P Q R S T c5 U);(try clear V W Y);(try clear r0 r1 rf);(try clear m0 m1 m2 m3 m4 mf)) | (go_at_call 29;(with_reducible refine(Aer HN.out HP.out b.out.z true).mono ?_);intro e w3 ha;obtain⟨t,p3,v3,rfl,⟨⟨-,rfl⟩,F⟩,K,l,y⟩:=ha.partE h Z;replace h:=l;clear l ha;(try dsimp only at h);have e0:=aA (C5.new w3 (.int .i64 t.kd) (.string ⟨t.tx.toArray⟩) (.float .f64 t.nm) (.int .i64 t.f) (.int .i64 t.t) 70);replace b:=aA ((b.out.move F K).quiet (Ad w3 (.cells #[.int .i64 t.kd,.string ⟨t.tx.toArray⟩,.float .f64 t.nm,.int .i64 t.f,.int .i64 t.t] 70)));clear F K;unfold G1))
 ·go_region
  all_goals
   go_wp2;have e:=h.out.trans E.out;injection e with p H;injection p with p e3;subst p H;have a:=(Ab8 j.out.2.2.1 k.out b.out.o j.out.1 j.out.2.1).set 0 (.slice none 0 0) (by simp);have L:=a.c 0 _ rfl;have M:=(a.set 1 (.slice none 0 0) (by simp)).c 1 _ rfl;exact bodyPost_ret (v:=.tuple #[.agg #[.slice none 0 0,.slice none 0 0],.complex .f64 _ _,.int .i64 _]) (by simp[results,results15,go_sem,L,M]<;>exact rfl) rfl (AgW b.out.z B.out _ _)
 ·have e:=h.out.trans E.out
  injection e with p H;injection p with p e3;subst p H;have a:=((Ab8 j.out.2.2.1 k.out b.out.o j.out.1 j.out.2.1).set 0 (.slice va G.length vc) (by simp)).set 1 (.slice none 0 0) (by simp);have L:=a.c 0 _ rfl;have M:=a.c 1 _ rfl;exact bodyPost_ret (v:=.tuple #[.agg #[(.slice va G.length vc),.slice none 0 0],.complex .f64 0 0,.int .i64 0]) (by simp[results,results15,go_sem,L,M]<;>exact rfl) rfl (Aik b.out (aB j.out.2.2.2 k.out.size) C.out)
 go_region
 all_goals
  go_wp2;have e:=h.out.trans E.out;injection e with p H;injection p with p e3;subst p H;have a:=(Ab8 j.out.2.2.1 k.out b.out.o j.out.1 j.out.2.1).set 0 (.slice none 0 0) (by simp);have L:=a.c 0 _ rfl;have M:=(a.set 1 (.slice none 0 0) (by simp)).c 1 _ rfl;exact bodyPost_ret (v:=.tuple #[.agg #[.slice none 0 0,.slice none 0 0],.complex .f64 _ _,.int .i64 _]) (by simp[results,results15,go_sem,L,M]<;>exact rfl) rfl (AgW b.out.z B.out _ _)
end Go.Proofs.YtfblenhlildnaaaGreatDoor
