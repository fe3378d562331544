/- Ad Ae -/
import Derived.Test.YtjolfpcpcaocmaaGreatDoorAc
import Derived.Test.YtjolfpcpcaocmaaGreatDoorCy
set_option maxRecDepth 100000
set_option maxHeartbeats 1000000
open List renaming setIfInBounds_toArray->aA,getElem_cons_zero->aC,getElem_cons_succ->aD,getElem_toArray->aE,set_cons_zero->aF,set_cons_succ->aG
open Go.Lib renaming hid->aB
open Nat renaming le_refl->aH
namespace Go.Proofs.YtjolfpcpcaocmaaGreatDoor
open Go.Proofs.Tryz
open Go.RowKit
set_option linter.unusedSimpArgs false in
theorem AaR (w:World) (q:Nat) (h:Rd w q 0):Calls prog 161 #[.pointer (some ⟨q,0,none⟩)] w fun e r=>e = .returned (.agg #[.int .i64 1,.int .u64 0,.int .u64 8589934592,.int .u64 0,.int .u64 0,.slice none 0 0,.int .i64 1,.int .i64 1,.bool false])/\Rd r q 1/\Ae q w r:=by
 have d:=aB (h.below (Ad w (.cells #[.int .i64 0,.int .u64 0,.int .u64 0,.int .u64 0,.int .u64 0,.slice none 0 0,.int .i64 0,.int .i64 0,.bool false] 203)));have a:=aB (CN.new w [.int .i64 0,.int .u64 0,.int .u64 0,.int .u64 0,.int .u64 0,.slice none 0 0,.int .i64 0,.int .i64 0,.bool false] 203);have f:=aB (Ae.of_below q (Ad w (.cells #[.int .i64 0,.int .u64 0,.int .u64 0,.int .u64 0,.int .u64 0,.slice none 0 0,.int .i64 0,.int .i64 0,.bool false] 203)));have t:=h.lt;clear h;have s:(⟨#[97]⟩:ByteArray)[0].toNat=97:=rfl
 go_in
 go_wp2_with (first | (go_at_call 150;refine(Aa2 _ q d.out).mono ?_;rintro e S ⟨rfl,b⟩;replace d:=aB (d.out.below b);replace a:=aB (a.out.quiet b);replace f:=aB (f.out.trans (Ae.of_below q b));clear b;(try clear u q1 x y A B);obtain⟨u,q1,x,y,A,B⟩:=d.out;(try clear b0 b1 b2 b3 j k l m n o);have b0:=a.out.c 0 _ rfl;have b1:=a.out.c 1 _ rfl;have b2:=a.out.c 2 _ rfl;have b3:=a.out.c 3 _ rfl;have j:=a.out.c 4 _ rfl;have k:=a.out.c 5 _ rfl;have l:=a.out.c 6 _ rfl;have m:=a.out.c 7 _ rfl;have n:=a.out.c 8 _ rfl;have o:=a.out.z;replace d:=aB (d.out.set1 (.int .i64 1));replace a:=aB (a.out.far (q:=q) (i:=1) (by omega) (.int .i64 1));replace f:=aB (f.out.trans ((Ae.refl q _).set 1 (.int .i64 1)));obtain⟨M,N,O,P,Q,R⟩:=d.out) | (go_at_call 169;refine(Aba _ _ (by rw[World.cell?_alloc_at _ _ _ _ (by simp)];rfl)).mono ?_;rintro e T ⟨rfl,b⟩;replace b:=(Ad _ (.cells #[.int .u8 97] 5)).trans (b.mono (Ad _ (.cells #[.int .u8 97] 5)).size);replace d:=aB (d.out.below b);replace a:=aB (a.out.quiet b);replace f:=aB (f.out.trans (Ae.of_below q b));clear b;(try clear M N O P Q R)) | (go_at_call 165;refine(AaT _).mono ?_;rintro e C ⟨rfl,b⟩;replace d:=aB (d.out.below b);replace a:=aB (a.out.quiet b);replace f:=aB (f.out.trans (Ae.of_below q b));clear b;(try clear b0 b1 b2 b3 j k l m n o);have b0:=a.out.c 0 _ rfl;have b1:=a.out.c 1 _ rfl;have b2:=a.out.c 2 _ rfl;have b3:=a.out.c 3 _ rfl;have j:=a.out.c 4 _ rfl;have k:=a.out.c 5 _ rfl;have l:=a.out.c 6 _ rfl;have m:=a.out.c 7 _ rfl;have n:=a.out.c 8 _ rfl;have o:=a.out.z))
 have p:=YG C w.heap.size (.int .i64 1) (.int .u64 0) (.int .u64 8589934592) (.int .u64 0) (.int .u64 0) (.slice none 0 0) (.int .i64 1) (.int .i64 1) (.bool false);have g:=a.out.all9 (.int .i64 1) (.int .u64 0) (.int .u64 8589934592) (.int .u64 0) (.int .u64 0) (.slice none 0 0) (.int .i64 1) (.int .i64 1) (.bool false);have D:=g.c 0 _ rfl;have E:=g.c 1 _ rfl;have F:=g.c 2 _ rfl;have G:=g.c 3 _ rfl;have H:=g.c 4 _ rfl;have I:=g.c 5 _ rfl;have J:=g.c 6 _ rfl;have K:=g.c 7 _ rfl;have L:=g.c 8 _ rfl;exact bodyPost_ret (v:=.agg #[.int .i64 1,.int .u64 0,.int .u64 8589934592,.int .u64 0,.int .u64 0,.slice none 0 0,.int .i64 1,.int .i64 1,.bool false]) (by simp[results,results161,go_sem,D,E,F,G,H,I,J,K,L]<;>exact rfl) rfl ⟨rfl,d.out.only p (by omega),f.out.under p (aH _)⟩
set_option linter.unusedSimpArgs false in
theorem AaY (w:World) (k:Int) (b:Nat) (h:CN w b [.int .i64 1,.int .u64 0,.int .u64 8589934592,.int .u64 0,.int .u64 0,.slice none 0 0,.int .i64 1,.int .i64 1,.bool false]):Calls prog 156 #[.int .i64 k,.slice (some ⟨b,0,none⟩) 1 1] w fun e Q=>e = .returned (.agg #[.int .i64 1,.int .u64 0,.int .u64 8589934592,.int .u64 0,.int .u64 0,.slice none 0 0,.int .i64 1,.int .i64 1,.bool false])/\Below w.heap.size w Q:=by
 have l:=Ad w (.cells #[.int .i64 0,.int .u64 0,.int .u64 0,.int .u64 0,.int .u64 0,.slice none 0 0,.int .i64 0,.int .i64 0,.bool false] 203);have a:=aB (CN.new w [.int .i64 0,.int .u64 0,.int .u64 0,.int .u64 0,.int .u64 0,.slice none 0 0,.int .i64 0,.int .i64 0,.bool false] 203);have m:(w.alloc (.cells #[.int .i64 0,.int .u64 0,.int .u64 0,.int .u64 0,.int .u64 0,.slice none 0 0,.int .i64 0,.int .i64 0,.bool false] 203)).heap.size=w.heap.size+1:=(by simp);have i:=Ad (w.alloc (.cells #[.int .i64 0,.int .u64 0,.int .u64 0,.int .u64 0,.int .u64 0,.slice none 0 0,.int .i64 0,.int .i64 0,.bool false] 203)) (.cells #[.int .i64 1,.int .u64 0,.int .u64 8589934592,.int .u64 0,.int .u64 0,.slice none 0 0,.int .i64 1,.int .i64 1,.bool false] 203)
 have d:=aB (CN.new (w.alloc (.cells #[.int .i64 0,.int .u64 0,.int .u64 0,.int .u64 0,.int .u64 0,.slice none 0 0,.int .i64 0,.int .i64 0,.bool false] 203)) [.int .i64 1,.int .u64 0,.int .u64 8589934592,.int .u64 0,.int .u64 0,.slice none 0 0,.int .i64 1,.int .i64 1,.bool false] 203);rw[m] at d;replace a:=aB (a.out.quiet i);have j:=aB (l.trans (i.mono (by omega)));replace h:=h.quiet l
 (try clear n o p q r s t u x y);have n:=(aB h).out.c 0 _ rfl;have o:=(aB h).out.c 1 _ rfl;have p:=(aB h).out.c 2 _ rfl;have q:=(aB h).out.c 3 _ rfl;have r:=(aB h).out.c 4 _ rfl;have s:=(aB h).out.c 5 _ rfl;have t:=(aB h).out.c 6 _ rfl;have u:=(aB h).out.c 7 _ rfl;have x:=(aB h).out.c 8 _ rfl;have y:=(aB h).out.z
 clear h l i m
 go_in
 go_wp2
 go_loopg [6] 0 (fun g v wr=>v = .int .i64 (-1)/\Hid (CN wr w.heap.size [.int .i64 0,.int .u64 0,.int .u64 0,.int .u64 0,.int .u64 0,.slice none 0 0,.int .i64 0,.int .i64 0,.bool false])/\Hid (CN wr (w.heap.size+1) [.int .i64 1,.int .u64 0,.int .u64 8589934592,.int .u64 0,.int .u64 0,.slice none 0 0,.int .i64 1,.int .i64 1,.bool false])/\Hid (Below w.heap.size w wr))
 case atStart=>exact⟨rfl,a,d,j⟩
 clear a d j;obtain⟨rfl,a,d,j⟩:=hrel
 (try clear b0 b1 b2 b3 A B C D E F);have b0:=a.out.c 0 _ rfl;have b1:=a.out.c 1 _ rfl;have b2:=a.out.c 2 _ rfl;have b3:=a.out.c 3 _ rfl;have A:=a.out.c 4 _ rfl;have B:=a.out.c 5 _ rfl;have C:=a.out.c 6 _ rfl;have D:=a.out.c 7 _ rfl;have E:=a.out.c 8 _ rfl;have F:=a.out.z
 (try clear G H I J K c5 L M N O);have G:=d.out.c 0 _ rfl;have H:=d.out.c 1 _ rfl;have I:=d.out.c 2 _ rfl;have J:=d.out.c 3 _ rfl;have K:=d.out.c 4 _ rfl;have c5:=d.out.c 5 _ rfl;have L:=d.out.c 6 _ rfl;have M:=d.out.c 7 _ rfl;have N:=d.out.c 8 _ rfl;have O:=d.out.z
 go_wp2;have P:=YG wr w.heap.size (.int .i64 1) (.int .u64 0) (.int .u64 8589934592) (.int .u64 0) (.int .u64 0) (.slice none 0 0) (.int .i64 1) (.int .i64 1) (.bool false);have f:=a.out.all9 (.int .i64 1) (.int .u64 0) (.int .u64 8589934592) (.int .u64 0) (.int .u64 0) (.slice none 0 0) (.int .i64 1) (.int .i64 1) (.bool false);have R:=f.c 0 _ rfl;have S:=f.c 1 _ rfl;have T:=f.c 2 _ rfl;have U:=f.c 3 _ rfl;have V:=f.c 4 _ rfl;have W:=f.c 5 _ rfl;have X:=f.c 6 _ rfl;have Y:=f.c 7 _ rfl;have Z:=f.c 8 _ rfl;exact bodyPost_ret (v:=.agg #[.int .i64 1,.int .u64 0,.int .u64 8589934592,.int .u64 0,.int .u64 0,.slice none 0 0,.int .i64 1,.int .i64 1,.bool false]) (by simp[results,results156,go_sem,R,S,T,U,V,W,X,Y,Z]<;>exact rfl) rfl ⟨rfl,P.below_of j.out (aH _) j.out.size⟩
set_option linter.unusedSimpArgs false in
theorem AaP (w:World) (q:Nat) (h:Rd w q 0):Calls prog 158 #[.pointer (some ⟨q,0,none⟩)] w fun e t=>e = .returned (.agg #[.int .i64 1,.int .u64 0,.int .u64 8589934592,.int .u64 0,.int .u64 0,.slice none 0 0,.int .i64 1,.int .i64 1,.bool false])/\Rd t q 1/\Ae q w t:=by
 have d:=aB (h.below (Ad w (.cells #[.int .i64 0,.int .u64 0,.int .u64 0,.int .u64 0,.int .u64 0,.slice none 0 0,.int .i64 0,.int .i64 0,.bool false] 203)));have a:=aB (CN.new w [.int .i64 0,.int .u64 0,.int .u64 0,.int .u64 0,.int .u64 0,.slice none 0 0,.int .i64 0,.int .i64 0,.bool false] 203);have f:=aB (Ae.of_below q (Ad w (.cells #[.int .i64 0,.int .u64 0,.int .u64 0,.int .u64 0,.int .u64 0,.slice none 0 0,.int .i64 0,.int .i64 0,.bool false] 203)));have M:=h.lt;clear h
 go_in
 go_wp2_with (go_at_call 161;refine(AaR _ q d.out).mono ?_;rintro e r ⟨rfl,s,k⟩;replace d:=aB s;replace a:=aB (a.out.only k (by omega));replace f:=aB (f.out.trans k);clear s k;have b:=aB (CN.new r [.int .i64 1,.int .u64 0,.int .u64 8589934592,.int .u64 0,.int .u64 0,.slice none 0 0,.int .i64 1,.int .i64 1,.bool false] 203);have i:=Ad r (.cells #[.int .i64 1,.int .u64 0,.int .u64 8589934592,.int .u64 0,.int .u64 0,.slice none 0 0,.int .i64 1,.int .i64 1,.bool false] 203);replace d:=aB (d.out.below i);replace a:=aB (a.out.quiet i);replace f:=aB (f.out.trans (Ae.of_below q i));clear i)
 go_loopg [] 0 (fun g wr=>Hid (Rd wr q 1)/\Hid (CN wr w.heap.size [.int .i64 0,.int .u64 0,.int .u64 0,.int .u64 0,.int .u64 0,.slice none 0 0,.int .i64 0,.int .i64 0,.bool false])/\Hid (CN wr r.heap.size [.int .i64 1,.int .u64 0,.int .u64 8589934592,.int .u64 0,.int .u64 0,.slice none 0 0,.int .i64 1,.int .i64 1,.bool false])/\Hid (Ae q w wr))
 case atStart=>exact⟨d,a,b,f⟩
 clear d a b f;obtain⟨d,a,b,f⟩:=hrel
 (try clear l q1 m n o p);obtain⟨l,q1,m,n,o,p⟩:=d.out
 go_wp2_with (go_at_call 150;refine(AaE _ q d.out).mono ?_;rintro e N ⟨rfl,i⟩;replace b:=aB (b.out.quiet i);replace d:=aB (d.out.below i);replace a:=aB (a.out.quiet i);replace f:=aB (f.out.trans (Ae.of_below q i));clear i;(try clear l q1 m n o p);obtain⟨l,q1,m,n,o,p⟩:=d.out;(try clear b0 b1 b2 b3 u x y A B C);have b0:=a.out.c 0 _ rfl;have b1:=a.out.c 1 _ rfl;have b2:=a.out.c 2 _ rfl;have b3:=a.out.c 3 _ rfl;have u:=a.out.c 4 _ rfl;have x:=a.out.c 5 _ rfl;have y:=a.out.c 6 _ rfl;have A:=a.out.c 7 _ rfl;have B:=a.out.c 8 _ rfl;have C:=a.out.z;(try clear D E F G H c5 I J K L);have D:=b.out.c 0 _ rfl;have E:=b.out.c 1 _ rfl;have F:=b.out.c 2 _ rfl;have G:=b.out.c 3 _ rfl;have H:=b.out.c 4 _ rfl;have c5:=b.out.c 5 _ rfl;have I:=b.out.c 6 _ rfl;have J:=b.out.c 7 _ rfl;have K:=b.out.c 8 _ rfl;have L:=b.out.z)
 have k:=YG N w.heap.size (.int .i64 1) (.int .u64 0) (.int .u64 8589934592) (.int .u64 0) (.int .u64 0) (.slice none 0 0) (.int .i64 1) (.int .i64 1) (.bool false);have j:=a.out.all9 (.int .i64 1) (.int .u64 0) (.int .u64 8589934592) (.int .u64 0) (.int .u64 0) (.slice none 0 0) (.int .i64 1) (.int .i64 1) (.bool false);have O:=j.c 0 _ rfl;have P:=j.c 1 _ rfl;have Q:=j.c 2 _ rfl;have R:=j.c 3 _ rfl;have S:=j.c 4 _ rfl;have T:=j.c 5 _ rfl;have U:=j.c 6 _ rfl;have V:=j.c 7 _ rfl;have W:=j.c 8 _ rfl;exact bodyPost_ret (v:=.agg #[.int .i64 1,.int .u64 0,.int .u64 8589934592,.int .u64 0,.int .u64 0,.slice none 0 0,.int .i64 1,.int .i64 1,.bool false]) (by simp[results,results158,go_sem,O,P,Q,R,S,T,U,V,W]<;>exact rfl) rfl ⟨rfl,d.out.only k (by omega),f.out.under k (aH _)⟩
set_option linter.unusedSimpArgs false in
theorem AaF (w:World) (q:Nat) (h:Rd w q 0):Calls prog 154 #[.pointer (some ⟨q,0,none⟩)] w fun e C=>e = .returned (.agg #[.int .i64 1,.int .u64 0,.int .u64 8589934592,.int .u64 0,.int .u64 0,.slice none 0 0,.int .i64 1,.int .i64 1,.bool false])/\Rd C q 1/\Ae q w C:=by
 have b:=aB (h.below (Ad w (.cells #[.int .i64 0,.int .u64 0,.int .u64 0,.int .u64 0,.int .u64 0,.slice none 0 0,.int .i64 0,.int .i64 0,.bool false] 203)));have a:=aB (CN.new w [.int .i64 0,.int .u64 0,.int .u64 0,.int .u64 0,.int .u64 0,.slice none 0 0,.int .i64 0,.int .i64 0,.bool false] 203);have f:=aB (Ae.of_below q (Ad w (.cells #[.int .i64 0,.int .u64 0,.int .u64 0,.int .u64 0,.int .u64 0,.slice none 0 0,.int .i64 0,.int .i64 0,.bool false] 203)));have D:=h.lt;clear h
 go_in
 go_wp2_with (go_at_call 158;refine(AaP _ q b.out).mono ?_;rintro e r ⟨rfl,B,k⟩;replace b:=aB B;replace a:=aB (a.out.only k (by omega));replace f:=aB (f.out.trans k);clear B k;have j:=aB (CN.new r [.int .i64 1,.int .u64 0,.int .u64 8589934592,.int .u64 0,.int .u64 0,.slice none 0 0,.int .i64 1,.int .i64 1,.bool false] 203);have d:=Ad r (.cells #[.int .i64 1,.int .u64 0,.int .u64 8589934592,.int .u64 0,.int .u64 0,.slice none 0 0,.int .i64 1,.int .i64 1,.bool false] 203);replace b:=aB (b.out.below d);replace a:=aB (a.out.quiet d);replace f:=aB (f.out.trans (Ae.of_below q d));clear d)
 go_loopg [3] 0 (fun g v wr=>v = .slice (some ⟨r.heap.size,0,none⟩) 1 1/\Hid (Rd wr q 1)/\Hid (CN wr w.heap.size [.int .i64 0,.int .u64 0,.int .u64 0,.int .u64 0,.int .u64 0,.slice none 0 0,.int .i64 0,.int .i64 0,.bool false])/\Hid (CN wr r.heap.size [.int .i64 1,.int .u64 0,.int .u64 8589934592,.int .u64 0,.int .u64 0,.slice none 0 0,.int .i64 1,.int .i64 1,.bool false])/\Hid (Ae q w wr))
 case atStart=>exact⟨rfl,b,a,j,f⟩
 clear b a j f;obtain⟨rfl,b,a,j,f⟩:=hrel
 (try clear l q1 m n o p);obtain⟨l,q1,m,n,o,p⟩:=b.out
 go_wp2_with (first | (go_at_call 150;refine(AaE _ q b.out).mono ?_;rintro e O ⟨rfl,d⟩;replace j:=aB (j.out.quiet d);replace b:=aB (b.out.below d);replace a:=aB (a.out.quiet d);replace f:=aB (f.out.trans (Ae.of_below q d));clear d;(try clear l q1 m n o p);obtain⟨l,q1,m,n,o,p⟩:=b.out;(try clear b0 b1 b2 b3 s t u x y A);have b0:=a.out.c 0 _ rfl;have b1:=a.out.c 1 _ rfl;have b2:=a.out.c 2 _ rfl;have b3:=a.out.c 3 _ rfl;have s:=a.out.c 4 _ rfl;have t:=a.out.c 5 _ rfl;have u:=a.out.c 6 _ rfl;have x:=a.out.c 7 _ rfl;have y:=a.out.c 8 _ rfl;have A:=a.out.z) | (go_at_call 156;refine(AaY _ 2 _ j.out).mono ?_;rintro e E ⟨rfl,d⟩;replace b:=aB (b.out.below d);replace a:=aB (a.out.quiet d);replace f:=aB (f.out.trans (Ae.of_below q d));clear d;(try clear l q1 m n o p);obtain⟨l,q1,m,n,o,p⟩:=b.out;(try clear b0 b1 b2 b3 s t u x y A);have b0:=a.out.c 0 _ rfl;have b1:=a.out.c 1 _ rfl;have b2:=a.out.c 2 _ rfl;have b3:=a.out.c 3 _ rfl;have s:=a.out.c 4 _ rfl;have t:=a.out.c 5 _ rfl;have u:=a.out.c 6 _ rfl;have x:=a.out.c 7 _ rfl;have y:=a.out.c 8 _ rfl;have A:=a.out.z))
 have k:=YG E w.heap.size (.int .i64 1) (.int .u64 0) (.int .u64 8589934592) (.int .u64 0) (.int .u64 0) (.slice none 0 0) (.int .i64 1) (.int .i64 1) (.bool false);have i:=a.out.all9 (.int .i64 1) (.int .u64 0) (.int .u64 8589934592) (.int .u64 0) (.int .u64 0) (.slice none 0 0) (.int .i64 1) (.int .i64 1) (.bool false);have F:=i.c 0 _ rfl;have G:=i.c 1 _ rfl;have H:=i.c 2 _ rfl;have I:=i.c 3 _ rfl;have J:=i.c 4 _ rfl;have K:=i.c 5 _ rfl;have L:=i.c 6 _ rfl;have M:=i.c 7 _ rfl;have N:=i.c 8 _ rfl;exact bodyPost_ret (v:=.agg #[.int .i64 1,.int .u64 0,.int .u64 8589934592,.int .u64 0,.int .u64 0,.slice none 0 0,.int .i64 1,.int .i64 1,.bool false]) (by simp[results,results154,go_sem,F,G,H,I,J,K,L,M,N]<;>exact rfl) rfl ⟨rfl,b.out.only k (by omega),f.out.under k (aH _)⟩
set_option linter.unusedSimpArgs false in
theorem AaZ (w:World) (q:Nat) (h:Rd w q 0):Calls prog 149 #[.pointer (some ⟨q,0,none⟩)] w fun e C=>e = .returned (.agg #[.int .i64 1,.int .u64 0,.int .u64 8589934592,.int .u64 0,.int .u64 0,.slice none 0 0,.int .i64 1,.int .i64 1,.bool false])/\Rd C q 1/\Ae q w C:=by
 have b:=aB (h.below (Ad w (.cells #[.int .i64 0,.int .u64 0,.int .u64 0,.int .u64 0,.int .u64 0,.slice none 0 0,.int .i64 0,.int .i64 0,.bool false] 203)));have a:=aB (CN.new w [.int .i64 0,.int .u64 0,.int .u64 0,.int .u64 0,.int .u64 0,.slice none 0 0,.int .i64 0,.int .i64 0,.bool false] 203);have f:=aB (Ae.of_below q (Ad w (.cells #[.int .i64 0,.int .u64 0,.int .u64 0,.int .u64 0,.int .u64 0,.slice none 0 0,.int .i64 0,.int .i64 0,.bool false] 203)));have D:=h.lt;clear h
 go_in
 go_wp2_with (go_at_call 154;refine(AaF _ q b.out).mono ?_;rintro e r ⟨rfl,B,k⟩;replace b:=aB B;replace a:=aB (a.out.only k (by omega));replace f:=aB (f.out.trans k);clear B k;have j:=aB (CN.new r [.int .i64 1,.int .u64 0,.int .u64 8589934592,.int .u64 0,.int .u64 0,.slice none 0 0,.int .i64 1,.int .i64 1,.bool false] 203);have d:=Ad r (.cells #[.int .i64 1,.int .u64 0,.int .u64 8589934592,.int .u64 0,.int .u64 0,.slice none 0 0,.int .i64 1,.int .i64 1,.bool false] 203);replace b:=aB (b.out.below d);replace a:=aB (a.out.quiet d);replace f:=aB (f.out.trans (Ae.of_below q d));clear d)
 go_loopg [3] 0 (fun g v wr=>v = .slice (some ⟨r.heap.size,0,none⟩) 1 1/\Hid (Rd wr q 1)/\Hid (CN wr w.heap.size [.int .i64 0,.int .u64 0,.int .u64 0,.int .u64 0,.int .u64 0,.slice none 0 0,.int .i64 0,.int .i64 0,.bool false])/\Hid (CN wr r.heap.size [.int .i64 1,.int .u64 0,.int .u64 8589934592,.int .u64 0,.int .u64 0,.slice none 0 0,.int .i64 1,.int .i64 1,.bool false])/\Hid (Ae q w wr))
 case atStart=>exact⟨rfl,b,a,j,f⟩
 clear b a j f;obtain⟨rfl,b,a,j,f⟩:=hrel
 (try clear l q1 m n o p);obtain⟨l,q1,m,n,o,p⟩:=b.out
 go_wp2_with (first | (go_at_call 155;refine(Abf _ q _ b.out).mono ?_;rintro e O ⟨rfl,d⟩;replace j:=aB (j.out.quiet d);replace b:=aB (b.out.below d);replace a:=aB (a.out.quiet d);replace f:=aB (f.out.trans (Ae.of_below q d));clear d;(try clear l q1 m n o p);obtain⟨l,q1,m,n,o,p⟩:=b.out;(try clear b0 b1 b2 b3 s t u x y A);have b0:=a.out.c 0 _ rfl;have b1:=a.out.c 1 _ rfl;have b2:=a.out.c 2 _ rfl;have b3:=a.out.c 3 _ rfl;have s:=a.out.c 4 _ rfl;have t:=a.out.c 5 _ rfl;have u:=a.out.c 6 _ rfl;have x:=a.out.c 7 _ rfl;have y:=a.out.c 8 _ rfl;have A:=a.out.z) | (go_at_call 156;refine(AaY _ 3 _ j.out).mono ?_;rintro e E ⟨rfl,d⟩;replace b:=aB (b.out.below d);replace a:=aB (a.out.quiet d);replace f:=aB (f.out.trans (Ae.of_below q d));clear d;(try clear l q1 m n o p);obtain⟨l,q1,m,n,o,p⟩:=b.out;(try clear b0 b1 b2 b3 s t u x y A);have b0:=a.out.c 0 _ rfl;have b1:=a.out.c 1 _ rfl;have b2:=a.out.c 2 _ rfl;have b3:=a.out.c 3 _ rfl;have s:=a.out.c 4 _ rfl;have t:=a.out.c 5 _ rfl;have u:=a.out.c 6 _ rfl;have x:=a.out.c 7 _ rfl;have y:=a.out.c 8 _ rfl;have A:=a.out.z))
 have k:=YG E w.heap.size (.int .i64 1) (.int .u64 0) (.int .u64 8589934592) (.int .u64 0) (.int .u64 0) (.slice none 0 0) (.int .i64 1) (.int .i64 1) (.bool false);have i:=a.out.all9 (.int .i64 1) (.int .u64 0) (.int .u64 8589934592) (.int .u64 0) (.int .u64 0) (.slice none 0 0) (.int .i64 1) (.int .i64 1) (.bool false);have F:=i.c 0 _ rfl;have G:=i.c 1 _ rfl;have H:=i.c 2 _ rfl;have I:=i.c 3 _ rfl;have J:=i.c 4 _ rfl;have K:=i.c 5 _ rfl;have L:=i.c 6 _ rfl;have M:=i.c 7 _ rfl;have N:=i.c 8 _ rfl;exact bodyPost_ret (v:=.agg #[.int .i64 1,.int .u64 0,.int .u64 8589934592,.int .u64 0,.int .u64 0,.slice none 0 0,.int .i64 1,.int .i64 1,.bool false]) (by simp[results,results149,go_sem,F,G,H,I,J,K,L,M,N]<;>exact rfl) rfl ⟨rfl,b.out.only k (by omega),f.out.under k (aH _)⟩
set_option linter.unusedSimpArgs false in
theorem Aa1 (w:World):Calls prog 160 #[.int .i64 1] w fun e a=>e = .returned (.int .i64 0)/\Below w.heap.size w a:=by
 go_in
 go_wp2;go_ret;exact⟨rfl,Below.refl _ _⟩
set_option linter.unusedSimpArgs false in
theorem AaH (w:World):Calls prog 157 #[.agg #[.int .i64 1,.int .u64 0,.int .u64 8589934592,.int .u64 0,.int .u64 0,.slice none 0 0],.int .i64 40] w fun e t=>e = .returned (.tuple #[.int .i64 1,.bool true])/\Below w.heap.size w t:=by
 have d:=aB (CN.new w [.int .i64 1,.int .u64 0,.int .u64 8589934592,.int .u64 0,.int .u64 0,.slice none 0 0] 196);have f:=aB (Ad w (.cells #[.int .i64 1,.int .u64 0,.int .u64 8589934592,.int .u64 0,.int .u64 0,.slice none 0 0] 196));have m:=aB Aa1
 go_in
 go_wp2;refine wp_region_held_drew (S:=(fun o=>o.cell? ⟨w.heap.size,0,none⟩=some (.int .i64 1)/\o.cell? ⟨w.heap.size,5,none⟩=some (.slice none 0 0))) (by kernel_rfl) ⟨d.out.drew.c 0 _ rfl,d.out.drew.c 5 _ rfl⟩ (fun a=>?_);replace d:=aB d.out.drew;replace f:=aB (f.out.trans ⟨rfl,rfl,rfl,aH _,fun _ _=>rfl⟩:Below w.heap.size w (w.alloc (.cells #[.int .i64 1,.int .u64 0,.int .u64 8589934592,.int .u64 0,.int .u64 0,.slice none 0 0] 196)).drew)
 revert d f a
 generalize World.drew _=X;intro a d f;refine wpAnyH_take (i:=0) (v:=.int .i64 40) rfl (by kernel_rfl) (by kernel_rfl) (by kernel_rfl) (fun _ _ _ h=>h) (Or.inl ⟨by rfl,fun w b=>by first | go_simp | kernel_rfl⟩) a ?_
 (try dsimp only);try simp only[Act.put,aE,aC,aD,aA,aF,aG]
 refine wpAnyH_take (i:=1) (v:=.bool false) rfl (by kernel_rfl) (by kernel_rfl) (by kernel_rfl) (fun _ _ _ h=>h) (Or.inl ⟨by rfl,fun w b=>by first | go_simp | kernel_rfl⟩) a ?_
 (try dsimp only);try simp only[Act.put,aE,aC,aD,aA,aF,aG]
 refine wpAnyH_take (i:=2) (v:=.bool false) rfl (by kernel_rfl) (by kernel_rfl) (by kernel_rfl) (fun _ _ _ h=>h) (Or.inl ⟨by rfl,fun w b=>by first | go_simp | kernel_rfl⟩) a ?_
 (try dsimp only);try simp only[Act.put,aE,aC,aD,aA,aF,aG]
 refine wpAnyH_take (i:=3) (v:=.pointer (some ⟨w.heap.size,0,none⟩)) rfl (by kernel_rfl) (by kernel_rfl) (by kernel_rfl) (fun _ _ _ h=>h) (Or.inl ⟨by rfl,fun w b=>by first | go_simp | kernel_rfl⟩) a ?_
 (try dsimp only);try simp only[Act.put,aE,aC,aD,aA,aF,aG]
 refine wpAnyH_take (i:=4) (v:=.int .i64 1) rfl (by kernel_rfl) (by kernel_rfl) (by kernel_rfl) (fun _ _ _ h=>h) (Or.inl ⟨by rfl,fun w b=>by obtain⟨k,s1⟩:=b;first | go_simp | kernel_rfl⟩) a ?_
 (try dsimp only);try simp only[Act.put,aE,aC,aD,aA,aF,aG]
 refine wpAnyH_take (i:=6) (v:=.pointer (some ⟨w.heap.size,5,none⟩)) rfl (by kernel_rfl) (by kernel_rfl) (by kernel_rfl) (fun _ _ _ h=>h) (Or.inl ⟨by rfl,fun w b=>by first | go_simp | kernel_rfl⟩) a ?_
 (try dsimp only);try simp only[Act.put,aE,aC,aD,aA,aF,aG]
 refine wpAnyH_take (i:=7) (v:=.slice none 0 0) rfl (by kernel_rfl) (by kernel_rfl) (by kernel_rfl) (fun _ _ _ h=>h) (Or.inl ⟨by rfl,fun w b=>by obtain⟨k,s1⟩:=b;first | go_simp | kernel_rfl⟩) a ?_
 (try dsimp only);try simp only[Act.put,aE,aC,aD,aA,aF,aG]
 refine wpAnyH_take (i:=8) (v:=.int .i64 0) rfl (by kernel_rfl) (by kernel_rfl) (by kernel_rfl) (fun _ _ _ h=>h) (Or.inl ⟨by rfl,fun w b=>by first | go_simp | kernel_rfl⟩) a ?_
 (try dsimp only);try simp only[Act.put,aE,aC,aD,aA,aF,aG]
 refine wpAnyH_ready (rs:=[5]) (by kernel_rfl) (by simp) ?_;refine AllReadyH.cons rfl (fun K r=>?_) AllReadyH.nil;rw[if_pos (by rfl)]
 try go_simp
 go_at_call 160
 refine(m.out _).mono ?_;rintro e l ⟨rfl,j⟩;replace d:=aB (d.out.quiet j);replace f:=aB (f.out.trans (j.mono f.out.size));clear j a;have a:l.cell? ⟨w.heap.size,0,none⟩=some (.int .i64 1)/\l.cell? ⟨w.heap.size,5,none⟩=some (.slice none 0 0):=⟨d.out.c 0 _ rfl,d.out.c 5 _ rfl⟩;refine r.out _ _ a (fun _=>?_)
 (try dsimp only);try simp only[Act.put,aE,aC,aD,aA,aF,aG]
 refine wpAnyH_take (i:=9) (v:=.bool false) rfl (by kernel_rfl) (by kernel_rfl) (by kernel_rfl) (fun _ _ _ h=>h) (Or.inl ⟨by rfl,fun w b=>by first | go_simp | kernel_rfl⟩) a ?_
 (try dsimp only);try simp only[Act.put,aE,aC,aD,aA,aF,aG]
 refine wpAnyH_take (i:=10) (v:=.bool false) rfl (by kernel_rfl) (by kernel_rfl) (by kernel_rfl) (fun _ _ _ h=>h) (Or.inl ⟨by rfl,fun w b=>by first | go_simp | kernel_rfl⟩) a ?_
 (try dsimp only);try simp only[Act.put,aE,aC,aD,aA,aF,aG]
 refine wpAnyH_take (i:=11) (v:=.bool false) rfl (by kernel_rfl) (by kernel_rfl) (by kernel_rfl) (fun _ _ _ h=>h) (Or.inl ⟨by rfl,fun w b=>by first | go_simp | kernel_rfl⟩) a ?_
 (try dsimp only);try simp only[Act.put,aE,aC,aD,aA,aF,aG]
 refine wpAnyH_take (i:=12) (v:=.pointer (some ⟨w.heap.size,0,none⟩)) rfl (by kernel_rfl) (by kernel_rfl) (by kernel_rfl) (fun _ _ _ h=>h) (Or.inl ⟨by rfl,fun w b=>by first | go_simp | kernel_rfl⟩) a ?_
 (try dsimp only);try simp only[Act.put,aE,aC,aD,aA,aF,aG]
 refine wpAnyH_take (i:=13) (v:=.int .i64 1) rfl (by kernel_rfl) (by kernel_rfl) (by kernel_rfl) (fun _ _ _ h=>h) (Or.inl ⟨by rfl,fun w b=>by obtain⟨k,s1⟩:=b;first | go_simp | kernel_rfl⟩) a ?_
 (try dsimp only);try simp only[Act.put,aE,aC,aD,aA,aF,aG]
 refine wpAnyH_take (i:=14) (v:=.bool false) rfl (by kernel_rfl) (by kernel_rfl) (by kernel_rfl) (fun _ _ _ h=>h) (Or.inl ⟨by rfl,fun w b=>by first | go_simp | kernel_rfl⟩) a ?_
 (try dsimp only);try simp only[Act.put,aE,aC,aD,aA,aF,aG]
 refine wpAnyH_take (i:=15) (v:=.bool false) rfl (by kernel_rfl) (by kernel_rfl) (by kernel_rfl) (fun _ _ _ h=>h) (Or.inl ⟨by rfl,fun w b=>by first | go_simp | kernel_rfl⟩) a ?_
 (try dsimp only);try simp only[Act.put,aE,aC,aD,aA,aF,aG]
 refine wpAnyH_take (i:=16) (v:=undef) rfl (by kernel_rfl) (by kernel_rfl) (by kernel_rfl) (fun _ _ _ h=>h) (Or.inr ⟨by rfl,rfl⟩) a ?_
 (try dsimp only);try simp only[Act.put,aE,aC,aD,aA,aF,aG]
 refine wpAnyH_take (i:=17) (v:=undef) rfl (by kernel_rfl) (by kernel_rfl) (by kernel_rfl) (fun _ _ _ h=>h) (Or.inr ⟨by rfl,rfl⟩) a ?_
 (try dsimp only);try simp only[Act.put,aE,aC,aD,aA,aF,aG]
 refine wpAnyH_take (i:=18) (v:=undef) rfl (by kernel_rfl) (by kernel_rfl) (by kernel_rfl) (fun _ _ _ h=>h) (Or.inr ⟨by rfl,rfl⟩) a ?_
 (try dsimp only);try simp only[Act.put,aE,aC,aD,aA,aF,aG]
 refine wpAnyH_take (i:=19) (v:=undef) rfl (by kernel_rfl) (by kernel_rfl) (by kernel_rfl) (fun _ _ _ h=>h) (Or.inr ⟨by rfl,rfl⟩) a ?_
 (try dsimp only);try simp only[Act.put,aE,aC,aD,aA,aF,aG]
 refine wpAnyH_take (i:=20) (v:=.bool false) rfl (by kernel_rfl) (by kernel_rfl) (by kernel_rfl) (fun _ _ _ h=>h) (Or.inl ⟨by rfl,fun w b=>by first | go_simp | kernel_rfl⟩) a ?_
 (try dsimp only);try simp only[Act.put,aE,aC,aD,aA,aF,aG]
 refine wpAnyH_take (i:=21) (v:=.bool false) rfl (by kernel_rfl) (by kernel_rfl) (by kernel_rfl) (fun _ _ _ h=>h) (Or.inl ⟨by rfl,fun w b=>by first | go_simp | kernel_rfl⟩) a ?_
 (try dsimp only);try simp only[Act.put,aE,aC,aD,aA,aF,aG]
 refine wpAnyH_done (by kernel_rfl) ?_ _
 (try clear b0 b1 b2 b3 n p q);have b0:=d.out.c 0 _ rfl;have b1:=d.out.c 1 _ rfl;have b2:=d.out.c 2 _ rfl;have b3:=d.out.c 3 _ rfl;have n:=d.out.c 4 _ rfl;have p:=d.out.c 5 _ rfl;have q:=d.out.z
 go_wp2
 go_loopg [39,4] 0 (fun g i s wr=>i = .int .i64 0/\s = .int .i64 1/\Hid (Below w.heap.size w wr))
 case atStart=>exact⟨rfl,rfl,f⟩
 clear d f;obtain⟨rfl,rfl,f⟩:=hrel;go_wp2
 go_ret2
 exact⟨rfl,f.out⟩
set_option linter.unusedSimpArgs false in
theorem AaQ (w:World):Calls prog 152 #[.agg #[.int .i64 1,.int .u64 0,.int .u64 8589934592,.int .u64 0,.int .u64 0,.slice none 0 0]] w fun e d=>e = .returned (.bool true)/\Below w.heap.size w d:=by
 have b:=aB (AaH (w.alloc (.cells #[.int .i64 1,.int .u64 0,.int .u64 8589934592,.int .u64 0,.int .u64 0,.slice none 0 0] 196)));have a:=aB (Ad w (.cells #[.int .i64 1,.int .u64 0,.int .u64 8589934592,.int .u64 0,.int .u64 0,.slice none 0 0] 196))
 go_in
 go_wp2_with (go_at_call 157;refine b.out.mono ?_;rintro e f ⟨rfl,c⟩)
 go_ret;exact⟨rfl,a.out.trans (c.mono a.out.size)⟩
theorem _root_.Go.CN.all6 {w:World} {b:Nat} {v0 v1 v2 v3 v4 a:Value} (h:CN w b [v0,v1,v2,v3,v4,a]) (u0 u1 u2 u3 u4 u5:Value) :
  CN ((((((w.setCell ⟨b,0,none⟩ u0).setCell ⟨b,1,none⟩ u1).setCell ⟨b,2,none⟩ u2).setCell ⟨b,3,none⟩ u3).setCell ⟨b,4,none⟩ u4).setCell ⟨b,5,none⟩ u5) b [u0,u1,u2,u3,u4,u5] :=
 (((((h.set 0 u0 (by simp)).set 1 u1 (by simp)).set 2 u2 (by simp)).set 3 u3 (by simp)).set 4 u4 (by simp)).set 5 u5 (by simp)
theorem Abc (w:World) (b:Nat) (u0 u1 u2 u3 u4 u5:Value):Ae b w ((((((w.setCell ⟨b,0,none⟩ u0).setCell ⟨b,1,none⟩ u1).setCell ⟨b,2,none⟩ u2).setCell ⟨b,3,none⟩ u3).setCell ⟨b,4,none⟩ u4).setCell ⟨b,5,none⟩ u5) :=
 ((((((Ae.refl b w).set 0 u0).set 1 u1).set 2 u2).set 3 u3).set 4 u4).set 5 u5
set_option linter.unusedSimpArgs false in
theorem Aa' (w:World):Calls prog 146 #[.string ⟨#[97]⟩] w fun e G=>e = .returned (.tuple #[.agg #[.int .i64 1,.int .u64 0,.int .u64 8589934592,.int .u64 0,.int .u64 0,.slice none 0 0],.int .i64 0,.int .i64 0])/\Below w.heap.size w G:=by
 have b1:=Ad w (.cells #[.int .i64 0,.int .u64 0,.int .u64 0,.int .u64 0,.int .u64 0,.slice none 0 0] 196);have B:(w.alloc (.cells #[.int .i64 0,.int .u64 0,.int .u64 0,.int .u64 0,.int .u64 0,.slice none 0 0] 196)).heap.size=w.heap.size+1:=(by simp);have b2:=Ad (w.alloc (.cells #[.int .i64 0,.int .u64 0,.int .u64 0,.int .u64 0,.int .u64 0,.slice none 0 0] 196)) (.cells #[.string ⟨#[97]⟩,.int .i64 0,.int .i64 0,.int .i64 0,.int .i64 0] 201);have h:=C5.new (w.alloc (.cells #[.int .i64 0,.int .u64 0,.int .u64 0,.int .u64 0,.int .u64 0,.slice none 0 0] 196)) (.string ⟨#[97]⟩) (.int .i64 0) (.int .i64 0) (.int .i64 0) (.int .i64 0) 201;rw[B] at h
 have b:=aB ((CN.new w [.int .i64 0,.int .u64 0,.int .u64 0,.int .u64 0,.int .u64 0,.slice none 0 0] 196).quiet b2);have g:=aB h;have f:=aB (b1.trans (b2.mono (by omega)));clear b1 b2 h B
 go_in
 go_wp2_with (first | (go_at_call 149;refine(AaZ _ _ g.out).mono ?_;rintro e C ⟨rfl,h,A⟩;replace g:=aB h;replace b:=aB (b.out.only A (by omega));replace f:=aB (A.below_of f.out (by omega) f.out.size);clear h A;have a:=aB (CN.new C [.int .i64 1,.int .u64 0,.int .u64 8589934592,.int .u64 0,.int .u64 0,.slice none 0 0,.int .i64 1,.int .i64 1,.bool false] 203);have d:=Ad C (.cells #[.int .i64 1,.int .u64 0,.int .u64 8589934592,.int .u64 0,.int .u64 0,.slice none 0 0,.int .i64 1,.int .i64 1,.bool false] 203);replace g:=aB (g.out.below d);replace b:=aB (b.out.quiet d);replace f:=aB (f.out.trans (d.mono f.out.size));clear d;(try clear j q1 k l m n);obtain⟨j,q1,k,l,m,n⟩:=g.out) | (go_at_call 150;refine(AaE _ _ g.out).mono ?_;rintro e O ⟨rfl,d⟩;replace a:=aB (a.out.quiet d);replace g:=aB (g.out.below d);replace b:=aB (b.out.quiet d);replace f:=aB (f.out.trans (d.mono f.out.size));clear d;(try clear j q1 k l m n);obtain⟨j,q1,k,l,m,n⟩:=g.out;(try clear o p q r s c5 t u x y);have o:=a.out.c 0 _ rfl;have p:=a.out.c 1 _ rfl;have q:=a.out.c 2 _ rfl;have r:=a.out.c 3 _ rfl;have s:=a.out.c 4 _ rfl;have c5:=a.out.c 5 _ rfl;have t:=a.out.c 6 _ rfl;have u:=a.out.c 7 _ rfl;have x:=a.out.c 8 _ rfl;have y:=a.out.z) | (go_at_call 152;refine(AaQ _).mono ?_;rintro e H ⟨rfl,d⟩;replace a:=aB (a.out.quiet d);replace g:=aB (g.out.below d);replace b:=aB (b.out.quiet d);replace f:=aB (f.out.trans (d.mono f.out.size));clear d;(try clear j q1 k l m n);obtain⟨j,q1,k,l,m,n⟩:=g.out;(try clear o p q r s c5 t u x y);have o:=a.out.c 0 _ rfl;have p:=a.out.c 1 _ rfl;have q:=a.out.c 2 _ rfl;have r:=a.out.c 3 _ rfl;have s:=a.out.c 4 _ rfl;have c5:=a.out.c 5 _ rfl;have t:=a.out.c 6 _ rfl;have u:=a.out.c 7 _ rfl;have x:=a.out.c 8 _ rfl;have y:=a.out.z;(try clear b0 b1 b2 b3 D E F);have b0:=b.out.c 0 _ rfl;have b1:=b.out.c 1 _ rfl;have b2:=b.out.c 2 _ rfl;have b3:=b.out.c 3 _ rfl;have D:=b.out.c 4 _ rfl;have E:=b.out.c 5 _ rfl;have F:=b.out.z))
 have i:=b.out.all6 (.int .i64 1) (.int .u64 0) (.int .u64 8589934592) (.int .u64 0) (.int .u64 0) (.slice none 0 0);have I:=i.c 0 _ rfl;have J:=i.c 1 _ rfl;have K:=i.c 2 _ rfl;have L:=i.c 3 _ rfl;have M:=i.c 4 _ rfl;have N:=i.c 5 _ rfl;exact bodyPost_ret (v:=.tuple #[.agg #[.int .i64 1,.int .u64 0,.int .u64 8589934592,.int .u64 0,.int .u64 0,.slice none 0 0],.int .i64 0,.int .i64 0]) (by simp[results,results146,go_sem,I,J,K,L,M,N]<;>exact rfl) rfl ⟨rfl,(Abc H w.heap.size (.int .i64 1) (.int .u64 0) (.int .u64 8589934592) (.int .u64 0) (.int .u64 0) (.slice none 0 0)).below_of f.out (aH _) f.out.size⟩
def AaS (x:List UInt8):Option Bool:=if x=[97] then some true else none
theorem Aa0 (s:ByteArray) (c:World):TZ AaS s c:=by
 constructor
 ·intro x W _ h _
  unfold AaS at h;split at h
  ·rename_i e
   subst e;exact(Aa' W).mono fun e d ⟨a,b⟩=>⟨_,_,_,_,_,_,_,_,_,a,b⟩
  cases h
 intro x W _ h _;unfold AaS at h;split at h<;>cases h
end Go.Proofs.YtjolfpcpcaocmaaGreatDoor
