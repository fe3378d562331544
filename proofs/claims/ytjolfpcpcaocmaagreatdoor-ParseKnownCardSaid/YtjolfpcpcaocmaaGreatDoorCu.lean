/- Cu Cv -/
import Derived.Test.YtjolfpcpcaocmaaGreatDoorCr
import Derived.Test.YtjolfpcpcaocmaaGreatDoorCs
import Derived.Deep.RegionHeld3
set_option maxRecDepth 100000
set_option maxHeartbeats 4000000
open List renaming setIfInBounds_toArray->aA,getElem_cons_zero->aB,getElem_cons_succ->aC,getElem_toArray->aD,set_cons_zero->aE,set_cons_succ->aF
open Go.Lib renaming hid->aG
namespace Go.Proofs.YtjolfpcpcaocmaaGreatDoor
open Go.RowKit
structure YX (nx:Nat->Bool->Tk) (pl:Nat->Nat×Nat) (ere:List UInt8->Option Bool) (w0:World) (q:Nat) (s:ByteArray) (n:Nat):Prop where
 stmt:SC nx pl ere w0 q s n .stmt 26
 simple:SC nx pl ere w0 q s n .simple 41
 block:SC nx pl ere w0 q s n .block 22
 many:MC nx pl ere w0 q s n .many 58
variable {nx:Nat->Bool->Tk} {pl:Nat->Nat×Nat} {ere:List UInt8->Option Bool} {w0:World} {q:Nat} {s:ByteArray}
theorem YX.zero:YX nx pl ere w0 q s 0:=by constructor<;>exact fun p W h a=>absurd rfl a
theorem YT (a:F2 nx s w0) (b:PlC pl s) (d:TZ ere s w0):∀n,n<=1000000->∀m,m<=n->YX nx pl ere w0 q s m:=by
 intro n
 induction n with
 | zero=>intro _ m c;obtain rfl:m=0:=by omega
         exact YX.zero
 | succ n g =>
   intro i m c;have H:=g (by omega);rcases Nat.lt_or_ge m (n+1) with f | f
   ·exact H m (by omega)
   obtain rfl:m=n+1:=(by omega);have h:=H n (Nat.le_refl _);have e:=IE a b d (q:=q) n (by omega)
   exact { stmt:=QB a b n h.block h.simple
           simple:=XO a b n e.expr e.index h.many
           block:=M4 a b n (fun m c=>(H m c).stmt) (by omega)
           many:=YC a b n e.list }
theorem XP (b:F2 nx s w0) (c:PlC pl s) (a:TZ ere s w0) (n:Nat) (d:n<=1000000):YX nx pl ere w0 q s n:=YT b c a n d n (Nat.le_refl _)
open Go.Proofs.Tryz
def SD (nx:Nat->Bool->Tk) (p:Ps):Hf Int:=(Eb nx false p).bind fun u p=>if u.kd≠2 then JF u p else if u.nm=0 then .bad u.f 23 else .hush
theorem Y5 (w:World):(callFunc 45 #[.float .f64 0]).run prog w = .ok (.value (.float .f64 0)) w:=by kernel_rfl
theorem Yg (w:World):Calls prog 28 #[.float .f64 0] w fun e a=>e = .returned (.float .f64 0)/\w=a:=by
 have b:=Y5
 go_in
 go_wp2_with (fail)
 go_ret;exact⟨rfl,rfl⟩
set_option linter.unusedSimpArgs false in
theorem YF {nx:Nat->Bool->Tk} {J:World} {q:Nat} {s:ByteArray} (M:F2 nx s J):∀(p:Ps) (W:World),Pz J q s p W->SD nx p ≠ .hush->Calls prog 24 #[.pointer (some ⟨q,0,none⟩)] W (HJ q W (SD nx p) fun m Z v w'=>v = .int .i64 m/\Pz J q s Z w'):=by
 intro p W h H;obtain⟨r,D⟩:∃r,SD nx p=r:=⟨_,rfl⟩;rw[D] at H ⊢;rw[SD] at D;have d:=aG D;have c:=aG (Fx.start h);have N:=aG M;clear D h M;have U:∀(x:Value) (w:World),Sem.run prog (Instr.panic (.iface 44 x)) w = .halt (.panic (.iface 44 x)) w:=fun _ _=>rfl
 go_in
 go_wp2_with (first | (go_at_call 15;(with_reducible refine(DS N.out c.out.z false).mono ?_);intro e G ha;rcases ha.part d H with⟨f,D,rfl,I,V⟩ | ⟨k,p2,v,rfl,⟨rfl,rfl,Q,P,T,F⟩,I,C⟩;exact⟨rfl,BX V (c.out.o.trans I)⟩;replace d:=C;clear C ha;(try dsimp only at d);replace c:=aG ((c.out.quiet F).box (.int .i64 k.kd) (.string ⟨k.tx.toArray⟩) (.float .f64 k.nm) (.int .i64 k.f) (.int .i64 k.t) 49);clear Q P F I;(try clear l n b u y A);(try clear m10 m11 m12 m13 m14 m1f);(try clear m20 m21 m22 m23 m24 m2f);(try clear m30 m31 m32 m33 m34 m3f);obtain⟨l,n,b,u,y,A⟩:=c.out.b0;unfold G1;rcases Xt k.kd 2 with⟨j,L,O⟩ | ⟨j,L,O⟩;rotate_left;replace d:=Ym j d;clear j;rotate_left;replace d:=XY (not_not_intro j) d;clear j L;rcases Nat.eq_zero_or_pos k.nm with E | E;rotate_left;exact absurd (XY (Nat.pos_iff_ne_zero.1 E) d).out.symm H;rotate_left;replace d:=Ym E d;replace b:=b.trans (by rw[E]);clear E) | (go_at_call 17;(with_reducible refine(E3 c.out.z k).mono ?_);rintro e w9 ⟨rfl,F⟩;exact⟨rfl,BX (aG d.out.symm) (c.out.o.trans F)⟩))
 revert c b
 generalize World.alloc _ _=X;intro c b;have B:=aG b
 (try clear l n b u y A);(try clear m10 m11 m12 m13 m14 m1f);(try clear m20 m21 m22 m23 m24 m2f);(try clear m30 m31 m32 m33 m34 m3f)
 refine wp_region_held_drew (S:=fun o=>o.cell? ⟨G.heap.size,2,none⟩=some (.float .f64 0)) (by kernel_rfl) B.out (fun a=>?_);refine wpAnyH_take (i:=0) (v:=.pointer (some ⟨G.heap.size,2,none⟩)) rfl (by kernel_rfl) (by kernel_rfl) (by kernel_rfl) (fun _ _ _ h=>h) (Or.inl ⟨by rfl,fun w g=>by go_simp⟩) a ?_
 (try dsimp only);try simp only[Act.put,aD,aB,aC,aA,aE,aF]
 refine wpAnyH_take (i:=1) (v:=.float .f64 0) rfl (by kernel_rfl) (by kernel_rfl) (by kernel_rfl) (fun _ _ _ h=>h) (Or.inl ⟨by rfl,fun w g=>by go_simp⟩) a ?_
 (try dsimp only);try simp only[Act.put,aD,aB,aC,aA,aE,aF]
 refine wpAnyH_take (i:=2) (v:=.pointer (some ⟨G.heap.size,2,none⟩)) rfl (by kernel_rfl) (by kernel_rfl) (by kernel_rfl) (fun _ _ _ h=>h) (Or.inl ⟨by rfl,fun w g=>by go_simp⟩) a ?_
 (try dsimp only);try simp only[Act.put,aD,aB,aC,aA,aE,aF]
 refine wpAnyH_take (i:=3) (v:=.float .f64 0) rfl (by kernel_rfl) (by kernel_rfl) (by kernel_rfl) (fun _ _ _ h=>h) (Or.inl ⟨by rfl,fun w g=>by go_simp⟩) a ?_
 (try dsimp only);try simp only[Act.put,aD,aB,aC,aA,aE,aF]
 refine wpAnyH_ready (rs:=[4]) (by kernel_rfl) (by simp) ?_;refine AllReadyH.cons rfl (fun K R=>?_) AllReadyH.nil;rw[if_pos (by rfl)]
 try go_simp
 go_at_call 28
 refine(Yg _).mono ?_;rintro e w3 ⟨rfl,rfl⟩;refine R.out _ _ a (fun _=>?_)
 (try dsimp only);try simp only[Act.put,aD,aB,aC,aA,aE,aF]
 refine wpAnyH_take (i:=5) (v:=.bool false) rfl (by kernel_rfl) (by kernel_rfl) (by kernel_rfl) (fun _ _ _ h=>h) (Or.inl ⟨by rfl,fun w g=>by kernel_rfl⟩) a ?_
 (try dsimp only);try simp only[Act.put,aD,aB,aC,aA,aE,aF]
 refine wpAnyH_take (i:=6) (v:=.bool false) rfl (by kernel_rfl) (by kernel_rfl) (by kernel_rfl) (fun _ _ _ h=>h) (Or.inl ⟨by rfl,fun w g=>by go_simp⟩) a ?_
 (try dsimp only);try simp only[Act.put,aD,aB,aC,aA,aE,aF]
 refine wpAnyH_take (i:=7) (v:=.pointer (some ⟨G.heap.size,2,none⟩)) rfl (by kernel_rfl) (by kernel_rfl) (by kernel_rfl) (fun _ _ _ h=>h) (Or.inl ⟨by rfl,fun w g=>by go_simp⟩) a ?_
 (try dsimp only);try simp only[Act.put,aD,aB,aC,aA,aE,aF]
 refine wpAnyH_take (i:=8) (v:=.float .f64 0) rfl (by kernel_rfl) (by kernel_rfl) (by kernel_rfl) (fun _ _ _ h=>h) (Or.inl ⟨by rfl,fun w g=>by go_simp⟩) a ?_
 (try dsimp only);try simp only[Act.put,aD,aB,aC,aA,aE,aF]
 refine wpAnyH_take (i:=9) (v:=.bool true) rfl (by kernel_rfl) (by kernel_rfl) (by kernel_rfl) (fun _ _ _ h=>h) (Or.inl ⟨by rfl,fun w g=>by kernel_rfl⟩) a ?_
 (try dsimp only);try simp only[Act.put,aD,aB,aC,aA,aE,aF]
 refine wpAnyH_take (i:=10) (v:=.bool true) rfl (by kernel_rfl) (by kernel_rfl) (by kernel_rfl) (fun _ _ _ h=>h) (Or.inl ⟨by rfl,fun w g=>by go_simp⟩) a ?_
 (try dsimp only);try simp only[Act.put,aD,aB,aC,aA,aE,aF]
 refine wpAnyH_take (i:=11) (v:=.bool true) rfl (by kernel_rfl) (by kernel_rfl) (by kernel_rfl) (fun _ _ _ h=>h) (Or.inl ⟨by rfl,fun w g=>by go_simp⟩) a ?_
 (try dsimp only);try simp only[Act.put,aD,aB,aC,aA,aE,aF]
 refine wpAnyH_take (i:=12) (v:=undef) rfl (by kernel_rfl) (by kernel_rfl) (by kernel_rfl) (fun _ _ _ h=>h) (Or.inr ⟨by rfl,rfl⟩) a ?_
 (try dsimp only);try simp only[Act.put,aD,aB,aC,aA,aE,aF]
 refine wpAnyH_take (i:=13) (v:=undef) rfl (by kernel_rfl) (by kernel_rfl) (by kernel_rfl) (fun _ _ _ h=>h) (Or.inr ⟨by rfl,rfl⟩) a ?_
 (try dsimp only);try simp only[Act.put,aD,aB,aC,aA,aE,aF]
 refine wpAnyH_take (i:=14) (v:=undef) rfl (by kernel_rfl) (by kernel_rfl) (by kernel_rfl) (fun _ _ _ h=>h) (Or.inr ⟨by rfl,rfl⟩) a ?_
 (try dsimp only);try simp only[Act.put,aD,aB,aC,aA,aE,aF]
 refine wpAnyH_take (i:=15) (v:=.bool true) rfl (by kernel_rfl) (by kernel_rfl) (by kernel_rfl) (fun _ _ _ h=>h) (Or.inl ⟨by rfl,fun w g=>by go_simp⟩) a ?_
 (try dsimp only);try simp only[Act.put,aD,aB,aC,aA,aE,aF]
 refine wpAnyH_done (by kernel_rfl) ?_ _;clear a B;replace c:=aG c.out.drew
 revert c
 generalize World.drew _=Y;intro c;obtain⟨l,n,b,u,y,A⟩:=c.out.b0;go_wp2;exact⟨rfl,BX (aG d.out.symm) c.out.o⟩
end Go.Proofs.YtjolfpcpcaocmaaGreatDoor
