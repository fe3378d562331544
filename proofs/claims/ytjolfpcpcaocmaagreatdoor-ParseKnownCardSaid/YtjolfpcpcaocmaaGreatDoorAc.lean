/- Ac -/
import Derived.Test.YtjolfpcpcaocmaaGreatDoorNl
import Derived.Test.YtjolfpcpcaocmaaGreatDoorCk
import Derived.Deep.RegionHeld3
set_option maxRecDepth 100000
set_option maxHeartbeats 1000000
open List renaming setIfInBounds_toArray->aA,getElem_cons_zero->aB,getElem_cons_succ->aC,getElem_toArray->aD,set_cons_zero->aE,set_cons_succ->aF
open Go.Lib renaming hid->aG
namespace Go.Proofs.YtjolfpcpcaocmaaGreatDoor
open Go.Proofs.Tryz
open Go.RowKit
abbrev Rd (w:World) (q:Nat) (i:Int):Prop:=C5 w q (.string ⟨#[97]⟩) (.int .i64 i) (.int .i64 0) (.int .i64 0) (.int .i64 0)
theorem _root_.Go.CN.all4 {w:World} {b:Nat} {v0 v1 v2 v3:Value} (h:CN w b [v0,v1,v2,v3]) (u0 u1 u2 u3:Value) :
  CN ((((w.setCell ⟨b,0,none⟩ u0).setCell ⟨b,1,none⟩ u1).setCell ⟨b,2,none⟩ u2).setCell ⟨b,3,none⟩ u3) b [u0,u1,u2,u3] :=
 (((h.set 0 u0 (by simp)).set 1 u1 (by simp)).set 2 u2 (by simp)).set 3 u3 (by simp)
theorem AaX (w:World) (b:Nat) (u0 u1 u2 u3:Value):Ae b w ((((w.setCell ⟨b,0,none⟩ u0).setCell ⟨b,1,none⟩ u1).setCell ⟨b,2,none⟩ u2).setCell ⟨b,3,none⟩ u3) :=
 ((((Ae.refl b w).set 0 u0).set 1 u1).set 2 u2).set 3 u3
set_option linter.unusedSimpArgs false in
theorem Aa2 (w:World) (q:Nat) (h:Rd w q 0):Calls prog 150 #[.pointer (some ⟨q,0,none⟩)] w fun e d=>e = .returned (.bool true)/\Below w.heap.size w d:=by
 have a:w.drew.cell? ⟨q,0,none⟩=some (.string ⟨#[97]⟩)/\w.drew.cell? ⟨q,1,none⟩=some (.int .i64 0):=⟨h.c0,h.c1⟩;clear h
 go_in
 go_wp2;refine wp_region_held_drew (S:=(fun o=>o.cell? ⟨q,0,none⟩=some (.string ⟨#[97]⟩)/\o.cell? ⟨q,1,none⟩=some (.int .i64 0))) (by kernel_rfl) a (fun _=>?_);refine wpAnyH_take (i:=0) (v:=.pointer (some ⟨q,0,none⟩)) rfl (by kernel_rfl) (by kernel_rfl) (by kernel_rfl) (fun _ _ _ h=>h) (Or.inl ⟨by rfl,fun w b=>by first | go_simp | kernel_rfl⟩) a ?_
 (try dsimp only);try simp only[Act.put,aD,aB,aC,aA,aE,aF]
 refine wpAnyH_take (i:=1) (v:=.pointer (some ⟨q,0,none⟩)) rfl (by kernel_rfl) (by kernel_rfl) (by kernel_rfl) (fun _ _ _ h=>h) (Or.inl ⟨by rfl,fun w b=>by first | go_simp | kernel_rfl⟩) a ?_
 (try dsimp only);try simp only[Act.put,aD,aB,aC,aA,aE,aF]
 refine wpAnyH_take (i:=2) (v:=.pointer (some ⟨q,1,none⟩)) rfl (by kernel_rfl) (by kernel_rfl) (by kernel_rfl) (fun _ _ _ h=>h) (Or.inl ⟨by rfl,fun w b=>by first | go_simp | kernel_rfl⟩) a ?_
 (try dsimp only);try simp only[Act.put,aD,aB,aC,aA,aE,aF]
 refine wpAnyH_take (i:=3) (v:=.int .i64 0) rfl (by kernel_rfl) (by kernel_rfl) (by kernel_rfl) (fun _ _ _ h=>h) (Or.inl ⟨by rfl,fun w b=>by obtain⟨c,s1⟩:=b;first | go_simp | kernel_rfl⟩) a ?_
 (try dsimp only);try simp only[Act.put,aD,aB,aC,aA,aE,aF]
 refine wpAnyH_take (i:=4) (v:=.pointer (some ⟨q,0,none⟩)) rfl (by kernel_rfl) (by kernel_rfl) (by kernel_rfl) (fun _ _ _ h=>h) (Or.inl ⟨by rfl,fun w b=>by first | go_simp | kernel_rfl⟩) a ?_
 (try dsimp only);try simp only[Act.put,aD,aB,aC,aA,aE,aF]
 refine wpAnyH_take (i:=5) (v:=.pointer (some ⟨q,0,none⟩)) rfl (by kernel_rfl) (by kernel_rfl) (by kernel_rfl) (fun _ _ _ h=>h) (Or.inl ⟨by rfl,fun w b=>by first | go_simp | kernel_rfl⟩) a ?_
 (try dsimp only);try simp only[Act.put,aD,aB,aC,aA,aE,aF]
 refine wpAnyH_take (i:=6) (v:=.pointer (some ⟨q,0,none⟩)) rfl (by kernel_rfl) (by kernel_rfl) (by kernel_rfl) (fun _ _ _ h=>h) (Or.inl ⟨by rfl,fun w b=>by first | go_simp | kernel_rfl⟩) a ?_
 (try dsimp only);try simp only[Act.put,aD,aB,aC,aA,aE,aF]
 refine wpAnyH_take (i:=7) (v:=.string ⟨#[97]⟩) rfl (by kernel_rfl) (by kernel_rfl) (by kernel_rfl) (fun _ _ _ h=>h) (Or.inl ⟨by rfl,fun w b=>by obtain⟨c,s1⟩:=b;first | go_simp | kernel_rfl⟩) a ?_
 (try dsimp only);try simp only[Act.put,aD,aB,aC,aA,aE,aF]
 refine wpAnyH_take (i:=8) (v:=.int .i64 1) rfl (by kernel_rfl) (by kernel_rfl) (by kernel_rfl) (fun _ _ _ h=>h) (Or.inl ⟨by rfl,fun w b=>by first | go_simp | kernel_rfl⟩) a ?_
 (try dsimp only);try simp only[Act.put,aD,aB,aC,aA,aE,aF]
 refine wpAnyH_take (i:=9) (v:=.bool true) rfl (by kernel_rfl) (by kernel_rfl) (by kernel_rfl) (fun _ _ _ h=>h) (Or.inl ⟨by rfl,fun w b=>by first | go_simp | kernel_rfl⟩) a ?_
 (try dsimp only);try simp only[Act.put,aD,aB,aC,aA,aE,aF]
 refine wpAnyH_take (i:=10) (v:=.bool true) rfl (by kernel_rfl) (by kernel_rfl) (by kernel_rfl) (fun _ _ _ h=>h) (Or.inl ⟨by rfl,fun w b=>by first | go_simp | kernel_rfl⟩) a ?_
 (try dsimp only);try simp only[Act.put,aD,aB,aC,aA,aE,aF]
 refine wpAnyH_done (by kernel_rfl) ?_ _;go_wp2;go_ret;exact⟨rfl,⟨rfl,rfl,rfl,Nat.le_refl _,fun _ _=>rfl⟩⟩
set_option linter.unusedSimpArgs false in
theorem AaE (w:World) (q:Nat) (h:Rd w q 1):Calls prog 150 #[.pointer (some ⟨q,0,none⟩)] w fun e d=>e = .returned (.bool false)/\Below w.heap.size w d:=by
 have a:w.drew.cell? ⟨q,0,none⟩=some (.string ⟨#[97]⟩)/\w.drew.cell? ⟨q,1,none⟩=some (.int .i64 1):=⟨h.c0,h.c1⟩;clear h
 go_in
 go_wp2;refine wp_region_held_drew (S:=(fun o=>o.cell? ⟨q,0,none⟩=some (.string ⟨#[97]⟩)/\o.cell? ⟨q,1,none⟩=some (.int .i64 1))) (by kernel_rfl) a (fun _=>?_);refine wpAnyH_take (i:=0) (v:=.pointer (some ⟨q,0,none⟩)) rfl (by kernel_rfl) (by kernel_rfl) (by kernel_rfl) (fun _ _ _ h=>h) (Or.inl ⟨by rfl,fun w b=>by first | go_simp | kernel_rfl⟩) a ?_
 (try dsimp only);try simp only[Act.put,aD,aB,aC,aA,aE,aF]
 refine wpAnyH_take (i:=1) (v:=.pointer (some ⟨q,0,none⟩)) rfl (by kernel_rfl) (by kernel_rfl) (by kernel_rfl) (fun _ _ _ h=>h) (Or.inl ⟨by rfl,fun w b=>by first | go_simp | kernel_rfl⟩) a ?_
 (try dsimp only);try simp only[Act.put,aD,aB,aC,aA,aE,aF]
 refine wpAnyH_take (i:=2) (v:=.pointer (some ⟨q,1,none⟩)) rfl (by kernel_rfl) (by kernel_rfl) (by kernel_rfl) (fun _ _ _ h=>h) (Or.inl ⟨by rfl,fun w b=>by first | go_simp | kernel_rfl⟩) a ?_
 (try dsimp only);try simp only[Act.put,aD,aB,aC,aA,aE,aF]
 refine wpAnyH_take (i:=3) (v:=.int .i64 1) rfl (by kernel_rfl) (by kernel_rfl) (by kernel_rfl) (fun _ _ _ h=>h) (Or.inl ⟨by rfl,fun w b=>by obtain⟨c,s1⟩:=b;first | go_simp | kernel_rfl⟩) a ?_
 (try dsimp only);try simp only[Act.put,aD,aB,aC,aA,aE,aF]
 refine wpAnyH_take (i:=4) (v:=.pointer (some ⟨q,0,none⟩)) rfl (by kernel_rfl) (by kernel_rfl) (by kernel_rfl) (fun _ _ _ h=>h) (Or.inl ⟨by rfl,fun w b=>by first | go_simp | kernel_rfl⟩) a ?_
 (try dsimp only);try simp only[Act.put,aD,aB,aC,aA,aE,aF]
 refine wpAnyH_take (i:=5) (v:=.pointer (some ⟨q,0,none⟩)) rfl (by kernel_rfl) (by kernel_rfl) (by kernel_rfl) (fun _ _ _ h=>h) (Or.inl ⟨by rfl,fun w b=>by first | go_simp | kernel_rfl⟩) a ?_
 (try dsimp only);try simp only[Act.put,aD,aB,aC,aA,aE,aF]
 refine wpAnyH_take (i:=6) (v:=.pointer (some ⟨q,0,none⟩)) rfl (by kernel_rfl) (by kernel_rfl) (by kernel_rfl) (fun _ _ _ h=>h) (Or.inl ⟨by rfl,fun w b=>by first | go_simp | kernel_rfl⟩) a ?_
 (try dsimp only);try simp only[Act.put,aD,aB,aC,aA,aE,aF]
 refine wpAnyH_take (i:=7) (v:=.string ⟨#[97]⟩) rfl (by kernel_rfl) (by kernel_rfl) (by kernel_rfl) (fun _ _ _ h=>h) (Or.inl ⟨by rfl,fun w b=>by obtain⟨c,s1⟩:=b;first | go_simp | kernel_rfl⟩) a ?_
 (try dsimp only);try simp only[Act.put,aD,aB,aC,aA,aE,aF]
 refine wpAnyH_take (i:=8) (v:=.int .i64 1) rfl (by kernel_rfl) (by kernel_rfl) (by kernel_rfl) (fun _ _ _ h=>h) (Or.inl ⟨by rfl,fun w b=>by first | go_simp | kernel_rfl⟩) a ?_
 (try dsimp only);try simp only[Act.put,aD,aB,aC,aA,aE,aF]
 refine wpAnyH_take (i:=9) (v:=.bool false) rfl (by kernel_rfl) (by kernel_rfl) (by kernel_rfl) (fun _ _ _ h=>h) (Or.inl ⟨by rfl,fun w b=>by first | go_simp | kernel_rfl⟩) a ?_
 (try dsimp only);try simp only[Act.put,aD,aB,aC,aA,aE,aF]
 refine wpAnyH_take (i:=10) (v:=.bool false) rfl (by kernel_rfl) (by kernel_rfl) (by kernel_rfl) (fun _ _ _ h=>h) (Or.inl ⟨by rfl,fun w b=>by first | go_simp | kernel_rfl⟩) a ?_
 (try dsimp only);try simp only[Act.put,aD,aB,aC,aA,aE,aF]
 refine wpAnyH_done (by kernel_rfl) ?_ _;go_wp2;go_ret;exact⟨rfl,⟨rfl,rfl,rfl,Nat.le_refl _,fun _ _=>rfl⟩⟩
set_option linter.unusedSimpArgs false in
theorem Abf (w:World) (q:Nat) (c:Int) (h:Rd w q 1):Calls prog 155 #[.pointer (some ⟨q,0,none⟩),.int .u8 c] w fun e g=>e = .returned (.bool false)/\Below w.heap.size w g:=by
 have d:=aG (AaE w.drew q (h.kept rfl));clear h
 go_in
 go_wp2;refine wp_region_held_drew (S:=fun _=>True) (by kernel_rfl) trivial (fun _=>?_);refine wpAnyH_take (i:=0) (v:=.pointer (some ⟨q,0,none⟩)) rfl (by kernel_rfl) (by kernel_rfl) (by kernel_rfl) (fun _ _ _ h=>h) (Or.inl ⟨by rfl,fun w b=>by first | go_simp | kernel_rfl⟩) trivial ?_
 (try dsimp only);try simp only[Act.put,aD,aB,aC,aA,aE,aF]
 refine wpAnyH_ready (rs:=[1]) (by kernel_rfl) (by simp) ?_;refine AllReadyH.cons rfl (fun K f=>?_) AllReadyH.nil;rw[if_pos (by rfl)]
 try go_simp
 go_at_call 150
 refine d.out.mono ?_;rintro e j ⟨rfl,a⟩;refine f.out _ _ trivial (fun _=>?_)
 (try dsimp only);try simp only[Act.put,aD,aB,aC,aA,aE,aF]
 refine wpAnyH_take (i:=2) (v:=.bool false) rfl (by kernel_rfl) (by kernel_rfl) (by kernel_rfl) (fun _ _ _ h=>h) (Or.inl ⟨by rfl,fun w b=>by first | go_simp | kernel_rfl⟩) trivial ?_
 (try dsimp only);try simp only[Act.put,aD,aB,aC,aA,aE,aF]
 refine wpAnyH_take (i:=3) (v:=undef) rfl (by kernel_rfl) (by kernel_rfl) (by kernel_rfl) (fun _ _ _ h=>h) (Or.inr ⟨by rfl,rfl⟩) trivial ?_
 (try dsimp only);try simp only[Act.put,aD,aB,aC,aA,aE,aF]
 refine wpAnyH_take (i:=4) (v:=undef) rfl (by kernel_rfl) (by kernel_rfl) (by kernel_rfl) (fun _ _ _ h=>h) (Or.inr ⟨by rfl,rfl⟩) trivial ?_
 (try dsimp only);try simp only[Act.put,aD,aB,aC,aA,aE,aF]
 refine wpAnyH_take (i:=5) (v:=undef) rfl (by kernel_rfl) (by kernel_rfl) (by kernel_rfl) (fun _ _ _ h=>h) (Or.inr ⟨by rfl,rfl⟩) trivial ?_
 (try dsimp only);try simp only[Act.put,aD,aB,aC,aA,aE,aF]
 refine wpAnyH_take (i:=6) (v:=undef) rfl (by kernel_rfl) (by kernel_rfl) (by kernel_rfl) (fun _ _ _ h=>h) (Or.inr ⟨by rfl,rfl⟩) trivial ?_
 (try dsimp only);try simp only[Act.put,aD,aB,aC,aA,aE,aF]
 refine wpAnyH_take (i:=7) (v:=undef) rfl (by kernel_rfl) (by kernel_rfl) (by kernel_rfl) (fun _ _ _ h=>h) (Or.inr ⟨by rfl,rfl⟩) trivial ?_
 (try dsimp only);try simp only[Act.put,aD,aB,aC,aA,aE,aF]
 refine wpAnyH_take (i:=8) (v:=undef) rfl (by kernel_rfl) (by kernel_rfl) (by kernel_rfl) (fun _ _ _ h=>h) (Or.inr ⟨by rfl,rfl⟩) trivial ?_
 (try dsimp only);try simp only[Act.put,aD,aB,aC,aA,aE,aF]
 refine wpAnyH_take (i:=9) (v:=undef) rfl (by kernel_rfl) (by kernel_rfl) (by kernel_rfl) (fun _ _ _ h=>h) (Or.inr ⟨by rfl,rfl⟩) trivial ?_
 (try dsimp only);try simp only[Act.put,aD,aB,aC,aA,aE,aF]
 refine wpAnyH_take (i:=10) (v:=undef) rfl (by kernel_rfl) (by kernel_rfl) (by kernel_rfl) (fun _ _ _ h=>h) (Or.inr ⟨by rfl,rfl⟩) trivial ?_
 (try dsimp only);try simp only[Act.put,aD,aB,aC,aA,aE,aF]
 refine wpAnyH_take (i:=11) (v:=undef) rfl (by kernel_rfl) (by kernel_rfl) (by kernel_rfl) (fun _ _ _ h=>h) (Or.inr ⟨by rfl,rfl⟩) trivial ?_
 (try dsimp only);try simp only[Act.put,aD,aB,aC,aA,aE,aF]
 refine wpAnyH_take (i:=12) (v:=undef) rfl (by kernel_rfl) (by kernel_rfl) (by kernel_rfl) (fun _ _ _ h=>h) (Or.inr ⟨by rfl,rfl⟩) trivial ?_
 (try dsimp only);try simp only[Act.put,aD,aB,aC,aA,aE,aF]
 refine wpAnyH_take (i:=13) (v:=undef) rfl (by kernel_rfl) (by kernel_rfl) (by kernel_rfl) (fun _ _ _ h=>h) (Or.inr ⟨by rfl,rfl⟩) trivial ?_
 (try dsimp only);try simp only[Act.put,aD,aB,aC,aA,aE,aF]
 refine wpAnyH_take (i:=14) (v:=.bool false) rfl (by kernel_rfl) (by kernel_rfl) (by kernel_rfl) (fun _ _ _ h=>h) (Or.inl ⟨by rfl,fun w b=>by first | go_simp | kernel_rfl⟩) trivial ?_
 (try dsimp only);try simp only[Act.put,aD,aB,aC,aA,aE,aF]
 refine wpAnyH_take (i:=15) (v:=.bool false) rfl (by kernel_rfl) (by kernel_rfl) (by kernel_rfl) (fun _ _ _ h=>h) (Or.inl ⟨by rfl,fun w b=>by first | go_simp | kernel_rfl⟩) trivial ?_
 (try dsimp only);try simp only[Act.put,aD,aB,aC,aA,aE,aF]
 refine wpAnyH_done (by kernel_rfl) ?_ _;go_wp2;go_ret;exact⟨rfl,⟨a.os,a.tape,a.output,a.size,a.block⟩⟩
set_option linter.unusedSimpArgs false in
theorem AaU (w:World):Calls prog 176 #[.agg #[.int .u64 0,.int .u64 0,.int .u64 0,.int .u64 0],.int .u8 97] w fun e b=>e = .returned (.agg #[.int .u64 0,.int .u64 8589934592,.int .u64 0,.int .u64 0])/\Below w.heap.size w b:=by
 have a:bits .or .u64 0 8589934592=8589934592:=by decide
 go_in
 go_wp2;exact bodyPost_ret (v:=.agg #[.int .u64 0,.int .u64 8589934592,.int .u64 0,.int .u64 0]) (by simp[results,results176,go_sem]<;>exact rfl) rfl ⟨rfl,(Ad _ _).trans ((Ad _ _).mono (by simp))⟩
set_option linter.unusedSimpArgs false in
theorem AaT (w:World):Calls prog 165 #[.int .i64 1,.agg #[.int .u64 0,.int .u64 8589934592,.int .u64 0,.int .u64 0]] w fun e a=>e = .returned (.agg #[.int .i64 1,.int .u64 0,.int .u64 8589934592,.int .u64 0,.int .u64 0,.slice none 0 0,.int .i64 1,.int .i64 1,.bool false])/\Below w.heap.size w a:=by
 go_in
 go_wp2;exact bodyPost_ret (v:=.agg #[.int .i64 1,.int .u64 0,.int .u64 8589934592,.int .u64 0,.int .u64 0,.slice none 0 0,.int .i64 1,.int .i64 1,.bool false]) (by simp[results,results165,go_sem]<;>exact rfl) rfl ⟨rfl,(Ad _ _).trans ((Ad _ _).mono (by simp))⟩
set_option linter.unusedSimpArgs false in
theorem Aba (w:World) (b:Nat) (h:w.cell? ⟨b,0,none⟩=some (.int .u8 97)):Calls prog 169 #[.slice (some ⟨b,0,none⟩) 1 1] w fun e x=>e = .returned (.agg #[.int .u64 0,.int .u64 8589934592,.int .u64 0,.int .u64 0])/\Below w.heap.size w x:=by
 have s:=aG AaU;have l:=World.block_lt_of_cell? w _ h;dsimp only at l;have k0:=(CN.new w [.int .u64 0,.int .u64 0,.int .u64 0,.int .u64 0] 193).alloc (.cells #[.int .u64 0,.int .u64 0,.int .u64 0,.int .u64 0] 193);have k1:=CN.new (w.alloc (.cells #[.int .u64 0,.int .u64 0,.int .u64 0,.int .u64 0] 193)) [.int .u64 0,.int .u64 0,.int .u64 0,.int .u64 0] 193;rw[show (w.alloc (.cells #[.int .u64 0,.int .u64 0,.int .u64 0,.int .u64 0] 193)).heap.size=w.heap.size+1 by simp] at k1;have b0:=(Ad w (.cells #[.int .u64 0,.int .u64 0,.int .u64 0,.int .u64 0] 193)).trans ((Ad (w.alloc (.cells #[.int .u64 0,.int .u64 0,.int .u64 0,.int .u64 0] 193)) (.cells #[.int .u64 0,.int .u64 0,.int .u64 0,.int .u64 0] 193)).mono (by simp))
 have f:=aG k0;have a:=aG k1;have d:=aG b0;have HC:=aG h;clear k0 k1 b0 h
 go_in
 go_wp2
 go_loopg [8] 1 (fun g v wr=>∃k:Nat,v = .int .i64 k/\k+g=1/\Hid (Below w.heap.size w wr)/\Hid (CN wr w.heap.size [.int .u64 0,.int .u64 0,.int .u64 0,.int .u64 0])/\Hid (CN wr (w.heap.size+1) (if k=0 then [.int .u64 0,.int .u64 0,.int .u64 0,.int .u64 0] else [.int .u64 0,.int .u64 8589934592,.int .u64 0,.int .u64 0])))
 case atStart=>exact⟨0,rfl,rfl,d,f,a⟩
 clear d f a;obtain⟨k,rfl,J,d,f,a⟩:=hrel;have z:=fun i u e=>f.out.c i u e;have E:=z 0 _ rfl;have F:=z 1 _ rfl;have G:=z 2 _ rfl;have H:=z 3 _ rfl;have I:=f.out.z;clear z;rcases (show k=0\/k=1 by omega) with rfl | rfl
 ·rw[if_pos rfl] at a
  have m:=a.out.c 0 _ rfl;have n:=a.out.c 1 _ rfl;have p:=a.out.c 2 _ rfl;have q:=a.out.c 3 _ rfl;have r:=a.out.z;have t:=Aa HC.out d.out
  go_wp2_with (go_at_call 176;refine(s.out _).mono ?_;rintro e y ⟨rfl,j⟩;clear m n p q r E F G H I t;replace d:=aG (d.out.trans (j.mono d.out.size));replace f:=aG (f.out.quiet j);replace a:=aG (a.out.quiet j);clear j;have m:=a.out.c 0 _ rfl;have n:=a.out.c 1 _ rfl;have p:=a.out.c 2 _ rfl;have q:=a.out.c 3 _ rfl;have r:=a.out.z)
  have o:=AaX y (w.heap.size+1) (.int .u64 0) (.int .u64 8589934592) (.int .u64 0) (.int .u64 0)
  go_roundg 0
  case rel=>exact⟨1,rfl,rfl,aG (o.below_of d.out (by omega) d.out.size),aG (f.out.only o (by omega)),aG (a.out.all4 (.int .u64 0) (.int .u64 8589934592) (.int .u64 0) (.int .u64 0))⟩
  all_goals omega
 rw[if_neg (by decide)] at a;have m:=a.out.c 0 _ rfl;have n:=a.out.c 1 _ rfl;have p:=a.out.c 2 _ rfl;have q:=a.out.c 3 _ rfl;have r:=a.out.z;go_wp2;have k4:=f.out.all4 (.int .u64 0) (.int .u64 8589934592) (.int .u64 0) (.int .u64 0);have A:=k4.c 0 _ rfl;have B:=k4.c 1 _ rfl;have C:=k4.c 2 _ rfl;have D:=k4.c 3 _ rfl;exact bodyPost_ret (v:=.agg #[.int .u64 0,.int .u64 8589934592,.int .u64 0,.int .u64 0]) (by simp[results,results169,go_sem,A,B,C,D]<;>exact rfl) rfl ⟨rfl,(AaX wr w.heap.size (.int .u64 0) (.int .u64 8589934592) (.int .u64 0) (.int .u64 0)).below_of d.out (by omega) d.out.size⟩
end Go.Proofs.YtjolfpcpcaocmaaGreatDoor
