/- Fl -/
import Derived.Test.YtipfpohlnhmlpaaGreatDoorFc
import Derived.Test.YtipfpohlnhmlpaaGreatDoorFd
import Derived.WideLaws
import Derived.OwnWalk
set_option maxRecDepth 100000
set_option maxHeartbeats 1600000
open Nat renaming le_refl->aA,lt_of_lt_of_le->aB
namespace Go.Proofs.YtipfpohlnhmlpaaGreatDoor
open Go.Proofs.Tryz
open Go.RowKit
theorem Nh (w:World) (j:Nat) (v s:Value) (c:List UInt8) (r q:Bool) (f:Nat->Nat) (nd:Nat) (dp a:Int) (b:Nat)
  (u:B_ w 5 v j (Ge c)) (d:c.length<=1000) (p:M_ w j s f nd dp) (t:∀i,f i<256) (g:b=101\/b=69\/b=102\/b=103\/b=71)
  (m:nd<=1000) (k : -900<=dp) (l:dp<=900) (n:0<=a) (o:a<=1000) :
  Calls prog 145 #[v,.bool r,s,.int .i64 dp,.int .i64 nd,.int .i64 a,.int .u8 b,.bool q] w fun e x=>∃v',e = .returned v'/\Dy w 5 j v' x (c++Ic r f nd dp a b q):=by
 by_cases h:g6 nd dp a b q=102
 ·exact RA w j v s c r q f nd dp a b u d p t g m k l n h o
 exact Rz w j v s c r q f nd dp a b u d p t g m k l n h o
theorem B_.of_own {w:World} {B g cap:Nat} {e:TypeId} {xs:List Value} (h:w.ownsRow B e 1 (.slice (some ⟨g,0,none⟩) xs.length cap) xs.length xs):B_ w e (.slice (some ⟨g,0,none⟩) xs.length cap) g xs:=by
 rcases h.2 with⟨c,_⟩ | ⟨m,b,a,l,_,f,i,d,j,k⟩
 ·cases c
 cases l;exact⟨cap,a,rfl,f,i,d,by simpa using j,by simpa using k⟩
theorem PC (x m:Nat) (b:Int) (T:List UInt8) (w:World) (I : -1<=b) (J:b<=1000) (_hT:T.length<=9223372036854775807)
  (hF:∀(W:World) (v:Value) (y:Nat),Below w.heap.size w W->w.heap.size<=y->B_ W 5 v y []->Calls prog 122 #[v,.float .f64 x,.int .u8 m,.int .i64 b] W fun e u=>∃v',e = .returned v'/\Dy W 5 y v' u T) :
  Calls prog 98 #[.float .f64 x,.int .u8 m,.int .i64 b,.int .i64 64] w fun e u=>e = .returned (.string ⟨T.toArray⟩)/\Below w.heap.size w u:=by
 obtain⟨E,p,q,r,s⟩:=info_parts Tryz.info_u8';have D:=Lib.hid hF;clear hF
 have t:∀(C:Nat),C<=2000->((24<=b+4/\b+4=(C:Int))\/(¬ 24<=b+4/\C=24))->Calls prog 98 #[.float .f64 x,.int .u8 m,.int .i64 b,.int .i64 64] w fun e u=>e = .returned (.string ⟨T.toArray⟩)/\Below w.heap.size w u:=by
  intro C M G;rcases G with⟨F,L⟩ | ⟨F,rfl⟩
  ·go_in
   go_wp2_with (first
    | (at_make;refine wpList_make_own _ rfl _ _ 41 rfl w.heap.size 5 E (.int .u8 0) 1 underlying41 p q r _ _ _ C rfl rfl (by omega) (by rw[s];omega) (by unfold maxLen;omega) (aA _) ?_;intro o f a;have c:Below w.heap.size w o:=⟨a.os,a.tape,a.output,a.size,fun k j=>a.block k j (by simp)⟩;have i:B_ o 5 (.slice (some ⟨w.heap.size,0,none⟩) 0 C) w.heap.size []:=B_.of_own (xs:=[]) f)
    | (go_at_call 122;refine(D.out o _ w.heap.size c (aA _) i).mono ?_;rintro e K ⟨v',rfl,A⟩;obtain⟨g,B,H,d⟩:=A;have n:=Ci (P:=prog) underlying41 underlying5 underlying9 (l:=T) (base:=0) (by have z:=B.own 0 (Nat.zero_le _);rwa [E'] at z)))
   go_ret;exact⟨rfl,⟨d.os.trans c.os,d.tape.trans c.tape,d.output.trans c.output,Nat.le_trans c.size d.size,fun k j=>(d.block k (aB j c.size) (fun e=>by have:=Option.some.inj e;omega)).trans (c.block k j)⟩⟩
  go_in
  go_wp2_with (first
   | (at_make;refine wpList_make_own _ rfl _ _ 41 rfl w.heap.size 5 E (.int .u8 0) 1 underlying41 p q r _ _ _ 24 rfl rfl (by omega) (by rw[s];omega) (by unfold maxLen;omega) (aA _) ?_;intro o f a;have c:Below w.heap.size w o:=⟨a.os,a.tape,a.output,a.size,fun k j=>a.block k j (by simp)⟩;have i:B_ o 5 (.slice (some ⟨w.heap.size,0,none⟩) 0 24) w.heap.size []:=B_.of_own (xs:=[]) f)
   | (go_at_call 122;refine(D.out o _ w.heap.size c (aA _) i).mono ?_;rintro e K ⟨v',rfl,A⟩;obtain⟨g,B,H,d⟩:=A;have n:=Ci (P:=prog) underlying41 underlying5 underlying9 (l:=T) (base:=0) (by have z:=B.own 0 (Nat.zero_le _);rwa [E'] at z)))
  go_ret;exact⟨rfl,⟨d.os.trans c.os,d.tape.trans c.tape,d.output.trans c.output,Nat.le_trans c.size d.size,fun k j=>(d.block k (aB j c.size) (fun e=>by have:=Option.some.inj e;omega)).trans (c.block k j)⟩⟩
 by_cases h:24<=b+4
 ·exact t (b+4).toNat (by omega) (.inl ⟨h,by omega⟩)
 exact t 24 (by omega) (.inr ⟨h,rfl⟩)
end Go.Proofs.YtipfpohlnhmlpaaGreatDoor
