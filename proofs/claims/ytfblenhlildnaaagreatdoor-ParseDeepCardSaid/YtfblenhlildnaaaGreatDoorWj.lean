/- Wj -/
import Derived.Test.YtfblenhlildnaaaGreatDoorMp
import Derived.Test.YtfblenhlildnaaaGreatDoorWr
import Derived.Test.YtfblenhlildnaaaGreatDoorGm
set_option maxHeartbeats 800000
set_option maxRecDepth 20000
open Array renaming eq_empty_of_size_eq_zero->aA
open ByteArray renaming empty->aB
namespace Go.Proofs.YtfblenhlildnaaaGreatDoor
open Go.Proofs.Tryz
open Go.RowKit
theorem NZ {c:UInt8} (h:c∈BC):(65<=c.toNat/\c.toNat<=90->c=69)/\c≠105/\c≠73/\c≠110/\c≠78:=by
 simp only[BC,List.mem_cons,List.not_mem_nil,or_false] at h;rcases h with h | h | h | h | h | h | h | h | h | h | h | h | h | h | h<;>subst h<;>decide
theorem NH (s:ByteArray) (w:World) (m:s.size<=maxLen) (i:∀h:0<s.size,s[0]∈BC):Calls prog 251 #[.string s,.string { data := #[105,110,102,105,110,105,116,121] }] w fun e n=>e = .returned (.int .i64 0)/\w=n:=by
 have a:=Lib.hid i;clear i;unfold maxLen at m;by_cases g:s.size=0
 ·have k:s=aB:=by
   cases s with | mk d=>have:d = #[]:=aA g;subst this;rfl
  subst k
  go_in
  go_wp2;refine wp_loop_rounds 1 ?_;rw[rounds_succ];go_wp2;go_ret;exact⟨rfl,rfl⟩
 have b:0<s.size:=(by omega);have f:=NZ (a.out b)
 have c:(s[0].toNat=69)\/(¬ (65<=s[0].toNat/\s[0].toNat<=90)/\((s[0].toNat:Int) != 105)=true):=by
  by_cases h:65<=s[0].toNat/\s[0].toNat<=90
  ·exact .inl (by rw[f.1 h];rfl)
  exact .inr ⟨h,Cu (d:=105) f.2.1⟩
 have l:(({ data := #[105,110,102,105,110,105,116,121] }:ByteArray)[0]'(by decide)).toNat=105:=rfl;clear g f;by_cases o:8<=s.size<;>rcases c with c | ⟨c,j⟩
 ·go_in
  go_wp2;refine wp_loop_rounds 1 ?_;rw[rounds_succ];go_wp2;go_ret;exact⟨rfl,rfl⟩
 all_goals
  go_in
  go_wp2;refine wp_loop_rounds 1 ?_;rw[rounds_succ];go_wp2
  all_goals (go_ret;exact⟨rfl,rfl⟩)
theorem LX (x:Nat) (w:World):(callFunc 98 #[.float .f64 x]).run prog w = .ok (.value (.int .u64 x)) w:=by kernel_rfl
theorem KS (x:Nat) (w:World):(callFunc 151 #[.int .u64 x]).run prog w = .ok (.value (.float .f64 x)) w:=by kernel_rfl
def EU (x:Nat):Nat:=if FloatKind.f64.format.order x 0==some .eq then 0 else x
def Ls (x:Nat):Nat:=x%2^63
def KW (x:Nat):Bool:=FloatKind.f64.format.order (Ls x) 9218868437227405311==some .gt
theorem P2 (x:Nat) (w:World):Calls prog 221 #[.float .f64 x] w fun e b=>e = .returned (.float .f64 (EU x))/\w=b:=by
 cases h:(FloatKind.f64.format.order x 0==some .eq) with
 | true =>
   have a:Hid (EU x=0):=by unfold Hid;rw[EU,h];rfl
   go_in
   go_wp2;go_ret;exact⟨by rw[a.out];rfl,rfl⟩
 | false =>
   have a:Hid (EU x=x):=by unfold Hid;rw[EU,h];rfl
   go_in
   go_wp2;go_ret;exact⟨by rw[a.out];rfl,rfl⟩
theorem Q6 (x:Nat) (a:x<18446744073709551616):bits .andNot .u64 (x:Int) 9223372036854775808=(Ls x:Int):=by
 have h:=u64_andNot_nat x 9223372036854775808 a (by omega);rw[Ls,<- Nat.and_two_pow_sub_one_eq_mod];exact h
theorem Uc (x:Nat) (a:x<18446744073709551616) (w:World):(callFunc 151 #[.int .u64 (bits .andNot .u64 (x:Int) 9223372036854775808)]).run prog w = .ok (.value (.float .f64 (Ls x))) w:=by
 rw[Q6 x a];exact KS (Ls x) w
theorem Tp (x:Nat) (a:x<18446744073709551616) (w:World):Calls prog 149 #[.float .f64 x] w fun e b=>e = .returned (.float .f64 (Ls x))/\w=b:=by
 have c:=fun W=>LX x W;have d:=fun W=>Uc x a W;clear a
 go_in
 go_wp2_with (fail)
 go_ret;exact⟨rfl,rfl⟩
theorem PF (x:Nat) (a:x<18446744073709551616) (w:World):Calls prog 116 #[.float .f64 x,.int .i64 0] w fun e b=>e = .returned (.bool (KW x))/\w=b:=by
 have c:=Lib.hid (fun W=>Tp x a W);have d:Hid (KW x=(FloatKind.f64.format.order (Ls x) 9218868437227405311==some .gt)):=rfl;clear a
 go_in
 go_wp2_with (go_at_call 149;refine(c.out _).mono ?_;rintro e b ⟨rfl,rfl⟩)
 go_ret;exact⟨B3 d.out.symm,rfl⟩
theorem Dw (s:ByteArray) (w:World) (t:s.size<=maxLen) (j:∀k (h:k<s.size),s[k]∈BC):Calls prog 225 #[.string s] w fun e g=>e = .returned (.tuple #[.float .f64 0,.int .i64 0,.bool false])/\w=g:=by
 by_cases i:s.size=0
 ·have q:s=aB:=by
   cases s with | mk d=>have:d = #[]:=aA i;subst this;rfl
  subst q
  go_in
  go_wp2
  go_ret3
  exact⟨rfl,rfl⟩
 have c:0<s.size:=(by omega);have f:=(NZ (j 0 c)).2;have r:¬ s=aB:=fun e=>by subst e;simp at c
 have b1:((s[0].toNat:Int)==105)=false:=Ao (d:=105) f.1;have b2:((s[0].toNat:Int)==73)=false:=Ao (d:=73) f.2.1;have b3:((s[0].toNat:Int)==110)=false:=Ao (d:=110) f.2.2.1;have v:((s[0].toNat:Int)==78)=false:=Ao (d:=78) f.2.2.2;have bs:((s.size:Int)==0)=false:=beq_eq_false_iff_ne.2 (by omega);have u:s.extract 1 s.size=s.extract 1 s.size:=rfl
 have n:∀W,Calls prog 251 #[.string (s.extract 1 s.size),.string { data := #[105,110,102,105,110,105,116,121] }] W fun e g=>e = .returned (.int .i64 0)/\W=g:=fun W =>
  NH _ W (by have:(s.extract 1 s.size).size=s.size-1:=by simp
             omega) (fun h=>by
   have p:1<s.size:=by have:(s.extract 1 s.size).size=s.size-1:=by simp
                       omega
   have:=j 1 p
   rwa [show (s.extract 1 s.size)[0]=s[1] from by simp[ByteArray.getElem_extract]])
 have l:=Lib.hid n;clear n f j u;unfold maxLen at t;by_cases a:s[0]=43
 ·have o:((s[0].toNat:Int)==43)=true:=AH (d:=43) a
  have m:((s[0].toNat:Int)==45)=false:=Ao (d:=45) (by rw[a];decide);clear a i
  go_in
  go_wp2_with (go_at_call 251;refine(l.out _).mono ?_;rintro e g ⟨rfl,rfl⟩)
  go_ret3
  exact⟨rfl,rfl⟩
 have o:((s[0].toNat:Int)==43)=false:=Ao (d:=43) a;by_cases b:s[0]=45
 ·have m:((s[0].toNat:Int)==45)=true:=AH (d:=45) b
  clear a i b
  go_in
  go_wp2_with (go_at_call 251;refine(l.out _).mono ?_;rintro e g ⟨rfl,rfl⟩)
  go_ret3
  exact⟨rfl,rfl⟩
 have m:((s[0].toNat:Int)==45)=false:=Ao (d:=45) b;clear a i b
 go_in
 go_wp2
 go_ret3
 exact⟨rfl,rfl⟩
end Go.Proofs.YtfblenhlildnaaaGreatDoor
