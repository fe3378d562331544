/- Wd -/
import Derived.Test.YtfblenhlildnaaaGreatDoorPc
import Derived.Test.YtfblenhlildnaaaGreatDoorMp
import Derived.Laws.RangeString
import Derived.Deep.QuietTactic
import Derived.Lib.Strings
import Derived.BigQuiet
set_option maxHeartbeats 800000
open Nat renaming le_refl->aB
open UInt8 renaming ofNat->aC
namespace Go.Proofs.YtfblenhlildnaaaGreatDoor
open Go.Proofs.Tryz
open Go.RowKit
def Cg:ByteArray:={ data := #[34,92,47,110,116,114,102,118,97,98] }
theorem Gu (w:World) (m k:Nat) (h:k<10) (a:TypeId) :
  (Instr.next (.pointer (some ⟨w.heap.size,0,none⟩)) true a).run prog ((w.iter Cg k).drewN m) = .ok (.tuple #[.bool true,.int .i64 k,.int .i32 (Cg[k]'h).toNat]) ((w.iter Cg (k+1)).drewN m) :=
 run_next_ascii (w.drewN m) Cg k a h (by
  have:∀j (b:j<10),(Cg[j]'b).toNat<128:=by decide
  exact this k h)
theorem L9 (w:World) (m:Nat) (a:TypeId) :
  (Instr.next (.pointer (some ⟨w.heap.size,0,none⟩)) true a).run prog ((w.iter Cg 10).drewN m) = .ok (.tuple #[.bool false]) ((w.iter Cg 10).drewN m) :=
 run_next_end (w.drewN m) Cg 10 a (by decide)
theorem Xh (w:World) (B:ByteArray) (L:List UInt8) (a:B.data.toList=L) (k:Nat) (h:k<L.length):(Instr.index 9 (.string B) (.int .i64 k)).run prog w = .ok (.int .u8 (L[k]'h).toNat) w:=by
 subst a;have b:k<B.size:=(by simpa using h);rw[run_index_string _ _ _ _ _ underlying9,dif_pos ⟨by omega,by omega⟩];simp only[Int.toNat_natCast];rfl
theorem Nd (s:ByteArray) (c:UInt8) (w:World) (R:s.size<=maxLen) (E:0<s.size) (D:s[0]=c):Calls prog 176 #[.string s] w fun e v=>e = .returned (.tuple #[.int .u8 (BZ s.data.toList).1.toNat,.int .i64 (BZ s.data.toList).2])/\Below w.heap.size w v:=by
 unfold maxLen at R
 go_in
 go_wp2
 go_loopw [4] (fun _ v=>∃k m:Nat,k<=10/\v=(w.iter Cg k).drewN m/\A4.idxOf c=k+(A4.drop k).idxOf c) (fun _ v=>10-v.iterPos w.heap.size)
 case atStart=>exact⟨0,0,by omega,rfl,by simp⟩
 obtain⟨k,m,T,rfl,d⟩:=hrel;by_cases b:k<10
 ·have f:=RE c A4 k b
  by_cases o:A4[k]=c
  ·rw[if_pos o] at f
   have q:Hid (A4.idxOf c=k):=by rw[d,f];rfl
   clear d f;have r:=Gu w m k b;have N:=fun W=>Xh W { data := #[34,92,47,110,116,114,102,118,97,98] } A4 rfl k b;have S:=fun W=>Xh W { data := #[34,92,47,10,9,13,12,11,7,8] } F7 rfl k b;have L:((A4[k].toNat:Int)==c.toNat)=true:=AH o;have J:=Lib.hid (Ad' c s.data.toList (by simpa using E) D k b q.out);clear o;go_wp2;go_quiet (fail);go_wp2
   go_ret2
   rw[J.out];exact⟨rfl,below_drewN ((Below.refl _ _).alloc (aB _) _) _⟩
  rw[if_neg o] at f;have q:Hid (A4.idxOf c=(k+1)+(A4.drop (k+1)).idxOf c):=by rw[d,f];show _=_;omega
  clear d f;have r:=Gu w m k b;have N:=fun W=>Xh W { data := #[34,92,47,110,116,114,102,118,97,98] } A4 rfl k b;have L:((A4[k].toNat:Int)==c.toNat)=false:=Ao o;clear o;go_wp2;go_quiet (fail);go_wp2
  go_roundw
  case rel=>exact⟨k+1,_,by omega,World.drewN_drewN _ _ _,q.out⟩
  show 10-(w.iter Cg (k+1)).iterPos w.heap.size<10-(w.iter Cg k).iterPos w.heap.size;simp;omega
 obtain rfl:k=10:=(by omega);have q:Hid (¬ A4.idxOf c<10):=by rw[d];show ¬ _;omega
 clear d;have r:=L9 w m;go_wp2
 go_loop [5,6] (fun n j=>∃a i:Nat,i<=3/\i<=s.size/\a<8^i/\n = .int .i64 a/\j = .int .i64 i/\(D_ 3 0 s.data.toList).1=(D_ (3-i) a (s.data.toList.drop i)).1/\(D_ 3 0 s.data.toList).2=i+(D_ (3-i) a (s.data.toList.drop i)).2) (fun _ j=>3-(intOf j).toNat)
 case atStart=>exact⟨0,0,by omega,by omega,by omega,rfl,rfl,rfl,by simp⟩
 obtain⟨a,i,M,Q,ha,rfl,rfl,t,u⟩:=hrel;have g:=Lib.hid (And.intro t u);clear t u
 have l:a<512:=by
  have:8^i<=8^3:=Nat.pow_le_pow_right (by omega) M;omega
 have y:Hid (∀x C,BZ s.data.toList=(aC x,C)->x<512->Value.tuple #[.int .u8 ((x:Int)%256),.int .i64 C]=Value.tuple #[.int .u8 (BZ s.data.toList).1.toNat,.int .i64 (BZ s.data.toList).2]):=fun x C h _=>by
  rw[h];simp
 have z:=Lib.hid (Rk c s.data.toList (by simpa using E) D q.out);by_cases U:i<3
 ·by_cases G:i<s.size
  ·have F:i<s.data.toList.length:=by simpa using G
   by_cases A:48<=s[i].toNat/\s[i].toNat<=55
   ·have B:=OM (2-i) a _ i F A
    obtain⟨O,P⟩:=A;rw[show 2-i+1=3-i by omega] at B;have K:=Lib.hid B;clear B;go_wp2
    go_round
    case rel =>
     obtain⟨H,I⟩:=g.out;rw[K.out] at H I;refine⟨8*a+(s[i].toNat-48),i+1,by omega,by omega,by rw[Nat.pow_succ];omega,?_,by go_num,?_,?_⟩
     ·congr 1
      omega
     ·rw[H,show 2-i=3-(i+1) by omega];rfl
     rw[I,show 2-i=3-(i+1) by omega];show i+(_+1)=_;rw[Nat.add_assoc,Nat.add_comm 1];rfl
    simp[intOf];omega
   have p:Hid (BZ s.data.toList=(aC a,i)):=by
    rw[z.out,g.out.1,g.out.2,R3 _ _ _ _ F A];rfl
   go_wp2
   all_goals (go_ret2;exact⟨congrArg Ending.returned (y.out a i p.out l),below_drewN ((Below.refl _ _).alloc (aB _) _) _⟩)
  have p:Hid (BZ s.data.toList=(aC a,i)):=by
   rw[z.out,g.out.1,g.out.2,OL _ _ _ _ (by simpa using G)];rfl
  go_wp2
  go_ret2;exact⟨congrArg Ending.returned (y.out a i p.out l),below_drewN ((Below.refl _ _).alloc (aB _) _) _⟩
 have p:Hid (BZ s.data.toList=(aC a,i)):=by
  rw[z.out,g.out.1,g.out.2,show 3-i=0 by omega];rfl
 go_wp2
 go_ret2;exact⟨congrArg Ending.returned (y.out a i p.out l),below_drewN ((Below.refl _ _).alloc (aB _) _) _⟩
theorem Nf (s:ByteArray) (k t:Nat) (w:World) (d:s.size<=maxLen) (c:k<t) (f:t<=s.size):Calls prog 176 #[.string (s.extract k t)] w fun e b=>e = .returned (.tuple #[.int .u8 (BZ (Bc s.data.toList k t)).1.toNat,.int .i64 (BZ (Bc s.data.toList k t)).2])/\Below w.heap.size w b:=by
 have a:(s.extract k t).size=t-k:=by simp;omega
 have:=Nd (s.extract k t) _ w (by omega) (by omega) rfl
 rwa [show (s.extract k t).data.toList=Bc s.data.toList k t from Lib.extract_data _ _ _] at this
end Go.Proofs.YtfblenhlildnaaaGreatDoor
