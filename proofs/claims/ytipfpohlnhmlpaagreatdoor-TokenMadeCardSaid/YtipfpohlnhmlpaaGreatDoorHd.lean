/- Hd -/
import Derived.Test.YtipfpohlnhmlpaaGreatDoorFe
import Derived.Test.YtipfpohlnhmlpaaGreatDoorGu
import Derived.Test.YtipfpohlnhmlpaaGreatDoorNp
import Derived.BigRegion
import Derived.BigQuiet
import Derived.Deep.QuietTactic
import Derived.Deep.DeepCutAuto
import Derived.Deep.CutBlock
import Derived.Deep.RegionWith
import Derived.BigCall
import Derived.StillTailTactics
open Go.Lib renaming bitLen->aA
namespace Go.Proofs.YtipfpohlnhmlpaaGreatDoor
open Go.RowKit
def LY (x:Nat):Nat:=if J8 x=0 then 1 else J8 x
def JH (x:Nat):Nat:=if J8 x=0 then Tl x else Tl x+4503599627370496
theorem Rr (x:Nat):JH x<9007199254740992:=by
 unfold JH Tl;split<;>omega
theorem Fk (M:Nat) (c:M≠0) (d:M<9007199254740992):1<=aA M/\aA M<=53/\M*2^(64-aA M)<18446744073709551616:=by
 have b:aA M=Lib.bitLenAux 64 M:=rfl;rcases EH 64 M (by rw[show (2:Nat)^64=18446744073709551616 from by decide];omega) with⟨h,_⟩ | ⟨h2,h3,h4,h5⟩
 ·omega
 rw[<- b] at h2 h3 h4 h5;generalize aA M=L at h2 h3 h4 h5
 have a:L<=53:=by
  rcases Nat.lt_or_ge 53 L with h | h
  ·have:=Nat.pow_le_pow_right (n:=2) (by decide) (show 53<=L-1 by omega)
   have e:(2:Nat)^53=9007199254740992:=(by decide);omega
  exact h
 refine⟨h4,a,?_⟩;have:M*2^(64-L)<2^L*2^(64-L):=Nat.mul_lt_mul_of_pos_right h3 (Nat.pow_pos (by decide));rw[<- Nat.pow_add,show L+(64-L)=64 by omega] at this;exact this
end Go.Proofs.YtipfpohlnhmlpaaGreatDoor
