/- ParseKnown: the row and the card. -/
import Derived.Test.YtjolfpcpcaocmaaGreatDoorAf
import Derived.Test.YtjolfpcpcaocmaaGreatDoorGl
import Derived.Test.YtjolfpcpcaocmaaGreatDoorCards
import Derived.Test.YtjolfpcpcaocmaaGreatDoorTie
import Derived.SevenTiedAt
import Derived.SizedLaws
set_option maxRecDepth 100000
namespace Go.Proofs.YtjolfpcpcaocmaaGreatDoor.parseKnown
open Go.Proofs.Tryz
open Go.ChangeShapes Go.WideShapes Go.ChangeAt Go.RowKit
open Go.ChangeMaps (open_string shut_string)
theorem laidF (W:World) (h:laidMet prog Rows.parseKnownRow.laid W):CG W :=
 RN W (Lib.laidMet.reads h (by simp[Rows.parseKnownRow])) (Lib.laidMet.reads h (by simp[Rows.parseKnownRow])) (Lib.laidMet.reads h (by simp[Rows.parseKnownRow]))
theorem lifted (os:Os) (c:os.Started) (H:Type) (enc:TypeId×Value->H) :
  ReturnsInHanded {} Tryz.checked os 3 .any (fun w a=>(Rows.parseKnownSpec.pre enc prog Tryz.f3 [] false w a/\laidMetH prog Rows.parseKnownRow.laid w)/\sizedMet enc prog Tryz.f3 (OpenSpec.ofChange Rows.parseKnownSpec) false w a)
   (Rows.parseKnownSpec.post enc prog Tryz.f3 false true false false):=by
 refine returnsInHanded_of_change_and (C:=Tryz.checked) (X:=fun w _=>laidMetH prog Rows.parseKnownRow.laid w) (fun _ _ _ y h=>h.of_heap y) own c (by kernel_rfl) func3
  (ChangeSpec.witness_shaped (enc:=enc) (C:=Tryz.checked) (os:=os) (X:=fun w _=>laidMetH prog Rows.parseKnownRow.laid w) false (World.laidAll prog os Rows.parseKnownRow.laid) #[] 8 (World.laidAll_os _ _ _)
    (World.shaped_of_ZipB (by kernel_rfl) (by kernel_rfl)) (by kernel_rfl) (by kernel_rfl) (by kernel_rfl)
    (by rw[MakeChecks.laidMetH_plain _ _ _ (by kernel_rfl)];exact laidMet_laidAll _ (by kernel_rfl) (by kernel_rfl))) ?_
 intro W d a r B k b o _ z n _;have i:∀(j:Nat) t v,Tryz.f3.params[j]?=some t->a[j]?=some v->Value.okWide prog W .any d t v:=b;have g:=o;obtain⟨p,q,f,s,rfl,_,_⟩:=o;have m:DataW.TrodAll enc prog W 0 (fun _=>true) true Tryz.f3.params.toList a.toList r p:=f;rw[Tryz.params3] at m i;obtain⟨l,rfl,rfl⟩:=trodAll_nil m;obtain rfl:a = #[]:=by cases a;simp_all
 obtain⟨rfl,rfl⟩:=trodVars_none s;clear f b;simp only[List.append_nil] at g;rw[MakeChecks.laidMetH_plain _ _ _ (by kernel_rfl)] at n;refine(AaB W (laidF W n)).mono fun e A ⟨x,u⟩=>?_;subst x;exact⟨_,rfl,_,_,_,[],[],[],g,trodAll_cons_mk (shut_bool underlying4 _) trodAll_mk0,trodAll_mk0,rfl,u.frame _,fun h=>by cases h⟩
theorem over:Rows.parseKnownRow.holds Tryz.pinned (OpenSpec.ofChange Rows.parseKnownSpec) :=
 OpenClaim.holds_of_wide 3 Tryz.f3 rfl rfl rfl rfl rfl rfl rfl ⟨rfl,rfl,rfl,rfl,rfl⟩ rfl rfl rfl rfl rfl (by kernel_rfl) func3 (by kernel_rfl)
  (of_decide_eq_true (by kernel_rfl)) (by unfold Func.isWrapper;first | (rw[if_pos (by decide +kernel)];kernel_rfl) | (rw[if_neg (by decide +kernel)];exact⟨rfl,rfl⟩))
  (fun c a H b _=>lifted c a H b)
theorem card_holds:Rows.ParseKnownCardSaid :=
 Claim7.holds_tied_plain_at .later [] [.data,.data,.widerDeep,.widerDeep,.data,.data,.data,.data,.data,.sentinel,.sentinel,.pinned,.pinned] true (true, "ffdab007bec86a8ec4fe179a1e275c4b302c6986b994c2d759ac6a0dcb365db7") true over (fun _ h=>by cases h) (by kernel_rfl) (fun _ h=>by cases h) parseKnown_row_tie rfl ⟨rfl,rfl⟩ (by kernel_rfl) rfl
  (fun f c d a=>by
    obtain rfl:f=3:=Option.some.inj ((show prog.funcNamed "tailrace/tailracelaw17.ParseKnown" = some 3 by kernel_rfl).symm.trans d) |>.symm
    obtain rfl:c=Tryz.f3:=(Option.some.inj (func3.symm.trans a)).symm
    exact⟨by kernel_rfl,fun j t b=>by
     rw[Tryz.params3] at b
     simp at b⟩)
  (by kernel_rfl)
#print axioms card_holds
end Go.Proofs.YtjolfpcpcaocmaaGreatDoor.parseKnown
