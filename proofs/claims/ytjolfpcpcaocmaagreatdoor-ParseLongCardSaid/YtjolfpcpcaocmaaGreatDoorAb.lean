/- ParseLong: the row and the card. -/
import Derived.Test.YtjolfpcpcaocmaaGreatDoorDu
import Derived.Test.YtjolfpcpcaocmaaGreatDoorGl
import Derived.Test.YtjolfpcpcaocmaaGreatDoorCards
import Derived.Test.YtjolfpcpcaocmaaGreatDoorTie
import Derived.SevenTiedAt
import Derived.SizedLaws
set_option maxRecDepth 100000
namespace Go.Proofs.YtjolfpcpcaocmaaGreatDoor.parseLong
open Go.Proofs.Tryz
open Go.ChangeShapes Go.WideShapes Go.ChangeAt Go.RowKit
open Go.ChangeMaps (open_string shut_string)
theorem laidF (W:World) (h:laidMet prog Rows.parseLongRow.laid W):CG W :=
 RN W (Lib.laidMet.reads h (by simp[Rows.parseLongRow])) (Lib.laidMet.reads h (by simp[Rows.parseLongRow])) (Lib.laidMet.reads h (by simp[Rows.parseLongRow]))
theorem lifted (os:Os) (d:os.Started) (H:Type) (enc:TypeId×Value->H) :
  ReturnsInHanded {} Tryz.checked os 4 .any (fun w a=>(Rows.parseLongSpec.pre enc prog Tryz.f4 [] false w a/\laidMetH prog Rows.parseLongRow.laid w)/\sizedMet enc prog Tryz.f4 (OpenSpec.ofChange Rows.parseLongSpec) false w a)
   (Rows.parseLongSpec.post enc prog Tryz.f4 false true false false):=by
 refine returnsInHanded_of_change_and (C:=Tryz.checked) (X:=fun w _=>laidMetH prog Rows.parseLongRow.laid w) (fun _ _ _ I h=>h.of_heap I) own d (by kernel_rfl) func4
  (ChangeSpec.witness_shaped (enc:=enc) (C:=Tryz.checked) (os:=os) (X:=fun w _=>laidMetH prog Rows.parseLongRow.laid w) false (World.laidAll prog os Rows.parseLongRow.laid) #[.int .i64 0,.int .i64 0] 8 (World.laidAll_os _ _ _)
    (World.shaped_of_ZipB (by kernel_rfl) (by kernel_rfl)) (by kernel_rfl) (by kernel_rfl) (by kernel_rfl)
    (by rw[MakeChecks.laidMetH_plain _ _ _ (by kernel_rfl)];exact laidMet_laidAll _ (by kernel_rfl) (by kernel_rfl))) ?_
 intro W f a y T k c o _ J n _;have b:∀(j:Nat) t v,Tryz.f4.params[j]?=some t->a[j]?=some v->Value.okWide prog W .any f t v:=c;have i:=o;obtain⟨p,q,g,E,rfl,_,_⟩:=o;have m:DataW.TrodAll enc prog W 0 (fun _=>true) true Tryz.f4.params.toList a.toList y p:=g;rw[Tryz.params4] at m b;obtain⟨r,M,R,z,U,Y,l,rfl,rfl,B,K⟩:=trodAll_cons m;obtain⟨s,N,S,A,V,q1,rfl,rfl,rfl,D,L⟩:=trodAll_cons K;obtain⟨rfl,rfl,rfl⟩:=trodAll_nil L;obtain rfl:a = #[r,s]:=by cases a;simp_all
 obtain⟨rfl,rfl⟩:=trodVars_none E;obtain⟨u,rfl,rfl,rfl,O⟩:=open_int underlying3 (b 0 3 r rfl rfl) B;obtain⟨x,rfl,rfl,rfl,P⟩:=open_int underlying3 (b 1 3 s rfl rfl) D;clear g c;simp only[List.append_nil] at i;rw[MakeChecks.laidMetH_plain _ _ _ (by kernel_rfl)] at n;refine(T5 u x W (laidF W n)).mono fun e Q ⟨G,F⟩=>?_;subst G;exact⟨_,rfl,_,_,_,[],[],[],i,trodAll_cons_mk (shut_bool underlying4 _) trodAll_mk0,(trodAll_cons_mk (shut_int underlying3 O) (trodAll_cons_mk (shut_int underlying3 P) trodAll_mk0)),rfl,F.frame _,fun h=>by cases h⟩
theorem over:Rows.parseLongRow.holds Tryz.pinned (OpenSpec.ofChange Rows.parseLongSpec) :=
 OpenClaim.holds_of_wide 4 Tryz.f4 rfl rfl rfl rfl rfl rfl rfl ⟨rfl,rfl,rfl,rfl,rfl⟩ rfl rfl rfl rfl rfl (by kernel_rfl) func4 (by kernel_rfl)
  (of_decide_eq_true (by kernel_rfl)) (by unfold Func.isWrapper;first | (rw[if_pos (by decide +kernel)];kernel_rfl) | (rw[if_neg (by decide +kernel)];exact⟨rfl,rfl⟩))
  (fun c a H b _=>lifted c a H b)
theorem card_holds:Rows.ParseLongCardSaid :=
 Claim7.holds_tied_plain_at .later [] [.data,.data,.widerDeep,.widerDeep,.data,.data,.data,.data,.data,.sentinel,.sentinel,.pinned,.pinned] true (true, "ffdab007bec86a8ec4fe179a1e275c4b302c6986b994c2d759ac6a0dcb365db7") true over (fun _ h=>by cases h) (by kernel_rfl) (fun _ h=>by cases h) parseLong_row_tie rfl ⟨rfl,rfl⟩ (by kernel_rfl) rfl
  (fun f d e b=>by
    obtain rfl:f=4:=Option.some.inj ((show prog.funcNamed "tailrace/tailracelaw17.ParseLong" = some 4 by kernel_rfl).symm.trans e) |>.symm
    obtain rfl:d=Tryz.f4:=(Option.some.inj (func4.symm.trans b)).symm
    exact⟨by kernel_rfl,fun j t c=>by
     rw[Tryz.params4] at c;have g:t∈[3,3]:=(by simpa using Array.mem_of_getElem? c);have a:([3,3].all fun u => !prog.wantsStandIn u)=true:=by kernel_rfl
     exact(show prog.wantsStandIn t=false by simpa using List.all_eq_true.1 a t g)⟩)
  (by kernel_rfl)
#print axioms card_holds
end Go.Proofs.YtjolfpcpcaocmaaGreatDoor.parseLong
