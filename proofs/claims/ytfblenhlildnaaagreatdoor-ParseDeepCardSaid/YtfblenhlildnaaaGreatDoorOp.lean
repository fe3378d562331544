/- ParseDeep: the row and the card. -/
import Derived.Test.YtfblenhlildnaaaGreatDoorOh
import Derived.Test.YtfblenhlildnaaaGreatDoorGl
import Derived.Test.YtfblenhlildnaaaGreatDoorCards
import Derived.Test.YtfblenhlildnaaaGreatDoorTie
import Derived.SevenTiedAt
import Derived.SizedLaws
set_option maxRecDepth 100000
namespace Go.Proofs.YtfblenhlildnaaaGreatDoor.parseDeep
open Go.Proofs.Tryz
open Go.ChangeShapes Go.WideShapes Go.ChangeAt Go.RowKit
open Go.ChangeMaps (open_string shut_string)
theorem laidF (W:World) (h:laidMet prog Rows.parseDeepRow.laid W):CG W :=
 RN W (Lib.laidMet.reads h (by simp[Rows.parseDeepRow])) (Lib.laidMet.reads h (by simp[Rows.parseDeepRow])) (Lib.laidMet.reads h (by simp[Rows.parseDeepRow]))
theorem lifted (os:Os) (d:os.Started) (H:Type) (enc:TypeId×Value->H) :
  ReturnsInHanded {} Tryz.checked os 4 .any (fun w a=>(Rows.parseDeepSpec.pre enc prog Tryz.f4 [] false w a/\laidMetH prog Rows.parseDeepRow.laid w)/\sizedMet enc prog Tryz.f4 (OpenSpec.ofChange Rows.parseDeepSpec) false w a)
   (Rows.parseDeepSpec.post enc prog Tryz.f4 false true false false):=by
 refine returnsInHanded_of_change_and (C:=Tryz.checked) (X:=fun w _=>laidMetH prog Rows.parseDeepRow.laid w) (fun _ _ _ M h=>h.of_heap M) own d (by kernel_rfl) func4
  (ChangeSpec.witness_shaped (enc:=enc) (C:=Tryz.checked) (os:=os) (X:=fun w _=>laidMetH prog Rows.parseDeepRow.laid w) false (World.laidAll prog os Rows.parseDeepRow.laid) #[.int .i64 0,.int .i64 0,.int .i64 0] 8 (World.laidAll_os _ _ _)
    (World.shaped_of_ZipB (by kernel_rfl) (by kernel_rfl)) (by kernel_rfl) (by kernel_rfl) (by kernel_rfl)
    (by rw[MakeChecks.laidMetH_plain _ _ _ (by kernel_rfl)];exact laidMet_laidAll _ (by kernel_rfl) (by kernel_rfl))) ?_
 intro W f a A gs k c o _ N n _;have b:∀(j:Nat) t v,Tryz.f4.params[j]?=some t->a[j]?=some v->Value.okWide prog W .any f t v:=c;have i:=o;obtain⟨p,q,g,J,rfl,_,_⟩:=o;have m:DataW.TrodAll enc prog W 0 (fun _=>true) true Tryz.f4.params.toList a.toList A p:=g;rw[Tryz.params4] at m b;obtain⟨r,R,d0,B,p0,q0,l,rfl,rfl,F,O⟩:=trodAll_cons m;obtain⟨s,S,d1,D,p1,q1,rfl,rfl,rfl,G,P⟩:=trodAll_cons O;obtain⟨u,T,d2,E,p2,q2,rfl,rfl,rfl,I,Q⟩:=trodAll_cons P;obtain⟨rfl,rfl,rfl⟩:=trodAll_nil Q;obtain rfl:a = #[r,s,u]:=by cases a;simp_all
 obtain⟨rfl,rfl⟩:=trodVars_none J;obtain⟨x,rfl,rfl,rfl,U⟩:=open_int underlying3 (b 0 3 r rfl rfl) F;obtain⟨y,rfl,rfl,rfl,V⟩:=open_int underlying3 (b 1 3 s rfl rfl) G;obtain⟨z,rfl,rfl,rfl,Y⟩:=open_int underlying3 (b 2 3 u rfl rfl) I;clear g c;simp only[List.append_nil] at i;rw[MakeChecks.laidMetH_plain _ _ _ (by kernel_rfl)] at n;refine(Adp x y z W (laidF W n)).mono fun e Z ⟨L,K⟩=>?_;subst L;exact⟨_,rfl,_,_,_,[],[],[],i,trodAll_cons_mk (shut_bool underlying4 _) trodAll_mk0,(trodAll_cons_mk (shut_int underlying3 U) (trodAll_cons_mk (shut_int underlying3 V) (trodAll_cons_mk (shut_int underlying3 Y) trodAll_mk0))),rfl,K.frame _,fun h=>by cases h⟩
theorem j1:(Rows.parseDeepRow.inPlace==prog.inPlace 4)=true:=by kernel_rfl
theorem j2:(Rows.parseDeepRow.unfollowed==prog.unfollowed 4)=true:=by kernel_rfl
theorem j3:(Rows.parseDeepRow.recurses==prog.recurses 4)=true:=by kernel_rfl
theorem j4:(Rows.parseDeepRow.named==prog.varsNamed 4)=true:=by kernel_rfl
theorem jf:joinedFacts prog 4 Tryz.f4 Rows.parseDeepSpec Rows.parseDeepRow=true:=by
 unfold joinedFacts
 repeat' (first | with_reducible exact j1 | with_reducible exact j2 | with_reducible exact j3 | with_reducible exact j4 | with_reducible refine(Bool.and_eq_true_iff.2 ⟨?_,?_⟩))
 all_goals kernel_rfl
theorem nm:prog.funcNamed Rows.parseDeepRow.func=some 4:=by kernel_rfl
theorem ins:Tryz.f4.isInstance prog Rows.parseDeepRow.origin Rows.parseDeepRow.targs:=of_decide_eq_true (by kernel_rfl)
theorem wrp:Tryz.f4.isWrapper prog Rows.parseDeepRow.wrapper Rows.parseDeepRow.mainSum:=by unfold Func.isWrapper;first | (rw[if_pos (by decide +kernel)];kernel_rfl) | (rw[if_neg (by decide +kernel)];exact⟨rfl,rfl⟩)
theorem over:Rows.parseDeepRow.holds Tryz.pinned (OpenSpec.ofChange Rows.parseDeepSpec) :=
 OpenClaim.holds_of_wide 4 Tryz.f4 rfl rfl rfl rfl rfl rfl rfl ⟨rfl,rfl,rfl,rfl,rfl⟩ rfl rfl rfl rfl rfl nm func4 jf
  ins wrp (fun c a H b _=>lifted c a H b)
theorem wfb:Rows.parseDeepRow.wfByText (OpenSpec.ofChange Rows.parseDeepSpec)=true:=by kernel_rfl
theorem lks:true=prog.looks []:=by kernel_rfl
theorem gob:false=Rows.parseDeepRow.goesBy prog:=by kernel_rfl
theorem mis:prog.mainIs=some (((true, "2c4a0cc6367f05e9bdc00b144e08a8aa6c444751202490e56f092446e1357e4f")).1,((true, "2c4a0cc6367f05e9bdc00b144e08a8aa6c444751202490e56f092446e1357e4f")).2.toList):=by kernel_rfl
theorem card_holds:Rows.ParseDeepCardSaid :=
 Claim7.holds_tied_plain_at .later [] [.data,.data,.widerDeep,.widerDeep,.data,.data,.data,.data,.data,.sentinel,.sentinel,.pinned,.pinned] true (true, "2c4a0cc6367f05e9bdc00b144e08a8aa6c444751202490e56f092446e1357e4f") true over (fun _ h=>by cases h) wfb (fun _ h=>by cases h) parseDeep_row_tie rfl ⟨rfl,rfl⟩ mis rfl
  (fun f d e b=>by
    obtain rfl:f=4:=Option.some.inj (nm.symm.trans e) |>.symm
    obtain rfl:d=Tryz.f4:=(Option.some.inj (func4.symm.trans b)).symm
    exact⟨lks,fun j t c=>by
     rw[Tryz.params4] at c;have g:t∈[3,3,3]:=(by simpa using Array.mem_of_getElem? c);have a:([3,3,3].all fun u => !prog.wantsStandIn u)=true:=by kernel_rfl
     exact(show prog.wantsStandIn t=false by simpa using List.all_eq_true.1 a t g)⟩)
  gob
#print axioms card_holds
end Go.Proofs.YtfblenhlildnaaaGreatDoor.parseDeep
