/- TokenMade answers true at any list of numbers, way, place, number and truth. Conditions: those that its row lists, no other. -/
import Derived.Test.YtipfpohlnhmlpaaGreatDoorFu
import Derived.Test.YtipfpohlnhmlpaaGreatDoorNl
import Derived.Laws.Cover2
import Derived.Test.YtipfpohlnhmlpaaGreatDoorCards
import Derived.Test.YtipfpohlnhmlpaaGreatDoorTie
import Derived.SevenTiedAt
import Derived.SizedLaws
set_option maxRecDepth 100000
namespace Go.Proofs.YtipfpohlnhmlpaaGreatDoor.tokenMade
open Go.Proofs.Tryz
open Go.ChangeShapes Go.WideShapes Go.ChangeAt Go.RowKit
open Go.ChangeMaps (open_string shut_string)
theorem laidTM (W:World) (h:laidMet prog Rows.tokenMadeRow.laid W):QS W :=
 ⟨⟨RO W (RM W (RN W (Lib.laidMet.reads h (by simp[Rows.tokenMadeRow])) (Lib.laidMet.reads h (by simp[Rows.tokenMadeRow])) (Lib.laidMet.reads h (by simp[Rows.tokenMadeRow]))) (Lib.laidMet.reads h (by simp[Rows.tokenMadeRow]))) (Lib.laidMet.reads h (by simp[Rows.tokenMadeRow])) (Lib.laidMet.reads h (by simp[Rows.tokenMadeRow])) (Lib.laidMet.reads h (by simp[Rows.tokenMadeRow])) (Lib.laidMet.reads h (by simp[Rows.tokenMadeRow])) (Lib.laidMet.reads h (by simp[Rows.tokenMadeRow])),VO W (Lib.laidMet.reads h (by simp[Rows.tokenMadeRow]))⟩,RP W (Lib.laidMet.reads h (by simp[Rows.tokenMadeRow])) (Lib.laidMet.reads h (by simp[Rows.tokenMadeRow])) (Lib.laidMet.reads h (by simp[Rows.tokenMadeRow])) (Lib.laidMet.reads h (by simp[Rows.tokenMadeRow])) (Lib.laidMet.reads h (by simp[Rows.tokenMadeRow])) (Lib.laidMet.reads h (by simp[Rows.tokenMadeRow])) (Lib.laidMet.reads h (by simp[Rows.tokenMadeRow])) (Lib.laidMet.reads h (by simp[Rows.tokenMadeRow])),S6 W (Lib.laidMet.reads h (by simp[Rows.tokenMadeRow]))⟩
theorem lifted (os:Os) (d:os.Started) (H:Type) (enc:TypeId×Value->H) :
  ReturnsInHanded {} Tryz.checked os 3 .any (fun w a=>(Rows.tokenMadeSpec.pre enc prog Tryz.f3 [] false w a/\laidMetH prog Rows.tokenMadeRow.laid w)/\sizedMet enc prog Tryz.f3 (OpenSpec.ofChange Rows.tokenMadeSpec) false w a)
   (Rows.tokenMadeSpec.post enc prog Tryz.f3 false true false false):=by
 refine returnsInHanded_of_change_and (C:=Tryz.checked) (X:=fun w _=>laidMetH prog Rows.tokenMadeRow.laid w) (fun _ _ _ hh h=>h.of_heap hh) own d (by kernel_rfl) func3
  (ChangeSpec.witness_shaped (enc:=enc) (C:=Tryz.checked) (os:=os) (X:=fun w _=>laidMetH prog Rows.tokenMadeRow.laid w) false (World.laidAll prog os Rows.tokenMadeRow.laid) #[.slice none 0 0,.int .i64 0,.int .i64 0,.int .i64 0,.bool false] 8 (World.laidAll_os _ _ _)
    (World.shaped_of_ZipB (by kernel_rfl) (by kernel_rfl)) (by kernel_rfl) (by kernel_rfl) (by kernel_rfl)
    (by rw[MakeChecks.laidMetH_plain _ _ _ (by kernel_rfl)];exact laidMet_laidAll _ (by kernel_rfl) (by kernel_rfl))) ?_
 intro W g a ds gs m c A _ b0 z _;have b:∀(j:Nat) t v,Tryz.f3.params[j]?=some t->a[j]?=some v->Value.okWide prog W .any g t v:=c;have f:=A;obtain⟨p,q,k,Z,rfl,_,_⟩:=A;have y:DataW.TrodAll enc prog W 0 (fun _=>true) true Tryz.f3.params.toList a.toList ds p:=k;rw[Tryz.params3] at y b;obtain⟨D,c0,d0,O,p0,q0,o,rfl,rfl,u,r0⟩:=trodAll_cons y;obtain⟨E,e0,d1,P,p1,q1,rfl,rfl,rfl,T,r1⟩:=trodAll_cons r0;obtain⟨F,f0,d2,Q,p2,q2,rfl,rfl,rfl,U,r2⟩:=trodAll_cons r1;obtain⟨G,g0,d3,R,p3,q3,rfl,rfl,rfl,V,r3⟩:=trodAll_cons r2;obtain⟨I,i0,d4,S,p4,q4,rfl,rfl,rfl,Y,r4⟩:=trodAll_cons r3
 obtain⟨rfl,rfl,rfl⟩:=trodAll_nil r4;obtain rfl:a = #[D,E,F,G,I]:=by cases a;simp_all
 obtain⟨rfl,rfl⟩:=trodVars_none Z;have r:=u;obtain⟨n,n0,i,J,rfl,a0,s⟩:=ND (b 0 22 D rfl rfl) u;obtain⟨K,rfl,rfl,rfl,w1⟩:=open_int underlying3 (b 1 3 E rfl rfl) T;obtain⟨L,rfl,rfl,rfl,w2⟩:=open_int underlying3 (b 2 3 F rfl rfl) U;obtain⟨M,rfl,rfl,rfl,w3⟩:=open_int underlying3 (b 3 3 G rfl rfl) V;obtain⟨N,rfl,rfl,rfl⟩:=open_bool underlying4 (b 4 4 I rfl rfl) Y;clear k c;simp only[List.append_nil] at f;rw[MakeChecks.laidMetH_plain _ _ _ (by kernel_rfl)] at z;have l:∀x∈p0,x.block<W.heap.size:=fun x hx=>by simpa using f.lt x (by simp[hx])
 refine(Jv n n0 i J K L M N W (by omega) s (laidTM W z)).mono fun e W' ⟨he,B⟩=>?_;subst he;exact⟨_,rfl,_,_,_,[],_,[],f,trodAll_cons_mk (shut_bool underlying4 _) trodAll_mk0,(trodAll_cons_mk (Below.trod RQ (by kernel_rfl) (of_decide_eq_true (by kernel_rfl)) r B l) (trodAll_cons_mk (shut_int underlying3 w1) (trodAll_cons_mk (shut_int underlying3 w2) (trodAll_cons_mk (shut_int underlying3 w3) (trodAll_cons_mk (shut_bool underlying4 _) trodAll_mk0))))),rfl,B.frame _,fun h=>by cases h⟩
theorem over:Rows.tokenMadeRow.holds Tryz.pinned (OpenSpec.ofChange Rows.tokenMadeSpec) :=
 OpenClaim.holds_of_wide 3 Tryz.f3 rfl rfl rfl rfl rfl rfl rfl ⟨rfl,rfl,rfl,rfl,rfl⟩ rfl rfl rfl rfl rfl (by kernel_rfl) func3 (by kernel_rfl)
  (of_decide_eq_true (by kernel_rfl)) (by unfold Func.isWrapper;first | (rw[if_pos (by decide +kernel)];kernel_rfl) | (rw[if_neg (by decide +kernel)];exact⟨rfl,rfl⟩))
  (fun c a H b _=>lifted c a H b)
theorem card_holds:Rows.TokenMadeCardSaid :=
 Claim7.holds_tied_plain_at .later [] [.data,.data,.widerDeep,.widerDeep,.data,.data,.data,.data,.data,.sentinel,.sentinel,.data,.data,.data,.data,.data,.data,.data,.data,.pinned,.pinned] true (true, "426b1b1d3719a03eac3aaafbcb1ac10c96bd4cb981409a4a8f734de5b6aa65ac") true over (fun _ h=>by cases h) (by kernel_rfl) (fun _ h=>by cases h) tokenMade_row_tie rfl ⟨rfl,rfl⟩ (by kernel_rfl) rfl
  (fun f d e b=>by
    obtain rfl:f=3:=Option.some.inj ((show prog.funcNamed "tailrace/tailracelaw16.TokenMade" = some 3 by kernel_rfl).symm.trans e) |>.symm
    obtain rfl:d=Tryz.f3:=(Option.some.inj (func3.symm.trans b)).symm
    exact⟨by kernel_rfl,fun j t c=>by
     rw[Tryz.params3] at c;have g:t∈[22,3,3,3,4]:=(by simpa using Array.mem_of_getElem? c);have a:([22,3,3,3,4].all fun u => !prog.wantsStandIn u)=true:=by kernel_rfl
     exact(show prog.wantsStandIn t=false by simpa using List.all_eq_true.1 a t g)⟩)
  (by kernel_rfl)
#print axioms card_holds
end Go.Proofs.YtipfpohlnhmlpaaGreatDoor.tokenMade
