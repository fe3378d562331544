/- Cn -/
import Derived.Test.YtjolfpcpcaocmaaGreatDoorCk
set_option maxRecDepth 100000
set_option maxHeartbeats 4000000
open List renaming setIfInBounds_toArray->aA,getElem_cons_zero->aB,getElem_cons_succ->aC,getElem_toArray->aD,set_cons_zero->aE,set_cons_succ->aF,singleton_append->aH,cons_append->aJ,nil_append->aK
open Go.Lib renaming hid->aG
open Bool renaming false_eq_true->aI
namespace Go.Proofs.YtjolfpcpcaocmaaGreatDoor
open Go.Proofs.Tryz
open Go.RowKit
set_option linter.unusedSimpArgs false in
theorem Xu {nx:Nat->Bool->Tk} {pl:Nat->Nat×Nat} {e0:List UInt8->Option Bool} {w0:World} {q:Nat} {s:ByteArray} (hN:F2 nx s w0) (hP:PlC pl s) (n:Nat)
  (hA:LC nx pl e0 w0 q s n .args 147)
  (hT:NC nx pl e0 w0 q s n .target 148) (hE:TZ e0 s w0):NC nx pl e0 w0 q s (n+1) .operand 145:=by
 intro p W h hh;obtain⟨r,er⟩:∃r,Dn nx pl e0 (n+1) .operand p=r:=⟨_,rfl⟩;rw[er] at hh ⊢;rw[Dn] at er;have V:=aG er;have j:=aG (Fx.start1 h (.int .i64 0) (.string ⟨#[]⟩) (.float .f64 0) (.slice none 0 0) (.complex .f64 0 0) 34);have HN:=aG hN;have HP:=aG hP;have HA:=aG (fun p W h g=>hA p W h g);have HT:=aG (fun p W h g=>hT p W h g);have HE:=aG hE;have k1:∀(x:Value) (w:World),Sem.run prog (Instr.panic (.iface 44 x)) w = .halt (.panic (.iface 44 x)) w:=fun _ _=>rfl;clear er hE h hN hP hA hT;obtain⟨B,C,D,E,F,G⟩:=j.out.b0
 go_in
 go_wp2_with (first | (go_at_call 15;(with_reducible refine(DS HN.out j.out.z true).mono ?_);intro e w2 ha;rcases ha.part V hh with⟨f,er,rfl,U,hr⟩ | ⟨l,p2,v,rfl,⟨rfl,rfl,h0,et,d0,hb⟩,U,Y⟩;exact⟨rfl,BX hr (j.out.o.trans U)⟩;replace V:=Y;clear Y ha;(try dsimp only at V);replace j:=aG ((j.out.quiet hb).box (.int .i64 l.kd) (.string ⟨l.tx.toArray⟩) (.float .f64 l.nm) (.int .i64 l.f) (.int .i64 l.t) 49);clear h0 et hb U;(try clear B C D E F G);(try clear H I J L M N);(try clear O P Q R S T);(try clear m30 m31 m32 m33 m34 m3f);obtain⟨B,C,D,E,F,G⟩:=j.out.b0;obtain⟨H,I,J,L,M,N⟩:=j.out.b1;unfold G1;rcases opC l with⟨h2,h3,h4,b2,b3,b4⟩ | ⟨h2,b2⟩ | ⟨h2,h3,hl,b2,b3⟩ | ⟨h2,h3,hl,b2,b3⟩ | ⟨h2,h3,h4,h6,h,b,b2,b3,b4,b6⟩ | ⟨h2,h3,h4,h6,h,b,b2,b3,b4,b6⟩ | ⟨h2,h3,h4,h6,h7,i0,b,b2,b3,b4,b6,b7⟩ | ⟨h2,h3,h4,h6,h7,h,b,b2,b3,b4,b6,b7⟩ | ⟨h2,h3,h4,h6,h7,b2,b3,b4,b6,b7⟩;(repeat (first | replace V:=Ym (by assumption) V | replace V:=XY (by assumption) V));obtain⟨o,eo⟩:∃o,e0 l.tx=o:=⟨_,rfl⟩;rw[eo] at V;have g0:=aG eo;clear eo;rcases o with _ | _ | _;exact absurd V.out.symm hh;all_goals ((repeat (first | replace V:=Ym (by assumption) V | replace V:=XY (by assumption) V));(try dsimp only at V);(try clear h2);(try clear h3);(try clear h4);(try clear h6);(try clear h7);(try clear h);(try (have i1:=aG i0;clear i0)))) | (go_at_call 146;(refine(HE.out.bad l.tx _ (by omega) g0.out j.out.z.below).mono ?_);rintro e w4 ⟨k,a,b,c,d,o,n',m,zz,er,rfl,j1,f0⟩;replace j:=aG ((j.out.quiet f0).quiet (Ad _ (.cells #[.int .i64 k,.int .u64 a,.int .u64 b,.int .u64 c,.int .u64 d,.slice o n' m] 196)));clear f0 g0;(try clear B C D E F G);(try clear H I J L M N);(try clear O P Q R S T);(try clear m30 m31 m32 m33 m34 m3f);obtain⟨B,C,D,E,F,G⟩:=j.out.b0;obtain⟨H,I,J,L,M,N⟩:=j.out.b1) | (go_at_call 146;(refine(HE.out.good l.tx _ (by omega) g0.out j.out.z.below).mono ?_);rintro e w4 ⟨k,a,b,c,d,o,n',m,zz,rfl,f0⟩;replace j:=aG ((j.out.quiet f0).quiet (Ad _ (.cells #[.int .i64 k,.int .u64 a,.int .u64 b,.int .u64 c,.int .u64 d,.slice o n' m] 196)));clear f0 g0;(try clear B C D E F G);(try clear H I J L M N);(try clear O P Q R S T);(try clear m30 m31 m32 m33 m34 m3f);obtain⟨B,C,D,E,F,G⟩:=j.out.b0;obtain⟨H,I,J,L,M,N⟩:=j.out.b1) | (go_at_call 12;(with_reducible refine(EE l [43,43] _).mono ?_);rintro e w3 ⟨rfl,hb⟩;replace j:=aG (j.out.quiet hb);clear hb;cases hs:EP l [43,43]<;>(simp only[hs,if_true,if_false,aI,reduceIte,or_true,true_or,or_false,false_or,and_true,true_and,and_false,false_and] at V;clear hs);all_goals ((try clear B C D E F G);(try clear H I J L M N);(try clear O P Q R S T);(try clear m30 m31 m32 m33 m34 m3f);obtain⟨B,C,D,E,F,G⟩:=j.out.b0;obtain⟨H,I,J,L,M,N⟩:=j.out.b1)) | (go_at_call 12;(with_reducible refine(EE l [45,45] _).mono ?_);rintro e w5 ⟨rfl,hb⟩;replace j:=aG (j.out.quiet hb);clear hb;cases hs:EP l [45,45]<;>(simp only[hs,if_true,if_false,aI,reduceIte,or_true,true_or,or_false,false_or,and_true,true_and,and_false,false_and] at V;clear hs);all_goals ((try clear B C D E F G);(try clear H I J L M N);(try clear O P Q R S T);(try clear m30 m31 m32 m33 m34 m3f);obtain⟨B,C,D,E,F,G⟩:=j.out.b0;obtain⟨H,I,J,L,M,N⟩:=j.out.b1)) | (go_at_call 16;(with_reducible refine(C2 HP.out j.out.z l d0).mono ?_);rintro e w6 ⟨rfl,Z,U⟩;replace j:=aG (j.out.move Z U);clear Z U;(try clear B C D E F G);(try clear H I J L M N);(try clear O P Q R S T);(try clear m30 m31 m32 m33 m34 m3f);obtain⟨B,C,D,E,F,G⟩:=j.out.b0;obtain⟨H,I,J,L,M,N⟩:=j.out.b1) | (go_at_call 148;(with_reducible refine(HT.out _ _ j.out.z (CA (M2 V) hh)).mono ?_);intro e w7 ha;rcases ha.part (M2 V) hh with⟨f,er,rfl,U,hr⟩ | ⟨_,p7,v,rfl,⟨⟨y,kv,rfl,rfl,hk⟩,Z⟩,U,Y⟩;exact⟨rfl,BX hr (j.out.o.trans U)⟩;replace V:=Y;clear Y ha;(try dsimp only at V);obtain⟨ay,cy,rfl⟩:=hk.slice;replace j:=aG ((j.out.read hk Z U));clear hk Z U;(try dsimp only[hd1,List.headD,aH,aJ,aK] at V);(try clear B C D E F G);(try clear H I J L M N);(try clear O P Q R S T);(try clear m30 m31 m32 m33 m34 m3f);obtain⟨B,C,D,E,F,G⟩:=j.out.b0;obtain⟨H,I,J,L,M,N⟩:=j.out.b1;unfold CJ))
 ·exact⟨rfl,BX (aG V.out.symm) j.out.o⟩
 ·(try clear B C D E F G);(try clear H I J L M N);(try clear O P Q R S T);(try clear m30 m31 m32 m33 m34 m3f)
  refine j.out.region 6 (by kernel_rfl) (fun u=>?_);refine BT (i:=0) (v:=.pointer (some ⟨w2.heap.size,1,none⟩)) rfl (by kernel_rfl) (fun _ _ _ h=>h) (Or.inl ⟨by rfl,fun w hS=>by go_simp⟩) u ?_
  (try dsimp only);try simp only[Act.put,aD,aB,aC,aA,aE,aF]
  refine BT (i:=1) (v:=.string ⟨l.tx.toArray⟩) rfl (by kernel_rfl) (fun _ _ _ h=>h) (Or.inl ⟨by rfl,fun w hS=>by obtain⟨s0,s1,s2,s3,s4,-⟩:=hS.b0;go_simp⟩) u ?_
  (try dsimp only);try simp only[Act.put,aD,aB,aC,aA,aE,aF]
  refine BT (i:=2) (v:=.pointer (some ⟨q,0,none⟩)) rfl (by kernel_rfl) (fun _ _ _ h=>h) (Or.inl ⟨by rfl,fun w hS=>by go_simp⟩) u ?_
  (try dsimp only);try simp only[Act.put,aD,aB,aC,aA,aE,aF]
  refine BT (i:=3) (v:=(.agg #[.int .i64 l.kd,.string ⟨l.tx.toArray⟩,.float .f64 l.nm,.int .i64 l.f,.int .i64 l.t])) rfl (by kernel_rfl) (fun _ _ _ h=>h) (Or.inl ⟨by rfl,fun w hS=>by obtain⟨s0,s1,s2,s3,s4,-⟩:=hS.b0;go_simp⟩) u ?_
  (try dsimp only);try simp only[Act.put,aD,aB,aC,aA,aE,aF]
  refine BW (rs:=[4]) (by kernel_rfl) rfl (BS.cons rfl (by rfl) (fun K A=>?_) BS.nil)
  try go_simp
  go_at_call 16
  refine(C2 HP.out j.out.drew.z l d0).mono ?_;rintro e w8 ⟨rfl,Z,U⟩;replace j:=aG (j.out.drew.move Z U);clear Z U u;refine A.out _ _ (.inr j.out.bs) ?_
  (try dsimp only);try simp only[Act.put,aD,aB,aC,aA,aE,aF]
  refine BW (rs:=[5]) (by kernel_rfl) rfl (BS.cons rfl (by rfl) (fun K A=>?_) BS.nil)
  try go_simp
  refine A.out _ _ (.inr j.out.bs) ?_
  (try dsimp only);try simp only[Act.put,aD,aB,aC,aA,aE,aF]
  obtain⟨n0,n1,n2,n3,n4,nf⟩:=j.out.b1;refine BW (rs:=[6]) (by kernel_rfl) rfl (BS.cons rfl (by rfl) (fun K A=>?_) BS.nil)
  try go_simp
  refine A.out _ _ (.inl rfl) ?_
  (try dsimp only);try simp only[Act.put,aD,aB,aC,aA,aE,aF]
  refine Aal (by kernel_rfl) ?_ _;go_wp2;obtain⟨z0,z1,z2,z3,z4,zf⟩:=((((j.out.b1.set0 (.int .i64 3)).set1 (.string ⟨l.tx.toArray⟩)).set2 (.float .f64 0)).set3 (.slice none 0 0)).set4 (.complex .f64 (pl l.f).1 (pl l.f).2);exact bodyPost_ret (v:=.agg #[.int .i64 3,.string ⟨l.tx.toArray⟩,.float .f64 0,.slice none 0 0,.complex .f64 (pl l.f).1 (pl l.f).2]) (by simp[results,results145,go_sem,z0,z1,z2,z3,z4]<;>exact rfl) rfl (j.out.done (t:=.mk 3 l.tx 0 (pl l.f) []) (Am.nil _) _ _ _ _ _ V)
 ·(try clear B C D E F G);(try clear H I J L M N);(try clear O P Q R S T);(try clear m30 m31 m32 m33 m34 m3f)
  refine j.out.region 6 (by kernel_rfl) (fun u=>?_);refine BT (i:=0) (v:=.pointer (some ⟨w2.heap.size,2,none⟩)) rfl (by kernel_rfl) (fun _ _ _ h=>h) (Or.inl ⟨by rfl,fun w hS=>by go_simp⟩) u ?_
  (try dsimp only);try simp only[Act.put,aD,aB,aC,aA,aE,aF]
  refine BT (i:=1) (v:=.float .f64 l.nm) rfl (by kernel_rfl) (fun _ _ _ h=>h) (Or.inl ⟨by rfl,fun w hS=>by obtain⟨s0,s1,s2,s3,s4,-⟩:=hS.b0;go_simp⟩) u ?_
  (try dsimp only);try simp only[Act.put,aD,aB,aC,aA,aE,aF]
  refine BT (i:=2) (v:=.pointer (some ⟨q,0,none⟩)) rfl (by kernel_rfl) (fun _ _ _ h=>h) (Or.inl ⟨by rfl,fun w hS=>by go_simp⟩) u ?_
  (try dsimp only);try simp only[Act.put,aD,aB,aC,aA,aE,aF]
  refine BT (i:=3) (v:=(.agg #[.int .i64 l.kd,.string ⟨l.tx.toArray⟩,.float .f64 l.nm,.int .i64 l.f,.int .i64 l.t])) rfl (by kernel_rfl) (fun _ _ _ h=>h) (Or.inl ⟨by rfl,fun w hS=>by obtain⟨s0,s1,s2,s3,s4,-⟩:=hS.b0;go_simp⟩) u ?_
  (try dsimp only);try simp only[Act.put,aD,aB,aC,aA,aE,aF]
  refine BW (rs:=[4]) (by kernel_rfl) rfl (BS.cons rfl (by rfl) (fun K A=>?_) BS.nil)
  try go_simp
  go_at_call 16
  refine(C2 HP.out j.out.drew.z l d0).mono ?_;rintro e w8 ⟨rfl,Z,U⟩;replace j:=aG (j.out.drew.move Z U);clear Z U u;refine A.out _ _ (.inr j.out.bs) ?_
  (try dsimp only);try simp only[Act.put,aD,aB,aC,aA,aE,aF]
  refine BW (rs:=[5]) (by kernel_rfl) rfl (BS.cons rfl (by rfl) (fun K A=>?_) BS.nil)
  try go_simp
  refine A.out _ _ (.inr j.out.bs) ?_
  (try dsimp only);try simp only[Act.put,aD,aB,aC,aA,aE,aF]
  obtain⟨n0,n1,n2,n3,n4,nf⟩:=j.out.b1;refine BW (rs:=[6]) (by kernel_rfl) rfl (BS.cons rfl (by rfl) (fun K A=>?_) BS.nil)
  try go_simp
  refine A.out _ _ (.inl rfl) ?_
  (try dsimp only);try simp only[Act.put,aD,aB,aC,aA,aE,aF]
  refine Aal (by kernel_rfl) ?_ _;go_wp2;obtain⟨z0,z1,z2,z3,z4,zf⟩:=((((j.out.b1.set0 (.int .i64 1)).set1 (.string ⟨#[]⟩)).set2 (.float .f64 l.nm)).set3 (.slice none 0 0)).set4 (.complex .f64 (pl l.f).1 (pl l.f).2);exact bodyPost_ret (v:=.agg #[.int .i64 1,.string ⟨#[]⟩,.float .f64 l.nm,.slice none 0 0,.complex .f64 (pl l.f).1 (pl l.f).2]) (by simp[results,results145,go_sem,z0,z1,z2,z3,z4]<;>exact rfl) rfl (j.out.done (t:=.mk 1 [] l.nm (pl l.f) []) (Am.nil _) _ _ _ _ _ V)
 ·exact⟨rfl,BX (aG V.out.symm) j.out.o⟩
 ·(try clear B C D E F G);(try clear H I J L M N);(try clear O P Q R S T);(try clear m30 m31 m32 m33 m34 m3f)
  refine j.out.region 6 (by kernel_rfl) (fun u=>?_);refine BT (i:=0) (v:=.pointer (some ⟨w2.heap.size,1,none⟩)) rfl (by kernel_rfl) (fun _ _ _ h=>h) (Or.inl ⟨by rfl,fun w hS=>by go_simp⟩) u ?_
  (try dsimp only);try simp only[Act.put,aD,aB,aC,aA,aE,aF]
  refine BT (i:=1) (v:=.string ⟨l.tx.toArray⟩) rfl (by kernel_rfl) (fun _ _ _ h=>h) (Or.inl ⟨by rfl,fun w hS=>by obtain⟨s0,s1,s2,s3,s4,-⟩:=hS.b0;go_simp⟩) u ?_
  (try dsimp only);try simp only[Act.put,aD,aB,aC,aA,aE,aF]
  refine BT (i:=2) (v:=.pointer (some ⟨q,0,none⟩)) rfl (by kernel_rfl) (fun _ _ _ h=>h) (Or.inl ⟨by rfl,fun w hS=>by go_simp⟩) u ?_
  (try dsimp only);try simp only[Act.put,aD,aB,aC,aA,aE,aF]
  refine BT (i:=3) (v:=(.agg #[.int .i64 l.kd,.string ⟨l.tx.toArray⟩,.float .f64 l.nm,.int .i64 l.f,.int .i64 l.t])) rfl (by kernel_rfl) (fun _ _ _ h=>h) (Or.inl ⟨by rfl,fun w hS=>by obtain⟨s0,s1,s2,s3,s4,-⟩:=hS.b0;go_simp⟩) u ?_
  (try dsimp only);try simp only[Act.put,aD,aB,aC,aA,aE,aF]
  refine BW (rs:=[4]) (by kernel_rfl) rfl (BS.cons rfl (by rfl) (fun K A=>?_) BS.nil)
  try go_simp
  go_at_call 16
  refine(C2 HP.out j.out.drew.z l d0).mono ?_;rintro e w8 ⟨rfl,Z,U⟩;replace j:=aG (j.out.drew.move Z U);clear Z U u;refine A.out _ _ (.inr j.out.bs) ?_
  (try dsimp only);try simp only[Act.put,aD,aB,aC,aA,aE,aF]
  refine BW (rs:=[5]) (by kernel_rfl) rfl (BS.cons rfl (by rfl) (fun K A=>?_) BS.nil)
  try go_simp
  refine A.out _ _ (.inr j.out.bs) ?_
  (try dsimp only);try simp only[Act.put,aD,aB,aC,aA,aE,aF]
  obtain⟨n0,n1,n2,n3,n4,nf⟩:=j.out.b1;refine BW (rs:=[6]) (by kernel_rfl) rfl (BS.cons rfl (by rfl) (fun K A=>?_) BS.nil)
  try go_simp
  refine A.out _ _ (.inl rfl) ?_
  (try dsimp only);try simp only[Act.put,aD,aB,aC,aA,aE,aF]
  refine Aal (by kernel_rfl) ?_ _;go_wp2;obtain⟨z0,z1,z2,z3,z4,zf⟩:=((((j.out.b1.set0 (.int .i64 2)).set1 (.string ⟨l.tx.toArray⟩)).set2 (.float .f64 0)).set3 (.slice none 0 0)).set4 (.complex .f64 (pl l.f).1 (pl l.f).2);exact bodyPost_ret (v:=.agg #[.int .i64 2,.string ⟨l.tx.toArray⟩,.float .f64 0,.slice none 0 0,.complex .f64 (pl l.f).1 (pl l.f).2]) (by simp[results,results145,go_sem,z0,z1,z2,z3,z4]<;>exact rfl) rfl (j.out.done (t:=.mk 2 l.tx 0 (pl l.f) []) (Am.nil _) _ _ _ _ _ V)
 ·exact⟨rfl,BX (aG V.out.symm) j.out.o⟩
 ·go_cut [7] (fun v wx=>∃nb,v = .pointer (some ⟨nb,0,none⟩)/\Hid (Fx w0 W q (W.heap.size+1) s (CQ l p2) [⟨nb,.int .i64 19,.string ⟨l.tx.toArray⟩,.float .f64 0,.slice none 0 0,.complex .f64 (pl l.f).1 (pl l.f).2⟩,⟨w2.heap.size,.int .i64 l.kd,.string ⟨l.tx.toArray⟩,.float .f64 l.nm,.int .i64 l.f,.int .i64 l.t⟩,⟨W.heap.size,.int .i64 0,.string ⟨#[]⟩,.float .f64 0,.slice none 0 0,.complex .f64 0 0⟩] [] wx))
  case first =>
   (try clear B C D E F G);(try clear H I J L M N);(try clear O P Q R S T);(try clear m30 m31 m32 m33 m34 m3f)
   revert j
   (try generalize World.alloc _ _=X)
   intro j;refine j.out.region 7 (by kernel_rfl) (fun u=>?_);refine BT (i:=0) (v:=.pointer (some ⟨w2.heap.size,1,none⟩)) rfl (by kernel_rfl) (fun _ _ _ h=>h) (Or.inl ⟨by rfl,fun w hS=>by go_simp⟩) u ?_
   (try dsimp only);try simp only[Act.put,aD,aB,aC,aA,aE,aF]
   refine BT (i:=1) (v:=.string ⟨l.tx.toArray⟩) rfl (by kernel_rfl) (fun _ _ _ h=>h) (Or.inl ⟨by rfl,fun w hS=>by obtain⟨s0,s1,s2,s3,s4,-⟩:=hS.b0;go_simp⟩) u ?_
   (try dsimp only);try simp only[Act.put,aD,aB,aC,aA,aE,aF]
   refine BT (i:=2) (v:=.pointer (some ⟨q,0,none⟩)) rfl (by kernel_rfl) (fun _ _ _ h=>h) (Or.inl ⟨by rfl,fun w hS=>by go_simp⟩) u ?_
   (try dsimp only);try simp only[Act.put,aD,aB,aC,aA,aE,aF]
   refine BT (i:=3) (v:=(.agg #[.int .i64 l.kd,.string ⟨l.tx.toArray⟩,.float .f64 l.nm,.int .i64 l.f,.int .i64 l.t])) rfl (by kernel_rfl) (fun _ _ _ h=>h) (Or.inl ⟨by rfl,fun w hS=>by obtain⟨s0,s1,s2,s3,s4,-⟩:=hS.b0;go_simp⟩) u ?_
   (try dsimp only);try simp only[Act.put,aD,aB,aC,aA,aE,aF]
   refine BW (rs:=[4,6]) (by kernel_rfl) rfl (BS.cons rfl (by rfl) (fun K A=>?_) (BS.cons rfl (by rfl) (fun K A=>?_) BS.nil))
   ·try go_simp
    go_at_call 16
    refine(C2 HP.out j.out.drew.z l d0).mono ?_;rintro e w8 ⟨rfl,Z,U⟩;replace j:=aG (j.out.drew.move Z U);clear Z U u;refine A.out _ _ (.inr j.out.bs) ?_
    (try dsimp only);try simp only[Act.put,aD,aB,aC,aA,aE,aF]
    refine BW (rs:=[5,6]) (by kernel_rfl) rfl (BS.cons rfl (by rfl) (fun K A=>?_) (BS.cons rfl (by rfl) (fun K A=>?_) BS.nil))
    ·try go_simp
     refine A.out _ _ (.inr j.out.bs) ?_
     (try dsimp only);try simp only[Act.put,aD,aB,aC,aA,aE,aF]
     refine BW (rs:=[6]) (by kernel_rfl) rfl (BS.cons rfl (by rfl) (fun K A=>?_) BS.nil)
     try go_simp
     have HA:=aG j.out;replace j:=aG (j.out.box (.int .i64 0) (.string ⟨#[]⟩) (.float .f64 0) (.slice none 0 0) (.complex .f64 0 0) 34);refine A.out _ _ (.inr j.out.drop.bs) ?_
     (try dsimp only);try simp only[Act.put,aD,aB,aC,aA,aE,aF]
     refine BW (rs:=[7]) (by kernel_rfl) rfl (BS.cons rfl (by rfl) (fun K A=>?_) BS.nil);obtain⟨n0,n1,n2,n3,n4,nf⟩:=j.out.b0
     try go_simp
     refine A.out _ _ (.inl rfl) ?_
     (try dsimp only);try simp only[Act.put,aD,aB,aC,aA,aE,aF]
     refine Aal (by kernel_rfl) ?_ _;replace j:=aG (HA.out.box (.int .i64 19) (.string ⟨l.tx.toArray⟩) (.float .f64 0) (.slice none 0 0) (.complex .f64 (pl l.f).1 (pl l.f).2) 34);go_wp2;go_meet;exact⟨_,rfl,aG j.out.norow⟩
    try go_simp
    have HA:=aG j.out;replace j:=aG (j.out.box (.int .i64 0) (.string ⟨#[]⟩) (.float .f64 0) (.slice none 0 0) (.complex .f64 0 0) 34);refine A.out _ _ (.inr j.out.drop.bs) ?_
    (try dsimp only);try simp only[Act.put,aD,aB,aC,aA,aE,aF]
    refine BW (rs:=[5]) (by kernel_rfl) rfl (BS.cons rfl (by rfl) (fun K A=>?_) BS.nil)
    try go_simp
    refine A.out _ _ (.inr j.out.drop.bs) ?_
    (try dsimp only);try simp only[Act.put,aD,aB,aC,aA,aE,aF]
    refine BW (rs:=[7]) (by kernel_rfl) rfl (BS.cons rfl (by rfl) (fun K A=>?_) BS.nil);obtain⟨n0,n1,n2,n3,n4,nf⟩:=j.out.b0
    try go_simp
    refine A.out _ _ (.inl rfl) ?_
    (try dsimp only);try simp only[Act.put,aD,aB,aC,aA,aE,aF]
    refine Aal (by kernel_rfl) ?_ _;replace j:=aG (HA.out.box (.int .i64 19) (.string ⟨l.tx.toArray⟩) (.float .f64 0) (.slice none 0 0) (.complex .f64 (pl l.f).1 (pl l.f).2) 34);go_wp2;go_meet;exact⟨_,rfl,aG j.out.norow⟩
   try go_simp
   replace j:=aG (j.out.box (.int .i64 0) (.string ⟨#[]⟩) (.float .f64 0) (.slice none 0 0) (.complex .f64 0 0) 34).drew;refine A.out _ _ (.inr j.out.drop.bs) ?_
   (try dsimp only);try simp only[Act.put,aD,aB,aC,aA,aE,aF]
   refine BW (rs:=[4]) (by kernel_rfl) rfl (BS.cons rfl (by rfl) (fun K A=>?_) BS.nil)
   try go_simp
   go_at_call 16
   refine(C2 HP.out j.out.z l d0).mono ?_;rintro e w8 ⟨rfl,Z,U⟩;replace j:=aG (j.out.move Z U);clear Z U u;refine A.out _ _ (.inr j.out.drop.bs) ?_
   (try dsimp only);try simp only[Act.put,aD,aB,aC,aA,aE,aF]
   refine BW (rs:=[5]) (by kernel_rfl) rfl (BS.cons rfl (by rfl) (fun K A=>?_) BS.nil)
   try go_simp
   refine A.out _ _ (.inr j.out.drop.bs) ?_
   (try dsimp only);try simp only[Act.put,aD,aB,aC,aA,aE,aF]
   refine BW (rs:=[7]) (by kernel_rfl) rfl (BS.cons rfl (by rfl) (fun K A=>?_) BS.nil);obtain⟨n0,n1,n2,n3,n4,nf⟩:=j.out.b0
   try go_simp
   refine A.out _ _ (.inl rfl) ?_
   (try dsimp only);try simp only[Act.put,aD,aB,aC,aA,aE,aF]
   refine Aal (by kernel_rfl) ?_ _;replace j:=aG (j.out.store (.int .i64 19) (.string ⟨l.tx.toArray⟩) (.float .f64 0) (.slice none 0 0) (.complex .f64 (pl l.f).1 (pl l.f).2));go_wp2;go_meet;exact⟨_,rfl,aG j.out.norow⟩
  obtain⟨nb,rfl,j⟩:=hcut
  (try clear B C D E F G);(try clear H I J L M N);(try clear O P Q R S T);(try clear m30 m31 m32 m33 m34 m3f);obtain⟨B,C,D,E,F,G⟩:=j.out.b0;obtain⟨H,I,J,L,M,N⟩:=j.out.b1;obtain⟨O,P,Q,R,S,T⟩:=j.out.b2
  go_wp2_with (first | (go_at_call 147;(with_reducible refine(HA.out _ _ j.out.z (CA V hh)).mono ?_);intro e w9 ha;rcases ha.part V hh with⟨f,er,rfl,U,hr⟩ | ⟨l9,p9,v,rfl,⟨hk,Z⟩,U,Y⟩;exact⟨rfl,BX hr (j.out.o.trans U)⟩;replace V:=Y;clear Y ha;(try dsimp only at V);obtain⟨a0,c0,rfl⟩:=hk.slice;replace j:=aG (j.out.read hk Z U);clear hk Z U;(try clear B C D E F G);(try clear H I J L M N);(try clear O P Q R S T);(try clear m30 m31 m32 m33 m34 m3f);obtain⟨B,C,D,E,F,G⟩:=j.out.b0;obtain⟨H,I,J,L,M,N⟩:=j.out.b1;obtain⟨O,P,Q,R,S,T⟩:=j.out.b2;(try clear B C D E F G);(try clear H I J L M N);(try clear O P Q R S T);(try clear m30 m31 m32 m33 m34 m3f);obtain⟨B,C,D,E,F,G⟩:=j.out.b0;obtain⟨H,I,J,L,M,N⟩:=j.out.b1;obtain⟨O,P,Q,R,S,T⟩:=j.out.b2;replace j:=aG (j.out.put3 (.slice a0 l9.length c0));obtain⟨j0,l0,m0,o0,p0,q0⟩:=j.out.b0;obtain⟨r0,t0,v0,x0,y0,a1⟩:=j.out.b1;obtain⟨c1,d1,e1,f1,g1,h1⟩:=j.out.b2))
  obtain⟨z0,z1,z2,z3,z4,zf⟩:=((((j.out.b2.set0 (.int .i64 19)).set1 (.string ⟨l.tx.toArray⟩)).set2 (.float .f64 0)).set3 (.slice a0 l9.length c0)).set4 (.complex .f64 (pl l.f).1 (pl l.f).2);exact bodyPost_ret (v:=.agg #[.int .i64 19,.string ⟨l.tx.toArray⟩,.float .f64 0,.slice a0 l9.length c0,.complex .f64 (pl l.f).1 (pl l.f).2]) (by simp[results,results145,go_sem,z0,z1,z2,z3,z4]<;>exact rfl) rfl (j.out.done (t:=.mk 19 l.tx 0 (pl l.f) l9) j.out.k0 _ _ _ _ _ V)
 ·go_cut [8] (fun v wx=>∃nb,v = .pointer (some ⟨nb,0,none⟩)/\Hid (Fx w0 W q (W.heap.size+1) s (CQ l p2) [⟨nb,.int .i64 20,.string ⟨l.tx.toArray⟩,.float .f64 0,.slice none 0 0,.complex .f64 (pl l.f).1 (pl l.f).2⟩,⟨w2.heap.size,.int .i64 l.kd,.string ⟨l.tx.toArray⟩,.float .f64 l.nm,.int .i64 l.f,.int .i64 l.t⟩,⟨W.heap.size,.int .i64 0,.string ⟨#[]⟩,.float .f64 0,.slice none 0 0,.complex .f64 0 0⟩] [] wx))
  case first =>
   (try clear B C D E F G);(try clear H I J L M N);(try clear O P Q R S T);(try clear m30 m31 m32 m33 m34 m3f)
   revert j
   (try generalize World.alloc _ _=X)
   intro j;refine j.out.region 7 (by kernel_rfl) (fun u=>?_);refine BT (i:=0) (v:=.pointer (some ⟨w2.heap.size,1,none⟩)) rfl (by kernel_rfl) (fun _ _ _ h=>h) (Or.inl ⟨by rfl,fun w hS=>by go_simp⟩) u ?_
   (try dsimp only);try simp only[Act.put,aD,aB,aC,aA,aE,aF]
   refine BT (i:=1) (v:=.string ⟨l.tx.toArray⟩) rfl (by kernel_rfl) (fun _ _ _ h=>h) (Or.inl ⟨by rfl,fun w hS=>by obtain⟨s0,s1,s2,s3,s4,-⟩:=hS.b0;go_simp⟩) u ?_
   (try dsimp only);try simp only[Act.put,aD,aB,aC,aA,aE,aF]
   refine BT (i:=2) (v:=.pointer (some ⟨q,0,none⟩)) rfl (by kernel_rfl) (fun _ _ _ h=>h) (Or.inl ⟨by rfl,fun w hS=>by go_simp⟩) u ?_
   (try dsimp only);try simp only[Act.put,aD,aB,aC,aA,aE,aF]
   refine BT (i:=3) (v:=(.agg #[.int .i64 l.kd,.string ⟨l.tx.toArray⟩,.float .f64 l.nm,.int .i64 l.f,.int .i64 l.t])) rfl (by kernel_rfl) (fun _ _ _ h=>h) (Or.inl ⟨by rfl,fun w hS=>by obtain⟨s0,s1,s2,s3,s4,-⟩:=hS.b0;go_simp⟩) u ?_
   (try dsimp only);try simp only[Act.put,aD,aB,aC,aA,aE,aF]
   refine BW (rs:=[4,6]) (by kernel_rfl) rfl (BS.cons rfl (by rfl) (fun K A=>?_) (BS.cons rfl (by rfl) (fun K A=>?_) BS.nil))
   ·try go_simp
    go_at_call 16
    refine(C2 HP.out j.out.drew.z l d0).mono ?_;rintro e w8 ⟨rfl,Z,U⟩;replace j:=aG (j.out.drew.move Z U);clear Z U u;refine A.out _ _ (.inr j.out.bs) ?_
    (try dsimp only);try simp only[Act.put,aD,aB,aC,aA,aE,aF]
    refine BW (rs:=[5,6]) (by kernel_rfl) rfl (BS.cons rfl (by rfl) (fun K A=>?_) (BS.cons rfl (by rfl) (fun K A=>?_) BS.nil))
    ·try go_simp
     refine A.out _ _ (.inr j.out.bs) ?_
     (try dsimp only);try simp only[Act.put,aD,aB,aC,aA,aE,aF]
     refine BW (rs:=[6]) (by kernel_rfl) rfl (BS.cons rfl (by rfl) (fun K A=>?_) BS.nil)
     try go_simp
     have HA:=aG j.out;replace j:=aG (j.out.box (.int .i64 0) (.string ⟨#[]⟩) (.float .f64 0) (.slice none 0 0) (.complex .f64 0 0) 34);refine A.out _ _ (.inr j.out.drop.bs) ?_
     (try dsimp only);try simp only[Act.put,aD,aB,aC,aA,aE,aF]
     refine BW (rs:=[7]) (by kernel_rfl) rfl (BS.cons rfl (by rfl) (fun K A=>?_) BS.nil);obtain⟨n0,n1,n2,n3,n4,nf⟩:=j.out.b0
     try go_simp
     refine A.out _ _ (.inl rfl) ?_
     (try dsimp only);try simp only[Act.put,aD,aB,aC,aA,aE,aF]
     refine Aal (by kernel_rfl) ?_ _;replace j:=aG (HA.out.box (.int .i64 20) (.string ⟨l.tx.toArray⟩) (.float .f64 0) (.slice none 0 0) (.complex .f64 (pl l.f).1 (pl l.f).2) 34);go_wp2;go_meet;exact⟨_,rfl,aG j.out.norow⟩
    try go_simp
    have HA:=aG j.out;replace j:=aG (j.out.box (.int .i64 0) (.string ⟨#[]⟩) (.float .f64 0) (.slice none 0 0) (.complex .f64 0 0) 34);refine A.out _ _ (.inr j.out.drop.bs) ?_
    (try dsimp only);try simp only[Act.put,aD,aB,aC,aA,aE,aF]
    refine BW (rs:=[5]) (by kernel_rfl) rfl (BS.cons rfl (by rfl) (fun K A=>?_) BS.nil)
    try go_simp
    refine A.out _ _ (.inr j.out.drop.bs) ?_
    (try dsimp only);try simp only[Act.put,aD,aB,aC,aA,aE,aF]
    refine BW (rs:=[7]) (by kernel_rfl) rfl (BS.cons rfl (by rfl) (fun K A=>?_) BS.nil);obtain⟨n0,n1,n2,n3,n4,nf⟩:=j.out.b0
    try go_simp
    refine A.out _ _ (.inl rfl) ?_
    (try dsimp only);try simp only[Act.put,aD,aB,aC,aA,aE,aF]
    refine Aal (by kernel_rfl) ?_ _;replace j:=aG (HA.out.box (.int .i64 20) (.string ⟨l.tx.toArray⟩) (.float .f64 0) (.slice none 0 0) (.complex .f64 (pl l.f).1 (pl l.f).2) 34);go_wp2;go_meet;exact⟨_,rfl,aG j.out.norow⟩
   try go_simp
   replace j:=aG (j.out.box (.int .i64 0) (.string ⟨#[]⟩) (.float .f64 0) (.slice none 0 0) (.complex .f64 0 0) 34).drew;refine A.out _ _ (.inr j.out.drop.bs) ?_
   (try dsimp only);try simp only[Act.put,aD,aB,aC,aA,aE,aF]
   refine BW (rs:=[4]) (by kernel_rfl) rfl (BS.cons rfl (by rfl) (fun K A=>?_) BS.nil)
   try go_simp
   go_at_call 16
   refine(C2 HP.out j.out.z l d0).mono ?_;rintro e w8 ⟨rfl,Z,U⟩;replace j:=aG (j.out.move Z U);clear Z U u;refine A.out _ _ (.inr j.out.drop.bs) ?_
   (try dsimp only);try simp only[Act.put,aD,aB,aC,aA,aE,aF]
   refine BW (rs:=[5]) (by kernel_rfl) rfl (BS.cons rfl (by rfl) (fun K A=>?_) BS.nil)
   try go_simp
   refine A.out _ _ (.inr j.out.drop.bs) ?_
   (try dsimp only);try simp only[Act.put,aD,aB,aC,aA,aE,aF]
   refine BW (rs:=[7]) (by kernel_rfl) rfl (BS.cons rfl (by rfl) (fun K A=>?_) BS.nil);obtain⟨n0,n1,n2,n3,n4,nf⟩:=j.out.b0
   try go_simp
   refine A.out _ _ (.inl rfl) ?_
   (try dsimp only);try simp only[Act.put,aD,aB,aC,aA,aE,aF]
   refine Aal (by kernel_rfl) ?_ _;replace j:=aG (j.out.store (.int .i64 20) (.string ⟨l.tx.toArray⟩) (.float .f64 0) (.slice none 0 0) (.complex .f64 (pl l.f).1 (pl l.f).2));go_wp2;go_meet;exact⟨_,rfl,aG j.out.norow⟩
  obtain⟨nb,rfl,j⟩:=hcut;rw[i1.out] at j V
  (try clear B C D E F G);(try clear H I J L M N);(try clear O P Q R S T);(try clear m30 m31 m32 m33 m34 m3f);obtain⟨B,C,D,E,F,G⟩:=j.out.b0;obtain⟨H,I,J,L,M,N⟩:=j.out.b1;obtain⟨O,P,Q,R,S,T⟩:=j.out.b2
  go_wp2_with (first | (go_at_call 19;(with_reducible refine(F1 HN.out j.out.z [40]).mono ?_);intro e w6 ha;rcases ha.part V hh with⟨f,er,rfl,U,hr⟩ | ⟨b,p6,v,rfl,⟨rfl,rfl,hb⟩,U,Y⟩;exact⟨rfl,BX hr (j.out.o.trans U)⟩;replace V:=Y;clear Y ha;(try dsimp only at V);replace j:=aG (j.out.quiet hb);clear hb U;cases b<;>(simp only[if_true,if_false,aI,reduceIte] at V);all_goals ((try clear B C D E F G);(try clear H I J L M N);(try clear O P Q R S T);(try clear m30 m31 m32 m33 m34 m3f);obtain⟨B,C,D,E,F,G⟩:=j.out.b0;obtain⟨H,I,J,L,M,N⟩:=j.out.b1;obtain⟨O,P,Q,R,S,T⟩:=j.out.b2)) | (go_at_call 147;(with_reducible refine(HA.out _ _ j.out.z (CA V hh)).mono ?_);intro e w9 ha;rcases ha.part V hh with⟨f,er,rfl,U,hr⟩ | ⟨l9,p9,v,rfl,⟨hk,Z⟩,U,Y⟩;exact⟨rfl,BX hr (j.out.o.trans U)⟩;replace V:=Y;clear Y ha;(try dsimp only at V);obtain⟨a0,c0,rfl⟩:=hk.slice;replace j:=aG (j.out.read hk Z U);clear hk Z U;(try clear B C D E F G);(try clear H I J L M N);(try clear O P Q R S T);(try clear m30 m31 m32 m33 m34 m3f);obtain⟨B,C,D,E,F,G⟩:=j.out.b0;obtain⟨H,I,J,L,M,N⟩:=j.out.b1;obtain⟨O,P,Q,R,S,T⟩:=j.out.b2;(try clear B C D E F G);(try clear H I J L M N);(try clear O P Q R S T);(try clear m30 m31 m32 m33 m34 m3f);obtain⟨B,C,D,E,F,G⟩:=j.out.b0;obtain⟨H,I,J,L,M,N⟩:=j.out.b1;obtain⟨O,P,Q,R,S,T⟩:=j.out.b2;replace j:=aG (j.out.put3 (.slice a0 l9.length c0));obtain⟨j0,l0,m0,o0,p0,q0⟩:=j.out.b0;obtain⟨r0,t0,v0,x0,y0,a1⟩:=j.out.b1;obtain⟨c1,d1,e1,f1,g1,h1⟩:=j.out.b2))
  ·obtain⟨z0,z1,z2,z3,z4,zf⟩:=((((j.out.b2.set0 (.int .i64 20)).set1 (.string ⟨#[108,101,110,103,116,104]⟩)).set2 (.float .f64 0)).set3 (.slice none 0 0)).set4 (.complex .f64 (pl l.f).1 (pl l.f).2)
   exact bodyPost_ret (v:=.agg #[.int .i64 20,.string ⟨#[108,101,110,103,116,104]⟩,.float .f64 0,.slice none 0 0,.complex .f64 (pl l.f).1 (pl l.f).2]) (by simp[results,results145,go_sem,z0,z1,z2,z3,z4]<;>exact rfl) rfl (j.out.done (t:=.mk 20 [108,101,110,103,116,104] 0 (pl l.f) []) (Am.nil _) _ _ _ _ _ V)
  obtain⟨z0,z1,z2,z3,z4,zf⟩:=((((j.out.b2.set0 (.int .i64 20)).set1 (.string ⟨#[108,101,110,103,116,104]⟩)).set2 (.float .f64 0)).set3 (.slice a0 l9.length c0)).set4 (.complex .f64 (pl l.f).1 (pl l.f).2);exact bodyPost_ret (v:=.agg #[.int .i64 20,.string ⟨#[108,101,110,103,116,104]⟩,.float .f64 0,.slice a0 l9.length c0,.complex .f64 (pl l.f).1 (pl l.f).2]) (by simp[results,results145,go_sem,z0,z1,z2,z3,z4]<;>exact rfl) rfl (j.out.done (t:=.mk 20 [108,101,110,103,116,104] 0 (pl l.f) l9) j.out.k0 _ _ _ _ _ V)
 ·go_cut [8] (fun v wx=>∃nb,v = .pointer (some ⟨nb,0,none⟩)/\Hid (Fx w0 W q (W.heap.size+1) s (CQ l p2) [⟨nb,.int .i64 20,.string ⟨l.tx.toArray⟩,.float .f64 0,.slice none 0 0,.complex .f64 (pl l.f).1 (pl l.f).2⟩,⟨w2.heap.size,.int .i64 l.kd,.string ⟨l.tx.toArray⟩,.float .f64 l.nm,.int .i64 l.f,.int .i64 l.t⟩,⟨W.heap.size,.int .i64 0,.string ⟨#[]⟩,.float .f64 0,.slice none 0 0,.complex .f64 0 0⟩] [] wx))
  case first =>
   (try clear B C D E F G);(try clear H I J L M N);(try clear O P Q R S T);(try clear m30 m31 m32 m33 m34 m3f)
   revert j
   (try generalize World.alloc _ _=X)
   intro j;refine j.out.region 7 (by kernel_rfl) (fun u=>?_);refine BT (i:=0) (v:=.pointer (some ⟨w2.heap.size,1,none⟩)) rfl (by kernel_rfl) (fun _ _ _ h=>h) (Or.inl ⟨by rfl,fun w hS=>by go_simp⟩) u ?_
   (try dsimp only);try simp only[Act.put,aD,aB,aC,aA,aE,aF]
   refine BT (i:=1) (v:=.string ⟨l.tx.toArray⟩) rfl (by kernel_rfl) (fun _ _ _ h=>h) (Or.inl ⟨by rfl,fun w hS=>by obtain⟨s0,s1,s2,s3,s4,-⟩:=hS.b0;go_simp⟩) u ?_
   (try dsimp only);try simp only[Act.put,aD,aB,aC,aA,aE,aF]
   refine BT (i:=2) (v:=.pointer (some ⟨q,0,none⟩)) rfl (by kernel_rfl) (fun _ _ _ h=>h) (Or.inl ⟨by rfl,fun w hS=>by go_simp⟩) u ?_
   (try dsimp only);try simp only[Act.put,aD,aB,aC,aA,aE,aF]
   refine BT (i:=3) (v:=(.agg #[.int .i64 l.kd,.string ⟨l.tx.toArray⟩,.float .f64 l.nm,.int .i64 l.f,.int .i64 l.t])) rfl (by kernel_rfl) (fun _ _ _ h=>h) (Or.inl ⟨by rfl,fun w hS=>by obtain⟨s0,s1,s2,s3,s4,-⟩:=hS.b0;go_simp⟩) u ?_
   (try dsimp only);try simp only[Act.put,aD,aB,aC,aA,aE,aF]
   refine BW (rs:=[4,6]) (by kernel_rfl) rfl (BS.cons rfl (by rfl) (fun K A=>?_) (BS.cons rfl (by rfl) (fun K A=>?_) BS.nil))
   ·try go_simp
    go_at_call 16
    refine(C2 HP.out j.out.drew.z l d0).mono ?_;rintro e w8 ⟨rfl,Z,U⟩;replace j:=aG (j.out.drew.move Z U);clear Z U u;refine A.out _ _ (.inr j.out.bs) ?_
    (try dsimp only);try simp only[Act.put,aD,aB,aC,aA,aE,aF]
    refine BW (rs:=[5,6]) (by kernel_rfl) rfl (BS.cons rfl (by rfl) (fun K A=>?_) (BS.cons rfl (by rfl) (fun K A=>?_) BS.nil))
    ·try go_simp
     refine A.out _ _ (.inr j.out.bs) ?_
     (try dsimp only);try simp only[Act.put,aD,aB,aC,aA,aE,aF]
     refine BW (rs:=[6]) (by kernel_rfl) rfl (BS.cons rfl (by rfl) (fun K A=>?_) BS.nil)
     try go_simp
     have HA:=aG j.out;replace j:=aG (j.out.box (.int .i64 0) (.string ⟨#[]⟩) (.float .f64 0) (.slice none 0 0) (.complex .f64 0 0) 34);refine A.out _ _ (.inr j.out.drop.bs) ?_
     (try dsimp only);try simp only[Act.put,aD,aB,aC,aA,aE,aF]
     refine BW (rs:=[7]) (by kernel_rfl) rfl (BS.cons rfl (by rfl) (fun K A=>?_) BS.nil);obtain⟨n0,n1,n2,n3,n4,nf⟩:=j.out.b0
     try go_simp
     refine A.out _ _ (.inl rfl) ?_
     (try dsimp only);try simp only[Act.put,aD,aB,aC,aA,aE,aF]
     refine Aal (by kernel_rfl) ?_ _;replace j:=aG (HA.out.box (.int .i64 20) (.string ⟨l.tx.toArray⟩) (.float .f64 0) (.slice none 0 0) (.complex .f64 (pl l.f).1 (pl l.f).2) 34);go_wp2;go_meet;exact⟨_,rfl,aG j.out.norow⟩
    try go_simp
    have HA:=aG j.out;replace j:=aG (j.out.box (.int .i64 0) (.string ⟨#[]⟩) (.float .f64 0) (.slice none 0 0) (.complex .f64 0 0) 34);refine A.out _ _ (.inr j.out.drop.bs) ?_
    (try dsimp only);try simp only[Act.put,aD,aB,aC,aA,aE,aF]
    refine BW (rs:=[5]) (by kernel_rfl) rfl (BS.cons rfl (by rfl) (fun K A=>?_) BS.nil)
    try go_simp
    refine A.out _ _ (.inr j.out.drop.bs) ?_
    (try dsimp only);try simp only[Act.put,aD,aB,aC,aA,aE,aF]
    refine BW (rs:=[7]) (by kernel_rfl) rfl (BS.cons rfl (by rfl) (fun K A=>?_) BS.nil);obtain⟨n0,n1,n2,n3,n4,nf⟩:=j.out.b0
    try go_simp
    refine A.out _ _ (.inl rfl) ?_
    (try dsimp only);try simp only[Act.put,aD,aB,aC,aA,aE,aF]
    refine Aal (by kernel_rfl) ?_ _;replace j:=aG (HA.out.box (.int .i64 20) (.string ⟨l.tx.toArray⟩) (.float .f64 0) (.slice none 0 0) (.complex .f64 (pl l.f).1 (pl l.f).2) 34);go_wp2;go_meet;exact⟨_,rfl,aG j.out.norow⟩
   try go_simp
   replace j:=aG (j.out.box (.int .i64 0) (.string ⟨#[]⟩) (.float .f64 0) (.slice none 0 0) (.complex .f64 0 0) 34).drew;refine A.out _ _ (.inr j.out.drop.bs) ?_
   (try dsimp only);try simp only[Act.put,aD,aB,aC,aA,aE,aF]
   refine BW (rs:=[4]) (by kernel_rfl) rfl (BS.cons rfl (by rfl) (fun K A=>?_) BS.nil)
   try go_simp
   go_at_call 16
   refine(C2 HP.out j.out.z l d0).mono ?_;rintro e w8 ⟨rfl,Z,U⟩;replace j:=aG (j.out.move Z U);clear Z U u;refine A.out _ _ (.inr j.out.drop.bs) ?_
   (try dsimp only);try simp only[Act.put,aD,aB,aC,aA,aE,aF]
   refine BW (rs:=[5]) (by kernel_rfl) rfl (BS.cons rfl (by rfl) (fun K A=>?_) BS.nil)
   try go_simp
   refine A.out _ _ (.inr j.out.drop.bs) ?_
   (try dsimp only);try simp only[Act.put,aD,aB,aC,aA,aE,aF]
   refine BW (rs:=[7]) (by kernel_rfl) rfl (BS.cons rfl (by rfl) (fun K A=>?_) BS.nil);obtain⟨n0,n1,n2,n3,n4,nf⟩:=j.out.b0
   try go_simp
   refine A.out _ _ (.inl rfl) ?_
   (try dsimp only);try simp only[Act.put,aD,aB,aC,aA,aE,aF]
   refine Aal (by kernel_rfl) ?_ _;replace j:=aG (j.out.store (.int .i64 20) (.string ⟨l.tx.toArray⟩) (.float .f64 0) (.slice none 0 0) (.complex .f64 (pl l.f).1 (pl l.f).2));go_wp2;go_meet;exact⟨_,rfl,aG j.out.norow⟩
  obtain⟨nb,rfl,j⟩:=hcut
  (try clear B C D E F G);(try clear H I J L M N);(try clear O P Q R S T);(try clear m30 m31 m32 m33 m34 m3f);obtain⟨B,C,D,E,F,G⟩:=j.out.b0;obtain⟨H,I,J,L,M,N⟩:=j.out.b1;obtain⟨O,P,Q,R,S,T⟩:=j.out.b2
  go_wp2_with (first | (go_at_call 147;(with_reducible refine(HA.out _ _ j.out.z (CA V hh)).mono ?_);intro e w9 ha;rcases ha.part V hh with⟨f,er,rfl,U,hr⟩ | ⟨l9,p9,v,rfl,⟨hk,Z⟩,U,Y⟩;exact⟨rfl,BX hr (j.out.o.trans U)⟩;replace V:=Y;clear Y ha;(try dsimp only at V);obtain⟨a0,c0,rfl⟩:=hk.slice;replace j:=aG (j.out.read hk Z U);clear hk Z U;(try clear B C D E F G);(try clear H I J L M N);(try clear O P Q R S T);(try clear m30 m31 m32 m33 m34 m3f);obtain⟨B,C,D,E,F,G⟩:=j.out.b0;obtain⟨H,I,J,L,M,N⟩:=j.out.b1;obtain⟨O,P,Q,R,S,T⟩:=j.out.b2;(try clear B C D E F G);(try clear H I J L M N);(try clear O P Q R S T);(try clear m30 m31 m32 m33 m34 m3f);obtain⟨B,C,D,E,F,G⟩:=j.out.b0;obtain⟨H,I,J,L,M,N⟩:=j.out.b1;obtain⟨O,P,Q,R,S,T⟩:=j.out.b2;replace j:=aG (j.out.put3 (.slice a0 l9.length c0));obtain⟨j0,l0,m0,o0,p0,q0⟩:=j.out.b0;obtain⟨r0,t0,v0,x0,y0,a1⟩:=j.out.b1;obtain⟨c1,d1,e1,f1,g1,h1⟩:=j.out.b2))
  obtain⟨z0,z1,z2,z3,z4,zf⟩:=((((j.out.b2.set0 (.int .i64 20)).set1 (.string ⟨l.tx.toArray⟩)).set2 (.float .f64 0)).set3 (.slice a0 l9.length c0)).set4 (.complex .f64 (pl l.f).1 (pl l.f).2);exact bodyPost_ret (v:=.agg #[.int .i64 20,.string ⟨l.tx.toArray⟩,.float .f64 0,.slice a0 l9.length c0,.complex .f64 (pl l.f).1 (pl l.f).2]) (by simp[results,results145,go_sem,z0,z1,z2,z3,z4]<;>exact rfl) rfl (j.out.done (t:=.mk 20 l.tx 0 (pl l.f) l9) j.out.k0 _ _ _ _ _ V)
 ·obtain⟨z0,z1,z2,z3,z4,zf⟩:=((((j.out.b1.set0 (.int .i64 y.kd)).set1 (.string ⟨y.nm.toArray⟩)).set2 (.float .f64 y.x)).set3 (.slice ay y.ks.length cy)).set4 (.complex .f64 y.z.1 y.z.2)
  exact bodyPost_ret (v:=CJ y (.slice ay y.ks.length cy)) (by simp[CJ,results,results145,go_sem,z0,z1,z2,z3,z4]<;>exact rfl) rfl (j.out.done j.out.k0 _ _ _ _ _ V)
 ·(try clear B C D E F G);(try clear H I J L M N);(try clear O P Q R S T);(try clear m30 m31 m32 m33 m34 m3f)
  refine j.out.region 7 (by kernel_rfl) (fun u=>?_);refine BT (i:=0) (v:=.pointer (some ⟨w2.heap.size,1,none⟩)) rfl (by kernel_rfl) (fun _ _ _ h=>h) (Or.inl ⟨by rfl,fun w hS=>by go_simp⟩) u ?_
  (try dsimp only);try simp only[Act.put,aD,aB,aC,aA,aE,aF]
  refine BT (i:=1) (v:=.string ⟨l.tx.toArray⟩) rfl (by kernel_rfl) (fun _ _ _ h=>h) (Or.inl ⟨by rfl,fun w hS=>by obtain⟨s0,s1,s2,s3,s4,-⟩:=hS.b0;go_simp⟩) u ?_
  (try dsimp only);try simp only[Act.put,aD,aB,aC,aA,aE,aF]
  refine BT (i:=2) (v:=.complex .f64 (pl l.f).1 (pl l.f).2) rfl (by kernel_rfl) (fun _ _ _ h=>h) (Or.inl ⟨by rfl,fun w hS=>by go_simp⟩) u ?_
  (try dsimp only);try simp only[Act.put,aD,aB,aC,aA,aE,aF]
  refine BT (i:=3) (v:=.pointer (some ⟨q,0,none⟩)) rfl (by kernel_rfl) (fun _ _ _ h=>h) (Or.inl ⟨by rfl,fun w hS=>by go_simp⟩) u ?_
  (try dsimp only);try simp only[Act.put,aD,aB,aC,aA,aE,aF]
  refine BW (rs:=[4]) (by kernel_rfl) rfl (BS.cons rfl (by rfl) (fun K A=>?_) BS.nil)
  try go_simp
  go_at_call 148
  refine(HT.out _ _ j.out.drew.z (CA V hh)).mono ?_;intro e w8 ha;rcases ha.part V hh with⟨f,er,rfl,U,hr⟩ | ⟨_,p8,v,rfl,⟨⟨y,kv,rfl,rfl,hk⟩,Z⟩,U,Y⟩
  ·exact⟨rfl,BX hr (j.out.drew.o.trans U)⟩
  replace V:=Y;clear Y ha
  (try dsimp only[aH,aJ,aK] at V)
  obtain⟨ay,cy,rfl⟩:=hk.slice;replace j:=aG (j.out.drew.read hk Z U);clear hk Z U u;unfold CJ;refine A.out _ _ (.inr j.out.bs) ?_
  (try dsimp only);try simp only[Act.put,aD,aB,aC,aA,aE,aF]
  refine BW (rs:=[5]) (by kernel_rfl) rfl (BS.cons rfl (by rfl) (fun K A=>?_) BS.nil)
  try go_simp
  replace j:=aG j.out.kid1;refine A.out _ _ (.inr j.out.bs) ?_
  (try dsimp only);try simp only[Act.put,aD,aB,aC,aA,aE,aF]
  refine BW (rs:=[6]) (by kernel_rfl) rfl (BS.cons rfl (by rfl) (fun K A=>?_) BS.nil)
  try go_simp
  refine A.out _ _ (.inr j.out.bs) ?_
  (try dsimp only);try simp only[Act.put,aD,aB,aC,aA,aE,aF]
  obtain⟨n0,n1,n2,n3,n4,nf⟩:=j.out.b1;refine BW (rs:=[7]) (by kernel_rfl) rfl (BS.cons rfl (by rfl) (fun K A=>?_) BS.nil)
  try go_simp
  refine A.out _ _ (.inl rfl) ?_
  (try dsimp only);try simp only[Act.put,aD,aB,aC,aA,aE,aF]
  refine Aal (by kernel_rfl) ?_ _;go_wp2;obtain⟨z0,z1,z2,z3,z4,zf⟩:=((((j.out.b1.set0 (.int .i64 17)).set1 (.string ⟨l.tx.toArray⟩)).set2 (.float .f64 0)).set3 (.slice (some ⟨w8.heap.size,0,none⟩) 1 1)).set4 (.complex .f64 (pl l.f).1 (pl l.f).2);exact bodyPost_ret (v:=.agg #[.int .i64 17,.string ⟨l.tx.toArray⟩,.float .f64 0,.slice (some ⟨w8.heap.size,0,none⟩) 1 1,.complex .f64 (pl l.f).1 (pl l.f).2]) (by simp[results,results145,go_sem,z0,z1,z2,z3,z4]<;>exact rfl) rfl (j.out.done (t:=.mk 17 l.tx 0 (pl l.f) [y]) j.out.k0 _ _ _ _ _ V)
 (try clear B C D E F G);(try clear H I J L M N);(try clear O P Q R S T);(try clear m30 m31 m32 m33 m34 m3f)
 refine j.out.region 7 (by kernel_rfl) (fun u=>?_);refine BT (i:=0) (v:=.pointer (some ⟨w2.heap.size,1,none⟩)) rfl (by kernel_rfl) (fun _ _ _ h=>h) (Or.inl ⟨by rfl,fun w hS=>by go_simp⟩) u ?_
 (try dsimp only);try simp only[Act.put,aD,aB,aC,aA,aE,aF]
 refine BT (i:=1) (v:=.string ⟨l.tx.toArray⟩) rfl (by kernel_rfl) (fun _ _ _ h=>h) (Or.inl ⟨by rfl,fun w hS=>by obtain⟨s0,s1,s2,s3,s4,-⟩:=hS.b0;go_simp⟩) u ?_
 (try dsimp only);try simp only[Act.put,aD,aB,aC,aA,aE,aF]
 refine BT (i:=2) (v:=.complex .f64 (pl l.f).1 (pl l.f).2) rfl (by kernel_rfl) (fun _ _ _ h=>h) (Or.inl ⟨by rfl,fun w hS=>by go_simp⟩) u ?_
 (try dsimp only);try simp only[Act.put,aD,aB,aC,aA,aE,aF]
 refine BT (i:=3) (v:=.pointer (some ⟨q,0,none⟩)) rfl (by kernel_rfl) (fun _ _ _ h=>h) (Or.inl ⟨by rfl,fun w hS=>by go_simp⟩) u ?_
 (try dsimp only);try simp only[Act.put,aD,aB,aC,aA,aE,aF]
 refine BW (rs:=[4]) (by kernel_rfl) rfl (BS.cons rfl (by rfl) (fun K A=>?_) BS.nil)
 try go_simp
 go_at_call 148
 refine(HT.out _ _ j.out.drew.z (CA V hh)).mono ?_;intro e w8 ha;rcases ha.part V hh with⟨f,er,rfl,U,hr⟩ | ⟨_,p8,v,rfl,⟨⟨y,kv,rfl,rfl,hk⟩,Z⟩,U,Y⟩
 ·exact⟨rfl,BX hr (j.out.drew.o.trans U)⟩
 replace V:=Y;clear Y ha
 (try dsimp only[aH,aJ,aK] at V)
 obtain⟨ay,cy,rfl⟩:=hk.slice;replace j:=aG (j.out.drew.read hk Z U);clear hk Z U u;unfold CJ;refine A.out _ _ (.inr j.out.bs) ?_
 (try dsimp only);try simp only[Act.put,aD,aB,aC,aA,aE,aF]
 refine BW (rs:=[5]) (by kernel_rfl) rfl (BS.cons rfl (by rfl) (fun K A=>?_) BS.nil)
 try go_simp
 replace j:=aG j.out.kid1;refine A.out _ _ (.inr j.out.bs) ?_
 (try dsimp only);try simp only[Act.put,aD,aB,aC,aA,aE,aF]
 refine BW (rs:=[6]) (by kernel_rfl) rfl (BS.cons rfl (by rfl) (fun K A=>?_) BS.nil)
 try go_simp
 refine A.out _ _ (.inr j.out.bs) ?_
 (try dsimp only);try simp only[Act.put,aD,aB,aC,aA,aE,aF]
 obtain⟨n0,n1,n2,n3,n4,nf⟩:=j.out.b1;refine BW (rs:=[7]) (by kernel_rfl) rfl (BS.cons rfl (by rfl) (fun K A=>?_) BS.nil)
 try go_simp
 refine A.out _ _ (.inl rfl) ?_
 (try dsimp only);try simp only[Act.put,aD,aB,aC,aA,aE,aF]
 refine Aal (by kernel_rfl) ?_ _;go_wp2;obtain⟨z0,z1,z2,z3,z4,zf⟩:=((((j.out.b1.set0 (.int .i64 17)).set1 (.string ⟨l.tx.toArray⟩)).set2 (.float .f64 0)).set3 (.slice (some ⟨w8.heap.size,0,none⟩) 1 1)).set4 (.complex .f64 (pl l.f).1 (pl l.f).2);exact bodyPost_ret (v:=.agg #[.int .i64 17,.string ⟨l.tx.toArray⟩,.float .f64 0,.slice (some ⟨w8.heap.size,0,none⟩) 1 1,.complex .f64 (pl l.f).1 (pl l.f).2]) (by simp[results,results145,go_sem,z0,z1,z2,z3,z4]<;>exact rfl) rfl (j.out.done (t:=.mk 17 l.tx 0 (pl l.f) [y]) j.out.k0 _ _ _ _ _ V)
end Go.Proofs.YtjolfpcpcaocmaaGreatDoor
