/- Cn -/
import Derived.Test.YtfblenhlildnaaaGreatDoorCk
set_option maxRecDepth 100000
set_option maxHeartbeats 4000000
open Go.Lib renaming hid->aA
open Bool renaming false_eq_true->aB
open List renaming singleton_append->aC,cons_append->aD
namespace Go.Proofs.YtfblenhlildnaaaGreatDoor
open Go.Proofs.Tryz
open Go.RowKit
set_option linter.unusedSimpArgs false in
theorem Xu {nx:Nat->Bool->Tk} {pl:Nat->Nat×Nat} {ere:List UInt8->Option Bool} {w0:World} {q:Nat} {s:ByteArray} (hN:F2 nx s w0) (hP:H6 pl s) (n:Nat)
  (hA:LC nx pl ere w0 q s n .args 307)
  (hT:NC nx pl ere w0 q s n .target 308) (hE:TZ ere s w0):NC nx pl ere w0 q s (n+1) .operand 303:=by
 intro p W h hh;obtain⟨r,er⟩:∃r,Dn nx pl ere (n+1) .operand p=r:=⟨_,rfl⟩;rw[er] at hh ⊢;rw[Dn] at er;have U:=aA er;have i:=aA (Fx.start1 h (.int .i64 0) (.string ⟨#[]⟩) (.float .f64 0) (.slice none 0 0) (.complex .f64 0 0) 42);have HN:=aA hN;have HP:=aA hP;have HA:=aA (fun p W h g=>hA p W h g);have HT:=aA (fun p W h g=>hT p W h g);have HE:=aA hE;have j1:∀(x:Value) (w:World),Sem.run prog (Instr.panic (.iface 61 x)) w = .halt (.panic (.iface 61 x)) w:=fun _ _=>rfl;clear er hE h hN hP hA hT;obtain⟨A,B,C,D,E,F⟩:=i.out.b0
 go_in
 go_wp2_with (first | (go_at_call 65;(with_reducible refine(DS HN.out i.out.z true).mono ?_);intro e w2 ha;rcases ha.part U hh with⟨f,er,rfl,T,hr⟩ | ⟨j,p2,v,rfl,⟨rfl,rfl,h0,et,d0,hb⟩,T,Y⟩;exact⟨rfl,BX hr (i.out.o.trans T)⟩;replace U:=Y;clear Y ha;(try dsimp only at U);replace i:=aA ((i.out.quiet hb).box (.int .i64 j.kd) (.string ⟨j.tx.toArray⟩) (.float .f64 j.nm) (.int .i64 j.f) (.int .i64 j.t) 70);clear h0 et hb T;(try clear A B C D E F);(try clear G H I J L M);(try clear N O P Q R S);(try clear m30 m31 m32 m33 m34 m3f);obtain⟨A,B,C,D,E,F⟩:=i.out.b0;obtain⟨G,H,I,J,L,M⟩:=i.out.b1;unfold G1;rcases opC j with⟨h2,h3,h4,b2,b3,b4⟩ | ⟨h2,b2⟩ | ⟨h2,h3,hl,b2,b3⟩ | ⟨h2,h3,hl,b2,b3⟩ | ⟨h2,h3,h4,h6,h,b,b2,b3,b4,b6⟩ | ⟨h2,h3,h4,h6,h,b,b2,b3,b4,b6⟩ | ⟨h2,h3,h4,h6,h7,g0,b,b2,b3,b4,b6,b7⟩ | ⟨h2,h3,h4,h6,h7,h,b,b2,b3,b4,b6,b7⟩ | ⟨h2,h3,h4,h6,h7,b2,b3,b4,b6,b7⟩;(repeat (first | replace U:=Ym (by assumption) U | replace U:=XY (by assumption) U));obtain⟨o,eo⟩:∃o,ere j.tx=o:=⟨_,rfl⟩;rw[eo] at U;have f0:=aA eo;clear eo;rcases o with _ | _ | _;exact absurd U.out.symm hh;all_goals ((repeat (first | replace U:=Ym (by assumption) U | replace U:=XY (by assumption) U));(try dsimp only at U);(try clear h2);(try clear h3);(try clear h4);(try clear h6);(try clear h7);(try clear h);(try (have h1:=aA g0;clear g0)))) | (go_at_call 117;(refine(HE.out.bad j.tx _ (by omega) f0.out i.out.z.below).mono ?_);rintro e w4 ⟨k,a,b,c,d,o,n',m,zz,er,rfl,i1,e0⟩;replace i:=aA ((i.out.quiet e0).quiet (Ad _ (.cells #[.int .i64 k,.int .u64 a,.int .u64 b,.int .u64 c,.int .u64 d,.slice o n' m] 132)));clear e0 f0;(try clear A B C D E F);(try clear G H I J L M);(try clear N O P Q R S);(try clear m30 m31 m32 m33 m34 m3f);obtain⟨A,B,C,D,E,F⟩:=i.out.b0;obtain⟨G,H,I,J,L,M⟩:=i.out.b1) | (go_at_call 117;(refine(HE.out.good j.tx _ (by omega) f0.out i.out.z.below).mono ?_);rintro e w4 ⟨k,a,b,c,d,o,n',m,zz,rfl,e0⟩;replace i:=aA ((i.out.quiet e0).quiet (Ad _ (.cells #[.int .i64 k,.int .u64 a,.int .u64 b,.int .u64 c,.int .u64 d,.slice o n' m] 132)));clear e0 f0;(try clear A B C D E F);(try clear G H I J L M);(try clear N O P Q R S);(try clear m30 m31 m32 m33 m34 m3f);obtain⟨A,B,C,D,E,F⟩:=i.out.b0;obtain⟨G,H,I,J,L,M⟩:=i.out.b1) | (go_at_call 45;(with_reducible refine(EE j [43,43] _).mono ?_);rintro e w3 ⟨rfl,hb⟩;replace i:=aA (i.out.quiet hb);clear hb;cases hs:isS j [43,43]<;>(simp only[hs,if_true,if_false,aB,reduceIte,or_true,true_or,or_false,false_or,and_true,true_and,and_false,false_and] at U;clear hs);all_goals ((try clear A B C D E F);(try clear G H I J L M);(try clear N O P Q R S);(try clear m30 m31 m32 m33 m34 m3f);obtain⟨A,B,C,D,E,F⟩:=i.out.b0;obtain⟨G,H,I,J,L,M⟩:=i.out.b1)) | (go_at_call 45;(with_reducible refine(EE j [45,45] _).mono ?_);rintro e w5 ⟨rfl,hb⟩;replace i:=aA (i.out.quiet hb);clear hb;cases hs:isS j [45,45]<;>(simp only[hs,if_true,if_false,aB,reduceIte,or_true,true_or,or_false,false_or,and_true,true_and,and_false,false_and] at U;clear hs);all_goals ((try clear A B C D E F);(try clear G H I J L M);(try clear N O P Q R S);(try clear m30 m31 m32 m33 m34 m3f);obtain⟨A,B,C,D,E,F⟩:=i.out.b0;obtain⟨G,H,I,J,L,M⟩:=i.out.b1)) | (go_at_call 66;(with_reducible refine(C2 HP.out i.out.z j d0).mono ?_);rintro e w6 ⟨rfl,V,T⟩;replace i:=aA (i.out.move V T);clear V T;(try clear A B C D E F);(try clear G H I J L M);(try clear N O P Q R S);(try clear m30 m31 m32 m33 m34 m3f);obtain⟨A,B,C,D,E,F⟩:=i.out.b0;obtain⟨G,H,I,J,L,M⟩:=i.out.b1) | (go_at_call 308;(with_reducible refine(HT.out _ _ i.out.z (CA (M2 U) hh)).mono ?_);intro e w7 ha;rcases ha.part (M2 U) hh with⟨f,er,rfl,T,hr⟩ | ⟨_,p7,v,rfl,⟨⟨y,kv,rfl,rfl,hk⟩,V⟩,T,Y⟩;exact⟨rfl,BX hr (i.out.o.trans T)⟩;replace U:=Y;clear Y ha;(try dsimp only at U);obtain⟨ay,cy,rfl⟩:=hk.slice;replace i:=aA ((i.out.read hk V T));clear hk V T;(try dsimp only[hd1,List.headD,aC,aD,List.nil_append] at U);(try clear A B C D E F);(try clear G H I J L M);(try clear N O P Q R S);(try clear m30 m31 m32 m33 m34 m3f);obtain⟨A,B,C,D,E,F⟩:=i.out.b0;obtain⟨G,H,I,J,L,M⟩:=i.out.b1;unfold CJ))
 ·exact⟨rfl,BX (aA U.out.symm) i.out.o⟩
 ·(try clear A B C D E F);(try clear G H I J L M);(try clear N O P Q R S);(try clear m30 m31 m32 m33 m34 m3f)
  refine i.out.region 6 (by kernel_rfl) (fun u=>?_);refine AbP 0 (.pointer (some ⟨w2.heap.size,1,none⟩)) rfl u ?_
  try simp only[Act.put,sP]
  refine AbU 1 (.string ⟨j.tx.toArray⟩) rfl (fun w Z=>by obtain⟨s0,s1,s2,s3,s4,-⟩:=Z.b0;go_simp) u ?_
  try simp only[Act.put,sP]
  refine AbP 2 (.pointer (some ⟨q,0,none⟩)) rfl u ?_
  try simp only[Act.put,sP]
  refine AbU 3 ((.agg #[.int .i64 j.kd,.string ⟨j.tx.toArray⟩,.float .f64 j.nm,.int .i64 j.f,.int .i64 j.t])) rfl (fun w Z=>by obtain⟨s0,s1,s2,s3,s4,-⟩:=Z.b0;go_simp) u ?_
  try simp only[Act.put,sP]
  refine AaC 4 rfl (fun K l=>?_)
  try go_simp
  go_at_call 66
  refine(C2 HP.out i.out.drew.z j d0).mono ?_;rintro e w8 ⟨rfl,V,T⟩;replace i:=aA (i.out.drew.move V T);clear V T u;refine l.out _ _ (.inr i.out.bs) ?_
  try simp only[Act.put,sP]
  refine AaC 5 rfl (fun K l=>?_)
  try go_simp
  refine l.out _ _ (.inr i.out.bs) ?_
  try simp only[Act.put,sP]
  obtain⟨n0,n1,n2,n3,n4,nf⟩:=i.out.b1;refine AaC 6 rfl (fun K l=>?_)
  try go_simp
  refine l.out _ _ (.inl rfl) ?_
  try simp only[Act.put,sP]
  refine Aal (by kernel_rfl) ?_ _;go_wp2;obtain⟨z0,z1,z2,z3,z4,zf⟩:=((((i.out.b1.set0 (.int .i64 3)).set1 (.string ⟨j.tx.toArray⟩)).set2 (.float .f64 0)).set3 (.slice none 0 0)).set4 (.complex .f64 (pl j.f).1 (pl j.f).2);exact bodyPost_ret (v:=.agg #[.int .i64 3,.string ⟨j.tx.toArray⟩,.float .f64 0,.slice none 0 0,.complex .f64 (pl j.f).1 (pl j.f).2]) (by simp[results,results303,go_sem,z0,z1,z2,z3,z4]<;>exact rfl) rfl (i.out.done (t:=.mk 3 j.tx 0 (pl j.f) []) (Am.nil _) _ _ _ _ _ U)
 ·(try clear A B C D E F);(try clear G H I J L M);(try clear N O P Q R S);(try clear m30 m31 m32 m33 m34 m3f)
  refine i.out.region 6 (by kernel_rfl) (fun u=>?_);refine AbP 0 (.pointer (some ⟨w2.heap.size,2,none⟩)) rfl u ?_
  try simp only[Act.put,sP]
  refine AbU 1 (.float .f64 j.nm) rfl (fun w Z=>by obtain⟨s0,s1,s2,s3,s4,-⟩:=Z.b0;go_simp) u ?_
  try simp only[Act.put,sP]
  refine AbP 2 (.pointer (some ⟨q,0,none⟩)) rfl u ?_
  try simp only[Act.put,sP]
  refine AbU 3 ((.agg #[.int .i64 j.kd,.string ⟨j.tx.toArray⟩,.float .f64 j.nm,.int .i64 j.f,.int .i64 j.t])) rfl (fun w Z=>by obtain⟨s0,s1,s2,s3,s4,-⟩:=Z.b0;go_simp) u ?_
  try simp only[Act.put,sP]
  refine AaC 4 rfl (fun K l=>?_)
  try go_simp
  go_at_call 66
  refine(C2 HP.out i.out.drew.z j d0).mono ?_;rintro e w8 ⟨rfl,V,T⟩;replace i:=aA (i.out.drew.move V T);clear V T u;refine l.out _ _ (.inr i.out.bs) ?_
  try simp only[Act.put,sP]
  refine AaC 5 rfl (fun K l=>?_)
  try go_simp
  refine l.out _ _ (.inr i.out.bs) ?_
  try simp only[Act.put,sP]
  obtain⟨n0,n1,n2,n3,n4,nf⟩:=i.out.b1;refine AaC 6 rfl (fun K l=>?_)
  try go_simp
  refine l.out _ _ (.inl rfl) ?_
  try simp only[Act.put,sP]
  refine Aal (by kernel_rfl) ?_ _;go_wp2;obtain⟨z0,z1,z2,z3,z4,zf⟩:=((((i.out.b1.set0 (.int .i64 1)).set1 (.string ⟨#[]⟩)).set2 (.float .f64 j.nm)).set3 (.slice none 0 0)).set4 (.complex .f64 (pl j.f).1 (pl j.f).2);exact bodyPost_ret (v:=.agg #[.int .i64 1,.string ⟨#[]⟩,.float .f64 j.nm,.slice none 0 0,.complex .f64 (pl j.f).1 (pl j.f).2]) (by simp[results,results303,go_sem,z0,z1,z2,z3,z4]<;>exact rfl) rfl (i.out.done (t:=.mk 1 [] j.nm (pl j.f) []) (Am.nil _) _ _ _ _ _ U)
 ·exact⟨rfl,BX (aA U.out.symm) i.out.o⟩
 ·(try clear A B C D E F);(try clear G H I J L M);(try clear N O P Q R S);(try clear m30 m31 m32 m33 m34 m3f)
  refine i.out.region 6 (by kernel_rfl) (fun u=>?_);refine AbP 0 (.pointer (some ⟨w2.heap.size,1,none⟩)) rfl u ?_
  try simp only[Act.put,sP]
  refine AbU 1 (.string ⟨j.tx.toArray⟩) rfl (fun w Z=>by obtain⟨s0,s1,s2,s3,s4,-⟩:=Z.b0;go_simp) u ?_
  try simp only[Act.put,sP]
  refine AbP 2 (.pointer (some ⟨q,0,none⟩)) rfl u ?_
  try simp only[Act.put,sP]
  refine AbU 3 ((.agg #[.int .i64 j.kd,.string ⟨j.tx.toArray⟩,.float .f64 j.nm,.int .i64 j.f,.int .i64 j.t])) rfl (fun w Z=>by obtain⟨s0,s1,s2,s3,s4,-⟩:=Z.b0;go_simp) u ?_
  try simp only[Act.put,sP]
  refine AaC 4 rfl (fun K l=>?_)
  try go_simp
  go_at_call 66
  refine(C2 HP.out i.out.drew.z j d0).mono ?_;rintro e w8 ⟨rfl,V,T⟩;replace i:=aA (i.out.drew.move V T);clear V T u;refine l.out _ _ (.inr i.out.bs) ?_
  try simp only[Act.put,sP]
  refine AaC 5 rfl (fun K l=>?_)
  try go_simp
  refine l.out _ _ (.inr i.out.bs) ?_
  try simp only[Act.put,sP]
  obtain⟨n0,n1,n2,n3,n4,nf⟩:=i.out.b1;refine AaC 6 rfl (fun K l=>?_)
  try go_simp
  refine l.out _ _ (.inl rfl) ?_
  try simp only[Act.put,sP]
  refine Aal (by kernel_rfl) ?_ _;go_wp2;obtain⟨z0,z1,z2,z3,z4,zf⟩:=((((i.out.b1.set0 (.int .i64 2)).set1 (.string ⟨j.tx.toArray⟩)).set2 (.float .f64 0)).set3 (.slice none 0 0)).set4 (.complex .f64 (pl j.f).1 (pl j.f).2);exact bodyPost_ret (v:=.agg #[.int .i64 2,.string ⟨j.tx.toArray⟩,.float .f64 0,.slice none 0 0,.complex .f64 (pl j.f).1 (pl j.f).2]) (by simp[results,results303,go_sem,z0,z1,z2,z3,z4]<;>exact rfl) rfl (i.out.done (t:=.mk 2 j.tx 0 (pl j.f) []) (Am.nil _) _ _ _ _ _ U)
 ·exact⟨rfl,BX (aA U.out.symm) i.out.o⟩
 ·go_cut [7] (fun v wx=>∃nb,v = .pointer (some ⟨nb,0,none⟩)/\Hid (Fx w0 W q (W.heap.size+1) s (CQ j p2) [⟨nb,.int .i64 19,.string ⟨j.tx.toArray⟩,.float .f64 0,.slice none 0 0,.complex .f64 (pl j.f).1 (pl j.f).2⟩,⟨w2.heap.size,.int .i64 j.kd,.string ⟨j.tx.toArray⟩,.float .f64 j.nm,.int .i64 j.f,.int .i64 j.t⟩,⟨W.heap.size,.int .i64 0,.string ⟨#[]⟩,.float .f64 0,.slice none 0 0,.complex .f64 0 0⟩] [] wx))
  case first =>
   (try clear A B C D E F);(try clear G H I J L M);(try clear N O P Q R S);(try clear m30 m31 m32 m33 m34 m3f)
   revert i
   (try generalize World.alloc _ _=X)
   intro i;refine i.out.region 7 (by kernel_rfl) (fun u=>?_);refine AbP 0 (.pointer (some ⟨w2.heap.size,1,none⟩)) rfl u ?_
   try simp only[Act.put,sP]
   refine AbU 1 (.string ⟨j.tx.toArray⟩) rfl (fun w Z=>by obtain⟨s0,s1,s2,s3,s4,-⟩:=Z.b0;go_simp) u ?_
   try simp only[Act.put,sP]
   refine AbP 2 (.pointer (some ⟨q,0,none⟩)) rfl u ?_
   try simp only[Act.put,sP]
   refine AbU 3 ((.agg #[.int .i64 j.kd,.string ⟨j.tx.toArray⟩,.float .f64 j.nm,.int .i64 j.f,.int .i64 j.t])) rfl (fun w Z=>by obtain⟨s0,s1,s2,s3,s4,-⟩:=Z.b0;go_simp) u ?_
   try simp only[Act.put,sP]
   refine BW (rs:=[4,6]) (by kernel_rfl) rfl (BS.cons rfl (by rfl) (fun K l=>?_) (BS.cons rfl (by rfl) (fun K l=>?_) BS.nil))
   ·try go_simp
    go_at_call 66
    refine(C2 HP.out i.out.drew.z j d0).mono ?_;rintro e w8 ⟨rfl,V,T⟩;replace i:=aA (i.out.drew.move V T);clear V T u;refine l.out _ _ (.inr i.out.bs) ?_
    try simp only[Act.put,sP]
    refine BW (rs:=[5,6]) (by kernel_rfl) rfl (BS.cons rfl (by rfl) (fun K l=>?_) (BS.cons rfl (by rfl) (fun K l=>?_) BS.nil))
    ·try go_simp
     refine l.out _ _ (.inr i.out.bs) ?_
     try simp only[Act.put,sP]
     refine AaC 6 rfl (fun K l=>?_)
     try go_simp
     have HA:=aA i.out;replace i:=aA (i.out.box (.int .i64 0) (.string ⟨#[]⟩) (.float .f64 0) (.slice none 0 0) (.complex .f64 0 0) 42);refine l.out _ _ (.inr i.out.drop.bs) ?_
     try simp only[Act.put,sP]
     refine AaC 7 rfl (fun K l=>?_);obtain⟨n0,n1,n2,n3,n4,nf⟩:=i.out.b0
     try go_simp
     refine l.out _ _ (.inl rfl) ?_
     try simp only[Act.put,sP]
     refine Aal (by kernel_rfl) ?_ _;replace i:=aA (HA.out.box (.int .i64 19) (.string ⟨j.tx.toArray⟩) (.float .f64 0) (.slice none 0 0) (.complex .f64 (pl j.f).1 (pl j.f).2) 42);go_wp2;go_meet;exact⟨_,rfl,aA i.out.norow⟩
    try go_simp
    have HA:=aA i.out;replace i:=aA (i.out.box (.int .i64 0) (.string ⟨#[]⟩) (.float .f64 0) (.slice none 0 0) (.complex .f64 0 0) 42);refine l.out _ _ (.inr i.out.drop.bs) ?_
    try simp only[Act.put,sP]
    refine AaC 5 rfl (fun K l=>?_)
    try go_simp
    refine l.out _ _ (.inr i.out.drop.bs) ?_
    try simp only[Act.put,sP]
    refine AaC 7 rfl (fun K l=>?_);obtain⟨n0,n1,n2,n3,n4,nf⟩:=i.out.b0
    try go_simp
    refine l.out _ _ (.inl rfl) ?_
    try simp only[Act.put,sP]
    refine Aal (by kernel_rfl) ?_ _;replace i:=aA (HA.out.box (.int .i64 19) (.string ⟨j.tx.toArray⟩) (.float .f64 0) (.slice none 0 0) (.complex .f64 (pl j.f).1 (pl j.f).2) 42);go_wp2;go_meet;exact⟨_,rfl,aA i.out.norow⟩
   try go_simp
   replace i:=aA (i.out.box (.int .i64 0) (.string ⟨#[]⟩) (.float .f64 0) (.slice none 0 0) (.complex .f64 0 0) 42).drew;refine l.out _ _ (.inr i.out.drop.bs) ?_
   try simp only[Act.put,sP]
   refine AaC 4 rfl (fun K l=>?_)
   try go_simp
   go_at_call 66
   refine(C2 HP.out i.out.z j d0).mono ?_;rintro e w8 ⟨rfl,V,T⟩;replace i:=aA (i.out.move V T);clear V T u;refine l.out _ _ (.inr i.out.drop.bs) ?_
   try simp only[Act.put,sP]
   refine AaC 5 rfl (fun K l=>?_)
   try go_simp
   refine l.out _ _ (.inr i.out.drop.bs) ?_
   try simp only[Act.put,sP]
   refine AaC 7 rfl (fun K l=>?_);obtain⟨n0,n1,n2,n3,n4,nf⟩:=i.out.b0
   try go_simp
   refine l.out _ _ (.inl rfl) ?_
   try simp only[Act.put,sP]
   refine Aal (by kernel_rfl) ?_ _;replace i:=aA (i.out.store (.int .i64 19) (.string ⟨j.tx.toArray⟩) (.float .f64 0) (.slice none 0 0) (.complex .f64 (pl j.f).1 (pl j.f).2));go_wp2;go_meet;exact⟨_,rfl,aA i.out.norow⟩
  obtain⟨nb,rfl,i⟩:=hcut
  (try clear A B C D E F);(try clear G H I J L M);(try clear N O P Q R S);(try clear m30 m31 m32 m33 m34 m3f);obtain⟨A,B,C,D,E,F⟩:=i.out.b0;obtain⟨G,H,I,J,L,M⟩:=i.out.b1;obtain⟨N,O,P,Q,R,S⟩:=i.out.b2
  go_wp2_with (first | (go_at_call 307;(with_reducible refine(HA.out _ _ i.out.z (CA U hh)).mono ?_);intro e w9 ha;rcases ha.part U hh with⟨f,er,rfl,T,hr⟩ | ⟨l9,p9,v,rfl,⟨hk,V⟩,T,Y⟩;exact⟨rfl,BX hr (i.out.o.trans T)⟩;replace U:=Y;clear Y ha;(try dsimp only at U);obtain⟨a0,c0,rfl⟩:=hk.slice;replace i:=aA (i.out.read hk V T);clear hk V T;(try clear A B C D E F);(try clear G H I J L M);(try clear N O P Q R S);(try clear m30 m31 m32 m33 m34 m3f);obtain⟨A,B,C,D,E,F⟩:=i.out.b0;obtain⟨G,H,I,J,L,M⟩:=i.out.b1;obtain⟨N,O,P,Q,R,S⟩:=i.out.b2;(try clear A B C D E F);(try clear G H I J L M);(try clear N O P Q R S);(try clear m30 m31 m32 m33 m34 m3f);obtain⟨A,B,C,D,E,F⟩:=i.out.b0;obtain⟨G,H,I,J,L,M⟩:=i.out.b1;obtain⟨N,O,P,Q,R,S⟩:=i.out.b2;replace i:=aA (i.out.put3 (.slice a0 l9.length c0));obtain⟨i0,j0,l0,m0,o0,p0⟩:=i.out.b0;obtain⟨q0,r0,t0,v0,x0,y0⟩:=i.out.b1;obtain⟨a1,c1,d1,e1,f1,g1⟩:=i.out.b2))
  obtain⟨z0,z1,z2,z3,z4,zf⟩:=((((i.out.b2.set0 (.int .i64 19)).set1 (.string ⟨j.tx.toArray⟩)).set2 (.float .f64 0)).set3 (.slice a0 l9.length c0)).set4 (.complex .f64 (pl j.f).1 (pl j.f).2);exact bodyPost_ret (v:=.agg #[.int .i64 19,.string ⟨j.tx.toArray⟩,.float .f64 0,.slice a0 l9.length c0,.complex .f64 (pl j.f).1 (pl j.f).2]) (by simp[results,results303,go_sem,z0,z1,z2,z3,z4]<;>exact rfl) rfl (i.out.done (t:=.mk 19 j.tx 0 (pl j.f) l9) i.out.k0 _ _ _ _ _ U)
 ·go_cut [8] (fun v wx=>∃nb,v = .pointer (some ⟨nb,0,none⟩)/\Hid (Fx w0 W q (W.heap.size+1) s (CQ j p2) [⟨nb,.int .i64 20,.string ⟨j.tx.toArray⟩,.float .f64 0,.slice none 0 0,.complex .f64 (pl j.f).1 (pl j.f).2⟩,⟨w2.heap.size,.int .i64 j.kd,.string ⟨j.tx.toArray⟩,.float .f64 j.nm,.int .i64 j.f,.int .i64 j.t⟩,⟨W.heap.size,.int .i64 0,.string ⟨#[]⟩,.float .f64 0,.slice none 0 0,.complex .f64 0 0⟩] [] wx))
  case first =>
   (try clear A B C D E F);(try clear G H I J L M);(try clear N O P Q R S);(try clear m30 m31 m32 m33 m34 m3f)
   revert i
   (try generalize World.alloc _ _=X)
   intro i;refine i.out.region 7 (by kernel_rfl) (fun u=>?_);refine AbP 0 (.pointer (some ⟨w2.heap.size,1,none⟩)) rfl u ?_
   try simp only[Act.put,sP]
   refine AbU 1 (.string ⟨j.tx.toArray⟩) rfl (fun w Z=>by obtain⟨s0,s1,s2,s3,s4,-⟩:=Z.b0;go_simp) u ?_
   try simp only[Act.put,sP]
   refine AbP 2 (.pointer (some ⟨q,0,none⟩)) rfl u ?_
   try simp only[Act.put,sP]
   refine AbU 3 ((.agg #[.int .i64 j.kd,.string ⟨j.tx.toArray⟩,.float .f64 j.nm,.int .i64 j.f,.int .i64 j.t])) rfl (fun w Z=>by obtain⟨s0,s1,s2,s3,s4,-⟩:=Z.b0;go_simp) u ?_
   try simp only[Act.put,sP]
   refine BW (rs:=[4,6]) (by kernel_rfl) rfl (BS.cons rfl (by rfl) (fun K l=>?_) (BS.cons rfl (by rfl) (fun K l=>?_) BS.nil))
   ·try go_simp
    go_at_call 66
    refine(C2 HP.out i.out.drew.z j d0).mono ?_;rintro e w8 ⟨rfl,V,T⟩;replace i:=aA (i.out.drew.move V T);clear V T u;refine l.out _ _ (.inr i.out.bs) ?_
    try simp only[Act.put,sP]
    refine BW (rs:=[5,6]) (by kernel_rfl) rfl (BS.cons rfl (by rfl) (fun K l=>?_) (BS.cons rfl (by rfl) (fun K l=>?_) BS.nil))
    ·try go_simp
     refine l.out _ _ (.inr i.out.bs) ?_
     try simp only[Act.put,sP]
     refine AaC 6 rfl (fun K l=>?_)
     try go_simp
     have HA:=aA i.out;replace i:=aA (i.out.box (.int .i64 0) (.string ⟨#[]⟩) (.float .f64 0) (.slice none 0 0) (.complex .f64 0 0) 42);refine l.out _ _ (.inr i.out.drop.bs) ?_
     try simp only[Act.put,sP]
     refine AaC 7 rfl (fun K l=>?_);obtain⟨n0,n1,n2,n3,n4,nf⟩:=i.out.b0
     try go_simp
     refine l.out _ _ (.inl rfl) ?_
     try simp only[Act.put,sP]
     refine Aal (by kernel_rfl) ?_ _;replace i:=aA (HA.out.box (.int .i64 20) (.string ⟨j.tx.toArray⟩) (.float .f64 0) (.slice none 0 0) (.complex .f64 (pl j.f).1 (pl j.f).2) 42);go_wp2;go_meet;exact⟨_,rfl,aA i.out.norow⟩
    try go_simp
    have HA:=aA i.out;replace i:=aA (i.out.box (.int .i64 0) (.string ⟨#[]⟩) (.float .f64 0) (.slice none 0 0) (.complex .f64 0 0) 42);refine l.out _ _ (.inr i.out.drop.bs) ?_
    try simp only[Act.put,sP]
    refine AaC 5 rfl (fun K l=>?_)
    try go_simp
    refine l.out _ _ (.inr i.out.drop.bs) ?_
    try simp only[Act.put,sP]
    refine AaC 7 rfl (fun K l=>?_);obtain⟨n0,n1,n2,n3,n4,nf⟩:=i.out.b0
    try go_simp
    refine l.out _ _ (.inl rfl) ?_
    try simp only[Act.put,sP]
    refine Aal (by kernel_rfl) ?_ _;replace i:=aA (HA.out.box (.int .i64 20) (.string ⟨j.tx.toArray⟩) (.float .f64 0) (.slice none 0 0) (.complex .f64 (pl j.f).1 (pl j.f).2) 42);go_wp2;go_meet;exact⟨_,rfl,aA i.out.norow⟩
   try go_simp
   replace i:=aA (i.out.box (.int .i64 0) (.string ⟨#[]⟩) (.float .f64 0) (.slice none 0 0) (.complex .f64 0 0) 42).drew;refine l.out _ _ (.inr i.out.drop.bs) ?_
   try simp only[Act.put,sP]
   refine AaC 4 rfl (fun K l=>?_)
   try go_simp
   go_at_call 66
   refine(C2 HP.out i.out.z j d0).mono ?_;rintro e w8 ⟨rfl,V,T⟩;replace i:=aA (i.out.move V T);clear V T u;refine l.out _ _ (.inr i.out.drop.bs) ?_
   try simp only[Act.put,sP]
   refine AaC 5 rfl (fun K l=>?_)
   try go_simp
   refine l.out _ _ (.inr i.out.drop.bs) ?_
   try simp only[Act.put,sP]
   refine AaC 7 rfl (fun K l=>?_);obtain⟨n0,n1,n2,n3,n4,nf⟩:=i.out.b0
   try go_simp
   refine l.out _ _ (.inl rfl) ?_
   try simp only[Act.put,sP]
   refine Aal (by kernel_rfl) ?_ _;replace i:=aA (i.out.store (.int .i64 20) (.string ⟨j.tx.toArray⟩) (.float .f64 0) (.slice none 0 0) (.complex .f64 (pl j.f).1 (pl j.f).2));go_wp2;go_meet;exact⟨_,rfl,aA i.out.norow⟩
  obtain⟨nb,rfl,i⟩:=hcut;rw[h1.out] at i U
  (try clear A B C D E F);(try clear G H I J L M);(try clear N O P Q R S);(try clear m30 m31 m32 m33 m34 m3f);obtain⟨A,B,C,D,E,F⟩:=i.out.b0;obtain⟨G,H,I,J,L,M⟩:=i.out.b1;obtain⟨N,O,P,Q,R,S⟩:=i.out.b2
  go_wp2_with (first | (go_at_call 69;(with_reducible refine(F1 HN.out i.out.z [40]).mono ?_);intro e w6 ha;rcases ha.part U hh with⟨f,er,rfl,T,hr⟩ | ⟨b,p6,v,rfl,⟨rfl,rfl,hb⟩,T,Y⟩;exact⟨rfl,BX hr (i.out.o.trans T)⟩;replace U:=Y;clear Y ha;(try dsimp only at U);replace i:=aA (i.out.quiet hb);clear hb T;cases b<;>(simp only[if_true,if_false,aB,reduceIte] at U);all_goals ((try clear A B C D E F);(try clear G H I J L M);(try clear N O P Q R S);(try clear m30 m31 m32 m33 m34 m3f);obtain⟨A,B,C,D,E,F⟩:=i.out.b0;obtain⟨G,H,I,J,L,M⟩:=i.out.b1;obtain⟨N,O,P,Q,R,S⟩:=i.out.b2)) | (go_at_call 307;(with_reducible refine(HA.out _ _ i.out.z (CA U hh)).mono ?_);intro e w9 ha;rcases ha.part U hh with⟨f,er,rfl,T,hr⟩ | ⟨l9,p9,v,rfl,⟨hk,V⟩,T,Y⟩;exact⟨rfl,BX hr (i.out.o.trans T)⟩;replace U:=Y;clear Y ha;(try dsimp only at U);obtain⟨a0,c0,rfl⟩:=hk.slice;replace i:=aA (i.out.read hk V T);clear hk V T;(try clear A B C D E F);(try clear G H I J L M);(try clear N O P Q R S);(try clear m30 m31 m32 m33 m34 m3f);obtain⟨A,B,C,D,E,F⟩:=i.out.b0;obtain⟨G,H,I,J,L,M⟩:=i.out.b1;obtain⟨N,O,P,Q,R,S⟩:=i.out.b2;(try clear A B C D E F);(try clear G H I J L M);(try clear N O P Q R S);(try clear m30 m31 m32 m33 m34 m3f);obtain⟨A,B,C,D,E,F⟩:=i.out.b0;obtain⟨G,H,I,J,L,M⟩:=i.out.b1;obtain⟨N,O,P,Q,R,S⟩:=i.out.b2;replace i:=aA (i.out.put3 (.slice a0 l9.length c0));obtain⟨i0,j0,l0,m0,o0,p0⟩:=i.out.b0;obtain⟨q0,r0,t0,v0,x0,y0⟩:=i.out.b1;obtain⟨a1,c1,d1,e1,f1,g1⟩:=i.out.b2))
  ·obtain⟨z0,z1,z2,z3,z4,zf⟩:=((((i.out.b2.set0 (.int .i64 20)).set1 (.string ⟨#[108,101,110,103,116,104]⟩)).set2 (.float .f64 0)).set3 (.slice none 0 0)).set4 (.complex .f64 (pl j.f).1 (pl j.f).2)
   exact bodyPost_ret (v:=.agg #[.int .i64 20,.string ⟨#[108,101,110,103,116,104]⟩,.float .f64 0,.slice none 0 0,.complex .f64 (pl j.f).1 (pl j.f).2]) (by simp[results,results303,go_sem,z0,z1,z2,z3,z4]<;>exact rfl) rfl (i.out.done (t:=.mk 20 [108,101,110,103,116,104] 0 (pl j.f) []) (Am.nil _) _ _ _ _ _ U)
  obtain⟨z0,z1,z2,z3,z4,zf⟩:=((((i.out.b2.set0 (.int .i64 20)).set1 (.string ⟨#[108,101,110,103,116,104]⟩)).set2 (.float .f64 0)).set3 (.slice a0 l9.length c0)).set4 (.complex .f64 (pl j.f).1 (pl j.f).2);exact bodyPost_ret (v:=.agg #[.int .i64 20,.string ⟨#[108,101,110,103,116,104]⟩,.float .f64 0,.slice a0 l9.length c0,.complex .f64 (pl j.f).1 (pl j.f).2]) (by simp[results,results303,go_sem,z0,z1,z2,z3,z4]<;>exact rfl) rfl (i.out.done (t:=.mk 20 [108,101,110,103,116,104] 0 (pl j.f) l9) i.out.k0 _ _ _ _ _ U)
 ·go_cut [8] (fun v wx=>∃nb,v = .pointer (some ⟨nb,0,none⟩)/\Hid (Fx w0 W q (W.heap.size+1) s (CQ j p2) [⟨nb,.int .i64 20,.string ⟨j.tx.toArray⟩,.float .f64 0,.slice none 0 0,.complex .f64 (pl j.f).1 (pl j.f).2⟩,⟨w2.heap.size,.int .i64 j.kd,.string ⟨j.tx.toArray⟩,.float .f64 j.nm,.int .i64 j.f,.int .i64 j.t⟩,⟨W.heap.size,.int .i64 0,.string ⟨#[]⟩,.float .f64 0,.slice none 0 0,.complex .f64 0 0⟩] [] wx))
  case first =>
   (try clear A B C D E F);(try clear G H I J L M);(try clear N O P Q R S);(try clear m30 m31 m32 m33 m34 m3f)
   revert i
   (try generalize World.alloc _ _=X)
   intro i;refine i.out.region 7 (by kernel_rfl) (fun u=>?_);refine AbP 0 (.pointer (some ⟨w2.heap.size,1,none⟩)) rfl u ?_
   try simp only[Act.put,sP]
   refine AbU 1 (.string ⟨j.tx.toArray⟩) rfl (fun w Z=>by obtain⟨s0,s1,s2,s3,s4,-⟩:=Z.b0;go_simp) u ?_
   try simp only[Act.put,sP]
   refine AbP 2 (.pointer (some ⟨q,0,none⟩)) rfl u ?_
   try simp only[Act.put,sP]
   refine AbU 3 ((.agg #[.int .i64 j.kd,.string ⟨j.tx.toArray⟩,.float .f64 j.nm,.int .i64 j.f,.int .i64 j.t])) rfl (fun w Z=>by obtain⟨s0,s1,s2,s3,s4,-⟩:=Z.b0;go_simp) u ?_
   try simp only[Act.put,sP]
   refine BW (rs:=[4,6]) (by kernel_rfl) rfl (BS.cons rfl (by rfl) (fun K l=>?_) (BS.cons rfl (by rfl) (fun K l=>?_) BS.nil))
   ·try go_simp
    go_at_call 66
    refine(C2 HP.out i.out.drew.z j d0).mono ?_;rintro e w8 ⟨rfl,V,T⟩;replace i:=aA (i.out.drew.move V T);clear V T u;refine l.out _ _ (.inr i.out.bs) ?_
    try simp only[Act.put,sP]
    refine BW (rs:=[5,6]) (by kernel_rfl) rfl (BS.cons rfl (by rfl) (fun K l=>?_) (BS.cons rfl (by rfl) (fun K l=>?_) BS.nil))
    ·try go_simp
     refine l.out _ _ (.inr i.out.bs) ?_
     try simp only[Act.put,sP]
     refine AaC 6 rfl (fun K l=>?_)
     try go_simp
     have HA:=aA i.out;replace i:=aA (i.out.box (.int .i64 0) (.string ⟨#[]⟩) (.float .f64 0) (.slice none 0 0) (.complex .f64 0 0) 42);refine l.out _ _ (.inr i.out.drop.bs) ?_
     try simp only[Act.put,sP]
     refine AaC 7 rfl (fun K l=>?_);obtain⟨n0,n1,n2,n3,n4,nf⟩:=i.out.b0
     try go_simp
     refine l.out _ _ (.inl rfl) ?_
     try simp only[Act.put,sP]
     refine Aal (by kernel_rfl) ?_ _;replace i:=aA (HA.out.box (.int .i64 20) (.string ⟨j.tx.toArray⟩) (.float .f64 0) (.slice none 0 0) (.complex .f64 (pl j.f).1 (pl j.f).2) 42);go_wp2;go_meet;exact⟨_,rfl,aA i.out.norow⟩
    try go_simp
    have HA:=aA i.out;replace i:=aA (i.out.box (.int .i64 0) (.string ⟨#[]⟩) (.float .f64 0) (.slice none 0 0) (.complex .f64 0 0) 42);refine l.out _ _ (.inr i.out.drop.bs) ?_
    try simp only[Act.put,sP]
    refine AaC 5 rfl (fun K l=>?_)
    try go_simp
    refine l.out _ _ (.inr i.out.drop.bs) ?_
    try simp only[Act.put,sP]
    refine AaC 7 rfl (fun K l=>?_);obtain⟨n0,n1,n2,n3,n4,nf⟩:=i.out.b0
    try go_simp
    refine l.out _ _ (.inl rfl) ?_
    try simp only[Act.put,sP]
    refine Aal (by kernel_rfl) ?_ _;replace i:=aA (HA.out.box (.int .i64 20) (.string ⟨j.tx.toArray⟩) (.float .f64 0) (.slice none 0 0) (.complex .f64 (pl j.f).1 (pl j.f).2) 42);go_wp2;go_meet;exact⟨_,rfl,aA i.out.norow⟩
   try go_simp
   replace i:=aA (i.out.box (.int .i64 0) (.string ⟨#[]⟩) (.float .f64 0) (.slice none 0 0) (.complex .f64 0 0) 42).drew;refine l.out _ _ (.inr i.out.drop.bs) ?_
   try simp only[Act.put,sP]
   refine AaC 4 rfl (fun K l=>?_)
   try go_simp
   go_at_call 66
   refine(C2 HP.out i.out.z j d0).mono ?_;rintro e w8 ⟨rfl,V,T⟩;replace i:=aA (i.out.move V T);clear V T u;refine l.out _ _ (.inr i.out.drop.bs) ?_
   try simp only[Act.put,sP]
   refine AaC 5 rfl (fun K l=>?_)
   try go_simp
   refine l.out _ _ (.inr i.out.drop.bs) ?_
   try simp only[Act.put,sP]
   refine AaC 7 rfl (fun K l=>?_);obtain⟨n0,n1,n2,n3,n4,nf⟩:=i.out.b0
   try go_simp
   refine l.out _ _ (.inl rfl) ?_
   try simp only[Act.put,sP]
   refine Aal (by kernel_rfl) ?_ _;replace i:=aA (i.out.store (.int .i64 20) (.string ⟨j.tx.toArray⟩) (.float .f64 0) (.slice none 0 0) (.complex .f64 (pl j.f).1 (pl j.f).2));go_wp2;go_meet;exact⟨_,rfl,aA i.out.norow⟩
  obtain⟨nb,rfl,i⟩:=hcut
  (try clear A B C D E F);(try clear G H I J L M);(try clear N O P Q R S);(try clear m30 m31 m32 m33 m34 m3f);obtain⟨A,B,C,D,E,F⟩:=i.out.b0;obtain⟨G,H,I,J,L,M⟩:=i.out.b1;obtain⟨N,O,P,Q,R,S⟩:=i.out.b2
  go_wp2_with (first | (go_at_call 307;(with_reducible refine(HA.out _ _ i.out.z (CA U hh)).mono ?_);intro e w9 ha;rcases ha.part U hh with⟨f,er,rfl,T,hr⟩ | ⟨l9,p9,v,rfl,⟨hk,V⟩,T,Y⟩;exact⟨rfl,BX hr (i.out.o.trans T)⟩;replace U:=Y;clear Y ha;(try dsimp only at U);obtain⟨a0,c0,rfl⟩:=hk.slice;replace i:=aA (i.out.read hk V T);clear hk V T;(try clear A B C D E F);(try clear G H I J L M);(try clear N O P Q R S);(try clear m30 m31 m32 m33 m34 m3f);obtain⟨A,B,C,D,E,F⟩:=i.out.b0;obtain⟨G,H,I,J,L,M⟩:=i.out.b1;obtain⟨N,O,P,Q,R,S⟩:=i.out.b2;(try clear A B C D E F);(try clear G H I J L M);(try clear N O P Q R S);(try clear m30 m31 m32 m33 m34 m3f);obtain⟨A,B,C,D,E,F⟩:=i.out.b0;obtain⟨G,H,I,J,L,M⟩:=i.out.b1;obtain⟨N,O,P,Q,R,S⟩:=i.out.b2;replace i:=aA (i.out.put3 (.slice a0 l9.length c0));obtain⟨i0,j0,l0,m0,o0,p0⟩:=i.out.b0;obtain⟨q0,r0,t0,v0,x0,y0⟩:=i.out.b1;obtain⟨a1,c1,d1,e1,f1,g1⟩:=i.out.b2))
  obtain⟨z0,z1,z2,z3,z4,zf⟩:=((((i.out.b2.set0 (.int .i64 20)).set1 (.string ⟨j.tx.toArray⟩)).set2 (.float .f64 0)).set3 (.slice a0 l9.length c0)).set4 (.complex .f64 (pl j.f).1 (pl j.f).2);exact bodyPost_ret (v:=.agg #[.int .i64 20,.string ⟨j.tx.toArray⟩,.float .f64 0,.slice a0 l9.length c0,.complex .f64 (pl j.f).1 (pl j.f).2]) (by simp[results,results303,go_sem,z0,z1,z2,z3,z4]<;>exact rfl) rfl (i.out.done (t:=.mk 20 j.tx 0 (pl j.f) l9) i.out.k0 _ _ _ _ _ U)
 ·obtain⟨z0,z1,z2,z3,z4,zf⟩:=((((i.out.b1.set0 (.int .i64 y.kd)).set1 (.string ⟨y.nm.toArray⟩)).set2 (.float .f64 y.x)).set3 (.slice ay y.ks.length cy)).set4 (.complex .f64 y.z.1 y.z.2)
  exact bodyPost_ret (v:=CJ y (.slice ay y.ks.length cy)) (by simp[CJ,results,results303,go_sem,z0,z1,z2,z3,z4]<;>exact rfl) rfl (i.out.done i.out.k0 _ _ _ _ _ U)
 iterate 2
  focus
   (try clear A B C D E F);(try clear G H I J L M);(try clear N O P Q R S);(try clear m30 m31 m32 m33 m34 m3f)
   refine i.out.region 7 (by kernel_rfl) (fun u=>?_);refine AbP 0 (.pointer (some ⟨w2.heap.size,1,none⟩)) rfl u ?_
   try simp only[Act.put,sP]
   refine AbU 1 (.string ⟨j.tx.toArray⟩) rfl (fun w Z=>by obtain⟨s0,s1,s2,s3,s4,-⟩:=Z.b0;go_simp) u ?_
   try simp only[Act.put,sP]
   refine AbP 2 (.complex .f64 (pl j.f).1 (pl j.f).2) rfl u ?_
   try simp only[Act.put,sP]
   refine AbP 3 (.pointer (some ⟨q,0,none⟩)) rfl u ?_
   try simp only[Act.put,sP]
   refine AaC 4 rfl (fun K l=>?_)
   try go_simp
   go_at_call 308
   refine(HT.out _ _ i.out.drew.z (CA U hh)).mono ?_;intro e w8 ha;rcases ha.part U hh with⟨f,er,rfl,T,hr⟩ | ⟨_,p8,v,rfl,⟨⟨y,kv,rfl,rfl,hk⟩,V⟩,T,Y⟩
   ·exact⟨rfl,BX hr (i.out.drew.o.trans T)⟩
   replace U:=Y;clear Y ha
   (try dsimp only[aC,aD,List.nil_append] at U)
   obtain⟨ay,cy,rfl⟩:=hk.slice;replace i:=aA (i.out.drew.read hk V T);clear hk V T u;unfold CJ;refine l.out _ _ (.inr i.out.bs) ?_
   try simp only[Act.put,sP]
   refine AaC 5 rfl (fun K l=>?_)
   try go_simp
   replace i:=aA i.out.kid1;refine l.out _ _ (.inr i.out.bs) ?_
   try simp only[Act.put,sP]
   refine AaC 6 rfl (fun K l=>?_)
   try go_simp
   refine l.out _ _ (.inr i.out.bs) ?_
   try simp only[Act.put,sP]
   obtain⟨n0,n1,n2,n3,n4,nf⟩:=i.out.b1;refine AaC 7 rfl (fun K l=>?_)
   try go_simp
   refine l.out _ _ (.inl rfl) ?_
   try simp only[Act.put,sP]
   refine Aal (by kernel_rfl) ?_ _;go_wp2;obtain⟨z0,z1,z2,z3,z4,zf⟩:=((((i.out.b1.set0 (.int .i64 17)).set1 (.string ⟨j.tx.toArray⟩)).set2 (.float .f64 0)).set3 (.slice (some ⟨w8.heap.size,0,none⟩) 1 1)).set4 (.complex .f64 (pl j.f).1 (pl j.f).2);exact bodyPost_ret (v:=.agg #[.int .i64 17,.string ⟨j.tx.toArray⟩,.float .f64 0,.slice (some ⟨w8.heap.size,0,none⟩) 1 1,.complex .f64 (pl j.f).1 (pl j.f).2]) (by simp[results,results303,go_sem,z0,z1,z2,z3,z4]<;>exact rfl) rfl (i.out.done (t:=.mk 17 j.tx 0 (pl j.f) [y]) i.out.k0 _ _ _ _ _ U)
end Go.Proofs.YtfblenhlildnaaaGreatDoor
