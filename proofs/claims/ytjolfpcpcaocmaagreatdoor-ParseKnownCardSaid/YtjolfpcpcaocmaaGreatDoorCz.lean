/- Cz -/
import Derived.Test.YtjolfpcpcaocmaaGreatDoorCy
set_option maxRecDepth 100000
set_option maxHeartbeats 4000000
open List renaming setIfInBounds_toArray->aA,getElem_cons_zero->aB,getElem_cons_succ->aC,getElem_toArray->aD,set_cons_zero->aE,set_cons_succ->aF,singleton_append->aH,cons_append->aI,nil_append->aJ,headD->aK
open Go.Lib renaming hid->aG
open Bool renaming false_eq_true->aL
open Go.World renaming drew->aM
namespace Go.Proofs.YtjolfpcpcaocmaaGreatDoor
open Go.Proofs.Tryz
open Go.RowKit
set_option linter.unusedSimpArgs false in
theorem U1 {nx:Nat->Bool->Tk} {pl:Nat->Nat×Nat} {d0:List UInt8->Option Bool} {w0:World} {q:Nat} {s:ByteArray} (hN:F2 nx s w0) (hP:PlC pl s) (n:Nat) (hE:NC nx pl d0 w0 q s n .expr 27) (hB:SC nx pl d0 w0 q s n .block 22):ZR nx pl d0 w0 q s n:=by
 intro W0 W B m p l z hF h9 hh;obtain⟨r,er⟩:∃r,Hx nx pl d0 n z p=r:=⟨_,rfl⟩;rw[er] at hh ⊢;unfold Hx at er;have D:=aG er;have d:=aG hF;have a:=aG h9;have HN:=aG hN;have HP:=aG hP;have HE:=aG (fun p W h g=>hE p W h g);have HB:=aG (fun p W h g=>hB p W h g);have c0:=hF.uq;obtain⟨i0,g0,j0,k0,l0⟩:=info_parts Y8;clear er hF h9 hN hP hE hB;have u0:=a.out.c 0 _ rfl;have u1:=a.out.c 1 _ rfl;have u2:=a.out.c 2 _ rfl;have u3:=a.out.c 3 _ rfl;have u4:=a.out.c 4 _ rfl;have u5:=a.out.c 5 _ rfl;have u6:=a.out.c 6 _ rfl;have u7:=a.out.c 7 _ rfl;have u8:=a.out.c 8 _ rfl
 have H:=a.out.z
 go_in
 go_wp2_with (first | (go_at_call 27;(with_reducible refine(HE.out _ _ d.out.z (CA D hh)).mono ?_);intro e w1 ha;rcases ha.part D hh with⟨f,er,rfl,G,hr⟩ | ⟨_,p1,v,rfl,⟨⟨u,kv,rfl,rfl,hk⟩,hz⟩,G,E⟩;exact⟨rfl,E4 hr (d.out.o.trans G)⟩;replace D:=E;clear E ha;(try dsimp only[hd1,aK,aH,aI,aJ] at D);obtain⟨au,cu,rfl⟩:=hk.slice;replace a:=aG (a.out.only G c0);replace a:=aG (a.out.alloc (.cells #[.int .i64 u.kd,.string ⟨u.nm.toArray⟩,.float .f64 u.x,.slice au u.ks.length cu,.complex .f64 u.z.1 u.z.2] 34));replace d:=aG (d.out.read hk hz G).kid1;clear hk hz G;(try clear u0 u1 u2 u3 u4 u5 u6 u7 u8 H);(try clear Z v1 v2 v3 v4 v5 v6 v7 v8 vf);have u0:=a.out.c 0 _ rfl;have u1:=a.out.c 1 _ rfl;have u2:=a.out.c 2 _ rfl;have u3:=a.out.c 3 _ rfl;have u4:=a.out.c 4 _ rfl;have u5:=a.out.c 5 _ rfl;have u6:=a.out.c 6 _ rfl;have u7:=a.out.c 7 _ rfl;have u8:=a.out.c 8 _ rfl;have H:=a.out.z;replace d:=aG (d.out.wide ((Ae.refl m _).set 2 (.slice (some ⟨w1.heap.size,0,none⟩) 1 1)) (a.out.pats (.slice (some ⟨w1.heap.size,0,none⟩) 1 1))).row1;replace a:=aG (a.out.pats (.slice (some ⟨w1.heap.size,0,none⟩) 1 1));have Z:=a.out.c 0 _ rfl;have v1:=a.out.c 1 _ rfl;have v2:=a.out.c 2 _ rfl;have v3:=a.out.c 3 _ rfl;have v4:=a.out.c 4 _ rfl;have v5:=a.out.c 5 _ rfl;have v6:=a.out.c 6 _ rfl;have v7:=a.out.c 7 _ rfl;have v8:=a.out.c 8 _ rfl;have vf:=a.out.z;unfold CJ) | (go_at_call 19;(with_reducible refine(F1 HN.out d.out.z [44]).mono ?_);intro e w2 ha;rcases ha.part D hh with⟨f,er,rfl,G,hr⟩ | ⟨b,p2,v,rfl,⟨rfl,rfl,S⟩,G,E⟩;exact⟨rfl,E4 hr (d.out.o.trans G)⟩;replace D:=E;clear E ha;(try dsimp only[hd1,aK,aH,aI,aJ] at D);replace d:=aG (d.out.quiet S);replace a:=aG (a.out.quiet S);clear S G;cases b<;>(simp only[if_true,if_false,aL,reduceIte] at D);all_goals (try replace D:=ZU D);all_goals ((try clear u0 u1 u2 u3 u4 u5 u6 u7 u8 H);(try clear Z v1 v2 v3 v4 v5 v6 v7 v8 vf);have u0:=a.out.c 0 _ rfl;have u1:=a.out.c 1 _ rfl;have u2:=a.out.c 2 _ rfl;have u3:=a.out.c 3 _ rfl;have u4:=a.out.c 4 _ rfl;have u5:=a.out.c 5 _ rfl;have u6:=a.out.c 6 _ rfl;have u7:=a.out.c 7 _ rfl;have u8:=a.out.c 8 _ rfl;have H:=a.out.z)) | (go_at_call 18;(with_reducible refine(EM HN.out HP.out d.out.z [44]).mono ?_);intro e w3 ha;rcases ha.part D hh with⟨f,er,rfl,G,hr⟩ | ⟨zs,p3,v,rfl,⟨rfl,hz⟩,G,E⟩;exact⟨rfl,E4 hr (d.out.o.trans G)⟩;replace D:=E;clear E ha;(try dsimp only[hd1,aK,aH,aI,aJ] at D);replace a:=aG (a.out.only G c0);replace d:=aG (d.out.move hz G);clear hz G) | (go_at_call 21;(with_reducible refine(M' HN.out HP.out d.out.z true _ (CA D hh)).mono ?_);intro e w4 ha;rcases ha.part D hh with⟨f,er,rfl,G,hr⟩ | ⟨_,p4,v,rfl,⟨rfl,hz⟩,G,E⟩;exact⟨rfl,E4 hr (d.out.o.trans G)⟩;replace D:=E;clear E ha;(try dsimp only[hd1,aK,aH,aI,aJ] at D);replace a:=aG (a.out.only G c0);replace d:=aG (d.out.move hz G);clear hz G;(try clear u0 u1 u2 u3 u4 u5 u6 u7 u8 H);(try clear Z v1 v2 v3 v4 v5 v6 v7 v8 vf);have u0:=a.out.c 0 _ rfl;have u1:=a.out.c 1 _ rfl;have u2:=a.out.c 2 _ rfl;have u3:=a.out.c 3 _ rfl;have u4:=a.out.c 4 _ rfl;have u5:=a.out.c 5 _ rfl;have u6:=a.out.c 6 _ rfl;have u7:=a.out.c 7 _ rfl;have u8:=a.out.c 8 _ rfl;have H:=a.out.z;replace d:=aG (d.out.wide ((Ae.refl m _).set 0 (.int .i64 7)) (a.out.kind (.int .i64 7)));replace a:=aG (a.out.kind (.int .i64 7));have Z:=a.out.c 0 _ rfl;have v1:=a.out.c 1 _ rfl;have v2:=a.out.c 2 _ rfl;have v3:=a.out.c 3 _ rfl;have v4:=a.out.c 4 _ rfl;have v5:=a.out.c 5 _ rfl;have v6:=a.out.c 6 _ rfl;have v7:=a.out.c 7 _ rfl;have v8:=a.out.c 8 _ rfl;have vf:=a.out.z) | (go_at_call 15;(with_reducible refine(DS HN.out d.out.z false).mono ?_);intro e w6 ha;rcases ha.part D hh with⟨f,er,rfl,G,hr⟩ | ⟨R,p6,v,rfl,⟨rfl,rfl,h0,et,m0,S⟩,G,E⟩;exact⟨rfl,E4 hr (d.out.o.trans G)⟩;replace D:=E;clear E ha;(try dsimp only[hd1,aK,aH,aI,aJ] at D);replace d:=aG ((d.out.quiet S).box (.int .i64 R.kd) (.string ⟨R.tx.toArray⟩) (.float .f64 R.nm) (.int .i64 R.f) (.int .i64 R.t) 49);replace a:=aG ((a.out.quiet S).alloc (.cells #[.int .i64 R.kd,.string ⟨R.tx.toArray⟩,.float .f64 R.nm,.int .i64 R.f,.int .i64 R.t] 49));clear h0 et S G;(try clear u0 u1 u2 u3 u4 u5 u6 u7 u8 H);(try clear Z v1 v2 v3 v4 v5 v6 v7 v8 vf);have u0:=a.out.c 0 _ rfl;have u1:=a.out.c 1 _ rfl;have u2:=a.out.c 2 _ rfl;have u3:=a.out.c 3 _ rfl;have u4:=a.out.c 4 _ rfl;have u5:=a.out.c 5 _ rfl;have u6:=a.out.c 6 _ rfl;have u7:=a.out.c 7 _ rfl;have u8:=a.out.c 8 _ rfl;have H:=a.out.z;obtain⟨J,M,N,O,P,Q⟩:=d.out.b0;unfold G1;rcases Aam R with⟨h1,b1⟩ | ⟨h1,h0,b1,b0⟩ | ⟨h1,h0,b1,b0⟩<;>(simp only[h1,ne_eq,not_true_eq_false,not_false_eq_true,false_and,true_and,if_false,reduceIte] at D;(try (simp only[h0,not_true_eq_false,not_false_eq_true,false_and,true_and,if_false,reduceIte] at D;clear h0));clear h1)) | (go_at_call 12;(with_reducible refine(EE R [123] _).mono ?_);rintro e w7 ⟨rfl,S⟩;replace d:=aG (d.out.quiet S);replace a:=aG (a.out.quiet S);clear S;cases hs:EP R [123]<;>(simp only[hs,if_true,if_false,aL,reduceIte,and_true,true_and,and_false,false_and] at D;clear hs);all_goals ((try clear J M N O P Q);(try clear m10 m11 m12 m13 m14 m1f);(try clear m20 m21 m22 m23 m24 m2f);(try clear m30 m31 m32 m33 m34 m3f);(try clear u0 u1 u2 u3 u4 u5 u6 u7 u8 H);(try clear Z v1 v2 v3 v4 v5 v6 v7 v8 vf);have u0:=a.out.c 0 _ rfl;have u1:=a.out.c 1 _ rfl;have u2:=a.out.c 2 _ rfl;have u3:=a.out.c 3 _ rfl;have u4:=a.out.c 4 _ rfl;have u5:=a.out.c 5 _ rfl;have u6:=a.out.c 6 _ rfl;have u7:=a.out.c 7 _ rfl;have u8:=a.out.c 8 _ rfl;have H:=a.out.z;obtain⟨J,M,N,O,P,Q⟩:=d.out.b0)) | (go_at_call 12;(with_reducible refine(EE R [59] _).mono ?_);rintro e w9 ⟨rfl,S⟩;replace d:=aG (d.out.quiet S);replace a:=aG (a.out.quiet S);clear S;cases hs:EP R [59]<;>(simp only[hs,if_true,if_false,aL,reduceIte,and_true,true_and,and_false,false_and] at D;clear hs);all_goals ((try clear J M N O P Q);(try clear m10 m11 m12 m13 m14 m1f);(try clear m20 m21 m22 m23 m24 m2f);(try clear m30 m31 m32 m33 m34 m3f);(try clear u0 u1 u2 u3 u4 u5 u6 u7 u8 H);(try clear Z v1 v2 v3 v4 v5 v6 v7 v8 vf);have u0:=a.out.c 0 _ rfl;have u1:=a.out.c 1 _ rfl;have u2:=a.out.c 2 _ rfl;have u3:=a.out.c 3 _ rfl;have u4:=a.out.c 4 _ rfl;have u5:=a.out.c 5 _ rfl;have u6:=a.out.c 6 _ rfl;have u7:=a.out.c 7 _ rfl;have u8:=a.out.c 8 _ rfl;have H:=a.out.z;obtain⟨J,M,N,O,P,Q⟩:=d.out.b0)) | (go_at_call 22;(with_reducible refine(HB.out _ _ d.out.z (CA D hh)).mono ?_);intro e w8 ha;rcases ha.part D hh with⟨f,er,rfl,G,hr⟩ | ⟨_,p8,v,rfl,⟨⟨y,kv,rfl,rfl,hk⟩,hz⟩,G,E⟩;exact⟨rfl,E4 hr (d.out.o.trans G)⟩;replace D:=E;clear E ha;(try dsimp only[hd1,aK,aH,aI,aJ] at D);obtain⟨T,U,rfl⟩:=hk.slice;replace a:=aG (a.out.only G c0);replace d:=aG (d.out.read hk hz G);clear hk hz G;(try clear J M N O P Q);(try clear m10 m11 m12 m13 m14 m1f);(try clear m20 m21 m22 m23 m24 m2f);(try clear m30 m31 m32 m33 m34 m3f);(try clear u0 u1 u2 u3 u4 u5 u6 u7 u8 H);(try clear Z v1 v2 v3 v4 v5 v6 v7 v8 vf);have u0:=a.out.c 0 _ rfl;have u1:=a.out.c 1 _ rfl;have u2:=a.out.c 2 _ rfl;have u3:=a.out.c 3 _ rfl;have u4:=a.out.c 4 _ rfl;have u5:=a.out.c 5 _ rfl;have u6:=a.out.c 6 _ rfl;have u7:=a.out.c 7 _ rfl;have u8:=a.out.c 8 _ rfl;have H:=a.out.z;unfold CJ) | (go_at_call 17;(with_reducible refine(E3 d.out.z R).mono ?_);rintro e n0 ⟨rfl,S⟩;exact⟨rfl,E4 (aG D.out.symm) (d.out.o.trans S)⟩))
 ·(try clear J M N O P Q);(try clear m10 m11 m12 m13 m14 m1f);(try clear m20 m21 m22 m23 m24 m2f);(try clear m30 m31 m32 m33 m34 m3f)
  (try clear u0 u1 u2 u3 u4 u5 u6 u7 u8 H);(try clear Z v1 v2 v3 v4 v5 v6 v7 v8 vf)
  refine E1 (fun o=>CN o m [.int .i64 6,.int .i64 0,.slice (some ⟨w1.heap.size,0,none⟩) 1 1,.int .i64 0,.string ⟨#[]⟩,.float .f64 0,.slice none 0 0,.complex .f64 0 0,.complex .f64 z.1 z.2]) 14 (by kernel_rfl) ?_;have k:=a.out.drew;refine BT (i:=0) (v:=.pointer (some ⟨m,0,none⟩)) rfl (by kernel_rfl) (fun _ _ _ h=>h) (Or.inl ⟨by rfl,fun w C=>by go_simp⟩) k ?_
  (try dsimp only);try simp only[Act.put,aD,aB,aC,aA,aE,aF]
  refine BT (i:=1) (v:=.pointer (some ⟨m,0,none⟩)) rfl (by kernel_rfl) (fun _ _ _ h=>h) (Or.inl ⟨by rfl,fun w C=>by go_simp⟩) k ?_
  (try dsimp only);try simp only[Act.put,aD,aB,aC,aA,aE,aF]
  refine BT (i:=2) (v:=.pointer (some ⟨m,0,none⟩)) rfl (by kernel_rfl) (fun _ _ _ h=>h) (Or.inl ⟨by rfl,fun w C=>by go_simp⟩) k ?_
  (try dsimp only);try simp only[Act.put,aD,aB,aC,aA,aE,aF]
  refine BT (i:=3) (v:=.pointer (some ⟨m,8,none⟩)) rfl (by kernel_rfl) (fun _ _ _ h=>h) (Or.inl ⟨by rfl,fun w C=>by go_simp⟩) k ?_
  (try dsimp only);try simp only[Act.put,aD,aB,aC,aA,aE,aF]
  refine BT (i:=4) (v:=.complex .f64 z.1 z.2) rfl (by kernel_rfl) (fun _ _ _ h=>h) (Or.inl ⟨by rfl,fun w C=>by have s8:=C.c 8 _ rfl;go_simp⟩) k ?_
  (try dsimp only);try simp only[Act.put,aD,aB,aC,aA,aE,aF]
  refine BT (i:=5) (v:=.pointer (some ⟨m,0,none⟩)) rfl (by kernel_rfl) (fun _ _ _ h=>h) (Or.inl ⟨by rfl,fun w C=>by go_simp⟩) k ?_
  (try dsimp only);try simp only[Act.put,aD,aB,aC,aA,aE,aF]
  refine BT (i:=6) (v:=.pointer (some ⟨m,0,none⟩)) rfl (by kernel_rfl) (fun _ _ _ h=>h) (Or.inl ⟨by rfl,fun w C=>by go_simp⟩) k ?_
  (try dsimp only);try simp only[Act.put,aD,aB,aC,aA,aE,aF]
  refine BT (i:=7) (v:=.pointer (some ⟨m,8,none⟩)) rfl (by kernel_rfl) (fun _ _ _ h=>h) (Or.inl ⟨by rfl,fun w C=>by go_simp⟩) k ?_
  (try dsimp only);try simp only[Act.put,aD,aB,aC,aA,aE,aF]
  refine BT (i:=8) (v:=.complex .f64 z.1 z.2) rfl (by kernel_rfl) (fun _ _ _ h=>h) (Or.inl ⟨by rfl,fun w C=>by have s8:=C.c 8 _ rfl;go_simp⟩) k ?_
  (try dsimp only);try simp only[Act.put,aD,aB,aC,aA,aE,aF]
  refine BT (i:=9) (v:=(.agg #[.int .i64 42,.string ⟨#[]⟩,.float .f64 0,.slice none 0 0,.complex .f64 z.1 z.2])) rfl (by kernel_rfl) (fun _ _ _ h=>h) (Or.inl ⟨by rfl,fun w C=>by go_simp⟩) k ?_
  (try dsimp only);try simp only[Act.put,aD,aB,aC,aA,aE,aF]
  replace d:=aG d.out.drew;replace a:=aG k;clear k
  revert d a
  generalize aM _=X;intro d a;refine BW (rs:=[10]) (by kernel_rfl) rfl (BS.cons rfl (by rfl) (fun K A=>?_) BS.nil)
  try go_simp
  replace d:=aG (Fx.kid1 (u:=.mk 42 [] 0 z []) (kv:=.slice none 0 0) d.out.nilrow);replace a:=aG (a.out.alloc (.cells #[.int .i64 42,.string ⟨#[]⟩,.float .f64 0,.slice none 0 0,.complex .f64 z.1 z.2] 34));refine A.out _ _ (.inr a.out) ?_
  (try dsimp only);try simp only[Act.put,aD,aB,aC,aA,aE,aF]
  refine BW (rs:=[11]) (by kernel_rfl) rfl (BS.cons rfl (by rfl) (fun K A=>?_) BS.nil)
  try go_simp
  refine A.out _ _ (.inr a.out) ?_
  (try dsimp only);try simp only[Act.put,aD,aB,aC,aA,aE,aF]
  refine BW (rs:=[12]) (by kernel_rfl) rfl (BS.cons rfl (by rfl) (fun K A=>?_) BS.nil)
  try go_simp
  refine A.out _ _ (.inr a.out) ?_
  (try dsimp only);try simp only[Act.put,aD,aB,aC,aA,aE,aF]
  refine BW (rs:=[13]) (by kernel_rfl) rfl (BS.cons rfl (by rfl) (fun K A=>?_) BS.nil)
  try go_simp
  refine A.out _ _ (.inr a.out) ?_
  (try dsimp only);try simp only[Act.put,aD,aB,aC,aA,aE,aF]
  have u0:=a.out.c 0 _ rfl;have u1:=a.out.c 1 _ rfl;have u2:=a.out.c 2 _ rfl;have u3:=a.out.c 3 _ rfl;have u4:=a.out.c 4 _ rfl;have u5:=a.out.c 5 _ rfl;have u6:=a.out.c 6 _ rfl;have u7:=a.out.c 7 _ rfl;have u8:=a.out.c 8 _ rfl;have H:=a.out.z;refine BW (rs:=[14]) (by kernel_rfl) rfl (BS.cons rfl (by rfl) (fun K A=>?_) BS.nil)
  try go_simp
  refine A.out _ _ (.inl rfl) ?_
  (try dsimp only);try simp only[Act.put,aD,aB,aC,aA,aE,aF]
  refine Aal (by kernel_rfl) ?_ _;replace d:=aG (d.out.wide1 (EZ _ m (.int .i64 30) (.string ⟨#[]⟩) (.float .f64 0) (.slice (some ⟨X.heap.size,0,none⟩) 1 1) (.complex .f64 z.1 z.2)) (a.out.body (.int .i64 30) (.string ⟨#[]⟩) (.float .f64 0) (.slice (some ⟨X.heap.size,0,none⟩) 1 1) (.complex .f64 z.1 z.2)));replace a:=aG (a.out.body (.int .i64 30) (.string ⟨#[]⟩) (.float .f64 0) (.slice (some ⟨X.heap.size,0,none⟩) 1 1) (.complex .f64 z.1 z.2));go_wp2;exact bodyPost_ret (results_none rfl _ _ _) rfl (Hg D ⟨_,_,(d.out.rows2 (.tail _ (.tail _ (.head _))) (.head _)).drop,a.out⟩)
 ·replace d:=aG (d.out.wide1 (EZ _ m (.int .i64 y.kd) (.string ⟨y.nm.toArray⟩) (.float .f64 y.x) (.slice T y.ks.length U) (.complex .f64 y.z.1 y.z.2)) (a.out.body (.int .i64 y.kd) (.string ⟨y.nm.toArray⟩) (.float .f64 y.x) (.slice T y.ks.length U) (.complex .f64 y.z.1 y.z.2)))
  replace a:=aG (a.out.body (.int .i64 y.kd) (.string ⟨y.nm.toArray⟩) (.float .f64 y.x) (.slice T y.ks.length U) (.complex .f64 y.z.1 y.z.2));exact bodyPost_ret (results_none rfl _ _ _) rfl (Hg D ⟨_,_,(d.out.rows2 (.tail _ (.head _)) (.head _)).drop,a.out⟩)
 ·(try clear J M N O P Q);(try clear m10 m11 m12 m13 m14 m1f);(try clear m20 m21 m22 m23 m24 m2f);(try clear m30 m31 m32 m33 m34 m3f)
  (try clear u0 u1 u2 u3 u4 u5 u6 u7 u8 H);(try clear Z v1 v2 v3 v4 v5 v6 v7 v8 vf)
  refine E1 (fun o=>CN o m [.int .i64 6,.int .i64 0,.slice (some ⟨w1.heap.size,0,none⟩) 1 1,.int .i64 0,.string ⟨#[]⟩,.float .f64 0,.slice none 0 0,.complex .f64 0 0,.complex .f64 z.1 z.2]) 14 (by kernel_rfl) ?_;have k:=a.out.drew;refine BT (i:=0) (v:=.pointer (some ⟨m,0,none⟩)) rfl (by kernel_rfl) (fun _ _ _ h=>h) (Or.inl ⟨by rfl,fun w C=>by go_simp⟩) k ?_
  (try dsimp only);try simp only[Act.put,aD,aB,aC,aA,aE,aF]
  refine BT (i:=1) (v:=.pointer (some ⟨m,0,none⟩)) rfl (by kernel_rfl) (fun _ _ _ h=>h) (Or.inl ⟨by rfl,fun w C=>by go_simp⟩) k ?_
  (try dsimp only);try simp only[Act.put,aD,aB,aC,aA,aE,aF]
  refine BT (i:=2) (v:=.pointer (some ⟨m,0,none⟩)) rfl (by kernel_rfl) (fun _ _ _ h=>h) (Or.inl ⟨by rfl,fun w C=>by go_simp⟩) k ?_
  (try dsimp only);try simp only[Act.put,aD,aB,aC,aA,aE,aF]
  refine BT (i:=3) (v:=.pointer (some ⟨m,8,none⟩)) rfl (by kernel_rfl) (fun _ _ _ h=>h) (Or.inl ⟨by rfl,fun w C=>by go_simp⟩) k ?_
  (try dsimp only);try simp only[Act.put,aD,aB,aC,aA,aE,aF]
  refine BT (i:=4) (v:=.complex .f64 z.1 z.2) rfl (by kernel_rfl) (fun _ _ _ h=>h) (Or.inl ⟨by rfl,fun w C=>by have s8:=C.c 8 _ rfl;go_simp⟩) k ?_
  (try dsimp only);try simp only[Act.put,aD,aB,aC,aA,aE,aF]
  refine BT (i:=5) (v:=.pointer (some ⟨m,0,none⟩)) rfl (by kernel_rfl) (fun _ _ _ h=>h) (Or.inl ⟨by rfl,fun w C=>by go_simp⟩) k ?_
  (try dsimp only);try simp only[Act.put,aD,aB,aC,aA,aE,aF]
  refine BT (i:=6) (v:=.pointer (some ⟨m,0,none⟩)) rfl (by kernel_rfl) (fun _ _ _ h=>h) (Or.inl ⟨by rfl,fun w C=>by go_simp⟩) k ?_
  (try dsimp only);try simp only[Act.put,aD,aB,aC,aA,aE,aF]
  refine BT (i:=7) (v:=.pointer (some ⟨m,8,none⟩)) rfl (by kernel_rfl) (fun _ _ _ h=>h) (Or.inl ⟨by rfl,fun w C=>by go_simp⟩) k ?_
  (try dsimp only);try simp only[Act.put,aD,aB,aC,aA,aE,aF]
  refine BT (i:=8) (v:=.complex .f64 z.1 z.2) rfl (by kernel_rfl) (fun _ _ _ h=>h) (Or.inl ⟨by rfl,fun w C=>by have s8:=C.c 8 _ rfl;go_simp⟩) k ?_
  (try dsimp only);try simp only[Act.put,aD,aB,aC,aA,aE,aF]
  refine BT (i:=9) (v:=(.agg #[.int .i64 42,.string ⟨#[]⟩,.float .f64 0,.slice none 0 0,.complex .f64 z.1 z.2])) rfl (by kernel_rfl) (fun _ _ _ h=>h) (Or.inl ⟨by rfl,fun w C=>by go_simp⟩) k ?_
  (try dsimp only);try simp only[Act.put,aD,aB,aC,aA,aE,aF]
  replace d:=aG d.out.drew;replace a:=aG k;clear k
  revert d a
  generalize aM _=X;intro d a;refine BW (rs:=[10]) (by kernel_rfl) rfl (BS.cons rfl (by rfl) (fun K A=>?_) BS.nil)
  try go_simp
  replace d:=aG (Fx.kid1 (u:=.mk 42 [] 0 z []) (kv:=.slice none 0 0) d.out.nilrow);replace a:=aG (a.out.alloc (.cells #[.int .i64 42,.string ⟨#[]⟩,.float .f64 0,.slice none 0 0,.complex .f64 z.1 z.2] 34));refine A.out _ _ (.inr a.out) ?_
  (try dsimp only);try simp only[Act.put,aD,aB,aC,aA,aE,aF]
  refine BW (rs:=[11]) (by kernel_rfl) rfl (BS.cons rfl (by rfl) (fun K A=>?_) BS.nil)
  try go_simp
  refine A.out _ _ (.inr a.out) ?_
  (try dsimp only);try simp only[Act.put,aD,aB,aC,aA,aE,aF]
  refine BW (rs:=[12]) (by kernel_rfl) rfl (BS.cons rfl (by rfl) (fun K A=>?_) BS.nil)
  try go_simp
  refine A.out _ _ (.inr a.out) ?_
  (try dsimp only);try simp only[Act.put,aD,aB,aC,aA,aE,aF]
  refine BW (rs:=[13]) (by kernel_rfl) rfl (BS.cons rfl (by rfl) (fun K A=>?_) BS.nil)
  try go_simp
  refine A.out _ _ (.inr a.out) ?_
  (try dsimp only);try simp only[Act.put,aD,aB,aC,aA,aE,aF]
  have u0:=a.out.c 0 _ rfl;have u1:=a.out.c 1 _ rfl;have u2:=a.out.c 2 _ rfl;have u3:=a.out.c 3 _ rfl;have u4:=a.out.c 4 _ rfl;have u5:=a.out.c 5 _ rfl;have u6:=a.out.c 6 _ rfl;have u7:=a.out.c 7 _ rfl;have u8:=a.out.c 8 _ rfl;have H:=a.out.z;refine BW (rs:=[14]) (by kernel_rfl) rfl (BS.cons rfl (by rfl) (fun K A=>?_) BS.nil)
  try go_simp
  refine A.out _ _ (.inl rfl) ?_
  (try dsimp only);try simp only[Act.put,aD,aB,aC,aA,aE,aF]
  refine Aal (by kernel_rfl) ?_ _;replace d:=aG (d.out.wide1 (EZ _ m (.int .i64 30) (.string ⟨#[]⟩) (.float .f64 0) (.slice (some ⟨X.heap.size,0,none⟩) 1 1) (.complex .f64 z.1 z.2)) (a.out.body (.int .i64 30) (.string ⟨#[]⟩) (.float .f64 0) (.slice (some ⟨X.heap.size,0,none⟩) 1 1) (.complex .f64 z.1 z.2)));replace a:=aG (a.out.body (.int .i64 30) (.string ⟨#[]⟩) (.float .f64 0) (.slice (some ⟨X.heap.size,0,none⟩) 1 1) (.complex .f64 z.1 z.2));go_wp2;exact bodyPost_ret (results_none rfl _ _ _) rfl (Hg D ⟨_,_,(d.out.rows2 (.tail _ (.tail _ (.head _))) (.head _)).drop,a.out⟩)
 ·replace d:=aG (d.out.wide1 (EZ _ m (.int .i64 y.kd) (.string ⟨y.nm.toArray⟩) (.float .f64 y.x) (.slice T y.ks.length U) (.complex .f64 y.z.1 y.z.2)) (a.out.body (.int .i64 y.kd) (.string ⟨y.nm.toArray⟩) (.float .f64 y.x) (.slice T y.ks.length U) (.complex .f64 y.z.1 y.z.2)))
  replace a:=aG (a.out.body (.int .i64 y.kd) (.string ⟨y.nm.toArray⟩) (.float .f64 y.x) (.slice T y.ks.length U) (.complex .f64 y.z.1 y.z.2));exact bodyPost_ret (results_none rfl _ _ _) rfl (Hg D ⟨_,_,(d.out.rows2 (.tail _ (.head _)) (.head _)).drop,a.out⟩)
 ·replace D:=XY (by decide) D
  (try clear J M N O P Q);(try clear m10 m11 m12 m13 m14 m1f);(try clear m20 m21 m22 m23 m24 m2f);(try clear m30 m31 m32 m33 m34 m3f)
  (try clear u0 u1 u2 u3 u4 u5 u6 u7 u8 H);(try clear Z v1 v2 v3 v4 v5 v6 v7 v8 vf)
  refine E1 (fun o=>CN o m [.int .i64 6,.int .i64 0,.slice (some ⟨w1.heap.size,0,none⟩) 1 1,.int .i64 0,.string ⟨#[]⟩,.float .f64 0,.slice none 0 0,.complex .f64 0 0,.complex .f64 z.1 z.2]) 14 (by kernel_rfl) ?_;have k:=a.out.drew;refine BT (i:=0) (v:=.pointer (some ⟨m,0,none⟩)) rfl (by kernel_rfl) (fun _ _ _ h=>h) (Or.inl ⟨by rfl,fun w C=>by go_simp⟩) k ?_
  (try dsimp only);try simp only[Act.put,aD,aB,aC,aA,aE,aF]
  refine BT (i:=1) (v:=.pointer (some ⟨m,0,none⟩)) rfl (by kernel_rfl) (fun _ _ _ h=>h) (Or.inl ⟨by rfl,fun w C=>by go_simp⟩) k ?_
  (try dsimp only);try simp only[Act.put,aD,aB,aC,aA,aE,aF]
  refine BT (i:=2) (v:=.pointer (some ⟨m,0,none⟩)) rfl (by kernel_rfl) (fun _ _ _ h=>h) (Or.inl ⟨by rfl,fun w C=>by go_simp⟩) k ?_
  (try dsimp only);try simp only[Act.put,aD,aB,aC,aA,aE,aF]
  refine BT (i:=3) (v:=.pointer (some ⟨m,8,none⟩)) rfl (by kernel_rfl) (fun _ _ _ h=>h) (Or.inl ⟨by rfl,fun w C=>by go_simp⟩) k ?_
  (try dsimp only);try simp only[Act.put,aD,aB,aC,aA,aE,aF]
  refine BT (i:=4) (v:=.complex .f64 z.1 z.2) rfl (by kernel_rfl) (fun _ _ _ h=>h) (Or.inl ⟨by rfl,fun w C=>by have s8:=C.c 8 _ rfl;go_simp⟩) k ?_
  (try dsimp only);try simp only[Act.put,aD,aB,aC,aA,aE,aF]
  refine BT (i:=5) (v:=.pointer (some ⟨m,0,none⟩)) rfl (by kernel_rfl) (fun _ _ _ h=>h) (Or.inl ⟨by rfl,fun w C=>by go_simp⟩) k ?_
  (try dsimp only);try simp only[Act.put,aD,aB,aC,aA,aE,aF]
  refine BT (i:=6) (v:=.pointer (some ⟨m,0,none⟩)) rfl (by kernel_rfl) (fun _ _ _ h=>h) (Or.inl ⟨by rfl,fun w C=>by go_simp⟩) k ?_
  (try dsimp only);try simp only[Act.put,aD,aB,aC,aA,aE,aF]
  refine BT (i:=7) (v:=.pointer (some ⟨m,8,none⟩)) rfl (by kernel_rfl) (fun _ _ _ h=>h) (Or.inl ⟨by rfl,fun w C=>by go_simp⟩) k ?_
  (try dsimp only);try simp only[Act.put,aD,aB,aC,aA,aE,aF]
  refine BT (i:=8) (v:=.complex .f64 z.1 z.2) rfl (by kernel_rfl) (fun _ _ _ h=>h) (Or.inl ⟨by rfl,fun w C=>by have s8:=C.c 8 _ rfl;go_simp⟩) k ?_
  (try dsimp only);try simp only[Act.put,aD,aB,aC,aA,aE,aF]
  refine BT (i:=9) (v:=(.agg #[.int .i64 42,.string ⟨#[]⟩,.float .f64 0,.slice none 0 0,.complex .f64 z.1 z.2])) rfl (by kernel_rfl) (fun _ _ _ h=>h) (Or.inl ⟨by rfl,fun w C=>by go_simp⟩) k ?_
  (try dsimp only);try simp only[Act.put,aD,aB,aC,aA,aE,aF]
  replace d:=aG d.out.drew;replace a:=aG k;clear k
  revert d a
  generalize aM _=X;intro d a;refine BW (rs:=[10]) (by kernel_rfl) rfl (BS.cons rfl (by rfl) (fun K A=>?_) BS.nil)
  try go_simp
  replace d:=aG (Fx.kid1 (u:=.mk 42 [] 0 z []) (kv:=.slice none 0 0) d.out.nilrow);replace a:=aG (a.out.alloc (.cells #[.int .i64 42,.string ⟨#[]⟩,.float .f64 0,.slice none 0 0,.complex .f64 z.1 z.2] 34));refine A.out _ _ (.inr a.out) ?_
  (try dsimp only);try simp only[Act.put,aD,aB,aC,aA,aE,aF]
  refine BW (rs:=[11]) (by kernel_rfl) rfl (BS.cons rfl (by rfl) (fun K A=>?_) BS.nil)
  try go_simp
  refine A.out _ _ (.inr a.out) ?_
  (try dsimp only);try simp only[Act.put,aD,aB,aC,aA,aE,aF]
  refine BW (rs:=[12]) (by kernel_rfl) rfl (BS.cons rfl (by rfl) (fun K A=>?_) BS.nil)
  try go_simp
  refine A.out _ _ (.inr a.out) ?_
  (try dsimp only);try simp only[Act.put,aD,aB,aC,aA,aE,aF]
  refine BW (rs:=[13]) (by kernel_rfl) rfl (BS.cons rfl (by rfl) (fun K A=>?_) BS.nil)
  try go_simp
  refine A.out _ _ (.inr a.out) ?_
  (try dsimp only);try simp only[Act.put,aD,aB,aC,aA,aE,aF]
  have u0:=a.out.c 0 _ rfl;have u1:=a.out.c 1 _ rfl;have u2:=a.out.c 2 _ rfl;have u3:=a.out.c 3 _ rfl;have u4:=a.out.c 4 _ rfl;have u5:=a.out.c 5 _ rfl;have u6:=a.out.c 6 _ rfl;have u7:=a.out.c 7 _ rfl;have u8:=a.out.c 8 _ rfl;have H:=a.out.z;refine BW (rs:=[14]) (by kernel_rfl) rfl (BS.cons rfl (by rfl) (fun K A=>?_) BS.nil)
  try go_simp
  refine A.out _ _ (.inl rfl) ?_
  (try dsimp only);try simp only[Act.put,aD,aB,aC,aA,aE,aF]
  refine Aal (by kernel_rfl) ?_ _;replace d:=aG (d.out.wide1 (EZ _ m (.int .i64 30) (.string ⟨#[]⟩) (.float .f64 0) (.slice (some ⟨X.heap.size,0,none⟩) 1 1) (.complex .f64 z.1 z.2)) (a.out.body (.int .i64 30) (.string ⟨#[]⟩) (.float .f64 0) (.slice (some ⟨X.heap.size,0,none⟩) 1 1) (.complex .f64 z.1 z.2)));replace a:=aG (a.out.body (.int .i64 30) (.string ⟨#[]⟩) (.float .f64 0) (.slice (some ⟨X.heap.size,0,none⟩) 1 1) (.complex .f64 z.1 z.2));go_wp2;exact bodyPost_ret (results_none rfl _ _ _) rfl (Hg D ⟨_,_,(d.out.rows2 (.tail _ (.tail _ (.head _))) (.head _)).drop,a.out⟩)
 ·replace d:=aG (d.out.wide1 (EZ _ m (.int .i64 y.kd) (.string ⟨y.nm.toArray⟩) (.float .f64 y.x) (.slice T y.ks.length U) (.complex .f64 y.z.1 y.z.2)) (a.out.body (.int .i64 y.kd) (.string ⟨y.nm.toArray⟩) (.float .f64 y.x) (.slice T y.ks.length U) (.complex .f64 y.z.1 y.z.2)))
  replace a:=aG (a.out.body (.int .i64 y.kd) (.string ⟨y.nm.toArray⟩) (.float .f64 y.x) (.slice T y.ks.length U) (.complex .f64 y.z.1 y.z.2));exact bodyPost_ret (results_none rfl _ _ _) rfl (Hg D ⟨_,_,(d.out.rows2 (.tail _ (.head _)) (.head _)).drop,a.out⟩)
 go_cut [] (fun wx=>∃(y:Tr) (g F:Nat) (p8:Ps),Hid (Yq nx pl d0 n z 7 [u,y] p8=r)/\Hid (Fx w0 W0 q B s p8 (⟨m,.int .i64 7,.int .i64 0,.slice (some ⟨g,0,none⟩) 2 F,.int .i64 0,.string ⟨#[]⟩⟩::l) [([u,y],.slice (some ⟨g,0,none⟩) 2 F)] wx)/\Hid (CN wx m [.int .i64 7,.int .i64 0,.slice (some ⟨g,0,none⟩) 2 F,.int .i64 0,.string ⟨#[]⟩,.float .f64 0,.slice none 0 0,.complex .f64 0 0,.complex .f64 z.1 z.2]))
 case first =>
  (try clear u0 u1 u2 u3 u4 u5 u6 u7 u8 H);(try clear Z v1 v2 v3 v4 v5 v6 v7 v8 vf)
  revert d a
  generalize World.setCell _ _ _=X;intro d a;refine XS (fun o=>CN o m [.int .i64 7,.int .i64 0,.slice (some ⟨w1.heap.size,0,none⟩) 1 1,.int .i64 0,.string ⟨#[]⟩,.float .f64 0,.slice none 0 0,.complex .f64 0 0,.complex .f64 z.1 z.2]) 8 (by kernel_rfl) ?_;have k:=a.out.drew;refine Hv (i:=0) (v:=.pointer (some ⟨m,0,none⟩)) rfl (by kernel_rfl) (fun _ _ _ h=>h) (Or.inl ⟨by rfl,fun w C=>by go_simp⟩) k ?_
  (try dsimp only);try simp only[Act.put,aD,aB,aC,aA,aE,aF]
  refine Hv (i:=1) (v:=.pointer (some ⟨m,0,none⟩)) rfl (by kernel_rfl) (fun _ _ _ h=>h) (Or.inl ⟨by rfl,fun w C=>by go_simp⟩) k ?_
  (try dsimp only);try simp only[Act.put,aD,aB,aC,aA,aE,aF]
  refine Hv (i:=2) (v:=.pointer (some ⟨m,2,none⟩)) rfl (by kernel_rfl) (fun _ _ _ h=>h) (Or.inl ⟨by rfl,fun w C=>by go_simp⟩) k ?_
  (try dsimp only);try simp only[Act.put,aD,aB,aC,aA,aE,aF]
  refine Hv (i:=3) (v:=.slice (some ⟨w1.heap.size,0,none⟩) 1 1) rfl (by kernel_rfl) (fun _ _ _ h=>h) (Or.inl ⟨by rfl,fun w C=>by have s8:=C.c 2 _ rfl;go_simp⟩) k ?_
  (try dsimp only);try simp only[Act.put,aD,aB,aC,aA,aE,aF]
  refine Hv (i:=4) (v:=.pointer (some ⟨q,0,none⟩)) rfl (by kernel_rfl) (fun _ _ _ h=>h) (Or.inl ⟨by rfl,fun w C=>by go_simp⟩) k ?_
  (try dsimp only);try simp only[Act.put,aD,aB,aC,aA,aE,aF]
  refine Hv (i:=6) (v:=.int .i64 1) rfl (by kernel_rfl) (fun _ _ _ h=>h) (Or.inl ⟨by rfl,fun w C=>by go_simp⟩) k ?_
  (try dsimp only);try simp only[Act.put,aD,aB,aC,aA,aE,aF]
  replace d:=aG d.out.drew;replace a:=aG k;clear k
  revert d a
  generalize aM _=X;intro d a;refine EJ (rs:=[5,7]) (by kernel_rfl) rfl (CB.cons rfl (by rfl) (fun K A=>?_) (CB.cons rfl (by rfl) (fun K A=>?_) CB.nil))
  ·try go_simp
   go_at_call 27
   refine(HE.out _ _ d.out.z (CA D hh)).mono ?_;intro e w8 ha;rcases ha.part D hh with⟨f,er,rfl,G,hr⟩ | ⟨_,p8,v,rfl,⟨⟨y,kv,rfl,rfl,hk⟩,hz⟩,G,E⟩
   ·exact⟨rfl,E4 hr (d.out.o.trans G)⟩
   replace D:=E;clear E ha
   (try dsimp only[hd1,aK,aH,aI,aJ] at D)
   obtain⟨T,U,rfl⟩:=hk.slice;have HA:=aG (d.out.apart hk);replace a:=aG (a.out.only G c0);replace d:=aG (d.out.move hz G);clear hk hz G;unfold CJ;refine A.out _ _ (.inr a.out) ?_
   (try dsimp only);try simp only[Act.put,aD,aB,aC,aA,aE,aF]
   refine EJ (rs:=[7]) (by kernel_rfl) rfl (CB.cons rfl (by rfl) (fun K A=>?_) CB.nil)
   try go_simp
   replace HA:=aG (HA.out.bel (Ad _ (.cells #[.int .i64 0,.string ⟨#[]⟩,.float .f64 0,.slice none 0 0,.complex .f64 0 0] 34)));replace a:=aG (a.out.alloc (.cells #[.int .i64 0,.string ⟨#[]⟩,.float .f64 0,.slice none 0 0,.complex .f64 0 0] 34));replace d:=aG (d.out.box (.int .i64 0) (.string ⟨#[]⟩) (.float .f64 0) (.slice none 0 0) (.complex .f64 0 0) 34);refine A.out _ _ (.inr a.out) ?_
   (try dsimp only);try simp only[Act.put,aD,aB,aC,aA,aE,aF]
   refine EJ (rs:=[8]) (by kernel_rfl) rfl (CB.cons rfl (by rfl) (fun K A=>?_) CB.nil);have HZ:=aG d.out.b0;obtain⟨L,hL,Y,a0,e0⟩:=d.out.drop.ka.owns B (fun j e=>e.1);have V:L.length=1:=by rw[<- List.length_map (f:=Prod.fst),hL];rfl
   have f0:=d.out.hB.2;refine wp_append_lies _ (.tmp 23) (.tmp 27) 31 rfl B 34 i0 _ 5 72 underlying31 g0 j0 k0 l0 rfl (by decide) _ 1 (Ah L) rfl (V▸Y) ⟨_,0,none⟩ 1 1 (Ah [(.mk 0 [] 0 (0,0) [],.slice none 0 0)]) rfl rfl (ZS HZ.out) (ZB _ _ _ _) (by decide) (by decide) (by decide) f0 _ rfl ?_;intro g F w9 o1 o2 o3 o4;have hF:=d.out.drop.append (t:=.mk 0 [] 0 (0,0) []) hL (fun g e=>⟨a0 g e,(Y.lt g e).2⟩) e0 (Am.nil _) (by rw[V];exact o1) o2 (by rcases o3 with e | e;exact .inl e.symm;exact .inr (by rw[e];rfl));replace HA:=aG (((HA.out.mono (S':=fun j=>(Av B (⟨m,_,_,_,_,_⟩::l) j/\j≠g)/\some j≠(Value.slice (some ⟨w1.heap.size,0,none⟩) 1 1).ownBlock) fun j hj e=>⟨⟨e.1,fun h=>by rcases o3 with e' | e';exact e.2 ((congrArg some h).trans e'.symm);omega⟩,e.2⟩).kept o2.size fun j hj hl=>o2.block j hl hj.2).mono fun j _ e=>e.1)
   replace a:=aG (a.out.kept (o2.block m a.out.l (by intro e;exact(a0 m e.symm).2 _ (.head _) rfl)) (Nat.lt_of_lt_of_le a.out.l o2.size));replace d:=aG hF;clear hF o1 o2 o3 o4 hL Y a0 e0 f0 HZ V;refine A.out _ _ (.inr a.out) ?_
   (try dsimp only);try simp only[Act.put,aD,aB,aC,aA,aE,aF]
   refine F4 (i:=9) (v:=.pointer (some ⟨g,5,none⟩)) rfl (by kernel_rfl) (fun _ _ _ h=>h) (Or.inl ⟨by rfl,fun w _=>by go_simp⟩) ?_
   (try dsimp only);try simp only[Act.put,aD,aB,aC,aA,aE,aF]
   refine F4 (i:=11) (v:=.pointer (some ⟨m,0,none⟩)) rfl (by kernel_rfl) (fun _ _ _ h=>h) (Or.inl ⟨by rfl,fun w _=>by go_simp⟩) ?_
   (try dsimp only);try simp only[Act.put,aD,aB,aC,aA,aE,aF]
   refine F4 (i:=12) (v:=.pointer (some ⟨m,2,none⟩)) rfl (by kernel_rfl) (fun _ _ _ h=>h) (Or.inl ⟨by rfl,fun w _=>by go_simp⟩) ?_
   (try dsimp only);try simp only[Act.put,aD,aB,aC,aA,aE,aF]
   have I:g≠m:=fun e=>by obtain⟨L,-,-,C,-⟩:=d.out.ka.owns B (fun j e=>e.1);exact(C g rfl).2 _ (.head _) e
   refine EJ (rs:=[10,13]) (by kernel_rfl) rfl (CB.cons rfl (by rfl) (fun K A=>?_) (CB.cons rfl (by rfl) (fun K A=>?_) CB.nil))
   ·obtain⟨⟨k8,d5,d6,d7,d8,d9⟩,dz⟩:=M0 d.out.ka
    try go_simp
    replace d:=aG (d.out.rowput HA.out);replace a:=aG (((((a.out.far (i:=5) I (.int .i64 y.kd)).far (i:=6) I (.string ⟨y.nm.toArray⟩)).far (i:=7) I (.float .f64 y.x)).far (i:=8) I (.slice T y.ks.length U)).far (i:=9) I (.complex .f64 y.z.1 y.z.2));clear d5 d6 d7 d8 d9 dz;refine A.out _ _ (.inl (by decide)) ?_
    (try dsimp only);try simp only[Act.put,aD,aB,aC,aA,aE,aF]
    refine EJ (rs:=[13]) (by kernel_rfl) rfl (CB.cons rfl (by rfl) (fun K A=>?_) CB.nil);have u0:=a.out.c 0 _ rfl;have u1:=a.out.c 1 _ rfl;have u2:=a.out.c 2 _ rfl;have u3:=a.out.c 3 _ rfl;have u4:=a.out.c 4 _ rfl;have u5:=a.out.c 5 _ rfl;have u6:=a.out.c 6 _ rfl;have u7:=a.out.c 7 _ rfl;have u8:=a.out.c 8 _ rfl;have H:=a.out.z
    try go_simp
    replace d:=aG (d.out.wide ((Ae.refl m _).set 2 (.slice (some ⟨g,0,none⟩) 2 F)) (a.out.pats (.slice (some ⟨g,0,none⟩) 2 F)));replace a:=aG (a.out.pats (.slice (some ⟨g,0,none⟩) 2 F))
    (try clear u0 u1 u2 u3 u4 u5 u6 u7 u8 H);(try clear Z v1 v2 v3 v4 v5 v6 v7 v8 vf)
    refine A.out _ _ (.inl (by decide)) ?_
    (try dsimp only);try simp only[Act.put,aD,aB,aC,aA,aE,aF]
    refine K2 (by kernel_rfl) ?_ _;go_wp2;go_meet;exact⟨y,g,F,p8,D,d,a⟩
   have u0:=a.out.c 0 _ rfl;have u1:=a.out.c 1 _ rfl;have u2:=a.out.c 2 _ rfl;have u3:=a.out.c 3 _ rfl;have u4:=a.out.c 4 _ rfl;have u5:=a.out.c 5 _ rfl;have u6:=a.out.c 6 _ rfl;have u7:=a.out.c 7 _ rfl;have u8:=a.out.c 8 _ rfl;have H:=a.out.z
   try go_simp
   replace d:=aG (d.out.wide ((Ae.refl m _).set 2 (.slice (some ⟨g,0,none⟩) 2 F)) (a.out.pats (.slice (some ⟨g,0,none⟩) 2 F)));replace HA:=aG ((HA.out.only ((Ae.refl m _).set 2 (.slice (some ⟨g,0,none⟩) 2 F)) (fun e=>e.1.2 _ (.head _) rfl)).mono (S':=fun j=>Av B (⟨m,.int .i64 7,.int .i64 0,.slice (some ⟨g,0,none⟩) 2 F,.int .i64 0,.string ⟨#[]⟩⟩::l) j/\j≠g) fun j _ e=>⟨⟨e.1.1,fun x hx=>by rcases List.mem_cons.1 hx with rfl | hx;exact e.1.2 ⟨m,.int .i64 7,.int .i64 0,.slice (some ⟨w1.heap.size,0,none⟩) 1 1,.int .i64 0,.string ⟨#[]⟩⟩ (.head _);exact e.1.2 _ (.tail _ hx)⟩,e.2⟩);replace a:=aG (a.out.pats (.slice (some ⟨g,0,none⟩) 2 F))
   (try clear u0 u1 u2 u3 u4 u5 u6 u7 u8 H);(try clear Z v1 v2 v3 v4 v5 v6 v7 v8 vf)
   refine A.out _ _ (.inl (by decide)) ?_
   (try dsimp only);try simp only[Act.put,aD,aB,aC,aA,aE,aF]
   refine EJ (rs:=[10]) (by kernel_rfl) rfl (CB.cons rfl (by rfl) (fun K A=>?_) CB.nil);obtain⟨⟨k8,d5,d6,d7,d8,d9⟩,dz⟩:=M0 d.out.ka
   try go_simp
   replace d:=aG (d.out.rowput HA.out);replace a:=aG (((((a.out.far (i:=5) I (.int .i64 y.kd)).far (i:=6) I (.string ⟨y.nm.toArray⟩)).far (i:=7) I (.float .f64 y.x)).far (i:=8) I (.slice T y.ks.length U)).far (i:=9) I (.complex .f64 y.z.1 y.z.2));clear d5 d6 d7 d8 d9 dz;refine A.out _ _ (.inl (by decide)) ?_
   (try dsimp only);try simp only[Act.put,aD,aB,aC,aA,aE,aF]
   refine K2 (by kernel_rfl) ?_ _;go_wp2;go_meet;exact⟨y,g,F,p8,D,d,a⟩
  try go_simp
  replace a:=aG (a.out.alloc (.cells #[.int .i64 0,.string ⟨#[]⟩,.float .f64 0,.slice none 0 0,.complex .f64 0 0] 34));replace d:=aG (d.out.box (.int .i64 0) (.string ⟨#[]⟩) (.float .f64 0) (.slice none 0 0) (.complex .f64 0 0) 34);refine A.out _ _ (.inr a.out) ?_
  (try dsimp only);try simp only[Act.put,aD,aB,aC,aA,aE,aF]
  refine EJ (rs:=[5]) (by kernel_rfl) rfl (CB.cons rfl (by rfl) (fun K A=>?_) CB.nil)
  try go_simp
  go_at_call 27
  refine(HE.out _ _ d.out.z (CA D hh)).mono ?_;intro e w8 ha;rcases ha.part D hh with⟨f,er,rfl,G,hr⟩ | ⟨_,p8,v,rfl,⟨⟨y,kv,rfl,rfl,hk⟩,hz⟩,G,E⟩
  ·exact⟨rfl,E4 hr (d.out.o.trans G)⟩
  replace D:=E;clear E ha
  (try dsimp only[hd1,aK,aH,aI,aJ] at D)
  obtain⟨T,U,rfl⟩:=hk.slice;have HA:=aG (d.out.drop.apart hk);replace a:=aG (a.out.only G c0);replace d:=aG (d.out.move hz G);clear hk hz G;unfold CJ;refine A.out _ _ (.inr a.out) ?_
  (try dsimp only);try simp only[Act.put,aD,aB,aC,aA,aE,aF]
  refine EJ (rs:=[8]) (by kernel_rfl) rfl (CB.cons rfl (by rfl) (fun K A=>?_) CB.nil);have HZ:=aG d.out.b0;obtain⟨L,hL,Y,a0,e0⟩:=d.out.drop.ka.owns B (fun j e=>e.1);have V:L.length=1:=by rw[<- List.length_map (f:=Prod.fst),hL];rfl
  have f0:=d.out.hB.2;refine wp_append_lies _ (.tmp 23) (.tmp 27) 31 rfl B 34 i0 _ 5 72 underlying31 g0 j0 k0 l0 rfl (by decide) _ 1 (Ah L) rfl (V▸Y) ⟨_,0,none⟩ 1 1 (Ah [(.mk 0 [] 0 (0,0) [],.slice none 0 0)]) rfl rfl (ZS HZ.out) (ZB _ _ _ _) (by decide) (by decide) (by decide) f0 _ rfl ?_;intro g F w9 o1 o2 o3 o4;have hF:=d.out.drop.append (t:=.mk 0 [] 0 (0,0) []) hL (fun g e=>⟨a0 g e,(Y.lt g e).2⟩) e0 (Am.nil _) (by rw[V];exact o1) o2 (by rcases o3 with e | e;exact .inl e.symm;exact .inr (by rw[e];rfl));replace HA:=aG (((HA.out.mono (S':=fun j=>(Av B (⟨m,_,_,_,_,_⟩::l) j/\j≠g)/\some j≠(Value.slice (some ⟨w1.heap.size,0,none⟩) 1 1).ownBlock) fun j hj e=>⟨⟨e.1,fun h=>by rcases o3 with e' | e';exact e.2 ((congrArg some h).trans e'.symm);omega⟩,e.2⟩).kept o2.size fun j hj hl=>o2.block j hl hj.2).mono fun j _ e=>e.1)
  replace a:=aG (a.out.kept (o2.block m a.out.l (by intro e;exact(a0 m e.symm).2 _ (.head _) rfl)) (Nat.lt_of_lt_of_le a.out.l o2.size));replace d:=aG hF;clear hF o1 o2 o3 o4 hL Y a0 e0 f0 HZ V;refine A.out _ _ (.inr a.out) ?_
  (try dsimp only);try simp only[Act.put,aD,aB,aC,aA,aE,aF]
  refine F4 (i:=9) (v:=.pointer (some ⟨g,5,none⟩)) rfl (by kernel_rfl) (fun _ _ _ h=>h) (Or.inl ⟨by rfl,fun w _=>by go_simp⟩) ?_
  (try dsimp only);try simp only[Act.put,aD,aB,aC,aA,aE,aF]
  refine F4 (i:=11) (v:=.pointer (some ⟨m,0,none⟩)) rfl (by kernel_rfl) (fun _ _ _ h=>h) (Or.inl ⟨by rfl,fun w _=>by go_simp⟩) ?_
  (try dsimp only);try simp only[Act.put,aD,aB,aC,aA,aE,aF]
  refine F4 (i:=12) (v:=.pointer (some ⟨m,2,none⟩)) rfl (by kernel_rfl) (fun _ _ _ h=>h) (Or.inl ⟨by rfl,fun w _=>by go_simp⟩) ?_
  (try dsimp only);try simp only[Act.put,aD,aB,aC,aA,aE,aF]
  have I:g≠m:=fun e=>by obtain⟨L,-,-,C,-⟩:=d.out.ka.owns B (fun j e=>e.1);exact(C g rfl).2 _ (.head _) e
  refine EJ (rs:=[10,13]) (by kernel_rfl) rfl (CB.cons rfl (by rfl) (fun K A=>?_) (CB.cons rfl (by rfl) (fun K A=>?_) CB.nil))
  ·obtain⟨⟨k8,d5,d6,d7,d8,d9⟩,dz⟩:=M0 d.out.ka
   try go_simp
   replace d:=aG (d.out.rowput HA.out);replace a:=aG (((((a.out.far (i:=5) I (.int .i64 y.kd)).far (i:=6) I (.string ⟨y.nm.toArray⟩)).far (i:=7) I (.float .f64 y.x)).far (i:=8) I (.slice T y.ks.length U)).far (i:=9) I (.complex .f64 y.z.1 y.z.2));clear d5 d6 d7 d8 d9 dz;refine A.out _ _ (.inl (by decide)) ?_
   (try dsimp only);try simp only[Act.put,aD,aB,aC,aA,aE,aF]
   refine EJ (rs:=[13]) (by kernel_rfl) rfl (CB.cons rfl (by rfl) (fun K A=>?_) CB.nil);have u0:=a.out.c 0 _ rfl;have u1:=a.out.c 1 _ rfl;have u2:=a.out.c 2 _ rfl;have u3:=a.out.c 3 _ rfl;have u4:=a.out.c 4 _ rfl;have u5:=a.out.c 5 _ rfl;have u6:=a.out.c 6 _ rfl;have u7:=a.out.c 7 _ rfl;have u8:=a.out.c 8 _ rfl;have H:=a.out.z
   try go_simp
   replace d:=aG (d.out.wide ((Ae.refl m _).set 2 (.slice (some ⟨g,0,none⟩) 2 F)) (a.out.pats (.slice (some ⟨g,0,none⟩) 2 F)));replace a:=aG (a.out.pats (.slice (some ⟨g,0,none⟩) 2 F))
   (try clear u0 u1 u2 u3 u4 u5 u6 u7 u8 H);(try clear Z v1 v2 v3 v4 v5 v6 v7 v8 vf)
   refine A.out _ _ (.inl (by decide)) ?_
   (try dsimp only);try simp only[Act.put,aD,aB,aC,aA,aE,aF]
   refine K2 (by kernel_rfl) ?_ _;go_wp2;go_meet;exact⟨y,g,F,p8,D,d,a⟩
  have u0:=a.out.c 0 _ rfl;have u1:=a.out.c 1 _ rfl;have u2:=a.out.c 2 _ rfl;have u3:=a.out.c 3 _ rfl;have u4:=a.out.c 4 _ rfl;have u5:=a.out.c 5 _ rfl;have u6:=a.out.c 6 _ rfl;have u7:=a.out.c 7 _ rfl;have u8:=a.out.c 8 _ rfl;have H:=a.out.z
  try go_simp
  replace d:=aG (d.out.wide ((Ae.refl m _).set 2 (.slice (some ⟨g,0,none⟩) 2 F)) (a.out.pats (.slice (some ⟨g,0,none⟩) 2 F)));replace HA:=aG ((HA.out.only ((Ae.refl m _).set 2 (.slice (some ⟨g,0,none⟩) 2 F)) (fun e=>e.1.2 _ (.head _) rfl)).mono (S':=fun j=>Av B (⟨m,.int .i64 7,.int .i64 0,.slice (some ⟨g,0,none⟩) 2 F,.int .i64 0,.string ⟨#[]⟩⟩::l) j/\j≠g) fun j _ e=>⟨⟨e.1.1,fun x hx=>by rcases List.mem_cons.1 hx with rfl | hx;exact e.1.2 ⟨m,.int .i64 7,.int .i64 0,.slice (some ⟨w1.heap.size,0,none⟩) 1 1,.int .i64 0,.string ⟨#[]⟩⟩ (.head _);exact e.1.2 _ (.tail _ hx)⟩,e.2⟩);replace a:=aG (a.out.pats (.slice (some ⟨g,0,none⟩) 2 F))
  (try clear u0 u1 u2 u3 u4 u5 u6 u7 u8 H);(try clear Z v1 v2 v3 v4 v5 v6 v7 v8 vf)
  refine A.out _ _ (.inl (by decide)) ?_
  (try dsimp only);try simp only[Act.put,aD,aB,aC,aA,aE,aF]
  refine EJ (rs:=[10]) (by kernel_rfl) rfl (CB.cons rfl (by rfl) (fun K A=>?_) CB.nil);obtain⟨⟨k8,d5,d6,d7,d8,d9⟩,dz⟩:=M0 d.out.ka
  try go_simp
  replace d:=aG (d.out.rowput HA.out);replace a:=aG (((((a.out.far (i:=5) I (.int .i64 y.kd)).far (i:=6) I (.string ⟨y.nm.toArray⟩)).far (i:=7) I (.float .f64 y.x)).far (i:=8) I (.slice T y.ks.length U)).far (i:=9) I (.complex .f64 y.z.1 y.z.2));clear d5 d6 d7 d8 d9 dz;refine A.out _ _ (.inl (by decide)) ?_
  (try dsimp only);try simp only[Act.put,aD,aB,aC,aA,aE,aF]
  refine K2 (by kernel_rfl) ?_ _;go_wp2;go_meet;exact⟨y,g,F,p8,D,d,a⟩
 clear d D a;obtain⟨y,g,F,p8,D,d,a⟩:=hcut;replace D:=ZU D;have u0:=a.out.c 0 _ rfl;have u1:=a.out.c 1 _ rfl;have u2:=a.out.c 2 _ rfl;have u3:=a.out.c 3 _ rfl;have u4:=a.out.c 4 _ rfl;have u5:=a.out.c 5 _ rfl;have u6:=a.out.c 6 _ rfl;have u7:=a.out.c 7 _ rfl;have u8:=a.out.c 8 _ rfl;have H:=a.out.z
 go_wp2_with (first | (go_at_call 15;(with_reducible refine(DS HN.out d.out.z false).mono ?_);intro e w6 ha;rcases ha.part D hh with⟨f,er,rfl,G,hr⟩ | ⟨R,p6,v,rfl,⟨rfl,rfl,h0,et,m0,S⟩,G,E⟩;exact⟨rfl,E4 hr (d.out.o.trans G)⟩;replace D:=E;clear E ha;(try dsimp only[hd1,aK,aH,aI,aJ] at D);replace d:=aG ((d.out.quiet S).box (.int .i64 R.kd) (.string ⟨R.tx.toArray⟩) (.float .f64 R.nm) (.int .i64 R.f) (.int .i64 R.t) 49);replace a:=aG ((a.out.quiet S).alloc (.cells #[.int .i64 R.kd,.string ⟨R.tx.toArray⟩,.float .f64 R.nm,.int .i64 R.f,.int .i64 R.t] 49));clear h0 et S G;(try clear u0 u1 u2 u3 u4 u5 u6 u7 u8 H);(try clear Z v1 v2 v3 v4 v5 v6 v7 v8 vf);have u0:=a.out.c 0 _ rfl;have u1:=a.out.c 1 _ rfl;have u2:=a.out.c 2 _ rfl;have u3:=a.out.c 3 _ rfl;have u4:=a.out.c 4 _ rfl;have u5:=a.out.c 5 _ rfl;have u6:=a.out.c 6 _ rfl;have u7:=a.out.c 7 _ rfl;have u8:=a.out.c 8 _ rfl;have H:=a.out.z;obtain⟨J,M,N,O,P,Q⟩:=d.out.b0;unfold G1;rcases Aam R with⟨h1,b1⟩ | ⟨h1,h0,b1,b0⟩ | ⟨h1,h0,b1,b0⟩<;>(simp only[h1,ne_eq,not_true_eq_false,not_false_eq_true,false_and,true_and,if_false,reduceIte] at D;(try (simp only[h0,not_true_eq_false,not_false_eq_true,false_and,true_and,if_false,reduceIte] at D;clear h0));clear h1)) | (go_at_call 12;(with_reducible refine(EE R [123] _).mono ?_);rintro e w7 ⟨rfl,S⟩;replace d:=aG (d.out.quiet S);replace a:=aG (a.out.quiet S);clear S;cases hs:EP R [123]<;>(simp only[hs,if_true,if_false,aL,reduceIte,and_true,true_and,and_false,false_and] at D;clear hs);all_goals ((try clear J M N O P Q);(try clear m10 m11 m12 m13 m14 m1f);(try clear m20 m21 m22 m23 m24 m2f);(try clear m30 m31 m32 m33 m34 m3f);(try clear u0 u1 u2 u3 u4 u5 u6 u7 u8 H);(try clear Z v1 v2 v3 v4 v5 v6 v7 v8 vf);have u0:=a.out.c 0 _ rfl;have u1:=a.out.c 1 _ rfl;have u2:=a.out.c 2 _ rfl;have u3:=a.out.c 3 _ rfl;have u4:=a.out.c 4 _ rfl;have u5:=a.out.c 5 _ rfl;have u6:=a.out.c 6 _ rfl;have u7:=a.out.c 7 _ rfl;have u8:=a.out.c 8 _ rfl;have H:=a.out.z;obtain⟨J,M,N,O,P,Q⟩:=d.out.b0)) | (go_at_call 12;(with_reducible refine(EE R [59] _).mono ?_);rintro e w9 ⟨rfl,S⟩;replace d:=aG (d.out.quiet S);replace a:=aG (a.out.quiet S);clear S;cases hs:EP R [59]<;>(simp only[hs,if_true,if_false,aL,reduceIte,and_true,true_and,and_false,false_and] at D;clear hs);all_goals ((try clear J M N O P Q);(try clear m10 m11 m12 m13 m14 m1f);(try clear m20 m21 m22 m23 m24 m2f);(try clear m30 m31 m32 m33 m34 m3f);(try clear u0 u1 u2 u3 u4 u5 u6 u7 u8 H);(try clear Z v1 v2 v3 v4 v5 v6 v7 v8 vf);have u0:=a.out.c 0 _ rfl;have u1:=a.out.c 1 _ rfl;have u2:=a.out.c 2 _ rfl;have u3:=a.out.c 3 _ rfl;have u4:=a.out.c 4 _ rfl;have u5:=a.out.c 5 _ rfl;have u6:=a.out.c 6 _ rfl;have u7:=a.out.c 7 _ rfl;have u8:=a.out.c 8 _ rfl;have H:=a.out.z;obtain⟨J,M,N,O,P,Q⟩:=d.out.b0)) | (go_at_call 22;(with_reducible refine(HB.out _ _ d.out.z (CA D hh)).mono ?_);intro e w8 ha;rcases ha.part D hh with⟨f,er,rfl,G,hr⟩ | ⟨_,p8,v,rfl,⟨⟨y,kv,rfl,rfl,hk⟩,hz⟩,G,E⟩;exact⟨rfl,E4 hr (d.out.o.trans G)⟩;replace D:=E;clear E ha;(try dsimp only[hd1,aK,aH,aI,aJ] at D);obtain⟨T,U,rfl⟩:=hk.slice;replace a:=aG (a.out.only G c0);replace d:=aG (d.out.read hk hz G);clear hk hz G;(try clear J M N O P Q);(try clear m10 m11 m12 m13 m14 m1f);(try clear m20 m21 m22 m23 m24 m2f);(try clear m30 m31 m32 m33 m34 m3f);(try clear u0 u1 u2 u3 u4 u5 u6 u7 u8 H);(try clear Z v1 v2 v3 v4 v5 v6 v7 v8 vf);have u0:=a.out.c 0 _ rfl;have u1:=a.out.c 1 _ rfl;have u2:=a.out.c 2 _ rfl;have u3:=a.out.c 3 _ rfl;have u4:=a.out.c 4 _ rfl;have u5:=a.out.c 5 _ rfl;have u6:=a.out.c 6 _ rfl;have u7:=a.out.c 7 _ rfl;have u8:=a.out.c 8 _ rfl;have H:=a.out.z;unfold CJ) | (go_at_call 17;(with_reducible refine(E3 d.out.z R).mono ?_);rintro e n0 ⟨rfl,S⟩;exact⟨rfl,E4 (aG D.out.symm) (d.out.o.trans S)⟩))
 ·(try clear J M N O P Q);(try clear m10 m11 m12 m13 m14 m1f);(try clear m20 m21 m22 m23 m24 m2f);(try clear m30 m31 m32 m33 m34 m3f)
  (try clear u0 u1 u2 u3 u4 u5 u6 u7 u8 H);(try clear Z v1 v2 v3 v4 v5 v6 v7 v8 vf)
  refine E1 (fun o=>CN o m [.int .i64 7,.int .i64 0,.slice (some ⟨g,0,none⟩) 2 F,.int .i64 0,.string ⟨#[]⟩,.float .f64 0,.slice none 0 0,.complex .f64 0 0,.complex .f64 z.1 z.2]) 14 (by kernel_rfl) ?_;have k:=a.out.drew;refine BT (i:=0) (v:=.pointer (some ⟨m,0,none⟩)) rfl (by kernel_rfl) (fun _ _ _ h=>h) (Or.inl ⟨by rfl,fun w C=>by go_simp⟩) k ?_
  (try dsimp only);try simp only[Act.put,aD,aB,aC,aA,aE,aF]
  refine BT (i:=1) (v:=.pointer (some ⟨m,0,none⟩)) rfl (by kernel_rfl) (fun _ _ _ h=>h) (Or.inl ⟨by rfl,fun w C=>by go_simp⟩) k ?_
  (try dsimp only);try simp only[Act.put,aD,aB,aC,aA,aE,aF]
  refine BT (i:=2) (v:=.pointer (some ⟨m,0,none⟩)) rfl (by kernel_rfl) (fun _ _ _ h=>h) (Or.inl ⟨by rfl,fun w C=>by go_simp⟩) k ?_
  (try dsimp only);try simp only[Act.put,aD,aB,aC,aA,aE,aF]
  refine BT (i:=3) (v:=.pointer (some ⟨m,8,none⟩)) rfl (by kernel_rfl) (fun _ _ _ h=>h) (Or.inl ⟨by rfl,fun w C=>by go_simp⟩) k ?_
  (try dsimp only);try simp only[Act.put,aD,aB,aC,aA,aE,aF]
  refine BT (i:=4) (v:=.complex .f64 z.1 z.2) rfl (by kernel_rfl) (fun _ _ _ h=>h) (Or.inl ⟨by rfl,fun w C=>by have s8:=C.c 8 _ rfl;go_simp⟩) k ?_
  (try dsimp only);try simp only[Act.put,aD,aB,aC,aA,aE,aF]
  refine BT (i:=5) (v:=.pointer (some ⟨m,0,none⟩)) rfl (by kernel_rfl) (fun _ _ _ h=>h) (Or.inl ⟨by rfl,fun w C=>by go_simp⟩) k ?_
  (try dsimp only);try simp only[Act.put,aD,aB,aC,aA,aE,aF]
  refine BT (i:=6) (v:=.pointer (some ⟨m,0,none⟩)) rfl (by kernel_rfl) (fun _ _ _ h=>h) (Or.inl ⟨by rfl,fun w C=>by go_simp⟩) k ?_
  (try dsimp only);try simp only[Act.put,aD,aB,aC,aA,aE,aF]
  refine BT (i:=7) (v:=.pointer (some ⟨m,8,none⟩)) rfl (by kernel_rfl) (fun _ _ _ h=>h) (Or.inl ⟨by rfl,fun w C=>by go_simp⟩) k ?_
  (try dsimp only);try simp only[Act.put,aD,aB,aC,aA,aE,aF]
  refine BT (i:=8) (v:=.complex .f64 z.1 z.2) rfl (by kernel_rfl) (fun _ _ _ h=>h) (Or.inl ⟨by rfl,fun w C=>by have s8:=C.c 8 _ rfl;go_simp⟩) k ?_
  (try dsimp only);try simp only[Act.put,aD,aB,aC,aA,aE,aF]
  refine BT (i:=9) (v:=(.agg #[.int .i64 42,.string ⟨#[]⟩,.float .f64 0,.slice none 0 0,.complex .f64 z.1 z.2])) rfl (by kernel_rfl) (fun _ _ _ h=>h) (Or.inl ⟨by rfl,fun w C=>by go_simp⟩) k ?_
  (try dsimp only);try simp only[Act.put,aD,aB,aC,aA,aE,aF]
  replace d:=aG d.out.drew;replace a:=aG k;clear k
  revert d a
  generalize aM _=X;intro d a;refine BW (rs:=[10]) (by kernel_rfl) rfl (BS.cons rfl (by rfl) (fun K A=>?_) BS.nil)
  try go_simp
  replace d:=aG (Fx.kid1 (u:=.mk 42 [] 0 z []) (kv:=.slice none 0 0) d.out.nilrow);replace a:=aG (a.out.alloc (.cells #[.int .i64 42,.string ⟨#[]⟩,.float .f64 0,.slice none 0 0,.complex .f64 z.1 z.2] 34));refine A.out _ _ (.inr a.out) ?_
  (try dsimp only);try simp only[Act.put,aD,aB,aC,aA,aE,aF]
  refine BW (rs:=[11]) (by kernel_rfl) rfl (BS.cons rfl (by rfl) (fun K A=>?_) BS.nil)
  try go_simp
  refine A.out _ _ (.inr a.out) ?_
  (try dsimp only);try simp only[Act.put,aD,aB,aC,aA,aE,aF]
  refine BW (rs:=[12]) (by kernel_rfl) rfl (BS.cons rfl (by rfl) (fun K A=>?_) BS.nil)
  try go_simp
  refine A.out _ _ (.inr a.out) ?_
  (try dsimp only);try simp only[Act.put,aD,aB,aC,aA,aE,aF]
  refine BW (rs:=[13]) (by kernel_rfl) rfl (BS.cons rfl (by rfl) (fun K A=>?_) BS.nil)
  try go_simp
  refine A.out _ _ (.inr a.out) ?_
  (try dsimp only);try simp only[Act.put,aD,aB,aC,aA,aE,aF]
  have u0:=a.out.c 0 _ rfl;have u1:=a.out.c 1 _ rfl;have u2:=a.out.c 2 _ rfl;have u3:=a.out.c 3 _ rfl;have u4:=a.out.c 4 _ rfl;have u5:=a.out.c 5 _ rfl;have u6:=a.out.c 6 _ rfl;have u7:=a.out.c 7 _ rfl;have u8:=a.out.c 8 _ rfl;have H:=a.out.z;refine BW (rs:=[14]) (by kernel_rfl) rfl (BS.cons rfl (by rfl) (fun K A=>?_) BS.nil)
  try go_simp
  refine A.out _ _ (.inl rfl) ?_
  (try dsimp only);try simp only[Act.put,aD,aB,aC,aA,aE,aF]
  refine Aal (by kernel_rfl) ?_ _;replace d:=aG (d.out.wide1 (EZ _ m (.int .i64 30) (.string ⟨#[]⟩) (.float .f64 0) (.slice (some ⟨X.heap.size,0,none⟩) 1 1) (.complex .f64 z.1 z.2)) (a.out.body (.int .i64 30) (.string ⟨#[]⟩) (.float .f64 0) (.slice (some ⟨X.heap.size,0,none⟩) 1 1) (.complex .f64 z.1 z.2)));replace a:=aG (a.out.body (.int .i64 30) (.string ⟨#[]⟩) (.float .f64 0) (.slice (some ⟨X.heap.size,0,none⟩) 1 1) (.complex .f64 z.1 z.2));go_wp2;exact bodyPost_ret (results_none rfl _ _ _) rfl (Hg D ⟨_,_,(d.out.rows2 (.tail _ (.tail _ (.head _))) (.head _)).drop,a.out⟩)
 ·replace d:=aG (d.out.wide1 (EZ _ m (.int .i64 y.kd) (.string ⟨y.nm.toArray⟩) (.float .f64 y.x) (.slice T y.ks.length U) (.complex .f64 y.z.1 y.z.2)) (a.out.body (.int .i64 y.kd) (.string ⟨y.nm.toArray⟩) (.float .f64 y.x) (.slice T y.ks.length U) (.complex .f64 y.z.1 y.z.2)))
  replace a:=aG (a.out.body (.int .i64 y.kd) (.string ⟨y.nm.toArray⟩) (.float .f64 y.x) (.slice T y.ks.length U) (.complex .f64 y.z.1 y.z.2));exact bodyPost_ret (results_none rfl _ _ _) rfl (Hg D ⟨_,_,(d.out.rows2 (.tail _ (.head _)) (.head _)).drop,a.out⟩)
 ·(try clear J M N O P Q);(try clear m10 m11 m12 m13 m14 m1f);(try clear m20 m21 m22 m23 m24 m2f);(try clear m30 m31 m32 m33 m34 m3f)
  (try clear u0 u1 u2 u3 u4 u5 u6 u7 u8 H);(try clear Z v1 v2 v3 v4 v5 v6 v7 v8 vf)
  refine E1 (fun o=>CN o m [.int .i64 7,.int .i64 0,.slice (some ⟨g,0,none⟩) 2 F,.int .i64 0,.string ⟨#[]⟩,.float .f64 0,.slice none 0 0,.complex .f64 0 0,.complex .f64 z.1 z.2]) 14 (by kernel_rfl) ?_;have k:=a.out.drew;refine BT (i:=0) (v:=.pointer (some ⟨m,0,none⟩)) rfl (by kernel_rfl) (fun _ _ _ h=>h) (Or.inl ⟨by rfl,fun w C=>by go_simp⟩) k ?_
  (try dsimp only);try simp only[Act.put,aD,aB,aC,aA,aE,aF]
  refine BT (i:=1) (v:=.pointer (some ⟨m,0,none⟩)) rfl (by kernel_rfl) (fun _ _ _ h=>h) (Or.inl ⟨by rfl,fun w C=>by go_simp⟩) k ?_
  (try dsimp only);try simp only[Act.put,aD,aB,aC,aA,aE,aF]
  refine BT (i:=2) (v:=.pointer (some ⟨m,0,none⟩)) rfl (by kernel_rfl) (fun _ _ _ h=>h) (Or.inl ⟨by rfl,fun w C=>by go_simp⟩) k ?_
  (try dsimp only);try simp only[Act.put,aD,aB,aC,aA,aE,aF]
  refine BT (i:=3) (v:=.pointer (some ⟨m,8,none⟩)) rfl (by kernel_rfl) (fun _ _ _ h=>h) (Or.inl ⟨by rfl,fun w C=>by go_simp⟩) k ?_
  (try dsimp only);try simp only[Act.put,aD,aB,aC,aA,aE,aF]
  refine BT (i:=4) (v:=.complex .f64 z.1 z.2) rfl (by kernel_rfl) (fun _ _ _ h=>h) (Or.inl ⟨by rfl,fun w C=>by have s8:=C.c 8 _ rfl;go_simp⟩) k ?_
  (try dsimp only);try simp only[Act.put,aD,aB,aC,aA,aE,aF]
  refine BT (i:=5) (v:=.pointer (some ⟨m,0,none⟩)) rfl (by kernel_rfl) (fun _ _ _ h=>h) (Or.inl ⟨by rfl,fun w C=>by go_simp⟩) k ?_
  (try dsimp only);try simp only[Act.put,aD,aB,aC,aA,aE,aF]
  refine BT (i:=6) (v:=.pointer (some ⟨m,0,none⟩)) rfl (by kernel_rfl) (fun _ _ _ h=>h) (Or.inl ⟨by rfl,fun w C=>by go_simp⟩) k ?_
  (try dsimp only);try simp only[Act.put,aD,aB,aC,aA,aE,aF]
  refine BT (i:=7) (v:=.pointer (some ⟨m,8,none⟩)) rfl (by kernel_rfl) (fun _ _ _ h=>h) (Or.inl ⟨by rfl,fun w C=>by go_simp⟩) k ?_
  (try dsimp only);try simp only[Act.put,aD,aB,aC,aA,aE,aF]
  refine BT (i:=8) (v:=.complex .f64 z.1 z.2) rfl (by kernel_rfl) (fun _ _ _ h=>h) (Or.inl ⟨by rfl,fun w C=>by have s8:=C.c 8 _ rfl;go_simp⟩) k ?_
  (try dsimp only);try simp only[Act.put,aD,aB,aC,aA,aE,aF]
  refine BT (i:=9) (v:=(.agg #[.int .i64 42,.string ⟨#[]⟩,.float .f64 0,.slice none 0 0,.complex .f64 z.1 z.2])) rfl (by kernel_rfl) (fun _ _ _ h=>h) (Or.inl ⟨by rfl,fun w C=>by go_simp⟩) k ?_
  (try dsimp only);try simp only[Act.put,aD,aB,aC,aA,aE,aF]
  replace d:=aG d.out.drew;replace a:=aG k;clear k
  revert d a
  generalize aM _=X;intro d a;refine BW (rs:=[10]) (by kernel_rfl) rfl (BS.cons rfl (by rfl) (fun K A=>?_) BS.nil)
  try go_simp
  replace d:=aG (Fx.kid1 (u:=.mk 42 [] 0 z []) (kv:=.slice none 0 0) d.out.nilrow);replace a:=aG (a.out.alloc (.cells #[.int .i64 42,.string ⟨#[]⟩,.float .f64 0,.slice none 0 0,.complex .f64 z.1 z.2] 34));refine A.out _ _ (.inr a.out) ?_
  (try dsimp only);try simp only[Act.put,aD,aB,aC,aA,aE,aF]
  refine BW (rs:=[11]) (by kernel_rfl) rfl (BS.cons rfl (by rfl) (fun K A=>?_) BS.nil)
  try go_simp
  refine A.out _ _ (.inr a.out) ?_
  (try dsimp only);try simp only[Act.put,aD,aB,aC,aA,aE,aF]
  refine BW (rs:=[12]) (by kernel_rfl) rfl (BS.cons rfl (by rfl) (fun K A=>?_) BS.nil)
  try go_simp
  refine A.out _ _ (.inr a.out) ?_
  (try dsimp only);try simp only[Act.put,aD,aB,aC,aA,aE,aF]
  refine BW (rs:=[13]) (by kernel_rfl) rfl (BS.cons rfl (by rfl) (fun K A=>?_) BS.nil)
  try go_simp
  refine A.out _ _ (.inr a.out) ?_
  (try dsimp only);try simp only[Act.put,aD,aB,aC,aA,aE,aF]
  have u0:=a.out.c 0 _ rfl;have u1:=a.out.c 1 _ rfl;have u2:=a.out.c 2 _ rfl;have u3:=a.out.c 3 _ rfl;have u4:=a.out.c 4 _ rfl;have u5:=a.out.c 5 _ rfl;have u6:=a.out.c 6 _ rfl;have u7:=a.out.c 7 _ rfl;have u8:=a.out.c 8 _ rfl;have H:=a.out.z;refine BW (rs:=[14]) (by kernel_rfl) rfl (BS.cons rfl (by rfl) (fun K A=>?_) BS.nil)
  try go_simp
  refine A.out _ _ (.inl rfl) ?_
  (try dsimp only);try simp only[Act.put,aD,aB,aC,aA,aE,aF]
  refine Aal (by kernel_rfl) ?_ _;replace d:=aG (d.out.wide1 (EZ _ m (.int .i64 30) (.string ⟨#[]⟩) (.float .f64 0) (.slice (some ⟨X.heap.size,0,none⟩) 1 1) (.complex .f64 z.1 z.2)) (a.out.body (.int .i64 30) (.string ⟨#[]⟩) (.float .f64 0) (.slice (some ⟨X.heap.size,0,none⟩) 1 1) (.complex .f64 z.1 z.2)));replace a:=aG (a.out.body (.int .i64 30) (.string ⟨#[]⟩) (.float .f64 0) (.slice (some ⟨X.heap.size,0,none⟩) 1 1) (.complex .f64 z.1 z.2));go_wp2;exact bodyPost_ret (results_none rfl _ _ _) rfl (Hg D ⟨_,_,(d.out.rows2 (.tail _ (.tail _ (.head _))) (.head _)).drop,a.out⟩)
 ·replace d:=aG (d.out.wide1 (EZ _ m (.int .i64 y.kd) (.string ⟨y.nm.toArray⟩) (.float .f64 y.x) (.slice T y.ks.length U) (.complex .f64 y.z.1 y.z.2)) (a.out.body (.int .i64 y.kd) (.string ⟨y.nm.toArray⟩) (.float .f64 y.x) (.slice T y.ks.length U) (.complex .f64 y.z.1 y.z.2)))
  replace a:=aG (a.out.body (.int .i64 y.kd) (.string ⟨y.nm.toArray⟩) (.float .f64 y.x) (.slice T y.ks.length U) (.complex .f64 y.z.1 y.z.2));exact bodyPost_ret (results_none rfl _ _ _) rfl (Hg D ⟨_,_,(d.out.rows2 (.tail _ (.head _)) (.head _)).drop,a.out⟩)
 ·replace D:=XY (by decide) D
  (try clear J M N O P Q);(try clear m10 m11 m12 m13 m14 m1f);(try clear m20 m21 m22 m23 m24 m2f);(try clear m30 m31 m32 m33 m34 m3f)
  (try clear u0 u1 u2 u3 u4 u5 u6 u7 u8 H);(try clear Z v1 v2 v3 v4 v5 v6 v7 v8 vf)
  refine E1 (fun o=>CN o m [.int .i64 7,.int .i64 0,.slice (some ⟨g,0,none⟩) 2 F,.int .i64 0,.string ⟨#[]⟩,.float .f64 0,.slice none 0 0,.complex .f64 0 0,.complex .f64 z.1 z.2]) 14 (by kernel_rfl) ?_;have k:=a.out.drew;refine BT (i:=0) (v:=.pointer (some ⟨m,0,none⟩)) rfl (by kernel_rfl) (fun _ _ _ h=>h) (Or.inl ⟨by rfl,fun w C=>by go_simp⟩) k ?_
  (try dsimp only);try simp only[Act.put,aD,aB,aC,aA,aE,aF]
  refine BT (i:=1) (v:=.pointer (some ⟨m,0,none⟩)) rfl (by kernel_rfl) (fun _ _ _ h=>h) (Or.inl ⟨by rfl,fun w C=>by go_simp⟩) k ?_
  (try dsimp only);try simp only[Act.put,aD,aB,aC,aA,aE,aF]
  refine BT (i:=2) (v:=.pointer (some ⟨m,0,none⟩)) rfl (by kernel_rfl) (fun _ _ _ h=>h) (Or.inl ⟨by rfl,fun w C=>by go_simp⟩) k ?_
  (try dsimp only);try simp only[Act.put,aD,aB,aC,aA,aE,aF]
  refine BT (i:=3) (v:=.pointer (some ⟨m,8,none⟩)) rfl (by kernel_rfl) (fun _ _ _ h=>h) (Or.inl ⟨by rfl,fun w C=>by go_simp⟩) k ?_
  (try dsimp only);try simp only[Act.put,aD,aB,aC,aA,aE,aF]
  refine BT (i:=4) (v:=.complex .f64 z.1 z.2) rfl (by kernel_rfl) (fun _ _ _ h=>h) (Or.inl ⟨by rfl,fun w C=>by have s8:=C.c 8 _ rfl;go_simp⟩) k ?_
  (try dsimp only);try simp only[Act.put,aD,aB,aC,aA,aE,aF]
  refine BT (i:=5) (v:=.pointer (some ⟨m,0,none⟩)) rfl (by kernel_rfl) (fun _ _ _ h=>h) (Or.inl ⟨by rfl,fun w C=>by go_simp⟩) k ?_
  (try dsimp only);try simp only[Act.put,aD,aB,aC,aA,aE,aF]
  refine BT (i:=6) (v:=.pointer (some ⟨m,0,none⟩)) rfl (by kernel_rfl) (fun _ _ _ h=>h) (Or.inl ⟨by rfl,fun w C=>by go_simp⟩) k ?_
  (try dsimp only);try simp only[Act.put,aD,aB,aC,aA,aE,aF]
  refine BT (i:=7) (v:=.pointer (some ⟨m,8,none⟩)) rfl (by kernel_rfl) (fun _ _ _ h=>h) (Or.inl ⟨by rfl,fun w C=>by go_simp⟩) k ?_
  (try dsimp only);try simp only[Act.put,aD,aB,aC,aA,aE,aF]
  refine BT (i:=8) (v:=.complex .f64 z.1 z.2) rfl (by kernel_rfl) (fun _ _ _ h=>h) (Or.inl ⟨by rfl,fun w C=>by have s8:=C.c 8 _ rfl;go_simp⟩) k ?_
  (try dsimp only);try simp only[Act.put,aD,aB,aC,aA,aE,aF]
  refine BT (i:=9) (v:=(.agg #[.int .i64 42,.string ⟨#[]⟩,.float .f64 0,.slice none 0 0,.complex .f64 z.1 z.2])) rfl (by kernel_rfl) (fun _ _ _ h=>h) (Or.inl ⟨by rfl,fun w C=>by go_simp⟩) k ?_
  (try dsimp only);try simp only[Act.put,aD,aB,aC,aA,aE,aF]
  replace d:=aG d.out.drew;replace a:=aG k;clear k
  revert d a
  generalize aM _=X;intro d a;refine BW (rs:=[10]) (by kernel_rfl) rfl (BS.cons rfl (by rfl) (fun K A=>?_) BS.nil)
  try go_simp
  replace d:=aG (Fx.kid1 (u:=.mk 42 [] 0 z []) (kv:=.slice none 0 0) d.out.nilrow);replace a:=aG (a.out.alloc (.cells #[.int .i64 42,.string ⟨#[]⟩,.float .f64 0,.slice none 0 0,.complex .f64 z.1 z.2] 34));refine A.out _ _ (.inr a.out) ?_
  (try dsimp only);try simp only[Act.put,aD,aB,aC,aA,aE,aF]
  refine BW (rs:=[11]) (by kernel_rfl) rfl (BS.cons rfl (by rfl) (fun K A=>?_) BS.nil)
  try go_simp
  refine A.out _ _ (.inr a.out) ?_
  (try dsimp only);try simp only[Act.put,aD,aB,aC,aA,aE,aF]
  refine BW (rs:=[12]) (by kernel_rfl) rfl (BS.cons rfl (by rfl) (fun K A=>?_) BS.nil)
  try go_simp
  refine A.out _ _ (.inr a.out) ?_
  (try dsimp only);try simp only[Act.put,aD,aB,aC,aA,aE,aF]
  refine BW (rs:=[13]) (by kernel_rfl) rfl (BS.cons rfl (by rfl) (fun K A=>?_) BS.nil)
  try go_simp
  refine A.out _ _ (.inr a.out) ?_
  (try dsimp only);try simp only[Act.put,aD,aB,aC,aA,aE,aF]
  have u0:=a.out.c 0 _ rfl;have u1:=a.out.c 1 _ rfl;have u2:=a.out.c 2 _ rfl;have u3:=a.out.c 3 _ rfl;have u4:=a.out.c 4 _ rfl;have u5:=a.out.c 5 _ rfl;have u6:=a.out.c 6 _ rfl;have u7:=a.out.c 7 _ rfl;have u8:=a.out.c 8 _ rfl;have H:=a.out.z;refine BW (rs:=[14]) (by kernel_rfl) rfl (BS.cons rfl (by rfl) (fun K A=>?_) BS.nil)
  try go_simp
  refine A.out _ _ (.inl rfl) ?_
  (try dsimp only);try simp only[Act.put,aD,aB,aC,aA,aE,aF]
  refine Aal (by kernel_rfl) ?_ _;replace d:=aG (d.out.wide1 (EZ _ m (.int .i64 30) (.string ⟨#[]⟩) (.float .f64 0) (.slice (some ⟨X.heap.size,0,none⟩) 1 1) (.complex .f64 z.1 z.2)) (a.out.body (.int .i64 30) (.string ⟨#[]⟩) (.float .f64 0) (.slice (some ⟨X.heap.size,0,none⟩) 1 1) (.complex .f64 z.1 z.2)));replace a:=aG (a.out.body (.int .i64 30) (.string ⟨#[]⟩) (.float .f64 0) (.slice (some ⟨X.heap.size,0,none⟩) 1 1) (.complex .f64 z.1 z.2));go_wp2;exact bodyPost_ret (results_none rfl _ _ _) rfl (Hg D ⟨_,_,(d.out.rows2 (.tail _ (.tail _ (.head _))) (.head _)).drop,a.out⟩)
 replace d:=aG (d.out.wide1 (EZ _ m (.int .i64 y.kd) (.string ⟨y.nm.toArray⟩) (.float .f64 y.x) (.slice T y.ks.length U) (.complex .f64 y.z.1 y.z.2)) (a.out.body (.int .i64 y.kd) (.string ⟨y.nm.toArray⟩) (.float .f64 y.x) (.slice T y.ks.length U) (.complex .f64 y.z.1 y.z.2)));replace a:=aG (a.out.body (.int .i64 y.kd) (.string ⟨y.nm.toArray⟩) (.float .f64 y.x) (.slice T y.ks.length U) (.complex .f64 y.z.1 y.z.2));exact bodyPost_ret (results_none rfl _ _ _) rfl (Hg D ⟨_,_,(d.out.rows2 (.tail _ (.head _)) (.head _)).drop,a.out⟩)
end Go.Proofs.YtjolfpcpcaocmaaGreatDoor
