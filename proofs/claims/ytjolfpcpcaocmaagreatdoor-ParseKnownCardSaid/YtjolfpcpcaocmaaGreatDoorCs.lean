/- Cs Ct -/
import Derived.Test.YtjolfpcpcaocmaaGreatDoorCo
set_option maxRecDepth 100000
set_option maxHeartbeats 4000000
open List renaming setIfInBounds_toArray->aA,getElem_cons_zero->aB,getElem_cons_succ->aC,getElem_toArray->aE,set_cons_zero->aF,set_cons_succ->aG,singleton_append->aH,length_singleton->aI,length_append->aK,cons_append->aL
open Go.Lib renaming hid->aD
namespace Go.Proofs.YtjolfpcpcaocmaaGreatDoor
open Go.Proofs.Tryz
open Go.RowKit
theorem stC (t:Tk):(t.kd=8/\(t.tx=[105,102]\/t.tx=[119,104,105,108,101]\/t.tx=[100,111]\/t.tx=[102,111,114]))\/(¬ (t.kd=8/\(t.tx=[105,102]\/t.tx=[119,104,105,108,101]\/t.tx=[100,111]\/t.tx=[102,111,114]))/\(t.kd==8)=false)\/(¬ (t.kd=8/\(t.tx=[105,102]\/t.tx=[119,104,105,108,101]\/t.tx=[100,111]\/t.tx=[102,111,114]))/\(t.kd==8)=true/\(t.tx==[105,102])=false/\(t.tx==[119,104,105,108,101])=false/\(t.tx==[100,111])=false/\(t.tx==[102,111,114])=false):=by
 rcases Xt t.kd 8 with⟨b,c,-⟩ | ⟨b,c,-⟩
 rotate_left
 ·exact .inr (.inl ⟨fun e=>b e.1,c⟩)
 rcases J0 t.tx [105,102] with⟨a,-⟩ | ⟨d,i⟩
 ·exact .inl ⟨b,by simp[a]⟩
 rcases J0 t.tx [119,104,105,108,101] with⟨a,-⟩ | ⟨f,j⟩
 ·exact .inl ⟨b,by simp[a]⟩
 rcases J0 t.tx [100,111] with⟨a,-⟩ | ⟨g,k⟩
 ·exact .inl ⟨b,by simp[a]⟩
 rcases J0 t.tx [102,111,114] with⟨a,-⟩ | ⟨h,l⟩
 ·exact .inl ⟨b,by simp[a]⟩
 exact .inr (.inr ⟨fun e=>by have e:=e.2;simp[d,f,g,h] at e,c,i,j,k,l⟩)
set_option linter.unusedSimpArgs false in
theorem QB {nx:Nat->Bool->Tk} {pl:Nat->Nat×Nat} {N:List UInt8->Option Bool} {w0:World} {q:Nat} {s:ByteArray} (hN:F2 nx s w0) (hP:PlC pl s) (n:Nat)
  (hB:SC nx pl N w0 q s n .block 22)
  (hS:SC nx pl N w0 q s n .simple 41):SC nx pl N w0 q s (n+1) .stmt 26:=by
 intro p W h O;obtain⟨r,P⟩:∃r,It nx pl N (n+1) .stmt p=r:=⟨_,rfl⟩;rw[P] at O ⊢;rw[It] at P;have b:=aD P;have a:=aD (Fx.start1 h (.int .i64 0) (.string ⟨#[]⟩) (.float .f64 0) (.slice none 0 0) (.complex .f64 0 0) 34);have HN:=aD hN;have HP:=aD hP;have HB:=aD (fun p W h g=>hB p W h g);have HS:=aD (fun p W h g=>hS p W h g);clear P h hN hP hB hS;obtain⟨i,j,k,l,m,w⟩:=a.out.b0;obtain⟨q0,q1,q2,q3,qf⟩:=a.out.z.c;replace a:=aD (a.out.outs (-1));obtain⟨a0,c0,d0,e0,f0,g0⟩:=a.out.b0
 go_in
 go_wp2_with (first | (go_at_call 15;(with_reducible refine(DS HN.out a.out.z true).mono ?_);intro e w2 ha;rcases ha.part b O with⟨f,P,rfl,G,T⟩ | ⟨R,p2,v,rfl,⟨rfl,rfl,h0,et,i0,hb⟩,G,d⟩;exact⟨rfl,BX T (a.out.o.trans G)⟩;replace b:=d;clear d ha;(try dsimp only at b);replace a:=aD ((a.out.quiet hb).box (.int .i64 R.kd) (.string ⟨R.tx.toArray⟩) (.float .f64 R.nm) (.int .i64 R.f) (.int .i64 R.t) 49);clear h0 et hb G;(try clear i j k l m w);(try clear A B C D E F);(try clear H I J K L M);(try clear m30 m31 m32 m33 m34 m3f);obtain⟨i,j,k,l,m,w⟩:=a.out.b0;obtain⟨A,B,C,D,E,F⟩:=a.out.b1;unfold G1;rcases stC R with hc | ⟨hc,b8⟩ | ⟨hc,b8,j0,l0,m0,n0⟩;exact absurd (Ym hc b).out.symm O;all_goals (replace b:=XY hc b;clear hc)) | (go_at_call 12;(with_reducible refine(EE R [123] _).mono ?_);rintro e w3 ⟨rfl,hb⟩;replace a:=aD (a.out.quiet hb);clear hb;cases hs:EP R [123]<;>(simp only[hs,if_true,if_false,Bool.false_eq_true,reduceIte,or_true,true_or,or_false,false_or,and_true,true_and,and_false,false_and] at b;clear hs);all_goals ((try clear i j k l m w);(try clear A B C D E F);(try clear H I J K L M);(try clear m30 m31 m32 m33 m34 m3f);obtain⟨i,j,k,l,m,w⟩:=a.out.b0;obtain⟨A,B,C,D,E,F⟩:=a.out.b1)) | (go_at_call 22;(with_reducible refine(HB.out _ _ a.out.z (CA (M2 b) O)).mono ?_);intro e w4 ha;rcases ha.part (M2 b) O with⟨f,P,rfl,G,T⟩ | ⟨_,p4,v,rfl,⟨⟨y,kv,rfl,rfl,S⟩,Q⟩,G,d⟩;exact⟨rfl,BX T (a.out.o.trans G)⟩;replace b:=d;clear d ha;(try dsimp only at b);obtain⟨ay,cy,rfl⟩:=S.slice;replace a:=aD ((a.out.read S Q G));clear S Q G;(try dsimp only[hd1,List.headD,aH,aL,List.nil_append] at b);(try clear i j k l m w);(try clear A B C D E F);(try clear H I J K L M);(try clear m30 m31 m32 m33 m34 m3f);obtain⟨i,j,k,l,m,w⟩:=a.out.b0;obtain⟨A,B,C,D,E,F⟩:=a.out.b1;unfold CJ) | (go_at_call 41;(with_reducible refine(HS.out _ _ a.out.z (CA b O)).mono ?_);intro e w5 ha;rcases ha.part b O with⟨f,P,rfl,G,T⟩ | ⟨_,p5,v,rfl,⟨⟨u,kv,rfl,rfl,S⟩,Q⟩,G,d⟩;exact⟨rfl,BX T (a.out.o.trans G)⟩;replace b:=d;clear d ha;(try dsimp only at b);obtain⟨au,cu,rfl⟩:=S.slice;replace a:=aD ((a.out.read S Q G).box (.int .i64 u.kd) (.string ⟨u.nm.toArray⟩) (.float .f64 u.x) (.slice au u.ks.length cu) (.complex .f64 u.z.1 u.z.2) 34);clear S Q G;(try dsimp only[hd1,List.headD,aH,aL,List.nil_append] at b);(try clear i j k l m w);(try clear A B C D E F);(try clear H I J K L M);(try clear m30 m31 m32 m33 m34 m3f);obtain⟨i,j,k,l,m,w⟩:=a.out.b0;obtain⟨A,B,C,D,E,F⟩:=a.out.b1;obtain⟨H,I,J,K,L,M⟩:=a.out.b2;unfold CJ) | (go_at_call 42;(with_reducible refine(Zt HN.out HP.out _ _ a.out.z (CA b O)).mono ?_);intro e w6 ha;rcases ha.part b O with⟨f,P,rfl,G,T⟩ | ⟨_,p6,v,rfl,⟨rfl,Q⟩,G,d⟩;exact⟨rfl,BX T (a.out.o.trans G)⟩;replace b:=d;clear d ha;(try dsimp only at b);replace a:=aD (a.out.move Q G);clear Q G;(try clear i j k l m w);(try clear A B C D E F);(try clear H I J K L M);(try clear m30 m31 m32 m33 m34 m3f);obtain⟨i,j,k,l,m,w⟩:=a.out.b0;obtain⟨A,B,C,D,E,F⟩:=a.out.b1;obtain⟨H,I,J,K,L,M⟩:=a.out.b2;obtain⟨q0,q1,q2,q3,qf⟩:=a.out.z.c;replace a:=aD (a.out.outs (-1));obtain⟨a0,c0,d0,e0,f0,g0⟩:=a.out.b0;obtain⟨o0,p0,r0,s0,t0,v0⟩:=a.out.b1;obtain⟨x0,y0,a1,c1,d1,e1⟩:=a.out.b2))
 ·obtain⟨U,V,X,Y,Z,zf⟩:=((((a.out.b2.set0 (.int .i64 u.kd)).set1 (.string ⟨u.nm.toArray⟩)).set2 (.float .f64 u.x)).set3 (.slice au u.ks.length cu)).set4 (.complex .f64 u.z.1 u.z.2)
  exact bodyPost_ret (v:=CJ u (.slice au u.ks.length cu)) (by simp[CJ,results,results26,go_sem,U,V,X,Y,Z]<;>exact rfl) rfl (a.out.done a.out.k0 _ _ _ _ _ b)
 ·obtain⟨U,V,X,Y,Z,zf⟩:=((((a.out.b1.set0 (.int .i64 y.kd)).set1 (.string ⟨y.nm.toArray⟩)).set2 (.float .f64 y.x)).set3 (.slice ay y.ks.length cy)).set4 (.complex .f64 y.z.1 y.z.2)
  exact bodyPost_ret (v:=CJ y (.slice ay y.ks.length cy)) (by simp[CJ,results,results26,go_sem,U,V,X,Y,Z]<;>exact rfl) rfl (a.out.done a.out.k0 _ _ _ _ _ b)
 ·obtain⟨U,V,X,Y,Z,zf⟩:=((((a.out.b2.set0 (.int .i64 u.kd)).set1 (.string ⟨u.nm.toArray⟩)).set2 (.float .f64 u.x)).set3 (.slice au u.ks.length cu)).set4 (.complex .f64 u.z.1 u.z.2)
  exact bodyPost_ret (v:=CJ u (.slice au u.ks.length cu)) (by simp[CJ,results,results26,go_sem,U,V,X,Y,Z]<;>exact rfl) rfl (a.out.done a.out.k0 _ _ _ _ _ b)
 obtain⟨U,V,X,Y,Z,zf⟩:=((((a.out.b1.set0 (.int .i64 y.kd)).set1 (.string ⟨y.nm.toArray⟩)).set2 (.float .f64 y.x)).set3 (.slice ay y.ks.length cy)).set4 (.complex .f64 y.z.1 y.z.2);exact bodyPost_ret (v:=CJ y (.slice ay y.ks.length cy)) (by simp[CJ,results,results26,go_sem,U,V,X,Y,Z]<;>exact rfl) rfl (a.out.done a.out.k0 _ _ _ _ _ b)
theorem Fx.addnil {a W w:World} {q B:Nat} {s:ByteArray} {p:Ps} {l:List B5} (h:Fx a W q B s p l [] w):Fx a W q B s p l [([],.slice none 0 0)] w :=
 ⟨h.z,h.o,h.hq,h.hw,h.hB,h.b,fun x c=>by obtain rfl:=List.mem_singleton.1 c;exact Am.nil _,h.d⟩
set_option linter.unusedSimpArgs false in
theorem M4 {nx:Nat->Bool->Tk} {pl:Nat->Nat×Nat} {S:List UInt8->Option Bool} {w0:World} {q:Nat} {s:ByteArray} (hN:F2 nx s w0) (hP:PlC pl s) (n:Nat)
  (Z:∀m,m<=n->SC nx pl S w0 q s m .stmt 26)
  (hn:n<=1000000):SC nx pl S w0 q s (n+1) .block 22:=by
 intro p W h X;obtain⟨r,V⟩:∃r,It nx pl S (n+1) .block p=r:=⟨_,rfl⟩;rw[V] at X ⊢;rw[It] at V;have d:=aD V;have b:=aD (Fx.start1 h (.int .i64 0) (.string ⟨#[]⟩) (.float .f64 0) (.slice none 0 0) (.complex .f64 0 0) 34);have HN:=aD hN;have HP:=aD hP;have HS:=aD (fun m (hm:m<=n) p W h g=>Z m hm p W h g);clear V h hN hP Z;obtain⟨u,A,B,C,D,E⟩:=b.out.b0
 go_in
 obtain⟨i0,g0,j0,l0,m0⟩:=info_parts Y8
 go_wp2_with (first | (go_at_call 18;(with_reducible refine(EM HN.out HP.out b.out.z [123]).mono ?_);intro e w2 ha;rcases ha.part d X with⟨f,V,rfl,N,Y⟩ | ⟨R,p2,v,rfl,⟨rfl,Q⟩,N,k⟩;exact⟨rfl,BX Y (b.out.o.trans N)⟩;replace d:=k;clear k ha;(try dsimp only at d);replace b:=aD ((b.out.move Q N).box (.int .i64 30) (.string ⟨#[]⟩) (.float .f64 0) (.slice none 0 0) (.complex .f64 R.1 R.2) 34);clear Q N;(try clear u A B C D E);(try clear F G H I J M);(try clear m20 m21 m22 m23 m24 m2f);(try clear m30 m31 m32 m33 m34 m3f);obtain⟨u,A,B,C,D,E⟩:=b.out.b0;obtain⟨F,G,H,I,J,M⟩:=b.out.b1))
 (try clear u A B C D E);(try clear F G H I J M);(try clear m20 m21 m22 m23 m24 m2f);(try clear m30 m31 m32 m33 m34 m3f)
 go_loopg [] n (fun g wr=>∃(m:Nat) (l:List Tr) (a:Option Addr) (c:Nat) (pr:Ps),m=g/\m<=n/\l.length+m<=n/\Hid (It nx pl S m (.blockL R l) pr=r)/\Hid (Fx w0 W q (W.heap.size+1) s pr [⟨w2.heap.size,.int .i64 30,.string ⟨#[]⟩,.float .f64 0,.slice a l.length c,.complex .f64 R.1 R.2⟩,⟨W.heap.size,.int .i64 0,.string ⟨#[]⟩,.float .f64 0,.slice none 0 0,.complex .f64 0 0⟩] [(l,.slice a l.length c)] wr))
 case atStart=>exact⟨n,[],none,0,p2,rfl,Nat.le_refl _,by simp,d,aD (b.out.norow.addnil)⟩
 clear b d;obtain⟨m,l,a,c,pr,rfl,p0,o0,d,b⟩:=hrel
 cases m with
 | zero=>exact absurd d.out.symm X
 | succ m =>
 replace d:=aD (by have:=d.out;rw[It] at this;exact this);obtain⟨u,A,B,C,D,E⟩:=b.out.b0;obtain⟨F,G,H,I,J,M⟩:=b.out.b1
 go_wp2_with (first | (go_at_call 11;(with_reducible refine(XG HN.out HP.out b.out.z true _ (CA d X)).mono ?_);intro e w3 ha;rcases ha.part d X with⟨f,V,rfl,N,Y⟩ | ⟨t3,p3,v,rfl,⟨rfl,h0,et,Q⟩,N,k⟩;exact⟨rfl,BX Y (b.out.o.trans N)⟩;replace d:=k;clear k ha;(try dsimp only at d);replace b:=aD (b.out.move Q N);clear Q N h0 et;(try clear u A B C D E);(try clear F G H I J M);(try clear m20 m21 m22 m23 m24 m2f);(try clear m30 m31 m32 m33 m34 m3f);obtain⟨u,A,B,C,D,E⟩:=b.out.b0;obtain⟨F,G,H,I,J,M⟩:=b.out.b1;unfold G1) | (go_at_call 12;(with_reducible refine(EE t3 [125] _).mono ?_);rintro e w4 ⟨rfl,hb⟩;replace b:=aD (b.out.quiet hb);clear hb;cases hs:EP t3 [125]<;>(simp only[hs,if_true,if_false,Bool.false_eq_true,reduceIte,or_true,true_or,or_false,false_or,and_true,true_and,and_false,false_and] at d;clear hs);all_goals ((try clear u A B C D E);(try clear F G H I J M);(try clear m20 m21 m22 m23 m24 m2f);(try clear m30 m31 m32 m33 m34 m3f);obtain⟨u,A,B,C,D,E⟩:=b.out.b0;obtain⟨F,G,H,I,J,M⟩:=b.out.b1)) | (go_at_call 18;(with_reducible refine(EM HN.out HP.out b.out.z [125]).mono ?_);intro e w5 ha;rcases ha.part d X with⟨f,V,rfl,N,Y⟩ | ⟨zt,p5,v,rfl,⟨rfl,Q⟩,N,k⟩;exact⟨rfl,BX Y (b.out.o.trans N)⟩;replace d:=k;clear k ha;(try dsimp only at d);replace b:=aD (b.out.move Q N);clear Q N;(try clear u A B C D E);(try clear F G H I J M);(try clear m20 m21 m22 m23 m24 m2f);(try clear m30 m31 m32 m33 m34 m3f);obtain⟨u,A,B,C,D,E⟩:=b.out.b0;obtain⟨F,G,H,I,J,M⟩:=b.out.b1))
 ·(try clear u A B C D E);(try clear F G H I J M);(try clear m20 m21 m22 m23 m24 m2f);(try clear m30 m31 m32 m33 m34 m3f)
  refine b.out.region 7 (by kernel_rfl) (fun U=>?_);refine BT (i:=0) (v:=.pointer (some ⟨w2.heap.size,3,none⟩)) rfl (by kernel_rfl) (fun _ _ _ h=>h) (Or.inl ⟨by rfl,fun w Z=>by go_simp⟩) U ?_
  (try dsimp only);try simp only[Act.put,aE,aB,aC,aA,aF,aG]
  refine BT (i:=1) (v:=.slice a l.length c) rfl (by kernel_rfl) (fun _ _ _ h=>h) (Or.inl ⟨by rfl,fun w Z=>by obtain⟨s0,s1,s2,s3,s4,-⟩:=Z.b0;go_simp⟩) U ?_
  (try dsimp only);try simp only[Act.put,aE,aB,aC,aA,aF,aG]
  refine BT (i:=2) (v:=.pointer (some ⟨q,0,none⟩)) rfl (by kernel_rfl) (fun _ _ _ h=>h) (Or.inl ⟨by rfl,fun w Z=>by go_simp⟩) U ?_
  (try dsimp only);try simp only[Act.put,aE,aB,aC,aA,aF,aG]
  refine BW (rs:=[3]) (by kernel_rfl) rfl (BS.cons rfl (by rfl) (fun K T=>?_) BS.nil)
  try go_simp
  go_at_call 26
  refine(HS.out _ (by omega) _ _ b.out.drew.z (CA d X)).mono ?_;intro e w8 ha;rcases ha.part d X with⟨f,V,rfl,N,Y⟩ | ⟨_,p8,v,rfl,⟨⟨y,kv,rfl,rfl,hk⟩,Q⟩,N,k⟩
  ·exact⟨rfl,BX Y (b.out.drew.o.trans N)⟩
  replace d:=k;clear k ha
  (try dsimp only at d)
  obtain⟨ay,cy,rfl⟩:=hk.slice;have HA:=aD (b.out.drew.apart hk);replace b:=aD (b.out.drew.move Q N);clear hk Q N U;unfold CJ;refine T.out _ _ (.inr b.out.bs) ?_
  (try dsimp only);try simp only[Act.put,aE,aB,aC,aA,aF,aG]
  refine BW (rs:=[4]) (by kernel_rfl) rfl (BS.cons rfl (by rfl) (fun K T=>?_) BS.nil)
  try go_simp
  replace b:=aD (b.out.quiet (Ad _ (.cells #[.int .i64 y.kd,.string ⟨y.nm.toArray⟩,.float .f64 y.x,.slice ay y.ks.length cy,.complex .f64 y.z.1 y.z.2] 34)));refine T.out _ _ (.inr b.out.bs) ?_
  (try dsimp only);try simp only[Act.put,aE,aB,aC,aA,aF,aG]
  obtain⟨L,hL,P,c0,d0⟩:=b.out.ka.owns (W.heap.size+1) (fun j e=>e.1);have O:L.length=l.length:=(by rw[<- hL,List.length_map]);have e0:=b.out.hB.2;refine BW (rs:=[5]) (by kernel_rfl) rfl (BS.cons rfl (by rfl) (fun K T=>?_) BS.nil);refine wp_append_lies _ (.tmp 12) (.tmp 15) 31 rfl (W.heap.size+1) 34 i0 _ 5 72 underlying31 g0 j0 l0 m0 rfl (by decide) _ L.length (Ah L) rfl P ⟨w8.heap.size,0,none⟩ 1 1 (Ah [(y,.slice ay y.ks.length cy)]) rfl rfl (Z2 _ _ _) (ZB _ _ _ _) (by decide) (by unfold maxLen;omega) (by omega) e0 _ rfl ?_;intro g a0 w9 o1 o2 o3 o4;have hF:=b.out.append hL (fun g e=>⟨c0 g e,(P.lt g e).2⟩) d0 (HA.out.bel (Ad _ _)) o1 o2 (by rcases o3 with e | e;exact .inl e.symm;exact .inr (by rw[e];rfl))
  replace b:=aD hF;rw[O] at b;rw[O];have f0:=aD (show l.length+1=(l++[y]).length by rw[aK,aI]);clear hF o1 o2 o3 o4 hL P c0 d0 e0 HA O;refine T.out _ _ (.inr b.out.bs) ?_
  (try dsimp only);try simp only[Act.put,aE,aB,aC,aA,aF,aG]
  refine BW (rs:=[6]) (by kernel_rfl) rfl (BS.cons rfl (by rfl) (fun K T=>?_) BS.nil)
  try go_simp
  refine T.out _ _ (.inr b.out.bs) ?_
  (try dsimp only);try simp only[Act.put,aE,aB,aC,aA,aF,aG]
  obtain⟨n0,n1,n2,n3,n4,nf⟩:=b.out.b0;refine BW (rs:=[7]) (by kernel_rfl) rfl (BS.cons rfl (by rfl) (fun K T=>?_) BS.nil)
  try go_simp
  replace b:=aD (b.out.put3 (.slice (some ⟨g,0,none⟩) (l.length+1) a0));refine T.out _ _ (.inl rfl) ?_
  (try dsimp only);try simp only[Act.put,aE,aB,aC,aA,aF,aG]
  refine Aal (by kernel_rfl) ?_ _;go_wp2
  go_roundg m
  case rel=>exact⟨m,l++[y],some ⟨g,0,none⟩,a0,p8,rfl,by omega,by rw[aK,aI];omega,d,by rw[<- f0.out];exact b⟩
  all_goals omega
 obtain⟨z0,z1,z2,z3,z4,zf⟩:=((((b.out.b1.set0 (.int .i64 30)).set1 (.string ⟨#[]⟩)).set2 (.float .f64 0)).set3 (.slice a l.length c)).set4 (.complex .f64 R.1 R.2);exact bodyPost_ret (v:=.agg #[.int .i64 30,.string ⟨#[]⟩,.float .f64 0,.slice a l.length c,.complex .f64 R.1 R.2]) (by simp[results,results22,go_sem,z0,z1,z2,z3,z4]<;>exact rfl) rfl (b.out.done (t:=.mk 30 [] 0 R l) b.out.k0 _ _ _ _ _ d)
end Go.Proofs.YtjolfpcpcaocmaaGreatDoor
