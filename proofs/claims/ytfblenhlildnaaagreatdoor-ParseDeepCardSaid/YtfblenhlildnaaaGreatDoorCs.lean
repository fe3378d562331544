/- Cs Ct Cu -/
import Derived.Test.YtfblenhlildnaaaGreatDoorCl
import Derived.Test.YtfblenhlildnaaaGreatDoorCr
set_option maxRecDepth 100000
set_option maxHeartbeats 4000000
open Go.Lib renaming hid->aA
open List renaming singleton_append->aB,length_singleton->aC,length_append->aE,cons_append->aF
namespace Go.Proofs.YtfblenhlildnaaaGreatDoor
open Go.Proofs.Tryz
open Go.RowKit
theorem stC (t:Tk):(t.kd=8/\(t.tx=[105,102]\/t.tx=[119,104,105,108,101]\/t.tx=[100,111]\/t.tx=[102,111,114]))\/(¬ (t.kd=8/\(t.tx=[105,102]\/t.tx=[119,104,105,108,101]\/t.tx=[100,111]\/t.tx=[102,111,114]))/\(t.kd==8)=false)\/(¬ (t.kd=8/\(t.tx=[105,102]\/t.tx=[119,104,105,108,101]\/t.tx=[100,111]\/t.tx=[102,111,114]))/\(t.kd==8)=true/\(t.tx==[105,102])=false/\(t.tx==[119,104,105,108,101])=false/\(t.tx==[100,111])=false/\(t.tx==[102,111,114])=false):=by
 rcases Xt t.kd 8 with⟨b,c,-⟩ | ⟨b,c,-⟩
 rotate_left
 ·exact .inr (.inl ⟨fun e=>b e.1,c⟩)
 rcases J0 t.tx [105,102] with⟨a,-⟩ | ⟨d,i⟩
 ·exact .inl ⟨b,by simp[a]⟩
 rcases J0 t.tx [119,104,105,108,101] with⟨a,-⟩ | ⟨f,j⟩
 ·exact .inl ⟨b,by simp[a]⟩
 rcases J0 t.tx [100,111] with⟨a,-⟩ | ⟨g,k⟩
 ·exact .inl ⟨b,by simp[a]⟩
 rcases J0 t.tx [102,111,114] with⟨a,-⟩ | ⟨h,l⟩
 ·exact .inl ⟨b,by simp[a]⟩
 exact .inr (.inr ⟨fun e=>by have e:=e.2;simp[d,f,g,h] at e,c,i,j,k,l⟩)
set_option linter.unusedSimpArgs false in
theorem QB {nx:Nat->Bool->Tk} {pl:Nat->Nat×Nat} {ere:List UInt8->Option Bool} {w0:World} {q:Nat} {s:ByteArray} (hN:F2 nx s w0) (hP:H6 pl s) (n:Nat)
  (hB:SC nx pl ere w0 q s n .block 72)
  (hS:SC nx pl ere w0 q s n .simple 134):SC nx pl ere w0 q s (n+1) .stmt 102:=by
 intro p W h N;obtain⟨r,O⟩:∃r,It nx pl ere (n+1) .stmt p=r:=⟨_,rfl⟩;rw[O] at N ⊢;rw[It] at O;have b:=aA O;have a:=aA (Fx.start1 h (.int .i64 0) (.string ⟨#[]⟩) (.float .f64 0) (.slice none 0 0) (.complex .f64 0 0) 42);have HN:=aA hN;have HP:=aA hP;have HB:=aA (fun p W h g=>hB p W h g);have HS:=aA (fun p W h g=>hS p W h g);clear O h hN hP hB hS;obtain⟨i,j,k,l,m,w⟩:=a.out.b0;obtain⟨q0,q1,q2,q3,qf⟩:=a.out.z.c;replace a:=aA (a.out.outs (-1));obtain⟨a0,c0,d0,e0,f0,g0⟩:=a.out.b0
 go_in
 go_wp2_with (first | (go_at_call 65;(with_reducible refine(DS HN.out a.out.z true).mono ?_);intro e w2 ha;rcases ha.part b N with⟨f,O,rfl,G,S⟩ | ⟨Q,p2,v,rfl,⟨rfl,rfl,h0,et,i0,hb⟩,G,d⟩;exact⟨rfl,BX S (a.out.o.trans G)⟩;replace b:=d;clear d ha;(try dsimp only at b);replace a:=aA ((a.out.quiet hb).box (.int .i64 Q.kd) (.string ⟨Q.tx.toArray⟩) (.float .f64 Q.nm) (.int .i64 Q.f) (.int .i64 Q.t) 70);clear h0 et hb G;(try clear i j k l m w);(try clear A B C D E F);(try clear H I J K L M);(try clear m30 m31 m32 m33 m34 m3f);obtain⟨i,j,k,l,m,w⟩:=a.out.b0;obtain⟨A,B,C,D,E,F⟩:=a.out.b1;unfold G1;rcases stC Q with hc | ⟨hc,b8⟩ | ⟨hc,b8,j0,l0,m0,n0⟩;exact absurd (Ym hc b).out.symm N;all_goals (replace b:=XY hc b;clear hc)) | (go_at_call 45;(with_reducible refine(EE Q [123] _).mono ?_);rintro e w3 ⟨rfl,hb⟩;replace a:=aA (a.out.quiet hb);clear hb;cases hs:isS Q [123]<;>(simp only[hs,if_true,if_false,Bool.false_eq_true,reduceIte,or_true,true_or,or_false,false_or,and_true,true_and,and_false,false_and] at b;clear hs);all_goals ((try clear i j k l m w);(try clear A B C D E F);(try clear H I J K L M);(try clear m30 m31 m32 m33 m34 m3f);obtain⟨i,j,k,l,m,w⟩:=a.out.b0;obtain⟨A,B,C,D,E,F⟩:=a.out.b1)) | (go_at_call 72;(with_reducible refine(HB.out _ _ a.out.z (CA (M2 b) N)).mono ?_);intro e w4 ha;rcases ha.part (M2 b) N with⟨f,O,rfl,G,S⟩ | ⟨_,p4,v,rfl,⟨⟨y,kv,rfl,rfl,R⟩,P⟩,G,d⟩;exact⟨rfl,BX S (a.out.o.trans G)⟩;replace b:=d;clear d ha;(try dsimp only at b);obtain⟨ay,cy,rfl⟩:=R.slice;replace a:=aA ((a.out.read R P G));clear R P G;(try dsimp only[hd1,List.headD,aB,aF,List.nil_append] at b);(try clear i j k l m w);(try clear A B C D E F);(try clear H I J K L M);(try clear m30 m31 m32 m33 m34 m3f);obtain⟨i,j,k,l,m,w⟩:=a.out.b0;obtain⟨A,B,C,D,E,F⟩:=a.out.b1;unfold CJ) | (go_at_call 134;(with_reducible refine(HS.out _ _ a.out.z (CA b N)).mono ?_);intro e w5 ha;rcases ha.part b N with⟨f,O,rfl,G,S⟩ | ⟨_,p5,v,rfl,⟨⟨u,kv,rfl,rfl,R⟩,P⟩,G,d⟩;exact⟨rfl,BX S (a.out.o.trans G)⟩;replace b:=d;clear d ha;(try dsimp only at b);obtain⟨Z,cu,rfl⟩:=R.slice;replace a:=aA ((a.out.read R P G).box (.int .i64 u.kd) (.string ⟨u.nm.toArray⟩) (.float .f64 u.x) (.slice Z u.ks.length cu) (.complex .f64 u.z.1 u.z.2) 42);clear R P G;(try dsimp only[hd1,List.headD,aB,aF,List.nil_append] at b);(try clear i j k l m w);(try clear A B C D E F);(try clear H I J K L M);(try clear m30 m31 m32 m33 m34 m3f);obtain⟨i,j,k,l,m,w⟩:=a.out.b0;obtain⟨A,B,C,D,E,F⟩:=a.out.b1;obtain⟨H,I,J,K,L,M⟩:=a.out.b2;unfold CJ) | (go_at_call 135;(with_reducible refine(Zt HN.out HP.out _ _ a.out.z (CA b N)).mono ?_);intro e w6 ha;rcases ha.part b N with⟨f,O,rfl,G,S⟩ | ⟨_,p6,v,rfl,⟨rfl,P⟩,G,d⟩;exact⟨rfl,BX S (a.out.o.trans G)⟩;replace b:=d;clear d ha;(try dsimp only at b);replace a:=aA (a.out.move P G);clear P G;(try clear i j k l m w);(try clear A B C D E F);(try clear H I J K L M);(try clear m30 m31 m32 m33 m34 m3f);obtain⟨i,j,k,l,m,w⟩:=a.out.b0;obtain⟨A,B,C,D,E,F⟩:=a.out.b1;obtain⟨H,I,J,K,L,M⟩:=a.out.b2;obtain⟨q0,q1,q2,q3,qf⟩:=a.out.z.c;replace a:=aA (a.out.outs (-1));obtain⟨a0,c0,d0,e0,f0,g0⟩:=a.out.b0;obtain⟨o0,p0,r0,s0,t0,v0⟩:=a.out.b1;obtain⟨x0,y0,a1,c1,d1,e1⟩:=a.out.b2))
 ·obtain⟨T,U,V,X,Y,zf⟩:=((((a.out.b2.set0 (.int .i64 u.kd)).set1 (.string ⟨u.nm.toArray⟩)).set2 (.float .f64 u.x)).set3 (.slice Z u.ks.length cu)).set4 (.complex .f64 u.z.1 u.z.2)
  exact bodyPost_ret (v:=CJ u (.slice Z u.ks.length cu)) (by simp[CJ,results,results102,go_sem,T,U,V,X,Y]<;>exact rfl) rfl (a.out.done a.out.k0 _ _ _ _ _ b)
 ·obtain⟨T,U,V,X,Y,zf⟩:=((((a.out.b1.set0 (.int .i64 y.kd)).set1 (.string ⟨y.nm.toArray⟩)).set2 (.float .f64 y.x)).set3 (.slice ay y.ks.length cy)).set4 (.complex .f64 y.z.1 y.z.2)
  exact bodyPost_ret (v:=CJ y (.slice ay y.ks.length cy)) (by simp[CJ,results,results102,go_sem,T,U,V,X,Y]<;>exact rfl) rfl (a.out.done a.out.k0 _ _ _ _ _ b)
 ·obtain⟨T,U,V,X,Y,zf⟩:=((((a.out.b2.set0 (.int .i64 u.kd)).set1 (.string ⟨u.nm.toArray⟩)).set2 (.float .f64 u.x)).set3 (.slice Z u.ks.length cu)).set4 (.complex .f64 u.z.1 u.z.2)
  exact bodyPost_ret (v:=CJ u (.slice Z u.ks.length cu)) (by simp[CJ,results,results102,go_sem,T,U,V,X,Y]<;>exact rfl) rfl (a.out.done a.out.k0 _ _ _ _ _ b)
 obtain⟨T,U,V,X,Y,zf⟩:=((((a.out.b1.set0 (.int .i64 y.kd)).set1 (.string ⟨y.nm.toArray⟩)).set2 (.float .f64 y.x)).set3 (.slice ay y.ks.length cy)).set4 (.complex .f64 y.z.1 y.z.2);exact bodyPost_ret (v:=CJ y (.slice ay y.ks.length cy)) (by simp[CJ,results,results102,go_sem,T,U,V,X,Y]<;>exact rfl) rfl (a.out.done a.out.k0 _ _ _ _ _ b)
theorem Fx.addnil {a W w:World} {q B:Nat} {s:ByteArray} {p:Ps} {l:List B5} (h:Fx a W q B s p l [] w):Fx a W q B s p l [([],.slice none 0 0)] w :=
 ⟨h.z,h.o,h.hq,h.hw,h.hB,h.b,fun x c=>by obtain rfl:=List.mem_singleton.1 c;exact Am.nil _,h.d⟩
set_option linter.unusedSimpArgs false in
theorem M4 {nx:Nat->Bool->Tk} {pl:Nat->Nat×Nat} {ere:List UInt8->Option Bool} {w0:World} {q:Nat} {s:ByteArray} (hN:F2 nx s w0) (hP:H6 pl s) (n:Nat)
  (hS:∀m,m<=n->SC nx pl ere w0 q s m .stmt 102)
  (hn:n<=1000000):SC nx pl ere w0 q s (n+1) .block 72:=by
 intro p W h U;obtain⟨r,T⟩:∃r,It nx pl ere (n+1) .block p=r:=⟨_,rfl⟩;rw[T] at U ⊢;rw[It] at T;have d:=aA T;have b:=aA (Fx.start1 h (.int .i64 0) (.string ⟨#[]⟩) (.float .f64 0) (.slice none 0 0) (.complex .f64 0 0) 42);have HN:=aA hN;have HP:=aA hP;have HS:=aA (fun m (hm:m<=n) p W h g=>hS m hm p W h g);clear T h hN hP hS;obtain⟨k,u,A,B,C,D⟩:=b.out.b0
 go_in
 obtain⟨i0,d0,e0,f0,g0⟩:=info_parts Y8
 go_wp2_with (first | (go_at_call 68;(with_reducible refine(EM HN.out HP.out b.out.z [123]).mono ?_);intro e w2 ha;rcases ha.part d U with⟨f,T,rfl,M,V⟩ | ⟨Q,p2,v,rfl,⟨rfl,P⟩,M,i⟩;exact⟨rfl,BX V (b.out.o.trans M)⟩;replace d:=i;clear i ha;(try dsimp only at d);replace b:=aA ((b.out.move P M).box (.int .i64 30) (.string ⟨#[]⟩) (.float .f64 0) (.slice none 0 0) (.complex .f64 Q.1 Q.2) 42);clear P M;(try clear k u A B C D);(try clear E F G H I J);(try clear m20 m21 m22 m23 m24 m2f);(try clear m30 m31 m32 m33 m34 m3f);obtain⟨k,u,A,B,C,D⟩:=b.out.b0;obtain⟨E,F,G,H,I,J⟩:=b.out.b1))
 (try clear k u A B C D);(try clear E F G H I J);(try clear m20 m21 m22 m23 m24 m2f);(try clear m30 m31 m32 m33 m34 m3f)
 go_loopg [] n (fun g wr=>∃(m:Nat) (l:List Tr) (a:Option Addr) (c:Nat) (pr:Ps),m=g/\m<=n/\l.length+m<=n/\Hid (It nx pl ere m (.blockL Q l) pr=r)/\Hid (Fx w0 W q (W.heap.size+1) s pr [⟨w2.heap.size,.int .i64 30,.string ⟨#[]⟩,.float .f64 0,.slice a l.length c,.complex .f64 Q.1 Q.2⟩,⟨W.heap.size,.int .i64 0,.string ⟨#[]⟩,.float .f64 0,.slice none 0 0,.complex .f64 0 0⟩] [(l,.slice a l.length c)] wr))
 case atStart=>exact⟨n,[],none,0,p2,rfl,Nat.le_refl _,by simp,d,aA (b.out.norow.addnil)⟩
 clear b d;obtain⟨m,l,a,c,pr,rfl,l0,j0,d,b⟩:=hrel
 cases m with
 | zero=>exact absurd d.out.symm U
 | succ m =>
 replace d:=aA (by have:=d.out;rw[It] at this;exact this);obtain⟨k,u,A,B,C,D⟩:=b.out.b0;obtain⟨E,F,G,H,I,J⟩:=b.out.b1
 go_wp2_with (first | (go_at_call 44;(with_reducible refine(XG HN.out HP.out b.out.z true _ (CA d U)).mono ?_);intro e w3 ha;rcases ha.part d U with⟨f,T,rfl,M,V⟩ | ⟨t3,p3,v,rfl,⟨rfl,h0,et,P⟩,M,i⟩;exact⟨rfl,BX V (b.out.o.trans M)⟩;replace d:=i;clear i ha;(try dsimp only at d);replace b:=aA (b.out.move P M);clear P M h0 et;(try clear k u A B C D);(try clear E F G H I J);(try clear m20 m21 m22 m23 m24 m2f);(try clear m30 m31 m32 m33 m34 m3f);obtain⟨k,u,A,B,C,D⟩:=b.out.b0;obtain⟨E,F,G,H,I,J⟩:=b.out.b1;unfold G1) | (go_at_call 45;(with_reducible refine(EE t3 [125] _).mono ?_);rintro e w4 ⟨rfl,hb⟩;replace b:=aA (b.out.quiet hb);clear hb;cases hs:isS t3 [125]<;>(simp only[hs,if_true,if_false,Bool.false_eq_true,reduceIte,or_true,true_or,or_false,false_or,and_true,true_and,and_false,false_and] at d;clear hs);all_goals ((try clear k u A B C D);(try clear E F G H I J);(try clear m20 m21 m22 m23 m24 m2f);(try clear m30 m31 m32 m33 m34 m3f);obtain⟨k,u,A,B,C,D⟩:=b.out.b0;obtain⟨E,F,G,H,I,J⟩:=b.out.b1)) | (go_at_call 68;(with_reducible refine(EM HN.out HP.out b.out.z [125]).mono ?_);intro e w5 ha;rcases ha.part d U with⟨f,T,rfl,M,V⟩ | ⟨zt,p5,v,rfl,⟨rfl,P⟩,M,i⟩;exact⟨rfl,BX V (b.out.o.trans M)⟩;replace d:=i;clear i ha;(try dsimp only at d);replace b:=aA (b.out.move P M);clear P M;(try clear k u A B C D);(try clear E F G H I J);(try clear m20 m21 m22 m23 m24 m2f);(try clear m30 m31 m32 m33 m34 m3f);obtain⟨k,u,A,B,C,D⟩:=b.out.b0;obtain⟨E,F,G,H,I,J⟩:=b.out.b1))
 ·(try clear k u A B C D);(try clear E F G H I J);(try clear m20 m21 m22 m23 m24 m2f);(try clear m30 m31 m32 m33 m34 m3f)
  refine b.out.region 7 (by kernel_rfl) (fun S=>?_);refine AbP 0 (.pointer (some ⟨w2.heap.size,3,none⟩)) rfl S ?_
  try simp only[Act.put,sP]
  refine AbU 1 (.slice a l.length c) rfl (fun w hS=>by obtain⟨s0,s1,s2,s3,s4,-⟩:=hS.b0;go_simp) S ?_
  try simp only[Act.put,sP]
  refine AbP 2 (.pointer (some ⟨q,0,none⟩)) rfl S ?_
  try simp only[Act.put,sP]
  refine AaC 3 rfl (fun K R=>?_)
  try go_simp
  go_at_call 102
  refine(HS.out _ (by omega) _ _ b.out.drew.z (CA d U)).mono ?_;intro e w8 ha;rcases ha.part d U with⟨f,T,rfl,M,V⟩ | ⟨_,p8,v,rfl,⟨⟨y,kv,rfl,rfl,hk⟩,P⟩,M,i⟩
  ·exact⟨rfl,BX V (b.out.drew.o.trans M)⟩
  replace d:=i;clear i ha
  (try dsimp only at d)
  obtain⟨ay,cy,rfl⟩:=hk.slice;have HA:=aA (b.out.drew.apart hk);replace b:=aA (b.out.drew.move P M);clear hk P M S;unfold CJ;refine R.out _ _ (.inr b.out.bs) ?_
  try simp only[Act.put,sP]
  refine AaC 4 rfl (fun K R=>?_)
  try go_simp
  replace b:=aA (b.out.quiet (Ad _ (.cells #[.int .i64 y.kd,.string ⟨y.nm.toArray⟩,.float .f64 y.x,.slice ay y.ks.length cy,.complex .f64 y.z.1 y.z.2] 42)));refine R.out _ _ (.inr b.out.bs) ?_
  try simp only[Act.put,sP]
  obtain⟨L,hL,O,Y,Z⟩:=b.out.ka.owns (W.heap.size+1) (fun j e=>e.1);have N:L.length=l.length:=(by rw[<- hL,List.length_map]);have a0:=b.out.hB.2;refine AaC 5 rfl (fun K R=>?_);refine wp_append_lies _ (.tmp 12) (.tmp 15) 38 rfl (W.heap.size+1) 42 i0 _ 5 72 underlying38 d0 e0 f0 g0 rfl (by decide) _ L.length (Ah L) rfl O ⟨w8.heap.size,0,none⟩ 1 1 (Ah [(y,.slice ay y.ks.length cy)]) rfl rfl (Z2 _ _ _) (ZB _ _ _ _) (by decide) (by unfold maxLen;omega) (by omega) a0 _ rfl ?_;intro g X w9 o1 o2 o3 o4;have hF:=b.out.append hL (fun g e=>⟨Y g e,(O.lt g e).2⟩) Z (HA.out.bel (Ad _ _)) o1 o2 (by rcases o3 with e | e;exact .inl e.symm;exact .inr (by rw[e];rfl))
  replace b:=aA hF;rw[N] at b;rw[N];have c0:=aA (show l.length+1=(l++[y]).length by rw[aE,aC]);clear hF o1 o2 o3 o4 hL O Y Z a0 HA N;refine R.out _ _ (.inr b.out.bs) ?_
  try simp only[Act.put,sP]
  refine AaC 6 rfl (fun K R=>?_)
  try go_simp
  refine R.out _ _ (.inr b.out.bs) ?_
  try simp only[Act.put,sP]
  obtain⟨n0,n1,n2,n3,n4,nf⟩:=b.out.b0;refine AaC 7 rfl (fun K R=>?_)
  try go_simp
  replace b:=aA (b.out.put3 (.slice (some ⟨g,0,none⟩) (l.length+1) X));refine R.out _ _ (.inl rfl) ?_
  try simp only[Act.put,sP]
  refine Aal (by kernel_rfl) ?_ _;go_wp2
  go_roundg m
  case rel=>exact⟨m,l++[y],some ⟨g,0,none⟩,X,p8,rfl,by omega,by rw[aE,aC];omega,d,by rw[<- c0.out];exact b⟩
  all_goals omega
 obtain⟨z0,z1,z2,z3,z4,zf⟩:=((((b.out.b1.set0 (.int .i64 30)).set1 (.string ⟨#[]⟩)).set2 (.float .f64 0)).set3 (.slice a l.length c)).set4 (.complex .f64 Q.1 Q.2);exact bodyPost_ret (v:=.agg #[.int .i64 30,.string ⟨#[]⟩,.float .f64 0,.slice a l.length c,.complex .f64 Q.1 Q.2]) (by simp[results,results72,go_sem,z0,z1,z2,z3,z4]<;>exact rfl) rfl (b.out.done (t:=.mk 30 [] 0 Q l) b.out.k0 _ _ _ _ _ d)
structure YX (nx:Nat->Bool->Tk) (pl:Nat->Nat×Nat) (ere:List UInt8->Option Bool) (w0:World) (q:Nat) (s:ByteArray) (n:Nat):Prop where
 stmt:SC nx pl ere w0 q s n .stmt 102
 simple:SC nx pl ere w0 q s n .simple 134
 block:SC nx pl ere w0 q s n .block 72
 many:MC nx pl ere w0 q s n .many 182
variable {nx:Nat->Bool->Tk} {pl:Nat->Nat×Nat} {ere:List UInt8->Option Bool} {w0:World} {q:Nat} {s:ByteArray}
theorem YX.zero:YX nx pl ere w0 q s 0:=by constructor<;>exact fun p W h a=>absurd rfl a
theorem YT (a:F2 nx s w0) (b:H6 pl s) (d:TZ ere s w0):∀n,n<=1000000->∀m,m<=n->YX nx pl ere w0 q s m:=by
 intro n
 induction n with
 | zero=>intro _ m c;obtain rfl:m=0:=by omega
         exact YX.zero
 | succ n g =>
   intro i m c;have H:=g (by omega);rcases Nat.lt_or_ge m (n+1) with f | f
   ·exact H m (by omega)
   obtain rfl:m=n+1:=(by omega);have h:=H n (Nat.le_refl _);have e:=IE a b d (q:=q) n (by omega)
   exact { stmt:=QB a b n h.block h.simple
           simple:=XO a b n e.expr e.index h.many
           block:=M4 a b n (fun m c=>(H m c).stmt) (by omega)
           many:=YC a b n e.list }
theorem XP (b:F2 nx s w0) (c:H6 pl s) (a:TZ ere s w0) (n:Nat) (d:n<=1000000):YX nx pl ere w0 q s n:=YT b c a n d n (Nat.le_refl _)
end Go.Proofs.YtfblenhlildnaaaGreatDoor
