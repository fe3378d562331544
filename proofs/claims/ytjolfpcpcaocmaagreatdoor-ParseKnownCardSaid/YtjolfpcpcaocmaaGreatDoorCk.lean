/- Ck Cm Cl Cb -/
import Derived.Test.YtjolfpcpcaocmaaGreatDoorCg
import Derived.Test.YtjolfpcpcaocmaaGreatDoorBy
set_option maxRecDepth 100000
set_option maxHeartbeats 4000000
open List renaming setIfInBounds_toArray->aA,getElem_cons_zero->aB,getElem_cons_succ->aC,getElem_toArray->aD,set_cons_zero->aE,set_cons_succ->aF,singleton_append->aI,cons_append->aJ,nil_append->aK,pairwise_cons->aM,headD->aN
open Go.Lib renaming hid->aG
open Bool renaming false_eq_true->aH
open Nat renaming le_refl->aL
namespace Go.Proofs.YtjolfpcpcaocmaaGreatDoor
open Go.RowKit
section
variable {w0 W w w':World} {q B:Nat} {s:ByteArray} {p p':Ps} {l:List B5} {ks:List (List Tr×Value)}
theorem Fx.upd {b:Nat} {v0 v1 v2 v3 v4 u0 u1 u2 u3 u4:Value} (h:Fx w0 W q B s p (⟨b,v0,v1,v2,v3,v4⟩::l) ks w) (f:Ae b w w') (m:C5 w' b u0 u1 u2 u3 u4):Fx w0 W q B s p (⟨b,u0,u1,u2,u3,u4⟩::l) ks w':=by
 have a:=(h.b _ (.head _)).1;have n:=h.hq;have g:=aM.1 h.d;dsimp only at a g;refine⟨h.z.other f (Nat.le_trans h.hw a) (by omega),h.o.under f a,h.hq,h.hw,⟨h.hB.1,Nat.le_trans h.hB.2 f.size⟩,fun x c=>?_,fun x c=>?_,aM.2 g⟩
 ·rcases List.mem_cons.1 c with rfl | c
  ·exact⟨a,m⟩
  have:=g.1 x c;exact⟨(h.b x (.tail _ c)).1,(h.b x (.tail _ c)).2.only f (by omega)⟩
 exact((h.k x c).only f (fun e=>e.2 _ (.head _) rfl)).mono fun j _ e=>⟨e.1,fun y i=>by rcases List.mem_cons.1 i with rfl | i;exact e.2 ⟨b,v0,v1,v2,v3,v4⟩ (.head _);exact e.2 _ (.tail _ i)⟩
theorem Fx.put0 {b:Nat} {v0 v1 v2 v3 v4:Value} (h:Fx w0 W q B s p (⟨b,v0,v1,v2,v3,v4⟩::l) ks w) (u:Value):Fx w0 W q B s p (⟨b,u,v1,v2,v3,v4⟩::l) ks (w.setCell ⟨b,0,none⟩ u):=h.upd ((Ae.refl b w).set 0 u) (h.b0.set0 u)
theorem Fx.put3 {b:Nat} {v0 v1 v2 v3 v4:Value} (h:Fx w0 W q B s p (⟨b,v0,v1,v2,v3,v4⟩::l) ks w) (u:Value):Fx w0 W q B s p (⟨b,v0,v1,v2,u,v4⟩::l) ks (w.setCell ⟨b,3,none⟩ u):=h.upd ((Ae.refl b w).set 3 u) (h.b0.set3 u)
theorem Fx.put1 {b:Nat} {v0 v1 v2 v3 v4:Value} (h:Fx w0 W q B s p (⟨b,v0,v1,v2,v3,v4⟩::l) ks w) (u:Value):Fx w0 W q B s p (⟨b,v0,u,v2,v3,v4⟩::l) ks (w.setCell ⟨b,1,none⟩ u):=h.upd ((Ae.refl b w).set 1 u) (h.b0.set1 u)
theorem Fx.put4 {b:Nat} {v0 v1 v2 v3 v4:Value} (h:Fx w0 W q B s p (⟨b,v0,v1,v2,v3,v4⟩::l) ks w) (u:Value):Fx w0 W q B s p (⟨b,v0,v1,v2,v3,u⟩::l) ks (w.setCell ⟨b,4,none⟩ u):=h.upd ((Ae.refl b w).set 4 u) (h.b0.set4 u)
end
open Go.Proofs.Tryz
structure TZ (ere:List UInt8->Option Bool) (s:ByteArray) (w0:World):Prop where
 good:∀x W,x.length<=s.size->ere x=some true->Below w0.heap.size w0 W->Calls prog 146 #[.string ⟨x.toArray⟩] W fun e w'=>∃(k a b c d:Int) (o:Option Addr) (n m:Nat) (z:Int),
  e = .returned (.tuple #[.agg #[.int .i64 k,.int .u64 a,.int .u64 b,.int .u64 c,.int .u64 d,.slice o n m],.int .i64 z,.int .i64 0])/\Below W.heap.size W w'
 bad:∀x W,x.length<=s.size->ere x=some false->Below w0.heap.size w0 W->Calls prog 146 #[.string ⟨x.toArray⟩] W fun e w'=>∃(k a b c d:Int) (o:Option Addr) (n m:Nat) (z er:Int),
  e = .returned (.tuple #[.agg #[.int .i64 k,.int .u64 a,.int .u64 b,.int .u64 c,.int .u64 d,.slice o n m],.int .i64 z,.int .i64 er])/\(er != 0)=true/\Below W.heap.size W w'
theorem Aan (x y:List UInt8):(x=y/\(x==y)=true/\(x != y)=false)\/(x≠y/\(x==y)=false/\(x != y)=true):=by
 by_cases h:x=y
 ·exact .inl ⟨h,beq_iff_eq.2 h,by unfold bne;rw[beq_iff_eq.2 h];rfl⟩
 exact .inr ⟨h,beq_eq_false_iff_ne.2 h,by unfold bne;rw[beq_eq_false_iff_ne.2 h];rfl⟩
theorem opC (t:Tk) :
  (¬ t.kd=2/\¬ t.kd=3/\t.kd=4/\(t.kd==2)=false/\(t.kd==3)=false/\(t.kd==4)=true) \/
  (t.kd=2/\(t.kd==2)=true) \/
  (¬ t.kd=2/\t.kd=3/\256<t.tx.length/\(t.kd==2)=false/\(t.kd==3)=true) \/
  (¬ t.kd=2/\t.kd=3/\¬ 256<t.tx.length/\(t.kd==2)=false/\(t.kd==3)=true) \/
  (¬ t.kd=2/\¬ t.kd=3/\¬ t.kd=4/\t.kd=6/\t.tx=[115,121,115,116,101,109]/\(t.tx==[115,121,115,116,101,109])=true/\(t.kd==2)=false/\(t.kd==3)=false/\(t.kd==4)=false/\(t.kd==6)=true) \/
  (¬ t.kd=2/\¬ t.kd=3/\¬ t.kd=4/\t.kd=6/\¬ t.tx=[115,121,115,116,101,109]/\(t.tx==[115,121,115,116,101,109])=false/\(t.kd==2)=false/\(t.kd==3)=false/\(t.kd==4)=false/\(t.kd==6)=true) \/
  (¬ t.kd=2/\¬ t.kd=3/\¬ t.kd=4/\¬ t.kd=6/\t.kd=7/\t.tx=[108,101,110,103,116,104]/\(t.tx != [108,101,110,103,116,104])=false/\(t.kd==2)=false/\(t.kd==3)=false/\(t.kd==4)=false/\(t.kd==6)=false/\(t.kd==7)=true) \/
  (¬ t.kd=2/\¬ t.kd=3/\¬ t.kd=4/\¬ t.kd=6/\t.kd=7/\¬ t.tx=[108,101,110,103,116,104]/\(t.tx==[108,101,110,103,116,104])=false/\(t.kd==2)=false/\(t.kd==3)=false/\(t.kd==4)=false/\(t.kd==6)=false/\(t.kd==7)=true) \/
  (¬ t.kd=2/\¬ t.kd=3/\¬ t.kd=4/\¬ t.kd=6/\¬ t.kd=7/\(t.kd==2)=false/\(t.kd==3)=false/\(t.kd==4)=false/\(t.kd==6)=false/\(t.kd==7)=false):=by
 rcases Xt t.kd 2 with⟨a,b2,-⟩ | ⟨a,b2,-⟩
 ·exact .inr (.inl ⟨a,b2⟩)
 rcases Xt t.kd 3 with⟨c,b3,-⟩ | ⟨c,b3,-⟩
 ·by_cases k:256<t.tx.length
  ·exact .inr (.inr (.inl ⟨a,c,k,b2,b3⟩))
  exact .inr (.inr (.inr (.inl ⟨a,c,k,b2,b3⟩)))
 rcases Xt t.kd 4 with⟨e,d,-⟩ | ⟨e,d,-⟩
 ·exact .inl ⟨a,c,e,b2,b3,d⟩
 rcases Xt t.kd 6 with⟨g,f,-⟩ | ⟨g,f,-⟩
 ·rcases Aan t.tx [115,121,115,116,101,109] with⟨h,b,-⟩ | ⟨h,b,-⟩
  ·exact .inr (.inr (.inr (.inr (.inl ⟨a,c,e,g,h,b,b2,b3,d,f⟩))))
  exact .inr (.inr (.inr (.inr (.inr (.inl ⟨a,c,e,g,h,b,b2,b3,d,f⟩)))))
 rcases Xt t.kd 7 with⟨j,i,-⟩ | ⟨j,i,-⟩
 ·rcases Aan t.tx [108,101,110,103,116,104] with⟨h,-,b⟩ | ⟨h,b,-⟩
  ·exact .inr (.inr (.inr (.inr (.inr (.inr (.inl ⟨a,c,e,g,j,h,b,b2,b3,d,f,i⟩))))))
  exact .inr (.inr (.inr (.inr (.inr (.inr (.inr (.inl ⟨a,c,e,g,j,h,b,b2,b3,d,f,i⟩)))))))
 exact .inr (.inr (.inr (.inr (.inr (.inr (.inr (.inr ⟨a,c,e,g,j,b2,b3,d,f,i⟩)))))))
set_option linter.unusedSimpArgs false in
theorem XQ {nx:Nat->Bool->Tk} {pl:Nat->Nat×Nat} {T:List UInt8->Option Bool} {w0:World} {q:Nat} {s:ByteArray} (hN:F2 nx s w0) (hP:PlC pl s) (n:Nat)
  (hI:LC nx pl T w0 q s n .index 57)
  (hD:NC nx pl T w0 q s n .dollar 153):NC nx pl T w0 q s (n+1) .target 148:=by
 intro p W h hh;obtain⟨r,V⟩:∃r,Dn nx pl T (n+1) .target p=r:=⟨_,rfl⟩;rw[V] at hh ⊢;rw[Dn] at V;have N:=aG V;have a:=aG (Fx.start1 h (.int .i64 0) (.string ⟨#[]⟩) (.float .f64 0) (.slice none 0 0) (.complex .f64 0 0) 34);have HN:=aG hN;have HP:=aG hP;have HI:=aG (fun p W h g=>hI p W h g);have HD:=aG (fun p W h g=>hD p W h g);clear V h hN hP hI hD;obtain⟨d,j,k,l,m,u⟩:=a.out.b0
 go_in
 go_wp2_with (first | (go_at_call 15;(with_reducible refine(DS HN.out a.out.z true).mono ?_);intro e w2 ha;rcases ha.part N hh with⟨f,V,rfl,M,hr⟩ | ⟨c,p2,v,rfl,⟨rfl,rfl,h0,et,a0,S⟩,M,O⟩;exact⟨rfl,BX hr (a.out.o.trans M)⟩;replace N:=O;clear O ha;(try dsimp only at N);replace a:=aG ((a.out.quiet S).box (.int .i64 c.kd) (.string ⟨c.tx.toArray⟩) (.float .f64 c.nm) (.int .i64 c.f) (.int .i64 c.t) 49);clear h0 et S M;(try clear d j k l m u);(try clear x A B C D E);(try clear F G H I J L);(try clear m30 m31 m32 m33 m34 m3f);obtain⟨d,j,k,l,m,u⟩:=a.out.b0;obtain⟨x,A,B,C,D,E⟩:=a.out.b1;unfold G1;rcases Xt c.kd 5 with⟨U,be,bn⟩ | ⟨U,be,bn⟩<;>((first | replace N:=Ym U N | replace N:=XY U N | skip);clear U)) | (go_at_call 12;(with_reducible refine(EE c [36] _).mono ?_);rintro e w3 ⟨rfl,S⟩;replace a:=aG (a.out.quiet S);clear S;cases hs:EP c [36]<;>(simp only[hs,if_true,if_false,aH,reduceIte,or_true,true_or,or_false,false_or,and_true,true_and,and_false,false_and] at N;clear hs);all_goals ((try clear d j k l m u);(try clear x A B C D E);(try clear F G H I J L);(try clear m30 m31 m32 m33 m34 m3f);obtain⟨d,j,k,l,m,u⟩:=a.out.b0;obtain⟨x,A,B,C,D,E⟩:=a.out.b1)) | (go_at_call 17;(with_reducible refine(E3 a.out.z c).mono ?_);rintro e w9 ⟨rfl,S⟩;exact⟨rfl,BX (aG N.out.symm) (a.out.o.trans S)⟩) | (go_at_call 16;(with_reducible refine(C2 HP.out a.out.z c a0).mono ?_);rintro e w4 ⟨rfl,Q,M⟩;replace a:=aG (a.out.move Q M);clear Q M;(try clear d j k l m u);(try clear x A B C D E);(try clear F G H I J L);(try clear m30 m31 m32 m33 m34 m3f);obtain⟨d,j,k,l,m,u⟩:=a.out.b0;obtain⟨x,A,B,C,D,E⟩:=a.out.b1;replace a:=aG (a.out.box (.int .i64 6) (.string ⟨#[]⟩) (.float .f64 0) (.slice none 0 0) (.complex .f64 (pl c.f).1 (pl c.f).2) 34);(try clear d j k l m u);(try clear x A B C D E);(try clear F G H I J L);(try clear m30 m31 m32 m33 m34 m3f);obtain⟨d,j,k,l,m,u⟩:=a.out.b0;obtain⟨x,A,B,C,D,E⟩:=a.out.b1;obtain⟨F,G,H,I,J,L⟩:=a.out.b2) | (go_at_call 153;(with_reducible refine(HD.out _ _ a.out.z (CA N hh)).mono ?_);intro e w5 ha;rcases ha.part N hh with⟨f,V,rfl,M,hr⟩ | ⟨_,p5,v,rfl,⟨⟨y,kv,rfl,rfl,hk⟩,Q⟩,M,O⟩;exact⟨rfl,BX hr (a.out.o.trans M)⟩;replace N:=O;clear O ha;(try dsimp only at N);obtain⟨ay,cy,rfl⟩:=hk.slice;replace a:=aG (a.out.read hk Q M).kid1;clear hk Q M;(try dsimp only[hd1,aN,aI,aJ,aK] at N);(try clear d j k l m u);(try clear x A B C D E);(try clear F G H I J L);(try clear m30 m31 m32 m33 m34 m3f);obtain⟨d,j,k,l,m,u⟩:=a.out.b0;obtain⟨x,A,B,C,D,E⟩:=a.out.b1;obtain⟨F,G,H,I,J,L⟩:=a.out.b2;replace a:=aG (a.out.put3 (.slice (some ⟨w5.heap.size,0,none⟩) 1 1));obtain⟨c0,d0,e0,f0,g0,i0⟩:=a.out.b0;obtain⟨j0,l0,m0,o0,p0,q0⟩:=a.out.b1;obtain⟨r0,t0,v0,x0,y0,a1⟩:=a.out.b2;unfold CJ))
 ·go_cut [4] (fun v wx=>∃nb,v = .pointer (some ⟨nb,0,none⟩)/\Hid (Fx w0 W q (W.heap.size+1) s (CQ c p2) [⟨nb,.int .i64 4,.string ⟨c.tx.toArray⟩,.float .f64 0,.slice none 0 0,.complex .f64 (pl c.f).1 (pl c.f).2⟩,⟨w2.heap.size,.int .i64 c.kd,.string ⟨c.tx.toArray⟩,.float .f64 c.nm,.int .i64 c.f,.int .i64 c.t⟩,⟨W.heap.size,.int .i64 0,.string ⟨#[]⟩,.float .f64 0,.slice none 0 0,.complex .f64 0 0⟩] [] wx))
  case first =>
   (try clear d j k l m u);(try clear x A B C D E);(try clear F G H I J L);(try clear m30 m31 m32 m33 m34 m3f)
   revert a
   (try generalize World.alloc _ _=X)
   intro a;refine a.out.region 7 (by kernel_rfl) (fun R=>?_);refine BT (i:=0) (v:=.pointer (some ⟨w2.heap.size,1,none⟩)) rfl (by kernel_rfl) (fun _ _ _ h=>h) (Or.inl ⟨by rfl,fun w hS=>by go_simp⟩) R ?_
   (try dsimp only);try simp only[Act.put,aD,aB,aC,aA,aE,aF]
   refine BT (i:=1) (v:=.string ⟨c.tx.toArray⟩) rfl (by kernel_rfl) (fun _ _ _ h=>h) (Or.inl ⟨by rfl,fun w hS=>by obtain⟨s0,s1,s2,s3,s4,-⟩:=hS.b0;go_simp⟩) R ?_
   (try dsimp only);try simp only[Act.put,aD,aB,aC,aA,aE,aF]
   refine BT (i:=2) (v:=.pointer (some ⟨q,0,none⟩)) rfl (by kernel_rfl) (fun _ _ _ h=>h) (Or.inl ⟨by rfl,fun w hS=>by go_simp⟩) R ?_
   (try dsimp only);try simp only[Act.put,aD,aB,aC,aA,aE,aF]
   refine BT (i:=3) (v:=(.agg #[.int .i64 c.kd,.string ⟨c.tx.toArray⟩,.float .f64 c.nm,.int .i64 c.f,.int .i64 c.t])) rfl (by kernel_rfl) (fun _ _ _ h=>h) (Or.inl ⟨by rfl,fun w hS=>by obtain⟨s0,s1,s2,s3,s4,-⟩:=hS.b0;go_simp⟩) R ?_
   (try dsimp only);try simp only[Act.put,aD,aB,aC,aA,aE,aF]
   refine BW (rs:=[4,6]) (by kernel_rfl) rfl (BS.cons rfl (by rfl) (fun K P=>?_) (BS.cons rfl (by rfl) (fun K P=>?_) BS.nil))
   ·try go_simp
    go_at_call 16
    refine(C2 HP.out a.out.drew.z c a0).mono ?_;rintro e w8 ⟨rfl,Q,M⟩;replace a:=aG (a.out.drew.move Q M);clear Q M R;refine P.out _ _ (.inr a.out.bs) ?_
    (try dsimp only);try simp only[Act.put,aD,aB,aC,aA,aE,aF]
    refine BW (rs:=[5,6]) (by kernel_rfl) rfl (BS.cons rfl (by rfl) (fun K P=>?_) (BS.cons rfl (by rfl) (fun K P=>?_) BS.nil))
    ·try go_simp
     refine P.out _ _ (.inr a.out.bs) ?_
     (try dsimp only);try simp only[Act.put,aD,aB,aC,aA,aE,aF]
     refine BW (rs:=[6]) (by kernel_rfl) rfl (BS.cons rfl (by rfl) (fun K P=>?_) BS.nil)
     try go_simp
     have HA:=aG a.out;replace a:=aG (a.out.box (.int .i64 0) (.string ⟨#[]⟩) (.float .f64 0) (.slice none 0 0) (.complex .f64 0 0) 34);refine P.out _ _ (.inr a.out.drop.bs) ?_
     (try dsimp only);try simp only[Act.put,aD,aB,aC,aA,aE,aF]
     refine BW (rs:=[7]) (by kernel_rfl) rfl (BS.cons rfl (by rfl) (fun K P=>?_) BS.nil);obtain⟨n0,n1,n2,n3,n4,nf⟩:=a.out.b0
     try go_simp
     refine P.out _ _ (.inl rfl) ?_
     (try dsimp only);try simp only[Act.put,aD,aB,aC,aA,aE,aF]
     refine Aal (by kernel_rfl) ?_ _;replace a:=aG (HA.out.box (.int .i64 4) (.string ⟨c.tx.toArray⟩) (.float .f64 0) (.slice none 0 0) (.complex .f64 (pl c.f).1 (pl c.f).2) 34);go_wp2;go_meet;exact⟨_,rfl,aG a.out.norow⟩
    try go_simp
    have HA:=aG a.out;replace a:=aG (a.out.box (.int .i64 0) (.string ⟨#[]⟩) (.float .f64 0) (.slice none 0 0) (.complex .f64 0 0) 34);refine P.out _ _ (.inr a.out.drop.bs) ?_
    (try dsimp only);try simp only[Act.put,aD,aB,aC,aA,aE,aF]
    refine BW (rs:=[5]) (by kernel_rfl) rfl (BS.cons rfl (by rfl) (fun K P=>?_) BS.nil)
    try go_simp
    refine P.out _ _ (.inr a.out.drop.bs) ?_
    (try dsimp only);try simp only[Act.put,aD,aB,aC,aA,aE,aF]
    refine BW (rs:=[7]) (by kernel_rfl) rfl (BS.cons rfl (by rfl) (fun K P=>?_) BS.nil);obtain⟨n0,n1,n2,n3,n4,nf⟩:=a.out.b0
    try go_simp
    refine P.out _ _ (.inl rfl) ?_
    (try dsimp only);try simp only[Act.put,aD,aB,aC,aA,aE,aF]
    refine Aal (by kernel_rfl) ?_ _;replace a:=aG (HA.out.box (.int .i64 4) (.string ⟨c.tx.toArray⟩) (.float .f64 0) (.slice none 0 0) (.complex .f64 (pl c.f).1 (pl c.f).2) 34);go_wp2;go_meet;exact⟨_,rfl,aG a.out.norow⟩
   try go_simp
   replace a:=aG (a.out.box (.int .i64 0) (.string ⟨#[]⟩) (.float .f64 0) (.slice none 0 0) (.complex .f64 0 0) 34).drew;refine P.out _ _ (.inr a.out.drop.bs) ?_
   (try dsimp only);try simp only[Act.put,aD,aB,aC,aA,aE,aF]
   refine BW (rs:=[4]) (by kernel_rfl) rfl (BS.cons rfl (by rfl) (fun K P=>?_) BS.nil)
   try go_simp
   go_at_call 16
   refine(C2 HP.out a.out.z c a0).mono ?_;rintro e w8 ⟨rfl,Q,M⟩;replace a:=aG (a.out.move Q M);clear Q M R;refine P.out _ _ (.inr a.out.drop.bs) ?_
   (try dsimp only);try simp only[Act.put,aD,aB,aC,aA,aE,aF]
   refine BW (rs:=[5]) (by kernel_rfl) rfl (BS.cons rfl (by rfl) (fun K P=>?_) BS.nil)
   try go_simp
   refine P.out _ _ (.inr a.out.drop.bs) ?_
   (try dsimp only);try simp only[Act.put,aD,aB,aC,aA,aE,aF]
   refine BW (rs:=[7]) (by kernel_rfl) rfl (BS.cons rfl (by rfl) (fun K P=>?_) BS.nil);obtain⟨n0,n1,n2,n3,n4,nf⟩:=a.out.b0
   try go_simp
   refine P.out _ _ (.inl rfl) ?_
   (try dsimp only);try simp only[Act.put,aD,aB,aC,aA,aE,aF]
   refine Aal (by kernel_rfl) ?_ _;replace a:=aG (a.out.store (.int .i64 4) (.string ⟨c.tx.toArray⟩) (.float .f64 0) (.slice none 0 0) (.complex .f64 (pl c.f).1 (pl c.f).2));go_wp2;go_meet;exact⟨_,rfl,aG a.out.norow⟩
  obtain⟨nb,rfl,a⟩:=hcut
  (try clear d j k l m u);(try clear x A B C D E);(try clear F G H I J L);(try clear m30 m31 m32 m33 m34 m3f);obtain⟨d,j,k,l,m,u⟩:=a.out.b0;obtain⟨x,A,B,C,D,E⟩:=a.out.b1;obtain⟨F,G,H,I,J,L⟩:=a.out.b2
  go_wp2_with (first | (go_at_call 19;(with_reducible refine(F1 HN.out a.out.z [91]).mono ?_);intro e w6 ha;rcases ha.part N hh with⟨f,V,rfl,M,hr⟩ | ⟨b,p6,v,rfl,⟨rfl,rfl,S⟩,M,O⟩;exact⟨rfl,BX hr (a.out.o.trans M)⟩;replace N:=O;clear O ha;(try dsimp only at N);replace a:=aG (a.out.quiet S);clear S M;cases b<;>(simp only[if_true,if_false,aH,reduceIte] at N);all_goals ((try clear d j k l m u);(try clear x A B C D E);(try clear F G H I J L);(try clear m30 m31 m32 m33 m34 m3f);obtain⟨d,j,k,l,m,u⟩:=a.out.b0;obtain⟨x,A,B,C,D,E⟩:=a.out.b1;obtain⟨F,G,H,I,J,L⟩:=a.out.b2);rotate_left;have HX:=aG (a.out.put0 (.int .i64 5));obtain⟨c0,d0,e0,f0,g0,i0⟩:=HX.out.b0;obtain⟨j0,l0,m0,o0,p0,q0⟩:=HX.out.b1;obtain⟨r0,t0,v0,x0,y0,a1⟩:=HX.out.b2;clear HX) | (go_at_call 57;(with_reducible refine(HI.out _ _ (a.out.put0 (.int .i64 5)).z (CA N hh)).mono ?_);intro e w7 ha;rcases ha.part N hh with⟨f,V,rfl,M,hr⟩ | ⟨l7,p7,v,rfl,⟨hk,Q⟩,M,O⟩;exact⟨rfl,BX hr ((a.out.put0 (.int .i64 5)).o.trans M)⟩;replace N:=O;clear O ha;(try dsimp only at N);obtain⟨Y,Z,rfl⟩:=hk.slice;replace a:=aG ((a.out.put0 (.int .i64 5)).read hk Q M);clear hk Q M;(try clear d j k l m u);(try clear x A B C D E);(try clear F G H I J L);(try clear m30 m31 m32 m33 m34 m3f);obtain⟨d,j,k,l,m,u⟩:=a.out.b0;obtain⟨x,A,B,C,D,E⟩:=a.out.b1;obtain⟨F,G,H,I,J,L⟩:=a.out.b2;(try clear d j k l m u);(try clear x A B C D E);(try clear F G H I J L);(try clear m30 m31 m32 m33 m34 m3f);obtain⟨d,j,k,l,m,u⟩:=a.out.b0;obtain⟨x,A,B,C,D,E⟩:=a.out.b1;obtain⟨F,G,H,I,J,L⟩:=a.out.b2;replace a:=aG (a.out.put3 (.slice Y l7.length Z));obtain⟨c0,d0,e0,f0,g0,i0⟩:=a.out.b0;obtain⟨j0,l0,m0,o0,p0,q0⟩:=a.out.b1;obtain⟨r0,t0,v0,x0,y0,a1⟩:=a.out.b2))
  ·obtain⟨z0,z1,z2,z3,z4,zf⟩:=((((a.out.b2.set0 (.int .i64 4)).set1 (.string ⟨c.tx.toArray⟩)).set2 (.float .f64 0)).set3 (.slice none 0 0)).set4 (.complex .f64 (pl c.f).1 (pl c.f).2)
   exact bodyPost_ret (v:=.agg #[.int .i64 4,.string ⟨c.tx.toArray⟩,.float .f64 0,.slice none 0 0,.complex .f64 (pl c.f).1 (pl c.f).2]) (by simp[results,results148,go_sem,z0,z1,z2,z3,z4]<;>exact rfl) rfl (a.out.done (t:=.mk 4 c.tx 0 (pl c.f) []) (Am.nil _) _ _ _ _ _ N)
  obtain⟨z0,z1,z2,z3,z4,zf⟩:=((((a.out.b2.set0 (.int .i64 5)).set1 (.string ⟨c.tx.toArray⟩)).set2 (.float .f64 0)).set3 (.slice Y l7.length Z)).set4 (.complex .f64 (pl c.f).1 (pl c.f).2);exact bodyPost_ret (v:=.agg #[.int .i64 5,.string ⟨c.tx.toArray⟩,.float .f64 0,.slice Y l7.length Z,.complex .f64 (pl c.f).1 (pl c.f).2]) (by simp[results,results148,go_sem,z0,z1,z2,z3,z4]<;>exact rfl) rfl (a.out.done (t:=.mk 5 c.tx 0 (pl c.f) l7) a.out.k0 _ _ _ _ _ N)
 obtain⟨z0,z1,z2,z3,z4,zf⟩:=((((a.out.b2.set0 (.int .i64 6)).set1 (.string ⟨#[]⟩)).set2 (.float .f64 0)).set3 (.slice (some ⟨w5.heap.size,0,none⟩) 1 1)).set4 (.complex .f64 (pl c.f).1 (pl c.f).2);exact bodyPost_ret (v:=.agg #[.int .i64 6,.string ⟨#[]⟩,.float .f64 0,.slice (some ⟨w5.heap.size,0,none⟩) 1 1,.complex .f64 (pl c.f).1 (pl c.f).2]) (by simp[results,results148,go_sem,z0,z1,z2,z3,z4]<;>exact rfl) rfl (a.out.done (t:=.mk 6 [] 0 (pl c.f) [y]) a.out.k0 _ _ _ _ _ N)
set_option linter.unusedSimpArgs false in
theorem X6 {nx:Nat->Bool->Tk} {pl:Nat->Nat×Nat} {X:List UInt8->Option Bool} {w0:World} {q:Nat} {s:ByteArray} (hN:F2 nx s w0) (hP:PlC pl s) (n:Nat)
  (hO:∀m,m<=n->NC nx pl X w0 q s m .cmp 90):NC nx pl X w0 q s (n+1) .mat 83:=by
 intro p W h Y;obtain⟨r,Z⟩:∃r,Dn nx pl X (n+1) .mat p=r:=⟨_,rfl⟩;rw[Z] at Y ⊢;rw[Dn] at Z;have A:=aG Z;have a:=aG (Fx.start1 h (.int .i64 0) (.string ⟨#[]⟩) (.float .f64 0) (.slice none 0 0) (.complex .f64 0 0) 34);have HN:=aG hN;have HP:=aG hP;have HO:=aG (fun m (hm:m<=n) p W h g=>hO m hm p W h g);clear Z h hN hP hO;obtain⟨b,c,d,j,k,l⟩:=a.out.b0
 go_in
 go_wp2_with (first | (go_at_call 90;(with_reducible refine(HO.out _ (aL _) _ _ a.out.z (CA A Y)).mono ?_);intro e w1 ha;rcases ha.part A Y with⟨f,Z,rfl,R,hr⟩ | ⟨_,p1,v,rfl,⟨⟨u,kv,rfl,rfl,U⟩,V⟩,R,J⟩;exact⟨rfl,BX hr (a.out.o.trans R)⟩;replace A:=J;clear J ha;(try dsimp only at A);obtain⟨au,cu,rfl⟩:=U.slice;replace a:=aG ((a.out.read U V R).box (.int .i64 u.kd) (.string ⟨u.nm.toArray⟩) (.float .f64 u.x) (.slice au u.ks.length cu) (.complex .f64 u.z.1 u.z.2) 34);clear U V R;(try dsimp only[hd1,aN,aI,aJ,aK] at A);(try clear b c d j k l);(try clear C D E F G H);(try clear L M N O P Q);(try clear m30 m31 m32 m33 m34 m3f);obtain⟨b,c,d,j,k,l⟩:=a.out.b0;obtain⟨C,D,E,F,G,H⟩:=a.out.b1;unfold CJ))
 (try clear b c d j k l);(try clear C D E F G H);(try clear L M N O P Q);(try clear m30 m31 m32 m33 m34 m3f)
 go_loopg [] n (fun g wr=>∃(m:Nat) (x:Tr) (ax:Option Addr) (cx:Nat) (pr:Ps),m=g/\m<=n/\Hid (Dn nx pl X m (.matL x) pr=r)/\Hid (Fx w0 W q (W.heap.size+1) s pr [⟨w1.heap.size,.int .i64 x.kd,.string ⟨x.nm.toArray⟩,.float .f64 x.x,.slice ax x.ks.length cx,.complex .f64 x.z.1 x.z.2⟩,⟨W.heap.size,.int .i64 0,.string ⟨#[]⟩,.float .f64 0,.slice none 0 0,.complex .f64 0 0⟩] [(x.ks,.slice ax x.ks.length cx)] wr))
 case atStart=>exact⟨n,u,au,cu,p1,rfl,aL _,A,a⟩
 clear a A;obtain⟨m,x,ax,cx,pr,rfl,c0,A,a⟩:=hrel
 cases m with
 | zero=>exact absurd A.out.symm Y
 | succ m =>
 replace A:=aG (by have:=A.out;rw[Dn] at this;exact this);obtain⟨b,c,d,j,k,l⟩:=a.out.b0;obtain⟨C,D,E,F,G,H⟩:=a.out.b1
 go_wp2_with (first | (go_at_call 15;(with_reducible refine(DS HN.out a.out.z false).mono ?_);intro e w2 ha;rcases ha.part A Y with⟨f,Z,rfl,R,hr⟩ | ⟨I,p2,v,rfl,⟨rfl,rfl,h0,et,a0,hb⟩,R,J⟩;exact⟨rfl,BX hr (a.out.o.trans R)⟩;replace A:=J;clear J ha;(try dsimp only at A);replace a:=aG ((a.out.quiet hb).box (.int .i64 I.kd) (.string ⟨I.tx.toArray⟩) (.float .f64 I.nm) (.int .i64 I.f) (.int .i64 I.t) 49);clear h0 et hb R;(try clear b c d j k l);(try clear C D E F G H);(try clear L M N O P Q);(try clear m30 m31 m32 m33 m34 m3f);obtain⟨b,c,d,j,k,l⟩:=a.out.b0;obtain⟨C,D,E,F,G,H⟩:=a.out.b1;obtain⟨L,M,N,O,P,Q⟩:=a.out.b2;unfold G1) | (go_at_call 12;(with_reducible refine(EE I [126] _).mono ?_);rintro e w3 ⟨rfl,hb⟩;replace a:=aG (a.out.quiet hb);clear hb;cases hs:EP I [126]<;>(simp only[hs,if_true,if_false,aH,reduceIte,or_true,true_or,or_false,false_or,and_true,true_and,and_false,false_and] at A;clear hs);all_goals ((try clear b c d j k l);(try clear C D E F G H);(try clear L M N O P Q);(try clear m30 m31 m32 m33 m34 m3f);obtain⟨b,c,d,j,k,l⟩:=a.out.b0;obtain⟨C,D,E,F,G,H⟩:=a.out.b1;obtain⟨L,M,N,O,P,Q⟩:=a.out.b2)) | (go_at_call 12;(with_reducible refine(EE I [33,126] _).mono ?_);rintro e w4 ⟨rfl,hb⟩;replace a:=aG (a.out.quiet hb);clear hb;cases hs:EP I [33,126]<;>(simp only[hs,if_true,if_false,aH,reduceIte,or_true,true_or,or_false,false_or,and_true,true_and,and_false,false_and] at A;clear hs);all_goals ((try clear b c d j k l);(try clear C D E F G H);(try clear L M N O P Q);(try clear m30 m31 m32 m33 m34 m3f);obtain⟨b,c,d,j,k,l⟩:=a.out.b0;obtain⟨C,D,E,F,G,H⟩:=a.out.b1;obtain⟨L,M,N,O,P,Q⟩:=a.out.b2)) | (go_at_call 16;(with_reducible refine(C2 HP.out a.out.z I a0).mono ?_);rintro e w7 ⟨rfl,V,R⟩;replace a:=aG (a.out.move V R);clear V R;(try clear b c d j k l);(try clear C D E F G H);(try clear L M N O P Q);(try clear m30 m31 m32 m33 m34 m3f);obtain⟨b,c,d,j,k,l⟩:=a.out.b0;obtain⟨C,D,E,F,G,H⟩:=a.out.b1;obtain⟨L,M,N,O,P,Q⟩:=a.out.b2))
 ·obtain⟨z0,z1,z2,z3,z4,zf⟩:=((((a.out.b2.set0 (.int .i64 x.kd)).set1 (.string ⟨x.nm.toArray⟩)).set2 (.float .f64 x.x)).set3 (.slice ax x.ks.length cx)).set4 (.complex .f64 x.z.1 x.z.2)
  exact bodyPost_ret (v:=CJ x (.slice ax x.ks.length cx)) (by simp[CJ,results,results83,go_sem,z0,z1,z2,z3,z4]<;>exact rfl) rfl (a.out.done a.out.k0 _ _ _ _ _ A)
 ·(try clear b c d j k l);(try clear C D E F G H);(try clear L M N O P Q);(try clear m30 m31 m32 m33 m34 m3f)
  refine a.out.region 8 (by kernel_rfl) (fun B=>?_);refine BT (i:=0) (v:=.pointer (some ⟨w2.heap.size,1,none⟩)) rfl (by kernel_rfl) (fun _ _ _ h=>h) (Or.inl ⟨by rfl,fun w T=>by go_simp⟩) B ?_
  (try dsimp only);try simp only[Act.put,aD,aB,aC,aA,aE,aF]
  refine BT (i:=1) (v:=.string ⟨I.tx.toArray⟩) rfl (by kernel_rfl) (fun _ _ _ h=>h) (Or.inl ⟨by rfl,fun w T=>by obtain⟨s0,s1,s2,s3,s4,-⟩:=T.b0;go_simp⟩) B ?_
  (try dsimp only);try simp only[Act.put,aD,aB,aC,aA,aE,aF]
  refine BT (i:=2) (v:=.complex .f64 (pl I.f).1 (pl I.f).2) rfl (by kernel_rfl) (fun _ _ _ h=>h) (Or.inl ⟨by rfl,fun w T=>by go_simp⟩) B ?_
  (try dsimp only);try simp only[Act.put,aD,aB,aC,aA,aE,aF]
  refine BT (i:=3) (v:=(.agg #[.int .i64 x.kd,.string ⟨x.nm.toArray⟩,.float .f64 x.x,.slice ax x.ks.length cx,.complex .f64 x.z.1 x.z.2])) rfl (by kernel_rfl) (fun _ _ _ h=>h) (Or.inl ⟨by rfl,fun w T=>by obtain⟨s0,s1,s2,s3,s4,-⟩:=T.b1;go_simp⟩) B ?_
  (try dsimp only);try simp only[Act.put,aD,aB,aC,aA,aE,aF]
  refine BT (i:=4) (v:=.pointer (some ⟨q,0,none⟩)) rfl (by kernel_rfl) (fun _ _ _ h=>h) (Or.inl ⟨by rfl,fun w T=>by go_simp⟩) B ?_
  (try dsimp only);try simp only[Act.put,aD,aB,aC,aA,aE,aF]
  refine BW (rs:=[5]) (by kernel_rfl) rfl (BS.cons rfl (by rfl) (fun K S=>?_) BS.nil)
  try go_simp
  go_at_call 90
  refine(HO.out _ (by omega) _ _ a.out.drew.z (CA A Y)).mono ?_;intro e w8 ha;rcases ha.part A Y with⟨f,Z,rfl,R,hr⟩ | ⟨_,p8,v,rfl,⟨⟨y,kv,rfl,rfl,U⟩,V⟩,R,J⟩
  ·exact⟨rfl,BX hr (a.out.drew.o.trans R)⟩
  replace A:=J;clear J ha
  (try dsimp only at A)
  obtain⟨ay,cy,rfl⟩:=U.slice;replace a:=aG (a.out.drew.read U V R);clear U V R B;unfold CJ;refine S.out _ _ (.inr a.out.bs) ?_
  (try dsimp only);try simp only[Act.put,aD,aB,aC,aA,aE,aF]
  refine BW (rs:=[6]) (by kernel_rfl) rfl (BS.cons rfl (by rfl) (fun K S=>?_) BS.nil)
  try go_simp
  replace a:=aG a.out.kid2;refine S.out _ _ (.inr a.out.bs) ?_
  (try dsimp only);try simp only[Act.put,aD,aB,aC,aA,aE,aF]
  refine BW (rs:=[7]) (by kernel_rfl) rfl (BS.cons rfl (by rfl) (fun K S=>?_) BS.nil)
  try go_simp
  refine S.out _ _ (.inr a.out.bs) ?_
  (try dsimp only);try simp only[Act.put,aD,aB,aC,aA,aE,aF]
  obtain⟨n0,n1,n2,n3,n4,nf⟩:=a.out.drop.b0;refine BW (rs:=[8]) (by kernel_rfl) rfl (BS.cons rfl (by rfl) (fun K S=>?_) BS.nil)
  try go_simp
  replace a:=aG (a.out.drop.store (.int .i64 12) (.string ⟨I.tx.toArray⟩) (.float .f64 0) (.slice (some ⟨w8.heap.size,0,none⟩) 2 2) (.complex .f64 (pl I.f).1 (pl I.f).2));refine S.out _ _ (.inl rfl) ?_
  (try dsimp only);try simp only[Act.put,aD,aB,aC,aA,aE,aF]
  refine Aal (by kernel_rfl) ?_ _;go_wp2
  go_roundg m
  case rel=>exact⟨m,.mk 12 I.tx 0 (pl I.f) [x,y],some ⟨w8.heap.size,0,none⟩,2,p8,rfl,by omega,A,aG a.out.row1⟩
  all_goals omega
 (try clear b c d j k l);(try clear C D E F G H);(try clear L M N O P Q);(try clear m30 m31 m32 m33 m34 m3f)
 refine a.out.region 8 (by kernel_rfl) (fun B=>?_);refine BT (i:=0) (v:=.pointer (some ⟨w2.heap.size,1,none⟩)) rfl (by kernel_rfl) (fun _ _ _ h=>h) (Or.inl ⟨by rfl,fun w T=>by go_simp⟩) B ?_
 (try dsimp only);try simp only[Act.put,aD,aB,aC,aA,aE,aF]
 refine BT (i:=1) (v:=.string ⟨I.tx.toArray⟩) rfl (by kernel_rfl) (fun _ _ _ h=>h) (Or.inl ⟨by rfl,fun w T=>by obtain⟨s0,s1,s2,s3,s4,-⟩:=T.b0;go_simp⟩) B ?_
 (try dsimp only);try simp only[Act.put,aD,aB,aC,aA,aE,aF]
 refine BT (i:=2) (v:=.complex .f64 (pl I.f).1 (pl I.f).2) rfl (by kernel_rfl) (fun _ _ _ h=>h) (Or.inl ⟨by rfl,fun w T=>by go_simp⟩) B ?_
 (try dsimp only);try simp only[Act.put,aD,aB,aC,aA,aE,aF]
 refine BT (i:=3) (v:=(.agg #[.int .i64 x.kd,.string ⟨x.nm.toArray⟩,.float .f64 x.x,.slice ax x.ks.length cx,.complex .f64 x.z.1 x.z.2])) rfl (by kernel_rfl) (fun _ _ _ h=>h) (Or.inl ⟨by rfl,fun w T=>by obtain⟨s0,s1,s2,s3,s4,-⟩:=T.b1;go_simp⟩) B ?_
 (try dsimp only);try simp only[Act.put,aD,aB,aC,aA,aE,aF]
 refine BT (i:=4) (v:=.pointer (some ⟨q,0,none⟩)) rfl (by kernel_rfl) (fun _ _ _ h=>h) (Or.inl ⟨by rfl,fun w T=>by go_simp⟩) B ?_
 (try dsimp only);try simp only[Act.put,aD,aB,aC,aA,aE,aF]
 refine BW (rs:=[5]) (by kernel_rfl) rfl (BS.cons rfl (by rfl) (fun K S=>?_) BS.nil)
 try go_simp
 go_at_call 90
 refine(HO.out _ (by omega) _ _ a.out.drew.z (CA A Y)).mono ?_;intro e w8 ha;rcases ha.part A Y with⟨f,Z,rfl,R,hr⟩ | ⟨_,p8,v,rfl,⟨⟨y,kv,rfl,rfl,U⟩,V⟩,R,J⟩
 ·exact⟨rfl,BX hr (a.out.drew.o.trans R)⟩
 replace A:=J;clear J ha
 (try dsimp only at A)
 obtain⟨ay,cy,rfl⟩:=U.slice;replace a:=aG (a.out.drew.read U V R);clear U V R B;unfold CJ;refine S.out _ _ (.inr a.out.bs) ?_
 (try dsimp only);try simp only[Act.put,aD,aB,aC,aA,aE,aF]
 refine BW (rs:=[6]) (by kernel_rfl) rfl (BS.cons rfl (by rfl) (fun K S=>?_) BS.nil)
 try go_simp
 replace a:=aG a.out.kid2;refine S.out _ _ (.inr a.out.bs) ?_
 (try dsimp only);try simp only[Act.put,aD,aB,aC,aA,aE,aF]
 refine BW (rs:=[7]) (by kernel_rfl) rfl (BS.cons rfl (by rfl) (fun K S=>?_) BS.nil)
 try go_simp
 refine S.out _ _ (.inr a.out.bs) ?_
 (try dsimp only);try simp only[Act.put,aD,aB,aC,aA,aE,aF]
 obtain⟨n0,n1,n2,n3,n4,nf⟩:=a.out.drop.b0;refine BW (rs:=[8]) (by kernel_rfl) rfl (BS.cons rfl (by rfl) (fun K S=>?_) BS.nil)
 try go_simp
 replace a:=aG (a.out.drop.store (.int .i64 12) (.string ⟨I.tx.toArray⟩) (.float .f64 0) (.slice (some ⟨w8.heap.size,0,none⟩) 2 2) (.complex .f64 (pl I.f).1 (pl I.f).2));refine S.out _ _ (.inl rfl) ?_
 (try dsimp only);try simp only[Act.put,aD,aB,aC,aA,aE,aF]
 refine Aal (by kernel_rfl) ?_ _;go_wp2
 go_roundg m
 case rel=>exact⟨m,.mk 12 I.tx 0 (pl I.f) [x,y],some ⟨w8.heap.size,0,none⟩,2,p8,rfl,by omega,A,aG a.out.row1⟩
 all_goals omega
set_option linter.unusedSimpArgs false in
theorem Y3 {nx:Nat->Bool->Tk} {pl:Nat->Nat×Nat} {J:List UInt8->Option Bool} {V:World} {q:Nat} {s:ByteArray} (hN:F2 nx s V) (hP:PlC pl s) (n:Nat)
  (hO:∀m,m<=n->NC nx pl J V q s m .sum 123):NC nx pl J V q s (n+1) .cat 105:=by
 intro p W h N;obtain⟨r,L⟩:∃r,Dn nx pl J (n+1) .cat p=r:=⟨_,rfl⟩;rw[L] at N ⊢;rw[Dn] at L;have b:=aG L;have a:=aG (Fx.start1 h (.int .i64 0) (.string ⟨#[]⟩) (.float .f64 0) (.slice none 0 0) (.complex .f64 0 0) 34);have HN:=aG hN;have HP:=aG hP;have Y:=aG (fun m (hm:m<=n) p W h g=>hO m hm p W h g);clear L h hN hP hO;obtain⟨c,d,j,k,l,t⟩:=a.out.b0
 go_in
 go_wp2_with (first | (go_at_call 123;(with_reducible refine(Y.out _ (aL _) _ _ a.out.z (CA b N)).mono ?_);intro e w1 ha;rcases ha.part b N with⟨f,L,rfl,H,T⟩ | ⟨_,p1,v,rfl,⟨⟨u,kv,rfl,rfl,O⟩,U⟩,H,A⟩;exact⟨rfl,BX T (a.out.o.trans H)⟩;replace b:=A;clear A ha;(try dsimp only at b);obtain⟨Z,cu,rfl⟩:=O.slice;replace a:=aG ((a.out.read O U H).box (.int .i64 u.kd) (.string ⟨u.nm.toArray⟩) (.float .f64 u.x) (.slice Z u.ks.length cu) (.complex .f64 u.z.1 u.z.2) 34);clear O U H;(try dsimp only[hd1,aN,aI,aJ,aK] at b);(try clear c d j k l t);(try clear B C D E F G);(try clear m20 m21 m22 m23 m24 m2f);(try clear m30 m31 m32 m33 m34 m3f);obtain⟨c,d,j,k,l,t⟩:=a.out.b0;obtain⟨B,C,D,E,F,G⟩:=a.out.b1;unfold CJ))
 (try clear c d j k l t);(try clear B C D E F G);(try clear m20 m21 m22 m23 m24 m2f);(try clear m30 m31 m32 m33 m34 m3f)
 go_loopg [] n (fun g wr=>∃(m:Nat) (x:Tr) (P:Option Addr) (Q:Nat) (X:Ps),m=g/\m<=n/\Hid (Dn nx pl J m (.catL x) X=r)/\Hid (Fx V W q (W.heap.size+1) s X [⟨w1.heap.size,.int .i64 x.kd,.string ⟨x.nm.toArray⟩,.float .f64 x.x,.slice P x.ks.length Q,.complex .f64 x.z.1 x.z.2⟩,⟨W.heap.size,.int .i64 0,.string ⟨#[]⟩,.float .f64 0,.slice none 0 0,.complex .f64 0 0⟩] [(x.ks,.slice P x.ks.length Q)] wr))
 case atStart=>exact⟨n,u,Z,cu,p1,rfl,aL _,b,a⟩
 clear a b;obtain⟨m,x,P,Q,X,rfl,c0,b,a⟩:=hrel
 cases m with
 | zero=>exact absurd b.out.symm N
 | succ m =>
 replace b:=aG (by have:=b.out;rw[Dn] at this;exact this);obtain⟨c,d,j,k,l,t⟩:=a.out.b0;obtain⟨B,C,D,E,F,G⟩:=a.out.b1
 go_wp2_with (first | (go_at_call 15;(with_reducible refine(DS HN.out a.out.z false).mono ?_);intro e w2 ha;rcases ha.part b N with⟨f,L,rfl,H,T⟩ | ⟨t2,p2,v,rfl,⟨rfl,rfl,h0,et,a0,S⟩,H,A⟩;exact⟨rfl,BX T (a.out.o.trans H)⟩;replace b:=A;clear A ha;(try dsimp only at b);replace a:=aG ((a.out.quiet S));clear h0 et S H;(try clear c d j k l t);(try clear B C D E F G);(try clear m20 m21 m22 m23 m24 m2f);(try clear m30 m31 m32 m33 m34 m3f);obtain⟨c,d,j,k,l,t⟩:=a.out.b0;obtain⟨B,C,D,E,F,G⟩:=a.out.b1;unfold G1) | (go_at_call 124;(with_reducible refine(Yz t2 _).mono ?_);rintro e w3 ⟨rfl,S⟩;replace a:=aG (a.out.quiet S);clear S;cases hs:O3 t2<;>(simp only[hs,if_true,if_false,aH,reduceIte,and_true,true_and,and_false,false_and] at b;clear hs);all_goals ((try clear c d j k l t);(try clear B C D E F G);(try clear m20 m21 m22 m23 m24 m2f);(try clear m30 m31 m32 m33 m34 m3f);obtain⟨c,d,j,k,l,t⟩:=a.out.b0;obtain⟨B,C,D,E,F,G⟩:=a.out.b1)))
 ·obtain⟨z0,z1,z2,z3,z4,zf⟩:=((((a.out.b1.set0 (.int .i64 x.kd)).set1 (.string ⟨x.nm.toArray⟩)).set2 (.float .f64 x.x)).set3 (.slice P x.ks.length Q)).set4 (.complex .f64 x.z.1 x.z.2)
  exact bodyPost_ret (v:=CJ x (.slice P x.ks.length Q)) (by simp[CJ,results,results105,go_sem,z0,z1,z2,z3,z4]<;>exact rfl) rfl (a.out.done a.out.k0 _ _ _ _ _ b)
 (try clear c d j k l t);(try clear B C D E F G);(try clear m20 m21 m22 m23 m24 m2f);(try clear m30 m31 m32 m33 m34 m3f)
 refine a.out.region 7 (by kernel_rfl) (fun I=>?_);refine BT (i:=0) (v:=.pointer (some ⟨w1.heap.size,4,none⟩)) rfl (by kernel_rfl) (fun _ _ _ h=>h) (Or.inl ⟨by rfl,fun w R=>by go_simp⟩) I ?_
 (try dsimp only);try simp only[Act.put,aD,aB,aC,aA,aE,aF]
 refine BT (i:=1) (v:=.complex .f64 x.z.1 x.z.2) rfl (by kernel_rfl) (fun _ _ _ h=>h) (Or.inl ⟨by rfl,fun w R=>by obtain⟨s0,s1,s2,s3,s4,-⟩:=R.b0;go_simp⟩) I ?_
 (try dsimp only);try simp only[Act.put,aD,aB,aC,aA,aE,aF]
 refine BT (i:=2) (v:=(.agg #[.int .i64 x.kd,.string ⟨x.nm.toArray⟩,.float .f64 x.x,.slice P x.ks.length Q,.complex .f64 x.z.1 x.z.2])) rfl (by kernel_rfl) (fun _ _ _ h=>h) (Or.inl ⟨by rfl,fun w R=>by obtain⟨s0,s1,s2,s3,s4,-⟩:=R.b0;go_simp⟩) I ?_
 (try dsimp only);try simp only[Act.put,aD,aB,aC,aA,aE,aF]
 refine BT (i:=3) (v:=.pointer (some ⟨q,0,none⟩)) rfl (by kernel_rfl) (fun _ _ _ h=>h) (Or.inl ⟨by rfl,fun w R=>by go_simp⟩) I ?_
 (try dsimp only);try simp only[Act.put,aD,aB,aC,aA,aE,aF]
 refine BW (rs:=[4]) (by kernel_rfl) rfl (BS.cons rfl (by rfl) (fun K M=>?_) BS.nil)
 try go_simp
 go_at_call 123
 refine(Y.out _ (by omega) _ _ a.out.drew.z (CA b N)).mono ?_;intro e w8 ha;rcases ha.part b N with⟨f,L,rfl,H,T⟩ | ⟨_,p8,v,rfl,⟨⟨y,kv,rfl,rfl,O⟩,U⟩,H,A⟩
 ·exact⟨rfl,BX T (a.out.drew.o.trans H)⟩
 replace b:=A;clear A ha
 (try dsimp only at b)
 obtain⟨ay,cy,rfl⟩:=O.slice;replace a:=aG (a.out.drew.read O U H);clear O U H I;unfold CJ;refine M.out _ _ (.inr a.out.bs) ?_
 (try dsimp only);try simp only[Act.put,aD,aB,aC,aA,aE,aF]
 refine BW (rs:=[5]) (by kernel_rfl) rfl (BS.cons rfl (by rfl) (fun K M=>?_) BS.nil)
 try go_simp
 replace a:=aG a.out.kid2;refine M.out _ _ (.inr a.out.bs) ?_
 (try dsimp only);try simp only[Act.put,aD,aB,aC,aA,aE,aF]
 refine BW (rs:=[6]) (by kernel_rfl) rfl (BS.cons rfl (by rfl) (fun K M=>?_) BS.nil)
 try go_simp
 refine M.out _ _ (.inr a.out.bs) ?_
 (try dsimp only);try simp only[Act.put,aD,aB,aC,aA,aE,aF]
 obtain⟨n0,n1,n2,n3,n4,nf⟩:=a.out.b0;refine BW (rs:=[7]) (by kernel_rfl) rfl (BS.cons rfl (by rfl) (fun K M=>?_) BS.nil)
 try go_simp
 replace a:=aG (a.out.store (.int .i64 14) (.string ⟨#[]⟩) (.float .f64 0) (.slice (some ⟨w8.heap.size,0,none⟩) 2 2) (.complex .f64 x.z.1 x.z.2));refine M.out _ _ (.inl rfl) ?_
 (try dsimp only);try simp only[Act.put,aD,aB,aC,aA,aE,aF]
 refine Aal (by kernel_rfl) ?_ _;go_wp2
 go_roundg m
 case rel=>exact⟨m,.mk 14 [] 0 x.z [x,y],some ⟨w8.heap.size,0,none⟩,2,p8,rfl,by omega,b,aG a.out.row1⟩
 all_goals omega
end Go.Proofs.YtjolfpcpcaocmaaGreatDoor
