/- Co Cp Cq -/
import Derived.Test.YtjolfpcpcaocmaaGreatDoorCn
import Derived.Test.YtjolfpcpcaocmaaGreatDoorCk
import Derived.Test.YtjolfpcpcaocmaaGreatDoorCj
import Derived.Test.YtjolfpcpcaocmaaGreatDoorCc
import Derived.Deep.AppendLies
set_option maxRecDepth 100000
set_option maxHeartbeats 4000000
open Go.Lib renaming hid->aA
open List renaming pairwise_cons->aB,mem_cons->aC
open Bool renaming false_eq_true->aD
namespace Go.Proofs.YtjolfpcpcaocmaaGreatDoor
open Go.RowKit
structure YW (nx:Nat->Bool->Tk) (pl:Nat->Nat×Nat) (ere:List UInt8->Option Bool) (w0:World) (q:Nat) (s:ByteArray) (n:Nat):Prop where
 expr:NC nx pl ere w0 q s n .expr 27
 cond:NC nx pl ere w0 q s n .cond 43
 or:NC nx pl ere w0 q s n .or 59
 and:NC nx pl ere w0 q s n .and 70
 inn:NC nx pl ere w0 q s n .inn 76
 mat:NC nx pl ere w0 q s n .mat 83
 cmp:NC nx pl ere w0 q s n .cmp 90
 cat:NC nx pl ere w0 q s n .cat 105
 sum:NC nx pl ere w0 q s n .sum 123
 prod:NC nx pl ere w0 q s n .prod 133
 unary:NC nx pl ere w0 q s n .unary 139
 power:NC nx pl ere w0 q s n .power 142
 post:NC nx pl ere w0 q s n .post 143
 primary:NC nx pl ere w0 q s n .primary 144
 operand:NC nx pl ere w0 q s n .operand 145
 target:NC nx pl ere w0 q s n .target 148
 dollar:NC nx pl ere w0 q s n .dollar 153
 cond1:NC nx pl ere w0 q s n .cond1 37
 list:LC nx pl ere w0 q s n .list 68
 args:LC nx pl ere w0 q s n .args 147
 index:LC nx pl ere w0 q s n .index 57
 has:HC nx pl ere w0 q s n
variable {nx:Nat->Bool->Tk} {pl:Nat->Nat×Nat} {ere:List UInt8->Option Bool} {w0:World} {q:Nat} {s:ByteArray}
theorem YW.zero:YW nx pl ere w0 q s 0:=by
 constructor<;>first | exact fun p W h b=>absurd rfl b | exact fun l a d c S p W _ h _ _ b=>absurd rfl b
theorem Yy (a:F2 nx s w0) (b:PlC pl s) (d:TZ ere s w0):∀n,n<=1000000->∀m,m<=n->YW nx pl ere w0 q s m:=by
 intro n
 induction n with
 | zero=>intro _ m c;obtain rfl:m=0:=by omega
         exact YW.zero
 | succ n f =>
   intro g m c;have H:=f (by omega);rcases Nat.lt_or_ge m (n+1) with e | e
   ·exact H m (by omega)
   obtain rfl:m=n+1:=(by omega);have h:=H n (Nat.le_refl _)
   exact {
    expr:=Yx a b n h.cond h.expr
    cond:=Yu a b n h.or h.expr
    or:=ZC a b n fun m c=>(H m c).and
    and:=YZ a b n fun m c=>(H m c).inn
    inn:=Zu a b n (fun m c=>(H m c).mat) fun m c=>(H m c).has
    mat:=X6 a b n fun m c=>(H m c).cmp
    cmp:=Xs a b n h.cat
    cat:=Y3 a b n fun m c=>(H m c).sum
    sum:=Zn a b n fun m c=>(H m c).prod
    prod:=YN a b n fun m c=>(H m c).unary
    unary:=Yi a b n h.unary h.power
    power:=Yc a b n h.post h.unary
    post:=YM a b n h.primary
    primary:=Xw a b n h.operand h.list h.has
    operand:=Xu a b n h.args h.target d
    target:=XQ a b n h.index h.dollar
    dollar:=XF a n h.cond1 h.operand
    cond1:=XW a b n h.expr
    list:=YB a b n (fun m c=>(H m c).expr) (by omega)
    args:=Yt a b n h.list
    index:=XZ a b n h.list
    has:=Y7 a b n }
theorem IE (b:F2 nx s w0) (c:PlC pl s) (a:TZ ere s w0) (n:Nat) (d:n<=1000000):YW nx pl ere w0 q s n:=Yy b c a n d n (Nat.le_refl _)
open Go.Proofs.Tryz
def SC (nx:Nat->Bool->Tk) (pl:Nat->Nat×Nat) (a:List UInt8->Option Bool) (w0:World) (q:Nat) (s:ByteArray) (n:Nat) (k:NS) (f:FuncId):Prop :=
 ∀(p:Ps) (W:World),Pz w0 q s p W->It nx pl a n k p ≠ .hush->Calls prog f #[.pointer (some ⟨q,0,none⟩)] W (HJ q W (It nx pl a n k p) (NM w0 q s W))
def MC (nx:Nat->Bool->Tk) (pl:Nat->Nat×Nat) (a:List UInt8->Option Bool) (w0:World) (q:Nat) (s:ByteArray) (n:Nat) (k:NS) (f:FuncId):Prop :=
 ∀(p:Ps) (W:World),Pz w0 q s p W->It nx pl a n k p ≠ .hush->Calls prog f #[.pointer (some ⟨q,0,none⟩)] W (HJ q W (It nx pl a n k p) (ZO w0 q s W))
section
variable {w0 W w w':World} {q B:Nat} {s:ByteArray} {p p':Ps} {l:List B5} {ks:List (List Tr×Value)}
theorem Pz.outs (h:Pz w0 q s p w) (v:Int):Pz w0 q s { p with outs:=v } (w.setCell ⟨q,3,none⟩ (.int .i64 v)) :=
 ⟨h.below.setCell (p:=⟨q,3,none⟩) h.hq _,h.hq,h.c.set3 _,h.ha,h.hs,h.d1,h.d2⟩
theorem Fx.outs (h:Fx w0 W q B s p l ks w) (v:Int):Fx w0 W q B s { p with outs:=v } l ks (w.setCell ⟨q,3,none⟩ (.int .i64 v)):=h.move (h.z.outs v) ((Ae.refl q w).set 3 _)
theorem Fx.upd1 {x:B5} {b:Nat} {v0 v1 v2 v3 v4 u0 u1 u2 u3 u4:Value} (h:Fx w0 W q B s p (x::⟨b,v0,v1,v2,v3,v4⟩::l) ks w) (g:Ae b w w') (r:C5 w' b u0 u1 u2 u3 u4):Fx w0 W q B s p (x::⟨b,u0,u1,u2,u3,u4⟩::l) ks w':=by
 have c:=(h.b _ (.tail _ (.head _))).1;have t:=h.hq;have f:=aB.1 h.d;have n:=aB.1 f.2;have i:=f.1 ⟨b,v0,v1,v2,v3,v4⟩ (.head _);dsimp only at c n i;refine⟨h.z.other g (Nat.le_trans h.hw c) (by omega),h.o.under g c,h.hq,h.hw,⟨h.hB.1,Nat.le_trans h.hB.2 g.size⟩,fun y a=>?_,fun y a=>?_,aB.2 ⟨fun y a=>?_,aB.2 n⟩⟩
 ·rcases aC.1 a with rfl | a
  ·exact⟨(h.b _ (.head _)).1,(h.b _ (.head _)).2.only g (by omega)⟩
  rcases aC.1 a with rfl | a
  ·exact⟨c,r⟩
  have:=n.1 y a;exact⟨(h.b y (.tail _ (.tail _ a))).1,(h.b y (.tail _ (.tail _ a))).2.only g (by omega)⟩
 ·refine((h.k y a).only g (fun e=>e.2 _ (.tail _ (.head _)) rfl)).mono fun j _ e=>⟨e.1,fun z m=>?_⟩
  rcases aC.1 m with rfl | m
  ·exact e.2 _ (.head _)
  rcases aC.1 m with rfl | m
  ·exact e.2 ⟨b,v0,v1,v2,v3,v4⟩ (.tail _ (.head _))
  exact e.2 _ (.tail _ (.tail _ m))
 rcases aC.1 a with rfl | a
 ·exact i
 exact f.1 y (.tail _ a)
theorem Fx.store1 {x:B5} {b:Nat} {v0 v1 v2 v3 v4:Value} (h:Fx w0 W q B s p (x::⟨b,v0,v1,v2,v3,v4⟩::l) ks w) (u0 u1 u2 u3 u4:Value) :
  Fx w0 W q B s p (x::⟨b,u0,u1,u2,u3,u4⟩::l) ks (((((w.setCell ⟨b,0,none⟩ u0).setCell ⟨b,1,none⟩ u1).setCell ⟨b,2,none⟩ u2).setCell ⟨b,3,none⟩ u3).setCell ⟨b,4,none⟩ u4) :=
 h.upd1 ((((((Ae.refl b w).set 0 u0).set 1 u1).set 2 u2).set 3 u3).set 4 u4) (((((h.b1.set0 u0).set1 u1).set2 u2).set3 u3).set4 u4)
theorem Fx.zz {x:B5} {b r:Nat} {v0 v1 v2 v3 v4 u0 u1 u2 u3 u4:Value} (h:Fx w0 W q B s p (⟨b,v0,v1,v2,v3,v4⟩::x::⟨r,u0,u1,u2,u3,u4⟩::l) ks w) :
 C5 (((((w.setCell ⟨r,0,none⟩ v0).setCell ⟨r,1,none⟩ v1).setCell ⟨r,2,none⟩ v2).setCell ⟨r,3,none⟩ v3).setCell ⟨r,4,none⟩ v4) r v0 v1 v2 v3 v4:=((((h.b2.set0 v0).set1 v1).set2 v2).set3 v3).set4 v4
end
theorem Aau (t:Tk):(t.kd=1/\(t.kd==1)=true)\/(¬ t.kd=1/\t.kd=0/\(t.kd==1)=false/\(t.kd==0)=true)\/(¬ t.kd=1/\¬ t.kd=0/\(t.kd==1)=false/\(t.kd==0)=false):=by
 rcases Xt t.kd 1 with⟨a,b1,-⟩ | ⟨a,b1,-⟩
 ·exact .inl ⟨a,b1⟩
 rcases Xt t.kd 0 with⟨b,b0,-⟩ | ⟨b,b0,-⟩
 ·exact .inr (.inl ⟨a,b,b1,b0⟩)
 exact .inr (.inr ⟨a,b,b1,b0⟩)
set_option linter.unusedSimpArgs false in
theorem Zt {nx:Nat->Bool->Tk} {pl:Nat->Nat×Nat} {C:World} {q:Nat} {s:ByteArray} (D:F2 nx s C) (E:PlC pl s):∀(p:Ps) (W:World),Pz C q s p W->Y4 nx p ≠ .hush->Calls prog 42 #[.pointer (some ⟨q,0,none⟩)] W (HJ q W (Y4 nx p) fun _ L v M=>v = .tuple #[]/\Pz C q s L M):=by
 intro p W h F;obtain⟨r,x⟩:∃r,Y4 nx p=r:=⟨_,rfl⟩;rw[x] at F ⊢;rw[Y4] at x;have l:=aA x;have a:=aA (Fx.start h);have H:=aA D;have I:=aA E;clear x h D E
 go_in
 go_wp2_with (first | (go_at_call 15;(with_reducible refine(DS H.out a.out.z false).mono ?_);intro e O ha;rcases ha.part l F with⟨f,x,rfl,u,K⟩ | ⟨k,N,v,rfl,⟨rfl,rfl,y,J,B,m⟩,u,w⟩;exact⟨rfl,BX K (a.out.o.trans u)⟩;replace l:=w;clear w ha;(try dsimp only at l);replace a:=aA ((a.out.quiet m).box (.int .i64 k.kd) (.string ⟨k.tx.toArray⟩) (.float .f64 k.nm) (.int .i64 k.f) (.int .i64 k.t) 49);clear y J m u;(try clear b c d g i j);(try clear m10 m11 m12 m13 m14 m1f);(try clear m20 m21 m22 m23 m24 m2f);(try clear m30 m31 m32 m33 m34 m3f);obtain⟨b,c,d,g,i,j⟩:=a.out.b0;unfold G1;rcases Aau k with⟨n,b1⟩ | ⟨n,y,b1,b0⟩ | ⟨n,y,b1,b0⟩;replace l:=Ym (.inl n) l;clear n;rotate_left;all_goals (try (simp only[n,y,false_or,true_or,if_true,if_false] at l;clear n y))) | (go_at_call 12;(with_reducible refine(EE k [59] _).mono ?_);rintro e P ⟨rfl,m⟩;replace a:=aA (a.out.quiet m);clear m;cases A:EP k [59]<;>(simp only[A,if_true,if_false,aD,reduceIte,or_true,true_or,or_false,false_or,and_true,true_and,and_false,false_and] at l;clear A);all_goals ((try clear b c d g i j);(try clear m10 m11 m12 m13 m14 m1f);(try clear m20 m21 m22 m23 m24 m2f);(try clear m30 m31 m32 m33 m34 m3f);obtain⟨b,c,d,g,i,j⟩:=a.out.b0)) | (go_at_call 12;(with_reducible refine(EE k [125] _).mono ?_);rintro e Q ⟨rfl,m⟩;replace a:=aA (a.out.quiet m);clear m;cases A:EP k [125]<;>(simp only[A,if_true,if_false,aD,reduceIte,or_true,true_or,or_false,false_or,and_true,true_and,and_false,false_and] at l;clear A);all_goals ((try clear b c d g i j);(try clear m10 m11 m12 m13 m14 m1f);(try clear m20 m21 m22 m23 m24 m2f);(try clear m30 m31 m32 m33 m34 m3f);obtain⟨b,c,d,g,i,j⟩:=a.out.b0)) | (go_at_call 16;(with_reducible refine(C2 I.out a.out.z k B).mono ?_);rintro e R ⟨rfl,G,u⟩;replace a:=aA (a.out.move G u);clear G u;(try clear b c d g i j);(try clear m10 m11 m12 m13 m14 m1f);(try clear m20 m21 m22 m23 m24 m2f);(try clear m30 m31 m32 m33 m34 m3f);obtain⟨b,c,d,g,i,j⟩:=a.out.b0) | (go_at_call 17;(with_reducible refine(E3 a.out.z k).mono ?_);rintro e S ⟨rfl,m⟩;exact⟨rfl,BX (aA l.out.symm) (a.out.o.trans m)⟩))
 all_goals exact bodyPost_ret (results_none rfl _ _ _) rfl (O2 l ⟨rfl,a.out.z⟩ a.out.o)
set_option linter.unusedSimpArgs false in
theorem YC {nx:Nat->Bool->Tk} {pl:Nat->Nat×Nat} {i:List UInt8->Option Bool} {u:World} {q:Nat} {s:ByteArray} (x:F2 nx s u) (y:PlC pl s) (n:Nat)
  (w:LC nx pl i u q s n .list 68):MC nx pl i u q s (n+1) .many 58:=by
 intro p W h l;obtain⟨r,j⟩:∃r,It nx pl i (n+1) .many p=r:=⟨_,rfl⟩;rw[j] at l ⊢;rw[It] at j;have c:=aA j;have a:=aA (Fx.start h);have E:=aA x;have K:=aA y;have D:=aA (fun p W h g=>w p W h g);clear j h x y w
 go_in
 go_wp2_with (first | (go_at_call 15;(with_reducible refine(DS E.out a.out.z true).mono ?_);intro e O ha;rcases ha.part c l with⟨f,j,rfl,d,t⟩ | ⟨C,M,v,rfl,⟨rfl,rfl,I,H,J,k⟩,d,b⟩;exact⟨rfl,BX t (a.out.o.trans d)⟩;replace c:=b;clear b ha;(try dsimp only at c);replace a:=aA ((a.out.quiet k));clear I H k d;(try clear m00 m01 m02 m03 m04 m0f);(try clear m10 m11 m12 m13 m14 m1f);(try clear m20 m21 m22 m23 m24 m2f);(try clear m30 m31 m32 m33 m34 m3f);unfold G1) | (go_at_call 12;(with_reducible refine(EE C [40] _).mono ?_);rintro e P ⟨rfl,k⟩;replace a:=aA (a.out.quiet k);clear k;cases A:EP C [40]<;>(simp only[A,if_true,if_false,aD,reduceIte,or_true,true_or,or_false,false_or,and_true,true_and,and_false,false_and] at c;clear A);all_goals ((try clear m00 m01 m02 m03 m04 m0f);(try clear m10 m11 m12 m13 m14 m1f);(try clear m20 m21 m22 m23 m24 m2f);(try clear m30 m31 m32 m33 m34 m3f));all_goals (first | (exact absurd c.out.symm l) | skip)) | (go_at_call 68;(with_reducible refine(D.out _ _ a.out.z (CA (M2 c) l)).mono ?_);intro e Q ha;rcases ha.part (M2 c) l with⟨f,j,rfl,d,t⟩ | ⟨L,N,v,rfl,⟨m,B⟩,d,b⟩;exact⟨rfl,BX t (a.out.o.trans d)⟩;replace c:=b;clear b ha;(try dsimp only at c);obtain⟨F,G,rfl⟩:=m.slice;replace a:=aA (a.out.read m B d);clear m B d;(try clear m00 m01 m02 m03 m04 m0f);(try clear m10 m11 m12 m13 m14 m1f);(try clear m20 m21 m22 m23 m24 m2f);(try clear m30 m31 m32 m33 m34 m3f)))
 go_ret;exact O2 c ⟨a.out.k0,a.out.z⟩ a.out.o
end Go.Proofs.YtjolfpcpcaocmaaGreatDoor
