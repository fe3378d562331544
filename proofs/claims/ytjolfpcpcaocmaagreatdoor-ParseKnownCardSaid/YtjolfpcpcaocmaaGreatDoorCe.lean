/- Ce Cf -/
import Derived.Test.YtjolfpcpcaocmaaGreatDoorBz
set_option maxRecDepth 100000
set_option maxHeartbeats 4000000
open Go.Lib renaming hid->aA
namespace Go.Proofs.YtjolfpcpcaocmaaGreatDoor
open Go.Proofs.Tryz
open Go.RowKit
theorem Z2 (W:World) (L:List Value) (T:TypeId):∀j u,L[j]?=some u->(W.alloc (.cells L.toArray T)).cell? ((⟨W.heap.size,0,none⟩:Addr).add j)=some u:=by
 intro j u h;rw[Addr.add_lit,World.cell?_alloc_at _ _ _ _ rfl];simpa using h
theorem ZB (t:Tr) (a:Option Addr) (n c:Nat):∀u∈Ah [(t,.slice a n c)],u.oneCell'=true:=by
 intro u b;simp only[Ah,List.flatMap_cons,List.flatMap_nil,List.append_nil,List.mem_cons,List.not_mem_nil,or_false] at b;rcases b with rfl | rfl | rfl | rfl | rfl<;>rfl
theorem Y8:(prog.info? 34).map (fun i=>(i.zero,i.size,i.bytes))=some (some (.agg #[.int .i64 0,.string ⟨#[]⟩,.float .f64 0,.slice none 0 0,.complex .f64 0 0]),5,72):=by kernel_rfl
section
variable {w0 W w w':World} {q B:Nat} {s:ByteArray} {p p':Ps} {l:List B5} {ks:List (List Tr×Value)}
theorem Pz.other {g:Nat} (h:Pz w0 q s p w) (a:Ae g w w') (b:w0.heap.size<=g) (d:q≠g):Pz w0 q s p w' :=
 ⟨a.below_of h.below b h.below.size,h.hq,h.c.kept (a.block q h.lt (fun e=>by injection e with e;exact d e)),h.ha,h.hs,h.d1,h.d2⟩
theorem Fx.other {g:Nat} (h:Fx w0 W q B s p l ks w) (a:Ae g w w') (i:Av B l g):Fx w0 W q B s p l [] w':=by
 have k:=h.hq;have m:=h.hw;have f:=h.hB;have j:=i.1;exact⟨h.z.other a (by omega) (by omega),h.o.under a (by omega),k,m,⟨f.1,Nat.le_trans f.2 a.size⟩,fun x c=>⟨(h.b x c).1,(h.b x c).2.only a (Ne.symm (i.2 x c))⟩,fun _ e=>(nomatch e),h.d⟩
theorem Fx.nq (h:Fx w0 W q B s p l ks w):¬ Av B l q:=fun e=>by have:=e.1;have:=h.hB.1;have:=h.hq;omega
theorem Fx.readS (h:Fx w0 W q B s p l ks w) {k:List Tr} {kv:Value} (c:Am 34 w' (Av B l) k kv) (f:Pz w0 q s p' w') (e:Ae q w w'):Fx w0 W q B s p' l ((k,kv)::ks) w' :=
 let g:=h.move f e
 ⟨g.z,g.o,g.hq,g.hw,g.hB,g.b,fun x a=>by rcases List.mem_cons.1 a with rfl | a;exact c;exact g.k x a,g.d⟩
theorem Fx.ka {k:List Tr} {kv:Value} (h:Fx w0 W q B s p l ((k,kv)::ks) w):Am 34 w (Av B l) k kv:=h.k _ (.head _)
theorem Fx.norow (h:Fx w0 W q B s p l ks w):Fx w0 W q B s p l [] w:=h.rows (k:=[])
theorem Fx.append {k:List Tr} {t:Tr} {kv v m:Value} {L:List (Tr×Value)} (h:Fx w0 W q B s p l ((k,v)::ks) w) (H:L.map Prod.fst=k) (F:∀g,v.ownBlock=some g->Av B l g/\g<w.heap.size)
  (C:∀p∈L,Am 34 w (fun j=>Av B l j/\some j≠v.ownBlock) p.1.ks p.2) (D:Am 34 w (fun j=>Av B l j/\some j≠v.ownBlock) t.ks kv)
  (P:w'.ownsRow B 34 5 m (L.length+1) (Ah L++Ah [(t,kv)])) (a:w.grownBy w' v.ownBlock) (G:m.ownBlock=v.ownBlock\/m.ownBlock=some w.heap.size) :
  Fx w0 W q B s p l [(k++[t],m)] w':=by
 have M:Av B l w.heap.size:=⟨h.hB.2,fun y O=>Nat.ne_of_gt (h.new y O)⟩
 have hF:Fx w0 W q B s p l [] w':=by
  cases i:v.ownBlock with
  | none=>rw[i] at a;exact h.norow.quiet ⟨a.os,a.tape,a.output,a.size,fun k J=>a.block k J (by simp)⟩
  | some g=>rw[i] at a;exact h.norow.other a (F g i).1
 have I:Ah (L++[(t,kv)])=Ah L++Ah [(t,kv)]:=by unfold Ah;rw[List.flatMap_append]
 have n:∀p∈L++[(t,kv)],Am 34 w (fun j=>Av B l j/\some j≠v.ownBlock) p.1.ks p.2:=fun p f=>by
  rcases List.mem_append.1 f with f | f
  ·exact C p f
  obtain rfl:=List.mem_singleton.1 f;exact D
 have c:Am 34 w' (Av B l) ((L++[(t,kv)]).map Prod.fst) m:=by
  refine Ev (by rw[I,List.length_append];exact P) (fun g r=>?_) fun p f=>?_
  ·rcases G with e | e
   ·exact(F g (e▸r)).1
   rw[e] at r;injection r with r;rw[<- r];exact M
  have A:=(n p f).mono (S':=fun j=>Av B l j/\some j≠m.ownBlock/\some j≠v.ownBlock) fun j E e=>⟨e.1,by
   rcases G with u | u
   ·rw[u];exact e.2
   rw[u];intro h;injection h with h;omega,e.2⟩
  exact(A.kept a.size fun j E K=>a.block j K E.2.2).mono fun j _ e=>⟨e.1,e.2.1⟩
 rw[List.map_append,H] at c;exact⟨hF.z,hF.o,hF.hq,hF.hw,hF.hB,hF.b,fun x N=>by obtain rfl:=List.mem_singleton.1 N;exact c,hF.d⟩
theorem Fx.apart {w1:World} {k:List Tr} {v:Value} {t:Tr} {kv:Value} (h:Fx w0 W q B s p l ((k,v)::ks) w) (c:Am 34 w1 (w.heap.size <= ·) t.ks kv):Am 34 w1 (fun j=>Av B l j/\some j≠v.ownBlock) t.ks kv:=by
 obtain⟨L,f,a,-,-⟩:=(h.k _ (.head _)).owns B (fun j e=>e.1);refine c.mono fun j _ b=>⟨⟨Nat.le_trans h.hB.2 b,fun y d=>by have:=h.new y d;omega⟩,fun e=>?_⟩;have:=(a.lt j e.symm).2;omega
end
def ZP (w0:World) (q:Nat) (s:ByteArray) (S:Nat->Prop) (l:List Tr) (p':Ps) (v:Value) (w':World):Prop :=
 (∃t kv,l=[t]/\v=CJ t kv/\Am 34 w' S t.ks kv)/\Pz w0 q s p' w'
def HC (nx:Nat->Bool->Tk) (pl:Nat->Nat×Nat) (b:List UInt8->Option Bool) (w0:World) (q:Nat) (s:ByteArray) (n:Nat):Prop :=
 ∀(l:List Tr) (a:Option Addr) (d c:Nat) (S:Nat->Prop) (p:Ps) (W:World),d=l.length->Pz w0 q s p W->¬ S q->Am 34 W S l (.slice a d c)->Dn nx pl b n (.has l) p ≠ .hush ->
  Calls prog 84 #[.pointer (some ⟨q,0,none⟩),.slice a d c] W (HJ q W (Dn nx pl b n (.has l) p) (ZP w0 q s S))
theorem Fx.doneS {w0 W w:World} {q B:Nat} {s:ByteArray} {p:Ps} {l:List B5} {ks:List (List Tr×Value)} (h:Fx w0 W q B s p l ks w) {t:Tr} {kv:Value} {S:Nat->Prop} (f:Am 34 W S t.ks kv) (c:¬ S q) (u0 u1 u2 u3 u4:Value) {r:Hf (List Tr)} (a:Hid (.ok [t] p=r)) :
  HJ q W r (ZP w0 q s S) (.returned (CJ t kv)) (((((w.setCell ⟨W.heap.size,0,none⟩ u0).setCell ⟨W.heap.size,1,none⟩ u1).setCell ⟨W.heap.size,2,none⟩ u2).setCell ⟨W.heap.size,3,none⟩ u3).setCell ⟨W.heap.size,4,none⟩ u4):=by
 have g:=(((((Ae.refl W.heap.size w).set 0 u0).set 1 u1).set 2 u2).set 3 u3).set 4 u4;have i:=h.hq;have b:=(f.mono (S':=fun j=>S j/\j≠W.heap.size) fun j d e=>⟨e,Nat.ne_of_lt d⟩).only h.o (fun e=>c e.1);exact O2 a ⟨⟨t,kv,rfl,rfl,(b.only g (fun e=>e.2 rfl)).mono fun j _ e=>e.1⟩,h.z.far5 h.hw (by omega) _ _ _ _ _⟩ (LI h.o (Nat.le_refl _) _ _ _ _ _)
theorem M2 {b:Type} {o r:Hf b} (a:Hid (o=r)):Hid (o.bind (fun x p => .ok x p)=r):=by rw[<- a.out];show _=_;cases o<;>rfl
theorem J0 (x y:List UInt8):(x=y/\(x==y)=true)\/(x≠y/\(x==y)=false):=by
 by_cases h:x=y
 ·exact .inl ⟨h,beq_iff_eq.2 h⟩
 exact .inr ⟨h,beq_eq_false_iff_ne.2 h⟩
theorem Aav (l:List Tr):(∃x,l=[x])\/(l.length≠1/\((l.length:Int)==1)=false):=by
 by_cases h:l.length=1
 ·exact .inl (List.length_eq_one_iff.1 h)
 exact .inr ⟨h,beq_eq_false_iff_ne.2 (by omega)⟩
theorem ZF {T:TypeId} {w:World} {S:Nat->Prop} {x:Tr} {a:Option Addr} {c:Nat} (h:Am T w S [x] (.slice a 1 c)):∃b d f,a=some ⟨b,0,none⟩/\Am T w S x.ks (.slice d x.ks.length f) /\
  w.cell? ⟨b,0,none⟩=some (.int .i64 x.kd)/\w.cell? ⟨b,1,none⟩=some (.string ⟨x.nm.toArray⟩)/\w.cell? ⟨b,2,none⟩=some (.float .f64 x.x)/\w.cell? ⟨b,3,none⟩=some (.slice d x.ks.length f)/\w.cell? ⟨b,4,none⟩=some (.complex .f64 x.z.1 x.z.2):=by
 obtain⟨b,n,q,e,t,p,g,i,j,k,l,m⟩:=h.cells 0 (by simp);obtain rfl:x=t:=(by simpa using p);injection e with o _ _;obtain⟨d,f,rfl⟩:=g.slice;exact⟨b,d,f,o,g,i,j,k,l,m⟩
theorem Ym {d:Type} {c:Prop} {i:Decidable c} {a b r:d} (h:c) (e:Hid (@ite d c i a b=r)):Hid (a=r):=by have:=e.out;rw[if_pos h] at this;exact this
theorem XY {d:Type} {c:Prop} {i:Decidable c} {a b r:d} (h:¬ c) (e:Hid (@ite d c i a b=r)):Hid (b=r):=by have:=e.out;rw[if_neg h] at this;exact this
theorem Xt (x k:Int):(x=k/\(x==k)=true/\(x != k)=false)\/(x≠k/\(x==k)=false/\(x != k)=true):=by
 by_cases h:x=k
 ·exact .inl ⟨h,beq_iff_eq.2 h,by unfold bne;rw[beq_iff_eq.2 h];rfl⟩
 exact .inr ⟨h,beq_eq_false_iff_ne.2 h,by unfold bne;rw[beq_eq_false_iff_ne.2 h];rfl⟩
set_option linter.unusedSimpArgs false in
theorem Y7 {nx:Nat->Bool->Tk} {pl:Nat->Nat×Nat} {L:List UInt8->Option Bool} {w0:World} {q:Nat} {s:ByteArray} (Y:F2 nx s w0) (Z:PlC pl s) (n:Nat):HC nx pl L w0 q s (n+1):=by
 intro l a ln c S p W T h hS J Q;subst T;obtain⟨r,K⟩:∃r,Dn nx pl L (n+1) (.has l) p=r:=⟨_,rfl⟩;rw[K] at Q ⊢;rw[Dn] at K;have C:=aA K;have b:=aA (Fx.start1 h (.int .i64 0) (.string ⟨#[]⟩) (.float .f64 0) (.slice none 0 0) (.complex .f64 0 0) 34);have V:=aA Y;have X:=aA Z;have HK:=aA J;clear K h Y Z J;obtain⟨d,g,i,j,k,m⟩:=b.out.b0
 go_in
 go_wp2_with (first | (go_at_call 15;have ht:=M;clear ht;(with_reducible refine(DS V.out b.out.z false).mono ?_);intro e w5 ha;rcases ha.part C Q with⟨f,K,rfl,E,U⟩ | ⟨H,p5,v,rfl,⟨rfl,rfl,P,O,R,F⟩,E,G⟩;exact⟨rfl,BX U (b.out.o.trans E)⟩;replace C:=G;clear G ha;(try dsimp only at C);replace b:=aA ((b.out.quiet F));clear P O F E;(try clear d g i j k m);(try clear u w x y A B);(try clear m20 m21 m22 m23 m24 m2f);(try clear m30 m31 m32 m33 m34 m3f);obtain⟨d,g,i,j,k,m⟩:=b.out.b0;obtain⟨u,w,x,y,A,B⟩:=b.out.b1;unfold G1;obtain⟨a0,c0,d0,e0,f0,g0⟩:=b.out.b0;obtain⟨i0,j0,k0,l0,m0,n0⟩:=b.out.b1;replace b:=aA (b.out.store (.int .i64 H.kd) (.string ⟨H.tx.toArray⟩) (.float .f64 H.nm) (.int .i64 H.f) (.int .i64 H.t));obtain⟨d,g,i,j,k,m⟩:=b.out.b0;obtain⟨u,w,x,y,A,B⟩:=b.out.b1;rcases Xt H.kd 5 with⟨I,be,bn⟩ | ⟨I,be,bn⟩<;>((first | replace C:=Ym I C | replace C:=XY I C | skip);clear I)) | (go_at_call 15;(with_reducible refine(DS V.out b.out.z false).mono ?_);intro e w2 ha;rcases ha.part C Q with⟨f,K,rfl,E,U⟩ | ⟨D,p2,v,rfl,⟨rfl,rfl,P,O,M,F⟩,E,G⟩;exact⟨rfl,BX U (b.out.o.trans E)⟩;replace C:=G;clear G ha;(try dsimp only at C);replace b:=aA ((b.out.quiet F).box (.int .i64 D.kd) (.string ⟨D.tx.toArray⟩) (.float .f64 D.nm) (.int .i64 D.f) (.int .i64 D.t) 49);clear P O F E;(try clear d g i j k m);(try clear u w x y A B);(try clear m20 m21 m22 m23 m24 m2f);(try clear m30 m31 m32 m33 m34 m3f);obtain⟨d,g,i,j,k,m⟩:=b.out.b0;obtain⟨u,w,x,y,A,B⟩:=b.out.b1;unfold G1) | (go_at_call 12;(with_reducible refine(L0 D [105,110] _).mono ?_);rintro e w3 ⟨rfl,F⟩;replace b:=aA (b.out.quiet F);clear F;cases hs:XI D [105,110]<;>(simp only[hs,if_true,if_false,Bool.false_eq_true,reduceIte,or_true,true_or,or_false,false_or,and_true,true_and,and_false,false_and] at C;clear hs);all_goals ((try clear d g i j k m);(try clear u w x y A B);(try clear m20 m21 m22 m23 m24 m2f);(try clear m30 m31 m32 m33 m34 m3f);obtain⟨d,g,i,j,k,m⟩:=b.out.b0;obtain⟨u,w,x,y,A,B⟩:=b.out.b1)) | (go_at_call 17;(with_reducible refine(E3 b.out.z D).mono ?_);rintro e w9 ⟨rfl,F⟩;exact⟨rfl,BX (aA C.out.symm) (b.out.o.trans F)⟩) | (go_at_call 16;(with_reducible refine(C2 X.out b.out.z D M).mono ?_);rintro e w4 ⟨rfl,N,E⟩;replace b:=aA (b.out.move N E);clear N E;(try clear d g i j k m);(try clear u w x y A B);(try clear m20 m21 m22 m23 m24 m2f);(try clear m30 m31 m32 m33 m34 m3f);obtain⟨d,g,i,j,k,m⟩:=b.out.b0;obtain⟨u,w,x,y,A,B⟩:=b.out.b1) | (go_at_call 17;(with_reducible refine(E3 b.out.z H).mono ?_);rintro e w9 ⟨rfl,F⟩;exact⟨rfl,BX (aA C.out.symm) (b.out.o.trans F)⟩) | (go_at_call 16;(with_reducible refine(C2 X.out b.out.z H R).mono ?_);rintro e w6 ⟨rfl,N,E⟩;replace b:=aA (b.out.move N E);clear N E;(try clear d g i j k m);(try clear u w x y A B);(try clear m20 m21 m22 m23 m24 m2f);(try clear m30 m31 m32 m33 m34 m3f);obtain⟨d,g,i,j,k,m⟩:=b.out.b0;obtain⟨u,w,x,y,A,B⟩:=b.out.b1))
 obtain⟨z0,z1,z2,z3,z4,zf⟩:=((((b.out.b1.set0 (.int .i64 11)).set1 (.string ⟨H.tx.toArray⟩)).set2 (.float .f64 0)).set3 (.slice a l.length c)).set4 (.complex .f64 (pl D.f).1 (pl D.f).2);exact bodyPost_ret (v:=.agg #[.int .i64 11,.string ⟨H.tx.toArray⟩,.float .f64 0,.slice a l.length c,.complex .f64 (pl D.f).1 (pl D.f).2]) (by simp[results,results84,go_sem,z0,z1,z2,z3,z4]<;>exact rfl) rfl (b.out.doneS (t:=.mk 11 H.tx 0 (pl D.f) l) HK.out hS _ _ _ _ _ C)
end Go.Proofs.YtjolfpcpcaocmaaGreatDoor
