/- Ck Cm Ay Az An Og -/
import Derived.Test.YtfblenhlildnaaaGreatDoorCf
import Derived.Test.YtfblenhlildnaaaGreatDoorAq
import Derived.Test.YtfblenhlildnaaaGreatDoorBb
import Derived.Laws.Cover2
import Derived.Test.YtfblenhlildnaaaGreatDoorNl
set_option maxRecDepth 100000
set_option maxHeartbeats 1600000
open Bool renaming false_eq_true->aA,and_eq_true->aC
open Go.RowKit renaming wrap64->aB
namespace Go.Proofs.YtfblenhlildnaaaGreatDoor
open Go.RowKit
section
variable {w0 W w w':World} {q B:Nat} {s:ByteArray} {p p':Ps} {l:List B5} {ks:List (List Tr×Value)}
theorem Fx.upd {b:Nat} {v0 v1 v2 v3 v4 u0 u1 u2 u3 u4:Value} (h:Fx w0 W q B s p (⟨b,v0,v1,v2,v3,v4⟩::l) ks w) (f:Ae b w w') (m:C5 w' b u0 u1 u2 u3 u4):Fx w0 W q B s p (⟨b,u0,u1,u2,u3,u4⟩::l) ks w':=by
 have a:=(h.b _ (.head _)).1;have n:=h.hq;have g:=List.pairwise_cons.1 h.d;dsimp only at a g;refine⟨h.z.other f (Nat.le_trans h.hw a) (by omega),h.o.under f a,h.hq,h.hw,⟨h.hB.1,Nat.le_trans h.hB.2 f.size⟩,fun x c=>?_,fun x c=>?_,List.pairwise_cons.2 g⟩
 ·rcases List.mem_cons.1 c with rfl | c
  ·exact⟨a,m⟩
  have:=g.1 x c;exact⟨(h.b x (.tail _ c)).1,(h.b x (.tail _ c)).2.only f (by omega)⟩
 exact((h.k x c).only f (fun e=>e.2 _ (.head _) rfl)).mono fun j _ e=>⟨e.1,fun y i=>by rcases List.mem_cons.1 i with rfl | i;exact e.2 ⟨b,v0,v1,v2,v3,v4⟩ (.head _);exact e.2 _ (.tail _ i)⟩
theorem Fx.put0 {b:Nat} {v0 v1 v2 v3 v4:Value} (h:Fx w0 W q B s p (⟨b,v0,v1,v2,v3,v4⟩::l) ks w) (u:Value):Fx w0 W q B s p (⟨b,u,v1,v2,v3,v4⟩::l) ks (w.setCell ⟨b,0,none⟩ u):=h.upd ((Ae.refl b w).set 0 u) (h.b0.set0 u)
theorem Fx.put3 {b:Nat} {v0 v1 v2 v3 v4:Value} (h:Fx w0 W q B s p (⟨b,v0,v1,v2,v3,v4⟩::l) ks w) (u:Value):Fx w0 W q B s p (⟨b,v0,v1,v2,u,v4⟩::l) ks (w.setCell ⟨b,3,none⟩ u):=h.upd ((Ae.refl b w).set 3 u) (h.b0.set3 u)
theorem Fx.put1 {b:Nat} {v0 v1 v2 v3 v4:Value} (h:Fx w0 W q B s p (⟨b,v0,v1,v2,v3,v4⟩::l) ks w) (u:Value):Fx w0 W q B s p (⟨b,v0,u,v2,v3,v4⟩::l) ks (w.setCell ⟨b,1,none⟩ u):=h.upd ((Ae.refl b w).set 1 u) (h.b0.set1 u)
theorem Fx.put4 {b:Nat} {v0 v1 v2 v3 v4:Value} (h:Fx w0 W q B s p (⟨b,v0,v1,v2,v3,v4⟩::l) ks w) (u:Value):Fx w0 W q B s p (⟨b,v0,v1,v2,v3,u⟩::l) ks (w.setCell ⟨b,4,none⟩ u):=h.upd ((Ae.refl b w).set 4 u) (h.b0.set4 u)
end
open Go.Proofs.Tryz
structure TZ (ere:List UInt8->Option Bool) (s:ByteArray) (w0:World):Prop where
 good:∀x W,x.length<=s.size->ere x=some true->Below w0.heap.size w0 W->Calls prog 117 #[.string ⟨x.toArray⟩] W fun e w'=>∃(k a b c d:Int) (o:Option Addr) (n m:Nat) (z:Int),
  e = .returned (.tuple #[.agg #[.int .i64 k,.int .u64 a,.int .u64 b,.int .u64 c,.int .u64 d,.slice o n m],.int .i64 z,.int .i64 0])/\Below W.heap.size W w'
 bad:∀x W,x.length<=s.size->ere x=some false->Below w0.heap.size w0 W->Calls prog 117 #[.string ⟨x.toArray⟩] W fun e w'=>∃(k a b c d:Int) (o:Option Addr) (n m:Nat) (z er:Int),
  e = .returned (.tuple #[.agg #[.int .i64 k,.int .u64 a,.int .u64 b,.int .u64 c,.int .u64 d,.slice o n m],.int .i64 z,.int .i64 er])/\(er != 0)=true/\Below W.heap.size W w'
theorem Aan (x y:List UInt8):(x=y/\(x==y)=true/\(x != y)=false)\/(x≠y/\(x==y)=false/\(x != y)=true):=by
 by_cases h:x=y
 ·exact .inl ⟨h,beq_iff_eq.2 h,by unfold bne;rw[beq_iff_eq.2 h];rfl⟩
 exact .inr ⟨h,beq_eq_false_iff_ne.2 h,by unfold bne;rw[beq_eq_false_iff_ne.2 h];rfl⟩
theorem opC (t:Tk) :
  (¬ t.kd=2/\¬ t.kd=3/\t.kd=4/\(t.kd==2)=false/\(t.kd==3)=false/\(t.kd==4)=true) \/
  (t.kd=2/\(t.kd==2)=true) \/
  (¬ t.kd=2/\t.kd=3/\256<t.tx.length/\(t.kd==2)=false/\(t.kd==3)=true) \/
  (¬ t.kd=2/\t.kd=3/\¬ 256<t.tx.length/\(t.kd==2)=false/\(t.kd==3)=true) \/
  (¬ t.kd=2/\¬ t.kd=3/\¬ t.kd=4/\t.kd=6/\t.tx=[115,121,115,116,101,109]/\(t.tx==[115,121,115,116,101,109])=true/\(t.kd==2)=false/\(t.kd==3)=false/\(t.kd==4)=false/\(t.kd==6)=true) \/
  (¬ t.kd=2/\¬ t.kd=3/\¬ t.kd=4/\t.kd=6/\¬ t.tx=[115,121,115,116,101,109]/\(t.tx==[115,121,115,116,101,109])=false/\(t.kd==2)=false/\(t.kd==3)=false/\(t.kd==4)=false/\(t.kd==6)=true) \/
  (¬ t.kd=2/\¬ t.kd=3/\¬ t.kd=4/\¬ t.kd=6/\t.kd=7/\t.tx=[108,101,110,103,116,104]/\(t.tx != [108,101,110,103,116,104])=false/\(t.kd==2)=false/\(t.kd==3)=false/\(t.kd==4)=false/\(t.kd==6)=false/\(t.kd==7)=true) \/
  (¬ t.kd=2/\¬ t.kd=3/\¬ t.kd=4/\¬ t.kd=6/\t.kd=7/\¬ t.tx=[108,101,110,103,116,104]/\(t.tx==[108,101,110,103,116,104])=false/\(t.kd==2)=false/\(t.kd==3)=false/\(t.kd==4)=false/\(t.kd==6)=false/\(t.kd==7)=true) \/
  (¬ t.kd=2/\¬ t.kd=3/\¬ t.kd=4/\¬ t.kd=6/\¬ t.kd=7/\(t.kd==2)=false/\(t.kd==3)=false/\(t.kd==4)=false/\(t.kd==6)=false/\(t.kd==7)=false):=by
 rcases Xt t.kd 2 with⟨a,b2,-⟩ | ⟨a,b2,-⟩
 ·exact .inr (.inl ⟨a,b2⟩)
 rcases Xt t.kd 3 with⟨c,b3,-⟩ | ⟨c,b3,-⟩
 ·by_cases k:256<t.tx.length
  ·exact .inr (.inr (.inl ⟨a,c,k,b2,b3⟩))
  exact .inr (.inr (.inr (.inl ⟨a,c,k,b2,b3⟩)))
 rcases Xt t.kd 4 with⟨e,d,-⟩ | ⟨e,d,-⟩
 ·exact .inl ⟨a,c,e,b2,b3,d⟩
 rcases Xt t.kd 6 with⟨g,f,-⟩ | ⟨g,f,-⟩
 ·rcases Aan t.tx [115,121,115,116,101,109] with⟨h,b,-⟩ | ⟨h,b,-⟩
  ·exact .inr (.inr (.inr (.inr (.inl ⟨a,c,e,g,h,b,b2,b3,d,f⟩))))
  exact .inr (.inr (.inr (.inr (.inr (.inl ⟨a,c,e,g,h,b,b2,b3,d,f⟩)))))
 rcases Xt t.kd 7 with⟨j,i,-⟩ | ⟨j,i,-⟩
 ·rcases Aan t.tx [108,101,110,103,116,104] with⟨h,-,b⟩ | ⟨h,b,-⟩
  ·exact .inr (.inr (.inr (.inr (.inr (.inr (.inl ⟨a,c,e,g,j,h,b,b2,b3,d,f,i⟩))))))
  exact .inr (.inr (.inr (.inr (.inr (.inr (.inr (.inl ⟨a,c,e,g,j,h,b,b2,b3,d,f,i⟩)))))))
 exact .inr (.inr (.inr (.inr (.inr (.inr (.inr (.inr ⟨a,c,e,g,j,b2,b3,d,f,i⟩)))))))
set_option linter.unusedSimpArgs false
section
variable {nx:Nat->Bool->Tk} {pl:Nat->Nat×Nat} {ere:List UInt8->Option Bool} {p:Ps} {s:Rs} {n:Nat} {α β:Type}
theorem Re.outs (h:Re p s) (v:Int):Re { p with outs:=v } s:=⟨h.a,h.o,h.e⟩
theorem Adw (c:∀a,nx a true=nx a false) {f:Nat} {e:Int} (b:Abe nx pl f e s):∃r,Acf nx pl s = .ok () r/\Abe nx pl f e r:=by
 obtain⟨r,g,d,h,-⟩:=b.see c false;unfold Acf;rw[g];simp only[RO.bind];rw[if_pos (.inl (by rw[d];exact b.1))];exact⟨r,rfl,Abe.of b.1 d h⟩
theorem Re.ends (H:Abi nx) (h:Re p s):Rel nx pl s.g (fun _ _=>True) (Y4 nx p) (fun _=>Acf nx pl s):=by
 unfold Y4;refine h.peek H false (fun l=>?_) (fun w=>?_)
 rotate_left
 ·obtain⟨r,n,o⟩:=Adw H.op w
  exact DD.const n o
 have v:=h.seeY (pl:=pl) l;have u:=h.isZ H [125] l (by decide)
 have q:Acf nx pl s=if (nx p.a false).kd=0 then .ok () s else if isS (nx p.a false) [125]=true then .ok () s else if (nx p.a false).kd=1\/isS (nx p.a false) [59]=true then .ok () { s with a:=(nx p.a false).t } else .ok () (Abj pl (nx p.a false) s):=by
  unfold Acf;rw[v];show (if s.e≠0\/(nx p.a false).kd=0 then RO.ok () s else (isR nx [125] s).bind fun b s=>if b=true then .ok () s else if (nx p.a false).kd=1\/isS (nx p.a false) [59]=true then .ok () { s with a:=(nx p.a false).t } else .ok () (Abj pl (nx p.a false) s))=_;by_cases k:(nx p.a false).kd=0
  ·rw[if_pos (.inr k),if_pos k]
  rw[if_neg (fun d=>by rcases d with d | d;exact d h.e;exact k d),if_neg k,u];rfl
 rw[q];by_cases f:(nx p.a false).kd=1\/isS (nx p.a false) [59]=true
 ·rw[if_pos f]
  have m:¬ (nx p.a false).kd=0:=fun d=>by
   rcases f with c | c
   ·rw[d] at c;exact absurd c (by decide)
   unfold Go.Proofs.YtfblenhlildnaaaGreatDoor.isS at c;simp only[aC,decide_eq_true_eq] at c;rw[d] at c;exact absurd c.1 (by decide)
  have i:¬ isS (nx p.a false) [125]=true:=fun d=>by
   unfold Go.Proofs.YtfblenhlildnaaaGreatDoor.isS at d;simp only[aC,decide_eq_true_eq] at d;rcases f with c | c
   ·rw[d.1] at c;exact absurd c (by decide)
   unfold Go.Proofs.YtfblenhlildnaaaGreatDoor.isS at c;simp only[aC,decide_eq_true_eq] at c;rw[d.2] at c;exact absurd c.2 (by decide)
  simp only[m,i,if_false,f,if_true,aA];exact Rel.ok trivial (h.took _) rfl
 rw[if_neg f];by_cases j:(nx p.a false).kd=0\/isS (nx p.a false) [125]=true
 ·rw[if_pos j]
  rcases j with c | c
  ·rw[if_pos c];exact Rel.ok trivial h rfl
  by_cases d:(nx p.a false).kd=0
  ·rw[if_pos d];exact Rel.ok trivial h rfl
  rw[if_neg d,if_pos c];exact Rel.ok trivial h rfl
 rw[if_neg j,if_neg (fun d=>j (.inl d)),if_neg (fun d=>j (.inr d)),if_neg f];exact h.wrong H
theorem Re.gaps (H:Abi nx) (f:Bool):∀(n:Nat) (p:Ps) (s:Rs),Re p s->Rel nx pl s.g (fun _ _=>True) (LB nx f n p) (fun m=>linesR nx [59] m s)
 | 0,_,_,_=>trivial
 | n+1,p,s,h=>by
   refine Rel.succ ?_;rw[LB];refine h.peek H f (fun j=>?_) (fun i=>?_)
   ·by_cases b:(nx p.a false).kd=1\/isS (nx p.a false) [59]=true
    ·have hF:(fun m=>linesR nx [59] (m+1) s)=fun m=>linesR nx [59] m { s with a:=(nx p.a false).t }:=by
      funext m;rw[linesR,if_pos h.e,h.a,if_pos ⟨j,b.imp id fun c=>⟨by decide,c⟩⟩]
     rw[if_pos b,hF];exact Re.gaps H f n _ _ (h.took _)
    have hF:(fun m=>linesR nx [59] (m+1) s)=fun _ => .ok () s:=by
     funext m;rw[linesR,if_pos h.e,h.a,if_neg (fun c=>b (c.2.imp id fun d=>d.2))]
    rw[if_neg b,hF];exact Rel.ok trivial h rfl
   obtain⟨N,k⟩:=i.lines [59];exact⟨_,_,i,N,fun m l=>k (m+1) (by omega)⟩
theorem AcC (H:Abi nx) (b:Bool):∀(n:Nat) (p:Ps) (t:Tk) (q:Ps),LB nx b n p = .ok t q->nx q.a false=t/\t.e=0
 | 0,_,_,_,h=>nomatch h
 | n+1,p,t,q,h=>by
   rw[LB] at h;unfold Eb at h;have i:nx p.a b=nx p.a false:=by cases b;rfl;exact H.op _
   rw[i] at h;by_cases c:(nx p.a false).e=0
   ·rw[if_pos c] at h
    simp only[Hf.bind] at h;by_cases d:(nx p.a false).kd=1\/isS (nx p.a false) [59]=true
    ·rw[if_pos d] at h;exact AcC H b n _ t q h
    rw[if_neg d] at h;injection h with f g;subst f g;exact⟨rfl,c⟩
   rw[if_neg c] at h;cases h
theorem Acu (H:Abi nx):∀(n:Nat) (b:Bool) (r:Option Nat) (s:Rs),s.e=0->Ab9 nx n b s.a=some r ->
  ∃k x,Ev (fun m=>linesR nx [] m s) (.ok () { s with a:=x })/\Ab9 nx (k+1) b x=some r/\¬ ((nx x false).e=0/\(nx x false).kd=1)
 | 0,_,_,_,_,h=>nomatch h
 | n+1,b,r,s,he,h=>by
   by_cases c:(nx s.a false).e=0/\(nx s.a false).kd=1
   ·rw[Ab9,H.op,if_neg (fun d=>d c.1),if_pos c.2] at h
    obtain⟨k,x,f,g,i⟩:=Acu H n b r { s with a:=(nx s.a false).t } he h;refine⟨k,x,?_,g,i⟩;obtain⟨N,l⟩:=f;refine⟨N+1,fun m o=>?_⟩;obtain⟨j,rfl⟩:∃j,m=j+1:=⟨m-1,by omega⟩;show linesR nx [] (j+1) s=_;rw[linesR,if_pos he,if_pos ⟨c.1,.inl c.2⟩];exact l j (by omega)
   refine⟨n,s.a,⟨1,fun m o=>?_⟩,h,c⟩;obtain⟨j,rfl⟩:∃j,m=j+1:=⟨m-1,by omega⟩;show linesR nx [] (j+1) s=_;rw[linesR,if_pos he,if_neg (fun d=>by rcases d.2 with e | e;exact c ⟨d.1,e⟩;exact e.1 rfl)]
theorem Afs (H:Abi nx) (s:Rs) (d:s.e=0):takeR nx pl [101,108,115,101] s=if (nx s.a false).e=0/\XI (nx s.a false) [101,108,115,101]=true then .ok true { s with a:=(nx s.a false).t } else .ok false s:=by
 unfold takeR isR;by_cases b:(nx s.a false).e=0
 ·rw[decide_eq_true d,decide_eq_true b,AbV H _ _ (by decide)]
  by_cases c:XI (nx s.a false) [101,108,115,101]=true
  ·simp only[RO.bind,c,Bool.true_and,if_true,b,and_self];rfl
  simp only[RO.bind,c,Bool.true_and,Bool.and_false,aA,if_false,and_false]
 rw[decide_eq_true d,decide_eq_false b];simp only[RO.bind,Bool.false_and,Bool.and_false,aA,if_false,b,false_and]
theorem Re.elses (H:Abi nx) (h:Re p s) (n:Nat):Rel nx pl s.g (fun x y=>x=y) (Acv nx n p) (fun m=>AcO nx pl m s):=by
 have j:∀(f:Bool) (k:Nat) (r:Option Nat) (x:Nat),Ab9 nx (k+1) f x=some r->¬ ((nx x false).e=0/\(nx x false).kd=1)->((nx x false).e=0/\isS (nx x false) [59]=true->f=true) ->
   (match r with | some a=>(takeR nx pl [101,108,115,101] { s with a:=x }) = .ok true { s with a:=a } | none=>(takeR nx pl [101,108,115,101] { s with a:=x }) = .ok false { s with a:=x }):=by
  intro f k r x b D F;rw[Afs H _ (show ({ s with a:=x }:Rs).e=0 from h.e)];rw[Ab9,H.op] at b;by_cases i:(nx x false).e=0
  ·rw[if_neg (fun d=>d i),if_neg (fun d=>D ⟨i,d⟩),if_neg (fun d=>by have:=F ⟨i,d.1⟩;rw[d.2] at this;cases this)] at b
   by_cases c:XI (nx x false) [101,108,115,101]=true
   ·rw[if_pos c] at b
    injection b with b;subst b;dsimp only;rw[if_pos ⟨i,c⟩]
   rw[if_neg c] at b;injection b with b;subst b;dsimp only;rw[if_neg (fun d=>c d.2)]
  rw[if_pos i] at b;injection b with b;subst b;dsimp only;rw[if_neg (fun d=>i d.1)]
 unfold Acv
 cases E:Ab9 nx n false p.a with
 | none=>trivial
 | some r =>
   obtain⟨k,x,B,q,v⟩:=Acu H n false r s h.e (by rw[h.a];exact E);have C:¬ (s.e≠0):=fun c=>c h.e
   have l:Ev (fun m=>AcO nx pl m s) (match r with | some a => .ok true { s with a:=a } | none => .ok false s):=by
    unfold AcO;simp only[C,if_false];refine Ev.bind B ?_;by_cases c:(nx x false).e=0/\isS (nx x false) [59]=true
    ·have u:isR nx [59] { s with a:=x } = .ok true { s with a:=x }:=by
      unfold isR;show RO.ok (decide (s.e=0)&&(decide ((nx x false).e=0)&&AbN [59] (nx x false))) _=_;rw[decide_eq_true h.e,decide_eq_true c.1,AbA H _ _ (by decide),c.2];rfl
     simp only[u,RO.bind,if_true];rw[Ab9,H.op,if_neg (fun d=>d c.1),if_neg (fun d=>v ⟨c.1,d⟩),if_pos ⟨c.2,rfl⟩] at q;obtain⟨G,I,w,z,A⟩:=Acu H k true r { s with a:=(nx x false).t } h.e q;refine Ev.bind w ?_;have:=j true G r I z A (fun _=>rfl)
     cases r with
     | none=>simp only[this,RO.bind,aA,if_false];exact Ev.const _
     | some a=>simp only[this,RO.bind,if_true];exact Ev.const _
    have u:isR nx [59] { s with a:=x } = .ok false { s with a:=x }:=by
     unfold isR;show RO.ok (decide (s.e=0)&&(decide ((nx x false).e=0)&&AbN [59] (nx x false))) _=_;rw[decide_eq_true h.e,AbA H _ _ (by decide)];by_cases i:(nx x false).e=0
     ·rw[show isS (nx x false) [59]=false from by cases e:isS (nx x false) [59];rfl;exact absurd ⟨i,e⟩ c];simp
     rw[decide_eq_false i];simp
    simp only[u,RO.bind,aA,if_false];have:=j false k r x q v (fun d=>absurd d c)
    cases r with
    | none=>simp only[this,RO.bind,aA,if_false];exact Ev.const _
    | some a=>simp only[this,RO.bind,if_true];exact Ev.const _
   cases r with
   | none=>exact⟨false,s,rfl,h,rfl,l⟩
   | some a=>exact⟨true,{ s with a:=a },rfl,⟨rfl,h.o,h.e⟩,rfl,l⟩
end
set_option linter.unusedSimpArgs false
section
variable {nx:Nat->Bool->Tk} {pl:Nat->Nat×Nat} {ere:List UInt8->Option Bool} {α β:Type} {f:Nat} {e:Int} {s:Rs}
structure AbC (pl:Nat->Nat×Nat) (f:Nat) (e:Int) (s:Rs):Prop where
 n:e≠0
 e:s.e=e
 z:s.z=pl f
theorem AbC.dead (h:AbC pl f e s):Abe nx pl f e s:=⟨h.n,.inl ⟨h.e,h.z⟩⟩
theorem AbC.ne (h:AbC pl f e s):¬ s.e=0:=by rw[h.e];exact h.n
def FD (pl:Nat->Nat×Nat) (f:Nat) (e:Int) (F:Nat->RO α):Prop:=∃x s,AbC pl f e s/\Ev F (.ok x s)
theorem FD.ok {x:α} (h:AbC pl f e s):FD pl f e (fun _=>RO.ok x s):=⟨x,s,h,Ev.const _⟩
theorem FD.bind {F:Nat->RO α} {K:Nat->α->Rs->RO β} (h:FD pl f e F) (d:∀x s,AbC pl f e s->FD pl f e (fun n=>K n x s)):FD pl f e (fun n=>(F n).bind (K n)):=by
 obtain⟨x,s,c,g⟩:=h;obtain⟨y,r,a,b⟩:=d x s c;exact⟨y,r,a,g.bind b⟩
theorem FD.succ {F:Nat->RO α} (h:FD pl f e (fun n=>F (n+1))):FD pl f e F:=by
 obtain⟨x,s,a,b⟩:=h;exact⟨x,s,a,b.succ⟩
theorem FD.dd {F:Nat->RO α} (h:FD pl f e F):DD nx pl f e F:=by
 obtain⟨x,s,a,b⟩:=h;exact⟨x,s,a.dead,b⟩
theorem AeC (b:∀a,nx a true=nx a false) (s:Rs) (h:Abe nx pl f e s):FD pl f e (fun n=>B0 nx pl ere n .operand s):=by
 refine FD.succ ?_;obtain⟨r,d,c,g,-⟩:=h.see b true;have i:¬ r.e=0:=by rw[c];exact h.1
 simp only[B0,d,RO.bind,ne_eq,i,not_false_eq_true,if_true];exact FD.ok ⟨h.1,c,g⟩
theorem AeD (d:∀a,nx a true=nx a false) (s:Rs) (h:Abe nx pl f e s):FD pl f e (fun n=>B0 nx pl ere n .primary s):=by
 refine FD.succ ?_;by_cases b:s.e=0
 ·simp only[B0,ne_eq,b,not_true_eq_false,if_false,h.oneR,h.isR,RO.bind,aA]
  exact AeC d s h
 simp only[B0,ne_eq,b,not_false_eq_true,if_true];rcases h.2 with⟨c,g⟩ | ⟨c,-⟩
 ·exact FD.ok ⟨h.1,c,g⟩
 exact absurd c b
theorem Ahn (b:∀a,nx a true=nx a false) (s:Rs) (h:Abe nx pl f e s):FD pl f e (fun n=>B0 nx pl ere n .post s):=by
 refine FD.succ ?_;simp only[B0];refine FD.bind (AeD b s h) fun l s h=>?_;simp only[h.dead.oneR,RO.bind,ite_self];exact FD.ok h
theorem Agh (b:∀a,nx a true=nx a false) (s:Rs) (h:Abe nx pl f e s):FD pl f e (fun n=>B0 nx pl ere n .power s):=by
 refine FD.succ ?_;simp only[B0];refine FD.bind (Ahn b s h) fun l s h=>?_;simp only[h.dead.oneR,RO.bind];exact FD.ok h
theorem Agj (b:∀a,nx a true=nx a false) (s:Rs) (h:Abe nx pl f e s):FD pl f e (fun n=>B0 nx pl ere n .unary s):=by
 refine FD.succ ?_;simp only[B0,h.oneR,RO.bind];exact Agh b s h
theorem Agi (t:Tr) (s:Rs) (h:AbC pl f e s):FD pl f e (fun n=>B0 nx pl ere n (.prodL t) s):=by
 refine FD.succ ?_;simp only[B0,(h.dead (nx:=nx)).oneR,(h.dead (nx:=nx)).isR,RO.bind,aA,if_false];exact FD.ok h
theorem Aho (b:∀a,nx a true=nx a false) (s:Rs) (h:Abe nx pl f e s):FD pl f e (fun n=>B0 nx pl ere n .prod s):=by
 refine FD.succ ?_;simp only[B0];exact FD.bind (Agj b s h) fun l s h=>Agi _ s h
theorem Ahp (t:Tr) (s:Rs) (h:AbC pl f e s):FD pl f e (fun n=>B0 nx pl ere n (.sumL t) s):=by
 refine FD.succ ?_;simp only[B0,(h.dead (nx:=nx)).oneR,(h.dead (nx:=nx)).isR,RO.bind,aA,if_false];exact FD.ok h
theorem Ah5 (b:∀a,nx a true=nx a false) (s:Rs) (h:Abe nx pl f e s):FD pl f e (fun n=>B0 nx pl ere n .sum s):=by
 refine FD.succ ?_;simp only[B0];exact FD.bind (Aho b s h) fun l s h=>Ahp _ s h
theorem Ahj (t:Tr) (s:Rs) (h:AbC pl f e s):FD pl f e (fun n=>B0 nx pl ere n (.catL t) s):=by
 refine FD.succ ?_;have a:goesR nx pl s = .ok false s:=by unfold goesR;rw[if_neg h.ne]
 simp only[B0,a,RO.bind,aA,if_false];exact FD.ok h
theorem Ah0 (b:∀a,nx a true=nx a false) (s:Rs) (h:Abe nx pl f e s):FD pl f e (fun n=>B0 nx pl ere n .cat s):=by
 refine FD.succ ?_;simp only[B0];exact FD.bind (Ah5 b s h) fun l s h=>Ahj _ s h
theorem Ah1 (b:∀a,nx a true=nx a false) (s:Rs) (h:Abe nx pl f e s):FD pl f e (fun n=>B0 nx pl ere n .cmp s):=by
 refine FD.succ ?_;simp only[B0];refine FD.bind (Ah0 b s h) fun l s h=>?_;simp only[h.dead.oneR,RO.bind];exact FD.ok h
theorem Ahm (t:Tr) (s:Rs) (h:AbC pl f e s):FD pl f e (fun n=>B0 nx pl ere n (.matL t) s):=by
 refine FD.succ ?_;simp only[B0,(h.dead (nx:=nx)).oneR,(h.dead (nx:=nx)).isR,RO.bind,aA,if_false];exact FD.ok h
theorem Ah3 (b:∀a,nx a true=nx a false) (s:Rs) (h:Abe nx pl f e s):FD pl f e (fun n=>B0 nx pl ere n .mat s):=by
 refine FD.succ ?_;simp only[B0];exact FD.bind (Ah1 b s h) fun l s h=>Ahm _ s h
theorem Ahl (t:Tr) (s:Rs) (h:AbC pl f e s):FD pl f e (fun n=>B0 nx pl ere n (.innL t) s):=by
 refine FD.succ ?_;simp only[B0,(h.dead (nx:=nx)).oneR,(h.dead (nx:=nx)).isR,RO.bind,aA,if_false];exact FD.ok h
theorem Ah2 (b:∀a,nx a true=nx a false) (s:Rs) (h:Abe nx pl f e s):FD pl f e (fun n=>B0 nx pl ere n .inn s):=by
 refine FD.succ ?_;simp only[B0];exact FD.bind (Ah3 b s h) fun l s h=>Ahl _ s h
theorem Ahi (t:Tr) (s:Rs) (h:AbC pl f e s):FD pl f e (fun n=>B0 nx pl ere n (.andL t) s):=by
 refine FD.succ ?_;simp only[B0,(h.dead (nx:=nx)).oneR,(h.dead (nx:=nx)).isR,RO.bind,aA,if_false];exact FD.ok h
theorem AhZ (b:∀a,nx a true=nx a false) (s:Rs) (h:Abe nx pl f e s):FD pl f e (fun n=>B0 nx pl ere n .and s):=by
 refine FD.succ ?_;simp only[B0];exact FD.bind (Ah2 b s h) fun l s h=>Ahi _ s h
theorem Ah4 (t:Tr) (s:Rs) (h:AbC pl f e s):FD pl f e (fun n=>B0 nx pl ere n (.orL t) s):=by
 refine FD.succ ?_;simp only[B0,(h.dead (nx:=nx)).oneR,(h.dead (nx:=nx)).isR,RO.bind,aA,if_false];exact FD.ok h
theorem Aip (b:∀a,nx a true=nx a false) (s:Rs) (h:Abe nx pl f e s):FD pl f e (fun n=>B0 nx pl ere n .or s):=by
 refine FD.succ ?_;simp only[B0];exact FD.bind (AhZ b s h) fun l s h=>Ah4 _ s h
theorem Ahk (b:∀a,nx a true=nx a false) (s:Rs) (h:Abe nx pl f e s):FD pl f e (fun n=>B0 nx pl ere n .cond s):=by
 refine FD.succ ?_;simp only[B0];refine FD.bind (Aip b s h) fun l s h=>?_;simp only[h.dead.oneR,RO.bind];exact FD.ok h
theorem Ac4 (b:∀a,nx a true=nx a false) (s:Rs) (h:Abe nx pl f e s):FD pl f e (fun n=>B0 nx pl ere n .expr s):=by
 refine FD.succ ?_;simp only[B0];refine FD.bind (Ahk b s h) fun l s h=>?_;simp only[h.dead.oneR,RO.bind,ite_self];exact FD.ok h
theorem Ab3 (b:∀a,nx a true=nx a false) (s:Rs) (h:Abe nx pl f e s):FD pl f e (fun n=>Aaq nx pl ere n .simple s):=by
 refine FD.succ ?_;simp only[Aaq,Abo,h.takeR,RO.bind,aA,if_false];exact FD.bind (Ac4 b s h) fun l s h=>FD.ok h
theorem AdT (b:∀a,nx a true=nx a false) (s:Rs) (h:Abe nx pl f e s):FD pl f e (fun n=>Aaq nx pl ere n .stmt s):=by
 refine FD.succ ?_;simp only[Aaq,Abo,h.takeR,h.isR,RO.bind,aA,if_false];refine FD.bind (Ab3 b s h) fun l s h=>?_
 have d:Acf nx pl s = .ok () s:=by
  unfold Acf AbG;by_cases c:(nx s.a false).e=0
  ·rw[if_pos c];simp only[RO.bind];rw[if_pos (.inl h.ne)]
  rw[if_neg c,Aea _ _ h.ne];simp only[RO.bind];rw[if_pos (.inl h.ne)]
 simp only[d,RO.bind];exact FD.ok h
theorem AbC.wantR (h:AbC pl f e s) (x:List UInt8):Go.Proofs.YtfblenhlildnaaaGreatDoor.wantR nx pl x s = .ok () s:=by
 unfold Go.Proofs.YtfblenhlildnaaaGreatDoor.wantR;rw[if_neg h.ne]
theorem AbC.lines (h:AbC pl f e s) (x:List UInt8):Ev (fun n=>linesR nx x n s) (.ok () s):=(h.dead (nx:=nx)).lines x
theorem AdA (z:Nat×Nat) (l:List Tr) (s:Rs) (h:AbC pl f e s):FD pl f e (fun n=>Aaq nx pl ere n (.blockL z l) s):=by
 refine FD.succ ?_;simp only[Aaq,h.ne,if_false,h.wantR,RO.bind];exact FD.ok h
theorem AcI (d:∀a,nx a true=nx a false) (z:Nat×Nat) (l:List Tr) (s:Rs) (h:Abe nx pl f e s):FD pl f e (fun n=>Aaq nx pl ere n (.blockL z l) s):=by
 by_cases g:s.e=0
 ·refine FD.succ ?_
  simp only[Aaq,g,if_true,h.isR,RO.bind,aA,if_false];refine FD.bind (AdT d s h) fun x s h=>?_;obtain⟨_,r,c,i⟩:=AdA (nx:=nx) (ere:=ere) z (l++x) s h;exact⟨_,r,c,(h.lines [59]).bind i⟩
 rcases h.2 with⟨b,c⟩ | ⟨b,-⟩
 ·exact AdA z l s ⟨h.1,b,c⟩
 exact absurd b g
theorem Ac3 (b:∀a,nx a true=nx a false) (s:Rs) (h:Abe nx pl f e s):DD nx pl f e (fun n=>Aaq nx pl ere n .body s):=by
 refine DD.succ ?_;simp only[Aaq,Abo,h.isR,RO.bind,aA,if_false];exact DD.bind (AdT b s h).dd fun l s h=>DD.ok h
end
end Go.Proofs.YtfblenhlildnaaaGreatDoor
namespace Go
def okI (n:Nat):Bool:=Nat.beq (floatOfInt .f64 (Int.ofNat (n+1))) (KK (n+1))
def Afo (o:Nat):Nat->Bool
 | 0=>true
 | m+1=>cond (okI (m+o)) (Afo o m) false
theorem AcW (o:Nat):∀m:Nat,Afo o m=true->∀j,o<=j->j<m+o->okI j=true
 | 0,_,j,h1,h2=>by omega
 | m+1,h,j,h1,h2=>by
   unfold Afo at h
   cases e:okI (m+o) with
   | false=>rw[e] at h;cases h
   | true =>
     rw[e] at h;by_cases a:j=m+o
     ·exact a▸e
     exact AcW o m h j h1 (by omega)
theorem Ah8 {n:Nat} (h:okI n=true):floatOfInt .f64 (Int.ofNat (n+1))=KK (n+1):=Nat.eq_of_beq_eq_true h
theorem AiS:Afo 0 1366=true:=by kernel_rfl
theorem AiT:Afo 1366 1366=true:=by kernel_rfl
theorem AiU:Afo 2732 1366=true:=by kernel_rfl
theorem Aio (n:Nat) (c:0<n) (h:n<=4097):floatOfInt .f64 (n:Int)=KK n:=by
 have b:okI (n-1)=true:=by
  have a:n-1<1366\/(1366<=n-1/\n-1<2732)\/(2732<=n-1/\n-1<4098):=(by omega);rcases a with a | a | a
  ·exact AcW _ _ AiS (n-1) (by omega) (by omega)
  ·exact AcW _ _ AiT (n-1) (by omega) (by omega)
  exact AcW _ _ AiU (n-1) (by omega) (by omega)
 have:=Ah8 b;rw[show n-1+1=n by omega] at this;exact this
end Go
namespace Go.Proofs.YtfblenhlildnaaaGreatDoor
open Go.Proofs.Tryz
open Go.RowKit
theorem Adg (s:ByteArray) (B:s.size<=4096):RlC (W1 s.data.toList) s:=by
 intro f w y;have q:(if 0<f then (f:Int) else 0)=f:=by split<;>omega
 have r:(if f<s.size then (f:Int) else s.size)=f:=by split<;>omega
 go_in
 go_wp2
 go_loop [5,6,7] (fun i j n=>∃k:Nat,k<=f/\n = .int .i64 k/\i = .int .i64 (Xv s.data.toList k).1/\j = .int .i64 (Xv s.data.toList k).2) (fun _ _ n=>f-(intOf n).toNat)
 case atStart=>exact⟨0,by omega,rfl,rfl,rfl⟩
 obtain⟨k,z,rfl,rfl,rfl⟩:=hrel;have A:s.data.toList.length=s.size:=rfl;obtain⟨L,C,d⟩:∃L C,Xv s.data.toList k=(L,C):=⟨_,_,rfl⟩;have c:=Lib.hid (Z6 s.data.toList k (by omega));rw[d] at c ⊢;have l:=Lib.hid d;clear d;by_cases o:k<f
 ·have p:k<s.size:=by omega
  have g:=Zc s.data.toList k (by omega);rw[l.out] at g;have a:=Lib.hid g;clear g;by_cases h:s.data.toList[k]'(by omega)=10
  ·have b:((s[k].toNat:Int)==10)=true:=by rw[show s[k]=10 from h];rfl
   have t:aB ((L:Int)+1)=L+1:=by have:=c.out;unfold aB;dsimp only at this;omega
   have m:aB ((C:Int)+1)=C+1:=by have:=c.out;unfold aB;dsimp only at this;omega
   go_wp2;refine⟨⟨k+1,by omega,rfl,?_,?_⟩,?_⟩
   ·rw[a.out,if_pos h,t];rfl
   ·rw[a.out,if_pos h];rfl
   simp[intOf];omega
  have b:((s[k].toNat:Int)==10)=false:=beq_eq_false_iff_ne.2 fun e=>h (UInt8.toNat_inj.1 (show s[k].toNat=10 by omega));have m:aB ((C:Int)+1)=C+1:=by have:=c.out;unfold aB;dsimp only at this;omega
  go_wp2;refine⟨⟨k+1,by omega,rfl,?_,?_⟩,?_⟩
  ·rw[a.out,if_neg h]
  ·rw[a.out,if_neg h,m];rfl
  simp[intOf];omega
 obtain rfl:k=f:=(by omega);have v:floatOfInt .f64 (L:Int)=KK L:=Aio L c.out.1 c.out.2.2.1;have x:floatOfInt .f64 (C:Int)=KK C:=Aio C c.out.2.1 c.out.2.2.2;have u:=Aas (KK L) (KK C);go_wp2;go_ret;refine⟨?_,rfl⟩;unfold W1;rw[l.out];rfl
end Go.Proofs.YtfblenhlildnaaaGreatDoor
