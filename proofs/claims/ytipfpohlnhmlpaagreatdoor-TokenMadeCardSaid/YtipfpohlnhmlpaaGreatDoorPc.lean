/- Pc Pd Gt -/
import Derived.Test.YtipfpohlnhmlpaaGreatDoorGd
import Derived.ScopeJumps
import Derived.WalkKit
open List renaming drop_eq_nil_of_le->aA,length_cons->aB,length_drop->aC
namespace Go.Proofs.YtipfpohlnhmlpaaGreatDoor
def AF (q:UInt8) (l:List UInt8) (k:Nat):Int:=match BY q (l.drop k) with | some n=>(k+n:Nat) | none => -1
theorem F8 (q:UInt8) (l:List UInt8) (k:Nat) (h:l.length<=k):AF q l k = -1:=by
 rw[AF,aA h];rfl
theorem FM (q:UInt8) (l:List UInt8) (k:Nat) (h:k<l.length) (a:l[k]=10):AF q l k = -1:=by
 rw[AF,Aq l k h,BY.eq_def];simp[a]
theorem Iz (q:UInt8) (l:List UInt8) (k:Nat) (h:k<l.length) (a:l[k]≠10) (b:l[k]=q):AF q l k=k:=by
 rw[AF,Aq l k h,BY.eq_def];subst b;simp[a]
theorem Fm (q:UInt8) (l:List UInt8) (k:Nat) (h:k<l.length) (a:l[k]≠10) (b:l[k]≠q) (c:l[k]≠92):AF q l k=AF q l (k+1):=by
 rw[AF,Aq l k h,BY.eq_def,AF];simp only[a,b,c,if_false]
 cases BY q (l.drop (k+1)) with
 | none=>rfl
 | some n=>simp;omega
theorem Ef (q:UInt8) (l:List UInt8) (k:Nat) (h:k<l.length) (a:l[k]≠10) (b:l[k]≠q) (c:l[k]=92) (d:l.length<=k+1):AF q l k = -1:=by
 rw[AF,Aq l k h,aA d,BY.eq_def];dsimp only;rw[if_neg a,if_neg b,if_pos c]
theorem EL (q:UInt8) (l:List UInt8) (k:Nat) (h:k+1<l.length) (a:l[k]≠10) (b:l[k]≠q) (c:l[k]=92) (d:l[k+1]=10):AF q l k = -1:=by
 rw[AF,Aq l k (by omega),Aq l (k+1) h,BY.eq_def];dsimp only;rw[if_neg a,if_neg b,if_pos c,if_pos d]
theorem GX (q:UInt8) (l:List UInt8) (k:Nat) (h:k+1<l.length) (a:l[k]≠10) (b:l[k]≠q) (c:l[k]=92) (d:l[k+1]≠10):AF q l k=AF q l (k+2):=by
 rw[AF,Aq l k (by omega),Aq l (k+1) h,BY.eq_def,AF];dsimp only;rw[if_neg a,if_neg b,if_pos c,if_neg d]
 cases BY q (l.drop (k+2)) with
 | none=>rfl
 | some n=>simp;omega
theorem GV (q:UInt8):∀(N:Nat) (l:List UInt8) (n:Nat),l.length<=N->BY q l=some n->n<l.length
 | _,[],n,_,h=>by simp[BY] at h
 | 0,c::r,n,hN,_=>by simp at hN
 | N+1,c::r,n,hN,h=>by
   rw[BY.eq_def] at h;dsimp only at h;simp only[aB] at hN ⊢;split at h
   ·cases h
   split at h
   ·cases h;omega
   split at h
   ·split at h
    ·cases h
    rename_i d b
    split at h
    ·cases h
    cases a:BY q b with
    | none=>rw[a] at h;cases h
    | some m =>
      rw[a] at h;cases h;simp only[aB] at hN ⊢;have:=GV q N b m (by omega) a;show m+2<_;omega
   cases a:BY q r with
   | none=>rw[a] at h;cases h
   | some m =>
     rw[a] at h;cases h;have:=GV q N r m (by omega) a;show m+1<_;omega
theorem Cl (q:UInt8) (l:List UInt8) (k t:Nat) (h:AF q l k=t):k<=t/\t<l.length:=by
 rw[AF] at h
 cases a:BY q (l.drop k) with
 | none=>rw[a] at h;simp at h
 | some n =>
   rw[a] at h;have:=GV q _ _ n (Nat.le_refl _) a;simp at this h;omega
theorem GW (q:UInt8) (l:List UInt8) (k t:Nat) (h:AF q l k=t) (i:k<t) (d:k<l.length) :
  l[k]≠10/\l[k]≠q/\(l[k]≠92->AF q l (k+1)=t)/\(l[k]=92->k+2<=t/\AF q l (k+2)=t):=by
 have a:l[k]≠10:=fun e=>by rw[FM q l k d e] at h;omega
 have b:l[k]≠q:=fun e=>by rw[Iz q l k d a e] at h;omega
 refine⟨a,b,fun c=>by rw[<- Fm q l k d a b c];exact h,fun c=>?_⟩;by_cases f:k+1<l.length
 ·by_cases g:l[k+1]=10
  ·rw[EL q l k f a b c g] at h;omega
  rw[GX q l k f a b c g] at h;exact⟨(Cl q l _ t h).1,h⟩
 rw[Ef q l k d a b c (by omega)] at h;omega
theorem OJ:∀(f n:Nat) (l:List UInt8) (j:Nat) (_:j<(D_ f n l).2) (a:j<l.length),48<=l[j].toNat/\l[j].toNat<=55
 | 0,_,_,j,hj,_=>by simp[D_] at hj
 | _+1,_,[],j,hj,_=>by simp[D_] at hj
 | f+1,n,c::r,j,hj,a=>by
   unfold D_ at hj;split at hj
   ·rename_i b
    cases j with
    | zero=>exact b
    | succ j=>exact OJ f _ r j (by simp at hj;omega) (by simpa using a)
   simp at hj
theorem Iy (l:List UInt8) (t:Nat):∀(j k:Nat),AF 34 l k=t->k+j<=t->(∀i (b:k+i<l.length),i<j->48<=l[k+i].toNat/\l[k+i].toNat<=55)->AF 34 l (k+j)=t
 | 0,k,h,_,_=>h
 | j+1,k,h,hj,hd=>by
   have g:=(Cl 34 l k t h).2;have a:=hd 0 (by omega) (by omega);simp only[Nat.add_zero] at a;have d:l[k]≠92:=fun e=>by rw[e] at a;simp at a
   have:=(GW 34 l k t h (by omega) (by omega)).2.2.1 d
   have f:=Iy l t j (k+1) this (by omega) (fun i b c=>by
    have:=hd (i+1) (by omega) (by omega)
    simpa[Nat.add_assoc,Nat.add_comm 1] using this)
   rw[show k+(j+1)=k+1+j by omega];exact f
theorem Pt (l:List UInt8) (k t:Nat) (u:k+2<=t) (h:AF 34 l (k+2)=t) (s:(BZ ((l.drop (k+1)).take (t-(k+1)))).2≠0) :
  AF 34 l (k+1+(BZ ((l.drop (k+1)).take (t-(k+1)))).2)=t/\k+1+(BZ ((l.drop (k+1)).take (t-(k+1)))).2<=t:=by
 have v:=(Cl 34 l _ t h).2;have b:=TD ((l.drop (k+1)).take (t-(k+1)));simp only[List.length_take,aC] at b;refine⟨?_,by omega⟩;generalize c:(l.drop (k+1)).take (t-(k+1))=m at *;have e:∀j (n:j<m.length),m[j]=l[k+1+j]'(by subst c;simp at n;omega):=fun j n=>by subst c;simp
 have a:m.length=t-(k+1):=by subst c;simp;omega
 cases m with
 | nil=>simp at a;omega
 | cons d r =>
   by_cases g:A4.idxOf d<10
   ·have:(BZ (d::r)).2=1:=by rw[BZ,if_pos g]
    rw[this];exact h
   have o:(BZ (d::r)).2=(D_ 3 0 (d::r)).2:=(by rw[BZ,if_neg g]);rw[o] at s b ⊢
   have:=Iy l t ((D_ 3 0 (d::r)).2-1) (k+2) h (by omega) (fun i p q=>by
    have f:=OJ 3 0 (d::r) (i+1) (by omega) (by simp only[aB] at a ⊢;omega);rw[e (i+1) (by simp only[aB] at a ⊢;omega)] at f
    simpa[show k+1+(i+1)=k+2+i by omega] using f)
   rw[show k+1+(D_ 3 0 (d::r)).2=k+2+((D_ 3 0 (d::r)).2-1) by omega];exact this
def Bc (l:List UInt8) (k t:Nat):List UInt8:=(l.drop k).take (t-k)
theorem KU (l:List UInt8) (k t:Nat) (b:k<t) (a:k<l.length):Bc l k t=l[k]::Bc l (k+1) t:=by
 rw[Bc,Aq l k a,show t-k=(t-(k+1))+1 by omega,List.take_succ_cons];rfl
theorem KV (l:List UInt8) (t:Nat):Bc l t t=[]:=by simp[Bc]
theorem RG (l:List UInt8) (k t n:Nat):(Bc l k t).drop n=Bc l (k+n) t:=by
 rw[Bc,Bc,List.drop_take,List.drop_drop];congr 1;omega
theorem Td:Df []=[]:=rfl
theorem Oi (c:UInt8) (r:List UInt8) (h:c≠92):Df (c::r)=c::Df r:=by
 cases r with
 | nil=>simp[Df,h]
 | cons d r=>rw[Df,if_neg h]
theorem Oj (r:List UInt8):Df (92::47::r)=47::Df r:=by
 rw[Df,if_pos rfl,if_pos rfl]
theorem UL (d:UInt8) (r:List UInt8) (h:d≠47):Df (92::d::r)=92::d::Df r:=by
 rw[Df,if_pos rfl,if_neg h]
def CU (l:List UInt8):Nat :=
 if (l.drop (Al Aj l)).head?=some 46 then
  (if Al Aj l=0/\Al Aj (l.drop (Al Aj l+1))=0 then 0 else Al Aj l+1+Al Aj (l.drop (Al Aj l+1)))
 else Al Aj l
def AR (l:List UInt8):Nat:=if l.head?=some 43\/l.head?=some 45 then 1 else 0
def GZ (l:List UInt8):Nat :=
 if l.head?=some 101\/l.head?=some 69 then
  (if Al Aj (l.drop (1+AR (l.drop 1)))=0 then 0 else 1+AR (l.drop 1)+Al Aj (l.drop (1+AR (l.drop 1))))
 else 0
def An (l:List UInt8):Nat:=if CU l=0 then 0 else CU l+GZ (l.drop (CU l))
theorem A' (l:List UInt8) (k:Nat) (h:k<l.length):(l.drop k).head?=some l[k]:=by rw[Aq l k h];rfl
theorem Bv (l:List UInt8) (k:Nat) (h:l.length<=k):(l.drop k).head?=none:=by rw[aA h];rfl
theorem RU (l:List UInt8):CU l<=l.length:=by
 have b:=Bp Aj l;have c:=Bp Aj (l.drop (Al Aj l+1));unfold CU;split
 ·rename_i h
  have:Al Aj l<l.length:=by
   rcases Nat.lt_or_ge (Al Aj l) l.length with a | a
   ·exact a
   rw[Bv l _ a] at h;cases h
  split
  ·omega
  simp only[aC] at c;omega
 exact b
theorem TG (l:List UInt8):GZ l<=l.length:=by
 have a:=Bp Aj (l.drop (1+AR (l.drop 1)));unfold GZ;split
 ·split
  ·omega
  simp only[aC] at a;omega
 omega
theorem D9 (l:List UInt8):An l<=l.length:=by
 have b:=RU l;have a:=TG (l.drop (CU l));unfold An;simp only[aC] at a;split<;>omega
end Go.Proofs.YtipfpohlnhmlpaaGreatDoor
namespace Go
def Exit.jumps (J:Nat->Act->World->Prop) (Q:Exit->Act->World->Prop):Exit->Act->World->Prop
 | .goto l,a,w=>J l a w
 | e,a,w=>Q e a w
section
variable {P:Program} {a:Act} {w:World} {Q:Exit->Act->World->Prop} {J:Nat->Act->World->Prop}
@[go_sem] theorem Exit.jumps_normal:Exit.jumps J Q .normal a w=Q .normal a w:=rfl
@[go_sem] theorem Exit.jumps_exit (id:Nat):Exit.jumps J Q (.exit id) a w=Q (.exit id) a w:=rfl
@[go_sem] theorem Exit.jumps_ret:Exit.jumps J Q .ret a w=Q .ret a w:=rfl
@[go_sem] theorem Exit.jumps_panic (b:List PanicEntry):Exit.jumps J Q (.panic b) a w=Q (.panic b) a w:=rfl
theorem H' {c:Code} (h:c.wp P Q a w):(Code.seq .skip c).wp P Q a w:=wp_seq (wp_skip h)
theorem JB {c:Code} (J:Nat->Act->World->Prop) (M:Nat->Act->World->Nat)
  (p:∀l a w,J l a w->∃d,findLabel c l=some (.seq .skip d)/\d.wp P (Exit.jumps (fun z B w'=>J z B w'/\M z B w'<M l a w) Q) a w)
  (first:(∀l d a w,findLabel c l=some (.seq .skip d)->J l a w->d.wp P (Exit.jumps J Q) a w)->c.wp P (Exit.jumps J Q) a w):(Code.scope c).wp P Q a w:=by
 have first:=first fun l d a w A G=>by
  obtain⟨u,t,I⟩:=p l a w G;rw[A] at t;injection t with E;injection E with _ F;subst F;exact wp_mono I fun e a w q=>by cases e<;>first | exact q | exact q.1
 intro b k D;have N:∀l d,findLabel c l=some d->gotoIn l (.inScope c::k)=some (.code d :: .inScope c::k):=fun l d h=>by simp[gotoIn,h]
 have L:∀n l a w d,findLabel c l=some (.seq .skip d)->M l a w=n->J l a w->∃e B w',Q e B w'/\Arrives P (lone (b.at a (.code (.seq .skip d) :: .inScope c::k)) D w) b k D e B w':=by
  intro n
  induction n using Nat.strongRecOn with
  | _ n S =>
    intro l a w d A T G;obtain⟨u,t,I⟩:=p l a w G;have:u=d:=by rw[A] at t;injection t with E;injection E with _ F;exact F.symm
    subst this;obtain⟨e,f,g,o,i⟩:=H' I b (.inScope c::k) D
    cases e with
    | normal=>exact⟨.normal,f,g,o,Steps.trans i (.one step_inScope)⟩
    | exit id=>exact⟨.exit id,f,g,o,fun K H=>i K (by simp[exitTo,H])⟩
    | goto z =>
      obtain⟨C,R⟩:=o;obtain⟨x,y,_⟩:=p z f g C;obtain⟨s,r,v,m,j⟩:=S _ (by omega) z f g x y rfl C;exact⟨s,r,v,m,.of_steps (i _ (N _ _ y)) j⟩
    | ret=>exact⟨_,f,g,o,i⟩
    | panic O=>exact⟨_,f,g,o,i⟩
    | outgrown=>exact⟨_,f,g,o,i⟩
 obtain⟨e,f,g,o,i⟩:=first b (.inScope c::k) D
 cases e with
 | normal=>exact⟨.normal,f,g,o,.head step_scope (Steps.trans i (.one step_inScope))⟩
 | exit id=>exact⟨.exit id,f,g,o,fun K H => .head step_scope (i K (by simp[exitTo,H]))⟩
 | goto z =>
   obtain⟨d,A,_⟩:=p z f g o;obtain⟨s,r,v,m,j⟩:=L _ z f g d A rfl o;exact⟨s,r,v,m,.of_steps (.head step_scope (i _ (N _ _ A))) j⟩
 | ret=>exact⟨_,f,g,o,.of_steps (.one step_scope) i⟩
 | panic O=>exact⟨_,f,g,o,.of_steps (.one step_scope) i⟩
 | outgrown=>exact⟨_,f,g,o,.of_steps (.one step_scope) i⟩
theorem GN {c j k:Code} (J:Nat->Act->World->Prop) (i:Nat->Act->World->Nat) (m:findLabel c 0=some (.seq .skip j)) (n:findLabel c 1=some (.seq .skip k)) (p:∀l a w,J l a w->l=0\/l=1)
  (b:∀a w,J 0 a w->j.wp P (Exit.jumps (fun f e g=>J f e g/\i f e g<i 0 a w) Q) a w)
  (d:∀a w,J 1 a w->k.wp P (Exit.jumps (fun f e g=>J f e g/\i f e g<i 1 a w) Q) a w)
  (first:(∀a w,J 0 a w->j.wp P (Exit.jumps J Q) a w)->(∀a w,J 1 a w->k.wp P (Exit.jumps J Q) a w)->c.wp P (Exit.jumps J Q) a w):(Code.scope c).wp P Q a w:=by
 refine JB J i (fun l a w h=>?_) (fun o=>first (fun a w h=>o 0 _ a w m h) (fun a w h=>o 1 _ a w n h));rcases p l a w h with rfl | rfl
 ·exact⟨_,m,b a w h⟩
 exact⟨_,n,d a w h⟩
theorem Ll {c b:Code} (l:Nat) (J:Act->World->Prop) (f:Act->World->Nat) (j:findLabel c l=some (.seq .skip b))
  (d:∀a w,J a w->b.wp P (Exit.jump l (fun g i=>J g i/\f g i<f a w) Q) a w)
  (first:(∀a w,J a w->b.wp P (Exit.jump l J Q) a w)->c.wp P (Exit.jump l J Q) a w):(Code.scope c).wp P Q a w :=
 wp_scope_jumps l J f j (first fun a w h=>wp_mono (d a w h) (fun e a w q=>by cases e<;>first | exact q | exact⟨q.1,q.2.1⟩)) fun a w h=>H' (d a w h)
end
end Go
