/- Aq Ar As At Au -/
import Derived.Test.YtfblenhlildnaaaGreatDoorNl
open Bool renaming false_eq_true->aA,and_eq_true->aD
open List renaming not_mem_nil->aB,contains_iff_exists_mem_beq->aC,mem_cons->aE,mem_singleton->aF
namespace Go.Proofs.YtfblenhlildnaaaGreatDoor
section
variable {nx:Nat->Bool->Tk} {pl:Nat->Nat×Nat} {ere:List UInt8->Option Bool} {p:Ps} {s:Rs}
theorem Afc (t:Tk) (L:List (List UInt8)):(t.kd=9/\L.contains t.tx=true)↔∃x∈L,isS t x=true:=by
 unfold isS;constructor
 ·rintro⟨b,c⟩
  obtain⟨x,a,e⟩:=aC.1 c;exact⟨x,a,by rw[decide_eq_true b,decide_eq_true (eq_of_beq e)];rfl⟩
 rintro⟨x,a,h⟩;simp only[aD,decide_eq_true_eq] at h;exact⟨h.1,aC.2 ⟨x,a,beq_iff_eq.2 h.2⟩⟩
theorem Re.oneY (h:Re p s) (L:List (List UInt8)) (b:(nx p.a false).e=0) (c:∃x∈L,isS (nx p.a false) x=true):oneR nx pl L s = .ok (some ((nx p.a false).tx,pl (nx p.a false).f)) { s with a:=(nx p.a false).t }:=by
 rw[h.one L b,if_pos ((Afc _ _).2 c)]
theorem Re.oneN (h:Re p s) (L:List (List UInt8)) (b:(nx p.a false).e=0) (c:¬ ∃x∈L,isS (nx p.a false) x=true):oneR nx pl L s = .ok none s:=by
 rw[h.one L b,if_neg (fun d=>c ((Afc _ _).1 d))]
theorem Abp {a:Type} (x:List UInt8) (p:Ps) (K:Bool->Ps->Hf a):(Ab_ nx x p).bind K=(Eb nx false p).bind fun t p=>K (isS t x) p:=by
 unfold Ab_;cases Eb nx false p<;>rfl
theorem AbR (x:List UInt8) (p:Ps) (b:(nx p.a false).e=0) (g:isS (nx p.a false) x=true) (d:ZT x=false) (c:ZV x=false):Abb nx pl x p = .ok (pl (nx p.a false).f) (CQ (nx p.a false) p):=by
 unfold Abb Eb;rw[if_pos b];simp only[Hf.bind,g,d,c,if_true,aA,if_false];rfl
abbrev Abg (nx:Nat->Bool->Tk) (pl:Nat->Nat×Nat) (g:Bool) (o:Hf (List Tr)) (F:Nat->RO (List Tr)):Prop:=Rel nx pl g (fun x y=>x=y) o F
def AfD (nx:Nat->Bool->Tk) (pl:Nat->Nat×Nat) (l:List Tr) (s:Rs):RO (List Tr):=(wantR nx pl [105,110] s).bind fun _ r=>(nameR nx pl r).bind fun t r => .ok [.mk 11 t.tx 0 (pl (nx s.a false).f) l] r
structure EQ (nx:Nat->Bool->Tk) (pl:Nat->Nat×Nat) (ere:List UInt8->Option Bool) (n:Nat):Prop where
 expr:∀(p:Ps) (s:Rs),Re p s->Abg nx pl s.g (Dn nx pl ere n .expr p) (fun m=>B0 nx pl ere m .expr s)
 cond:∀(p:Ps) (s:Rs),Re p s->Abg nx pl s.g (Dn nx pl ere n .cond p) (fun m=>B0 nx pl ere m .cond s)
 or:∀(p:Ps) (s:Rs),Re p s->Abg nx pl s.g (Dn nx pl ere n .or p) (fun m=>B0 nx pl ere m .or s)
 orL:∀(t:Tr) (p:Ps) (s:Rs),Re p s->Abg nx pl s.g (Dn nx pl ere n (.orL t) p) (fun m=>B0 nx pl ere m (.orL t) s)
 and:∀(p:Ps) (s:Rs),Re p s->Abg nx pl s.g (Dn nx pl ere n .and p) (fun m=>B0 nx pl ere m .and s)
 andL:∀(t:Tr) (p:Ps) (s:Rs),Re p s->Abg nx pl s.g (Dn nx pl ere n (.andL t) p) (fun m=>B0 nx pl ere m (.andL t) s)
 inn:∀(p:Ps) (s:Rs),Re p s->Abg nx pl s.g (Dn nx pl ere n .inn p) (fun m=>B0 nx pl ere m .inn s)
 innL:∀(t:Tr) (p:Ps) (s:Rs),Re p s->Abg nx pl s.g (Dn nx pl ere n (.innL t) p) (fun m=>B0 nx pl ere m (.innL t) s)
 mat:∀(p:Ps) (s:Rs),Re p s->Abg nx pl s.g (Dn nx pl ere n .mat p) (fun m=>B0 nx pl ere m .mat s)
 matL:∀(t:Tr) (p:Ps) (s:Rs),Re p s->Abg nx pl s.g (Dn nx pl ere n (.matL t) p) (fun m=>B0 nx pl ere m (.matL t) s)
 cmp:∀(p:Ps) (s:Rs),Re p s->Abg nx pl s.g (Dn nx pl ere n .cmp p) (fun m=>B0 nx pl ere m .cmp s)
 cat:∀(p:Ps) (s:Rs),Re p s->Abg nx pl s.g (Dn nx pl ere n .cat p) (fun m=>B0 nx pl ere m .cat s)
 catL:∀(t:Tr) (p:Ps) (s:Rs),Re p s->Abg nx pl s.g (Dn nx pl ere n (.catL t) p) (fun m=>B0 nx pl ere m (.catL t) s)
 sum:∀(p:Ps) (s:Rs),Re p s->Abg nx pl s.g (Dn nx pl ere n .sum p) (fun m=>B0 nx pl ere m .sum s)
 sumL:∀(t:Tr) (p:Ps) (s:Rs),Re p s->Abg nx pl s.g (Dn nx pl ere n (.sumL t) p) (fun m=>B0 nx pl ere m (.sumL t) s)
 prod:∀(p:Ps) (s:Rs),Re p s->Abg nx pl s.g (Dn nx pl ere n .prod p) (fun m=>B0 nx pl ere m .prod s)
 prodL:∀(t:Tr) (p:Ps) (s:Rs),Re p s->Abg nx pl s.g (Dn nx pl ere n (.prodL t) p) (fun m=>B0 nx pl ere m (.prodL t) s)
 unary:∀(p:Ps) (s:Rs),Re p s->Abg nx pl s.g (Dn nx pl ere n .unary p) (fun m=>B0 nx pl ere m .unary s)
 power:∀(p:Ps) (s:Rs),Re p s->Abg nx pl s.g (Dn nx pl ere n .power p) (fun m=>B0 nx pl ere m .power s)
 post:∀(p:Ps) (s:Rs),Re p s->Abg nx pl s.g (Dn nx pl ere n .post p) (fun m=>B0 nx pl ere m .post s)
 primary:∀(p:Ps) (s:Rs),Re p s->Abg nx pl s.g (Dn nx pl ere n .primary p) (fun m=>B0 nx pl ere m .primary s)
 target:∀(p:Ps) (s:Rs),Re p s->Abg nx pl s.g (Dn nx pl ere n .target p) (fun m=>B0 nx pl ere m .lval s)
 listL:∀(l:List Tr) (p:Ps) (s:Rs),Re p s->Abg nx pl s.g (Dn nx pl ere n (.listL l) p) (fun m=>B0 nx pl ere m (.listL l) s)
 cond1:∀(p:Ps) (s:Rs),Re p s->Abg nx pl s.g (Dn nx pl ere n .cond1 p) (fun m=>B0 nx pl ere m .round s)
 dollar:∀(p:Ps) (s:Rs),Re p s->Abg nx pl s.g (Dn nx pl ere n .dollar p) (fun m=>B0 nx pl ere m .dollar s)
 list:∀(top:Bool) (p:Ps) (s:Rs),Re p s->Abg nx pl s.g (Dn nx pl ere n .list p) (fun m=>B0 nx pl ere m (.list top) s)
 oper:∀(p:Ps) (s:Rs),Re p s->Abg nx pl s.g (Dn nx pl ere n .operand p) (fun m=>(oneR nx pl ppL s).bind fun o s=>match o with | some x=>(B0 nx pl ere m .lval s).bind fun l s => .ok [.mk 17 x.1 0 x.2 l] s | none=>B0 nx pl ere m .operand s)
 has:∀(l:List Tr) (p:Ps) (s:Rs),Re p s->Abg nx pl s.g (Dn nx pl ere n (.has l) p) (fun _=>AfD nx pl l s)
 exls:∀(p:Ps) (s:Rs),Re p s->Abg nx pl s.g (Dn nx pl ere n .list p) (fun m=>(B0 nx pl ere m .expr s).bind fun l r=>B0 nx pl ere m (.listL l) r)
 args:∀(k:Int) (t:Tk) (p:Ps) (s:Rs),Re p s->Rel nx pl s.g (fun l y=>y=[.mk k t.tx 0 (pl t.f) l]) (Dn nx pl ere n .args p) (fun m=>B0 nx pl ere m (.args k t) s)
 index:∀(p:Ps) (s:Rs),Re p s->Abg nx pl s.g (Dn nx pl ere n .index p) (fun m=>(wantR nx pl [91] s).bind fun _ s=>B0 nx pl ere m (.inside [93]) s)
theorem Ain (_H:Abi nx) {n:Nat} (E:EQ nx pl ere n):∀(p:Ps) (s:Rs),Re p s->Abg nx pl s.g (Dn nx pl ere (n+1) .or p) (fun m=>B0 nx pl ere m .or s):=fun p s h=>by
 refine Rel.succ ?_;simp only[B0,Dn];refine Rel.bind (E.and p s h) (fun x y p s d c b=>?_) (fun f e y s a=>AdQ _ s a);subst d;exact b▸E.orL _ p s c
theorem AhP (_H:Abi nx) {n:Nat} (E:EQ nx pl ere n):∀(p:Ps) (s:Rs),Re p s->Abg nx pl s.g (Dn nx pl ere (n+1) .and p) (fun m=>B0 nx pl ere m .and s):=fun p s h=>by
 refine Rel.succ ?_;simp only[B0,Dn];refine Rel.bind (E.inn p s h) (fun x y p s d c b=>?_) (fun f e y s a=>Ac1 _ s a);subst d;exact b▸E.andL _ p s c
theorem AhV (_H:Abi nx) {n:Nat} (E:EQ nx pl ere n):∀(p:Ps) (s:Rs),Re p s->Abg nx pl s.g (Dn nx pl ere (n+1) .inn p) (fun m=>B0 nx pl ere m .inn s):=fun p s h=>by
 refine Rel.succ ?_;simp only[B0,Dn];refine Rel.bind (E.mat p s h) (fun x y p s d c b=>?_) (fun f e y s a=>AdO _ s a);subst d;exact b▸E.innL _ p s c
theorem AhW (_H:Abi nx) {n:Nat} (E:EQ nx pl ere n):∀(p:Ps) (s:Rs),Re p s->Abg nx pl s.g (Dn nx pl ere (n+1) .mat p) (fun m=>B0 nx pl ere m .mat s):=fun p s h=>by
 refine Rel.succ ?_;simp only[B0,Dn];refine Rel.bind (E.cmp p s h) (fun x y p s d c b=>?_) (fun f e y s a=>AdP _ s a);subst d;exact b▸E.matL _ p s c
theorem AhR (_H:Abi nx) {n:Nat} (E:EQ nx pl ere n):∀(p:Ps) (s:Rs),Re p s->Abg nx pl s.g (Dn nx pl ere (n+1) .cat p) (fun m=>B0 nx pl ere m .cat s):=fun p s h=>by
 refine Rel.succ ?_;simp only[B0,Dn];refine Rel.bind (E.sum p s h) (fun x y p s d c b=>?_) (fun f e y s a=>AdN _ s a);subst d;exact b▸E.catL _ p s c
theorem AhY (_H:Abi nx) {n:Nat} (E:EQ nx pl ere n):∀(p:Ps) (s:Rs),Re p s->Abg nx pl s.g (Dn nx pl ere (n+1) .sum p) (fun m=>B0 nx pl ere m .sum s):=fun p s h=>by
 refine Rel.succ ?_;simp only[B0,Dn];refine Rel.bind (E.prod p s h) (fun x y p s d c b=>?_) (fun f e y s a=>AdR _ s a);subst d;exact b▸E.sumL _ p s c
theorem Ahc (_H:Abi nx) {n:Nat} (E:EQ nx pl ere n):∀(p:Ps) (s:Rs),Re p s->Abg nx pl s.g (Dn nx pl ere (n+1) .prod p) (fun m=>B0 nx pl ere m .prod s):=fun p s h=>by
 refine Rel.succ ?_;simp only[B0,Dn];refine Rel.bind (E.unary p s h) (fun x y p s d c b=>?_) (fun f e y s a=>Ac8 _ s a);subst d;exact b▸E.prodL _ p s c
theorem AhX (H:Abi nx) {n:Nat} (E:EQ nx pl ere n):∀(t:Tr) (p:Ps) (s:Rs),Re p s->Abg nx pl s.g (Dn nx pl ere (n+1) (.orL t) p) (fun m=>B0 nx pl ere m (.orL t) s):=fun t p s h=>by
 refine Rel.succ ?_;simp only[B0,Dn,Abp];refine h.peek H false (fun d=>?_) (fun b=>?_)
 rotate_left
 ·simp only[b.oneR,RO.bind];exact DD.ok b
 by_cases c:isS (nx p.a false) [124,124]=true
 ·have l:=h.oneY (pl:=pl) [[124,124]] d ⟨_,.head _,c⟩
  rw[if_pos c,AbR _ p d c rfl rfl];simp only[l,RO.bind,Hf.bind];refine Rel.bind (Re.lines H true n _ _ (h.took _)) (fun _ _ p s _ j i=>?_) (fun f e y s b=>DD.bind (Af7 H.op s b) fun _ s b=>AdQ _ s b);refine i▸Rel.bind (E.and p s j) (fun x y p s o j i=>?_) (fun f e y s b=>AdQ _ s b);subst o;exact i▸E.orL _ p s j
 have k:=h.oneN (pl:=pl) [[124,124]] d (fun⟨x,r,q⟩=>c (by obtain rfl:=aF.1 r;exact q));rw[if_neg c];simp only[k,RO.bind];exact Rel.ok rfl h rfl
theorem AgY (H:Abi nx) {n:Nat} (E:EQ nx pl ere n):∀(t:Tr) (p:Ps) (s:Rs),Re p s->Abg nx pl s.g (Dn nx pl ere (n+1) (.andL t) p) (fun m=>B0 nx pl ere m (.andL t) s):=fun t p s h=>by
 refine Rel.succ ?_;simp only[B0,Dn,Abp];refine h.peek H false (fun d=>?_) (fun b=>?_)
 rotate_left
 ·simp only[b.oneR,RO.bind];exact DD.ok b
 by_cases c:isS (nx p.a false) [38,38]=true
 ·have l:=h.oneY (pl:=pl) [[38,38]] d ⟨_,.head _,c⟩
  rw[if_pos c,AbR _ p d c rfl rfl];simp only[l,RO.bind,Hf.bind];refine Rel.bind (Re.lines H true n _ _ (h.took _)) (fun _ _ p s _ j i=>?_) (fun f e y s b=>DD.bind (Af8 H.op s b) fun _ s b=>Ac1 _ s b);refine i▸Rel.bind (E.inn p s j) (fun x y p s o j i=>?_) (fun f e y s b=>Ac1 _ s b);subst o;exact i▸E.andL _ p s j
 have k:=h.oneN (pl:=pl) [[38,38]] d (fun⟨x,r,q⟩=>c (by obtain rfl:=aF.1 r;exact q));rw[if_neg c];simp only[k,RO.bind];exact Rel.ok rfl h rfl
theorem Ag_ (H:Abi nx) {n:Nat} (E:EQ nx pl ere n):∀(t:Tr) (p:Ps) (s:Rs),Re p s->Abg nx pl s.g (Dn nx pl ere (n+1) (.matL t) p) (fun m=>B0 nx pl ere m (.matL t) s):=fun t p s h=>by
 refine Rel.succ ?_;simp only[B0,Dn];refine h.peek H false (fun d=>?_) (fun b=>?_)
 rotate_left
 ·simp only[b.oneR,RO.bind];exact DD.ok b
 by_cases c:isS (nx p.a false) [126]=true\/isS (nx p.a false) [33,126]=true
 ·have l:=h.oneY (pl:=pl) [[126],[33,126]] d (by rcases c with c | c;exact⟨_,.head _,c⟩;exact⟨_,.tail _ (.head _),c⟩)
  rw[if_pos c];simp only[l,RO.bind];refine Rel.bind (E.cmp _ _ (h.took _)) (fun x y p s r q o=>?_) (fun f e y s b=>AdP _ s b);subst r;exact o▸E.matL _ p s q
 have k:=h.oneN (pl:=pl) [[126],[33,126]] d (fun⟨x,j,i⟩=>c (by simp only[aE,aB,or_false] at j;rcases j with rfl | rfl;exact .inl i;exact .inr (i)));rw[if_neg c];simp only[k,RO.bind];exact Rel.ok rfl h rfl
theorem Ahf (H:Abi nx) {n:Nat} (E:EQ nx pl ere n):∀(t:Tr) (p:Ps) (s:Rs),Re p s->Abg nx pl s.g (Dn nx pl ere (n+1) (.sumL t) p) (fun m=>B0 nx pl ere m (.sumL t) s):=fun t p s h=>by
 refine Rel.succ ?_;simp only[B0,Dn];refine h.peek H false (fun d=>?_) (fun b=>?_)
 rotate_left
 ·simp only[b.oneR,RO.bind];exact DD.ok b
 by_cases c:isS (nx p.a false) [43]=true\/isS (nx p.a false) [45]=true
 ·have l:=h.oneY (pl:=pl) [[43],[45]] d (by rcases c with c | c;exact⟨_,.head _,c⟩;exact⟨_,.tail _ (.head _),c⟩)
  rw[if_pos c];simp only[l,RO.bind];refine Rel.bind (E.prod _ _ (h.took _)) (fun x y p s r q o=>?_) (fun f e y s b=>AdR _ s b);subst r;exact o▸E.sumL _ p s q
 have k:=h.oneN (pl:=pl) [[43],[45]] d (fun⟨x,j,i⟩=>c (by simp only[aE,aB,or_false] at j;rcases j with rfl | rfl;exact .inl i;exact .inr (i)));rw[if_neg c];simp only[k,RO.bind];exact Rel.ok rfl h rfl
theorem Agd (H:Abi nx) {n:Nat} (E:EQ nx pl ere n):∀(t:Tr) (p:Ps) (s:Rs),Re p s->Abg nx pl s.g (Dn nx pl ere (n+1) (.prodL t) p) (fun m=>B0 nx pl ere m (.prodL t) s):=fun t p s h=>by
 refine Rel.succ ?_;simp only[B0,Dn];refine h.peek H false (fun i=>?_) (fun b=>?_)
 rotate_left
 ·simp only[b.oneR,RO.bind];exact DD.ok b
 by_cases c:isS (nx p.a false) [42]=true\/isS (nx p.a false) [47]=true\/isS (nx p.a false) [37]=true
 ·have l:=h.oneY (pl:=pl) [[42],[47],[37]] i (by rcases c with c | c | c;exact⟨_,.head _,c⟩;exact⟨_,.tail _ (.head _),c⟩;exact⟨_,.tail _ (.tail _ (.head _)),c⟩)
  rw[if_pos c];simp only[l,RO.bind];refine Rel.bind (E.unary _ _ (h.took _)) (fun x y p s r q o=>?_) (fun f e y s b=>Ac8 _ s b);subst r;exact o▸E.prodL _ p s q
 have k:=h.oneN (pl:=pl) [[42],[47],[37]] i (fun⟨x,j,d⟩=>c (by simp only[aE,aB,or_false] at j;rcases j with rfl | rfl | rfl;exact .inl d;exact .inr (.inl d);exact .inr (.inr (d))));rw[if_neg c];simp only[k,RO.bind];exact Rel.ok rfl h rfl
end
def Aee (t:Tk):Bool:=decide (t.kd=2\/t.kd=3\/t.kd=5\/t.kd=6\/t.kd=7)||(decide (t.kd=9)&&[[36],[40],[43,43],[45,45]].contains t.tx)
set_option linter.unusedSimpArgs false
section
variable {nx:Nat->Bool->Tk} {pl:Nat->Nat×Nat} {ere:List UInt8->Option Bool} {p:Ps} {s:Rs} {n:Nat}
theorem AeE (t:Tk) (i:t.kd≠4):O3 t=Aee t:=by
 unfold O3 I0 Aee isS;by_cases h:t.kd=9
 ·simp only[h,decide_true,Bool.true_and]
  by_cases a:t.tx=[36]
  ·simp[a]
  by_cases b:t.tx=[40]
  ·simp[b]
  by_cases c:t.tx=[43,43]
  ·simp[c]
  by_cases d:t.tx=[45,45]
  ·simp[d]
  by_cases e:t.tx=[43]
  ·simp[e]
  by_cases f:t.tx=[45]
  ·simp[f]
  by_cases g:t.tx=[33]
  ·simp[g]
  simp[a,b,c,d,e,f,g]
 simp[h,i]
theorem Ag2 (H:Abi nx) (E:EQ nx pl ere n) (p:Ps) (s:Rs) (h:Re p s):Abg nx pl s.g (Dn nx pl ere (n+1) .cond p) (fun m=>B0 nx pl ere m .cond s):=by
 refine Rel.succ ?_;simp only[B0,Dn,Abp];refine Rel.bind (E.or p s h) (fun l y p s i h d=>?_) (fun f e y s b=>?_)
 rotate_left
 ·simp only[b.oneR,RO.bind];exact DD.ok b
 subst i;rw[<- d];refine h.peek H false (fun j=>?_) (fun b=>?_)
 rotate_left
 ·simp only[b.oneR,RO.bind];exact DD.ok b
 by_cases c:isS (nx p.a false) [63]=true
 ·have t:=h.oneY (pl:=pl) [[63]] j ⟨_,.head _,c⟩
  rw[if_pos c,AbR _ p j c rfl rfl];simp only[t,RO.bind,Hf.bind];refine Rel.bind (E.expr _ _ (h.took _)) (fun x y p s i h d=>?_) (fun f e y s b=>?_)
  rotate_left
  ·obtain⟨r,k,o⟩:=b.wantR H.op [58]
   simp only[k,RO.bind];exact DD.bind (Acd H.op r o) fun _ s b=>DD.ok b
  subst i;refine d▸Rel.bind (h.want H [58] (by decide)) (fun _ _ p s _ h d=>?_) (fun f e y s b=>DD.bind (Acd H.op s b) fun _ s b=>DD.ok b);refine d▸Rel.bind (E.expr p s h) (fun x y p s i h d=>?_) (fun f e y s b=>DD.ok b);subst i;exact Rel.ok rfl h d
 have q:=h.oneN (pl:=pl) [[63]] j (fun⟨x,v,u⟩=>c (by obtain rfl:=aF.1 v;exact u));rw[if_neg c];simp only[q,RO.bind];exact Rel.ok rfl h rfl
theorem Agc (H:Abi nx) (E:EQ nx pl ere n) (p:Ps) (s:Rs) (h:Re p s):Abg nx pl s.g (Dn nx pl ere (n+1) .power p) (fun m=>B0 nx pl ere m .power s):=by
 refine Rel.succ ?_;simp only[B0,Dn,Abp];refine Rel.bind (E.post p s h) (fun l y p s j h i=>?_) (fun f e y s b=>?_)
 rotate_left
 ·simp only[b.oneR,RO.bind];exact DD.ok b
 subst j;rw[<- i];refine h.peek H false (fun d=>?_) (fun b=>?_)
 rotate_left
 ·simp only[b.oneR,RO.bind];exact DD.ok b
 by_cases c:isS (nx p.a false) [94]=true
 ·have o:=h.oneY (pl:=pl) [[94]] d ⟨_,.head _,c⟩
  have r:(nx p.a false).tx=[94]:=by unfold isS at c;simp only[aD,decide_eq_true_eq] at c;exact c.2
  rw[if_pos c,AbR _ p d c rfl rfl];simp only[o,r,RO.bind,Hf.bind];refine Rel.bind (E.unary _ _ (h.took _)) (fun x y p s j h i=>?_) (fun f e y s b=>DD.ok b);subst j;exact Rel.ok rfl h i
 have k:=h.oneN (pl:=pl) [[94]] d (fun⟨x,t,q⟩=>c (by obtain rfl:=aF.1 t;exact q));rw[if_neg c];simp only[k,RO.bind];exact Rel.ok rfl h rfl
theorem Age (H:Abi nx) (E:EQ nx pl ere n) (p:Ps) (s:Rs) (h:Re p s):Abg nx pl s.g (Dn nx pl ere (n+1) .unary p) (fun m=>B0 nx pl ere m .unary s):=by
 refine Rel.succ ?_;simp only[B0,Dn];refine h.peek H true (fun i=>?_) (fun b=>?_)
 rotate_left
 ·simp only[b.oneR,RO.bind];exact Ad8 H.op s b
 by_cases c:isS (nx p.a false) [33]=true\/isS (nx p.a false) [45]=true\/isS (nx p.a false) [43]=true
 ·have l:=h.oneY (pl:=pl) [[33],[45],[43]] i (by rcases c with c | c | c;exact⟨_,.head _,c⟩;exact⟨_,.tail _ (.head _),c⟩;exact⟨_,.tail _ (.tail _ (.head _)),c⟩)
  rw[if_pos c];simp only[l,RO.bind];refine Rel.bind (E.unary _ _ (h.took _)) (fun x y p s q h o=>?_) (fun f e y s b=>DD.ok b);subst q;exact Rel.ok rfl h o
 have k:=h.oneN (pl:=pl) [[33],[45],[43]] i (fun⟨x,j,d⟩=>c (by simp only[aE,aB,or_false] at j;rcases j with rfl | rfl | rfl;exact .inl d;exact .inr (.inl d);exact .inr (.inr d)));rw[if_neg c];simp only[k,RO.bind];exact E.power p s h
theorem Ahb (H:Abi nx) (E:EQ nx pl ere n) (p:Ps) (s:Rs) (h:Re p s):Abg nx pl s.g (Dn nx pl ere (n+1) .post p) (fun m=>B0 nx pl ere m .post s):=by
 refine Rel.succ ?_;simp only[B0,Dn];refine Rel.bind (E.primary p s h) (fun l y p s u h t=>?_) (fun f e y s b=>?_)
 rotate_left
 ·simp only[b.oneR,RO.bind,ite_self];exact DD.ok b
 subst u;rw[<- t];refine h.peek H false (fun j=>?_) (fun b=>?_)
 rotate_left
 ·simp only[b.oneR,RO.bind,ite_self];exact DD.ok b
 by_cases i:Z1 (hd1 l)=true
 ·rw[if_neg (show ¬ (s.e≠0\/Z1 (hd1 l)=false) by rw[h.e,i];simp)]
  by_cases c:isS (nx p.a false) [43,43]=true\/isS (nx p.a false) [45,45]=true
  ·have r:=h.oneY (pl:=pl) ppL j (by rcases c with c | c;exact⟨_,.head _,c⟩;exact⟨_,.tail _ (.head _),c⟩)
   rw[if_pos ⟨i,c⟩];simp only[r,RO.bind];exact Rel.ok rfl (h.took _) rfl
  have q:=h.oneN (pl:=pl) ppL j (fun⟨x,o,k⟩=>c (by simp only[aE,aB,or_false] at o;rcases o with rfl | rfl;exact .inl k;exact .inr k));rw[if_neg (fun d=>c d.2)];simp only[q,RO.bind];exact Rel.ok rfl h rfl
 rw[if_neg (fun d=>i d.1),if_pos (.inr (by simpa using i))];exact Rel.ok rfl h rfl
theorem Ag1 (H:Abi nx) (E:EQ nx pl ere n) (t:Tr) (p:Ps) (s:Rs) (h:Re p s):Abg nx pl s.g (Dn nx pl ere (n+1) (.catL t) p) (fun m=>B0 nx pl ere m (.catL t) s):=by
 refine Rel.succ ?_;simp only[B0,Dn];refine h.peek H false (fun d=>?_) (fun b=>?_)
 rotate_left
 ·obtain⟨r,i,j⟩:=b.goesR
  simp only[i,RO.bind,aA,if_false];exact DD.ok j
 have k:goesR nx pl s = .ok (Aee (nx p.a false)) s:=by unfold goesR Aee;rw[if_pos h.e,h.a,if_pos d]
 rw[AeE _ (H.re _)];simp only[k,RO.bind];by_cases c:Aee (nx p.a false)=true
 ·simp only[c,if_true]
  refine Rel.bind (E.sum p s h) (fun x y p s o h l=>?_) (fun f e y s b=>AdN _ s b);subst o;exact l▸E.catL _ p s h
 simp only[c,if_false];exact Rel.ok rfl h rfl
theorem AhS (H:Abi nx) (E:EQ nx pl ere n) (p:Ps) (s:Rs) (h:Re p s):Abg nx pl s.g (Dn nx pl ere (n+1) .cmp p) (fun m=>B0 nx pl ere m .cmp s):=by
 refine Rel.succ ?_;simp only[B0,Dn];refine Rel.bind (E.cat p s h) (fun l y p s q h o=>?_) (fun f e y s j=>?_)
 rotate_left
 ·simp only[j.oneR,RO.bind];exact DD.ok j
 subst q;rw[<- o];refine h.peek H false (fun r=>?_) (fun j=>?_)
 rotate_left
 ·simp only[j.oneR,RO.bind];exact DD.ok j
 have k:(nx p.a false).kd=9->(nx p.a false).tx≠[62]:=fun i z=>by
  have:=H.gt p.a;unfold isS at this;rw[decide_eq_true i,decide_eq_true z] at this;exact absurd this (by decide)
 have u:((nx p.a false).kd=9/\(((nx p.a false).tx=[62]/\p.outs≠p.deep)\/(nx p.a false).tx=[60]\/(nx p.a false).tx=[60,61]\/(nx p.a false).tx=[61,61]\/(nx p.a false).tx=[33,61]\/(nx p.a false).tx=[62,61]))↔(nx p.a false).kd=9/\(AdM s.g).contains (nx p.a false).tx=true:=by
  constructor
  ·rintro⟨i,b⟩
   refine⟨i,?_⟩;unfold AdM;rcases b with⟨b,-⟩ | b | b | b | b | b
   ·exact absurd b (k i)
   all_goals (rw[b];split<;>decide)
  rintro⟨i,b⟩;refine⟨i,?_⟩;have b:=aC.1 b;obtain⟨x,b,e⟩:=b;have e:=eq_of_beq e;unfold AdM at b;split at b
  ·simp only[aE,aB,or_false] at b
   rcases b with rfl | rfl | rfl | rfl | rfl<;>simp[e]
  simp only[aE,aB,or_false] at b;rcases b with rfl | rfl | rfl | rfl | rfl | rfl
  iterate 5 simp[e]
  exact absurd e (k i)
 by_cases c:(nx p.a false).kd=9/\(AdM s.g).contains (nx p.a false).tx=true
 ·have w:oneR nx pl (AdM s.g) s = .ok (some ((nx p.a false).tx,pl (nx p.a false).f)) { s with a:=(nx p.a false).t }:=by rw[h.one _ r,if_pos c]
  rw[if_pos (u.2 c)];simp only[w,RO.bind];refine Rel.bind (E.cat _ _ (h.took _)) (fun x y p s q h o=>?_) (fun f e y s j=>DD.ok j);subst q;exact Rel.ok rfl h o
 have v:oneR nx pl (AdM s.g) s = .ok none s:=(by rw[h.one _ r,if_neg c]);rw[if_neg (fun d=>c (u.1 d))];simp only[v,RO.bind];exact Rel.ok rfl h rfl
theorem Ag3 (H:Abi nx) (E:EQ nx pl ere n) (p:Ps) (s:Rs) (h:Re p s):Abg nx pl s.g (Dn nx pl ere (n+1) .expr p) (fun m=>B0 nx pl ere m .expr s):=by
 refine Rel.succ ?_;simp only[B0,Dn];refine Rel.bind (E.cond p s h) (fun l y p s q h o=>?_) (fun f e y s i=>?_)
 rotate_left
 ·simp only[i.oneR,RO.bind,ite_self];exact DD.ok i
 subst q;rw[<- o];refine h.peek H false (fun r=>?_) (fun i=>?_)
 rotate_left
 ·simp only[i.oneR,RO.bind,ite_self];exact DD.ok i
 by_cases j:Z1 (hd1 l)=true
 ·have b:¬ (s.e≠0\/Z1 (hd1 l)=false):=by rw[h.e,j];simp
  simp only[b,if_false]
  have u:((nx p.a false).kd=9/\Z1 (hd1 l)=true/\((nx p.a false).tx=[61]\/(nx p.a false).tx=[43,61]\/(nx p.a false).tx=[45,61]\/(nx p.a false).tx=[42,61]\/(nx p.a false).tx=[47,61]\/(nx p.a false).tx=[37,61]\/(nx p.a false).tx=[94,61]))↔(nx p.a false).kd=9/\Af1.contains (nx p.a false).tx=true:=by
   constructor
   ·rintro⟨k,-,b⟩
    refine⟨k,?_⟩;rcases b with b | b | b | b | b | b | b<;>(rw[b];decide)
   rintro⟨k,b⟩;refine⟨k,j,?_⟩;obtain⟨x,b,e⟩:=aC.1 b;have e:=eq_of_beq e;simp only[aE,aB,or_false] at b;rcases b with rfl | rfl | rfl | rfl | rfl | rfl | rfl<;>simp[e]
  by_cases c:(nx p.a false).kd=9/\Af1.contains (nx p.a false).tx=true
  ·have w:oneR nx pl Af1 s = .ok (some ((nx p.a false).tx,pl (nx p.a false).f)) { s with a:=(nx p.a false).t }:=by rw[h.one _ r,if_pos c]
   rw[if_pos (u.2 c)];simp only[w,RO.bind];refine Rel.bind (E.expr _ _ (h.took _)) (fun x y p s q h o=>?_) (fun f e y s i=>DD.ok i);subst q;exact Rel.ok rfl h o
  have v:oneR nx pl Af1 s = .ok none s:=(by rw[h.one _ r,if_neg c]);rw[if_neg (fun d=>c (u.1 d))];simp only[v,RO.bind];exact Rel.ok rfl h rfl
 have b:s.e≠0\/Z1 (hd1 l)=false:=.inr (by simpa using j);rw[if_neg (fun d=>j d.2.1)];simp only[b,if_true];exact Rel.ok rfl h rfl
theorem Af' (H:Abi nx) (E:EQ nx pl ere n) (p:Ps) (s:Rs) (h:Re p s):Abg nx pl s.g (Dn nx pl ere (n+1) .cond1 p) (fun m=>B0 nx pl ere m .round s):=by
 refine Rel.succ ?_;simp only[B0,Dn];refine Rel.bind (h.want H [40] (by decide)) (fun _ _ p s _ h b=>?_) (fun f e y s a=>?_)
 rotate_left
 ·refine DD.bind (Acd H.op s a) fun l s a=>?_
  obtain⟨r,c,d⟩:=a.wantR H.op [41];simp only[c,RO.bind];exact DD.ok d
 refine b▸Rel.bind (E.expr p s h) (fun l y p s i h b=>?_) (fun f e y s a=>?_)
 rotate_left
 ·obtain⟨r,c,d⟩:=a.wantR H.op [41]
  simp only[c,RO.bind];exact DD.ok d
 subst i;refine b▸Rel.bind (h.want H [41] (by decide)) (fun _ _ p s _ h b=>Rel.ok rfl h b) (fun f e y s a=>DD.ok a)
theorem Agb (H:Abi nx) (E:EQ nx pl ere n) (l:List Tr) (p:Ps) (s:Rs) (h:Re p s):Abg nx pl s.g (Dn nx pl ere (n+1) (.listL l) p) (fun m=>B0 nx pl ere m (.listL l) s):=by
 refine Rel.succ ?_;simp only[B0,Dn,Abp];refine h.peek H false (fun d=>?_) (fun b=>?_)
 rotate_left
 ·simp only[b.takeR,RO.bind,aA,if_false,ite_self];exact DD.ok b
 have k:¬ (s.e≠0):=fun c=>c h.e;by_cases c:isS (nx p.a false) [44]=true
 ·have i:takeR nx pl [44] s = .ok true { s with a:=(nx p.a false).t }:=by
   unfold takeR;rw[h.is _ d,AbA H _ _ (by decide),c];simp only[RO.bind,if_true];rw[h.a];rfl
  rw[if_pos c,AbR _ p d c rfl rfl];simp only[k,if_false,i,RO.bind,Hf.bind,if_true];refine Rel.bind (Re.lines H true n _ _ (h.took _)) (fun _ _ p s _ h j=>?_) (fun f e y s b=>DD.bind (Acd H.op s b) fun _ s b=>Acn _ s b);refine j▸Rel.bind (E.expr p s h) (fun x y p s o h j=>?_) (fun f e y s b=>Acn _ s b);subst o;exact j▸E.listL _ p s h
 have i:takeR nx pl [44] s = .ok false s:=by
  unfold takeR;rw[h.is _ d,AbA H _ _ (by decide)];simp only[RO.bind,c,aA,if_false]
 rw[if_neg c];simp only[k,if_false,i,RO.bind,aA];exact Rel.ok rfl h rfl
end
set_option linter.unusedSimpArgs false
section
variable {nx:Nat->Bool->Tk} {pl:Nat->Nat×Nat} {ere:List UInt8->Option Bool} {p:Ps} {s:Rs} {n:Nat} {α β δ:Type}
theorem RO.assoc {α β b:Type} (a:RO α) (k:α->Rs->RO β) (l:β->Rs->RO b):(a.bind k).bind l=a.bind fun x s=>(k x s).bind l:=by cases a<;>rfl
theorem Rel.post {g g':Bool} {R:α->β->Prop} {S:α->δ->Prop} {o:Hf α} {F:Nat->RO β} {L:Nat->β->Rs->RO δ} (h:Rel nx pl g R o F) (k:∀x y p s,R x y->Re p s->s.g=g->∃z r,S x z/\Re p r/\r.g=g'/\Ev (fun n=>L n y s) (.ok z r))
  (i:∀f e y s,Abe nx pl f e s->DD nx pl f e (fun n=>L n y s)):Rel nx pl g' S o (fun n=>(F n).bind (L n)):=by
 cases o with
 | hush=>trivial
 | bad f e=>exact DD.bind h fun y s q=>i f e y s q
 | ok x p =>
   obtain⟨y,s,m,l,j,t⟩:=h;obtain⟨z,r,a,b,c,d⟩:=k x y p s m l j;exact⟨z,r,a,b,c,t.bind d⟩
theorem Re.g (h:Re p s) (b:Bool):Re p { s with g:=b }:=⟨h.a,h.o,h.e⟩
theorem Re.takeP (h:Re p s) (x:List UInt8) (b:(nx p.a false).e=0) (d:ZT x=false) (c:ZV x=false):takeR nx pl x s=if AbN x (nx p.a false)=true then .ok true { s with a:=(nx p.a false).t } else .ok false s:=by
 unfold takeR;rw[h.is x b];simp only[RO.bind];rw[h.a];unfold Abs;simp only[d,c,aA,if_false]
theorem Re.seeY (h:Re p s) (b:(nx p.a false).e=0):AbG nx pl false s = .ok (nx p.a false) s:=by unfold AbG;rw[h.a,if_pos b]
theorem Re.seeT (H:Abi nx) (h:Re p s) (b:(nx p.a false).e=0):AbG nx pl true s = .ok (nx p.a false) s:=by unfold AbG;rw[h.a,H.op,if_pos b]
theorem Re.wrongE (H:Abi nx) (h:Re p s):Abj pl (nx p.a false) s={ s with e:=Yd (nx p.a false) p,z:=pl (nx p.a false).f }:=by
 have b:=H.gt p.a;unfold Abj Yd Abl;rw[b,if_pos h.e,if_pos h.e];simp only[aA,false_and,or_false];split<;>rfl
theorem Re.wrongD (H:Abi nx) (h:Re p s):Abe nx pl (nx p.a false).f (Yd (nx p.a false) p) (Abj pl (nx p.a false) s):=by
 rw[h.wrongE H];exact Abe.of (AdZ _ _) rfl rfl
theorem Acr (b:∀a,nx a true=nx a false) {f:Nat} {e:Int} {L:Tk->Rs->List Tr} (g:Abe nx pl f e s):DD nx pl f e (fun _=>(nameR nx pl s).bind fun t r => .ok (L t r) r):=by
 obtain⟨t,r,c,d⟩:=g.nameR b;simp only[c,RO.bind];exact DD.ok d
theorem AhU (H:Abi nx) (n:Nat) (l:List Tr) (p:Ps) (s:Rs) (h:Re p s):Abg nx pl s.g (Dn nx pl ere (n+1) (.has l) p) (fun _=>AfD nx pl l s):=by
 simp only[Dn,AfD];refine h.peek H false (fun v=>?_) (fun q=>?_)
 rotate_left
 ·obtain⟨r,j,x⟩:=q.wantR H.op [105,110]
  simp only[j,RO.bind];exact Acr H.op (L:=fun t _=>[.mk 11 t.tx 0 (pl (nx s.a false).f) l]) x
 have i:=h.takeP (pl:=pl) [105,110] v rfl rfl;rw[AbV H _ _ (by decide)] at i;by_cases c:XI (nx p.a false) [105,110]=true
 ·rw[if_pos c] at i
  have o:wantR nx pl [105,110] s = .ok () { s with a:=(nx p.a false).t }:=by
   unfold wantR;rw[if_pos h.e,i];rfl
  rw[if_pos c];simp only[o,RO.bind];rw[h.a];have b:=h.took (nx p.a false);refine b.peek H false (fun j=>?_) (fun q=>Acr H.op (L:=fun t _=>[.mk 11 t.tx 0 (pl (nx p.a false).f) l]) q);have w:=b.seeY (pl:=pl) j;by_cases k:(nx (CQ (nx p.a false) p).a false).kd=5
  ·rw[if_pos k]
   have m:nameR nx pl { s with a:=(nx p.a false).t } = .ok (nx (CQ (nx p.a false) p).a false) { s with a:=(nx (CQ (nx p.a false) p).a false).t }:=by
    unfold nameR;rw[w];simp only[RO.bind];rw[if_neg (fun d=>d.2 k),if_pos h.e]
   simp only[m];exact Rel.ok rfl (b.took _) rfl
  rw[if_neg k]
  have u:¬ (Abj pl (nx (CQ (nx p.a false) p).a false) { s with a:=(nx p.a false).t }).e=0:=by
   rw[b.wrongE H];exact AdZ _ _
  have m:nameR nx pl { s with a:=(nx p.a false).t } = .ok (nx (CQ (nx p.a false) p).a false) (Abj pl (nx (CQ (nx p.a false) p).a false) { s with a:=(nx p.a false).t }):=by
   unfold nameR;rw[w];simp only[RO.bind];rw[if_pos ⟨h.e,k⟩,if_neg u]
  simp only[m];exact b.wrong H
 rw[if_neg c] at i
 have o:wantR nx pl [105,110] s = .ok () (Abj pl (nx p.a false) s):=by
  unfold wantR;rw[if_pos h.e,i];simp only[RO.bind,aA,if_false];unfold AbG;rw[h.a,if_pos v];simp only[h.e,if_true]
 rw[if_neg c];simp only[o,RO.bind];exact Acr H.op (L:=fun t _=>[.mk 11 t.tx 0 (pl (nx s.a false).f) l]) (h.wrongD H)
theorem Ag7 (H:Abi nx) (E:EQ nx pl ere n) (t:Tr) (p:Ps) (s:Rs) (h:Re p s):Abg nx pl s.g (Dn nx pl ere (n+1) (.innL t) p) (fun m=>B0 nx pl ere m (.innL t) s):=by
 refine Rel.succ ?_;simp only[B0,Dn];refine h.peek H false (fun k=>?_) (fun d=>?_)
 rotate_left
 ·simp only[d.isR,RO.bind,aA,if_false];exact DD.ok d
 have i:=h.is [105,110] k;rw[AbV H _ _ (by decide)] at i;by_cases c:XI (nx p.a false) [105,110]=true
 ·have j:=h.takeP (pl:=pl) [105,110] k rfl rfl
  rw[AbV H _ _ (by decide),if_pos c] at j
  have hF:(fun m=>(RO.bind (isR nx [105,110] s) fun b s=>if b=true then (Abo nx pl false s).bind fun h s=>(takeR nx pl [105,110] s).bind fun _ s=>(nameR nx pl s).bind fun u s=>B0 nx pl ere m (.innL (.mk 11 u.tx 0 h.2 [t])) s else RO.ok [t] s))=fun m=>(AfD nx pl [t] s).bind fun l s=>B0 nx pl ere m (.innL (hd1 l)) s:=by
   funext m;rw[i,c];simp only[RO.bind,if_true,Abo];unfold AfD
   have o:wantR nx pl [105,110] s = .ok () { s with a:=(nx p.a false).t }:=by
    unfold wantR;rw[if_pos h.e,j];rfl
   rw[j,o];simp only[RO.bind];cases nameR nx pl { s with a:=(nx p.a false).t }<;>rfl
  rw[if_pos c,hF];refine Rel.bind (E.has [t] p s h) (fun x y p s r h q=>?_) (fun f e y s d=>AdO _ s d);subst r;exact q▸E.innL _ p s h
 rw[if_neg c];simp only[i,RO.bind,c,aA,if_false];exact Rel.ok rfl h rfl
theorem Ae0 (_H:Abi nx) (E:EQ nx pl ere n) (p:Ps) (s:Rs) (h:Re p s):Abg nx pl s.g (Dn nx pl ere (n+1) .list p) (fun m=>(B0 nx pl ere m .expr s).bind fun l r=>B0 nx pl ere m (.listL l) r):=by
 simp only[Dn];refine Rel.bind (E.expr p s h) (fun x y p s c h b=>?_) (fun f e y s a=>Acn _ s a);subst c;exact b▸E.listL _ p s h
theorem Ag8 (X:∀(p:Ps) (s:Rs),Re p s->Abg nx pl s.g (Dn nx pl ere n .list p) (fun m=>(B0 nx pl ere m .expr s).bind fun l r=>B0 nx pl ere m (.listL l) r)) (a:Bool) (p:Ps) (s:Rs) (h:Re p s) :
  Abg nx pl s.g (Dn nx pl ere n .list p) (fun m=>B0 nx pl ere m (.list a) s):=by
 refine Rel.succ ?_;simp only[B0];have i:=X p { s with g:=s.g&&a } (h.g _);have:=Rel.post (g':=s.g) (S:=fun x y=>x=y) (L:=fun _ l r => .ok l { r with g:=s.g }) i (fun x y p r d c _=>⟨y,{ r with g:=s.g },d,c.g _,rfl,Ev.const _⟩) (fun f e y r b=>DD.ok (b.g _));simp only[RO.assoc] at this;exact this
end
set_option linter.unusedSimpArgs false
section
variable {nx:Nat->Bool->Tk} {pl:Nat->Nat×Nat} {ere:List UInt8->Option Bool} {p:Ps} {s:Rs} {n:Nat} {α β:Type}
theorem Rel.later {g:Bool} {R:α->β->Prop} {o:Hf α} {F G:Nat->RO β} (h:Rel nx pl g R o F) (e:∀m,F (m+1)=G m):Rel nx pl g R o G:=by
 have a:∀r,Ev F r->Ev G r:=fun r ⟨N,i⟩=>⟨N,fun m k=>by rw[<- e m];exact i (m+1) (by omega)⟩
 cases o with
 | hush=>trivial
 | bad f e=>obtain⟨x,s,j,h⟩:=h;exact⟨x,s,j,a _ h⟩
 | ok x p=>obtain⟨y,s,b,c,d,h⟩:=h;exact⟨y,s,b,c,d,a _ h⟩
theorem Rel.same {g:Bool} {R:α->β->Prop} {o:Hf α} {F G:Nat->RO β} (h:Rel nx pl g R o F) (e:∀m,F (m+1)=G (m+1)):Rel nx pl g R o G:=by
 have a:∀r,Ev F r->Ev G r:=fun r ⟨N,i⟩=>⟨N+1,fun m l=>by obtain⟨k,rfl⟩:∃k,m=k+1:=⟨m-1,by omega⟩;rw[<- e k];exact i (k+1) (by omega)⟩
 cases o with
 | hush=>trivial
 | bad f e=>obtain⟨x,s,j,h⟩:=h;exact⟨x,s,j,a _ h⟩
 | ok x p=>obtain⟨y,s,b,c,d,h⟩:=h;exact⟨y,s,b,c,d,a _ h⟩
theorem Re.takeS (H:Abi nx) (h:Re p s) (x:List UInt8) (d:(nx p.a false).e=0) (f:x∈[[40],[41],[91],[93],[123],[125],[44],[59],[58]]) (c:isS (nx p.a false) x=true) :
  takeR nx pl x s = .ok true (Abs pl x (nx p.a false) s)/\wantR nx pl x s = .ok () (Abs pl x (nx p.a false) s):=by
 have b:takeR nx pl x s = .ok true (Abs pl x (nx p.a false) s):=by
  unfold takeR;rw[h.is x d,AbA H _ _ f,c];simp only[RO.bind,if_true];rw[h.a]
 refine⟨b,?_⟩;unfold wantR;rw[if_pos h.e,b];rfl
theorem Re.takeN (H:Abi nx) (h:Re p s) (x:List UInt8) (b:(nx p.a false).e=0) (d:x∈[[40],[41],[91],[93],[123],[125],[44],[59],[58]]) (c:¬ isS (nx p.a false) x=true):takeR nx pl x s = .ok false s:=by
 unfold takeR;rw[h.is x b,AbA H _ _ d];simp only[RO.bind,c,aA,if_false]
theorem Re.isZ (H:Abi nx) (h:Re p s) (x:List UInt8) (b:(nx p.a false).e=0) (c:x∈[[40],[41],[91],[93],[123],[125],[44],[59],[58]]):isR nx x s = .ok (Go.Proofs.YtfblenhlildnaaaGreatDoor.isS (nx p.a false) x) s:=by
 rw[h.is x b,AbA H _ _ c]
theorem Afw (H:Abi nx) (L:∀(c:Bool) (p:Ps) (s:Rs),Re p s->Abg nx pl s.g (Dn nx pl ere n .list p) (fun m=>B0 nx pl ere m (.list c) s)) (p:Ps) (s:Rs) (h:Re p s) :
  Abg nx pl s.g ((Dn nx pl ere n .list p).bind fun l p=>(Abb nx pl [93] p).bind fun _ p => .ok l p) (fun m=>B0 nx pl ere m (.inside [93]) s):=by
 refine Rel.succ ?_;simp only[B0];refine Rel.bind (L false p s h) (fun x y p s j h b=>?_) (fun f e y s a=>?_)
 rotate_left
 ·obtain⟨r,d,i⟩:=a.wantR H.op [93]
  simp only[d,RO.bind];exact DD.ok i
 subst j;exact b▸Rel.bind (h.want H [93] (by decide)) (fun _ _ p s _ h b=>Rel.ok rfl h b) (fun f e y s a=>DD.ok a)
theorem Aga (H:Abi nx) (L:∀(a:Bool) (p:Ps) (s:Rs),Re p s->Abg nx pl s.g (Dn nx pl ere n .list p) (fun m=>B0 nx pl ere m (.list a) s)) (p:Ps) (s:Rs) (h:Re p s) :
  Abg nx pl s.g (Dn nx pl ere (n+1) .index p) (fun m=>(wantR nx pl [91] s).bind fun _ s=>B0 nx pl ere m (.inside [93]) s):=by
 simp only[Dn];refine Rel.bind (h.want H [91] (by decide)) (fun _ _ p s _ h c=>?_) (fun f e y s b=>Afr H.op _ s b);exact c▸Afw H L p s h
theorem AgZ (H:Abi nx) (L:∀(q:Bool) (p:Ps) (s:Rs),Re p s->Abg nx pl s.g (Dn nx pl ere n .list p) (fun m=>B0 nx pl ere m (.list q) s)) (k:Int) (t:Tk) (p:Ps) (s:Rs) (h:Re p s) :
  Rel nx pl s.g (fun l y=>y=[.mk k t.tx 0 (pl t.f) l]) (Dn nx pl ere (n+1) .args p) (fun m=>B0 nx pl ere m (.args k t) s):=by
 have d:∀f e s,Abe nx pl f e s->DD nx pl f e (fun m=>(B0 nx pl ere m (.list false) s).bind fun l s=>(wantR nx pl [41] s).bind fun _ s => .ok [Tr.mk k t.tx 0 (pl t.f) l] s):=fun f e s b=>by
  refine DD.bind (Ac2 H.op false s b) fun l s b=>?_;obtain⟨r,j,o⟩:=b.wantR H.op [41];simp only[j,RO.bind];exact DD.ok o
 refine Rel.succ ?_;simp only[B0,Dn];refine Rel.bind (h.want H [40] (by decide)) (fun _ _ p s _ h i=>?_) (fun f e y s b=>?_)
 rotate_left
 ·simp only[b.isR]
  exact d _ _ s b
 rw[<- i];refine h.peek H true (fun v=>?_) (fun b=>?_)
 rotate_left
 ·simp only[b.isR]
  exact d _ _ s b
 have u:=h.isZ H [41] v (by decide);by_cases c:Go.Proofs.YtfblenhlildnaaaGreatDoor.isS (nx p.a false) [41]=true
 ·rw[if_pos c]
  simp only[u,RO.bind,c,if_true];exact Rel.bind (h.want H [41] (by decide)) (fun _ _ p s _ h i=>Rel.ok rfl h i) (fun f e y s b=>DD.ok b)
 rw[if_neg c];simp only[u,RO.bind,c,aA,if_false];refine Rel.bind (L false p s h) (fun x y p s w h i=>?_) (fun f e y s b=>?_)
 rotate_left
 ·obtain⟨r,j,o⟩:=b.wantR H.op [41]
  simp only[j,RO.bind];exact DD.ok o
 subst w;exact i▸Rel.bind (h.want H [41] (by decide)) (fun _ _ p s _ h i=>Rel.ok rfl h i) (fun f e y s b=>DD.ok b)
theorem Afy (H:Abi nx) (E:EQ nx pl ere n) (p:Ps) (s:Rs) (h:Re p s):Abg nx pl s.g (Dn nx pl ere (n+1) .target p) (fun m=>B0 nx pl ere m .lval s):=by
 refine Rel.succ ?_;simp only[B0,Dn];have t:¬ (s.e≠0):=fun c=>c h.e;simp only[t,if_false];rw[h.a];refine h.peek H true (fun l=>?_) (fun b=>?_)
 rotate_left
 ·have i:=b.tok h.e
  rw[h.a] at i;obtain⟨r,z,v,A,-⟩:=b.see H.op true;have j:¬ r.e=0:=by rw[v];exact b.1
  simp only[i,false_and,if_false,z,RO.bind,j];exact DD.ok (Abe.of b.1 v A)
 have o:=h.seeT (pl:=pl) H l;by_cases k:(nx p.a false).kd=5
 ·simp only[l,k,true_and,true_or,if_true]
  refine Rel.succ ?_;simp only[B0,o,RO.bind,t,if_false,k,show ¬ ((5:Int)=2) by decide,show ¬ ((5:Int)=3) by decide,show ¬ ((5:Int)=4) by decide,if_true];rw[Abp];have d:=h.took (nx p.a false);refine d.peek H false (fun i=>?_) (fun b=>?_)
  rotate_left
  ·simp only[b.takeR,RO.bind,aA,if_false]
   exact DD.ok b
  by_cases c:Go.Proofs.YtfblenhlildnaaaGreatDoor.isS (nx (CQ (nx p.a false) p).a false) [91]=true
  ·obtain⟨q,C⟩:=d.takeS (pl:=pl) H [91] i (by decide) c
   have w:=E.index _ _ d;simp only[C,RO.bind] at w;rw[if_pos c];simp only[q,RO.bind,if_true];refine Rel.bind w (fun x y p s j h u=>?_) (fun f e y s b=>DD.ok b);subst j;exact Rel.ok rfl h u
  have q:=d.takeN (pl:=pl) H [91] i (by decide) c;rw[if_neg c];simp only[q,RO.bind,aA,if_false];exact Rel.ok rfl d rfl
 rw[if_neg k];by_cases c:Go.Proofs.YtfblenhlildnaaaGreatDoor.isS (nx p.a false) [36]=true
 ·have B:(nx p.a false).kd=9:=by unfold Go.Proofs.YtfblenhlildnaaaGreatDoor.isS at c;simp only[aD,decide_eq_true_eq] at c;exact c.1
  rw[if_pos c];simp only[l,c,true_and,or_true,if_true];refine Rel.succ ?_;simp only[B0,o,RO.bind,t,if_false,B,c,show ¬ ((9:Int)=2) by decide,show ¬ ((9:Int)=3) by decide,show ¬ ((9:Int)=4) by decide,show ¬ ((9:Int)=5) by decide,show ¬ ((9:Int)=6) by decide,show ¬ ((9:Int)=7) by decide,or_self,if_true];refine Rel.bind (E.dollar _ _ (h.took _)) (fun x y p s j h u=>?_) (fun f e y s b=>DD.ok b);subst j;exact Rel.ok rfl h u
 rw[if_neg c];simp only[l,k,c,true_and,or_self,if_false,aA,o,RO.bind,h.e,if_true];exact h.wrong H
theorem Afv (H:Abi nx) (E:EQ nx pl ere n) (p:Ps) (s:Rs) (h:Re p s):Abg nx pl s.g (Dn nx pl ere (n+1) .dollar p) (fun m=>B0 nx pl ere m .dollar s):=by
 refine Rel.succ ?_;simp only[B0,Dn];refine h.peek H true (fun i=>?_) (fun d=>?_)
 rotate_left
 ·simp only[d.oneR,d.isR,RO.bind,aA,if_false]
  exact Ace H.op s d
 have o:=h.isZ H [40] i (by decide);by_cases c:Go.Proofs.YtfblenhlildnaaaGreatDoor.isS (nx p.a false) [40]=true
 ·have w:(nx p.a false).tx=[40]:=by unfold Go.Proofs.YtfblenhlildnaaaGreatDoor.isS at c;simp only[aD,decide_eq_true_eq] at c;exact c.2
  have k:=h.oneN (pl:=pl) ppL i (fun⟨x,b,j⟩=>by
   unfold Go.Proofs.YtfblenhlildnaaaGreatDoor.isS at j;simp only[aD,decide_eq_true_eq] at j;rw[w] at j;rw[<- j.2] at b
   exact absurd b (by decide))
  rw[if_pos c];simp only[k,o,RO.bind,c,if_true];exact Rel.post (g':=s.g) (S:=fun x y=>x=y) (L:=fun _ l r => .ok l { r with g:=s.g }) (E.cond1 p { s with g:=false } (h.g _)) (fun x y p r v u _=>⟨y,{ r with g:=s.g },v,u.g _,rfl,Ev.const _⟩) (fun f e y r d=>DD.ok (d.g _))
 have b:=E.oper p s h;rw[if_neg c];by_cases q:∃x∈ppL,Go.Proofs.YtfblenhlildnaaaGreatDoor.isS (nx p.a false) x=true
 ·have t:=h.oneY (pl:=pl) ppL i q
  simp only[t,RO.bind] at b ⊢;exact b
 have k:=h.oneN (pl:=pl) ppL i q;simp only[k,o,RO.bind,c,aA,if_false] at b ⊢;exact b
end
set_option linter.unusedSimpArgs false
section
variable {nx:Nat->Bool->Tk} {pl:Nat->Nat×Nat} {ere:List UInt8->Option Bool} {p:Ps} {s:Rs} {n:Nat} {α β:Type}
theorem Rel.mapO {a:Type} {g:Bool} {R:α->β->Prop} {S:a->β->Prop} {o:Hf α} {F:Nat->RO β} (h:Rel nx pl g R o F) (f:α->a) (d:∀x y,R x y->S (f x) y):Rel nx pl g S (o.bind fun x p => .ok (f x) p) F:=by
 cases o with
 | hush=>trivial
 | bad f e=>exact h
 | ok x p=>obtain⟨y,s,b,c⟩:=h;exact⟨y,s,d x y b,c⟩
theorem Agn (b:∀a,nx a true=nx a false) {f:Nat} {e:Int} (g:Abe nx pl f e s) (l:List Tr) (z:Nat×Nat):DD nx pl f e (fun _=>(wantR nx pl [105,110] s).bind fun _ r=>(nameR nx pl r).bind fun t r => .ok [Tr.mk 11 t.tx 0 z l] r):=by
 obtain⟨r,c,d⟩:=g.wantR b [105,110];simp only[c,RO.bind];exact Acr b (L:=fun t _=>[.mk 11 t.tx 0 z l]) d
theorem AeA (H:Abi nx) (E:EQ nx pl ere n) (p:Ps) (s:Rs) (h:Re p s):Abg nx pl s.g (Dn nx pl ere (n+1) .primary p) (fun m=>B0 nx pl ere m .primary s):=by
 refine Rel.succ ?_;have he:¬ (s.e≠0):=fun c=>c h.e;simp only[B0,Dn,he,if_false];refine h.peek H true (fun u=>?_) (fun i=>?_)
 rotate_left
 ·simp only[i.oneR,i.isR,RO.bind,aA,if_false]
  exact Ace H.op s i
 have T:=h.isZ H [40] u (by decide);by_cases c:Go.Proofs.YtfblenhlildnaaaGreatDoor.isS (nx p.a false) [40]=true
 ·have ht:(nx p.a false).tx=[40]:=by unfold Go.Proofs.YtfblenhlildnaaaGreatDoor.isS at c;simp only[aD,decide_eq_true_eq] at c;exact c.2
  have J:=h.oneN (pl:=pl) ppL u (fun⟨x,j,C⟩=>by
   unfold Go.Proofs.YtfblenhlildnaaaGreatDoor.isS at C;simp only[aD,decide_eq_true_eq] at C;rw[ht] at C;rw[<- C.2] at j
   exact absurd j (by decide))
  rw[if_pos c];simp only[J,T,RO.bind,c,if_true];have U:=h.g false;obtain⟨X,Y⟩:=U.takeS (pl:=pl) H [40] u (by decide) c;have hF:∀K:Rs->RO (List Tr),(takeR nx pl [40] { s with g:=false }).bind (fun _ r=>K r)=(wantR nx pl [40] { s with g:=false }).bind (fun _ r=>K r):=fun K=>by rw[X,Y];rfl
  show Abg nx pl s.g _ (fun n=>(takeR nx pl [40] { s with g:=false }).bind fun _ r=>(B0 nx pl ere n .expr r).bind fun l r=>(B0 nx pl ere n (.listL l) r).bind fun l r=>(wantR nx pl [41] r).bind fun _ r =>
        if r.e≠0\/l.length=1 then .ok [hd1 l] { r with g:=s.g }
        else (Abo nx pl false { r with g:=s.g }).bind fun h r=>(wantR nx pl [105,110] r).bind fun _ r=>(nameR nx pl r).bind fun t r => .ok [.mk 11 t.tx 0 h.2 l] r)
  simp only[hF]
  have o:∀f e (l:List Tr) r,Abe nx pl f e r->DD nx pl f e (fun _=>if r.e≠0\/l.length=1 then RO.ok [hd1 l] { r with g:=s.g }
        else (Abo nx pl false { r with g:=s.g }).bind fun h r=>(wantR nx pl [105,110] r).bind fun _ r=>(nameR nx pl r).bind fun t r => .ok [Tr.mk 11 t.tx 0 h.2 l] r):=fun f e l r i=>by
   by_cases k:r.e≠0\/l.length=1
   ·simp only[k,if_true];exact DD.ok (i.g _)
   simp only[k,if_false,Abo,RO.bind];exact Agn H.op (i.g _) _ _
  have A:∀f e (l:List Tr) r,Abe nx pl f e r->DD nx pl f e (fun _=>(wantR nx pl [41] r).bind fun _ r=>if r.e≠0\/l.length=1 then RO.ok [hd1 l] { r with g:=s.g }
        else (Abo nx pl false { r with g:=s.g }).bind fun h r=>(wantR nx pl [105,110] r).bind fun _ r=>(nameR nx pl r).bind fun t r => .ok [Tr.mk 11 t.tx 0 h.2 l] r):=fun f e l r i=>by
   obtain⟨r2,G,v⟩:=i.wantR H.op [41];simp only[G];exact o f e l r2 v
  refine Rel.bind (U.want H [40] (by decide)) (fun _ _ p1 s1 _ G a0=>?_) (fun f e y r i=>DD.bind (Acd H.op r i) fun l r i=>DD.bind (Acn l r i) fun l r i=>A f e l r i);have j:=E.exls p1 s1 G
  have w:(fun m=>(B0 nx pl ere m .expr s1).bind fun l r=>(B0 nx pl ere m (.listL l) r).bind fun l r=>(wantR nx pl [41] r).bind fun _ r =>
        if r.e≠0\/l.length=1 then RO.ok [hd1 l] { r with g:=s.g }
        else (Abo nx pl false { r with g:=s.g }).bind fun h r=>(wantR nx pl [105,110] r).bind fun _ r=>(nameR nx pl r).bind fun t r => .ok [Tr.mk 11 t.tx 0 h.2 l] r) =
    fun m=>(((B0 nx pl ere m .expr s1).bind fun l r=>B0 nx pl ere m (.listL l) r).bind fun l r=>(wantR nx pl [41] r).bind fun _ r =>
        if r.e≠0\/l.length=1 then RO.ok [hd1 l] { r with g:=s.g }
        else (Abo nx pl false { r with g:=s.g }).bind fun h r=>(wantR nx pl [105,110] r).bind fun _ r=>(nameR nx pl r).bind fun t r => .ok [Tr.mk 11 t.tx 0 h.2 l] r):=by
   funext m;rw[RO.assoc]
  rw[w]
  have hk:∀(x y:List Tr) (F:Ps) (B:Rs),x=y->Re F B->Abg nx pl s.g ((Abb nx pl [41] F).bind fun _ p=>if x.length=1 then .ok x p else Dn nx pl ere n (.has x) p) (fun _=>(wantR nx pl [41] B).bind fun _ r=>if r.e≠0\/y.length=1 then RO.ok [hd1 y] { r with g:=s.g }
         else (Abo nx pl false { r with g:=s.g }).bind fun h r=>(wantR nx pl [105,110] r).bind fun _ r=>(nameR nx pl r).bind fun t r => .ok [Tr.mk 11 t.tx 0 h.2 y] r):=fun x y F B M v=>by
   subst M;have D:=v.want (pl:=pl) H [41] (by decide)
   cases Q:Abb nx pl [41] F with
   | hush=>trivial
   | bad f e =>
     rw[Q] at D;exact DD.bind D fun _ r i=>o f e x r i
   | ok z p3 =>
     rw[Q] at D;obtain⟨_,s3,-,I,-,N,O⟩:=D;have O:=O N (Nat.le_refl _);simp only[O,RO.bind,Hf.bind];by_cases q:x.length=1
     ·rw[if_pos q,if_pos (.inr q)]
      have P:[hd1 x]=x:=by
       rcases x with _ | ⟨a,_ | ⟨b,x⟩⟩
       ·cases q
       ·rfl
       simp at q
      rw[P];exact Rel.ok rfl (I.g _) rfl
     rw[if_neg q,if_neg (fun d=>by rcases d with d | d;exact d I.e;exact q d)];have V:=E.has x p3 { s3 with g:=s.g } (I.g _);unfold AfD at V;simp only[Abo,RO.bind];exact V
  exact Rel.bind (S:=fun x y=>x=y) (R:=fun x y=>x=y) (L:=fun _ l r=>(wantR nx pl [41] r).bind fun _ r=>if r.e≠0\/l.length=1 then RO.ok [hd1 l] { r with g:=s.g }
         else (Abo nx pl false { r with g:=s.g }).bind fun h r=>(wantR nx pl [105,110] r).bind fun _ r=>(nameR nx pl r).bind fun t r => .ok [Tr.mk 11 t.tx 0 h.2 l] r) j (fun x y p B M v _=>hk x y p B M v) (fun f e y r i=>A f e y r i)
 have j:=E.oper p s h;rw[if_neg c];by_cases W:∃x∈ppL,Go.Proofs.YtfblenhlildnaaaGreatDoor.isS (nx p.a false) x=true
 ·have Z:=h.oneY (pl:=pl) ppL u W
  simp only[Z,RO.bind] at j ⊢;exact j
 have J:=h.oneN (pl:=pl) ppL u W;simp only[J,T,RO.bind,c,aA,if_false] at j ⊢;exact j
theorem Ag' (H:Abi nx) (E:EQ nx pl ere n) (p:Ps) (s:Rs) (h:Re p s):Abg nx pl s.g (Dn nx pl ere (n+1) .operand p) (fun m=>(oneR nx pl ppL s).bind fun o s=>match o with | some x=>(B0 nx pl ere m .lval s).bind fun l s => .ok [.mk 17 x.1 0 x.2 l] s | none=>B0 nx pl ere m .operand s):=by
 simp only[Dn];refine h.peek H true (fun A=>?_) (fun k=>?_)
 rotate_left
 ·simp only[k.oneR,RO.bind]
  exact Ace H.op s k
 have q:¬ (s.e≠0):=fun c=>c h.e;have v:=h.seeT (pl:=pl) H A;have j:=h.took (nx p.a false);by_cases r:isS (nx p.a false) [43,43]=true\/isS (nx p.a false) [45,45]=true
 ·have K:(nx p.a false).kd=9:=by unfold Go.Proofs.YtfblenhlildnaaaGreatDoor.isS at r;simp only[aD,decide_eq_true_eq] at r;rcases r with c | c<;>exact c.1
  have M:=h.oneY (pl:=pl) ppL A (by rcases r with c | c;exact⟨_,.head _,c⟩;exact⟨_,.tail _ (.head _),c⟩);simp only[M,RO.bind,K,show ¬ ((9:Int)=2) by decide,show ¬ ((9:Int)=3) by decide,show ¬ ((9:Int)=4) by decide,show ¬ ((9:Int)=6) by decide,show ¬ ((9:Int)=7) by decide,if_false,r,if_true];refine Rel.bind (E.target _ _ j) (fun x y p s O h N=>?_) (fun f e y s k=>DD.ok k);subst O;exact Rel.ok rfl h N
 have L:=h.oneN (pl:=pl) ppL A (fun⟨x,w,b⟩=>r (by simp only[aE,aB,or_false] at w;rcases w with rfl | rfl;exact .inl b;exact .inr b));simp only[L,RO.bind];by_cases F:(nx p.a false).kd=2
 ·refine Rel.succ ?_
  simp only[B0,v,RO.bind,q,if_false,F,if_true];exact Rel.ok rfl j rfl
 rw[if_neg F];by_cases C:(nx p.a false).kd=3
 ·rw[if_pos C]
  refine Rel.succ ?_;simp only[B0,v,RO.bind,q,if_false,C,show ¬ ((3:Int)=2) by decide,if_true];by_cases B:256<(nx p.a false).tx.length
  ·rw[if_pos B]
   simp only[B,if_true];unfold Abl;rw[if_pos (show ({ s with a:=(nx p.a false).t }:Rs).e=0 from h.e)];exact DD.ok (Abe.of (by decide) rfl rfl)
  rw[if_neg B];simp only[B,if_false];exact Rel.ok rfl j rfl
 rw[if_neg C,if_neg (H.re p.a)];by_cases u:(nx p.a false).kd=6
 ·rw[if_pos u]
  refine Rel.succ ?_;simp only[B0,v,RO.bind,q,if_false,u,show ¬ ((6:Int)=2) by decide,show ¬ ((6:Int)=3) by decide,show ¬ ((6:Int)=4) by decide,show ¬ ((6:Int)=5) by decide,true_or,if_true];refine Rel.succ ?_;simp only[B0,u,true_and,show ¬ ((6:Int)=7) by decide,if_false];by_cases b:(nx p.a false).tx=[115,121,115,116,101,109]
  ·rw[if_pos b]
   simp only[b,if_true];unfold Abl;rw[if_pos h.e];exact DD.ok (Abe.of (by decide) rfl rfl)
  rw[if_neg b];simp only[b,if_false,H.ln p.a u];exact Rel.mapO (E.args 19 (nx p.a false) _ _ j) _ (fun x y i=>i.symm)
 rw[if_neg u];by_cases z:(nx p.a false).kd=7
 ·rw[if_pos z]
  refine Rel.succ ?_;simp only[B0,v,RO.bind,q,if_false,z,show ¬ ((7:Int)=2) by decide,show ¬ ((7:Int)=3) by decide,show ¬ ((7:Int)=4) by decide,show ¬ ((7:Int)=5) by decide,or_true,if_true];refine Rel.succ ?_;simp only[B0,z,show ¬ ((7:Int)=6) by decide,false_and,if_false,if_true];by_cases b:(nx p.a false).tx=[108,101,110,103,116,104]
  ·rw[if_pos b]
   simp only[b,if_true,Abp];refine j.peek H false (fun J=>?_) (fun k=>?_)
   rotate_left
   ·simp only[k.isR,RO.bind,aA,if_false]
    exact DD.ok k
   have I:=j.isZ H [40] J (by decide);by_cases c:isS (nx (CQ (nx p.a false) p).a false) [40]=true
   ·rw[if_pos c]
    simp only[I,RO.bind,c,if_true];have G:=E.args 20 (nx p.a false) _ _ j;rw[b] at G;exact Rel.mapO G _ (fun x y i=>i.symm)
   rw[if_neg c];simp only[I,RO.bind,c,aA,if_false];exact Rel.ok rfl j rfl
  rw[if_neg b];simp only[b,if_false];exact Rel.mapO (E.args 20 (nx p.a false) _ _ j) _ (fun x y i=>i.symm)
 rw[if_neg z,if_neg r];have w:=E.target p s h;by_cases c:(nx p.a false).kd=5\/isS (nx p.a false) [36]=true
 ·refine Rel.later w (fun m=>?_)
  simp only[B0,q,if_false];rw[h.a,if_pos ⟨A,c⟩]
 have c5:¬ (nx p.a false).kd=5:=fun d=>c (.inl d);have D:¬ isS (nx p.a false) [36]=true:=fun d=>c (.inr d);refine Rel.same w (fun m=>?_);simp only[B0,q,if_false];rw[h.a,if_neg (fun d=>c d.2),v];simp only[RO.bind,q,if_false,F,C,H.re p.a,c5,u,z,or_self,D,h.e,if_true,ne_eq,not_true_eq_false,aA]
theorem Ab7 (H:Abi nx):∀n,EQ nx pl ere n
 | 0=>by constructor<;>intros<;>trivial
 | n+1=>by
   have E:=Ab7 H n
   exact { expr:=Ag3 H E,cond:=Ag2 H E,or:=Ain H E,orL:=AhX H E,and:=AhP H E,andL:=AgY H E,inn:=AhV H E,innL:=Ag7 H E,mat:=AhW H E,matL:=Ag_ H E,
           cmp:=AhS H E,cat:=AhR H E,catL:=Ag1 H E,sum:=AhY H E,sumL:=Ahf H E,prod:=Ahc H E,prodL:=Agd H E,unary:=Age H E,power:=Agc H E,post:=Ahb H E,primary:=AeA H E,
           target:=Afy H E,listL:=Agb H E,cond1:=Af' H E,dollar:=Afv H E,list:=Ag8 (Ae0 H E),oper:=Ag' H E,has:=AhU H n,exls:=Ae0 H E,args:=AgZ H E.list,index:=Aga H E.list }
end
end Go.Proofs.YtfblenhlildnaaaGreatDoor
