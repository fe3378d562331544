/- Oh Lg Zs On Oo -/
import Derived.Test.YtfblenhlildnaaaGreatDoorOd
import Derived.Test.YtfblenhlildnaaaGreatDoorLv
import Derived.Test.YtfblenhlildnaaaGreatDoorIe
import Derived.Test.YtfblenhlildnaaaGreatDoorLc
import Derived.Test.YtfblenhlildnaaaGreatDoorCk
import Derived.Test.YtfblenhlildnaaaGreatDoorAw
import Derived.Test.YtfblenhlildnaaaGreatDoorZr
import Derived.Test.YtfblenhlildnaaaGreatDoorOk
set_option maxRecDepth 100000
set_option maxHeartbeats 8000000
open Go.Lib renaming hid->aA
open List renaming not_mem_nil->aB,mem_cons->aE,mem_append->aF,getElem_mem->aI,nil_append->aK,length_append->aN,length_drop->aO
open ByteArray renaming data_append->aC,size_append->aL
open Array renaming toList_append->aD
open Bool renaming false_eq_true->aG,and_eq_true->aH
open Nat renaming le_trans->aJ,le_refl->aP
namespace Go.Proofs.YtfblenhlildnaaaGreatDoor
open Go.RowKit
def eqR (o:Option Ordering):Bool:=match o with
 | some .eq=>true
 | _=>false
theorem AhO:∀ {o:Option Ordering},eqR o=true->o=some .eq
 | some .eq,_=>rfl
 | some .lt,h=>nomatch h
 | some .gt,h=>nomatch h
 | none,h=>nomatch h
def okS (n:Nat):Bool:=eqR (FloatKind.f64.format.order (KK (n+1)) (KK (n+1)))
def Afp (o:Nat):Nat->Bool
 | 0=>true
 | m+1=>cond (okS (m+o)) (Afp o m) false
theorem AcX (o:Nat):∀m:Nat,Afp o m=true->∀j,o<=j->j<m+o->okS j=true
 | 0,_,j,h1,h2=>by omega
 | m+1,h,j,h1,h2=>by
   unfold Afp at h
   cases e:okS (m+o) with
   | false=>rw[e] at h;cases h
   | true =>
     rw[e] at h;by_cases a:j=m+o
     ·exact a▸e
     exact AcX o m h j h1 (by omega)
theorem Ah9 {n:Nat} (h:okS n=true):FloatKind.f64.format.order (KK (n+1)) (KK (n+1))=some .eq:=AhO h
theorem AiV:Afp 0 1366=true:=by kernel_rfl
theorem AiW:Afp 1366 1366=true:=by kernel_rfl
theorem AiX:Afp 2732 1366=true:=by kernel_rfl
theorem Ae7 (n:Nat) (c:0<n) (h:n<=4097):FloatKind.f64.format.order (KK n) (KK n)=some .eq:=by
 have b:okS (n-1)=true:=by
  have a:n-1<1366\/(1366<=n-1/\n-1<2732)\/(2732<=n-1/\n-1<4098):=(by omega);rcases a with a | a | a
  ·exact AcX _ _ AiV (n-1) (by omega) (by omega)
  ·exact AcX _ _ AiW (n-1) (by omega) (by omega)
  exact AcX _ _ AiX (n-1) (by omega) (by omega)
 have:=Ah9 b;rw[show n-1+1=n by omega] at this;exact this
theorem Agu (l:List UInt8) (e:l.length<=4096) (f:Nat):RS2 (W1 l f):=by
 obtain⟨a,b,c,d⟩:=Z6 l f e;unfold W1;exact AiQ (Ae7 _ a c) (Ae7 _ b d)
section
variable {nx:Nat->Bool->Tk} {pl:Nat->Nat×Nat} {ere:List UInt8->Option Bool} {S:Nat}
structure AfY (nx:Nat->Bool->Tk) (S:Nat):Prop where
 last:∀a,(nx a false).e=0->AbN [125] (nx a false)=true->(nx a false).t=S
 none:∀op,(nx S op).kd=0
theorem AdL (E:AfY nx S) (s:Rs) {u:Unit} {i:Rs} (h:wantR nx pl [125] s = .ok u i) (b:i.e=0):i.a=S:=by
 unfold wantR at h;by_cases g:s.e=0
 ·rw[if_pos g] at h
  unfold takeR isR at h;simp only[RO.bind] at h
  cases c:(decide (s.e=0)&&(decide ((nx s.a false).e=0)&&AbN [125] (nx s.a false))) with
  | true =>
    rw[c] at h;simp only[if_true] at h;injection h with _ h;simp only[aH,decide_eq_true_eq] at c;rw[<- h,(AgI (pl:=pl) _ _).1];exact E.last _ c.2.1 c.2.2
  | false =>
    rw[c] at h;simp only[aG,if_false] at h;unfold AbG at h;simp only at h;generalize (if (nx s.a false).e=0 then s else Abl pl (nx s.a false).e (nx s.a false).f s)=s2 at h;split at h
    ·injection h with _ h;rw[<- h] at b;exact absurd b (Adm _)
    rename_i d;injection h with _ h;rw[<- h] at b;exact absurd b d
 rw[if_neg g] at h;injection h with _ h;rw[<- h] at b;exact absurd b g
theorem RO.ok_of {b c:Type} {o:RO b} {K:b->Rs->RO c} {y:c} {a:Rs} (h:o.bind K = .ok y a):∃x s,o = .ok x s/\K x s = .ok y a:=by
 cases o with
 | hush=>cases h
 | ok x s=>exact⟨x,s,rfl,h⟩
theorem MR.le {c:Type} {a:Nat} {e:Int} {b:Prop} {o:RO c} {x:c} {s:Rs} (h:MR S a e b o) (d:o = .ok x s):s.a<=S:=by rw[d] at h;exact h.r
theorem AcN (H:NoW nx) (A:Ack nx S) (E:AfY nx S):∀(n:Nat) (z:Nat×Nat) (l:List Tr) (s:Rs) (y:List Tr) (f:Rs),s.a<=S->Aaq nx pl ere n (.blockL z l) s = .ok y f->f.e=0->f.a=S
 | 0,_,_,_,_,_,_,h,_=>by cases h
 | n+1,z,l,s,y,f,hs,h,h0=>by
   rw[Aaq] at h;split at h
   ·replace h:=RO.ok_of h
    obtain⟨b,s1,d,h⟩:=h;have g:s1=s:=by unfold isR at d;injection d with _ d;exact d.symm
    subst g;split at h
    ·replace h:=RO.ok_of h
     obtain⟨u,i,c,h⟩:=h;injection h with _ h;subst h;exact AdL E _ c h0
    replace h:=RO.ok_of h;obtain⟨x,i,c,h⟩:=h;replace h:=RO.ok_of h;obtain⟨u,o,j,h⟩:=h;have k:=(AdW (pl:=pl) (ere:=ere) H A n .stmt s1 trivial hs).le c;have m:=(Ab0 A [59] n i k).le j;exact AcN H A E n _ _ o _ _ m h h0
   replace h:=RO.ok_of h;obtain⟨u,i,c,h⟩:=h;injection h with _ h;subst h;exact AdL E _ c h0
theorem AfF (H:NoW nx) (A:Ack nx S) (E:AfY nx S) (n:Nat) (s:Rs) (q:s.a<=S) {u:Rl} {c:Rs} (h:AcD nx pl ere n s = .ok u c) (p:c.e=0):c.a=S:=by
 unfold AcD at h;replace h:=RO.ok_of h;obtain⟨x,s1,d,h⟩:=h;replace h:=RO.ok_of h;obtain⟨l,w,b,h⟩:=h;injection h with _ h;subst h;have j:=(Acx (pl:=pl) true s q).le d
 cases n with
 | zero=>cases b
 | succ n =>
   rw[Aaq] at b;replace b:=RO.ok_of b;obtain⟨x,r,f,b⟩:=b;replace b:=RO.ok_of b;obtain⟨_,t,g,b⟩:=b;replace b:=RO.ok_of b;obtain⟨_,v,i,b⟩:=b;have k:=(Acx (pl:=pl) false s1 j).le f;have m:=(AbW A [123] r k).le g;have o:=(Ab0 A [59] n t m).le i;exact AcN H A E n _ _ v _ _ o b p
theorem Ahs (n:Nat) (s:Rs) {u:Rl} {a:Rs} (h:AcD nx pl ere n s = .ok u a):u.ps=[]:=by
 unfold AcD at h;replace h:=RO.ok_of h;obtain⟨x,s1,b,h⟩:=h;replace h:=RO.ok_of h;obtain⟨l,d,c,h⟩:=h;injection h with h _;subst h;rfl
abbrev s00:Rs:=⟨0,0,false,0,(0,0)⟩
structure Ad5 (nx:Nat->Bool->Tk) (S:Nat):Prop where
 ende:AfY nx S
 first:nx 0 false=⟨9,[123],0,0,1,0⟩
 same:∀a,nx a true=nx a false
theorem AcP (O:Ad5 nx S) {m:Nat} {s1:Rs} {u:Unit} (h:linesR nx [59] m s00 = .ok u s1):s1=s00:=by
 cases m with
 | zero=>cases h
 | succ m =>
   rw[linesR,if_pos rfl] at h;split at h
   ·rename_i c
    have:=c.2;rw[show (s00).a=0 from rfl,O.first] at this;rcases this with h | h
    ·exact absurd h (by decide)
    exact absurd h.2 (by decide)
   injection h with _ h;exact h.symm
theorem AfH (E:AfY nx S) {m:Nat} {s s1:Rs} {u:Unit} (d:s.a=S) (h:linesR nx [59] m s = .ok u s1):s1=s:=by
 cases m with
 | zero=>cases h
 | succ m =>
   rw[linesR] at h;split at h
   ·split at h
    ·rename_i c
     have:=c.2;rw[d] at this;rcases this with h | h
     ·rw[E.none] at h;exact absurd h (by decide)
     have b:=h.2;unfold isS at b;rw[E.none] at b;exact absurd b (by simp)
    injection h with _ h;exact h.symm
   injection h with _ h;exact h.symm
theorem AdI (O:Ad5 nx S) {b:Rs} {t:Tk} (h:AbG nx pl true s00 = .ok t b):b=s00/\t=⟨9,[123],0,0,1,0⟩:=by
 unfold AbG at h;rw[show (s00).a=0 from rfl,O.same,O.first,if_pos rfl] at h;injection h with c d;exact⟨d.symm,c.symm⟩
theorem Aef (O:Ad5 nx S):isR nx [123] s00 = .ok true s00:=by
 unfold isR;rw[show (s00).a=0 from rfl,O.first];rfl
theorem Ago (H:NoW nx) (A:Ack nx S) (O:Ad5 nx S) {n:Nat} {u:Rl} {c:Rs} (h:AcD nx pl ere n s00 = .ok u c) (m:Nat):Lst nx pl m c:=by
 intro e k s1 i t _ g a _;have b:=AfF H A O.ende n s00 (Nat.zero_le _) h e;have d:=AfH O.ende b g;subst d;unfold AbG at a;injection a with f _;rw[<- f,b];exact O.ende.none _
theorem Agm (H:NoW nx) (A:Ack nx S) (O:Ad5 nx S) (m:Nat):Fst nx pl ere m s00:=by
 intro k s1 c t _ b a _ _;obtain rfl:=AcP O b;obtain⟨rfl,-⟩:=AdI O a;exact⟨Aef O,fun u d h=>Ago H A O h k⟩
theorem Ah6 (H:NoW nx) (A:Ack nx S) (O:Ad5 nx S) {n:Nat} {rs:List Rl} {l:List Fu} {p:Rs} (h:AbM nx pl ere n [] [] s00 = .ok (rs,l) p):∀r∈rs,r.ps=[]:=by
 cases n with
 | zero=>cases h
 | succ n =>
   rw[AbM,if_neg (by decide)] at h;replace h:=RO.ok_of h;obtain⟨_,s1,g,h⟩:=h;obtain rfl:=AcP O g;replace h:=RO.ok_of h;obtain⟨t,s,i,h⟩:=h;obtain⟨rfl,rfl⟩:=AdI O i;rw[if_neg (by decide)] at h;rw[Ae9 H _ (by decide)] at h;simp only[RO.bind,aG,if_false] at h;replace h:=RO.ok_of h;obtain⟨u,v,b,h⟩:=h;rw[Ae' H (Aef O)] at b;have d:=Ahs _ _ b;have o:=Ago (pl:=pl) H A O b
   cases n with
   | zero=>cases b
   | succ n =>
     rw[AbM] at h;split at h
     ·injection h with h _;injection h with h _;subst h
      intro r a;simp only[aK,aE,aB,or_false] at a;rw[a];exact d
     rename_i m
     replace h:=RO.ok_of h;obtain⟨_,q,j,h⟩:=h;replace h:=RO.ok_of h;obtain⟨t,f,k,h⟩:=h;by_cases c:f.e=0
     ·have:=o (n+1) (by simpa using m) n q f t rfl j k c
      rw[if_pos (.inr this)] at h;injection h with h _;injection h with h _;subst h;intro r a;simp only[aK,aE,aB,or_false] at a;rw[a];exact d
     rw[if_pos (.inl c)] at h;injection h with h _;injection h with h _;subst h;intro r a;simp only[aK,aE,aB,or_false] at a;rw[a];exact d
end
abbrev Ad7:List UInt8:=[32,33,36,40,41,45,61,91,93,97,102,120,123,125]
structure Aci (l:List UInt8):Prop where
 len:l.length<=4096
 set:∀c∈l,c∈Ad7
 first:∃r,l=123::32::r
 last:∀k c r,l.drop k=c::r->c=125->r=[]
section
variable {l:List UInt8} (D:Aci l)
include D
theorem Aci.no (x:UInt8) (h:x∉Ad7):x∉l:=fun d=>h (D.set x d)
theorem Aci.num (k:Nat):¬ CV l k:=by
 rintro⟨h,a | a⟩
 ·have:=D.set _ (aI h)
  generalize l[k]=c at *;simp only[Ad7,aE,aB,or_false] at this;rcases this with rfl | rfl | rfl | rfl | rfl | rfl | rfl | rfl | rfl | rfl | rfl | rfl | rfl | rfl<;>exact absurd a (by decide)
 exact D.no 46 (by decide) (a.1▸aI h)
theorem Aci.numK (a:Nat->Tk):AhH l a:=fun k h=>absurd h (D.num k)
theorem Aci.tokH (a:Nat->Tk):Abi (X8 l a):=Ahz l a (D.no 47 (by decide)) (D.no 62 (by decide)) (D.numK a)
theorem Aci.noW (f:Nat->Tk):NoW (X8 l f):=by
 intro a x k
 obtain⟨c,i,j⟩:∃c,c∈x/\c∉Ad7:=by
  revert x
  decide
 have b:=D.no c j;unfold AbN;rcases Adk l f (D.no 47 (by decide)) (D.numK f) a false with h | ⟨d,-,-,g,-⟩ | ⟨d,-,-,-,g⟩
 ·rcases h with h | h | h | h<;>rw[h]<;>simp
 ·rw[show decide ((X8 l f a false).tx=x)=false from decide_eq_false fun e=>b (by rw[<- e,g] at i;exact AdV i)];simp
 rw[show decide ((X8 l f a false).tx=x)=false from decide_eq_false fun e=>b (g c (by rw[e];exact i))];simp
theorem Aci.kd8 (f:Nat->Tk) (a:Nat) (g:Bool):(X8 l f a g).kd≠8:=by
 intro e;rcases Adk l f (D.no 47 (by decide)) (D.numK f) a g with h | ⟨d,-,b,-,-⟩ | ⟨d,-,h,-⟩
 ·rw[e] at h;exact absurd h (by decide)
 ·rw[e] at b
  have k:Bc l (Abd l a) (Co l (Abd l a))∈Ys:=by
   unfold A6 at b;split at b
   ·rename_i h;exact List.contains_iff_mem.1 h
   split at b
   ·exact absurd b (by decide)
   split at b<;>exact absurd b (by decide)
  obtain⟨c,i,j⟩:∃c,c∈Bc l (Abd l a) (Co l (Abd l a))/\c∉Ad7:=by
   revert k
   generalize Bc l (Abd l a) (Co l (Abd l a))=x
   revert x
   decide
  exact D.no c j (AdV i)
 rw[e] at h;exact absurd h (by decide)
theorem Aci.kd2 (d:Nat->Tk) (a:Nat) (e:Bool):(X8 l d a e).kd≠2:=by
 intro b;unfold X8 at b;rcases Adc l e (d (Abd l a)) (Abd l a) (D.no 47 (by decide)) with h | h | h | ⟨h,-⟩ | ⟨c,r,-,-,h,-⟩ | ⟨c,r,-,-,h,-⟩
 iterate 3
  focus
   rw[b] at h;exact absurd h (by decide)
 ·exact D.num _ h
 ·rw[b] at h;rcases AdU l (Abd l a) with g | g | g | g<;>rw[g] at h<;>exact absurd h (by decide)
 rw[b] at h;exact absurd h (by decide)
theorem Aci.one (s:Nat->Tk):Ad5 (X8 l s) l.length:=by
 refine⟨⟨fun a E p=>?_,fun F=>?_⟩,?_,fun a=>Afd l _ _ (D.no 47 (by decide))⟩
 ·unfold AbN at p
  simp only[aH,Bool.or_eq_true,decide_eq_true_eq] at p;obtain⟨w,d⟩:=p;have b:(X8 l s a false).kd=9:=w.resolve_right (D.kd8 s a false);clear w;unfold X8 at b d ⊢;generalize Abd l a=k at *;unfold Sc at b d ⊢
  cases e:l.drop k with
  | nil=>rw[e] at b;exact absurd (show (0:Int)=9 from b) (by decide)
  | cons c r =>
    rw[e] at b d;dsimp only at b d ⊢;by_cases u:c=10
    ·rw[if_pos u] at b;exact absurd (show (1:Int)=9 from b) (by decide)
    rw[if_neg u] at b d ⊢
    have j:k<l.length:=by
     by_cases h:k<l.length
     ·exact h
     rw[List.drop_eq_nil_of_le (by omega)] at e;cases e
    have n:¬ (Aj c=true\/(c=46/\(r.head?.map Aj)=some true)):=fun n=>D.num k (by
     have t:=e;rw[Aq l k j] at t;injection t with x y
     exact Ft l k j (by rw[x,y];exact n))
    rw[if_neg n] at b d ⊢;by_cases v:AbH c=true
    ·rw[if_pos v] at b
     rcases AdU l k with g | g | g | g<;>exact absurd (g.symm.trans b) (by decide)
    rw[if_neg v] at b d ⊢;have q:c∈l:=List.mem_of_mem_drop (i:=k) (by rw[e];exact .head _);have z:c≠34:=fun h=>D.no 34 (by decide) (h▸q);have A:¬ (c=47/\false=true):=fun h=>nomatch h.2;rw[if_neg z,if_neg A] at b d ⊢;by_cases o:0<B6 (c::r)
    ·rw[if_pos o] at d ⊢
     dsimp only at d ⊢;have f:=AdJ l k _ c r e o;rw[d] at f;injection f with f;have B:=D.last k c r e f.symm;subst B;subst f;have m:(l.drop k).length=1:=by rw[e];rfl
     rw[aO] at m;have:B6 [125]=1:=(by decide);rw[this];omega
    rw[if_neg o] at b;exact absurd (show (0:Int)=9 from b) (by decide)
 ·unfold X8 Sc
  rw[Kw l l.length (aP _),List.drop_length]
 obtain⟨r,rfl⟩:=D.first;have C:Abd (123::32::r) 0=0:=by unfold Abd;rw[List.drop_zero,C0];simp
 unfold X8 Sc;rw[C];rw[List.drop_zero];dsimp only;have:B6 (123::32::r)=1:=rfl;rw[if_neg (show ¬ (123:UInt8)=10 by decide),if_neg (fun h=>h.elim (show ¬ Aj 123=true by decide) (fun h=>absurd h.1 (by decide))),if_neg (show ¬ AbH 123=true by decide),if_neg (show ¬ (123:UInt8)=34 by decide),if_neg (fun h=>absurd h.1 (by decide)),this];rfl
end
section
variable {nx:Nat->Bool->Tk} {pl:Nat->Nat×Nat} {ere:List UInt8->Option Bool} {α:Type}
theorem AdE {b:Bool} {p:Ps} {K L:Tk->Ps->Hf α} (c:K (nx p.a b) p=L (nx p.a b) p):(Eb nx b p).bind K=(Eb nx b p).bind L:=by
 unfold Eb;split
 ·exact c
 rfl
theorem AcE {a:Type} {o:Hf a} {K L:a->Ps->Hf α} (b:∀x q,K x q=L x q):o.bind K=o.bind L:=by
 cases o with
 | ok x q=>exact b x q
 | bad f e=>rfl
 | hush=>rfl
theorem noW {t:Tk} (h:t.kd≠8) (x:List UInt8):XI t x=false:=by unfold XI;rw[decide_eq_false h];rfl
structure SaT (nx:Nat->Bool->Tk) (pl:Nat->Nat×Nat) (ere:List UInt8->Option Bool) (n:Nat):Prop where
 stmt:∀p,It nx pl ere n .stmt p=Abh nx pl ere n .stmt p
 simple:∀p,It nx pl ere n .simple p=Abh nx pl ere n .simple p
 block:∀p,It nx pl ere n .block p=Abh nx pl ere n .block p
 blockL:∀z l p,It nx pl ere n (.blockL z l) p=Abh nx pl ere n (.blockL z l) p
theorem saT (b:∀a e,(nx a e).kd≠8):∀n,SaT nx pl ere n
 | 0=>⟨fun _=>rfl,fun _=>rfl,fun _=>rfl,fun _ _ _=>rfl⟩
 | n+1=>by
   have E:=saT b n;refine⟨fun p=>?_,fun p=>?_,fun p=>?_,fun z l p=>?_⟩
   ·simp only[It,Abh]
    refine AdE ?_;have c:=b p.a true;simp only[noW c,aG,if_false];rw[if_neg (fun d=>c d.1)];split
    ·exact E.block _
    rw[E.simple]
   ·simp only[It,Abh]
    refine AdE ?_;rw[if_pos (b _ _),if_pos (b _ _)]
   ·simp only[It,Abh]
    exact AcE fun z q=>E.blockL z [] q
   simp only[It,Abh];refine AcE fun t q=>?_;split
   ·rfl
   rw[E.stmt];exact AcE fun x q=>E.blockL _ _ _
end
section
variable {nx:Nat->Bool->Tk} {pl:Nat->Nat×Nat} {ere:List UInt8->Option Bool} {S:Nat}
theorem Hf.ok_of {a b:Type} {o:Hf a} {K:a->Ps->Hf b} {y:b} {q:Ps} (h:o.bind K = .ok y q):∃x p,o = .ok x p/\K x p = .ok y q:=by
 cases o with
 | hush=>cases h
 | bad f e=>cases h
 | ok x p=>exact⟨x,p,rfl,h⟩
theorem AiD (E:AfY nx S) {p q:Ps} {z:Nat×Nat} (h:Abb nx pl [125] p = .ok z q):q.a=S:=by
 unfold Abb at h;replace h:=Hf.ok_of h;obtain⟨t,f,b,h⟩:=h;unfold Eb at b;split at b
 ·rename_i e
  injection b with b d;subst b d;split at h
  ·rename_i c
   rw[if_neg (show ¬ ZT [125]=true by decide),if_pos (show ZV [125]=true by decide)] at h;injection h with _ h;rw[<- h];refine E.last _ e ?_;unfold isS at c;unfold AbN;simp only[aH,decide_eq_true_eq] at c;rw[c.1,c.2];rfl
  cases h
 cases b
theorem Aex (E:AfY nx S):∀(n:Nat) (z:Nat×Nat) (l:List Tr) (p:Ps) (b:List Tr) (q:Ps),Abh nx pl ere n (.blockL z l) p = .ok b q->q.a=S
 | 0,_,_,_,_,_,h=>by cases h
 | n+1,z,l,p,b,q,h=>by
   rw[Abh] at h;replace h:=Hf.ok_of h;obtain⟨t,e,-,h⟩:=h;split at h
   ·replace h:=Hf.ok_of h
    obtain⟨_,d,c,h⟩:=h;injection h with _ h;rw[<- h];exact AiD E c
   replace h:=Hf.ok_of h;obtain⟨_,d,-,h⟩:=h;exact Aex E n _ _ _ _ _ h
theorem AiH {nx:Nat->Bool->Tk} {c:Nat->Tk->Ps->Hf Rl} (n:Nat) (l:List Rl) (q:Ps) (h:(nx q.a true).kd=0):M1 nx c n l q=Ade nx pl ere n l q:=by
 cases n with
 | zero=>rfl
 | succ n =>
   rw[M1,Ade]
   cases n with
   | zero=>rfl
   | succ n =>
     rw[LB];unfold Eb;split
     ·simp only[Hf.bind]
      have b:¬ ((nx q.a true).kd=1\/isS (nx q.a true) [59]=true):=by
       unfold isS;rw[h];simp
      rw[if_neg b];simp only[if_pos h]
     rfl
theorem AiK (i:∀a j,(nx a j).kd≠8) (O:Ad5 nx S) (n:Nat):M1 nx (fun m=>AeM nx pl ere m) n [] ⟨0,0,-1⟩=Ade nx pl ere n [] ⟨0,0,-1⟩:=by
 cases n with
 | zero=>rfl
 | succ n =>
   rw[M1,Ade]
   cases n with
   | zero=>rfl
   | succ n =>
     have d:LB nx true (n+1) ⟨0,0,-1⟩ = .ok ⟨9,[123],0,0,1,0⟩ ⟨0,0,-1⟩:=by
      rw[LB];unfold Eb;rw[show (⟨0,0,-1⟩:Ps).a=0 from rfl,O.same,O.first,if_pos rfl];rfl
     rw[d];simp only[Hf.bind];rw[if_neg (show ¬ (9:Int)=0 by decide),if_neg (show ¬ (9:Int)=0 by decide),if_neg (show ¬ XI ⟨9,[123],0,0,1,0⟩ [102,117,110,99,116,105,111,110]=true by decide),if_neg (show ¬ XI ⟨9,[123],0,0,1,0⟩ [102,117,110,99,116,105,111,110]=true by decide)]
     have h:AeM nx pl ere (n+1) ⟨9,[123],0,0,1,0⟩ ⟨0,0,-1⟩=AcT nx pl ere (n+1) ⟨9,[123],0,0,1,0⟩ ⟨0,0,-1⟩:=by
      unfold AeM AcT;rw[(saT i (n+1)).block];rfl
     rw[h]
     cases e:AcT nx pl ere (n+1) ⟨9,[123],0,0,1,0⟩ ⟨0,0,-1⟩ with
     | hush=>rfl
     | bad f e=>rfl
     | ok u q =>
       refine AiH _ _ _ ?_
       have g:q.a=S:=by
        unfold AcT at e;rw[if_neg (by decide),if_neg (by decide),if_neg (by decide),if_neg (by decide),if_pos (by decide)] at e;replace e:=Hf.ok_of e;obtain⟨b,q1,c,e⟩:=e;injection e with _ e;subst e;rw[Abh] at c;replace c:=Hf.ok_of c;obtain⟨z,k,-,c⟩:=c;exact Aex O.ende _ _ _ _ _ _ c
       rw[g];exact O.ende.none true
theorem AiE (H:Abi nx) (A:Adv nx S) (O:Ad5 nx S) {Q:Nat->Prop} {R:Nat×Nat->Prop} (p:Q 0) (l:∀f,R (pl f)) (i:R (0,0)) (n:∀a,(nx a false).kd=2->Q (nx a false).nm) (k:∀a t,(nx a t).kd≠8) (u:S<=4096) :
  (∃rs q s,AgK nx pl ere 1000000 = .ok rs q/\(∀r∈rs,RQ Q R r)/\s.e=0/\Ev (fun m=>AbM nx pl ere m [] [] ⟨0,0,false,0,(0,0)⟩) (.ok (rs,[]) s)) \/
    (∃f e x s,AgK nx pl ere 1000000 = .bad f e/\f<=S/\AbC pl f e s/\Ev (fun m=>AbM nx pl ere m [] [] ⟨0,0,false,0,(0,0)⟩) (.ok x s)):=by
 have j:∀x a,XI (nx a false) x=false:=fun x a=>noW (k a false) x;have b:=Adx (pl:=pl) (ere:=ere) A H p l i n (j _) (j _) 1000000 [] ⟨0,0,-1⟩ (fun _ h=>nomatch h) (Nat.zero_le _) (by show 40*(S-0)+30<1000000;omega);have c:=Ae2 (pl:=pl) (ere:=ere) H 1000000 [] ⟨0,0,-1⟩ ⟨0,0,false,0,(0,0)⟩ ⟨rfl,rfl,rfl⟩;rw[<- AiK k O] at b c;unfold AgK;generalize M1 nx (fun m=>AeM nx pl ere m) 1000000 [] ⟨0,0,-1⟩=o at b c
 cases o with
 | hush=>exact b.elim
 | ok rs q=>obtain⟨s,d,g⟩:=c;exact .inl ⟨rs,q,s,rfl,b.2.2.2,d,g⟩
 | bad f e=>obtain⟨x,s,d,g⟩:=c;exact .inr ⟨f,e,x,s,rfl,b,d,g⟩
end
open Go.Proofs.Tryz
structure AiG (s:ByteArray) (rs:List Rl) (z:Nat×Nat) (e:Int):Prop where
 q:∀r∈rs,RQ QS RS2 r
 ps:∀r∈rs,r.ps=[]
 c:∀w,Calls prog 14 #[.string s] w fun en w'=>Below w.heap.size w w'/\∃B v,en = .returned (.tuple #[.agg #[v,.slice none 0 0],.complex .f64 z.1 z.2,.int .i64 e])/\Lr w' B rs v
 d:∀w,Calls prog 15 #[.string s] w fun en w'=>Below w.heap.size w w'/\∃B v,en = .returned (.tuple #[.agg #[v,.slice none 0 0],.complex .f64 z.1 z.2,.int .i64 e])/\Lr w' B rs v
 ceq:∀w,Sem.run prog (binOp .eql 40 (.complex .f64 z.1 z.2) (.complex .f64 z.1 z.2)) w = .ok (.bool true) w
theorem AiR {a b:Nat} (ha:FloatKind.f64.format.order a a=some .eq) (c:FloatKind.f64.format.order b b=some .eq) (w:World):Sem.run prog (binOp .eql 40 (.complex .f64 a b) (.complex .f64 a b)) w = .ok (.bool true) w:=by
 simp[binOp,Op.complexOp,Op.Complex.cmp,Op.floatCmp,ha,c,go_sem]
theorem Aih (w:World):Sem.run prog (binOp .eql 40 (.complex .f64 0 0) (.complex .f64 0 0)) w = .ok (.bool true) w:=by kernel_rfl
theorem Agt (l:List UInt8) (e:l.length<=4096) (f:Nat) (w:World):Sem.run prog (binOp .eql 40 (.complex .f64 (W1 l f).1 (W1 l f).2) (.complex .f64 (W1 l f).1 (W1 l f).2)) w = .ok (.bool true) w:=by
 obtain⟨a,b,c,d⟩:=Z6 l f e;unfold W1;exact AiR (Ae7 _ a c) (Ae7 _ b d) w
theorem Aey (s:ByteArray) (H:World) (D:Aci s.data.toList):∃rs z e,AiG s rs z e:=by
 have I:s.data.toList.length=s.size:=rfl;have b:s.size<=4096:=by rw[<- I];exact D.len
 let nt:Nat->Tk:=fun _=>⟨0,[],0,0,0,0⟩
 have u:∀w,RxC (X8 s.data.toList nt) s w:=fun w=>Aid s b nt w fun k h=>absurd h (D.num k);have G:∀w,F2 (X8 s.data.toList nt) s w:=fun w=>Z3 s b nt w fun k h=>absurd h (D.num k);have m:=D.noW nt;have t:Ad5 (X8 s.data.toList nt) s.size:=D.one nt;have r:Ack (X8 s.data.toList nt) s.size:=AcV (u H);have C:Adv (X8 s.data.toList nt) s.size:=⟨fun a ha=>((u H).lim a false ha).1,fun a ha j=>r a false ha j⟩;have c:=AiE (pl:=W1 s.data.toList) (ere:=fun _=>none) (D.tokH nt) C t (Q:=QS) (R:=RS2) qs0 (Agu _ D.len) AiZ (fun a h=>absurd h (D.kd2 nt a false)) (D.kd8 nt) b;rcases c with⟨rs,q,p,i,y,l,n,A⟩ | ⟨f,e,x,p,i,y,l,n,A⟩
 ·have o:=A n (aP _)
  refine⟨rs,(0,0),0,y,Ah6 m r t o,fun w=>?_,fun w=>?_,Aih⟩
  ·have g:=Aej (pl:=W1 s.data.toList) (ere:=fun _=>none) s b (G w) (YL s b) (TZ.none s w) 1000000 (by decide) (by rw[i];exact fun h=>nomatch h) (by rw[i];exact fun _ _ h=>nomatch h)
   rw[i] at g;exact g.mono fun e F ⟨c,v,j,E⟩=>⟨c,_,v,j,E⟩
  have g:=AdH (pl:=W1 s.data.toList) (ere:=fun _=>none) s b w (u w) (Adg s b) (fun _=>rfl) m n rs [] p o (Agm m r t n);refine g.mono fun e F d=>?_;obtain⟨c,d⟩:=d;rw[if_pos l] at d;obtain⟨B,v,j,E⟩:=d;exact⟨c,B,v,j,E⟩
 have o:=A n (aP _);refine⟨[],W1 s.data.toList f,e,(fun _ h=>nomatch h),(fun _ h=>nomatch h),fun w=>?_,fun w=>?_,Agt _ D.len f⟩
 ·have g:=Aej (pl:=W1 s.data.toList) (ere:=fun _=>none) s b (G w) (YL s b) (TZ.none s w) 1000000 (by decide) (by rw[i];exact fun h=>nomatch h) (by rw[i];intro K J h;injection h with ha _;rw[<- ha];exact y)
  rw[i] at g;exact g.mono fun e F ⟨c,j⟩=>⟨c,0,_,j,Lr.nil _ _⟩
 have g:=AdH (pl:=W1 s.data.toList) (ere:=fun _=>none) s b w (u w) (Adg s b) (fun _=>rfl) m n x.1 x.2 p o (Agm m r t n);refine g.mono fun e F d=>?_;obtain⟨c,d⟩:=d;rw[if_neg l.ne,l.e,l.z] at d;exact⟨c,0,_,d,Lr.nil _ _⟩
theorem AgF (s:ByteArray) (D:Aci s.data.toList) (w:World):Calls prog 8 #[.string s] w fun e K=>e = .returned (.bool true)/\Below w.heap.size w K:=by
 obtain⟨rs,z,L,B⟩:=Aey s w D;obtain⟨P,Q⟩:=z;obtain⟨x,v,t,u,J⟩:=B;have HC:=aA t;have C:=aA u;have E:=aA (fun W q r y A H I=>AeB rs W q r y A H I x v);clear x v t u D;dsimp only at J
 go_in
 go_wp2_with (first | (go_at_call 16;refine(E.out _ _ _ _ _ l.out m.out).mono ?_;rintro e O ⟨rfl,p⟩;replace j:=aA (j.out.trans (p.mono j.out.size))) | (go_at_call 15;refine(C.out _).mono ?_;rintro e k ⟨b,r,A,rfl,f⟩;obtain⟨g,h,rfl⟩:=f.slice;have n:=((CN.new i [.slice F rs.length G,.slice none 0 0] 33).quiet b).alloc (.cells #[.slice g rs.length h,.slice none 0 0] 33);have o:=CN.new k [.slice g rs.length h,.slice none 0 0] 33;have M:=n.c 0 _ rfl;have N:=n.c 1 _ rfl;have k0:=o.c 0 _ rfl;have k1:=o.c 1 _ rfl;have l:=aA (((d.bel (Ad i _)).bel b).bel (Ad k (.cells #[.slice g rs.length h,.slice none 0 0] 33)));have m:=aA (f.bel (Ad k (.cells #[.slice g rs.length h,.slice none 0 0] 33)));have j:=aA (((a.trans ((Ad i _).mono a.size)).trans (b.mono (aJ a.size (Ad i _).size))).trans ((Ad k (.cells #[.slice g rs.length h,.slice none 0 0] 33)).mono (aJ (aJ a.size (Ad i _).size) b.size)));clear n o d f) | (go_at_call 14;refine(HC.out _).mono ?_;rintro e i ⟨a,q,y,rfl,d⟩;obtain⟨F,G,rfl⟩:=d.slice))
 go_ret;exact⟨rfl,j.out⟩
abbrev inL:List UInt8:=[33,36,40,41,45,61,91,93,97,102,120]
structure XS (x:ByteArray) (n:Nat):Prop where
 len:x.size<=n
 set:∀c∈x.data.toList,c∈inL
theorem XS.one:XS ⟨#[120]⟩ 1:=⟨by decide,by decide⟩
theorem XS.ahead {x:ByteArray} {n:Nat} (h:XS x n) (a:Array UInt8) (k:Nat) (e:a.size<=k) (ha:∀c∈a.toList,c∈inL):XS (⟨a⟩++x) (n+k) :=
 ⟨by have:=h.len;have:(⟨a⟩:ByteArray).size=a.size:=rfl;rw[aL];omega,fun c d=>by
   rw[aC,aD] at d;rcases aF.1 d with b | b
   ·exact ha c b
   exact h.set c b⟩
theorem XS.behind {x:ByteArray} {n:Nat} (h:XS x n) (a:Array UInt8) (k:Nat) (e:a.size<=k) (ha:∀c∈a.toList,c∈inL):XS (x++⟨a⟩) (n+k) :=
 ⟨by have:=h.len;have:(⟨a⟩:ByteArray).size=a.size:=rfl;rw[aL];omega,fun c d=>by
   rw[aC,aD] at d;rcases aF.1 d with b | b
   ·exact h.set c b
   exact ha c b⟩
theorem XS.mono {x:ByteArray} {n m:Nat} (h:XS x n) (a:n<=m):XS x m:=⟨aJ h.len a,h.set⟩
theorem XS.both {x:ByteArray} {n:Nat} (h:XS x n) (a b:Array UInt8) (ha:a.size<=2) (f:b.size<=1) (d:∀c∈a.toList,c∈inL) (e:∀c∈b.toList,c∈inL):XS (⟨a⟩++x++⟨b⟩) (n+3) :=
 (h.ahead a 2 ha d).behind b 1 f e
theorem Ahu (m:List UInt8) (f:(125:UInt8)∉m) (k:Nat) (c:UInt8) (r:List UInt8) (h:(m++[125]).drop k=c::r) (e:c=125):r=[]:=by
 by_cases a:k<m.length
 ·rw[List.drop_append_of_le_length (by omega),Aq m k a] at h
  injection h with b _;exact absurd (by rw[<- e,<- b];exact aI a) f
 have:((m++[125]).drop k).length<=1:=by rw[aO,aN];simp;omega
 rw[h] at this
 cases r with
 | nil=>rfl
 | cons d r=>simp at this
theorem AgR {x:ByteArray} {n:Nat} (h:XS x n) (j:n<=4000):Aci ((⟨#[123,32]⟩:ByteArray)++x++⟨#[32,125]⟩).data.toList:=by
 have g:((⟨#[123,32]⟩:ByteArray)++x++⟨#[32,125]⟩).data.toList=123::32::(x.data.toList++[32,125]):=by
  rw[aC,aC,aD,aD];rfl
 have i:x.data.toList.length=x.size:=rfl;rw[g];refine⟨by have:=h.len;simp only[List.length_cons,aN,List.length_nil];omega,fun c b=>?_,⟨_,rfl⟩,fun k c r e f=>?_⟩
 ·simp only[aE,aF,aB,or_false] at b
  rcases b with rfl | rfl | b | rfl | rfl
  ·decide
  ·decide
  ·have:=h.set c b
   revert this
   generalize c=d
   revert d
   decide
  ·decide
  decide
 rw[show 123::32::(x.data.toList++[32,125])=(123::32::(x.data.toList++[32]))++[125] by simp] at e;refine Ahu _ ?_ k c r e f;intro a;simp only[aE,aF,aB,or_false] at a;rcases a with a | a | a | a
 ·exact absurd a (by decide)
 ·exact absurd a (by decide)
 ·exact absurd (h.set _ a) (by decide)
 exact absurd a (by decide)
theorem Adp (n m kind:Int) (w:World) (z:CG w):Calls prog 4 #[.int .i64 n,.int .i64 m,.int .i64 kind] w fun e a=>e = .returned (.bool true)/\Below w.heap.size w a:=by
 have I:∀w,Sem.run prog (Instr.index 25 (.agg #[.string ⟨#[45]⟩,.string ⟨#[33]⟩,.string ⟨#[120,61]⟩,.string ⟨#[36]⟩]) (.int .i64 0)) w = .ok (.string ⟨#[45]⟩) w:=by intro w;kernel_rfl
 have J:∀w,Sem.run prog (Instr.index 25 (.agg #[.string ⟨#[45]⟩,.string ⟨#[33]⟩,.string ⟨#[120,61]⟩,.string ⟨#[36]⟩]) (.int .i64 1)) w = .ok (.string ⟨#[33]⟩) w:=by intro w;kernel_rfl
 have K:∀w,Sem.run prog (Instr.index 25 (.agg #[.string ⟨#[45]⟩,.string ⟨#[33]⟩,.string ⟨#[120,61]⟩,.string ⟨#[36]⟩]) (.int .i64 2)) w = .ok (.string ⟨#[120,61]⟩) w:=by intro w;kernel_rfl
 have L:∀w,Sem.run prog (Instr.index 25 (.agg #[.string ⟨#[45]⟩,.string ⟨#[33]⟩,.string ⟨#[120,61]⟩,.string ⟨#[36]⟩]) (.int .i64 3)) w = .ok (.string ⟨#[36]⟩) w:=by intro w;kernel_rfl
 have u:=aA (show ∀W,Calls prog 6 #[.int .i64 n,.int .i64 45] W fun e a=>e = .returned (.int .i64 (O1 n 45))/\W=a from fun W=>V5 n 45 W (by decide) (by unfold maxLen;omega));have t:=aA (show ∀W,Calls prog 6 #[.int .i64 m,.int .i64 300] W fun e a=>e = .returned (.int .i64 (O1 m 300))/\W=a from fun W=>V5 m 300 W (by decide) (by unfold maxLen;omega));have r:=aA (show ∀W,Calls prog 6 #[.int .i64 kind,.int .i64 4] W fun e a=>e = .returned (.int .i64 (O1 kind 4))/\W=a from fun W=>V5 kind 4 W (by decide) (by unfold maxLen;omega));have E:=aA (show ∀x W,Calls prog 6 #[.int .i64 x,.int .i64 4] W fun e a=>e = .returned (.int .i64 (O1 x 4))/\W=a from fun x W=>V5 x 4 W (by decide) (by unfold maxLen;omega))
 have T:=XK n 45 (by decide);have S:=XK m 300 (by decide);have A:=XK kind 4 (by decide);have D:=aA (fun x=>XK x 4 (by decide));generalize O1 n 45=N at u T;generalize O1 m 300=M at t S;generalize O1 kind 4=C at r A;have F:=aA (fun W (H:Below w.heap.size w W)=>XJ W (z.below H));clear z;have HC:=aA (show C=0\/C=1\/C=2\/C=3 by omega);clear A
 go_in
 go_wp2_with (first | (go_at_call 6;with_reducible refine(u.out _).mono ?_;rintro e a ⟨rfl,rfl⟩) | (go_at_call 6;with_reducible refine(t.out _).mono ?_;rintro e a ⟨rfl,rfl⟩))
 go_loopg [7,8] N (fun g s i wr=>∃(k:Nat) (x:ByteArray),s = .string x/\i = .int .i64 k/\k+g=N/\Hid (XS x (1+3*k))/\w=wr)
 case atStart=>exact⟨0,_,rfl,rfl,by omega,XS.one,rfl⟩
 obtain⟨k,x,rfl,rfl,Q,l,rfl⟩:=hrel;have U:=l.out.len;by_cases R:k<N
 ·obtain⟨p,rfl⟩:∃j,gk=j+1:=⟨gk-1,by omega⟩
  rcases HC.out with rfl | rfl | rfl | rfl
  all_goals
   go_wp2_with (first | (go_at_call 6;refine(r.out _).mono ?_;rintro e a ⟨rfl,rfl⟩))
   go_roundg p
   case rel=>exact⟨k+1,_,rfl,rfl,by omega,(l.out.both _ _ (by decide) (by decide) (by decide) (by decide)).mono (by omega),rfl⟩
   all_goals omega
 obtain rfl:k=N:=(by omega);have B:=aA (l.out.mono (show 1+3*k<=136 by omega));clear l;have v:=aA (D.out (RowKit.wrap64 (kind.tdiv 4)));go_wp2
 go_loopg [7,9] M (fun g s i wr=>∃(k:Nat) (x:ByteArray),s = .string x/\i = .int .i64 k/\k+g=M/\Hid (XS x (136+3*k))/\w=wr)
 case atStart=>exact⟨0,_,rfl,rfl,by omega,B.out.mono (by omega),rfl⟩
 obtain⟨j,y,rfl,rfl,O,o,rfl⟩:=hrel;have V:=o.out.len;by_cases P:j<M
 ·obtain⟨p,rfl⟩:∃j,gk=j+1:=⟨gk-1,by omega⟩
  obtain⟨d,q⟩:∃d,O1 (RowKit.wrap64 (kind.tdiv 4)) 4=d:=⟨_,rfl⟩;have c:=aA (E.out (RowKit.wrap64 (kind.tdiv 4)));rw[q] at v;rw[q] at c;rcases (show d=0\/d=1\/d=2\/d=3 by have:=v.out;omega) with rfl | rfl | rfl | rfl
  all_goals
   clear q
   go_wp2_with (first | (go_at_call 6;refine(c.out _).mono ?_;rintro e a ⟨rfl,rfl⟩))
   go_roundg p
   case rel=>exact⟨j+1,_,rfl,rfl,by omega,(o.out.ahead _ 2 (by decide) (by decide)).mono (by omega),rfl⟩
   all_goals omega
 obtain rfl:j=M:=(by omega);have G:=aA (fun W=>AgF _ (AgR o.out (by omega)) W);have b:=aA (Below.refl w.heap.size w)
 go_wp2_with (first | (go_at_call 7;refine(F.out _ b.out).mono ?_;rintro e X ⟨rfl,f⟩;replace b:=aA f;clear f) | (go_at_call 8;refine(G.out _).mono ?_;rintro e Y ⟨rfl,h⟩;replace b:=aA (b.out.trans (h.mono b.out.size));clear h))
 go_ret;exact⟨rfl,b.out⟩
end Go.Proofs.YtfblenhlildnaaaGreatDoor
