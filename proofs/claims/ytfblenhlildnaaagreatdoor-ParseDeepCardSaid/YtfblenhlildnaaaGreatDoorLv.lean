/- Lv Ly Dn Le Lf -/
import Derived.Test.YtfblenhlildnaaaGreatDoorIt
import Derived.Test.YtfblenhlildnaaaGreatDoorLk
import Derived.Test.YtfblenhlildnaaaGreatDoorLo
import Derived.Test.YtfblenhlildnaaaGreatDoorLr
import Derived.Test.YtfblenhlildnaaaGreatDoorLs
import Derived.Test.YtfblenhlildnaaaGreatDoorIp
import Derived.Test.YtfblenhlildnaaaGreatDoorNl
import Derived.Test.YtfblenhlildnaaaGreatDoorWy
import Derived.Test.YtfblenhlildnaaaGreatDoorBc
set_option maxRecDepth 100000
open List renaming length_drop->aA,mem_of_mem_drop->aB,not_mem_nil->aD,length_cons->aE,drop_eq_nil_of_le->aH,mem_cons->aI
open Nat renaming le_refl->aC,le_trans->aG,lt_of_le_of_lt->aK
namespace Go.Proofs.YtfblenhlildnaaaGreatDoor
structure AiF (nx:Nat->Bool->Tk) (pl:Nat->Nat×Nat) (ere:List UInt8->Option Bool) (w0:World) (q:Nat) (s:ByteArray) (n:Nat):Prop where
 expr:NR nx pl ere w0 q s n .expr 93
 cond:NR nx pl ere w0 q s n .cond 113
 or:NR nx pl ere w0 q s n .or 152
 and:NR nx pl ere w0 q s n .and 193
 inn:NR nx pl ere w0 q s n .inn 240
 mat:NR nx pl ere w0 q s n .mat 258
 cmp:NR nx pl ere w0 q s n .cmp 266
 cat:NR nx pl ere w0 q s n .cat 276
 sum:NR nx pl ere w0 q s n .sum 282
 prod:NR nx pl ere w0 q s n .prod 290
 unary:NR nx pl ere w0 q s n .unary 293
 power:NR nx pl ere w0 q s n .power 295
 post:NR nx pl ere w0 q s n .post 297
 primary:NR nx pl ere w0 q s n .primary 299
 lval:NR nx pl ere w0 q s n .lval 301
 operand:NR nx pl ere w0 q s n .operand 302
 dollar:NR nx pl ere w0 q s n .dollar 306
 round:NR nx pl ere w0 q s n .round 143
 list:LR nx pl ere w0 q s n
 inside:IR nx pl ere w0 q s n
 outs:UR nx pl ere w0 q s n
 call:CR nx pl ere w0 q s n
theorem AhD {nx:Nat->Bool->Tk} {pl:Nat->Nat×Nat} {ere:List UInt8->Option Bool} {d:World} {q:Nat} {s:ByteArray} (a:RxC nx s d) (b:RlC pl s) (c:∀x,ere x=none):∀n m,m<=n->AiF nx pl ere d q s m
 | 0,m,hm=>by
   obtain rfl:m=0:=by omega
   exact⟨fun _ _ _ h=>absurd rfl h,fun _ _ _ h=>absurd rfl h,fun _ _ _ h=>absurd rfl h,fun _ _ _ h=>absurd rfl h,fun _ _ _ h=>absurd rfl h,fun _ _ _ h=>absurd rfl h,fun _ _ _ h=>absurd rfl h,fun _ _ _ h=>absurd rfl h,fun _ _ _ h=>absurd rfl h,
    fun _ _ _ h=>absurd rfl h,fun _ _ _ h=>absurd rfl h,fun _ _ _ h=>absurd rfl h,fun _ _ _ h=>absurd rfl h,fun _ _ _ h=>absurd rfl h,fun _ _ _ h=>absurd rfl h,fun _ _ _ h=>absurd rfl h,fun _ _ _ h=>absurd rfl h,fun _ _ _ h=>absurd rfl h,
    fun _ _ _ _ h=>absurd rfl h,fun _ _ _ _ h=>absurd rfl h,fun _ _ _ h=>absurd rfl h,fun _ _ _ _ _ _ h=>absurd rfl h⟩
 | n+1,m,hm=>by
   have I:=AhD (q:=q) a b c n;by_cases h:m<=n
   ·exact I m h
   obtain rfl:m=n+1:=(by omega);have E:=I n (aC _)
   exact⟨AeL a b n E.cond E.expr,AeK a b n E.or E.expr,AgA a b n fun m h=>(I m h).and,AfK a b n fun m h=>(I m h).inn,Agx a b n fun m h=>(I m h).mat,Aen a b n fun m h=>(I m h).cmp,
    Adq a b n E.cat,AfM a b n fun m h=>(I m h).sum,AfS a b n fun m h=>(I m h).prod,AeR a b n fun m h=>(I m h).unary,Aes a b n E.power E.unary,Aep a b n E.post E.unary,AeQ a b n E.primary,
    Ads a b n E.lval E.operand fun m h=>(I m h).expr,AeO a b n E.operand,Adr a b n E.inside E.call E.dollar c,AdY a b n E.lval E.operand E.round,Aeq a b n E.expr,
    AeN a b n fun m h=>(I m h).expr,Ad0 a b n E.list,AeP a b n E.list,AeJ a b n fun m h=>(I m h).list⟩
set_option linter.unusedSimpArgs false
def NoW (nx:Nat->Bool->Tk):Prop:=∀a x,x∈[[105,102],[119,104,105,108,101],[100,111],[102,111,114],[98,114,101,97,107],[99,111,110,116,105,110,117,101],[110,101,120,116],[101,120,105,116],[114,101,116,117,114,110],[100,101,108,101,116,101],[112,114,105,110,116],[112,114,105,110,116,102],[66,69,71,73,78],[69,78,68],[71,65,80],[69,86,69,82,89],[102,117,110,99,116,105,111,110]]->AbN x (nx a false)=false
section
variable {nx:Nat->Bool->Tk} {pl:Nat->Nat×Nat} {ere:List UInt8->Option Bool} {S:Nat} {n:Nat} {p s:Rs}
theorem Ae9 (H:NoW nx) (x:List UInt8) (b:x∈[[105,102],[119,104,105,108,101],[100,111],[102,111,114],[98,114,101,97,107],[99,111,110,116,105,110,117,101],[110,101,120,116],[101,120,105,116],[114,101,116,117,114,110],[100,101,108,101,116,101],[112,114,105,110,116],[112,114,105,110,116,102],[66,69,71,73,78],[69,78,68],[71,65,80],[69,86,69,82,89],[102,117,110,99,116,105,111,110]]) (p:Rs):isR nx x p = .ok false p:=by
 unfold isR;rw[H p.a x b];simp
theorem AbI (H:NoW nx) (x:List UInt8) (a:x∈[[105,102],[119,104,105,108,101],[100,111],[102,111,114],[98,114,101,97,107],[99,111,110,116,105,110,117,101],[110,101,120,116],[101,120,105,116],[114,101,116,117,114,110],[100,101,108,101,116,101],[112,114,105,110,116],[112,114,105,110,116,102],[66,69,71,73,78],[69,78,68],[71,65,80],[69,86,69,82,89],[102,117,110,99,116,105,111,110]]) (p:Rs):takeR nx pl x p = .ok false p:=by
 unfold takeR;rw[Ae9 H x a];rfl
theorem Afk (H:NoW nx) (n:Nat) (p:Rs):Aaq nx pl ere (n+1) .stmt p=(Abo nx pl true p).bind fun _ s=>(isR nx [123] s).bind fun b s=>if b=true then Aaq nx pl ere n .block s else (Aaq nx pl ere n .simple s).bind fun l s=>(Acf nx pl s).bind fun _ s => .ok l s:=by
 have T:∀x s,x∈[[105,102],[119,104,105,108,101],[100,111],[102,111,114]]->takeR nx pl x s = .ok false s:=fun x s a=>AbI H x (by simp only[aI,aD,or_false] at a ⊢;rcases a with h | h | h | h<;>simp[h]) s;simp only[Aaq,T [105,102] _ (by decide),T [119,104,105,108,101] _ (by decide),T [100,111] _ (by decide),T [102,111,114] _ (by decide),RO.bind,Bool.false_eq_true,if_false]
theorem AdK (H:NoW nx) (n:Nat) (p:Rs):Aaq nx pl ere (n+1) .simple p=(Abo nx pl true p).bind fun _ s=>(B0 nx pl ere n .expr s).bind fun l s => .ok [.mk 44 [] 0 (hd1 l).z l] s:=by
 simp only[Aaq,AbI H [98,114,101,97,107] (by decide),AbI H [99,111,110,116,105,110,117,101] (by decide),AbI H [110,101,120,116] (by decide),AbI H [101,120,105,116] (by decide),AbI H [114,101,116,117,114,110] (by decide),AbI H [100,101,108,101,116,101] (by decide),AbI H [112,114,105,110,116] (by decide),AbI H [112,114,105,110,116,102] (by decide),RO.bind,Bool.false_eq_true,if_false]
theorem Aiu (A:Ack nx S) (s:Rs) (h:s.a<=S):MR S s.a s.e False (Acf nx pl s):=by
 have b:=St.start h;unfold Acf;refine AeG A _ _ h fun m f j k=>?_;replace b:=b.same f j;split
 ·exact MR.ok b
 rename_i c
 have l:m.e=0:=Decidable.not_not.1 fun d=>c (.inl d);obtain⟨g,i,-⟩:=k l;simp only[isR,RO.bind];split
 ·exact MR.ok b
 split
 ·exact MR.ok (b.adv _ (by rw[f];exact g) i)
 exact MR.ok (b.wrong _)
theorem AgJ (A:Ack nx S) (x:List UInt8) (s:Rs) (h:s.a<=S):MR S s.a s.e True (wantR nx pl x s):=by
 have i:=St.start h;unfold wantR;split
 ·obtain⟨f,k⟩:=Adj (pl:=pl) A x s h
  cases e:takeR nx pl x s with
  | hush=>trivial
  | ok b s1 =>
    rw[e] at f
    cases b with
    | true=>exact⟨f.l,f.r,fun j=>⟨(f.c j).1,fun _=>k _ e⟩⟩
    | false =>
      have d:=i.trans f;show MR S s.a s.e True ((AbG nx pl false s1).bind fun t s=>if s.e=0 then .ok () (Abj pl t s) else .ok () s);refine MR.bind (Afa _ _ d.r) fun _ s g=>?_;replace d:=d.trans g;split
      ·exact MR.ok (d.wrong _)
      exact MR.ok (d.fail (by assumption))
 exact MR.ok (i.fail (by assumption))
def stQ:RS->Prop
 | .blockL _ _=>False | _=>True
def AiN:RS->Prop
 | .stmt=>True | .simple=>True | .block=>True | .blockL _ _=>True | _=>False
theorem AdW (H:NoW nx) (A:Ack nx S):∀(n:Nat) (k:RS) (s:Rs),AiN k->s.a<=S->MR S s.a s.e (stQ k) (Aaq nx pl ere n k s)
 | 0,_,_,_,_=>trivial
 | n+1,k,s,hk,h=>by
   have c:=AdW H A n;have b:=St.start (S:=S) h
   cases k with
   | stmt =>
     rw[Afk H];refine MR.bind (Acx _ _ b.r) fun _ s g=>?_;replace b:=b.trans g;clear g;refine MR.bind (AeF _ _ b.r) fun _ s g=>?_;replace b:=b.trans g;clear g;split
     ·exact MR.tail b (c .block _ trivial b.r) (by simp[stQ])
     refine MR.bind (c .simple _ trivial b.r) fun _ s g=>?_;replace b:=b.trans g;clear g;refine MR.bind (Aiu A _ b.r) fun _ s g=>?_;replace b:=b.trans g;exact MR.ok (b.weak (by simp[stQ]))
   | simple =>
     rw[AdK H];refine MR.bind (Acx _ _ b.r) fun _ s g=>?_;replace b:=b.trans g;clear g;refine MR.bind (AeH A n .expr _ trivial b.r) fun _ s g=>?_;replace b:=b.trans g;exact MR.ok (b.weak (by simp[stQ,stR]))
   | block =>
     simp only[Aaq];refine MR.bind (Acx _ _ b.r) fun _ s g=>?_;replace b:=b.trans g;clear g;refine MR.bind (AgJ A _ _ b.r) fun _ s g=>?_;replace b:=b.trans g;clear g;refine MR.bind (Ab0 A _ _ _ b.r) fun _ s g=>?_;replace b:=b.trans g;clear g;exact MR.tail b (c (.blockL _ _) _ trivial b.r) (by simp[stQ])
   | blockL z l =>
     simp only[Aaq];split
     ·refine MR.bind (AeF _ _ b.r) fun _ s g=>?_
      replace b:=b.trans g;clear g;split
      ·refine MR.bind (AbW A _ _ b.r) fun _ s g=>?_
       replace b:=b.trans g;exact MR.ok (b.weak (by simp[stQ]))
      refine MR.bind (c .stmt _ trivial b.r) fun _ s g=>?_;replace b:=b.trans g;clear g;refine MR.bind (Ab0 A _ _ _ b.r) fun _ s g=>?_;replace b:=b.trans g;clear g;exact MR.tail b (c (.blockL _ _) _ trivial b.r) (by simp[stQ])
     refine MR.bind (AbW A _ _ b.r) fun _ s g=>?_;replace b:=b.trans g;exact MR.ok (b.weak (by simp[stQ]))
   | body=>exact hk.elim
   | loop z=>exact hk.elim
end
open Go.Proofs.Tryz
open Go.RowKit
def Yr (l:List UInt8) (i:Nat):Tk :=
 if AF 34 l (i+1)<0 then ⟨0,[],0,i,0,21⟩
 else match FN (Bc l (i+1) (AF 34 l (i+1)).toNat) with
  | none=>⟨0,[],0,i,0,22⟩
  | some x=>⟨3,x,0,i,(AF 34 l (i+1)).toNat+1,0⟩
def Xx (l:List UInt8) (i:Nat):Tk :=
 if AF 47 l (i+1)<0 then ⟨0,[],0,i,0,21⟩ else ⟨4,Df (Bc l (i+1) (AF 47 l (i+1)).toNat),0,i,(AF 47 l (i+1)).toNat+1,0⟩
def Sc (l:List UInt8) (b:Bool) (a:Tk) (k:Nat):Tk :=
 match l.drop k with
 | []=>⟨0,[],0,k,k,0⟩
 | c::r =>
   if c=10 then ⟨1,[],0,k,k+1,0⟩
   else if Aj c=true\/(c=46/\(r.head?.map Aj)=some true) then a
   else if AbH c=true then ⟨A6 l k,Bc l k (Co l k),0,k,Co l k,0⟩
   else if c=34 then Yr l k
   else if c=47/\b=true then Xx l k
   else if 0<B6 (c::r) then ⟨9,Bc l k (k+B6 (c::r)),0,k,k+B6 (c::r),0⟩
   else ⟨0,[],0,k,0,20⟩
def YU (t:Tk):Value:=.tuple #[G1 t,.int .i64 t.e]
theorem ZN (l:List UInt8) (i:Nat):C7 l i=YU (Yr l i):=by
 unfold C7 Yr;dsimp only;by_cases h:AF 34 l (i+1)<0
 ·rw[if_pos h,if_pos h];rfl
 rw[if_neg h,if_neg h]
 cases FN (Bc l (i+1) (AF 34 l (i+1)).toNat) with
 | none=>rfl
 | some x=>unfold YU G1 Ap;dsimp only;rw[show (((AF 34 l (i+1)).toNat+1:Nat):Int)=AF 34 l (i+1)+1 by omega]
theorem Zg (l:List UInt8) (i:Nat):Cr l i=YU (Xx l i):=by
 unfold Cr Xx;dsimp only;by_cases h:AF 47 l (i+1)<0
 ·rw[if_pos h,if_pos h];rfl
 rw[if_neg h,if_neg h];unfold YU G1 Ap;dsimp only;rw[show (((AF 47 l (i+1)).toNat+1:Nat):Int)=AF 47 l (i+1)+1 by omega]
theorem Yn (l:List UInt8) (b:Bool) (a:Tk) (k:Nat):AJ l b (YU a) k=YU (Sc l b a k):=by
 unfold AJ Sc
 cases l.drop k with
 | nil=>rfl
 | cons c r =>
   dsimp only;split;rfl;split;rfl;split;rfl;split;exact ZN l k;split;exact Zg l k;split;rfl;rfl
theorem Rt:∀(f:Nat) (l x:List UInt8),KO f l=some x->x.length<=l.length
 | 0,_,_,h=>nomatch h
 | f+1,[],x,h=>by cases h;exact aC _
 | f+1,c::r,x,h=>by
   unfold KO at h;split at h
   ·obtain⟨y,a,rfl⟩:=Option.map_eq_some_iff.1 h
    have:=Rt f _ _ a;simp only[aE];omega
   split at h
   ·cases h
   obtain⟨y,a,rfl⟩:=Option.map_eq_some_iff.1 h;have:=Rt f _ _ a;rw[aA] at this;simp only[aE];omega
theorem TF:∀l:List UInt8,(Df l).length<=l.length
 | []=>aC _
 | [c]=>by unfold Df;split<;>simp
 | c::d::r=>by
   have b:=TF r;have a:=TF (d::r);unfold Df;split
   ·split<;>simp<;>omega
   simp only[aE] at a ⊢;omega
theorem NX (l:List UInt8) (a b:Nat):(Bc l a b).length<=l.length:=by unfold Bc;rw[List.length_take,aA];omega
theorem YE (l:List UInt8) (d:Bool) (b:Tk) (k:Nat) (c:CV l k->b.tx.length<=l.length):(Sc l d b k).tx.length<=l.length:=by
 unfold Sc;by_cases a:k<l.length
 ·rw[Aq l k a]
  dsimp only;split;simp;split
  ·rename_i h;exact c (Ft l k a h)
  split;exact NX _ _ _;split
  ·unfold Yr
   split;simp
   cases e:FN (Bc l (k+1) (AF 34 l (k+1)).toNat) with
   | none=>simp
   | some x=>exact aG (Rt _ _ _ e) (NX _ _ _)
  split
  ·unfold Xx
   split;simp;exact aG (TF _) (NX _ _ _)
  split;exact NX _ _ _;simp
 rw[aH (by omega)];simp
theorem Zz {l:List UInt8} {k:Nat} {t:Tk} (h:KE l k (YU t)) (q:t.e=0):k<=t.f/\t.f<=t.t/\t.t<=l.length/\(t.kd≠0->k<t.t):=by
 obtain⟨kd,u,nm,f,m,e,a,n,d⟩:=h;unfold YU G1 Ap at a;simp only[Value.tuple.injEq,Array.mk.injEq,List.cons.injEq,Value.agg.injEq,Value.int.injEq,true_and,and_true] at a;obtain⟨⟨b,-,-,r,s⟩,g⟩:=a;have i:t.f=f:=(by omega);have j:t.t=m:=(by omega);rcases d with⟨h,-⟩ | ⟨-,c,rfl,rfl⟩ | ⟨-,c,o,p⟩
 ·omega
 ·exact⟨by omega,by omega,by omega,fun h=>absurd (b.trans c) h⟩
 exact⟨by omega,by omega,by omega,fun _=>by omega⟩
def X8 (l:List UInt8) (b:Nat->Tk) (a:Nat) (c:Bool):Tk:=Sc l c (b (Abd l a)) (Abd l a)
theorem Z3 (s:ByteArray) (x:s.size<=4096) (b:Nat->Tk) (i:World) (g:∀k,CV s.data.toList k->KE s.data.toList k (YU (b k))/\(b k).tx.length<=s.size /\
  ∀W,Below i.heap.size i W->Calls prog 124 #[.string s,.int .i64 k] W fun e v=>e = .returned (YU (b k))/\Below W.heap.size W v):F2 (X8 s.data.toList b) s i:=by
 have w:s.data.toList.length=s.size:=rfl;refine⟨fun a d W ha l=>?_,fun a d ha u=>?_⟩
 ·have h:=Fs s a d W (YU (b (Abd s.data.toList a))) _ _ _ _ _ _ rfl (by omega) ha fun c m t=>(g _ c).2.2 m (l.trans (t.mono l.size))
  rw[Yn] at h;exact h
 have f:a<=Abd s.data.toList a/\Abd s.data.toList a<=s.data.toList.length:=by
  unfold Abd;have:=FC _ false (s.data.toList.drop a) (aC _);rw[aA] at this;omega
 have j:=Mi s.data.toList d (YU (b (Abd s.data.toList a))) _ f.2 fun c=>(g _ c).1;rw[Yn] at j;obtain⟨n,o,p,q⟩:=Zz j u;have r:=YE s.data.toList d (b (Abd s.data.toList a)) _ fun c=>(g _ c).2.1;exact⟨aG f.1 n,o,p,r,fun h=>aK f.1 (q h)⟩
theorem Adc (l:List UInt8) (b:Bool) (a:Tk) (k:Nat) (i:(47:UInt8)∉l) :
  (Sc l b a k).kd=0\/(Sc l b a k).kd=1\/(Sc l b a k).kd=3\/(CV l k/\Sc l b a k=a) \/
    (∃c r,l.drop k=c::r/\AbH c=true/\(Sc l b a k).kd=A6 l k/\(Sc l b a k).tx=Bc l k (Co l k)) \/
    (∃c r,l.drop k=c::r/\AbH c=false/\(Sc l b a k).kd=9/\(Sc l b a k).tx=Bc l k (k+B6 (c::r))/\0<B6 (c::r)):=by
 unfold Sc
 cases e:l.drop k with
 | nil=>exact .inl rfl
 | cons c r =>
   dsimp only
   have o:k<l.length:=by
    by_cases h:k<l.length
    ·exact h
    rw[aH (by omega)] at e;cases e
   by_cases m:c=10
   ·rw[if_pos m];exact .inr (.inl rfl)
   rw[if_neg m];by_cases g:Aj c=true\/(c=46/\(r.head?.map Aj)=some true)
   ·rw[if_pos g]
    refine .inr (.inr (.inr (.inl ⟨?_,rfl⟩)));rw[Aq l k o] at e;injection e with p q;exact Ft l k o (by rw[p,q];exact g)
   rw[if_neg g];by_cases f:AbH c=true
   ·rw[if_pos f];exact .inr (.inr (.inr (.inr (.inl ⟨c,r,rfl,f,rfl,rfl⟩))))
   rw[if_neg f];by_cases n:c=34
   ·rw[if_pos n]
    unfold Yr;split
    ·exact .inl rfl
    split
    ·exact .inl rfl
    exact .inr (.inr (.inl rfl))
   rw[if_neg n]
   have s:¬ (c=47/\b=true):=fun d=>i (by
    have:c∈l.drop k:=by rw[e];exact .head _
    rw[<- d.1];exact aB this)
   rw[if_neg s];by_cases j:0<B6 (c::r)
   ·rw[if_pos j];exact .inr (.inr (.inr (.inr (.inr ⟨c,r,rfl,by cases t:AbH c;rfl;exact absurd t f,rfl,rfl,j⟩))))
   rw[if_neg j];exact .inl rfl
theorem AdU (l:List UInt8) (k:Nat):A6 l k=8\/A6 l k=7\/A6 l k=6\/A6 l k=5:=by
 unfold A6;split
 ·exact .inl rfl
 split
 ·exact .inr (.inl rfl)
 split
 ·exact .inr (.inr (.inl rfl))
 exact .inr (.inr (.inr rfl))
theorem AfX (l:List UInt8) (k:Nat) (c:UInt8) (r:List UInt8) (e:l.drop k=c::r) (a:AbH c=true):(Bc l k (Co l k)).head?=some c:=by
 unfold Bc Co;rw[e];have:BI c=true:=by unfold BI;rw[a];rfl
 unfold Al;simp[this]
theorem AdJ (l:List UInt8) (k n:Nat) (c:UInt8) (r:List UInt8) (e:l.drop k=c::r) (a:0<n):(Bc l k (k+n)).head?=some c:=by
 unfold Bc;rw[e,show k+n-k=n by omega];obtain⟨m,rfl⟩:∃m,n=m+1:=⟨n-1,by omega⟩;rfl
theorem AdV {l:List UInt8} {a b:Nat} {x:UInt8} (h:x∈Bc l a b):x∈l:=by
 unfold Bc at h;exact aB (List.mem_of_mem_take h)
def AhH (l:List UInt8) (a:Nat->Tk):Prop:=∀k,CV l k->(a k).kd=0\/(a k).kd=2
theorem Adk (l:List UInt8) (b:Nat->Tk) (j:(47:UInt8)∉l) (n:AhH l b) (a:Nat) (d:Bool) :
  ((X8 l b a d).kd=0\/(X8 l b a d).kd=1\/(X8 l b a d).kd=2\/(X8 l b a d).kd=3) \/
    (∃c,AbH c=true/\(X8 l b a d).kd=A6 l (Abd l a)/\(X8 l b a d).tx=Bc l (Abd l a) (Co l (Abd l a))/\(X8 l b a d).tx.head?=some c) \/
    (∃c,AbH c=false/\(X8 l b a d).kd=9/\(X8 l b a d).tx.head?=some c/\∀x∈(X8 l b a d).tx,x∈l):=by
 unfold X8;rcases Adc l d (b (Abd l a)) (Abd l a) j with h | h | h | ⟨h,e⟩ | ⟨c,r,h,g,i,f⟩ | ⟨c,r,h,g,i,f,m⟩
 ·exact .inl (.inl h)
 ·exact .inl (.inr (.inl h))
 ·exact .inl (.inr (.inr (.inr h)))
 ·rw[e];rcases n _ h with h | h;exact .inl (.inl h);exact .inl (.inr (.inr (.inl h)))
 ·exact .inr (.inl ⟨c,g,i,f,by rw[f];exact AfX l _ c r h g⟩)
 exact .inr (.inr ⟨c,g,i,by rw[f];exact AdJ l _ _ c r h m,fun x k=>AdV (by rw[f] at k;exact k)⟩)
theorem Afd (l:List UInt8) (f:Tk) (k:Nat) (a:(47:UInt8)∉l):Sc l true f k=Sc l false f k:=by
 unfold Sc
 cases e:l.drop k with
 | nil=>rfl
 | cons c r =>
   have b:∀g:Bool,¬ (c=47/\g=true):=fun g d=>a (by
    have:c∈l.drop k:=by rw[e];exact .head _
    rw[<- d.1];exact aB this)
   dsimp only;rw[if_neg (b true),if_neg (b false)]
theorem Ahz (l:List UInt8) (o:Nat->Tk) (i:(47:UInt8)∉l) (r:(62:UInt8)∉l) (u:AhH l o):Abi (X8 l o):=by
 have W:=Adk l o i u;have K:∀k,A6 l k≠9/\A6 l k≠4:=fun k=>by rcases AdU l k with h | h | h | h<;>rw[h]<;>decide
 refine⟨fun a j e=>?_,fun a q e=>?_,fun a=>Afd l _ _ i,fun a=>?_,fun a p=>?_,fun a x j e n=>?_,fun a x t e n=>?_⟩
 ·rcases W a false with h | ⟨c,d,-,-,f⟩ | ⟨c,-,h,-⟩
  ·rw[j] at h;exact absurd h (by decide)
  ·rw[e] at f;injection f with f;rw[<- f] at d;exact absurd d (by decide)
  rw[j] at h;exact absurd h (by decide)
 ·rcases W a false with h | ⟨c,d,b,s,f⟩ | ⟨c,-,h,-⟩
  ·rw[q] at h;exact absurd h (by decide)
  ·rw[q] at b
   rw[e] at s;unfold A6 at b;rw[<- s] at b;rw[show Dj [108,101,110,103,116,104]=false from rfl,show AbT [108,101,110,103,116,104]=true from rfl,if_neg (by decide),if_pos rfl] at b;exact absurd b (by decide)
  rw[q] at h;exact absurd h (by decide)
 ·cases m:isS (X8 l o a false) [62] with
  | false=>rfl
  | true =>
    unfold isS at m;simp only[Bool.and_eq_true,decide_eq_true_eq] at m;rcases W a false with h | ⟨c,d,b,-⟩ | ⟨c,-,-,-,h⟩
    ·rw[m.1] at h;exact absurd h (by decide)
    ·rw[m.1] at b;exact absurd b.symm (K _).1
    exact absurd (h 62 (by rw[m.2];exact .head _)) r
 ·rcases W a false with h | ⟨c,d,b,-⟩ | ⟨c,-,h,-⟩
  ·rw[p] at h;exact absurd h (by decide)
  ·rw[p] at b;exact absurd b.symm (K _).2
  rw[p] at h;exact absurd h (by decide)
 ·rcases W a false with h | ⟨c,d,-,-,f⟩ | ⟨c,-,h,-⟩
  ·rw[j] at h;exact absurd h (by decide)
  ·have g:x.head?.map AbH=some true:=by rw[<- e,f];simp[d]
   simp only[aI,aD,or_false] at n;rcases n with rfl | rfl | rfl | rfl | rfl | rfl | rfl | rfl | rfl<;>exact absurd g (by decide)
  rw[j] at h;exact absurd h (by decide)
 rcases W a false with h | ⟨c,d,b,-⟩ | ⟨c,d,-,f,-⟩
 ·rw[t] at h;exact absurd h (by decide)
 ·rw[t] at b;exact absurd b.symm (K _).1
 have g:x.head?.map AbH=some false:=by rw[<- e,f];simp[d]
 simp only[aI,aD,or_false] at n;rcases n with rfl | rfl | rfl | rfl | rfl | rfl | rfl | rfl | rfl | rfl | rfl | rfl | rfl | rfl | rfl | rfl | rfl | rfl | rfl<;>exact absurd g (by decide)
theorem Agq {l:List UInt8} {k:Nat} {t:Tk} (h:KE l k (YU t)):t.f<=l.length/\t.t<=l.length:=by
 obtain⟨kd,r,nm,f,n,e,a,o,b⟩:=h;unfold YU G1 Ap at a;simp only[Value.tuple.injEq,Array.mk.injEq,List.cons.injEq,Value.agg.injEq,Value.int.injEq,true_and,and_true] at a;obtain⟨⟨j,-,-,p,q⟩,g⟩:=a;have i:t.f=f:=(by omega);have m:t.t=n:=(by omega);rcases b with⟨-,c,d,-⟩ | ⟨-,-,rfl,rfl⟩ | ⟨-,-,c,d⟩<;>omega
def AiJ (s:ByteArray) (a:Nat->Tk) (b:World) (k:Nat):Prop:=KE s.data.toList k (YU (a k))/\(a k).tx.length<=s.size /\
 ∃x,x<18446744073709551616/\(FloatKind.f64.format.order x 9218868437227405311==some .gt)=KW x/\YU (a k)=F_ x (Bc s.data.toList k (k+An (s.data.toList.drop k))) (k:Nat) (k+An (s.data.toList.drop k):Nat) /\
  ∀W,Below b.heap.size b W->Calls prog 84 #[.string (s.extract k (k+An (s.data.toList.drop k))),.int .i64 64] W fun e c=>∃v,e = .returned (.tuple #[.float .f64 x,v])/\Below W.heap.size W c
theorem Aid (s:ByteArray) (B:s.size<=4096) (c:Nat->Tk) (m:World) (f:∀k,CV s.data.toList k->AiJ s c m k):RxC (X8 s.data.toList c) s m:=by
 have A:s.data.toList.length=s.size:=rfl
 have g:∀a,a<=s.size->a<=Abd s.data.toList a/\Abd s.data.toList a<=s.data.toList.length:=fun a ha=>by
  unfold Abd;have:=FC _ false (s.data.toList.drop a) (aC _);rw[aA] at this;omega
 have i:∀a b,a<=s.size->KE s.data.toList (Abd s.data.toList a) (YU (X8 s.data.toList c a b)):=fun a b ha=>by
  have e:=Mi s.data.toList b (YU (c (Abd s.data.toList a))) _ (g a ha).2 fun d=>(f _ d).1;rw[Yn] at e;exact e
 refine⟨fun a b W ha j=>?_,fun a b ha=>Agq (i a b ha),fun a b ha y=>?_⟩
 ·have h:=Kq s a b W (YU (c (Abd s.data.toList a))) (by omega) ha fun d=>by
   obtain⟨x,e,t,u,v⟩:=(f _ d).2.2;exact⟨x,e,t,u,fun n w=>v n (j.trans (w.mono j.size))⟩
  rw[Yn] at h;exact h
 have l:=g a ha;obtain⟨o,p,z,q⟩:=Zz (i a b ha) y;have r:=YE s.data.toList b (c (Abd s.data.toList a)) _ fun d=>(f _ d).2.1;exact⟨aG l.1 o,p,r,fun h=>aK l.1 (q h)⟩
end Go.Proofs.YtfblenhlildnaaaGreatDoor
