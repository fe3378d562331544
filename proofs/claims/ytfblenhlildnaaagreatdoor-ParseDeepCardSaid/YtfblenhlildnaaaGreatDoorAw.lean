/- Aw Ia Ib Ic Id Du Dy Dz Aa -/
import Derived.Test.YtfblenhlildnaaaGreatDoorCk
import Derived.Test.YtfblenhlildnaaaGreatDoorDp
import Derived.Test.YtfblenhlildnaaaGreatDoorCa
import Derived.Test.YtfblenhlildnaaaGreatDoorLk
import Derived.Test.YtfblenhlildnaaaGreatDoorZr
import Derived.Test.YtfblenhlildnaaaGreatDoorCf
import Derived.Test.YtfblenhlildnaaaGreatDoorDw
import Derived.Test.YtfblenhlildnaaaGreatDoorLv
set_option maxRecDepth 100000
set_option maxHeartbeats 4000000
open Bool renaming false_eq_true->aA,and_eq_true->aB
open Int renaming tmod_lt_of_pos->aC,lt_tmod_of_pos->aD
namespace Go.Proofs.YtfblenhlildnaaaGreatDoor
set_option linter.unusedSimpArgs false
structure EV (nx:Nat->Bool->Tk) (pl:Nat->Nat×Nat) (ere:List UInt8->Option Bool) (n:Nat):Prop where
 stmt:∀(p:Ps) (s:Rs),Re p s->Abg nx pl s.g (Abh nx pl ere n .stmt p) (fun m=>Aaq nx pl ere m .stmt s)
 simple:∀(p:Ps) (s:Rs),Re p s->Abg nx pl s.g (Abh nx pl ere n .simple p) (fun m=>Aaq nx pl ere m .simple s)
 block:∀(p:Ps) (s:Rs),Re p s->Abg nx pl s.g (Abh nx pl ere n .block p) (fun m=>Aaq nx pl ere m .block s)
 blockL:∀(z:Nat×Nat) (l:List Tr) (p:Ps) (s:Rs),Re p s->Abg nx pl s.g (Abh nx pl ere n (.blockL z l) p) (fun m=>(linesR nx [59] m s).bind fun _ s=>Aaq nx pl ere m (.blockL z l) s)
 body:∀(p:Ps) (s:Rs),Re p s->Abg nx pl s.g (Abh nx pl ere n .body p) (fun m=>Aaq nx pl ere m .body s)
 many:∀(p:Ps) (s:Rs),Re p s->Abg nx pl s.g (Abh nx pl ere n .many p) (fun m=>B0 nx pl ere m .outs s)
section
variable {nx:Nat->Bool->Tk} {pl:Nat->Nat×Nat} {ere:List UInt8->Option Bool} {p:Ps} {s:Rs} {n:Nat} {f:Nat} {e:Int}
theorem Ab6 (h:Abe nx pl f e s) (x:List UInt8):DD nx pl f e (fun m=>linesR nx x m s):=⟨_,_,h,h.lines x⟩
theorem AcA (b:∀a,nx a true=nx a false) (h:Abe nx pl f e s) (x:List UInt8):DD nx pl f e (fun _=>wantR nx pl x s):=by
 obtain⟨r,c,d⟩:=h.wantR b x;exact DD.const c d
theorem AcY (b:∀a,nx a true=nx a false) (h:Abe nx pl f e s):DD nx pl f e (fun _=>Acf nx pl s):=by
 obtain⟨r,c,d⟩:=Adw b h;exact DD.const c d
theorem AgO (h:Abe nx pl f e s):DD nx pl f e (fun m=>AcO nx pl m s):=by
 refine⟨false,s,h,?_⟩;unfold AcO;by_cases a:s.e=0
 ·simp only[a,ne_eq,not_true_eq_false,if_false]
  refine Ev.bind (h.lines []) ?_;simp only[h.isR,h.takeR,RO.bind,aA,if_false];exact Ev.const _
 simp only[a,ne_eq,not_false_eq_true,if_true];exact Ev.const _
theorem Af6 {a:Type} {F:Nat->RO a} (h:FD pl f e F):DD nx pl f e F:=h.dd
theorem Re.takeW (H:Abi nx) (h:Re p s) (x:List UInt8) (b:(nx p.a false).e=0) (f:x∈[[105,110],[105,102],[119,104,105,108,101],[100,111],[102,111,114],[101,108,115,101],[98,114,101,97,107],[99,111,110,116,105,110,117,101],[110,101,120,116],[101,120,105,116],[114,101,116,117,114,110],[100,101,108,101,116,101],[112,114,105,110,116],[112,114,105,110,116,102],[66,69,71,73,78],[69,78,68],[71,65,80],[69,86,69,82,89],[102,117,110,99,116,105,111,110]]) (d:ZT x=false) (c:ZV x=false) :
  takeR nx pl x s=if XI (nx p.a false) x=true then .ok true { s with a:=(nx p.a false).t } else .ok false s:=by
 rw[h.takeP x b d c,AbV H _ _ f]
theorem Af_ (H:Abi nx) (E:EV nx pl ere n) (p:Ps) (s:Rs) (h:Re p s):Abg nx pl s.g (Abh nx pl ere (n+1) .block p) (fun m=>Aaq nx pl ere m .block s):=by
 refine Rel.succ ?_;simp only[Aaq,Abh,Abo,RO.bind];have w:pl (nx s.a false).f=pl (nx p.a false).f:=(by rw[h.a]);rw[w];have i:=h.want (pl:=pl) H [123] (by decide);have c:∀f e r,Abe nx pl f e r->DD nx pl f e (fun m=>(linesR nx [59] m r).bind fun _ s=>Aaq nx pl ere m (.blockL (pl (nx p.a false).f) []) s):=fun f e r d=>DD.bind (Ab6 d [59]) fun _ s d=>Af6 (AcI H.op _ _ s d);show Abg nx pl s.g ((Abb nx pl [123] p).bind fun z p=>Abh nx pl ere n (.blockL z []) p) (fun m=>(wantR nx pl [123] s).bind fun _ s=>(linesR nx [59] m s).bind fun _ s=>Aaq nx pl ere m (.blockL (pl (nx p.a false).f) []) s)
 cases b:Abb nx pl [123] p with
 | hush=>trivial
 | bad f e=>rw[b] at i;exact DD.bind i fun _ r d=>c f e r d
 | ok z q =>
   have k:z=pl (nx p.a false).f:=by
    unfold Abb Eb at b;by_cases l:(nx p.a false).e=0
    ·rw[if_pos l] at b
     simp only[Hf.bind] at b;by_cases t:isS (nx p.a false) [123]=true
     ·rw[if_pos t,if_pos (show ZT [123]=true from rfl)] at b
      by_cases o:40<p.deep+1
      ·rw[if_pos o] at b;cases b
      rw[if_neg o] at b;injection b with b _;exact b.symm
     rw[if_neg t] at b;unfold JF at b;cases b
    rw[if_neg l] at b;cases b
   subst k;rw[b] at i;obtain⟨_,r,-,v,u,N,j⟩:=i;have j:=j N (Nat.le_refl _);simp only[j,RO.bind,Hf.bind];exact u▸E.blockL _ [] q r v
theorem Aft (H:Abi nx) (E:EV nx pl ere n) (z:Nat×Nat) (l:List Tr) (p:Ps) (s:Rs) (h:Re p s) :
  Abg nx pl s.g (Abh nx pl ere (n+1) (.blockL z l) p) (fun m=>(linesR nx [59] m s).bind fun _ s=>Aaq nx pl ere m (.blockL z l) s):=by
 simp only[Abh];have w:=h.gaps (pl:=pl) H true n;have i:∀f e r,Abe nx pl f e r->DD nx pl f e (fun m=>Aaq nx pl ere m (.blockL z l) r):=fun f e r d=>Af6 (AcI H.op _ _ r d)
 cases A:LB nx true n p with
 | hush=>trivial
 | bad f e=>rw[A] at w;exact DD.bind w fun _ r d=>i f e r d
 | ok t q =>
   obtain⟨K,D⟩:=AcC H true n p t q A;rw[A] at w;obtain⟨_,r,-,k,v,C⟩:=w;subst K;show Abg nx pl s.g (if isS (nx q.a false) [125]=true then _ else _) _
   have j:Abg nx pl r.g (if isS (nx q.a false) [125]=true then (Abb nx pl [125] q).bind fun _ p => .ok [.mk 30 [] 0 z l] p else (Abh nx pl ere n .stmt q).bind fun x p=>Abh nx pl ere n (.blockL z (l++x)) p) (fun m=>Aaq nx pl ere m (.blockL z l) r):=by
    refine Rel.succ ?_;have J:=k.isZ H [125] D (by decide)
    have hF:(fun m=>Aaq nx pl ere (m+1) (.blockL z l) r)=fun m=>(isR nx [125] r).bind fun b s=>if b=true then (wantR nx pl [125] s).bind fun _ s => .ok [.mk 30 [] 0 z l] s else (Aaq nx pl ere m .stmt s).bind fun x s=>(linesR nx [59] m s).bind fun _ s=>Aaq nx pl ere m (.blockL z (l++x)) s:=by
     funext m;simp only[Aaq];rw[if_pos k.e]
    rw[hF];simp only[J,RO.bind];by_cases c:isS (nx q.a false) [125]=true
    ·simp only[c,if_true]
     exact Rel.bind (k.want H [125] (by decide)) (fun _ _ p s _ h v=>Rel.ok rfl h v) (fun f e y s d=>DD.ok d)
    simp only[c,aA,if_false];refine Rel.bind (E.stmt q r k) (fun x y p s k h v=>?_) (fun f e y s d=>DD.bind (Ab6 d [59]) fun _ s d=>Af6 (AcI H.op _ _ s d));subst k;exact v▸E.blockL z (l++x) p s h
   rw[<- v];generalize (if isS (nx q.a false) [125]=true then (Abb nx pl [125] q).bind fun _ p => .ok [.mk 30 [] 0 z l] p else (Abh nx pl ere n .stmt q).bind fun x p=>Abh nx pl ere n (.blockL z (l++x)) p)=o at j ⊢
   cases o with
   | hush=>trivial
   | bad f e=>obtain⟨x,u,d,B⟩:=j;exact⟨x,u,d,C.bind B⟩
   | ok x L=>obtain⟨y,u,F,G,I,B⟩:=j;exact⟨y,u,F,G,I,C.bind B⟩
end
set_option linter.unusedSimpArgs false
section
variable {nx:Nat->Bool->Tk} {pl:Nat->Nat×Nat} {ere:List UInt8->Option Bool} {p:Ps} {s:Rs} {n:Nat} {f:Nat} {e:Int} {α β:Type}
theorem Ev.then {F:Nat->RO α} {K:Nat->α->Rs->RO β} {x:α} {r:Rs} (h:Ev F (.ok x r)) {G:Nat->RO β} (c:∀m,K m x r=G m) {o:RO β} (a:Ev G o):Ev (fun m=>(F m).bind (K m)) o :=
 h.bind (by obtain⟨N,b⟩:=a;exact⟨N,fun m d=>(c m).trans (b m d)⟩)
theorem Rel.after {g:Bool} {R:α->β->Prop} {c:Type} {o:Hf α} {F:Nat->RO c} {K:Nat->c->Rs->RO β} {x:c} {r:Rs} {G:Nat->RO β} (h:Ev F (.ok x r)) (i:∀m,K m x r=G m) (d:Rel nx pl g R o G):Rel nx pl g R o (fun m=>(F m).bind (K m)):=by
 cases o with
 | hush=>trivial
 | bad f e=>obtain⟨y,u,n,b⟩:=d;exact⟨y,u,n,h.then i b⟩
 | ok a q=>obtain⟨y,u,j,k,l,b⟩:=d;exact⟨y,u,j,k,l,h.then i b⟩
theorem Hf.assoc {α β b:Type} (a:Hf α) (k:α->Ps->Hf β) (l:β->Ps->Hf b):(a.bind k).bind l=a.bind fun x s=>(k x s).bind l:=by cases a<;>rfl
theorem Ag9 (H:Abi nx) (n:Nat) (p:Ps) (s:Rs) (h:Re p s):Abg nx pl s.g (Abh nx pl ere (n+1) .many p) (fun m=>B0 nx pl ere m .outs s):=by
 have E:=Ab7 (pl:=pl) (ere:=ere) H n
 have u:Abg nx pl s.g (Dn nx pl ere n .list p) (fun m=>(B0 nx pl ere m (.list true) { s with g:=true }).bind fun l r => .ok l { r with g:=s.g }) :=
  Rel.post (g':=s.g) (S:=fun x y=>x=y) (L:=fun _ l r => .ok l { r with g:=s.g }) (E.list true p { s with g:=true } (h.g _)) (fun x y p r z D _=>⟨y,{ r with g:=s.g },z,D.g _,rfl,Ev.const _⟩) (fun f e y r i=>DD.ok (i.g _))
 refine Rel.succ ?_;simp only[Abh];refine h.peek H true (fun K=>?_) (fun i=>?_)
 rotate_left
 ·obtain⟨x,r,j,N,O⟩:=AgT (ere:=ere) H.op s i
  exact⟨x,r,j,N,fun m R=>O (m+1) (by omega)⟩
 by_cases c:isS (nx p.a false) [40]=true
 ·obtain⟨J,P⟩:=h.takeS (pl:=pl) H [40] K (by decide) c
  rw[if_pos c]
  have hF:(fun m=>B0 nx pl ere (m+1) .outs s)=fun m=>((B0 nx pl ere m (.list false) (Abs pl [40] (nx p.a false) s)).bind fun l r=>(wantR nx pl [41] r).bind fun _ r => .ok l r).bind fun l r=>(Ach nx r).bind fun c r =>
         if r.e=0/\1<l.length/\c=true then .ok l r else (B0 nx pl ere m (.list true) { s with g:=true }).bind fun l r => .ok l { r with g:=s.g }:=by
   funext m;simp only[B0,J,RO.bind,if_true]
   cases B0 nx pl ere m (.list false) (Abs pl [40] (nx p.a false) s) with
   | hush=>rfl
   | ok l r =>
     simp only;cases wantR nx pl [41] r<;>rfl
  rw[hF]
  have I:Abg nx pl s.g ((Abb nx pl [40] p).bind fun _ p=>(Dn nx pl ere n .list p).bind fun l p=>(Abb nx pl [41] p).bind fun _ p => .ok l p) (fun m=>(wantR nx pl [40] s).bind fun _ s=>(B0 nx pl ere m (.list false) s).bind fun l r=>(wantR nx pl [41] r).bind fun _ r => .ok l r):=by
   refine Rel.bind (h.want H [40] (by decide)) (fun _ _ p s _ h w=>?_) (fun f e y s i=>DD.bind (Ac2 H.op false s i) fun l s i=>DD.bind (AcA H.op i [41]) fun _ s i=>DD.ok i);refine w▸Rel.bind (E.list false p s h) (fun x y p s z h w=>?_) (fun f e y s i=>DD.bind (AcA H.op i [41]) fun _ s i=>DD.ok i);subst z;exact w▸Rel.bind (h.want H [41] (by decide)) (fun _ _ p s _ h w=>Rel.ok rfl h w) (fun f e y s i=>DD.ok i)
  simp only[P,RO.bind] at I
  have C:((Abb nx pl [40] p).bind fun _ p=>(Dn nx pl ere n .list p).bind fun l p=>(Abb nx pl [41] p).bind fun _ p=>(Eb nx false p).bind fun t p => .ok (l,t) p) =
    ((Abb nx pl [40] p).bind fun _ p=>(Dn nx pl ere n .list p).bind fun l p=>(Abb nx pl [41] p).bind fun _ p => .ok l p).bind fun l p=>(Eb nx false p).bind fun t p => .ok (l,t) p:=by
   rw[Hf.assoc];congr 1;funext _ p;rw[Hf.assoc];congr 1;funext l p;rw[Hf.assoc];rfl
  unfold Afe;rw[C];generalize M:((Abb nx pl [40] p).bind fun _ p=>(Dn nx pl ere n .list p).bind fun l p=>(Abb nx pl [41] p).bind fun _ p => .ok l p)=A at I
  cases A with
  | hush=>trivial
  | bad f e =>
    obtain⟨l,r,i,F⟩:=I
    have B:r.e=0->Ach nx r = .ok false r:=fun j=>by
     unfold Ach;rw[decide_eq_false (i.tok j)];rfl
    refine Rel.after F (G:=fun m=>(B0 nx pl ere m (.list true) { s with g:=true }).bind fun l r => .ok l { r with g:=s.g }) (fun m=>?_) u;by_cases j:r.e=0
    ·rw[B j]
     simp only[RO.bind];rw[if_neg (fun d=>by cases d.2.2)]
    show (if r.e=0/\1<l.length/\_=true then _ else _)=_;rw[if_neg (fun d=>j d.1)]
  | ok l q =>
    obtain⟨y,r,Q,z,w,F⟩:=I;subst Q
    have v:Ach nx r = .ok (decide ((nx q.a false).e=0)&&(decide ((nx q.a false).kd=0\/(nx q.a false).kd=1)||(isS (nx q.a false) [59]||isS (nx q.a false) [125]))) r:=by
     unfold Ach;rw[z.a]
    simp only[Hf.bind];by_cases j:(nx q.a false).e=0
    ·have D:Eb nx false q = .ok (nx q.a false) q:=by unfold Eb;rw[if_pos j]
     rw[D];simp only[Hf.bind]
     have o:(1<l.length/\((nx q.a false).kd=1\/(nx q.a false).kd=0\/isS (nx q.a false) [59]=true\/isS (nx q.a false) [125]=true))↔(r.e=0/\1<l.length/\(decide ((nx q.a false).e=0)&&(decide ((nx q.a false).kd=0\/(nx q.a false).kd=1)||(isS (nx q.a false) [59]||isS (nx q.a false) [125])))=true):=by
      rw[decide_eq_true j];simp only[z.e,true_and,Bool.true_and,Bool.or_eq_true,decide_eq_true_eq];constructor
      ·rintro⟨a,b⟩;exact⟨a,by rcases b with b | b | b | b;exact .inl (.inr b);exact .inl (.inl b);exact .inr (.inl b);exact .inr (.inr b)⟩
      rintro⟨a,b⟩;exact⟨a,by rcases b with(b | b) | b | b;exact .inr (.inl b);exact .inl b;exact .inr (.inr (.inl b));exact .inr (.inr (.inr b))⟩
     by_cases k:1<l.length/\((nx q.a false).kd=1\/(nx q.a false).kd=0\/isS (nx q.a false) [59]=true\/isS (nx q.a false) [125]=true)
     ·rw[if_pos k]
      refine Rel.after F (G:=fun _ => .ok l r) (fun m=>?_) (Rel.ok rfl z w);rw[v];show (if r.e=0/\1<l.length/\_=true then _ else _)=_;rw[if_pos (o.1 k)]
     rw[if_neg k];refine Rel.after F (G:=fun m=>(B0 nx pl ere m (.list true) { s with g:=true }).bind fun l r => .ok l { r with g:=s.g }) (fun m=>?_) u;rw[v];show (if r.e=0/\1<l.length/\_=true then _ else _)=_;rw[if_neg (fun d=>k (o.2 d))]
    have D:Eb nx false q = .bad (nx q.a false).f (nx q.a false).e:=by unfold Eb;rw[if_neg j]
    rw[D];simp only[Hf.bind];refine Rel.after F (G:=fun m=>(B0 nx pl ere m (.list true) { s with g:=true }).bind fun l r => .ok l { r with g:=s.g }) (fun m=>?_) u;rw[v,decide_eq_false j];show (if r.e=0/\1<l.length/\_=true then _ else _)=_;rw[if_neg (fun d=>by cases d.2.2)]
 have J:=h.takeN (pl:=pl) H [40] K (by decide) c;rw[if_neg c]
 have hF:(fun m=>B0 nx pl ere (m+1) .outs s)=fun m=>(B0 nx pl ere m (.list true) { s with g:=true }).bind fun l r => .ok l { r with g:=s.g }:=by
  funext m;simp only[B0,J,RO.bind,aA,if_false]
 rw[hF];exact u
end
set_option linter.unusedSimpArgs false
section
variable {nx:Nat->Bool->Tk} {pl:Nat->Nat×Nat} {ere:List UInt8->Option Bool} {p:Ps} {s:Rs} {n:Nat} {f:Nat} {e:Int} {α β:Type}
theorem DD.shift {F:Nat->RO α} (h:DD nx pl f e F):DD nx pl f e (fun m=>F (m+1)):=by
 obtain⟨x,r,a,N,b⟩:=h;exact⟨x,r,a,N,fun m c=>b (m+1) (by omega)⟩
theorem Afz (H:Abi nx) (d:(nx p.a false).e=0) (c:(nx p.a false).kd=8):Dn nx pl ere 17 .expr p = .bad (nx p.a false).f (Yd (nx p.a false) p):=by
 have i:∀(b:Bool),Eb nx b p = .ok (nx p.a false) p:=fun b=>by
  have h:nx p.a b=nx p.a false:=by cases b;rfl;exact H.op _
  unfold Eb;rw[h,if_pos d]
 have g:∀x,isS (nx p.a false) x=false:=fun x=>by unfold isS;rw[decide_eq_false (by rw[c];decide)];rfl
 simp only[Dn,i,Hf.bind,g,c,aA,or_self,if_false,JF,show ¬ ((8:Int)=2) by decide,show ¬ ((8:Int)=3) by decide,show ¬ ((8:Int)=4) by decide,show ¬ ((8:Int)=5) by decide,show ¬ ((8:Int)=6) by decide,show ¬ ((8:Int)=7) by decide]
theorem AfW (H:Abi nx) (h:Re p s) (b:(nx p.a false).e=0) (c:(nx p.a false).kd=8):DD nx pl (nx p.a false).f (Yd (nx p.a false) p) (fun m=>B0 nx pl ere m .expr s):=by
 have:=(Ab7 (pl:=pl) (ere:=ere) H 17).expr p s h;rw[Afz H b c] at this;exact this
theorem AcL (c:∀a,nx a true=nx a false) (b:Abe nx pl f e s):∃r,Aco nx pl s = .ok false r/\Abe nx pl f e r:=by
 obtain⟨r,g,d,h,-⟩:=b.see c true;unfold Aco;rw[g];simp only[RO.bind];rw[decide_eq_false (by rw[d];exact b.1)];exact⟨r,rfl,Abe.of b.1 d h⟩
theorem Re.begins (H:Abi nx) (h:Re p s) (b:(nx p.a false).e=0):Aco nx pl s = .ok (I0 (nx p.a false)) s:=by
 unfold Aco;rw[h.seeT H b];simp only[RO.bind];rw[decide_eq_true h.e];rfl
theorem AcM (a:Abe nx pl f e s):Acp nx pl s = .ok () s:=by unfold Acp;rw[a.isR];rfl
theorem Re.behind (H:Abi nx) (h:Re p s):Acp nx pl s = .ok () s:=by
 have e:isR nx [62] s = .ok false s:=by
  unfold isR AbN;rw[h.a];have b:=H.gt p.a;unfold isS at b;by_cases d:(nx p.a false).tx=[62]
  ·rw[decide_eq_true d,Bool.and_true,decide_eq_false_iff_not] at b
   rw[decide_eq_false b,decide_eq_false (fun c=>H.gw p.a c d)];simp
  rw[decide_eq_false d];simp
 unfold Acp;rw[e];rfl
theorem Re.nameY (h:Re p s) (b:(nx p.a false).e=0) (k:(nx p.a false).kd=5):nameR nx pl s = .ok (nx p.a false) { s with a:=(nx p.a false).t }:=by
 unfold nameR;rw[h.seeY b];simp only[RO.bind];rw[if_neg (fun d=>d.2 k),if_pos h.e]
theorem Re.nameN (H:Abi nx) (h:Re p s) (c:(nx p.a false).e=0) (k:¬ (nx p.a false).kd=5):nameR nx pl s = .ok (nx p.a false) (Abj pl (nx p.a false) s):=by
 have b:¬ (Abj pl (nx p.a false) s).e=0:=by rw[h.wrongE H];exact AdZ _ _
 unfold nameR;rw[h.seeY c];simp only[RO.bind];rw[if_pos ⟨h.e,k⟩,if_neg b]
theorem Ac_ (H:Abi nx) (k:Int) (z:Nat×Nat) (p:Ps) (s:Rs) (h:Re p s):Abg nx pl s.g ((Eb nx true p).bind fun u p=>if I0 u=true then (Dn nx pl ere n .expr p).bind fun l p => .ok [.mk k [] 0 z l] p else .ok [.mk k [] 0 z []] p) (fun m=>AcF nx pl ere m k z s):=by
 unfold AcF;refine h.peek H true (fun d=>?_) (fun b=>?_)
 rotate_left
 ·obtain⟨r,i,j⟩:=AcL H.op b
  simp only[i,RO.bind,aA,if_false];exact DD.ok j
 simp only[h.begins (pl:=pl) H d,RO.bind];by_cases c:I0 (nx p.a false)=true
 ·simp only[c,if_true]
  refine Rel.bind ((Ab7 (pl:=pl) (ere:=ere) H n).expr p s h) (fun x y p s q h o=>?_) (fun f e y s b=>DD.ok b);subst q;exact Rel.ok rfl h o
 simp only[c,aA,if_false];exact Rel.ok rfl h rfl
theorem Ae1 (H:Abi nx) (M:∀(p:Ps) (s:Rs),Re p s->Abg nx pl s.g (Abh nx pl ere n .many p) (fun m=>B0 nx pl ere m .outs s)) (k:Int) (z:Nat×Nat) (p:Ps) (s:Rs) (h:Re p s) :
  Abg nx pl s.g ((Abh nx pl ere n .many p).bind fun l p => .ok [.mk k [] 0 z l] p) (fun m=>Aff nx pl ere m k z s):=by
 unfold Aff;refine Rel.bind (M p s h) (fun x y p s c h b=>?_) (fun f e y s a=>?_)
 ·subst c
  simp only[h.behind (pl:=pl) H,RO.bind];exact Rel.ok rfl h b
 simp only[AcM a,RO.bind];exact DD.ok a
theorem Afu (H:Abi nx) (z:Nat×Nat) (p:Ps) (s:Rs) (h:Re p s) :
  Abg nx pl s.g ((Eb nx false p).bind fun u p=>if u.kd=5 then (Ab_ nx [91] (CQ u p)).bind fun q p=>if q=true then (Dn nx pl ere n .index p).bind fun l p => .ok [.mk 41 u.tx 0 z l] p else .ok [.mk 41 u.tx 0 z []] p else JF u p)
   (fun m=>(nameR nx pl s).bind fun t s=>(takeR nx pl [91] s).bind fun c s=>if c=true then (B0 nx pl ere m (.inside [93]) s).bind fun l s => .ok [.mk 41 t.tx 0 z l] s else .ok [.mk 41 t.tx 0 z []] s):=by
 refine h.peek H false (fun o=>?_) (fun b=>?_)
 rotate_left
 ·obtain⟨t,r,i,v⟩:=b.nameR H.op
  simp only[i,v.takeR,RO.bind,aA,if_false];exact DD.ok v
 by_cases k:(nx p.a false).kd=5
 ·rw[if_pos k,Abp]
  simp only[h.nameY (pl:=pl) o k,RO.bind];have d:=h.took (nx p.a false);refine d.peek H false (fun i=>?_) (fun b=>?_)
  rotate_left
  ·simp only[b.takeR,RO.bind,aA,if_false]
   exact DD.ok b
  by_cases c:isS (nx (CQ (nx p.a false) p).a false) [91]=true
  ·obtain⟨j,A⟩:=d.takeS (pl:=pl) H [91] i (by decide) c
   have w:=(Ab7 (pl:=pl) (ere:=ere) H n).index _ _ d;simp only[A,RO.bind] at w;rw[if_pos c];simp only[j,RO.bind,if_true];refine Rel.bind w (fun x y p s C h B=>?_) (fun f e y s b=>DD.ok b);subst C;exact Rel.ok rfl h B
  have j:=d.takeN (pl:=pl) H [91] i (by decide) c;rw[if_neg c];simp only[j,RO.bind,aA,if_false];exact Rel.ok rfl d rfl
 rw[if_neg k];have b:=h.wrongD (pl:=pl) H;simp only[h.nameN (pl:=pl) H o k,b.takeR,RO.bind,aA,if_false];exact h.wrong H
theorem Afx (H:Abi nx) (M:∀(p:Ps) (s:Rs),Re p s->Abg nx pl s.g (Abh nx pl ere n .many p) (fun m=>B0 nx pl ere m .outs s)) (p:Ps) (s:Rs) (h:Re p s):Abg nx pl s.g (Abh nx pl ere (n+1) .simple p) (fun m=>Aaq nx pl ere m .simple s):=by
 refine Rel.succ ?_;simp only[Abh];refine h.peek H true (fun u=>?_) (fun z=>(Ab3 (ere:=ere) H.op s z).dd.shift);have v:nx s.a true=nx p.a false:=(by rw[h.a,H.op]);have b:=h.takeW (pl:=pl) H [98,114,101,97,107] u (by decide) rfl rfl;have c:=h.takeW (pl:=pl) H [99,111,110,116,105,110,117,101] u (by decide) rfl rfl;have i:=h.takeW (pl:=pl) H [110,101,120,116] u (by decide) rfl rfl;have j:=h.takeW (pl:=pl) H [101,120,105,116] u (by decide) rfl rfl;have k:=h.takeW (pl:=pl) H [114,101,116,117,114,110] u (by decide) rfl rfl;have q:=h.takeW (pl:=pl) H [100,101,108,101,116,101] u (by decide) rfl rfl;have t:=h.takeW (pl:=pl) H [112,114,105,110,116] u (by decide) rfl rfl
 have w:=h.takeW (pl:=pl) H [112,114,105,110,116,102] u (by decide) rfl rfl;have o:=h.took (nx p.a false);by_cases A:(nx p.a false).kd=8
 ·have I:∀x,XI (nx p.a false) x=decide ((nx p.a false).tx=x):=fun x=>by unfold XI;rw[decide_eq_true A];rfl
  simp only[I] at b c i j k q t w;rw[if_neg (fun d=>d A)];generalize Q:(nx p.a false).tx=x at b c i j k q t w;by_cases B:x=[98,114,101,97,107]
  ·subst B
   rw[if_pos (by decide)] at b;rw[show Aap [98,114,101,97,107]=some 36 from rfl];simp only[Aaq,Abo,v,b,RO.bind,aA,if_false,if_true,show ¬ ((36:Int)=39\/(36:Int)=40) by decide,show ¬ ((36:Int)=41) by decide,show ¬ ((36:Int)=42) by decide,show ¬ ((36:Int)=43) by decide];exact Rel.ok rfl o rfl
  by_cases C:x=[99,111,110,116,105,110,117,101]
  ·subst C
   rw[if_neg (by decide)] at b;rw[if_pos (by decide)] at c;rw[show Aap [99,111,110,116,105,110,117,101]=some 37 from rfl];simp only[Aaq,Abo,v,b,c,RO.bind,aA,if_false,if_true,show ¬ ((37:Int)=39\/(37:Int)=40) by decide,show ¬ ((37:Int)=41) by decide,show ¬ ((37:Int)=42) by decide,show ¬ ((37:Int)=43) by decide];exact Rel.ok rfl o rfl
  by_cases D:x=[110,101,120,116]
  ·subst D
   rw[if_neg (by decide)] at b;rw[if_neg (by decide)] at c;rw[if_pos (by decide)] at i;rw[show Aap [110,101,120,116]=some 38 from rfl];simp only[Aaq,Abo,v,b,c,i,RO.bind,aA,if_false,if_true,show ¬ ((38:Int)=39\/(38:Int)=40) by decide,show ¬ ((38:Int)=41) by decide,show ¬ ((38:Int)=42) by decide,show ¬ ((38:Int)=43) by decide];exact Rel.ok rfl o rfl
  by_cases E:x=[101,120,105,116]
  ·subst E
   rw[if_neg (by decide)] at b;rw[if_neg (by decide)] at c;rw[if_neg (by decide)] at i;rw[if_pos (by decide)] at j;rw[show Aap [101,120,105,116]=some 39 from rfl];simp only[Aaq,Abo,v,b,c,i,j,RO.bind,aA,if_false,if_true,show ((39:Int)=39\/(39:Int)=40) by decide,show ¬ ((39:Int)=41) by decide,show ¬ ((39:Int)=42) by decide,show ¬ ((39:Int)=43) by decide];exact Ac_ H 39 _ _ _ o
  by_cases c5:x=[114,101,116,117,114,110]
  ·subst c5
   rw[if_neg (by decide)] at b;rw[if_neg (by decide)] at c;rw[if_neg (by decide)] at i;rw[if_neg (by decide)] at j;rw[if_pos (by decide)] at k;rw[show Aap [114,101,116,117,114,110]=some 40 from rfl];simp only[Aaq,Abo,v,b,c,i,j,k,RO.bind,aA,if_false,if_true,show ((40:Int)=39\/(40:Int)=40) by decide,show ¬ ((40:Int)=41) by decide,show ¬ ((40:Int)=42) by decide,show ¬ ((40:Int)=43) by decide];exact Ac_ H 40 _ _ _ o
  by_cases c6:x=[100,101,108,101,116,101]
  ·subst c6
   rw[if_neg (by decide)] at b;rw[if_neg (by decide)] at c;rw[if_neg (by decide)] at i;rw[if_neg (by decide)] at j;rw[if_neg (by decide)] at k;rw[if_pos (by decide)] at q;rw[show Aap [100,101,108,101,116,101]=some 41 from rfl];simp only[Aaq,Abo,v,b,c,i,j,k,q,RO.bind,aA,if_false,if_true,show ¬ ((41:Int)=39\/(41:Int)=40) by decide,show ¬ ((41:Int)=42) by decide,show ¬ ((41:Int)=43) by decide];exact Afu H _ _ _ o
  by_cases F:x=[112,114,105,110,116]
  ·subst F
   rw[if_neg (by decide)] at b;rw[if_neg (by decide)] at c;rw[if_neg (by decide)] at i;rw[if_neg (by decide)] at j;rw[if_neg (by decide)] at k;rw[if_neg (by decide)] at q;rw[if_pos (by decide)] at t;rw[show Aap [112,114,105,110,116]=some 42 from rfl];simp only[Aaq,Abo,v,b,c,i,j,k,q,t,RO.bind,aA,if_false,if_true,show ¬ ((42:Int)=39\/(42:Int)=40) by decide,show ¬ ((42:Int)=41) by decide,show ¬ ((42:Int)=43) by decide];refine(o.outs p.deep).peek H true (fun L=>?_) (fun z=>?_)
   rotate_left
   ·obtain⟨r,K,J⟩:=AcL H.op z
    simp only[K,AcM J,RO.bind,aA,if_false];exact DD.ok J
   simp only[(o.outs p.deep).begins (pl:=pl) H L,RO.bind];by_cases d:I0 (nx ({ CQ (nx p.a false) p with outs:=p.deep }:Ps).a false)=true
   ·simp only[d,if_true]
    exact Ae1 H M 42 _ _ _ (o.outs _)
   simp only[d,aA,if_false,o.behind (pl:=pl) H,RO.bind];exact Rel.ok rfl (o.outs _) rfl
  by_cases G:x=[112,114,105,110,116,102]
  ·subst G
   rw[if_neg (by decide)] at b;rw[if_neg (by decide)] at c;rw[if_neg (by decide)] at i;rw[if_neg (by decide)] at j;rw[if_neg (by decide)] at k;rw[if_neg (by decide)] at q;rw[if_neg (by decide)] at t;rw[if_pos (by decide)] at w;rw[show Aap [112,114,105,110,116,102]=some 43 from rfl];simp only[Aaq,Abo,v,b,c,i,j,k,q,t,w,RO.bind,aA,if_false,if_true,show ¬ ((43:Int)=39\/(43:Int)=40) by decide,show ¬ ((43:Int)=41) by decide,show ¬ ((43:Int)=42) by decide];exact Ae1 H M 43 _ _ _ (o.outs _)
  rw[if_neg (by simp only[decide_eq_true_eq];exact B)] at b;rw[if_neg (by simp only[decide_eq_true_eq];exact C)] at c;rw[if_neg (by simp only[decide_eq_true_eq];exact D)] at i;rw[if_neg (by simp only[decide_eq_true_eq];exact E)] at j;rw[if_neg (by simp only[decide_eq_true_eq];exact c5)] at k;rw[if_neg (by simp only[decide_eq_true_eq];exact c6)] at q;rw[if_neg (by simp only[decide_eq_true_eq];exact F)] at t;rw[if_neg (by simp only[decide_eq_true_eq];exact G)] at w;have O:Aap x=none:=by unfold Aap;simp only[B,C,D,E,c5,c6,F,G,if_false]
  rw[O];simp only[Aaq,Abo,b,c,i,j,k,q,t,w,RO.bind,aA,if_false];exact DD.bind (AfW H h u A) fun l s z=>DD.ok z
 have I:∀x,XI (nx p.a false) x=false:=fun x=>by unfold XI;rw[decide_eq_false A];rfl
 simp only[I,aA,if_false] at b c i j k q t w;rw[if_pos A];simp only[Aaq,Abo,b,c,i,j,k,q,t,w,RO.bind,aA,if_false];refine Rel.bind ((Ab7 (pl:=pl) (ere:=ere) H n).expr p s h) (fun x y p s P h N=>?_) (fun f e y s z=>DD.ok z);subst P;exact Rel.ok rfl h N
end
set_option linter.unusedSimpArgs false
def NB (o:Hf (List Tr)):Prop:=∀l q,o = .ok l q->(hd1 l).kd≠30
section
variable {nx:Nat->Bool->Tk} {pl:Nat->Nat×Nat} {ere:List UInt8->Option Bool} {p:Ps} {s:Rs} {n:Nat} {f:Nat} {e:Int} {α:Type}
theorem NB.bind {o:Hf α} {K:α->Ps->Hf (List Tr)} (h:∀x q,NB (K x q)):NB (o.bind K):=by
 intro l q e;cases o with | hush=>cases e | bad=>cases e | ok x r=>exact h x r l q e
theorem NB.ok {l:List Tr} {q:Ps} (h:(hd1 l).kd≠30):NB (.ok l q):=by intro a b e;injection e with e _;exact e▸h
theorem NB.ite {c:Prop} [Decidable c] {a b:Hf (List Tr)} (d:NB a) (e:NB b):NB (if c then a else b):=by split<;>assumption
theorem NB.bad {f:Nat} {e:Int}:NB (.bad f e):=by intro l q h;cases h
theorem NB.refuse {t:Tk}:NB (JF t p):=NB.bad
theorem AfI (n:Nat) (p:Ps):NB (Abh nx pl ere n .simple p):=by
 cases n with
 | zero=>intro l q h;cases h
 | succ n =>
   simp only[Abh];refine NB.bind fun t p=>NB.ite (NB.bind fun l p=>NB.ok (show (44:Int)≠30 by decide)) ?_
   cases b:Aap t.tx with
   | none=>exact NB.refuse
   | some k =>
     have a:k≠30:=by
      unfold Aap at b;intro c;subst c
      repeat' (first | (split at b;(first | (injection b with b;revert b;decide) | skip)) | cases b)
     exact NB.ite (NB.bind fun u p=>NB.ite (NB.bind fun l p=>NB.ok a) (NB.ok a)) (NB.ite (NB.bind fun u p=>NB.ite (NB.bind fun q p=>NB.ite (NB.bind fun l p=>NB.ok a) (NB.ok a)) NB.refuse)
      (NB.ite (NB.bind fun u p=>NB.ite (NB.bind fun l p=>NB.ok a) (NB.ok a)) (NB.ite (NB.bind fun l p=>NB.ok a) (NB.ok a))))
theorem Ahx (n:Nat) (p:Ps) (f:∀a,nx a true=nx a false) (c:¬ isS (nx p.a false) [123]=true):NB (Abh nx pl ere n .stmt p):=by
 cases n with
 | zero=>intro l q h;cases h
 | succ n =>
   simp only[Abh];unfold Eb;rw[f];by_cases g:(nx p.a false).e=0
   ·rw[if_pos g]
    simp only[Hf.bind];refine NB.ite (NB.bind fun _ p=>NB.bind fun _ p=>NB.bind fun _ p=>NB.bind fun _ p=>NB.ite (NB.bind fun _ p=>NB.bind fun _ p=>NB.ok (show (31:Int)≠30 by decide)) (NB.ok (show (31:Int)≠30 by decide))) ?_;refine NB.ite (NB.bind fun _ p=>NB.bind fun _ p=>NB.bind fun _ p=>NB.ok (show (32:Int)≠30 by decide)) ?_;refine NB.ite (NB.bind fun _ p=>NB.bind fun _ p=>NB.bind fun _ p=>NB.ite (NB.bind fun _ p=>NB.bind fun _ p=>NB.ok (show (33:Int)≠30 by decide)) NB.refuse) ?_;refine NB.ite (NB.bind fun _ p=>NB.ite (NB.bind fun _ p=>NB.bind fun _ p=>NB.bind fun _ p=>NB.ok (show (35:Int)≠30 by decide)) ?_) ?_
    ·exact NB.bind fun _ p=>NB.bind fun _ p=>NB.bind fun _ p=>NB.bind fun _ p=>NB.bind fun _ p=>NB.bind fun _ p=>NB.bind fun _ p=>NB.bind fun _ p=>NB.bind fun _ p=>NB.bind fun _ p=>NB.bind fun _ p=>NB.bind fun _ p=>NB.bind fun _ p=>NB.ok (show (34:Int)≠30 by decide)
    rw[if_neg c];intro l q e;have i:=AfI (nx:=nx) (pl:=pl) (ere:=ere) n { p with outs := -1 }
    cases b:Abh nx pl ere n .simple { p with outs := -1 } with
    | hush=>rw[b] at e;cases e
    | bad=>rw[b] at e;cases e
    | ok x r =>
      rw[b] at e;simp only[Hf.bind] at e
      cases d:Y4 nx r with
      | hush=>rw[d] at e;cases e
      | bad=>rw[d] at e;cases e
      | ok y u=>rw[d] at e;injection e with e _;exact e▸i x r b
   rw[if_neg g];exact NB.bad
theorem AdB:∀(n:Nat) (z:Nat×Nat) (l:List Tr) (p:Ps) (x:List Tr) (q:Ps),Abh nx pl ere n (.blockL z l) p = .ok x q->(hd1 x).kd=30
 | 0,_,_,_,_,_,h=>nomatch h
 | n+1,z,l,p,x,q,h=>by
   simp only[Abh] at h
   cases b:LB nx true n p with
   | hush=>rw[b] at h;cases h
   | bad=>rw[b] at h;cases h
   | ok t r =>
     rw[b] at h;simp only[Hf.bind] at h;by_cases c:isS t [125]=true
     ·rw[if_pos c] at h
      cases a:Abb nx pl [125] r with
      | hush=>rw[a] at h;cases h
      | bad=>rw[a] at h;cases h
      | ok y u=>rw[a] at h;injection h with h _;exact h▸rfl
     rw[if_neg c] at h
     cases a:Abh nx pl ere n .stmt r with
     | hush=>rw[a] at h;cases h
     | bad=>rw[a] at h;cases h
     | ok y u=>rw[a] at h;exact AdB n z (l++y) u x q h
theorem Adi (t:Tk) (x y:List UInt8) (c:isS t x=true):XI t y=false:=by
 unfold isS at c;unfold XI;simp only[aB,decide_eq_true_eq] at c;rw[decide_eq_false (by rw[c.1];decide)];rfl
theorem Aht (n:Nat) (p:Ps) (d:∀a,nx a true=nx a false) (c:isS (nx p.a false) [123]=true) (x:List Tr) (q:Ps) (h:Abh nx pl ere n .stmt p = .ok x q):(hd1 x).kd=30:=by
 cases n with
 | zero=>cases h
 | succ n =>
   simp only[Abh] at h;unfold Eb at h;rw[d] at h;by_cases f:(nx p.a false).e=0
   ·rw[if_pos f] at h
    simp only[Hf.bind,Adi _ _ _ c,aA,if_false,c,if_true] at h
    cases n with
    | zero=>cases h
    | succ n =>
      simp only[Abh] at h
      cases b:Abb nx pl [123] { p with outs := -1 } with
      | hush=>rw[b] at h;cases h
      | bad=>rw[b] at h;cases h
      | ok y u=>rw[b] at h;exact AdB n _ _ u x q h
   rw[if_neg f] at h;cases h
theorem Ag0 (H:Abi nx) (E:EV nx pl ere n) (p:Ps) (s:Rs) (h:Re p s):Abg nx pl s.g (Abh nx pl ere (n+1) .body p) (fun m=>Aaq nx pl ere m .body s):=by
 refine Rel.succ ?_;simp only[Abh];refine h.peek H true (fun l=>?_) (fun j=>?_)
 rotate_left
 ·obtain⟨x,r,t,N,u⟩:=Ac3 (ere:=ere) H.op s j
  exact⟨x,r,t,N,fun m F=>u (m+1) (by omega)⟩
 have C:nx s.a true=nx p.a false:=(by rw[h.a,H.op]);have D:=h.isZ H [59] l (by decide);have o:=h.isZ H [123] l (by decide);simp only[Aaq,Abo,RO.bind,D,o,C];by_cases k:isS (nx p.a false) [59]=true
 ·simp only[k,if_true]
  exact Rel.ok rfl (h.took _) rfl
 simp only[k,aA,if_false];have d:=E.stmt p s h;by_cases c:isS (nx p.a false) [123]=true
 ·simp only[c,if_true]
  have i:Abg nx pl s.g (Abh nx pl ere n .stmt p) (fun m=>Aaq nx pl ere m .block s):=d.later fun m=>by
   simp only[Aaq,Abo,RO.bind,o,c,if_true]
  cases b:Abh nx pl ere n .stmt p with
  | hush=>trivial
  | bad f e=>rw[b] at i;exact i
  | ok x q =>
    rw[b] at i;simp only[Hf.bind];rw[if_pos (Aht n p H.op c x q b)];exact i
 simp only[c,aA,if_false];have w:=Ahx (pl:=pl) (ere:=ere) n p H.op c
 cases b:Abh nx pl ere n .stmt p with
 | hush=>trivial
 | bad f e=>rw[b] at d;exact DD.bind d fun _ r j=>DD.ok j
 | ok x q =>
   rw[b] at d;simp only[Hf.bind];rw[if_neg (w x q b)];obtain⟨y,r,B,z,v,A⟩:=d;subst B;exact⟨_,r,rfl,z,v,A.bind (Ev.const _)⟩
end
set_option linter.unusedSimpArgs false
section
variable {nx:Nat->Bool->Tk} {pl:Nat->Nat×Nat} {ere:List UInt8->Option Bool} {p:Ps} {s:Rs} {n:Nat} {f:Nat} {e:Int} {α:Type}
theorem Ad6 (c:∀a,nx a true=nx a false) (b:Abe nx pl f e s) {K:Nat->List Tr->Rs->RO (List Tr)} (d:∀m s,Abe nx pl f e s->DD nx pl f e (fun n=>K n m s)) :
  DD nx pl f e (fun n=>(linesR nx [] n s).bind fun _ s=>(Aaq nx pl ere n .body s).bind (K n)) :=
 DD.bind (Ab6 b []) fun _ _ b=>DD.bind (Ac3 c _ b) fun m s b=>d m s b
theorem Ad_ (H:Abi nx) (E:EV nx pl ere n) (p:Ps) (s:Rs) (h:Re p s) {g:Bool} (b:s.g=g) {R:List Tr->List Tr->Prop} {K:List Tr->Ps->Hf (List Tr)} {L:Nat->List Tr->Rs->RO (List Tr)}
  (d:∀m p s,Re p s->s.g=g->Rel nx pl g R (K m p) (fun n=>L n m s)) (c:∀f e m s,Abe nx pl f e s->DD nx pl f e (fun n=>L n m s)) :
  Rel nx pl g R ((Lf nx true n p).bind fun _ p=>(Abh nx pl ere n .body p).bind K) (fun m=>(linesR nx [] m s).bind fun _ s=>(Aaq nx pl ere m .body s).bind (L m)):=by
 refine Rel.bind (b▸Re.lines H true n p s h) (fun _ _ p s _ h b=>?_) (fun f e _ s a=>DD.bind (Ac3 H.op s a) fun m s a=>c f e m s a);refine Rel.bind (b▸E.body p s h) (fun x y p s i h b=>?_) (fun f e m s a=>c f e m s a);subst i;exact d x p s h b
theorem Aim (H:Abi nx) (E:EV nx pl ere n) (z:Nat×Nat) (p:Ps) (s:Rs) (h:Re p s) :
  Abg nx pl s.g ((Dn nx pl ere n .cond1 p).bind fun l p=>(Lf nx true n p).bind fun _ p=>(Abh nx pl ere n .body p).bind fun m p=>(Acv nx n p).bind fun c p =>
         if c=true then (Lf nx true n p).bind fun _ p=>(Abh nx pl ere n .body p).bind fun y p => .ok [.mk 31 [] 0 z (l++m++y)] p else .ok [.mk 31 [] 0 z (l++m)] p)
   (fun i=>(B0 nx pl ere i .round s).bind fun l s=>(linesR nx [] i s).bind fun _ s=>(Aaq nx pl ere i .body s).bind fun m s=>(AcO nx pl i s).bind fun c s =>
     if c=true then (linesR nx [] i s).bind fun _ s=>(Aaq nx pl ere i .body s).bind fun y s => .ok [.mk 31 [] 0 z (l++m++y)] s else .ok [.mk 31 [] 0 z (l++m)] s):=by
 have j:∀f e l m s,Abe nx pl f e s->DD nx pl f e (fun i=>(AcO nx pl i s).bind fun c s=>if c=true then (linesR nx [] i s).bind fun _ s=>(Aaq nx pl ere i .body s).bind fun y s => .ok [Tr.mk 31 [] 0 z (l++m++y)] s else .ok [Tr.mk 31 [] 0 z (l++m)] s):=fun f e l m s a=>by
  refine DD.bind (AgO a) fun c s a=>?_
  cases c with
  | false=>exact DD.ok a
  | true=>exact Ad6 H.op a fun m s a=>DD.ok a
 refine Rel.bind ((Ab7 (pl:=pl) (ere:=ere) H n).cond1 p s h) (fun l y p s d h b=>?_) (fun f e l s a=>Ad6 H.op a fun m s a=>j f e l m s a);subst d;refine Ad_ H E p s h b (fun m p s h b=>?_) (fun f e m s a=>j f e l m s a);refine Rel.bind (b▸h.elses H n) (fun c y p s d h b=>?_) (fun f e c s a=>?_)
 ·subst d
  cases c with
  | false=>exact Rel.ok rfl h b
  | true=>exact Ad_ H E p s h b (fun m p s h b=>Rel.ok rfl h b) (fun f e m s a=>DD.ok a)
 cases c with
 | false=>exact DD.ok a
 | true=>exact Ad6 H.op a fun m s a=>DD.ok a
theorem Agf (H:Abi nx) (E:EV nx pl ere n) (z:Nat×Nat) (p:Ps) (s:Rs) (h:Re p s) :
  Abg nx pl s.g ((Dn nx pl ere n .cond1 p).bind fun l p=>(Lf nx true n p).bind fun _ p=>(Abh nx pl ere n .body p).bind fun m p => .ok [.mk 32 [] 0 z (l++m)] p)
   (fun i=>(B0 nx pl ere i .round s).bind fun l s=>(linesR nx [] i s).bind fun _ s=>(Aaq nx pl ere i .body s).bind fun m s => .ok [.mk 32 [] 0 z (l++m)] s):=by
 refine Rel.bind ((Ab7 (pl:=pl) (ere:=ere) H n).cond1 p s h) (fun l y p s c h b=>?_) (fun f e l s a=>Ad6 H.op a fun _ _ a=>DD.ok a);subst c;exact Ad_ H E p s h b (fun m p s h b=>Rel.ok rfl h b) (fun f e m s a=>DD.ok a)
theorem AhB (c:∀a,nx a true=nx a false) (z:Nat×Nat) (l:List Tr) (b:Abe nx pl f e s):DD nx pl f e (fun i=>(wantR nx pl [119,104,105,108,101] s).bind fun _ s=>(B0 nx pl ere i .round s).bind fun m s=>(Acf nx pl s).bind fun _ s => .ok [Tr.mk 33 [] 0 z (l++m)] s) :=
 DD.bind (AcA c b _) fun _ s b=>DD.bind (Ad9 c s b) fun _ _ b=>DD.bind (AcY c b) fun _ _ b=>DD.ok b
theorem Ail (H:Abi nx) (E:EV nx pl ere n) (z:Nat×Nat) (p:Ps) (s:Rs) (h:Re p s) :
  Abg nx pl s.g ((Lf nx true n p).bind fun _ p=>(Abh nx pl ere n .body p).bind fun l p=>(LB nx false n p).bind fun u p =>
         if XI u [119,104,105,108,101]=true then (Dn nx pl ere n .cond1 (CQ u p)).bind fun m p=>(Y4 nx p).bind fun _ p => .ok [.mk 33 [] 0 z (l++m)] p else JF u p)
   (fun i=>(linesR nx [] i s).bind fun _ s=>(Aaq nx pl ere i .body s).bind fun l s=>(linesR nx [59] i s).bind fun _ s=>(wantR nx pl [119,104,105,108,101] s).bind fun _ s=>(B0 nx pl ere i .round s).bind fun m s=>(Acf nx pl s).bind fun _ s => .ok [.mk 33 [] 0 z (l++m)] s):=by
 refine Ad_ H E p s h rfl (fun l p s h j=>?_) (fun f e l s b=>DD.bind (Ab6 b _) fun _ s b=>AhB H.op z l b);have k:=h.gaps (pl:=pl) H false n
 cases o:LB nx false n p with
 | hush=>trivial
 | bad f e=>rw[o] at k;exact DD.bind k fun _ r b=>AhB H.op z l b
 | ok u q =>
   obtain⟨B,x⟩:=AcC H false n p u q o;rw[o] at k;obtain⟨_,r,-,d,v,C⟩:=k;subst B;have D:=d.takeW (pl:=pl) H [119,104,105,108,101] x (by decide) rfl rfl
   have A:wantR nx pl [119,104,105,108,101] r=if XI (nx q.a false) [119,104,105,108,101]=true then .ok () { r with a:=(nx q.a false).t } else .ok () (Abj pl (nx q.a false) r):=by
    unfold wantR;rw[if_pos d.e,D];by_cases c:XI (nx q.a false) [119,104,105,108,101]=true
    ·simp only[c,if_true,RO.bind]
    simp only[c,aA,if_false,RO.bind,d.seeY (pl:=pl) x,d.e,if_true]
   have w:Abg nx pl r.g (if XI (nx q.a false) [119,104,105,108,101]=true then (Dn nx pl ere n .cond1 (CQ (nx q.a false) q)).bind fun m p=>(Y4 nx p).bind fun _ p => .ok [.mk 33 [] 0 z (l++m)] p else JF (nx q.a false) q)
     (fun i=>(wantR nx pl [119,104,105,108,101] r).bind fun _ s=>(B0 nx pl ere i .round s).bind fun m s=>(Acf nx pl s).bind fun _ s => .ok [.mk 33 [] 0 z (l++m)] s):=by
    rw[A];by_cases c:XI (nx q.a false) [119,104,105,108,101]=true
    ·simp only[c,if_true,RO.bind]
     refine Rel.bind ((Ab7 (pl:=pl) (ere:=ere) H n).cond1 _ _ (d.took _)) (fun m y p s d h j=>?_) (fun f e m s b=>DD.bind (AcY H.op b) fun _ s b=>DD.ok b);subst d;exact Rel.bind (j▸h.ends H) (fun _ _ p s _ h j=>Rel.ok rfl h j) (fun f e _ s b=>DD.ok b)
    simp only[c,aA,if_false,RO.bind];have b:=d.wrongD (pl:=pl) H;have:=d.wrong (R:=fun(_:List Tr) (_:Unit)=>True) (pl:=pl) (g:=r.g) (y:=()) H;unfold JF at this ⊢;exact DD.bind (Ad9 H.op _ b) fun m s b=>DD.bind (AcY H.op b) fun _ s b=>DD.ok b
   exact j▸v▸Rel.after C (fun _=>rfl) w
end
open Go.RowKit
theorem TZ.none (s:ByteArray) (w:World):TZ (fun _=>Option.none) s w:=⟨fun _ _ _ h=>(nomatch h),fun _ _ _ h=>(nomatch h)⟩
theorem Lr.at {w:World} {B:Nat} {rs:List Rl} {v:Value} (h:Lr w B rs v) (i:Nat) (l:i<rs.length):∃b c r pv kv,v = .slice (some ⟨b,0,none⟩) rs.length c/\rs[i]?=some r/\Yj w (fun _=>True) (r,pv,kv) /\
  w.cell? ⟨b,9*i,none⟩=some (.int .i64 r.k)/\w.cell? ⟨b,9*i+1,none⟩=some (.int .i64 r.n)/\w.cell? ⟨b,9*i+2,none⟩=some pv/\w.cell? ⟨b,9*i+3,none⟩=some (.int .i64 r.b.kd)/\w.cell? ⟨b,9*i+4,none⟩=some (.string ⟨r.b.nm.toArray⟩) /\
  w.cell? ⟨b,9*i+5,none⟩=some (.float .f64 r.b.x)/\w.cell? ⟨b,9*i+6,none⟩=some kv/\w.cell? ⟨b,9*i+7,none⟩=some (.complex .f64 r.b.z.1 r.b.z.2)/\w.cell? ⟨b,9*i+8,none⟩=some (.complex .f64 r.z.1 r.z.2):=by
 obtain⟨L,rfl,d,F⟩:=h;rw[List.length_map] at l;obtain⟨g,f,o,-,-⟩:=d.form (by omega);have E:v.ownBlock=some g:=by rw[o];rfl
 have D:=d.cells E;have m:L[i]?=some L[i]:=List.getElem?_eq_getElem l;obtain⟨p,q,s,t,y,c5,c6,A,C⟩:=Ld L i _ m;have a:∀j u,(AW L)[j]?=some u->w.cell? ⟨g,j,none⟩=some u:=fun j u e=>by have:=D j u e;rw[Addr.add_lit,Nat.zero_add] at this;exact this
 refine⟨g,f,L[i].1,L[i].2.1,L[i].2.2,by rw[List.length_map];exact o,by rw[List.getElem?_map,m];rfl,(F _ (List.getElem_mem l)).mono fun _ _ _=>trivial,a _ _ p,a _ _ q,a _ _ s,a _ _ t,a _ _ y,a _ _ c5,a _ _ c6,a _ _ A,a _ _ C⟩
abbrev Z8:List UInt8:=[123,32,112,114,105,110,116,32,36,49,32,43,32,50,32,125]
abbrev ZM:List UInt8:=[123,32,112,114,105,110,116,32,97,32,62,32,34,102,34,32,125]
def Aek (l:List UInt8) (n:Nat):Hf (List Rl):=AgK (X8 l (Z9 l)) (W1 l) (fun _=>none) n
def Aak (c:List Rl->Bool):Hf (List Rl)->Bool
 | .ok rs _=>c rs
 | _=>false
def Y0 (f:Nat) (e:Int):Hf (List Rl)->Bool
 | .bad f' e'=>Nat.beq f' f&&decide (e'=e)
 | _=>false
theorem ZA {c:List Rl->Bool} {r:Hf (List Rl)} (h:Aak c r=true):∃rs p,r = .ok rs p/\c rs=true:=by
 cases r with
 | ok rs p=>exact⟨rs,p,rfl,h⟩
 | bad f e=>cases h
 | hush=>cases h
theorem Y1 {f:Nat} {e:Int} {r:Hf (List Rl)} (h:Y0 f e r=true):r = .bad f e:=by
 cases r with
 | ok rs p=>cases h
 | bad b a =>
   simp only[Y0,aB,decide_eq_true_eq] at h;rw[Nat.eq_of_beq_eq_true h.1,h.2]
 | hush=>cases h
def Aaa:List Rl->Bool
 | [r]=>decide (r.k=5)&&(match r.b.ks with | [u]=>decide (u.kd=42) | _=>false)
 | _=>false
theorem ZD:Aak Aaa (Aek Z8 60)=true:=by kernel_rfl
theorem ZE:Y0 10 27 (Aek ZM 60)=true:=by kernel_rfl
open Go.Proofs.Tryz
theorem L3 (l:List UInt8) (a:l.length<=4096) (n:Nat) (i:n<=1000000) (w:World) (d:CG w) (g:∀k,k<l.length->(Aj (l.getD k 0)=true\/l.getD k 0=46)->Ac0 l k=true)
  (h:Aek l n ≠ .hush) (e:∀f c,Aek l n = .bad f c->f<=l.length):Calls prog 14 #[.string ⟨l.toArray⟩] w (ZX (W1 l) w (Aek l n)):=by
 have b:(⟨l.toArray⟩:ByteArray).size=l.length:=rfl;exact Aej (nx:=X8 l (Z9 l)) (pl:=W1 l) ⟨l.toArray⟩ (by rw[b];exact a) (Za ⟨l.toArray⟩ (by rw[b];exact a) w d g) (YL ⟨l.toArray⟩ (by rw[b];exact a)) (TZ.none _ _) n i h e
theorem Zw (w:World) (q:CG w):Calls prog 14 #[.string ⟨Z8.toArray⟩] w fun e d=>Below w.heap.size w d/\∃(b c i l:Nat),
  e = .returned (.tuple #[.agg #[.slice (some ⟨b,0,none⟩) 1 c,.slice none 0 0],.complex .f64 0 0,.int .i64 0])/\d.cell? ⟨b,0,none⟩=some (.int .i64 5)/\d.cell? ⟨b,6,none⟩=some (.slice (some ⟨i,0,none⟩) 1 l)/\d.cell? ⟨i,0,none⟩=some (.int .i64 42):=by
 obtain⟨rs,p,j,f⟩:=ZA ZD;have h:=L3 Z8 (by decide) 60 (by decide) w q (by decide) (by rw[j];exact fun h=>nomatch h) (by rw[j];exact fun _ _ h=>nomatch h);rw[j] at h;refine h.mono fun e d x=>?_;obtain⟨s,v,rfl,z⟩:=x;refine⟨s,?_⟩;rcases rs with _ | ⟨r,_ | ⟨G,rs⟩⟩
 ·cases f
 rotate_left
 ·cases f
 simp only[Aaa,aB,decide_eq_true_eq] at f;obtain⟨n,g⟩:=f;obtain⟨b,c,D,F,E,rfl,k,o,m,-,-,-,-,-,c6,-,-⟩:=z.at 0 (by simp);obtain rfl:r=D:=(by simpa using k);have a:=o.2;dsimp only at a;generalize y:r.b.ks=ks at g a;rcases ks with _ | ⟨u,_ | ⟨u2,ks⟩⟩
 ·cases g
 rotate_left
 ·cases g
 have B:u.kd=42:=(by simpa using g);obtain⟨i,l,C,rfl,t,A,-,k0,-⟩:=a.cells 0 (by simp);obtain rfl:u=t:=(by simpa using A);exact⟨b,c,i,l,rfl,by rw[n] at m;exact m,c6,by rw[B] at k0;exact k0⟩
theorem Zd:W1 ZM 10=(4607182418800017408,4622382067542392832):=by decide +kernel
theorem Zx (w:World) (g:CG w):Calls prog 14 #[.string ⟨ZM.toArray⟩] w fun e c=>Below w.heap.size w c/\e = .returned (.tuple #[.agg #[.slice none 0 0,.slice none 0 0],.complex .f64 4607182418800017408 4622382067542392832,.int .i64 27]):=by
 have a:=Y1 ZE;have h:=L3 ZM (by decide) 60 (by decide) w g (by decide) (by rw[a];exact fun h=>nomatch h) (by rw[a];intro f e h;injection h with d k;rw[<- d];decide);rw[a] at h;refine h.mono fun e c j=>?_;obtain⟨i,b⟩:=j;rw[Zd] at b;exact⟨i,b⟩
theorem XJ (w:World) (g:CG w):Calls prog 7 #[] w fun e o=>e = .returned (.bool true)/\Below w.heap.size w o:=by
 have j:=Lib.hid (Zw w g);have k:=Lib.hid (fun W (m:Below w.heap.size w W)=>Zx W (g.below m));have n:∀w,Sem.run prog (binOp .eql 40 (.complex .f64 4607182418800017408 4622382067542392832) (.complex .f64 4607182418800017408 4622382067542392832)) w = .ok (.bool true) w:=by intro w;kernel_rfl
 clear g
 go_in
 go_wp2_with (first | (go_at_call 14;(with_reducible refine j.out.mono ?_);rintro e i ⟨d,b,c,t,u,rfl,h,c6,k0⟩;have HC:=Lib.hid (And.intro d (And.intro h (And.intro c6 k0)));clear d h c6 k0) | (go_at_call 14;(with_reducible refine(k.out _ (HC.out.1.trans ((Ad _ _).mono HC.out.1.size))).mono ?_);rintro e v ⟨a,rfl⟩;have f:(i.alloc (.cells #[.slice (some ⟨b,0,none⟩) 1 c,.slice none 0 0] 33)).cell? ⟨i.heap.size,0,none⟩=some (.slice (some ⟨b,0,none⟩) 1 c):=(by rw[World.cell?_alloc_at _ _ _ _ rfl];rfl);have p:=Az (Aa f a) (.cells #[.slice none 0 0,.slice none 0 0] 33);have q:=Az (Aa (Az HC.out.2.1 _) a) (.cells #[.slice none 0 0,.slice none 0 0] 33);have r:=Az (Aa (Az HC.out.2.2.1 _) a) (.cells #[.slice none 0 0,.slice none 0 0] 33);have s:=Az (Aa (Az HC.out.2.2.2 _) a) (.cells #[.slice none 0 0,.slice none 0 0] 33);have l:=Lib.hid ((HC.out.1.trans ((Ad _ _).mono HC.out.1.size)).trans ((a.trans ((Ad _ (.cells #[.slice none 0 0,.slice none 0 0] 33)).mono a.size)).mono (by have:=HC.out.1.size;simp;omega)));clear a f))
 go_ret;exact⟨rfl,l.out⟩
def O1 (n:Int) (m:Nat):Nat:=(if n.tmod m<0 then n.tmod m+m else n.tmod m).toNat
theorem XK (n:Int) (m:Nat) (a:0<m):O1 n m<m:=by
 have c:=aC n (b:=(m:Int)) (by omega);have d:=aD n (b:=(m:Int)) (by omega);unfold O1;split<;>omega
theorem V5 (n:Int) (m:Nat) (w:World) (f:0<m) (c:m<=maxLen):Calls prog 6 #[.int .i64 n,.int .i64 m] w fun e d=>e = .returned (.int .i64 (O1 n m))/\w=d:=by
 have g:=aC n (b:=(m:Int)) (by omega);have i:=aD n (b:=(m:Int)) (by omega);unfold maxLen at c;by_cases h:n.tmod m<0
 ·have a:Hid ((O1 n m:Int)=n.tmod m+m):=by unfold Hid O1;rw[if_pos h];omega
  go_in
  go_wp2;go_ret;exact⟨by rw[a.out];rfl,rfl⟩
 have a:Hid ((O1 n m:Int)=n.tmod m):=by unfold Hid O1;rw[if_neg h];omega
 go_in
 go_wp2;go_ret;exact⟨by rw[a.out];rfl,rfl⟩
end Go.Proofs.YtfblenhlildnaaaGreatDoor
