/- Ie Lb Ld -/
import Derived.Test.YtfblenhlildnaaaGreatDoorAw
import Derived.Test.YtfblenhlildnaaaGreatDoorLc
open Bool renaming false_eq_true->aA
open Nat renaming le_refl->aB
namespace Go.Proofs.YtfblenhlildnaaaGreatDoor
set_option linter.unusedSimpArgs false
section
variable (nx:Nat->Bool->Tk) (pl:Nat->Nat×Nat) (ere:List UInt8->Option Bool)
def Af2 (z:Nat×Nat) (l:List Tr) (n:Nat) (s:Rs):RO (List Tr):=(Aaq nx pl ere n .body s).bind fun m s => .ok [.mk 34 [] 0 z (l++m)] s
def Aed (z:Nat×Nat) (l:List Tr) (n:Nat) (s:Rs):RO (List Tr):=(isR nx [41] s).bind fun b s=>(if b=true then .ok [AbO] s else Aaq nx pl ere n .simple s).bind fun u s=>(wantR nx pl [41] s).bind fun _ s=>(linesR nx [] n s).bind fun _ s=>Af2 nx pl ere z (l++u) n s
def Aec (z:Nat×Nat) (l:List Tr) (n:Nat) (s:Rs):RO (List Tr):=(isR nx [59] s).bind fun b s=>(if b=true then .ok [AbO] s else B0 nx pl ere n .expr s).bind fun u s=>(wantR nx pl [59] s).bind fun _ s=>(linesR nx [] n s).bind fun _ s=>Aed nx pl ere z (l++u) n s
def Ae5 (z:Nat×Nat) (n:Nat) (s:Rs):RO (List Tr):=(isR nx [59] s).bind fun b s=>(if b=true then .ok [AbO] s else Aaq nx pl ere n .simple s).bind fun u s=>(wantR nx pl [59] s).bind fun _ s=>(linesR nx [] n s).bind fun _ s=>Aec nx pl ere z u n s
def AhI (z:Nat×Nat) (l:List Tr) (n:Nat) (p:Ps):Hf (List Tr):=(Abh nx pl ere n .body p).bind fun m p => .ok [.mk 34 [] 0 z (l++m)] p
def Agl (z:Nat×Nat) (l:List Tr) (n:Nat) (p:Ps):Hf (List Tr):=(Eb nx true { p with outs := -1 }).bind fun u p=>(if isS u [41]=true then .ok [AbO] p else Abh nx pl ere n .simple p).bind fun v p=>(Abb nx pl [41] p).bind fun _ p=>(Lf nx true n { p with outs := -1 }).bind fun _ p=>AhI nx pl ere z (l++v) n p
def Agk (z:Nat×Nat) (l:List Tr) (n:Nat) (p:Ps):Hf (List Tr):=(Eb nx true p).bind fun u p=>(if isS u [59]=true then .ok [AbO] p else Dn nx pl ere n .expr p).bind fun y p=>(Abb nx pl [59] p).bind fun _ p=>(Lf nx true n p).bind fun _ p=>Agl nx pl ere z (l++y) n p
def Ae4 (z:Nat×Nat) (n:Nat) (p:Ps):Hf (List Tr):=(Eb nx true { p with outs := -1 }).bind fun u p=>(if isS u [59]=true then .ok [AbO] p else Abh nx pl ere n .simple p).bind fun x p=>(Abb nx pl [59] p).bind fun _ p=>(Lf nx true n { p with outs := -1 }).bind fun _ p=>Agk nx pl ere z x n p
end
section
variable {nx:Nat->Bool->Tk} {pl:Nat->Nat×Nat} {ere:List UInt8->Option Bool} {p:Ps} {s:Rs} {n:Nat} {f:Nat} {e:Int} {α:Type}
theorem AcZ (d:∀a,nx a true=nx a false) (x:List UInt8) {F:Nat->Rs->RO (List Tr)} {L:Nat->List Tr->Rs->RO (List Tr)} (hF:∀s,Abe nx pl f e s->DD nx pl f e (fun n=>F n s)) (g:∀l s,Abe nx pl f e s->DD nx pl f e (fun n=>L n l s)) (c:Abe nx pl f e s) :
  DD nx pl f e (fun n=>(isR nx x s).bind fun b s=>(if b=true then .ok [AbO] s else F n s).bind fun u s=>(wantR nx pl x s).bind fun _ s=>(linesR nx [] n s).bind fun _ s=>L n u s):=by
 simp only[c.isR,RO.bind,aA,if_false];exact DD.bind (hF s c) fun l s c=>DD.bind (AcA d c x) fun _ s c=>DD.bind (Ab6 c []) fun _ s c=>g l s c
theorem AdS (H:Abi nx) (x:List UInt8) (k:x∈[[40],[41],[91],[93],[123],[125],[44],[59],[58]]) {g:Bool} (B:Ps->Hf (List Tr)) {F:Nat->Rs->RO (List Tr)} {T:Ps->Ps} (t:∀p s,Re p s->Re (T p) s) {M:List Tr->Ps->Hf (List Tr)} {L:Nat->List Tr->Rs->RO (List Tr)}
  (q:∀p s,Re p s->s.g=g->Abg nx pl g (B p) (fun n=>F n s))
  (hF:∀f e s,Abe nx pl f e s->DD nx pl f e (fun n=>F n s)) (r:∀l p s,Re p s->s.g=g->Abg nx pl g (M l p) (fun n=>L n l s)) (j:∀f e l s,Abe nx pl f e s->DD nx pl f e (fun n=>L n l s)) (p:Ps) (s:Rs) (h:Re p s) (i:s.g=g) :
  Abg nx pl g ((Eb nx true p).bind fun u p=>(if isS u x=true then .ok [AbO] p else B p).bind fun v p=>(Abb nx pl x p).bind fun _ p=>(Lf nx true n (T p)).bind fun _ p=>M v p)
   (fun n=>(isR nx x s).bind fun b s=>(if b=true then .ok [AbO] s else F n s).bind fun u s=>(wantR nx pl x s).bind fun _ s=>(linesR nx [] n s).bind fun _ s=>L n u s):=by
 refine h.peek H true (fun m=>?_) (fun d=>AcZ H.op x (hF _ _) (j _ _) d);have z:=h.isZ H x m k;simp only[z,RO.bind]
 have o:Abg nx pl g (if isS (nx p.a false) x=true then .ok [AbO] p else B p) (fun n=>if isS (nx p.a false) x=true then .ok [AbO] s else F n s):=by
  by_cases c:isS (nx p.a false) x=true
  ·simp only[c,if_true];exact Rel.ok rfl h i
  simp only[c,aA,if_false];exact q p s h i
 refine Rel.bind o (fun l y p s w h i=>?_) (fun f e l s d=>DD.bind (AcA H.op d x) fun _ s d=>DD.bind (Ab6 d []) fun _ s d=>j f e l s d);subst w;refine Rel.bind (i▸h.want H x k) (fun _ _ p s _ h i=>?_) (fun f e _ s d=>DD.bind (Ab6 d []) fun _ s d=>j f e l s d);refine Rel.bind (i▸Re.lines H true n _ s (t p s h)) (fun _ _ p s _ h i=>?_) (fun f e _ s d=>j f e l s d);exact r l p s h i
theorem Af5 (c:∀a,nx a true=nx a false) (z:Nat×Nat) (l:List Tr) (b:Abe nx pl f e s):DD nx pl f e (fun n=>Af2 nx pl ere z l n s):=DD.bind (Ac3 c s b) fun _ _ b=>DD.ok b
theorem AeZ (b:∀a,nx a true=nx a false) (z:Nat×Nat) (l:List Tr) (c:Abe nx pl f e s):DD nx pl f e (fun n=>Aed nx pl ere z l n s) :=
 AcZ b [41] (fun s c=>(Ab3 b s c).dd) (fun u _ c=>Af5 b z (l++u) c) c
theorem AeY (b:∀a,nx a true=nx a false) (z:Nat×Nat) (l:List Tr) (c:Abe nx pl f e s):DD nx pl f e (fun n=>Aec nx pl ere z l n s) :=
 AcZ b [59] (fun s c=>(Ac4 b s c).dd) (fun u _ c=>AeZ b z (l++u) c) c
theorem AgP (b:∀a,nx a true=nx a false) (z:Nat×Nat) (c:Abe nx pl f e s):DD nx pl f e (fun n=>Ae5 nx pl ere z n s) :=
 AcZ b [59] (fun s c=>(Ab3 b s c).dd) (fun u _ c=>AeY b z u c) c
theorem AhQ (E:EV nx pl ere n) (z:Nat×Nat) (l:List Tr) (p:Ps) (s:Rs) (h:Re p s):Abg nx pl s.g (AhI nx pl ere z l n p) (fun n=>Af2 nx pl ere z l n s) :=
 Rel.bind (E.body p s h) (fun x y p s c h b=>by subst c;exact Rel.ok rfl h b) (fun f e y s a=>DD.ok a)
theorem Ag6 (H:Abi nx) (E:EV nx pl ere n) (z:Nat×Nat) (l:List Tr) (p:Ps) (s:Rs) (h:Re p s):Abg nx pl s.g (Agl nx pl ere z l n p) (fun n=>Aed nx pl ere z l n s) :=
 AdS H [41] (by decide) (T:=fun p=>{ p with outs := -1 }) (Abh nx pl ere n .simple) (fun _ _ h=>h.outs _) (fun p s h b=>b▸E.simple p s h) (fun _ _ s a=>(Ab3 H.op s a).dd) (fun u p s h b=>b▸AhQ E z (l++u) p s h) (fun _ _ u s a=>Af5 H.op z (l++u) a) { p with outs := -1 } s (h.outs _) rfl
theorem Ag5 (H:Abi nx) (E:EV nx pl ere n) (z:Nat×Nat) (l:List Tr) (p:Ps) (s:Rs) (h:Re p s):Abg nx pl s.g (Agk nx pl ere z l n p) (fun n=>Aec nx pl ere z l n s) :=
 AdS H [59] (by decide) (T:=fun p=>p) (Dn nx pl ere n .expr) (fun _ _ h=>h) (fun p s h b=>b▸(Ab7 (pl:=pl) (ere:=ere) H n).expr p s h) (fun _ _ s a=>(Ac4 H.op s a).dd) (fun u p s h b=>b▸Ag6 H E z (l++u) p s h) (fun _ _ u s a=>AeZ H.op z (l++u) a) p s h rfl
theorem Ag4 (H:Abi nx) (E:EV nx pl ere n) (z:Nat×Nat) (p:Ps) (s:Rs) (h:Re p s):Abg nx pl s.g (Ae4 nx pl ere z n p) (fun n=>Ae5 nx pl ere z n s) :=
 AdS H [59] (by decide) (T:=fun p=>{ p with outs := -1 }) (Abh nx pl ere n .simple) (fun _ _ h=>h.outs _) (fun p s h b=>b▸E.simple p s h) (fun _ _ s a=>(Ab3 H.op s a).dd) (fun u p s h b=>b▸Ag5 H E z u p s h) (fun _ _ u s a=>AeY H.op z u a) { p with outs := -1 } s (h.outs _) rfl
theorem AhT (H:Abi nx) (E:EV nx pl ere n) (z:Nat×Nat) (p:Ps) (s:Rs) (h:Re p s) :
  Abg nx pl s.g ((Abb nx pl [40] p).bind fun _ p =>
         if AcQ nx p=true then
          (Abb nx pl [41] { p with a:=(nx (nx (nx p.a true).t false).t false).t }).bind fun _ q=>(Lf nx true n { q with outs := -1 }).bind fun _ q=>(Abh nx pl ere n .body q).bind fun m q =>
            .ok [.mk 35 (nx (nx (nx p.a true).t false).t false).tx 0 z (.mk 4 (nx p.a true).tx 0 (pl (nx p.a true).f) []::m)] q
         else Ae4 nx pl ere z n p)
   (fun i=>Aaq nx pl ere i (.loop z) s):=by
 refine Rel.succ ?_;simp only[Aaq];refine Rel.bind (h.want H [40] (by decide)) (fun _ _ p s _ h j=>?_) (fun f e _ r b=>?_)
 rotate_left
 ·by_cases k:r.e=0
  ·have hF:Ae6 nx r=false:=by
    show (decide ((nx r.a false).e=0)&&_)=false;rw[decide_eq_false (b.tok k)];rfl
   simp only[k,ne_eq,not_true_eq_false,if_false,hF,aA];have:=AgP (ere:=ere) H.op z b;unfold Ae5 Aec Aed Af2 at this;exact this
  simp only[k,ne_eq,not_false_eq_true,if_true];exact DD.ok b
 have hF:Ae6 nx s=AcQ nx p:=by unfold Ae6 AcQ;rw[h.a,H.op]
 have u:nx s.a false=nx p.a true:=(by rw[h.a,H.op]);simp only[show (s.e≠0)=False from eq_false fun d=>d h.e,if_false,hF,u];by_cases c:AcQ nx p=true
 ·simp only[c,if_true]
  have l:Re { p with a:=(nx (nx (nx p.a true).t false).t false).t } { s with a:=(nx (nx (nx p.a true).t false).t false).t }:=⟨rfl,h.o,h.e⟩;refine j▸Rel.bind (l.want H [41] (by decide)) (fun _ _ p s _ h j=>?_) (fun f e _ s b=>Ad6 H.op b fun _ _ b=>DD.ok b);exact Ad_ H E { p with outs := -1 } s (h.outs _) j (fun m p s h j=>Rel.ok rfl h j) (fun f e m s b=>DD.ok b)
 simp only[c,aA,if_false];have:=j▸Ag4 H E z p s h;unfold Ae5 Aec Aed Af2 at this;exact this
theorem Ahe (H:Abi nx) (E:EV nx pl ere n) (p:Ps) (s:Rs) (h:Re p s):Abg nx pl s.g (Abh nx pl ere (n+1) .stmt p) (fun m=>Aaq nx pl ere m .stmt s):=by
 refine Rel.succ ?_
 have A:Abh nx pl ere (n+1) .stmt p=(Eb nx true { p with outs := -1 }).bind fun t p =>
       if XI t [105,102]=true then
        (Dn nx pl ere n .cond1 (CQ t p)).bind fun l p=>(Lf nx true n p).bind fun _ p=>(Abh nx pl ere n .body p).bind fun m p=>(Acv nx n p).bind fun c p =>
          if c=true then (Lf nx true n p).bind fun _ p=>(Abh nx pl ere n .body p).bind fun y p => .ok [.mk 31 [] 0 (pl t.f) (l++m++y)] p else .ok [.mk 31 [] 0 (pl t.f) (l++m)] p
       else if XI t [119,104,105,108,101]=true then
        (Dn nx pl ere n .cond1 (CQ t p)).bind fun l p=>(Lf nx true n p).bind fun _ p=>(Abh nx pl ere n .body p).bind fun m p => .ok [.mk 32 [] 0 (pl t.f) (l++m)] p
       else if XI t [100,111]=true then
        (Lf nx true n (CQ t p)).bind fun _ p=>(Abh nx pl ere n .body p).bind fun l p=>(LB nx false n p).bind fun u p =>
          if XI u [119,104,105,108,101]=true then (Dn nx pl ere n .cond1 (CQ u p)).bind fun m p=>(Y4 nx p).bind fun _ p => .ok [.mk 33 [] 0 (pl t.f) (l++m)] p else JF u p
       else if XI t [102,111,114]=true then
        (Abb nx pl [40] (CQ t p)).bind fun _ p =>
          if AcQ nx p=true then
           (Abb nx pl [41] { p with a:=(nx (nx (nx p.a true).t false).t false).t }).bind fun _ q=>(Lf nx true n { q with outs := -1 }).bind fun _ q=>(Abh nx pl ere n .body q).bind fun m q =>
             .ok [.mk 35 (nx (nx (nx p.a true).t false).t false).tx 0 (pl t.f) (.mk 4 (nx p.a true).tx 0 (pl (nx p.a true).f) []::m)] q
          else Ae4 nx pl ere (pl t.f) n p
       else if isS t [123]=true then Abh nx pl ere n .block p
       else (Abh nx pl ere n .simple p).bind fun l p=>(Y4 nx p).bind fun _ p => .ok l { p with outs := -1 }:=by
  simp only[Abh,Ae4,Agk,Agl,AhI,AbO]
 rw[A];clear A;refine(h.outs (-1)).peek H true (fun d=>?_) (fun b=>?_)
 rotate_left
 ·obtain⟨x,r,G,N,I⟩:=(AdT (ere:=ere) H.op s b).dd (nx:=nx)
  exact⟨x,r,G,N,fun m O=>I (m+1) (by omega)⟩
 have h:=h.outs (-1);generalize ({ p with outs := -1 }:Ps)=p at h d ⊢;have L:nx s.a true=nx p.a false:=(by rw[h.a,H.op]);have M:=h.isZ H [123] d (by decide);have B:=h.takeW (pl:=pl) H [105,102] d (by decide) rfl rfl;have C:=h.takeW (pl:=pl) H [119,104,105,108,101] d (by decide) rfl rfl;have D:=h.takeW (pl:=pl) H [100,111] d (by decide) rfl rfl;have F:=h.takeW (pl:=pl) H [102,111,114] d (by decide) rfl rfl;simp only[Aaq,Abo,L,M,RO.bind];by_cases j:isS (nx p.a false) [123]=true
 ·have K:∀x,XI (nx p.a false) x=false:=fun x=>Adi _ _ _ j
  simp only[K,aA,if_false,j,if_true];exact E.block p s h
 simp only[j,aA,if_false];have i:=h.took (nx p.a false);by_cases o:XI (nx p.a false) [105,102]=true
 ·simp only[B,o,RO.bind,if_true]
  exact Aim H E _ _ _ i
 simp only[B,o,RO.bind,aA,if_false];by_cases v:XI (nx p.a false) [119,104,105,108,101]=true
 ·simp only[C,v,RO.bind,if_true]
  exact Agf H E _ _ _ i
 simp only[C,v,RO.bind,aA,if_false];by_cases w:XI (nx p.a false) [100,111]=true
 ·simp only[D,w,RO.bind,if_true]
  exact Ail H E _ _ _ i
 simp only[D,w,RO.bind,aA,if_false];by_cases z:XI (nx p.a false) [102,111,114]=true
 ·simp only[F,z,RO.bind,if_true]
  exact AhT H E _ _ _ i
 simp only[F,z,RO.bind,aA,if_false];refine Rel.bind (E.simple p s h) (fun x y p s J h k=>?_) (fun f e y s b=>DD.bind (AcY H.op b) fun _ s b=>DD.ok b);subst J;refine Rel.bind (k▸h.ends H) (fun _ _ p s _ h k=>?_) (fun f e _ s b=>DD.ok b);exact Rel.ok rfl (h.outs _) k
theorem Agg (H:Abi nx):∀n,EV nx pl ere n
 | 0=>⟨fun _ _ _=>trivial,fun _ _ _=>trivial,fun _ _ _=>trivial,fun _ _ _ _ _=>trivial,fun _ _ _=>trivial,fun _ _ _=>trivial⟩
 | n+1 =>
   have E:=Agg H n
   ⟨Ahe H E,Afx H E.many,Af_ H E,Aft H E,Ag0 H E,Ag9 H n⟩
end
set_option linter.unusedSimpArgs false
theorem RO.ite_bind {α d:Type} (c:Prop) [Decidable c] (a b:RO α) (k:α->Rs->RO d):(if c then a else b).bind k=if c then a.bind k else b.bind k:=by split<;>rfl
theorem RO.ok_bind {α a:Type} (x:α) (s:Rs) (k:α->Rs->RO a):(RO.ok x s).bind k=k x s:=rfl
theorem RO.hush_bind {α a:Type} (k:α->Rs->RO a):(RO.hush:RO α).bind k = .hush:=rfl
section
variable (nx:Nat->Bool->Tk) (pl:Nat->Nat×Nat) (ere:List UInt8->Option Bool)
def AcR (n:Nat) (z:Nat×Nat) (k:Int) (l:List Tr) (p:Ps):Hf Rl:=(Eb nx false p).bind fun t p =>
 if isS t [123]=true then (Abh nx pl ere n .block p).bind fun b p => .ok ⟨k,0,l,hd1 b,z⟩ p
 else if t.kd≠1/\t.kd≠0/\isS t [59]=false then JF t p
 else .ok ⟨k,0,l,.mk 30 [] 0 z [.mk 42 [] 0 z []],z⟩ p
def Aei (n:Nat) (z:Nat×Nat) (p:Ps):Hf Rl :=
 (Dn nx pl ere n .expr p).bind fun l p=>(Ab_ nx [44] p).bind fun q p =>
   if q=true then (Abb nx pl [44] p).bind fun _ p=>(Lf nx true n p).bind fun _ p=>(Dn nx pl ere n .expr p).bind fun m p=>AcR nx pl ere n z 7 (l++m) p
   else AcR nx pl ere n z 6 l p
def AcT (n:Nat) (t:Tk) (p:Ps):Hf Rl :=
 if XI t [66,69,71,73,78]=true then (Abh nx pl ere n .block (CQ t p)).bind fun b p => .ok ⟨1,0,[],hd1 b,pl t.f⟩ p
 else if XI t [69,78,68]=true then (Abh nx pl ere n .block (CQ t p)).bind fun b p => .ok ⟨2,0,[],hd1 b,pl t.f⟩ p
 else if XI t [71,65,80]=true then (Abh nx pl ere n .block (CQ t p)).bind fun b p => .ok ⟨4,0,[],hd1 b,pl t.f⟩ p
 else if XI t [69,86,69,82,89]=true then .hush
 else if isS t [123]=true then (Abh nx pl ere n .block p).bind fun b p => .ok ⟨5,0,[],hd1 b,pl t.f⟩ p
 else Aei nx pl ere n (pl t.f) p
def Ade:Nat->List Rl->Ps->Hf (List Rl)
 | 0,_,_ => .hush
 | n+1,l,p=>(LB nx true n p).bind fun t p =>
    if t.kd=0 then .ok l p else if XI t [102,117,110,99,116,105,111,110]=true then .hush
    else (AcT nx pl ere n t p).bind fun u p=>Ade n (l++[u]) p
def Aeg (u:Rl) (s:Rs):RO Rl:=if s.e≠0 then .ok u s else
 (AbG nx pl false s).bind fun t s=>if s.e=0/\t.kd≠1/\t.kd≠0/\isS t [59]=false then .ok u (Abj pl t s) else .ok u s
def Adf (n:Nat) (z:Nat×Nat) (k:Int) (l:List Tr) (s:Rs):RO Rl:=(isR nx [123] s).bind fun b s =>
 if b=true then (Aaq nx pl ere n .block s).bind fun x s => .ok ⟨k,0,l,hd1 x,z⟩ s else Aeg nx pl ⟨k,0,l,.mk 30 [] 0 z [.mk 42 [] 0 z []],z⟩ s
def Afh (n:Nat) (z:Nat×Nat) (s:Rs):RO Rl:=(B0 nx pl ere n .expr s).bind fun l s=>(takeR nx pl [44] s).bind fun c s =>
 if c=true then (linesR nx [] n s).bind fun _ s=>(B0 nx pl ere n .expr s).bind fun m s=>Adf nx pl ere n z 7 (l++m) s else Adf nx pl ere n z 6 l s
def Ae_ (n:Nat) (s:Rs):RO Rl:=(Abo nx pl true s).bind fun h s =>
 (takeR nx pl [66,69,71,73,78] s).bind fun b s=>if b=true then (Aaq nx pl ere n .block s).bind fun l s => .ok ⟨1,0,[],hd1 l,h.2⟩ s else
 (takeR nx pl [69,78,68] s).bind fun b s=>if b=true then (Aaq nx pl ere n .block s).bind fun l s => .ok ⟨2,0,[],hd1 l,h.2⟩ s else
 (takeR nx pl [71,65,80] s).bind fun b s=>if b=true then (Aaq nx pl ere n .block s).bind fun l s => .ok ⟨4,0,[],hd1 l,h.2⟩ s else
 (takeR nx pl [69,86,69,82,89] s).bind fun b s=>if b=true then .hush else
 (isR nx [123] s).bind fun b s=>if b=true then (Aaq nx pl ere n .block s).bind fun l s => .ok ⟨5,0,[],hd1 l,h.2⟩ s else Afh nx pl ere n h.2 s
theorem Ahr (n:Nat) (s:Rs):Ab5 nx pl ere n s=Ae_ nx pl ere n s:=by
 unfold Ab5 AeS Ae_ Afh Adf Aeg;simp only[RO.assoc,RO.ite_bind,RO.ok_bind,RO.hush_bind,or_true,if_true,aA,or_false,if_false]
end
section
variable {nx:Nat->Bool->Tk} {pl:Nat->Nat×Nat} {ere:List UInt8->Option Bool} {p:Ps} {s:Rs} {n:Nat} {f:Nat} {e:Int} {α:Type}
theorem AgQ (c:∀a,nx a true=nx a false) (u:Rl) (b:Abe nx pl f e s):DD nx pl f e (fun _=>Aeg nx pl u s):=by
 unfold Aeg;by_cases d:s.e=0
 ·obtain⟨r,h,g,i,-⟩:=b.see c false
  have j:¬ r.e=0:=by rw[g];exact b.1
  simp only[d,ne_eq,not_true_eq_false,if_false,h,RO.bind,j,false_and];exact DD.ok (Abe.of b.1 g i)
 simp only[d,ne_eq,not_false_eq_true,if_true];exact DD.ok b
theorem Acz (b:∀a,nx a true=nx a false) (z:Nat×Nat) (k:Int) (l:List Tr) (c:Abe nx pl f e s):DD nx pl f e (fun n=>Adf nx pl ere n z k l s):=by
 unfold Adf;simp only[c.isR,RO.bind,aA,if_false];exact AgQ b _ c
def AgM (nx:Nat->Bool->Tk) (pl:Nat->Nat×Nat) (g:Bool) (o:Hf Rl) (F:Nat->RO Rl):Prop:=Rel nx pl g (fun x y=>x=y) o F
theorem Ac9 (E:EV nx pl ere n) (k:Int) (l:List Tr) (z:Nat×Nat) (p:Ps) (s:Rs) (h:Re p s) :
  AgM nx pl s.g ((Abh nx pl ere n .block p).bind fun b p => .ok ⟨k,0,l,hd1 b,z⟩ p) (fun m=>(Aaq nx pl ere m .block s).bind fun x s => .ok ⟨k,0,l,hd1 x,z⟩ s) :=
 Rel.bind (E.block p s h) (fun x y p s d h c=>by subst d;exact Rel.ok rfl h c) (fun f e y s a=>DD.ok a)
theorem Ae3 (H:Abi nx) (E:EV nx pl ere n) (z:Nat×Nat) (k:Int) (l:List Tr) (p:Ps) (s:Rs) (h:Re p s):AgM nx pl s.g (AcR nx pl ere n z k l p) (fun m=>Adf nx pl ere m z k l s):=by
 unfold AcR Adf;refine h.peek H false (fun b=>?_) (fun i=>Acz H.op z k l i);have j:=h.isZ H [123] b (by decide);simp only[j,RO.bind];by_cases c:isS (nx p.a false) [123]=true
 ·simp only[c,if_true]
  exact Ac9 E k l z p s h
 simp only[c,aA,if_false];have f:=h.seeY (pl:=pl) b;unfold Aeg;simp only[h.e,ne_eq,not_true_eq_false,if_false,f,RO.bind,true_and];by_cases d:(nx p.a false).kd≠1/\(nx p.a false).kd≠0/\isS (nx p.a false) [59]=false
 ·rw[if_pos d,if_pos d]
  exact h.wrong H
 rw[if_neg d,if_neg d];exact Rel.ok rfl h rfl
theorem Aha (H:Abi nx) (E:EV nx pl ere n) (z:Nat×Nat) (p:Ps) (s:Rs) (h:Re p s):AgM nx pl s.g (Aei nx pl ere n z p) (fun m=>Afh nx pl ere m z s):=by
 unfold Aei Afh;have A:=Ab7 (pl:=pl) (ere:=ere) H n;refine Rel.bind (A.expr p s h) (fun l y p s j h d=>?_) (fun f e y s b=>?_)
 rotate_left
 ·simp only[b.takeR,RO.bind,aA,if_false]
  exact Acz H.op z 6 _ b
 subst j;rw[Abp];refine h.peek H false (fun k=>?_) (fun b=>?_)
 rotate_left
 ·simp only[b.takeR,RO.bind,aA,if_false]
  exact Acz H.op z 6 _ b
 have i:=h.takeP (pl:=pl) [44] k (by rfl) (by rfl);rw[AbA H _ _ (by decide)] at i;by_cases c:isS (nx p.a false) [44]=true
 ·rw[if_pos c]
  rw[if_pos c] at i;simp only[i,AbR (pl:=pl) [44] p k c rfl rfl,RO.bind,Hf.bind,if_true];have o:=h.took (nx p.a false);refine d▸Rel.bind (Re.lines H true n _ _ o) (fun _ _ p s _ h d=>?_) (fun f e _ s b=>DD.bind (Ac4 H.op s b).dd fun _ s b=>Acz H.op z 7 _ b);refine d▸Rel.bind (A.expr p s h) (fun x y p s j h d=>?_) (fun f e y s b=>Acz H.op z 7 _ b);subst j;exact d▸Ae3 H E z 7 (l++x) p s h
 rw[if_neg c];rw[if_neg c] at i;simp only[i,RO.bind,aA,if_false];exact d▸Ae3 H E z 6 l p s h
theorem Ahd (H:Abi nx) (E:EV nx pl ere n) (p:Ps) (s:Rs) (h:Re p s) (b:(nx p.a false).e=0):AgM nx pl s.g (AcT nx pl ere n (nx p.a false) p) (fun m=>Ae_ nx pl ere m s):=by
 unfold AcT Ae_;have r:nx s.a true=nx p.a false:=(by rw[h.a,H.op]);have d:=h.isZ H [123] b (by decide);have l:=h.takeW (pl:=pl) H [66,69,71,73,78] b (by decide) rfl rfl;have o:=h.takeW (pl:=pl) H [69,78,68] b (by decide) rfl rfl;have q:=h.takeW (pl:=pl) H [71,65,80] b (by decide) rfl rfl;have t:=h.takeW (pl:=pl) H [69,86,69,82,89] b (by decide) rfl rfl;have c:=h.took (nx p.a false);simp only[Abo,r,d,RO.bind];by_cases f:XI (nx p.a false) [66,69,71,73,78]=true
 ·simp only[l,f,RO.bind,if_true]
  exact Ac9 E 1 [] _ _ _ c
 simp only[l,f,RO.bind,aA,if_false];by_cases i:XI (nx p.a false) [69,78,68]=true
 ·simp only[o,i,RO.bind,if_true]
  exact Ac9 E 2 [] _ _ _ c
 simp only[o,i,RO.bind,aA,if_false];by_cases j:XI (nx p.a false) [71,65,80]=true
 ·simp only[q,j,RO.bind,if_true]
  exact Ac9 E 4 [] _ _ _ c
 simp only[q,j,RO.bind,aA,if_false];by_cases k:XI (nx p.a false) [69,86,69,82,89]=true
 ·simp only[k,if_true]
  trivial
 simp only[t,k,RO.bind,aA,if_false];by_cases c5:isS (nx p.a false) [123]=true
 ·simp only[d,c5,RO.bind,if_true]
  exact Ac9 E 5 [] _ _ _ h
 simp only[d,c5,RO.bind,aA,if_false];exact Aha H E _ _ _ h
theorem Ahh (h:∀a,nx a true=nx a false) (l:List Rl) (i:List Fu) (s:Rs) (b:Abe nx pl f e s):FD pl f e (fun n=>AbM nx pl ere n l i s):=by
 refine FD.succ ?_;by_cases g:s.e=0
 ·obtain⟨N,p⟩:=b.lines [59]
  obtain⟨r,c,d,j,-⟩:=b.see h true;have o:¬ r.e=0:=by rw[d];exact b.1
  refine⟨(l,i),r,⟨b.1,d,j⟩,N,fun m k=>?_⟩;simp only[AbM,g,ne_eq,not_true_eq_false,if_false,p m k,RO.bind,c,o,not_false_eq_true,true_or,if_true]
 rcases b.2 with⟨c,d⟩ | ⟨c,-⟩
 ·simp only[AbM,g,ne_eq,not_false_eq_true,if_true]
  exact FD.ok ⟨b.1,c,d⟩
 exact absurd c g
def Ado (pl:Nat->Nat×Nat) (o:Hf (List Rl)) (F:Nat->RO (List Rl×List Fu)):Prop :=
 match o with
 | .ok x _=>∃s,s.e=0/\Ev F (.ok (x,[]) s)
 | .bad f e=>FD pl f e F
 | .hush=>True
theorem Ado.after {c:Type} {o:Hf (List Rl)} {F:Nat->RO c} {K:Nat->c->Rs->RO (List Rl×List Fu)} {x:c} {r:Rs} (h:Ev F (.ok x r)) (d:Ado pl o (fun m=>K m x r)):Ado pl o (fun m=>(F m).bind (K m)):=by
 cases o with
 | hush=>trivial
 | bad f e=>obtain⟨y,u,i,b⟩:=d;exact⟨y,u,i,h.bind b⟩
 | ok a q=>obtain⟨u,g,b⟩:=d;exact⟨u,g,h.bind b⟩
theorem FD.after {c:Type} {F:Nat->RO c} {K:Nat->c->Rs->RO α} (h:DD nx pl f e F) (g:∀x s,Abe nx pl f e s->FD pl f e (fun n=>K n x s)):FD pl f e (fun n=>(F n).bind (K n)):=by
 obtain⟨x,s,d,i⟩:=h;obtain⟨y,r,a,b⟩:=g x s d;exact⟨y,r,a,i.bind b⟩
theorem Ado.succ {o:Hf (List Rl)} {F:Nat->RO (List Rl×List Fu)} (h:Ado pl o (fun n=>F (n+1))):Ado pl o F:=by
 cases o with
 | hush=>trivial
 | bad f e=>exact FD.succ h
 | ok a q=>obtain⟨u,b,c⟩:=h;exact⟨u,b,c.succ⟩
theorem Ae2 (H:Abi nx):∀(n:Nat) (l:List Rl) (p:Ps) (s:Rs),Re p s->Ado pl (Ade nx pl ere n l p) (fun m=>AbM nx pl ere m l [] s)
 | 0,_,_,_,_=>trivial
 | n+1,l,p,s,h=>by
   refine Ado.succ ?_;simp only[Ade,AbM,h.e,ne_eq,not_true_eq_false,if_false];have j:=h.gaps (pl:=pl) H true n
   cases o:LB nx true n p with
   | hush=>trivial
   | bad f e =>
     rw[o] at j;refine FD.after j fun _ r g=>?_;obtain⟨u,A,i,w,-⟩:=g.see H.op true;have b:¬ u.e=0:=by rw[i];exact g.1
     simp only[A,RO.bind,b,not_false_eq_true,true_or,if_true];exact FD.ok ⟨g.1,i,w⟩
   | ok t q =>
     obtain⟨D,v⟩:=AcC H true n p t q o;rw[o] at j;obtain⟨_,r,-,b,I,E⟩:=j;subst D;refine Ado.after E ?_
     have C:AbG nx pl true r = .ok (nx q.a false) r:=by
      unfold AbG;rw[b.a,H.op,if_pos v]
     simp only[C,RO.bind,Hf.bind,b.e,not_true_eq_false,false_or];by_cases c:(nx q.a false).kd=0
     ·simp only[c,if_true]
      exact⟨r,b.e,Ev.const _⟩
     simp only[c,if_false]
     have B:isR nx [102,117,110,99,116,105,111,110] r = .ok (XI (nx q.a false) [102,117,110,99,116,105,111,110]) r:=by
      rw[b.is _ v,AbV H _ _ (by decide)]
     by_cases d:XI (nx q.a false) [102,117,110,99,116,105,111,110]=true
     ·simp only[d,if_true]
      trivial
     simp only[B,d,RO.bind,aA,if_false];have k:=Ahd H (Agg (pl:=pl) (ere:=ere) H n) q r b v;simp only[Ahr]
     cases z:AcT nx pl ere n (nx q.a false) q with
     | hush=>trivial
     | bad f e =>
       rw[z] at k;exact FD.after k fun u r g=>Ahh H.op _ _ r g
     | ok u F =>
       rw[z] at k;obtain⟨y,G,i,w,-,x⟩:=k;subst i;exact Ado.after x (Ae2 H n (l++[u]) F G w)
end
set_option linter.unusedSimpArgs false
set_option linter.unusedVariables false
section
variable {nx:Nat->Bool->Tk} {pl:Nat->Nat×Nat} {ere:List UInt8->Option Bool} {S a c:Nat} {b d:Bool} {α β:Type} {G:α->Ps->Prop} {p:Ps} {Q:Nat->Prop} {R:Nat×Nat->Prop}
theorem Aeb (A:Adv nx S) (H:Abi nx) (p:Ps) (b:p.a<=S):Kn S p.a false (fun _ _=>True) (Y4 nx p):=by
 unfold Y4;refine Kn.peek A H b fun f c d g=>?_;split
 ·exact⟨c,d,(fun e=>by cases e),trivial⟩
 split
 ·exact⟨aB _,b,(fun e=>by cases e),trivial⟩
 exact A.1 _ b
theorem Adu (A:Adv nx S) (H:Abi nx):∀(n:Nat) (b:Bool) (a:Nat),a<=S->S-a<n->∃r,Ab9 nx n b a=some r/\∀x,r=some x->a<=x/\x<=S
 | 0,_,_,_,h=>absurd h (by omega)
 | n+1,b,a,ha,hf=>by
   rw[Ab9,H.op];by_cases f:(nx a false).e≠0
   ·rw[if_pos f];exact⟨none,rfl,fun x h=>nomatch h⟩
   rw[if_neg f];obtain⟨o,l,m⟩:=A.2 a ha (Decidable.not_not.1 f)
   have g:(nx a false).kd≠0->∀b,∃r,Ab9 nx n b (nx a false).t=some r/\∀x,r=some x->a<=x/\x<=S:=fun k b=>by
    have p:=m k;obtain⟨r,i,j⟩:=Adu A H n b (nx a false).t l (by omega);exact⟨r,i,fun x d=>by have:=j x d;omega⟩
   split
   ·rename_i c;exact g (by rw[c];decide) b
   split
   ·rename_i c;exact g (AcU c.1) true
   split
   ·rename_i c;exact⟨_,rfl,fun x d=>by injection d with d;omega⟩
   exact⟨none,rfl,fun x h=>nomatch h⟩
theorem AfA (A:Adv nx S) (H:Abi nx) (n:Nat) (p:Ps) (b:p.a<=S) (h:S-p.a<n):Kn S p.a false (fun _ _=>True) (Acv nx n p):=by
 unfold Acv;obtain⟨r,c,d⟩:=Adu A H n false p.a b h;rw[c]
 cases r with
 | none=>exact⟨aB _,b,(fun e=>by cases e),trivial⟩
 | some x=>obtain⟨f,g⟩:=d x rfl;exact⟨f,g,(fun e=>by cases e),trivial⟩
theorem AfJ (A:Adv nx S) (H:Abi nx) (p:Ps) (c:p.a<=S) (h:AcQ nx p=true):p.a<=(nx (nx (nx p.a true).t false).t false).t/\(nx (nx (nx p.a true).t false).t false).t<=S:=by
 unfold AcQ at h;simp only[Bool.and_eq_true,decide_eq_true_eq] at h;rw[H.op] at h ⊢;obtain⟨d,b,-⟩:=A.2 _ c h.1;obtain⟨b1,b2,-⟩:=A.2 _ b h.2.1;obtain⟨e,f,-⟩:=A.2 _ b2 h.2.2.1;omega
theorem Adb {c:Prop} [Decidable c] {B:Hf (List Tr)} (d:p.a<=S) (h:Kn S p.a false (fun l _=>AL Q R l) B) (f:Q 0) (b:R (0,0)):Kn S p.a false (fun l _=>AL Q R l) (if c then .ok [.mk 0 [] 0 (0,0) []] p else B):=by
 split
 ·exact⟨aB _,d,(fun e=>by cases e),AL.node f b AL.nil⟩
 exact h
theorem AfB (A:Adv nx S) (H:Abi nx) (m:Q 0) (c:∀f,R (pl f)) (d:R (0,0)) (k:∀a,(nx a false).kd=2->Q (nx a false).nm) (n:Nat) (p:Ps) (h:p.a<=S) (s:20*(S-p.a)+19<n):Kn S p.a true (fun l _=>AL Q R l) (Afe nx pl ere n p):=by
 have E:=AcB (pl:=pl) (ere:=ere) A H m c d k n;unfold Afe
 have b:Kn S p.a true (fun lt _=>AL Q R lt.1) ((Abb nx pl [40] p).bind fun _ p=>(Dn nx pl ere n .list p).bind fun l p=>(Abb nx pl [41] p).bind fun _ p=>(Eb nx false p).bind fun t p => .ok (l,t) p):=by
  refine Kn.bind (Abk A H c _ _ h) fun _ q _ q1 o i=>?_;replace i:=i rfl;refine Kn.bind (E .list _ trivial o (by simp only[rk];omega)) fun l u j u1 u2 u3=>?_;refine Kn.bind (Abk A H c _ _ u2) fun _ v _ w r x=>?_;refine Kn.peek A H r fun _ _ _ _=>?_;exact Kn.ok (by omega) (by omega) (fun _=>by omega) j
 have g:=E .list p trivial h (by simp only[rk];omega);split
 ·rename_i e;rw[e] at b;exact b.elim
 ·exact g
 rename_i l t q e
 rw[e] at b;split
 ·exact b
 exact g
end
def rs:NV->Nat | .many=>20 | .simple=>21 | .block=>22 | .stmt=>23 | .body=>24 | .blockL _ _=>25
def AiP (Q:Nat->Prop) (R:Nat×Nat->Prop):NV->Prop | .blockL z l=>AL Q R l/\R z | _=>True
theorem Ady {nx:Nat->Bool->Tk} {pl:Nat->Nat×Nat} {ere:List UInt8->Option Bool} {S:Nat} {Q:Nat->Prop} {R:Nat×Nat->Prop} (A:Adv nx S) (H:Abi nx) (s:Q 0) (t:∀f,R (pl f)) (b:R (0,0)) (hq:∀a,(nx a false).kd=2->Q (nx a false).nm) :
  ∀(n:Nat) (k:NV) (p:Ps),AiP Q R k->p.a<=S->40*(S-p.a)+rs k<n->Kn S p.a true (fun l _=>AL Q R l) (Abh nx pl ere n k p)
 | 0,_,_,_,_,h=>absurd h (by omega)
 | n+1,k,p,hk,hp,hf=>by
   have C:=Ady (pl:=pl) (ere:=ere) A H s t b hq n;have E:=AcB (pl:=pl) (ere:=ere) A H s t b hq n
   cases k with
   | stmt =>
     simp only[Abh,CQ];refine Kn.peek A H (by first | omega | (dsimp only;omega)) fun U V W D=>?_
     (try dsimp only at U V W D ⊢)
     split
     ·rename_i c
      have X:=D (Adl c);refine Kn.bind (E .cond1 _ trivial (by first | omega | (dsimp only;omega)) (by first | (simp only[rs] at hf;simp only[rk];omega) | (simp only[rs] at hf;simp only[rk];dsimp only;omega))) fun l q i q1 I g=>?_;replace g:=g rfl
      (try dsimp only at q1 g)
      refine Kn.bind (Abq A H true _ _ (by first | omega | (dsimp only;omega)) (by first | (simp only[rs] at hf;omega) | (simp only[rs] at hf;dsimp only;omega))) fun _ u _ u1 u2 u3=>?_;clear u3
      (try dsimp only at u1)
      refine Kn.bind (C .body _ trivial (by first | omega | (dsimp only;omega)) (by first | (simp only[rs] at hf ⊢;omega) | (simp only[rs] at hf ⊢;dsimp only;omega))) fun m v J F L B=>?_;replace B:=B rfl
      (try dsimp only at F B)
      refine Kn.bind (AfA A H _ _ (by first | omega | (dsimp only;omega)) (by first | (simp only[rs] at hf;omega) | (simp only[rs] at hf;dsimp only;omega))) fun x w _ M w2 G=>?_;clear G
      (try dsimp only at M)
      split
      ·refine Kn.bind (Abq A H true _ _ (by first | omega | (dsimp only;omega)) (by first | (simp only[rs] at hf;omega) | (simp only[rs] at hf;dsimp only;omega))) fun _ r _ N Z K=>?_
       clear K
       (try dsimp only at N)
       refine Kn.bind (C .body _ trivial (by first | omega | (dsimp only;omega)) (by first | (simp only[rs] at hf ⊢;omega) | (simp only[rs] at hf ⊢;dsimp only;omega))) fun y k hy k1 k2 k3=>?_;replace k3:=k3 rfl
       (try dsimp only at k1 k3)
       exact Kn.ok (by first | omega | (dsimp only;omega)) (by first | omega | (dsimp only;omega)) (fun e=>by first | omega | (dsimp only;omega) | cases e) (AL.node s (by first | exact t _ | assumption | exact hk.zz | exact(Abm s b i).zz | exact hk.2) ((i.app J).app hy))
      exact Kn.ok (by first | omega | (dsimp only;omega)) (by first | omega | (dsimp only;omega)) (fun e=>by first | omega | (dsimp only;omega) | cases e) (AL.node s (by first | exact t _ | assumption | exact hk.zz | exact(Abm s b i).zz | exact hk.2) (i.app J))
     split
     ·rename_i c
      have X:=D (Adl c);refine Kn.bind (E .cond1 _ trivial (by first | omega | (dsimp only;omega)) (by first | (simp only[rs] at hf;simp only[rk];omega) | (simp only[rs] at hf;simp only[rk];dsimp only;omega))) fun l q i q1 I g=>?_;replace g:=g rfl
      (try dsimp only at q1 g)
      refine Kn.bind (Abq A H true _ _ (by first | omega | (dsimp only;omega)) (by first | (simp only[rs] at hf;omega) | (simp only[rs] at hf;dsimp only;omega))) fun _ u _ u1 u2 u3=>?_;clear u3
      (try dsimp only at u1)
      refine Kn.bind (C .body _ trivial (by first | omega | (dsimp only;omega)) (by first | (simp only[rs] at hf ⊢;omega) | (simp only[rs] at hf ⊢;dsimp only;omega))) fun m v J F L B=>?_;replace B:=B rfl
      (try dsimp only at F B)
      exact Kn.ok (by first | omega | (dsimp only;omega)) (by first | omega | (dsimp only;omega)) (fun e=>by first | omega | (dsimp only;omega) | cases e) (AL.node s (by first | exact t _ | assumption | exact hk.zz | exact(Abm s b i).zz | exact hk.2) (i.app J))
     split
     ·rename_i c
      have X:=D (Adl c);refine Kn.bind (Abq A H true _ _ (by first | omega | (dsimp only;omega)) (by first | (simp only[rs] at hf;omega) | (simp only[rs] at hf;dsimp only;omega))) fun _ u _ u1 u2 u3=>?_;clear u3
      (try dsimp only at u1)
      refine Kn.bind (C .body _ trivial (by first | omega | (dsimp only;omega)) (by first | (simp only[rs] at hf ⊢;omega) | (simp only[rs] at hf ⊢;dsimp only;omega))) fun l q i q1 I g=>?_;replace g:=g rfl
      (try dsimp only at q1 g)
      refine Kn.bind (Acq A H _ _ _ (by first | omega | (dsimp only;omega)) (by first | (simp only[rs] at hf;omega) | (simp only[rs] at hf;dsimp only;omega))) fun x v ⟨Y,ex⟩ F L B=>?_;clear B
      (try dsimp only at F)
      obtain⟨x1,x2,x3⟩:=A.2 v.a L (Y▸ex);rw[<- Y] at x1 x2 x3;split
      ·rename_i c2
       have x4:=x3 (Adl c2);refine Kn.bind (E .cond1 _ trivial (by first | omega | (dsimp only;omega)) (by first | (simp only[rs] at hf;simp only[rk];omega) | (simp only[rs] at hf;simp only[rk];dsimp only;omega))) fun m w J M w2 G=>?_;replace G:=G rfl
       (try dsimp only at M G)
       refine Kn.bind (Aeb A H _ (by first | omega | (dsimp only;omega))) fun _ r _ N Z K=>?_;clear K
       (try dsimp only at N)
       exact Kn.ok (by first | omega | (dsimp only;omega)) (by first | omega | (dsimp only;omega)) (fun e=>by first | omega | (dsimp only;omega) | cases e) (AL.node s (by first | exact t _ | assumption | exact hk.zz | exact(Abm s b i).zz | exact hk.2) (i.app J))
      exact Kn.refuse (Y▸A.1 _ L)
     split
     ·rename_i c
      have X:=D (Adl c);refine Kn.bind (Abk A H t _ _ (by first | omega | (dsimp only;omega))) fun zu u gu u1 u2 u3=>?_;replace u3:=u3 rfl
      (try dsimp only at u1 u3)
      split
      ·rename_i d
       obtain⟨y1,y2⟩:=AfJ A H _ u2 d;refine Kn.bind (Abk A H t _ _ (by first | omega | (dsimp only;omega))) fun zv v gv F L B=>?_;replace B:=B rfl
       (try dsimp only at F B)
       refine Kn.bind (Abq A H true _ _ (by first | omega | (dsimp only;omega)) (by first | (simp only[rs] at hf;omega) | (simp only[rs] at hf;dsimp only;omega))) fun _ w _ M w2 G=>?_;clear G
       (try dsimp only at M)
       refine Kn.bind (C .body _ trivial (by first | omega | (dsimp only;omega)) (by first | (simp only[rs] at hf ⊢;omega) | (simp only[rs] at hf ⊢;dsimp only;omega))) fun m r J N Z K=>?_;replace K:=K rfl
       (try dsimp only at N K)
       exact Kn.ok (by first | omega | (dsimp only;omega)) (by first | omega | (dsimp only;omega)) (fun e=>by first | omega | (dsimp only;omega) | cases e) (AL.node s (by first | exact t _ | assumption | exact hk.zz | exact(Abm s b i).zz | exact hk.2) (AL.cons (Tr.Ok.mk s (by first | exact t _ | assumption | exact hk.zz | exact(Abm s b i).zz | exact hk.2) fun _ h=>nomatch h) J))
      refine Kn.peek A H (by first | omega | (dsimp only;omega)) fun x0 x1 x2 x3=>?_
      (try dsimp only at x0 x1 x2 x3 ⊢)
      refine Kn.bind (Adb (by first | omega | (dsimp only;omega)) (Kn.up (C .simple _ trivial (by first | omega | (dsimp only;omega)) (by first | (simp only[rs] at hf ⊢;omega) | (simp only[rs] at hf ⊢;dsimp only;omega))) (aB _) (fun e=>by cases e)) s b) fun l q i q1 I g=>?_;clear g
      (try dsimp only at q1)
      refine Kn.bind (Abk A H t _ _ (by first | omega | (dsimp only;omega))) fun zv v gv F L B=>?_;replace B:=B rfl
      (try dsimp only at F B)
      refine Kn.bind (Abq A H true _ _ (by first | omega | (dsimp only;omega)) (by first | (simp only[rs] at hf;omega) | (simp only[rs] at hf;dsimp only;omega))) fun _ w _ M w2 G=>?_;clear G
      (try dsimp only at M)
      refine Kn.peek A H (by first | omega | (dsimp only;omega)) fun y0 y1 y2 y3=>?_
      (try dsimp only at y0 y1 y2 y3 ⊢)
      refine Kn.bind (Adb (by first | omega | (dsimp only;omega)) (Kn.up (E .expr _ trivial (by first | omega | (dsimp only;omega)) (by first | (simp only[rs] at hf;simp only[rk];omega) | (simp only[rs] at hf;simp only[rk];dsimp only;omega))) (aB _) (fun e=>by cases e)) s b) fun m r J N Z K=>?_;clear K
      (try dsimp only at N)
      refine Kn.bind (Abk A H t _ _ (by first | omega | (dsimp only;omega))) fun a1 N n0 a0 p0 O=>?_;replace O:=O rfl
      (try dsimp only at a0 O)
      refine Kn.bind (Abq A H true _ _ (by first | omega | (dsimp only;omega)) (by first | (simp only[rs] at hf;omega) | (simp only[rs] at hf;dsimp only;omega))) fun _ Z _ b0 q0 c0=>?_;clear c0
      (try dsimp only at b0)
      refine Kn.peek A H (by first | omega | (dsimp only;omega)) fun j0 k0 l0 m0=>?_
      (try dsimp only at j0 k0 l0 m0 ⊢)
      refine Kn.bind (Adb (by first | omega | (dsimp only;omega)) (Kn.up (C .simple _ trivial (by first | omega | (dsimp only;omega)) (by first | (simp only[rs] at hf ⊢;omega) | (simp only[rs] at hf ⊢;dsimp only;omega))) (aB _) (fun e=>by cases e)) s b) fun o K ho d0 r0 e0=>?_;clear e0
      (try dsimp only at d0)
      refine Kn.bind (Abk A H t _ _ (by first | omega | (dsimp only;omega))) fun b1 r4 o0 f0 s0 P=>?_;replace P:=P rfl
      (try dsimp only at f0 P)
      refine Kn.bind (Abq A H true _ _ (by first | omega | (dsimp only;omega)) (by first | (simp only[rs] at hf;omega) | (simp only[rs] at hf;dsimp only;omega))) fun _ r5 _ g0 w0 h0=>?_;clear h0
      (try dsimp only at g0)
      refine Kn.bind (C .body _ trivial (by first | omega | (dsimp only;omega)) (by first | (simp only[rs] at hf ⊢;omega) | (simp only[rs] at hf ⊢;dsimp only;omega))) fun j r6 hj i0 z0 T=>?_;replace T:=T rfl
      (try dsimp only at i0 T)
      exact Kn.ok (by first | omega | (dsimp only;omega)) (by first | omega | (dsimp only;omega)) (fun e=>by first | omega | (dsimp only;omega) | cases e) (AL.node s (by first | exact t _ | assumption | exact hk.zz | exact(Abm s b i).zz | exact hk.2) (((i.app J).app ho).app hj))
     split
     ·exact Kn.up (C .block _ trivial (by first | omega | (dsimp only;omega)) (by first | (simp only[rs] at hf ⊢;omega) | (simp only[rs] at hf ⊢;dsimp only;omega))) (by first | omega | (dsimp only;omega)) (fun _ => .inl rfl)
     refine Kn.bind (C .simple _ trivial (by first | omega | (dsimp only;omega)) (by first | (simp only[rs] at hf ⊢;omega) | (simp only[rs] at hf ⊢;dsimp only;omega))) fun l q i q1 I g=>?_;replace g:=g rfl
     (try dsimp only at q1 g)
     refine Kn.bind (Aeb A H _ (by first | omega | (dsimp only;omega))) fun _ u _ u1 u2 u3=>?_;clear u3
     (try dsimp only at u1)
     exact Kn.ok (by first | omega | (dsimp only;omega)) (by first | omega | (dsimp only;omega)) (fun e=>by first | omega | (dsimp only;omega) | cases e) (i)
   | simple =>
     simp only[Abh,CQ];refine Kn.peek A H (by first | omega | (dsimp only;omega)) fun U V W D=>?_
     (try dsimp only at U V W D ⊢)
     split
     ·refine Kn.bind (E .expr _ trivial (by first | omega | (dsimp only;omega)) (by first | (simp only[rs] at hf;simp only[rk];omega) | (simp only[rs] at hf;simp only[rk];dsimp only;omega))) fun l q i q1 I g=>?_
      replace g:=g rfl
      (try dsimp only at q1 g)
      exact Kn.ok (by first | omega | (dsimp only;omega)) (by first | omega | (dsimp only;omega)) (fun e=>by first | omega | (dsimp only;omega) | cases e) (AL.node s (by first | exact t _ | assumption | exact hk.zz | exact(Abm s b i).zz | exact hk.2) i)
     rename_i c
     have X:=D (by rw[Decidable.not_not.1 c];decide);split
     ·exact Kn.refuse (A.1 _ (by first | omega | (dsimp only;omega)))
     split
     ·refine Kn.peek A H (by first | omega | (dsimp only;omega)) fun u0 u1 u2 u3=>?_
      (try dsimp only at u0 u1 u2 u3 ⊢)
      split
      ·refine Kn.bind (E .expr _ trivial (by first | omega | (dsimp only;omega)) (by first | (simp only[rs] at hf;simp only[rk];omega) | (simp only[rs] at hf;simp only[rk];dsimp only;omega))) fun l q i q1 I g=>?_
       replace g:=g rfl
       (try dsimp only at q1 g)
       exact Kn.ok (by first | omega | (dsimp only;omega)) (by first | omega | (dsimp only;omega)) (fun e=>by first | omega | (dsimp only;omega) | cases e) (AL.node s (by first | exact t _ | assumption | exact hk.zz | exact(Abm s b i).zz | exact hk.2) i)
      exact Kn.ok (by first | omega | (dsimp only;omega)) (by first | omega | (dsimp only;omega)) (fun e=>by first | omega | (dsimp only;omega) | cases e) (AL.node s (by first | exact t _ | assumption | exact hk.zz | exact(Abm s b i).zz | exact hk.2) AL.nil)
     split
     ·refine Kn.peek A H (by first | omega | (dsimp only;omega)) fun u0 u1 u2 u3=>?_
      (try dsimp only at u0 u1 u2 u3 ⊢)
      split
      ·rename_i d
       have u4:=u3 (by rw[d];decide);rw[Abp];refine Kn.peek A H (by first | omega | (dsimp only;omega)) fun v0 F L B=>?_
       (try dsimp only at v0 F L B ⊢)
       split
       ·refine Kn.bind (E .index _ trivial (by first | omega | (dsimp only;omega)) (by first | (simp only[rs] at hf;simp only[rk];omega) | (simp only[rs] at hf;simp only[rk];dsimp only;omega))) fun l q i q1 I g=>?_
        replace g:=g rfl
        (try dsimp only at q1 g)
        exact Kn.ok (by first | omega | (dsimp only;omega)) (by first | omega | (dsimp only;omega)) (fun e=>by first | omega | (dsimp only;omega) | cases e) (AL.node s (by first | exact t _ | assumption | exact hk.zz | exact(Abm s b i).zz | exact hk.2) i)
       exact Kn.ok (by first | omega | (dsimp only;omega)) (by first | omega | (dsimp only;omega)) (fun e=>by first | omega | (dsimp only;omega) | cases e) (AL.node s (by first | exact t _ | assumption | exact hk.zz | exact(Abm s b i).zz | exact hk.2) AL.nil)
      exact Kn.refuse (A.1 _ (by first | omega | (dsimp only;omega)))
     split
     ·refine Kn.peek A H (by first | omega | (dsimp only;omega)) fun u0 u1 u2 u3=>?_
      (try dsimp only at u0 u1 u2 u3 ⊢)
      split
      ·refine Kn.bind (C .many _ trivial (by first | omega | (dsimp only;omega)) (by first | (simp only[rs] at hf ⊢;omega) | (simp only[rs] at hf ⊢;dsimp only;omega))) fun l q i q1 I g=>?_
       replace g:=g rfl
       (try dsimp only at q1 g)
       exact Kn.ok (by first | omega | (dsimp only;omega)) (by first | omega | (dsimp only;omega)) (fun e=>by first | omega | (dsimp only;omega) | cases e) (AL.node s (by first | exact t _ | assumption | exact hk.zz | exact(Abm s b i).zz | exact hk.2) i)
      exact Kn.ok (by first | omega | (dsimp only;omega)) (by first | omega | (dsimp only;omega)) (fun e=>by first | omega | (dsimp only;omega) | cases e) (AL.node s (by first | exact t _ | assumption | exact hk.zz | exact(Abm s b i).zz | exact hk.2) AL.nil)
     split
     ·refine Kn.bind (C .many _ trivial (by first | omega | (dsimp only;omega)) (by first | (simp only[rs] at hf ⊢;omega) | (simp only[rs] at hf ⊢;dsimp only;omega))) fun l q i q1 I g=>?_
      replace g:=g rfl
      (try dsimp only at q1 g)
      exact Kn.ok (by first | omega | (dsimp only;omega)) (by first | omega | (dsimp only;omega)) (fun e=>by first | omega | (dsimp only;omega) | cases e) (AL.node s (by first | exact t _ | assumption | exact hk.zz | exact(Abm s b i).zz | exact hk.2) i)
     exact Kn.ok (by first | omega | (dsimp only;omega)) (by first | omega | (dsimp only;omega)) (fun e=>by first | omega | (dsimp only;omega) | cases e) (AL.node s (by first | exact t _ | assumption | exact hk.zz | exact(Abm s b i).zz | exact hk.2) AL.nil)
   | block =>
     simp only[Abh,CQ];refine Kn.bind (Abk A H t _ _ (by first | omega | (dsimp only;omega))) fun zu u gu u1 u2 u3=>?_;replace u3:=u3 rfl
     (try dsimp only at u1 u3)
     exact Kn.up (C (.blockL _ _) _ ⟨AL.nil,gu⟩ (by first | omega | (dsimp only;omega)) (by first | (simp only[rs] at hf ⊢;omega) | (simp only[rs] at hf ⊢;dsimp only;omega))) (by first | omega | (dsimp only;omega)) (fun _ => .inr (by first | omega | (dsimp only;omega)))
   | blockL z y =>
     simp only[Abh,CQ];refine Kn.bind (Acq A H _ _ _ (by first | omega | (dsimp only;omega)) (by first | (simp only[rs] at hf;omega) | (simp only[rs] at hf;dsimp only;omega))) fun x v ⟨Y,ex⟩ F L B=>?_;clear B
     (try dsimp only at F)
     split
     ·refine Kn.bind (Abk A H t _ _ (by first | omega | (dsimp only;omega))) fun zw w gw M w2 G=>?_
      replace G:=G rfl
      (try dsimp only at M G)
      exact Kn.ok (by first | omega | (dsimp only;omega)) (by first | omega | (dsimp only;omega)) (fun e=>by first | omega | (dsimp only;omega) | cases e) (AL.node s (by first | exact t _ | assumption | exact hk.zz | exact(Abm s b i).zz | exact hk.2) hk.1)
     refine Kn.bind (C .stmt _ trivial (by first | omega | (dsimp only;omega)) (by first | (simp only[rs] at hf ⊢;omega) | (simp only[rs] at hf ⊢;dsimp only;omega))) fun l q i q1 I g=>?_;replace g:=g rfl
     (try dsimp only at q1 g)
     exact Kn.up (C (.blockL _ _) _ ⟨hk.1.app i,hk.2⟩ (by first | omega | (dsimp only;omega)) (by first | (simp only[rs] at hf ⊢;omega) | (simp only[rs] at hf ⊢;dsimp only;omega))) (by first | omega | (dsimp only;omega)) (fun _ => .inr (by first | omega | (dsimp only;omega)))
   | body =>
     simp only[Abh,CQ];refine Kn.peek A H (by first | omega | (dsimp only;omega)) fun U V W D=>?_
     (try dsimp only at U V W D ⊢)
     split
     ·rename_i c
      have X:=D (AcU c);exact Kn.ok (by first | omega | (dsimp only;omega)) (by first | omega | (dsimp only;omega)) (fun e=>by first | omega | (dsimp only;omega) | cases e) (AL.node s (by first | exact t _ | assumption | exact hk.zz | exact(Abm s b i).zz | exact hk.2) AL.nil)
     refine Kn.bind (C .stmt _ trivial (by first | omega | (dsimp only;omega)) (by first | (simp only[rs] at hf ⊢;omega) | (simp only[rs] at hf ⊢;dsimp only;omega))) fun l q i q1 I g=>?_;replace g:=g rfl
     (try dsimp only at q1 g)
     split
     ·exact Kn.ok (by first | omega | (dsimp only;omega)) (by first | omega | (dsimp only;omega)) (fun e=>by first | omega | (dsimp only;omega) | cases e) (i)
     exact Kn.ok (by first | omega | (dsimp only;omega)) (by first | omega | (dsimp only;omega)) (fun e=>by first | omega | (dsimp only;omega) | cases e) (AL.node s (by first | exact t _ | assumption | exact hk.zz | exact(Abm s b i).zz | exact hk.2) i)
   | many =>
     simp only[Abh,CQ];refine Kn.peek A H (by first | omega | (dsimp only;omega)) fun U V W D=>?_
     (try dsimp only at U V W D ⊢)
     split
     ·exact AfB A H s t b hq _ _ hp (by simp only[rs] at hf;omega)
     exact Kn.up (E .list _ trivial (by first | omega | (dsimp only;omega)) (by first | (simp only[rs] at hf;simp only[rk];omega) | (simp only[rs] at hf;simp only[rk];dsimp only;omega))) (by first | omega | (dsimp only;omega)) (fun _ => .inl rfl)
def RQ (Q:Nat->Prop) (R:Nat×Nat->Prop) (r:Rl):Prop:=AL Q R r.ps/\Tr.Ok Q R r.b/\R r.z
section
variable {nx:Nat->Bool->Tk} {pl:Nat->Nat×Nat} {ere:List UInt8->Option Bool} {S:Nat} {Q:Nat->Prop} {R:Nat×Nat->Prop} {n:Nat} {p:Ps}
theorem Ada (A:Adv nx S) (H:Abi nx) (d:Q 0) (g:∀f,R (pl f)) (c:R (0,0)) (o:∀a,(nx a false).kd=2->Q (nx a false).nm) (k:Int) (l:List Tr) (z:Nat×Nat) (e:R z) (h:AL Q R l) (p:Ps) (j:p.a<=S) (u:40*(S-p.a)+22<n) :
  Kn S p.a true (fun r _=>RQ Q R r) ((Abh nx pl ere n .block p).bind fun b p => .ok ⟨k,0,l,hd1 b,z⟩ p):=by
 refine Kn.bind (Ady A H d g c o n .block p trivial j (by simp only[rs];omega)) fun m q i q1 s t=>?_;exact Kn.ok q1 s t ⟨h,Abm d c i,e⟩
theorem Adz (A:Adv nx S) (H:Abi nx) (g:Q 0) (i:∀f,R (pl f)) (d:R (0,0)) (m:∀a,(nx a false).kd=2->Q (nx a false).nm) (z:Nat×Nat) (b:R z) (k:Int) (l:List Tr) (h:AL Q R l) (p:Ps) (c:p.a<=S) (j:40*(S-p.a)+22<n) :
  Kn S p.a false (fun r _=>RQ Q R r) (AcR nx pl ere n z k l p):=by
 unfold AcR;refine Kn.peek A H c fun o q s t=>?_;split
 ·exact(Ada A H g i d m k l z b h p c j).up (aB _) (fun e=>by cases e)
 split
 ·exact A.1 _ c
 exact Kn.ok (aB _) c (fun e=>by cases e) ⟨h,Tr.Ok.mk g b (AL.node g b AL.nil),b⟩
theorem AfC (A:Adv nx S) (H:Abi nx) (i:Q 0) (g:∀f,R (pl f)) (d:R (0,0)) (h:∀a,(nx a false).kd=2->Q (nx a false).nm) (G:∀a,XI (nx a false) [69,86,69,82,89]=false) (p:Ps) (j:p.a<=S) (z:(nx p.a false).e=0) (M:40*(S-p.a)+23<n) :
  Kn S p.a true (fun r _=>RQ Q R r) (AcT nx pl ere n (nx p.a false) p):=by
 obtain⟨C,D,F⟩:=A.2 p.a j z
 have B:∀(x:List UInt8) (k:Int),XI (nx p.a false) x=true->Kn S p.a true (fun r _=>RQ Q R r) ((Abh nx pl ere n .block (CQ (nx p.a false) p)).bind fun b q => .ok ⟨k,0,[],hd1 b,pl (nx p.a false).f⟩ q):=fun x k c=>by
  have L:=F (Adl c);exact(Ada A H i g d h k [] _ (g _) AL.nil (CQ (nx p.a false) p) D (by show 40*(S-(nx p.a false).t)+22<n;omega)).up C (fun _ => .inl rfl)
 unfold AcT;split
 ·rename_i c;exact B _ 1 c
 split
 ·rename_i c;exact B _ 2 c
 split
 ·rename_i c;exact B _ 4 c
 split
 ·rename_i c;rw[G] at c;cases c
 split
 ·exact Ada A H i g d h 5 [] _ (g _) AL.nil p j (by omega)
 unfold Aei;have E:=AcB (pl:=pl) (ere:=ere) A H i g d h n;refine Kn.bind (E .expr _ trivial j (by simp only[rk];omega)) fun l q s q1 o y=>?_;replace y:=y rfl;rw[Abp];refine Kn.peek A H o fun _ _ _ _=>?_;split
 ·refine Kn.bind (Abk A H g _ _ o) fun _ u _ u1 u2 u3=>?_
  refine Kn.bind (Abq A H true _ _ u2 (by omega)) fun _ v _ N J O=>?_;refine Kn.bind (E .expr _ trivial J (by simp only[rk];omega)) fun m w I P K T=>?_;exact(Adz A H i g d h _ (g _) 7 (l++m) (s.app I) w K (by omega)).up (by omega) (fun _ => .inr (by omega))
 exact(Adz A H i g d h _ (g _) 6 l s q o (by omega)).up (by omega) (fun _ => .inr (by omega))
theorem Adx (A:Adv nx S) (H:Abi nx) (o:Q 0) (j:∀f,R (pl f)) (b:R (0,0)) (m:∀a,(nx a false).kd=2->Q (nx a false).nm) (i:∀a,XI (nx a false) [69,86,69,82,89]=false) (k:∀a,XI (nx a false) [102,117,110,99,116,105,111,110]=false) :
  ∀(n:Nat) (l:List Rl) (p:Ps),(∀r∈l,RQ Q R r)->p.a<=S->40*(S-p.a)+30<n->Kn S p.a false (fun x _=>∀r∈x,RQ Q R r) (Ade nx pl ere n l p)
 | 0,_,_,_,_,h=>absurd h (by omega)
 | n+1,l,p,hl,hp,hf=>by
   rw[Ade];refine Kn.bind (Acq A H true n p hp (by omega)) fun t q ⟨g,y⟩ q1 s C=>?_;split
   ·exact Kn.ok (by omega) s (fun e=>by cases e) hl
   split
   ·rename_i c;rw[g,k] at c;cases c
   rw[g];refine Kn.bind (AfC A H o j b m i q s (g▸y) (by omega)) fun u v z D B w=>?_;replace w:=w rfl;exact(Adx A H o j b m i k n (l++[u]) v (fun r d=>by rcases List.mem_append.1 d with d | d;exact hl r d;obtain rfl:=List.mem_singleton.1 d;exact z) B (by omega)).up (by omega) (fun e=>by cases e)
end
end Go.Proofs.YtfblenhlildnaaaGreatDoor
