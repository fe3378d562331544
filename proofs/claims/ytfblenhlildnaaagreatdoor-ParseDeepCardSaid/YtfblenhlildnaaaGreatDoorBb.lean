/- Bb Aj Gt Av -/
import Derived.Test.YtfblenhlildnaaaGreatDoorMp
import Derived.ScopeJumps
import Derived.WalkKit
namespace Go.Proofs.YtfblenhlildnaaaGreatDoor
inductive NS where
 | stmt | simple | block | blockL (z:Nat×Nat) (l:List Tr) | many
section
variable (nx:Nat->Bool->Tk) (pl:Nat->Nat×Nat) (ere:List UInt8->Option Bool)
def Y4 (p:Ps):Hf Unit:=(Eb nx false p).bind fun t p =>
 if t.kd=1\/isS t [59]=true then .ok () (CQ t p) else if t.kd=0\/isS t [125]=true then .ok () p else JF t p
def Aap (x:List UInt8):Option Int :=
 if x=[98,114,101,97,107] then some 36 else if x=[99,111,110,116,105,110,117,101] then some 37 else if x=[110,101,120,116] then some 38 else if x=[101,120,105,116] then some 39 else if x=[114,101,116,117,114,110] then some 40
 else if x=[100,101,108,101,116,101] then some 41 else if x=[112,114,105,110,116] then some 42 else if x=[112,114,105,110,116,102] then some 43 else none
def It:Nat->NS->Ps->Hf (List Tr)
 | 0,_,_ => .hush
 | n+1,k,p =>
   match k with
   | .stmt=>(Eb nx true { p with outs := -1 }).bind fun t p =>
      if t.kd=8/\(t.tx=[105,102]\/t.tx=[119,104,105,108,101]\/t.tx=[100,111]\/t.tx=[102,111,114]) then .hush
      else if isS t [123]=true then It n .block p
      else (It n .simple p).bind fun l p=>(Y4 nx p).bind fun _ p => .ok l { p with outs := -1 }
   | .simple=>(Eb nx true p).bind fun t p =>
      if t.kd≠8 then (Dn nx pl ere n .expr p).bind fun l p => .ok [.mk 44 [] 0 (hd1 l).z l] p
      else match Aap t.tx with
       | none=>JF t p
       | some k =>
         if k=39\/k=40 then (Eb nx true (CQ t p)).bind fun u p=>if I0 u=true then (Dn nx pl ere n .expr p).bind fun l p => .ok [.mk k [] 0 (pl t.f) l] p else .ok [.mk k [] 0 (pl t.f) []] p
         else if k=41 then (Eb nx false (CQ t p)).bind fun u p=>if u.kd=5 then
           (Ab_ nx [91] (CQ u p)).bind fun q p=>if q=true then (Dn nx pl ere n .index p).bind fun l p => .ok [.mk k u.tx 0 (pl t.f) l] p else .ok [.mk k u.tx 0 (pl t.f) []] p
          else JF u p
         else if k=42 then (Eb nx true { CQ t p with outs:=p.deep }).bind fun u p=>if I0 u=true then (It n .many p).bind fun l p => .ok [.mk k [] 0 (pl t.f) l] p else .ok [.mk k [] 0 (pl t.f) []] p
         else if k=43 then (It n .many { CQ t p with outs:=p.deep }).bind fun l p => .ok [.mk k [] 0 (pl t.f) l] p
         else .ok [.mk k [] 0 (pl t.f) []] (CQ t p)
   | .many=>(Eb nx true p).bind fun t p=>if isS t [40]=true then .hush else Dn nx pl ere n .list p
   | .block=>(Abb nx pl [123] p).bind fun z p=>It n (.blockL z []) p
   | .blockL z l=>(LB nx true n p).bind fun t p=>if isS t [125]=true then (Abb nx pl [125] p).bind fun _ p => .ok [.mk 30 [] 0 z l] p
      else (It n .stmt p).bind fun x p=>It n (.blockL z (l++x)) p
variable (num:Nat->Option Int)
end
structure Rs where
 a:Nat
 o:Int
 g:Bool
 e:Int
 z:Nat×Nat
inductive RO (α:Type) where
 | ok (x:α) (s:Rs)
 | hush
def RO.bind {a b:Type} (r:RO a) (k:a->Rs->RO b):RO b :=
 match r with
 | .ok x s=>k x s
 | .hush => .hush
section
variable (nx:Nat->Bool->Tk) (pl:Nat->Nat×Nat)
def Abl (e:Int) (f:Nat) (s:Rs):Rs:=if s.e=0 then { s with e:=e,z:=pl f } else s
def AbG (b:Bool) (s:Rs):RO Tk:=.ok (nx s.a b) (if (nx s.a b).e=0 then s else Abl pl (nx s.a b).e (nx s.a b).f s)
def Abj (t:Tk) (s:Rs):Rs :=
 if XI t [103,101,116,108,105,110,101]=true\/isS t [124]=true\/isS t [62,62]=true\/(isS t [62]=true/\s.g=true) then Abl pl 27 t.f s else Abl pl 25 t.f s
def AbN (x:List UInt8) (t:Tk):Bool:=(decide (t.kd=9)||decide (t.kd=8))&&decide (t.tx=x)
def isR (x:List UInt8) (s:Rs):RO Bool:=.ok (decide (s.e=0)&&(decide ((nx s.a false).e=0)&&AbN x (nx s.a false))) s
def Abs (x:List UInt8) (t:Tk) (s:Rs):Rs :=
 if ZT x=true then (if 40<s.o+1 then Abl pl 26 t.f { s with a:=t.t,o:=s.o+1 } else { s with a:=t.t,o:=s.o+1 })
 else if ZV x=true then { s with a:=t.t,o:=s.o-1 } else { s with a:=t.t }
def takeR (x:List UInt8) (s:Rs):RO Bool:=(isR nx x s).bind fun b s=>if b=true then .ok true (Abs pl x (nx s.a false) s) else .ok false s
def wantR (x:List UInt8) (s:Rs):RO Unit :=
 if s.e=0 then (takeR nx pl x s).bind fun b s=>if b=true then .ok () s else (AbG nx pl false s).bind fun t s=>if s.e=0 then .ok () (Abj pl t s) else .ok () s
 else .ok () s
def linesR (x:List UInt8):Nat->Rs->RO Unit
 | 0,_ => .hush
 | n+1,s=>if s.e=0 then (if (nx s.a false).e=0/\((nx s.a false).kd=1\/(x≠[]/\isS (nx s.a false) x=true)) then linesR x n { s with a:=(nx s.a false).t } else .ok () s) else .ok () s
def nameR (s:Rs):RO Tk:=(AbG nx pl false s).bind fun t s =>
 if s.e=0/\t.kd≠5 then .ok t (if (Abj pl t s).e=0 then { Abj pl t s with a:=t.t } else Abj pl t s) else .ok t (if s.e=0 then { s with a:=t.t } else s)
def Abo (b:Bool) (s:Rs):RO (Tk×(Nat×Nat)):=.ok (nx s.a b,pl (nx s.a b).f) s
def oneR (L:List (List UInt8)) (s:Rs):RO (Option (List UInt8×(Nat×Nat))) :=
 if s.e=0 then (if (nx s.a false).e=0/\(nx s.a false).kd=9/\L.contains (nx s.a false).tx=true then .ok (some ((nx s.a false).tx,pl (nx s.a false).f)) { s with a:=(nx s.a false).t } else .ok none s) else .ok none s
def goesR (s:Rs):RO Bool :=
 if s.e=0 then
  (if (nx s.a false).e=0 then .ok (decide ((nx s.a false).kd=2\/(nx s.a false).kd=3\/(nx s.a false).kd=5\/(nx s.a false).kd=6\/(nx s.a false).kd=7)||(decide ((nx s.a false).kd=9)&&[[36],[40],[43,43],[45,45]].contains (nx s.a false).tx)) s
   else (AbG nx pl false s).bind fun _ s => .ok false s)
 else .ok false s
def Aco (s:Rs):RO Bool:=(AbG nx pl true s).bind fun t s => .ok (decide (s.e=0)&&I0 t) s
def Ach (s:Rs):RO Bool:=.ok (decide ((nx s.a false).e=0)&&(decide ((nx s.a false).kd=0\/(nx s.a false).kd=1)||(isS (nx s.a false) [59]||isS (nx s.a false) [125]))) s
end
inductive RT where
 | expr | cond | or | orL (t:Tr) | and | andL (t:Tr) | inn | innL (t:Tr) | mat | matL (t:Tr) | cmp | cat | catL (t:Tr) | sum | sumL (t:Tr) | prod | prodL (t:Tr)
 | unary | power | post | primary | lval | operand | call (t:Tk) | args (k:Int) (t:Tk) | dollar | round | list (top:Bool) | listL (l:List Tr) | inside (x:List UInt8) | outs
def AbO:Tr:=.mk 0 [] 0 (0,0) []
abbrev Af1:List (List UInt8):=[[61],[43,61],[45,61],[42,61],[47,61],[37,61],[94,61]]
abbrev ppL:List (List UInt8):=[[43,43],[45,45]]
def AdM (g:Bool):List (List UInt8):=if g=true then [[60],[60,61],[61,61],[33,61],[62,61]] else [[60],[60,61],[61,61],[33,61],[62,61],[62]]
section
variable (nx:Nat->Bool->Tk) (pl:Nat->Nat×Nat) (ere:List UInt8->Option Bool)
def B0:Nat->RT->Rs->RO (List Tr)
 | 0,_,_ => .hush
 | n+1,k,s =>
   match k with
   | .expr=>(B0 n .cond s).bind fun l s=>if s.e≠0\/Z1 (hd1 l)=false then .ok l s else (oneR nx pl Af1 s).bind fun o s=>match o with
     | none => .ok l s
     | some (x,z)=>(B0 n .expr s).bind fun m s => .ok [.mk 7 x 0 z (l++m)] s
   | .cond=>(B0 n .or s).bind fun l s=>(oneR nx pl [[63]] s).bind fun o s=>match o with
     | none => .ok l s
     | some (_,z)=>(B0 n .expr s).bind fun x s=>(wantR nx pl [58] s).bind fun _ s=>(B0 n .expr s).bind fun y s => .ok [.mk 8 [] 0 z (l++x++y)] s
   | .or=>(B0 n .and s).bind fun l s=>B0 n (.orL (hd1 l)) s
   | .orL t=>(oneR nx pl [[124,124]] s).bind fun o s=>match o with
     | none => .ok [t] s
     | some (_,z)=>(linesR nx [] n s).bind fun _ s=>(B0 n .and s).bind fun x s=>B0 n (.orL (.mk 9 [] 0 z (t::x))) s
   | .and=>(B0 n .inn s).bind fun l s=>B0 n (.andL (hd1 l)) s
   | .andL t=>(oneR nx pl [[38,38]] s).bind fun o s=>match o with
     | none => .ok [t] s
     | some (_,z)=>(linesR nx [] n s).bind fun _ s=>(B0 n .inn s).bind fun x s=>B0 n (.andL (.mk 10 [] 0 z (t::x))) s
   | .inn=>(B0 n .mat s).bind fun l s=>B0 n (.innL (hd1 l)) s
   | .innL t=>(isR nx [105,110] s).bind fun b s=>if b=true then
      (Abo nx pl false s).bind fun h s=>(takeR nx pl [105,110] s).bind fun _ s=>(nameR nx pl s).bind fun u s=>B0 n (.innL (.mk 11 u.tx 0 h.2 [t])) s
     else .ok [t] s
   | .mat=>(B0 n .cmp s).bind fun l s=>B0 n (.matL (hd1 l)) s
   | .matL t=>(oneR nx pl [[126],[33,126]] s).bind fun o s=>match o with
     | none => .ok [t] s
     | some (x,z)=>(B0 n .cmp s).bind fun y s=>B0 n (.matL (.mk 12 x 0 z (t::y))) s
   | .cmp=>(B0 n .cat s).bind fun l s=>(oneR nx pl (AdM s.g) s).bind fun o s=>match o with
     | none => .ok l s
     | some (x,z)=>(B0 n .cat s).bind fun m s => .ok [.mk 13 x 0 z (l++m)] s
   | .cat=>(B0 n .sum s).bind fun l s=>B0 n (.catL (hd1 l)) s
   | .catL t=>(goesR nx pl s).bind fun b s=>if b=true then (B0 n .sum s).bind fun y s=>B0 n (.catL (.mk 14 [] 0 t.z (t::y))) s else .ok [t] s
   | .sum=>(B0 n .prod s).bind fun l s=>B0 n (.sumL (hd1 l)) s
   | .sumL t=>(oneR nx pl [[43],[45]] s).bind fun o s=>match o with
     | none => .ok [t] s
     | some (x,z)=>(B0 n .prod s).bind fun y s=>B0 n (.sumL (.mk 15 x 0 z (t::y))) s
   | .prod=>(B0 n .unary s).bind fun l s=>B0 n (.prodL (hd1 l)) s
   | .prodL t=>(oneR nx pl [[42],[47],[37]] s).bind fun o s=>match o with
     | none => .ok [t] s
     | some (x,z)=>(B0 n .unary s).bind fun y s=>B0 n (.prodL (.mk 15 x 0 z (t::y))) s
   | .unary=>(oneR nx pl [[33],[45],[43]] s).bind fun o s=>match o with
     | none=>B0 n .power s
     | some (x,z)=>(B0 n .unary s).bind fun y s => .ok [.mk 16 x 0 z y] s
   | .power=>(B0 n .post s).bind fun l s=>(oneR nx pl [[94]] s).bind fun o s=>match o with
     | none => .ok l s
     | some (x,z)=>(B0 n .unary s).bind fun m s => .ok [.mk 15 x 0 z (l++m)] s
   | .post=>(B0 n .primary s).bind fun l s=>if s.e≠0\/Z1 (hd1 l)=false then .ok l s else (oneR nx pl ppL s).bind fun o s=>match o with
     | none => .ok l s
     | some (x,z) => .ok [.mk 18 x 0 z l] s
   | .primary=>if s.e≠0 then .ok [AbO] s else (oneR nx pl ppL s).bind fun o s=>match o with
     | some (x,z)=>(B0 n .lval s).bind fun l s => .ok [.mk 17 x 0 z l] s
     | none=>(isR nx [40] s).bind fun b s=>if b=true then
        (takeR nx pl [40] { s with g:=false }).bind fun _ r=>(B0 n .expr r).bind fun l r=>(B0 n (.listL l) r).bind fun l r=>(wantR nx pl [41] r).bind fun _ r =>
          if r.e≠0\/l.length=1 then .ok [hd1 l] { r with g:=s.g }
          else (Abo nx pl false { r with g:=s.g }).bind fun h r=>(wantR nx pl [105,110] r).bind fun _ r=>(nameR nx pl r).bind fun t r => .ok [.mk 11 t.tx 0 h.2 l] r
       else B0 n .operand s
   | .lval=>if s.e≠0 then .ok [AbO] s
     else if (nx s.a false).e=0/\((nx s.a false).kd=5\/isS (nx s.a false) [36]=true) then B0 n .operand s
     else (AbG nx pl true s).bind fun t s => .ok [AbO] (if s.e=0 then Abj pl t s else s)
   | .operand=>(AbG nx pl true s).bind fun t s=>if s.e≠0 then .ok [AbO] s
     else if t.kd=2 then .ok [.mk 1 [] t.nm (pl t.f) []] { s with a:=t.t }
     else if t.kd=3 then .ok [.mk 2 t.tx 0 (pl t.f) []] (if 256<t.tx.length then Abl pl 12 t.f { s with a:=t.t } else { s with a:=t.t })
     else if t.kd=4 then (match ere t.tx with | some true => .ok [.mk 3 t.tx 0 (pl t.f) []] { s with a:=t.t } | some false => .ok [.mk 3 t.tx 0 (pl t.f) []] (Abl pl 24 t.f { s with a:=t.t }) | none => .hush)
     else if t.kd=5 then (takeR nx pl [91] { s with a:=t.t }).bind fun b s=>if b=true then (B0 n (.inside [93]) s).bind fun l s => .ok [.mk 5 t.tx 0 (pl t.f) l] s else .ok [.mk 4 t.tx 0 (pl t.f) []] s
     else if t.kd=6\/t.kd=7 then B0 n (.call t) s
     else if isS t [36]=true then (B0 n .dollar { s with a:=t.t }).bind fun l s => .ok [.mk 6 [] 0 (pl t.f) l] s
     else .ok [AbO] (Abj pl t s)
   | .call t=>if t.kd=6/\t.tx=[115,121,115,116,101,109] then .ok [.mk 19 t.tx 0 (pl t.f) []] (Abl pl 27 t.f s)
     else if t.tx=[108,101,110,103,116,104] then (isR nx [40] { s with a:=t.t }).bind fun b s=>if b=true then B0 n (.args (if t.kd=7 then 20 else 19) t) s else .ok [.mk (if t.kd=7 then 20 else 19) t.tx 0 (pl t.f) []] s
     else B0 n (.args (if t.kd=7 then 20 else 19) t) { s with a:=t.t }
   | .args k t=>(wantR nx pl [40] s).bind fun _ s=>(isR nx [41] s).bind fun b s=>if b=true then (wantR nx pl [41] s).bind fun _ s => .ok [.mk k t.tx 0 (pl t.f) []] s
     else (B0 n (.list false) s).bind fun l s=>(wantR nx pl [41] s).bind fun _ s => .ok [.mk k t.tx 0 (pl t.f) l] s
   | .dollar=>(oneR nx pl ppL s).bind fun o s=>match o with
     | some (x,z)=>(B0 n .lval s).bind fun l s => .ok [.mk 17 x 0 z l] s
     | none=>(isR nx [40] s).bind fun b s=>if b=true then (B0 n .round { s with g:=false }).bind fun l r => .ok l { r with g:=s.g } else B0 n .operand s
   | .round=>(wantR nx pl [40] s).bind fun _ s=>(B0 n .expr s).bind fun l s=>(wantR nx pl [41] s).bind fun _ s => .ok l s
   | .list top=>(B0 n .expr { s with g:=s.g&&top }).bind fun l r=>(B0 n (.listL l) r).bind fun l r => .ok l { r with g:=s.g }
   | .listL l=>if s.e≠0 then .ok l s else (takeR nx pl [44] s).bind fun b s=>if b=true then (linesR nx [] n s).bind fun _ s=>(B0 n .expr s).bind fun x s=>B0 n (.listL (l++x)) s else .ok l s
   | .inside x=>(B0 n (.list false) s).bind fun l s=>(wantR nx pl x s).bind fun _ s => .ok l s
   | .outs=>(takeR nx pl [40] s).bind fun b r=>if b=true then
       (B0 n (.list false) r).bind fun l r=>(wantR nx pl [41] r).bind fun _ r=>(Ach nx r).bind fun c r =>
         if r.e=0/\1<l.length/\c=true then .ok l r else (B0 n (.list true) { s with g:=true }).bind fun l r => .ok l { r with g:=s.g }
      else (B0 n (.list true) { s with g:=true }).bind fun l r => .ok l { r with g:=s.g }
end
end Go.Proofs.YtfblenhlildnaaaGreatDoor
namespace Go
def Exit.jumps (J:Nat->Act->World->Prop) (Q:Exit->Act->World->Prop):Exit->Act->World->Prop
 | .goto l,a,w=>J l a w
 | e,a,w=>Q e a w
section
variable {P:Program} {a:Act} {w:World} {Q:Exit->Act->World->Prop} {J:Nat->Act->World->Prop}
@[go_sem] theorem Exit.jumps_normal:Exit.jumps J Q .normal a w=Q .normal a w:=rfl
@[go_sem] theorem Exit.jumps_exit (id:Nat):Exit.jumps J Q (.exit id) a w=Q (.exit id) a w:=rfl
@[go_sem] theorem Exit.jumps_ret:Exit.jumps J Q .ret a w=Q .ret a w:=rfl
@[go_sem] theorem Exit.jumps_panic (b:List PanicEntry):Exit.jumps J Q (.panic b) a w=Q (.panic b) a w:=rfl
theorem H' {c:Code} (h:c.wp P Q a w):(Code.seq .skip c).wp P Q a w:=wp_seq (wp_skip h)
theorem JB {c:Code} (J:Nat->Act->World->Prop) (M:Nat->Act->World->Nat)
  (p:∀l a w,J l a w->∃d,findLabel c l=some (.seq .skip d)/\d.wp P (Exit.jumps (fun z B w'=>J z B w'/\M z B w'<M l a w) Q) a w)
  (first:(∀l d a w,findLabel c l=some (.seq .skip d)->J l a w->d.wp P (Exit.jumps J Q) a w)->c.wp P (Exit.jumps J Q) a w):(Code.scope c).wp P Q a w:=by
 have first:=first fun l d a w A G=>by
  obtain⟨u,t,I⟩:=p l a w G;rw[A] at t;injection t with E;injection E with _ F;subst F;exact wp_mono I fun e a w q=>by cases e<;>first | exact q | exact q.1
 intro b k D;have N:∀l d,findLabel c l=some d->gotoIn l (.inScope c::k)=some (.code d :: .inScope c::k):=fun l d h=>by simp[gotoIn,h]
 have L:∀n l a w d,findLabel c l=some (.seq .skip d)->M l a w=n->J l a w->∃e B w',Q e B w'/\Arrives P (lone (b.at a (.code (.seq .skip d) :: .inScope c::k)) D w) b k D e B w':=by
  intro n
  induction n using Nat.strongRecOn with
  | _ n S =>
    intro l a w d A T G;obtain⟨u,t,I⟩:=p l a w G;have:u=d:=by rw[A] at t;injection t with E;injection E with _ F;exact F.symm
    subst this;obtain⟨e,f,g,o,i⟩:=H' I b (.inScope c::k) D
    cases e with
    | normal=>exact⟨.normal,f,g,o,Steps.trans i (.one step_inScope)⟩
    | exit id=>exact⟨.exit id,f,g,o,fun K H=>i K (by simp[exitTo,H])⟩
    | goto z =>
      obtain⟨C,R⟩:=o;obtain⟨x,y,_⟩:=p z f g C;obtain⟨s,r,v,m,j⟩:=S _ (by omega) z f g x y rfl C;exact⟨s,r,v,m,.of_steps (i _ (N _ _ y)) j⟩
    | ret=>exact⟨_,f,g,o,i⟩
    | panic O=>exact⟨_,f,g,o,i⟩
    | outgrown=>exact⟨_,f,g,o,i⟩
 obtain⟨e,f,g,o,i⟩:=first b (.inScope c::k) D
 cases e with
 | normal=>exact⟨.normal,f,g,o,.head step_scope (Steps.trans i (.one step_inScope))⟩
 | exit id=>exact⟨.exit id,f,g,o,fun K H => .head step_scope (i K (by simp[exitTo,H]))⟩
 | goto z =>
   obtain⟨d,A,_⟩:=p z f g o;obtain⟨s,r,v,m,j⟩:=L _ z f g d A rfl o;exact⟨s,r,v,m,.of_steps (.head step_scope (i _ (N _ _ A))) j⟩
 | ret=>exact⟨_,f,g,o,.of_steps (.one step_scope) i⟩
 | panic O=>exact⟨_,f,g,o,.of_steps (.one step_scope) i⟩
 | outgrown=>exact⟨_,f,g,o,.of_steps (.one step_scope) i⟩
theorem GN {c j k:Code} (J:Nat->Act->World->Prop) (i:Nat->Act->World->Nat) (m:findLabel c 0=some (.seq .skip j)) (n:findLabel c 1=some (.seq .skip k)) (p:∀l a w,J l a w->l=0\/l=1)
  (b:∀a w,J 0 a w->j.wp P (Exit.jumps (fun f e g=>J f e g/\i f e g<i 0 a w) Q) a w)
  (d:∀a w,J 1 a w->k.wp P (Exit.jumps (fun f e g=>J f e g/\i f e g<i 1 a w) Q) a w)
  (first:(∀a w,J 0 a w->j.wp P (Exit.jumps J Q) a w)->(∀a w,J 1 a w->k.wp P (Exit.jumps J Q) a w)->c.wp P (Exit.jumps J Q) a w):(Code.scope c).wp P Q a w:=by
 refine JB J i (fun l a w h=>?_) (fun o=>first (fun a w h=>o 0 _ a w m h) (fun a w h=>o 1 _ a w n h));rcases p l a w h with rfl | rfl
 ·exact⟨_,m,b a w h⟩
 exact⟨_,n,d a w h⟩
theorem Ll {c b:Code} (l:Nat) (J:Act->World->Prop) (f:Act->World->Nat) (j:findLabel c l=some (.seq .skip b))
  (d:∀a w,J a w->b.wp P (Exit.jump l (fun g i=>J g i/\f g i<f a w) Q) a w)
  (first:(∀a w,J a w->b.wp P (Exit.jump l J Q) a w)->c.wp P (Exit.jump l J Q) a w):(Code.scope c).wp P Q a w :=
 wp_scope_jumps l J f j (first fun a w h=>wp_mono (d a w h) (fun e a w q=>by cases e<;>first | exact q | exact⟨q.1,q.2.1⟩)) fun a w h=>H' (d a w h)
end
end Go
namespace Go.Proofs.YtfblenhlildnaaaGreatDoor
inductive NV where
 | stmt | simple | block | blockL (z:Nat×Nat) (l:List Tr) | body | many
section
variable (nx:Nat->Bool->Tk) (pl:Nat->Nat×Nat) (ere:List UInt8->Option Bool)
def Ab9:Nat->Bool->Nat->Option (Option Nat)
 | 0,_,_=>none
 | n+1,semi,a =>
   if (nx a true).e≠0 then some none
   else if (nx a true).kd=1 then Ab9 n semi (nx a true).t
   else if isS (nx a true) [59]=true/\semi=false then Ab9 n true (nx a true).t
   else if XI (nx a true) [101,108,115,101]=true then some (some (nx a true).t) else some none
def Acv (n:Nat) (p:Ps):Hf Bool:=match Ab9 nx n false p.a with
 | none => .hush
 | some none => .ok false p
 | some (some a) => .ok true { p with a:=a }
def AcQ (p:Ps):Bool :=
 let a:=nx p.a true;let b:=nx a.t false;let c:=nx b.t false;let d:=nx c.t false
 decide (a.e=0)&&(decide (b.e=0)&&(decide (c.e=0)&&(decide (d.e=0)&&(decide (a.kd=5)&&(XI b [105,110]&&(decide (c.kd=5)&&isS d [41]))))))
def Afe (n:Nat) (p:Ps):Hf (List Tr) :=
 match (Abb nx pl [40] p).bind fun _ p=>(Dn nx pl ere n .list p).bind fun l p=>(Abb nx pl [41] p).bind fun _ p=>(Eb nx false p).bind fun t p => .ok (l,t) p with
 | .hush => .hush
 | .bad _ _=>Dn nx pl ere n .list p
 | .ok (l,t) q=>if 1<l.length/\(t.kd=1\/t.kd=0\/isS t [59]=true\/isS t [125]=true) then .ok l q else Dn nx pl ere n .list p
def Abh:Nat->NV->Ps->Hf (List Tr)
 | 0,_,_ => .hush
 | n+1,k,p =>
   match k with
   | .stmt=>(Eb nx true { p with outs := -1 }).bind fun t p =>
      if XI t [105,102]=true then
       (Dn nx pl ere n .cond1 (CQ t p)).bind fun l p=>(Lf nx true n p).bind fun _ p=>(Abh n .body p).bind fun m p=>(Acv nx n p).bind fun c p =>
         if c=true then (Lf nx true n p).bind fun _ p=>(Abh n .body p).bind fun y p => .ok [.mk 31 [] 0 (pl t.f) (l++m++y)] p else .ok [.mk 31 [] 0 (pl t.f) (l++m)] p
      else if XI t [119,104,105,108,101]=true then
       (Dn nx pl ere n .cond1 (CQ t p)).bind fun l p=>(Lf nx true n p).bind fun _ p=>(Abh n .body p).bind fun m p => .ok [.mk 32 [] 0 (pl t.f) (l++m)] p
      else if XI t [100,111]=true then
       (Lf nx true n (CQ t p)).bind fun _ p=>(Abh n .body p).bind fun l p=>(LB nx false n p).bind fun u p =>
         if XI u [119,104,105,108,101]=true then (Dn nx pl ere n .cond1 (CQ u p)).bind fun m p=>(Y4 nx p).bind fun _ p => .ok [.mk 33 [] 0 (pl t.f) (l++m)] p else JF u p
      else if XI t [102,111,114]=true then
       (Abb nx pl [40] (CQ t p)).bind fun _ p =>
         if AcQ nx p=true then
          (Abb nx pl [41] { p with a:=(nx (nx (nx p.a true).t false).t false).t }).bind fun _ q=>(Lf nx true n { q with outs := -1 }).bind fun _ q=>(Abh n .body q).bind fun m q =>
            .ok [.mk 35 (nx (nx (nx p.a true).t false).t false).tx 0 (pl t.f) (.mk 4 (nx p.a true).tx 0 (pl (nx p.a true).f) []::m)] q
         else
          (Eb nx true { p with outs := -1 }).bind fun u p=>(if isS u [59]=true then .ok [.mk 0 [] 0 (0,0) []] p else Abh n .simple p).bind fun x p=>(Abb nx pl [59] p).bind fun _ p=>(Lf nx true n { p with outs := -1 }).bind fun _ p =>
          (Eb nx true p).bind fun u p=>(if isS u [59]=true then .ok [.mk 0 [] 0 (0,0) []] p else Dn nx pl ere n .expr p).bind fun y p=>(Abb nx pl [59] p).bind fun _ p=>(Lf nx true n p).bind fun _ p =>
          (Eb nx true { p with outs := -1 }).bind fun u p=>(if isS u [41]=true then .ok [.mk 0 [] 0 (0,0) []] p else Abh n .simple p).bind fun v p=>(Abb nx pl [41] p).bind fun _ p=>(Lf nx true n { p with outs := -1 }).bind fun _ p =>
          (Abh n .body p).bind fun m p => .ok [.mk 34 [] 0 (pl t.f) (x++y++v++m)] p
      else if isS t [123]=true then Abh n .block p
      else (Abh n .simple p).bind fun l p=>(Y4 nx p).bind fun _ p => .ok l { p with outs := -1 }
   | .body=>(Eb nx true p).bind fun t p=>if isS t [59]=true then .ok [.mk 30 [] 0 (pl t.f) []] (CQ t p)
      else (Abh n .stmt p).bind fun l p=>if (hd1 l).kd=30 then .ok l p else .ok [.mk 30 [] 0 (hd1 l).z l] p
   | .simple=>(Eb nx true p).bind fun t p =>
      if t.kd≠8 then (Dn nx pl ere n .expr p).bind fun l p => .ok [.mk 44 [] 0 (hd1 l).z l] p
      else match Aap t.tx with
       | none=>JF t p
       | some k =>
         if k=39\/k=40 then (Eb nx true (CQ t p)).bind fun u p=>if I0 u=true then (Dn nx pl ere n .expr p).bind fun l p => .ok [.mk k [] 0 (pl t.f) l] p else .ok [.mk k [] 0 (pl t.f) []] p
         else if k=41 then (Eb nx false (CQ t p)).bind fun u p=>if u.kd=5 then
           (Ab_ nx [91] (CQ u p)).bind fun q p=>if q=true then (Dn nx pl ere n .index p).bind fun l p => .ok [.mk k u.tx 0 (pl t.f) l] p else .ok [.mk k u.tx 0 (pl t.f) []] p
          else JF u p
         else if k=42 then (Eb nx true { CQ t p with outs:=p.deep }).bind fun u p=>if I0 u=true then (Abh n .many p).bind fun l p => .ok [.mk k [] 0 (pl t.f) l] p else .ok [.mk k [] 0 (pl t.f) []] p
         else if k=43 then (Abh n .many { CQ t p with outs:=p.deep }).bind fun l p => .ok [.mk k [] 0 (pl t.f) l] p
         else .ok [.mk k [] 0 (pl t.f) []] (CQ t p)
   | .many=>(Eb nx true p).bind fun t p=>if isS t [40]=true then Afe nx pl ere n p else Dn nx pl ere n .list p
   | .block=>(Abb nx pl [123] p).bind fun z p=>Abh n (.blockL z []) p
   | .blockL z l=>(LB nx true n p).bind fun t p=>if isS t [125]=true then (Abb nx pl [125] p).bind fun _ p => .ok [.mk 30 [] 0 z l] p
      else (Abh n .stmt p).bind fun x p=>Abh n (.blockL z (l++x)) p
end
end Go.Proofs.YtfblenhlildnaaaGreatDoor
