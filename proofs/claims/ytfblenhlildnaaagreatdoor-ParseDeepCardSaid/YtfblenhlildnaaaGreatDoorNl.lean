/- Nl Ak Ax Ce Al Ao Ap -/
import Derived.Test.YtfblenhlildnaaaGreatDoorMa
import Derived.Lib.ItoaNum
import Derived.Test.YtfblenhlildnaaaGreatDoorBb
import Derived.Test.YtfblenhlildnaaaGreatDoorBu
open Bool renaming false_eq_true->aA
open Nat renaming lt_of_lt_of_le->aB
open List renaming flatMap_append->aD,mem_singleton->aE
namespace Go
open Go.RowKit
structure Rl where
 k:Int
 n:Int
 ps:List Tr
 b:Tr
 z:Nat×Nat
structure Fu where
 nm:List UInt8
 ps:List (List UInt8)
 b:Tr
 z:Nat×Nat
def AW (L:List (Rl×Value×Value)):List Value:=L.flatMap fun p=>[.int .i64 p.1.k,.int .i64 p.1.n,p.2.1,.int .i64 p.1.b.kd,.string ⟨p.1.b.nm.toArray⟩,.float .f64 p.1.b.x,p.2.2,.complex .f64 p.1.b.z.1 p.1.b.z.2,.complex .f64 p.1.z.1 p.1.z.2]
theorem I' (p:Rl×Value×Value) (L:List (Rl×Value×Value)):AW (p::L) = .int .i64 p.1.k :: .int .i64 p.1.n::p.2.1 :: .int .i64 p.1.b.kd :: .string ⟨p.1.b.nm.toArray⟩ :: .float .f64 p.1.b.x::p.2.2 :: .complex .f64 p.1.b.z.1 p.1.b.z.2 :: .complex .f64 p.1.z.1 p.1.z.2::AW L:=rfl
theorem JO (L M:List (Rl×Value×Value)):AW (L++M)=AW L++AW M:=by unfold AW;rw[aD]
theorem Ld (L:List (Rl×Value×Value)) (i:Nat) (p:Rl×Value×Value) (h:L[i]?=some p):(AW L)[9*i]?=some (.int .i64 p.1.k)/\(AW L)[9*i+1]?=some (.int .i64 p.1.n)/\(AW L)[9*i+2]?=some p.2.1/\(AW L)[9*i+3]?=some (.int .i64 p.1.b.kd) /\
  (AW L)[9*i+4]?=some (.string ⟨p.1.b.nm.toArray⟩)/\(AW L)[9*i+5]?=some (.float .f64 p.1.b.x)/\(AW L)[9*i+6]?=some p.2.2/\(AW L)[9*i+7]?=some (.complex .f64 p.1.b.z.1 p.1.b.z.2)/\(AW L)[9*i+8]?=some (.complex .f64 p.1.z.1 p.1.z.2):=by
 induction L generalizing i with
 | nil=>simp at h
 | cons q L a =>
   rw[I']
   cases i with
   | zero=>simp at h;subst h;simp
   | succ i =>
     rw[show 9*(i+1)=9*i+1+1+1+1+1+1+1+1+1 by omega];simp only[List.getElem?_cons_succ] at h ⊢;exact a i h
def ED (T:TypeId) (w:World) (rs:List Rl) (v:Value):Prop:=∃a c,v = .slice a rs.length c/\∀i,i<rs.length->∃b pv kv r,a=some ⟨b,0,none⟩/\rs[i]?=some r/\Am T w (fun _=>True) r.ps pv/\Am T w (fun _=>True) r.b.ks kv /\
 w.cell? ⟨b,9*i,none⟩=some (.int .i64 r.k)/\w.cell? ⟨b,9*i+1,none⟩=some (.int .i64 r.n)/\w.cell? ⟨b,9*i+2,none⟩=some pv/\w.cell? ⟨b,9*i+3,none⟩=some (.int .i64 r.b.kd)/\w.cell? ⟨b,9*i+4,none⟩=some (.string ⟨r.b.nm.toArray⟩) /\
 w.cell? ⟨b,9*i+5,none⟩=some (.float .f64 r.b.x)/\w.cell? ⟨b,9*i+6,none⟩=some kv/\w.cell? ⟨b,9*i+7,none⟩=some (.complex .f64 r.b.z.1 r.b.z.2)/\w.cell? ⟨b,9*i+8,none⟩=some (.complex .f64 r.z.1 r.z.2)
def Ii (w:World) (d:List (List UInt8)) (v:Value):Prop:=∃a c,v = .slice a d.length c/\∀i,i<d.length->∃b p,a=some ⟨b,0,none⟩/\d[i]?=some p/\w.cell? ⟨b,i,none⟩=some (.string ⟨p.toArray⟩)
def Fh (T:TypeId) (w:World) (d:List Fu) (v:Value):Prop:=∃a c,v = .slice a d.length c/\∀i,i<d.length->∃b pv kv f,a=some ⟨b,0,none⟩/\d[i]?=some f/\Ii w f.ps pv/\Am T w (fun _=>True) f.b.ks kv /\
 w.cell? ⟨b,8*i,none⟩=some (.string ⟨f.nm.toArray⟩)/\w.cell? ⟨b,8*i+1,none⟩=some pv/\w.cell? ⟨b,8*i+2,none⟩=some (.int .i64 f.b.kd)/\w.cell? ⟨b,8*i+3,none⟩=some (.string ⟨f.b.nm.toArray⟩) /\
 w.cell? ⟨b,8*i+4,none⟩=some (.float .f64 f.b.x)/\w.cell? ⟨b,8*i+5,none⟩=some kv/\w.cell? ⟨b,8*i+6,none⟩=some (.complex .f64 f.b.z.1 f.b.z.2)/\w.cell? ⟨b,8*i+7,none⟩=some (.complex .f64 f.z.1 f.z.2)
section
variable {T:TypeId} {w w':World} {v:Value}
theorem Ii.bel {d:List (List UInt8)} (h:Ii w d v) (j:Below w.heap.size w w'):Ii w' d v:=by
 obtain⟨a,c,rfl,h⟩:=h;refine⟨a,c,rfl,fun i k=>?_⟩;obtain⟨b,p,e,f,g⟩:=h i k;exact⟨b,p,e,f,Aa g j⟩
theorem ED.bel {rs:List Rl} (h:ED T w rs v) (c:Below w.heap.size w w'):ED T w' rs v:=by
 obtain⟨a,d,rfl,h⟩:=h;refine⟨a,d,rfl,fun i s=>?_⟩;obtain⟨b,u,t,r,n,o,p,q,e,f,g,j,k,c5,c6,l,m⟩:=h i s;exact⟨b,u,t,r,n,o,p.bel c,q.bel c,Aa e c,Aa f c,Aa g c,Aa j c,Aa k c,Aa c5 c,Aa c6 c,Aa l c,Aa m c⟩
theorem Fh.bel {e:List Fu} (h:Fh T w e v) (c:Below w.heap.size w w'):Fh T w' e v:=by
 obtain⟨a,d,rfl,h⟩:=h;refine⟨a,d,rfl,fun i s=>?_⟩;obtain⟨b,u,t,f,o,p,q,r,g,j,k,l,m,c5,c6,n⟩:=h i s;exact⟨b,u,t,f,o,p,q.bel c,r.bel c,Aa g c,Aa j c,Aa k c,Aa l c,Aa m c,Aa c5 c,Aa c6 c,Aa n c⟩
end
end Go
namespace Go.Proofs.YtfblenhlildnaaaGreatDoor
open Go
inductive RS where
 | stmt | simple | block | blockL (z:Nat×Nat) (l:List Tr) | body | loop (z:Nat×Nat)
section
variable (nx:Nat->Bool->Tk) (pl:Nat->Nat×Nat) (ere:List UInt8->Option Bool)
def Acf (s:Rs):RO Unit:=(AbG nx pl false s).bind fun t s=>if s.e≠0\/t.kd=0 then .ok () s else
 (isR nx [125] s).bind fun b s=>if b=true then .ok () s else if t.kd=1\/isS t [59]=true then .ok () { s with a:=t.t } else .ok () (Abj pl t s)
def AcO (n:Nat) (s:Rs):RO Bool:=if s.e≠0 then .ok false s else
 (linesR nx [] n s).bind fun _ r=>(isR nx [59] r).bind fun b r =>
   (if b=true then linesR nx [] n { r with a:=(nx r.a false).t } else .ok () r).bind fun _ r=>(takeR nx pl [101,108,115,101] r).bind fun c r=>if c=true then .ok true r else .ok false { r with a:=s.a }
def Acp (s:Rs):RO Unit:=(isR nx [62] s).bind fun b s => .ok () (if b=true then Abl pl 27 (nx s.a false).f s else s)
def Ae6 (s:Rs):Bool :=
 let a:=nx s.a false;let b:=nx a.t false;let c:=nx b.t false;let d:=nx c.t false
 decide (a.e=0)&&(decide (b.e=0)&&(decide (c.e=0)&&(decide (d.e=0)&&(decide (a.kd=5)&&(XI b [105,110]&&(decide (c.kd=5)&&isS d [41]))))))
def AcF (n:Nat) (k:Int) (z:Nat×Nat) (s:Rs):RO (List Tr):=(Aco nx pl s).bind fun b s=>if b=true then (B0 nx pl ere n .expr s).bind fun l s => .ok [.mk k [] 0 z l] s else .ok [.mk k [] 0 z []] s
def Aff (n:Nat) (k:Int) (z:Nat×Nat) (s:Rs):RO (List Tr):=(B0 nx pl ere n .outs s).bind fun l s=>(Acp nx pl s).bind fun _ s => .ok [.mk k [] 0 z l] s
def Aaq:Nat->RS->Rs->RO (List Tr)
 | 0,_,_ => .hush
 | n+1,k,s =>
   match k with
   | .stmt=>(Abo nx pl true s).bind fun h s=>(isR nx [123] s).bind fun b s=>if b=true then Aaq n .block s else
     (takeR nx pl [105,102] s).bind fun b s=>if b=true then
       (B0 nx pl ere n .round s).bind fun l s=>(linesR nx [] n s).bind fun _ s=>(Aaq n .body s).bind fun m s=>(AcO nx pl n s).bind fun c s =>
         if c=true then (linesR nx [] n s).bind fun _ s=>(Aaq n .body s).bind fun y s => .ok [.mk 31 [] 0 h.2 (l++m++y)] s else .ok [.mk 31 [] 0 h.2 (l++m)] s
     else (takeR nx pl [119,104,105,108,101] s).bind fun b s=>if b=true then
      (B0 nx pl ere n .round s).bind fun l s=>(linesR nx [] n s).bind fun _ s=>(Aaq n .body s).bind fun m s => .ok [.mk 32 [] 0 h.2 (l++m)] s
     else (takeR nx pl [100,111] s).bind fun b s=>if b=true then
      (linesR nx [] n s).bind fun _ s=>(Aaq n .body s).bind fun l s=>(linesR nx [59] n s).bind fun _ s=>(wantR nx pl [119,104,105,108,101] s).bind fun _ s=>(B0 nx pl ere n .round s).bind fun m s=>(Acf nx pl s).bind fun _ s => .ok [.mk 33 [] 0 h.2 (l++m)] s
     else (takeR nx pl [102,111,114] s).bind fun b s=>if b=true then Aaq n (.loop h.2) s
     else (Aaq n .simple s).bind fun l s=>(Acf nx pl s).bind fun _ s => .ok l s
   | .simple=>(Abo nx pl true s).bind fun h s =>
     (takeR nx pl [98,114,101,97,107] s).bind fun b s=>if b=true then .ok [.mk 36 [] 0 h.2 []] s else
     (takeR nx pl [99,111,110,116,105,110,117,101] s).bind fun b s=>if b=true then .ok [.mk 37 [] 0 h.2 []] s else
     (takeR nx pl [110,101,120,116] s).bind fun b s=>if b=true then .ok [.mk 38 [] 0 h.2 []] s else
     (takeR nx pl [101,120,105,116] s).bind fun b s=>if b=true then AcF nx pl ere n 39 h.2 s else
     (takeR nx pl [114,101,116,117,114,110] s).bind fun b s=>if b=true then AcF nx pl ere n 40 h.2 s else
     (takeR nx pl [100,101,108,101,116,101] s).bind fun b s=>if b=true then
       (nameR nx pl s).bind fun t s=>(takeR nx pl [91] s).bind fun c s=>if c=true then (B0 nx pl ere n (.inside [93]) s).bind fun l s => .ok [.mk 41 t.tx 0 h.2 l] s else .ok [.mk 41 t.tx 0 h.2 []] s
     else (takeR nx pl [112,114,105,110,116] s).bind fun b s=>if b=true then
      (Aco nx pl s).bind fun c s=>if c=true then Aff nx pl ere n 42 h.2 s else (Acp nx pl s).bind fun _ s => .ok [.mk 42 [] 0 h.2 []] s
     else (takeR nx pl [112,114,105,110,116,102] s).bind fun b s=>if b=true then Aff nx pl ere n 43 h.2 s
     else (B0 nx pl ere n .expr s).bind fun l s => .ok [.mk 44 [] 0 (hd1 l).z l] s
   | .block=>(Abo nx pl false s).bind fun h s=>(wantR nx pl [123] s).bind fun _ s=>(linesR nx [59] n s).bind fun _ s=>Aaq n (.blockL h.2 []) s
   | .blockL z l=>if s.e=0 then (isR nx [125] s).bind fun b s=>if b=true then (wantR nx pl [125] s).bind fun _ s => .ok [.mk 30 [] 0 z l] s
       else (Aaq n .stmt s).bind fun x s=>(linesR nx [59] n s).bind fun _ s=>Aaq n (.blockL z (l++x)) s
      else (wantR nx pl [125] s).bind fun _ s => .ok [.mk 30 [] 0 z l] s
   | .body=>(Abo nx pl true s).bind fun h s=>(isR nx [59] s).bind fun b s=>if b=true then .ok [.mk 30 [] 0 h.2 []] { s with a:=h.1.t }
     else (isR nx [123] s).bind fun b s=>if b=true then Aaq n .block s else (Aaq n .stmt s).bind fun l s => .ok [.mk 30 [] 0 (hd1 l).z l] s
   | .loop z=>(wantR nx pl [40] s).bind fun _ s=>if s.e≠0 then .ok [AbO] s
     else if Ae6 nx s=true then
      (wantR nx pl [41] { s with a:=(nx (nx (nx s.a false).t false).t false).t }).bind fun _ r=>(linesR nx [] n r).bind fun _ r=>(Aaq n .body r).bind fun m r =>
        .ok [.mk 35 (nx (nx (nx s.a false).t false).t false).tx 0 z (.mk 4 (nx s.a false).tx 0 (pl (nx s.a false).f) []::m)] r
     else (isR nx [59] s).bind fun b s=>(if b=true then .ok [AbO] s else Aaq n .simple s).bind fun x s=>(wantR nx pl [59] s).bind fun _ s=>(linesR nx [] n s).bind fun _ s =>
      (isR nx [59] s).bind fun b s=>(if b=true then .ok [AbO] s else B0 nx pl ere n .expr s).bind fun y s=>(wantR nx pl [59] s).bind fun _ s=>(linesR nx [] n s).bind fun _ s =>
      (isR nx [41] s).bind fun b s=>(if b=true then .ok [AbO] s else Aaq n .simple s).bind fun u s=>(wantR nx pl [41] s).bind fun _ s=>(linesR nx [] n s).bind fun _ s =>
      (Aaq n .body s).bind fun m s => .ok [.mk 34 [] 0 z (x++y++u++m)] s
def AeS (n:Nat) (s:Rs):RO (Rl×Bool):=(Abo nx pl true s).bind fun h s =>
 (takeR nx pl [66,69,71,73,78] s).bind fun b s=>if b=true then (Aaq nx pl ere n .block s).bind fun l s => .ok (⟨1,0,[],hd1 l,h.2⟩,true) s else
 (takeR nx pl [69,78,68] s).bind fun b s=>if b=true then (Aaq nx pl ere n .block s).bind fun l s => .ok (⟨2,0,[],hd1 l,h.2⟩,true) s else
 (takeR nx pl [71,65,80] s).bind fun b s=>if b=true then (Aaq nx pl ere n .block s).bind fun l s => .ok (⟨4,0,[],hd1 l,h.2⟩,true) s else
 (takeR nx pl [69,86,69,82,89] s).bind fun b s=>if b=true then .hush else
 (isR nx [123] s).bind fun b s=>if b=true then (Aaq nx pl ere n .block s).bind fun l s => .ok (⟨5,0,[],hd1 l,h.2⟩,true) s else
 (B0 nx pl ere n .expr s).bind fun l s=>(takeR nx pl [44] s).bind fun c s =>
   (if c=true then (linesR nx [] n s).bind fun _ s=>(B0 nx pl ere n .expr s).bind fun m s => .ok ((7:Int),l++m) s else .ok ((6:Int),l) s).bind fun a s =>
     (isR nx [123] s).bind fun b s=>if b=true then (Aaq nx pl ere n .block s).bind fun x s => .ok (⟨a.1,0,a.2,hd1 x,h.2⟩,true) s
       else .ok (⟨a.1,0,a.2,.mk 30 [] 0 h.2 [.mk 42 [] 0 h.2 []],h.2⟩,false) s
def Ab5 (n:Nat) (s:Rs):RO Rl:=(AeS nx pl ere n s).bind fun r s=>if s.e≠0\/r.2=true then .ok r.1 s else
 (AbG nx pl false s).bind fun t s=>if s.e=0/\t.kd≠1/\t.kd≠0/\isS t [59]=false then .ok r.1 (Abj pl t s) else .ok r.1 s
def Afg:Nat->List (List UInt8)->Rs->RO (List (List UInt8))
 | 0,_,_ => .hush
 | n+1,l,s=>if s.e≠0 then .ok l s else (isR nx [41] s).bind fun b s=>if b=true then .ok l s else
    (nameR nx pl s).bind fun t s=>(isR nx [44] (if s.e=0/\l.length=8 then Abl pl 31 t.f s else s)).bind fun b s=>if b=false then .ok (l++[t.tx]) s else
      (takeR nx pl [44] s).bind fun _ s=>(linesR nx [] n s).bind fun _ s=>(AbG nx pl false s).bind fun u s=>Afg n (l++[t.tx]) (if s.e=0/\u.kd≠5 then Abj pl u s else s)
def Aiq (n:Nat) (s:Rs):RO Fu:=(Abo nx pl false s).bind fun h s=>(takeR nx pl [102,117,110,99,116,105,111,110] s).bind fun _ s=>(AbG nx pl false s).bind fun t s =>
 (wantR nx pl [40] (if s.e=0/\t.kd≠5/\t.kd≠6 then Abj pl t s else if s.e=0 then { s with a:=t.t } else s)).bind fun _ s=>(Afg nx pl n [] s).bind fun b s =>
   (wantR nx pl [41] s).bind fun _ s=>(linesR nx [] n s).bind fun _ s=>(Aaq nx pl ere n .block s).bind fun l s => .ok ⟨t.tx,b,hd1 l,h.2⟩ s
def AbM:Nat->List Rl->List Fu->Rs->RO (List Rl×List Fu)
 | 0,_,_,_ => .hush
 | n+1,l,fs,s=>if s.e≠0 then .ok (l,fs) s else (linesR nx [59] n s).bind fun _ s=>(AbG nx pl true s).bind fun t s=>if s.e≠0\/t.kd=0 then .ok (l,fs) s else
    (isR nx [102,117,110,99,116,105,111,110] s).bind fun b s=>if b=true then (Aiq nx pl ere n s).bind fun f s=>AbM n l (fs++[f]) s
      else (Ab5 nx pl ere n s).bind fun r s=>AbM n (l++[r]) fs s
end
end Go.Proofs.YtfblenhlildnaaaGreatDoor
namespace Go
open Go.RowKit
structure CN (w:World) (b:Nat) (vs:List Value):Prop where
 c:∀i v,vs[i]?=some v->w.cell? ⟨b,i,none⟩=some v
 z:∀j,w.frozen? ⟨b,j,none⟩=false
 l:b<w.heap.size
section
variable {w w':World} {b:Nat} {vs:List Value}
theorem CN.new (w:World) (vs:List Value) (T:TypeId):CN (w.alloc (.cells vs.toArray T)) w.heap.size vs :=
 ⟨fun i v h=>by rw[World.cell?_alloc_at _ _ _ _ rfl];simpa using h,fun j=>World.frozen?_alloc_at _ _ _ _ rfl,by simp⟩
theorem CN.kept (h:CN w b vs) (a:w'.heap[b]?=w.heap[b]?) (d:b<w'.heap.size):CN w' b vs :=
 ⟨fun i v e=>by rw[World.cell?_of_block a];exact h.c i v e,fun j=>by rw[World.frozen?_of_block a];exact h.z j,d⟩
theorem CN.quiet (h:CN w b vs) (a:Below w.heap.size w w'):CN w' b vs:=h.kept (a.block b h.l) (aB h.l a.size)
theorem CN.only {q:Nat} (h:CN w b vs) (a:Ae q w w') (c:b≠q):CN w' b vs:=h.kept (a.block b h.l (fun e=>by injection e with e;omega)) (aB h.l a.size)
theorem CN.alloc (h:CN w b vs) (o:Obj):CN (w.alloc o) b vs:=h.quiet ((Below.refl _ _).alloc (Nat.le_refl _) o)
theorem CN.drew (h:CN w b vs):CN w.drew b vs:=⟨h.c,h.z,h.l⟩
theorem CN.set (h:CN w b vs) (i:Nat) (u:Value) (d:i<vs.length):CN (w.setCell ⟨b,i,none⟩ u) b (vs.set i u):=by
 refine⟨fun j v e=>?_,fun j=>by rw[World.frozen?_setCell];exact h.z j,aB h.l ((Ae.refl b w).set i u).size⟩;by_cases a:i=j
 ·subst a
  rw[List.getElem?_set_self d] at e;obtain rfl:=Option.some.inj e;exact A8 (h.c i _ (List.getElem?_eq_getElem d))
 rw[List.getElem?_set_ne a] at e;rw[Ag (fun e=>a (by injection e))];exact h.c j v e
theorem CN.c5 {v0 v1 v2 v3 v4:Value} {r:List Value} (h:CN w b (v0::v1::v2::v3::v4::r)):C5 w b v0 v1 v2 v3 v4:=⟨h.c 0 _ rfl,h.c 1 _ rfl,h.c 2 _ rfl,h.c 3 _ rfl,h.c 4 _ rfl,h.z⟩
theorem CN.far (h:CN w b vs) {q i:Nat} (a:q≠b) (u:Value):CN (w.setCell ⟨q,i,none⟩ u) b vs:=h.only ((Ae.refl q w).set i u) (Ne.symm a)
end
end Go
namespace Go.Proofs.YtfblenhlildnaaaGreatDoor
open Go.Proofs.Tryz
open Go.RowKit
theorem Z2 (W:World) (L:List Value) (T:TypeId):∀j u,L[j]?=some u->(W.alloc (.cells L.toArray T)).cell? ((⟨W.heap.size,0,none⟩:Addr).add j)=some u:=by
 intro j u h;rw[Addr.add_lit,World.cell?_alloc_at _ _ _ _ rfl];simpa using h
theorem ZB (t:Tr) (a:Option Addr) (n c:Nat):∀u∈Ah [(t,.slice a n c)],u.oneCell'=true:=by
 intro u b;simp only[Ah,List.flatMap_cons,List.flatMap_nil,List.append_nil,List.mem_cons,List.not_mem_nil,or_false] at b;rcases b with rfl | rfl | rfl | rfl | rfl<;>rfl
theorem Y8:(prog.info? 42).map (fun i=>(i.zero,i.size,i.bytes))=some (some (.agg #[.int .i64 0,.string ⟨#[]⟩,.float .f64 0,.slice none 0 0,.complex .f64 0 0]),5,72):=by kernel_rfl
section
variable {w0 W w w':World} {q B:Nat} {s:ByteArray} {p p':Ps} {l:List B5} {ks:List (List Tr×Value)}
theorem Pz.other {g:Nat} (h:Pz w0 q s p w) (a:Ae g w w') (b:w0.heap.size<=g) (d:q≠g):Pz w0 q s p w' :=
 ⟨a.below_of h.below b h.below.size,h.hq,h.c.kept (a.block q h.lt (fun e=>by injection e with e;exact d e)),h.ha,h.hs,h.d1,h.d2⟩
theorem Fx.other {g:Nat} (h:Fx w0 W q B s p l ks w) (a:Ae g w w') (i:Av B l g):Fx w0 W q B s p l [] w':=by
 have k:=h.hq;have m:=h.hw;have f:=h.hB;have j:=i.1;exact⟨h.z.other a (by omega) (by omega),h.o.under a (by omega),k,m,⟨f.1,Nat.le_trans f.2 a.size⟩,fun x c=>⟨(h.b x c).1,(h.b x c).2.only a (Ne.symm (i.2 x c))⟩,fun _ e=>(nomatch e),h.d⟩
theorem Fx.nq (h:Fx w0 W q B s p l ks w):¬ Av B l q:=fun e=>by have:=e.1;have:=h.hB.1;have:=h.hq;omega
theorem Fx.readS (h:Fx w0 W q B s p l ks w) {k:List Tr} {kv:Value} (c:Am 42 w' (Av B l) k kv) (f:Pz w0 q s p' w') (e:Ae q w w'):Fx w0 W q B s p' l ((k,kv)::ks) w' :=
 let g:=h.move f e
 ⟨g.z,g.o,g.hq,g.hw,g.hB,g.b,fun x a=>by rcases List.mem_cons.1 a with rfl | a;exact c;exact g.k x a,g.d⟩
theorem Fx.ka {k:List Tr} {kv:Value} (h:Fx w0 W q B s p l ((k,kv)::ks) w):Am 42 w (Av B l) k kv:=h.k _ (.head _)
theorem Fx.norow (h:Fx w0 W q B s p l ks w):Fx w0 W q B s p l [] w:=h.rows (k:=[])
theorem Fx.append {k:List Tr} {t:Tr} {kv v m:Value} {L:List (Tr×Value)} (h:Fx w0 W q B s p l ((k,v)::ks) w) (H:L.map Prod.fst=k) (F:∀g,v.ownBlock=some g->Av B l g/\g<w.heap.size)
  (C:∀p∈L,Am 42 w (fun j=>Av B l j/\some j≠v.ownBlock) p.1.ks p.2) (D:Am 42 w (fun j=>Av B l j/\some j≠v.ownBlock) t.ks kv)
  (P:w'.ownsRow B 42 5 m (L.length+1) (Ah L++Ah [(t,kv)])) (a:w.grownBy w' v.ownBlock) (G:m.ownBlock=v.ownBlock\/m.ownBlock=some w.heap.size) :
  Fx w0 W q B s p l [(k++[t],m)] w':=by
 have M:Av B l w.heap.size:=⟨h.hB.2,fun y O=>Nat.ne_of_gt (h.new y O)⟩
 have hF:Fx w0 W q B s p l [] w':=by
  cases i:v.ownBlock with
  | none=>rw[i] at a;exact h.norow.quiet ⟨a.os,a.tape,a.output,a.size,fun k J=>a.block k J (by simp)⟩
  | some g=>rw[i] at a;exact h.norow.other a (F g i).1
 have I:Ah (L++[(t,kv)])=Ah L++Ah [(t,kv)]:=by unfold Ah;rw[aD]
 have n:∀p∈L++[(t,kv)],Am 42 w (fun j=>Av B l j/\some j≠v.ownBlock) p.1.ks p.2:=fun p f=>by
  rcases List.mem_append.1 f with f | f
  ·exact C p f
  obtain rfl:=aE.1 f;exact D
 have c:Am 42 w' (Av B l) ((L++[(t,kv)]).map Prod.fst) m:=by
  refine AdD (by rw[I,List.length_append];exact P) (fun g r=>?_) fun p f=>?_
  ·rcases G with e | e
   ·exact(F g (e▸r)).1
   rw[e] at r;injection r with r;rw[<- r];exact M
  have A:=(n p f).mono (S':=fun j=>Av B l j/\some j≠m.ownBlock/\some j≠v.ownBlock) fun j E e=>⟨e.1,by
   rcases G with u | u
   ·rw[u];exact e.2
   rw[u];intro h;injection h with h;omega,e.2⟩
  exact(A.kept a.size fun j E K=>a.block j K E.2.2).mono fun j _ e=>⟨e.1,e.2.1⟩
 rw[List.map_append,H] at c;exact⟨hF.z,hF.o,hF.hq,hF.hw,hF.hB,hF.b,fun x N=>by obtain rfl:=aE.1 N;exact c,hF.d⟩
theorem Fx.apart {w1:World} {k:List Tr} {v:Value} {t:Tr} {kv:Value} (h:Fx w0 W q B s p l ((k,v)::ks) w) (c:Am 42 w1 (w.heap.size <= ·) t.ks kv):Am 42 w1 (fun j=>Av B l j/\some j≠v.ownBlock) t.ks kv:=by
 obtain⟨L,f,a,-,-⟩:=(h.k _ (.head _)).owns B (fun j e=>e.1);refine c.mono fun j _ b=>⟨⟨Nat.le_trans h.hB.2 b,fun y d=>by have:=h.new y d;omega⟩,fun e=>?_⟩;have:=(a.lt j e.symm).2;omega
end
def ZP (w0:World) (q:Nat) (s:ByteArray) (S:Nat->Prop) (l:List Tr) (p':Ps) (v:Value) (w':World):Prop :=
 (∃t kv,l=[t]/\v=CJ t kv/\Am 42 w' S t.ks kv)/\Pz w0 q s p' w'
def HC (nx:Nat->Bool->Tk) (pl:Nat->Nat×Nat) (ere:List UInt8->Option Bool) (w0:World) (q:Nat) (s:ByteArray) (n:Nat):Prop :=
 ∀(l:List Tr) (a:Option Addr) (b c:Nat) (S:Nat->Prop) (p:Ps) (W:World),b=l.length->Pz w0 q s p W->¬ S q->Am 42 W S l (.slice a b c)->Dn nx pl ere n (.has l) p ≠ .hush ->
  Calls prog 265 #[.pointer (some ⟨q,0,none⟩),.slice a b c] W (AbS q W (Dn nx pl ere n (.has l) p) (ZP w0 q s S))
theorem Fx.doneS {w0 W w:World} {q B:Nat} {s:ByteArray} {p:Ps} {l:List B5} {ks:List (List Tr×Value)} (h:Fx w0 W q B s p l ks w) {t:Tr} {kv:Value} {S:Nat->Prop} (f:Am 42 W S t.ks kv) (c:¬ S q) (u0 u1 u2 u3 u4:Value) {r:Hf (List Tr)} (a:Hid (.ok [t] p=r)) :
  AbS q W r (ZP w0 q s S) (.returned (CJ t kv)) (((((w.setCell ⟨W.heap.size,0,none⟩ u0).setCell ⟨W.heap.size,1,none⟩ u1).setCell ⟨W.heap.size,2,none⟩ u2).setCell ⟨W.heap.size,3,none⟩ u3).setCell ⟨W.heap.size,4,none⟩ u4):=by
 have g:=(((((Ae.refl W.heap.size w).set 0 u0).set 1 u1).set 2 u2).set 3 u3).set 4 u4;have i:=h.hq;have b:=(f.mono (S':=fun j=>S j/\j≠W.heap.size) fun j d e=>⟨e,Nat.ne_of_lt d⟩).only h.o (fun e=>c e.1);exact O2 a ⟨⟨t,kv,rfl,rfl,(b.only g (fun e=>e.2 rfl)).mono fun j _ e=>e.1⟩,h.z.far5 h.hw (by omega) _ _ _ _ _⟩ (LI h.o (Nat.le_refl _) _ _ _ _ _)
theorem M2 {b:Type} {o r:Hf b} (a:Hid (o=r)):Hid (o.bind (fun x p => .ok x p)=r):=by rw[<- a.out];show _=_;cases o<;>rfl
theorem J0 (x y:List UInt8):(x=y/\(x==y)=true)\/(x≠y/\(x==y)=false):=by
 by_cases h:x=y
 ·exact .inl ⟨h,beq_iff_eq.2 h⟩
 exact .inr ⟨h,beq_eq_false_iff_ne.2 h⟩
theorem Aav (l:List Tr):(∃x,l=[x])\/(l.length≠1/\((l.length:Int)==1)=false):=by
 by_cases h:l.length=1
 ·exact .inl (List.length_eq_one_iff.1 h)
 exact .inr ⟨h,beq_eq_false_iff_ne.2 (by omega)⟩
theorem ZF {T:TypeId} {w:World} {S:Nat->Prop} {x:Tr} {a:Option Addr} {c:Nat} (h:Am T w S [x] (.slice a 1 c)):∃b d f,a=some ⟨b,0,none⟩/\Am T w S x.ks (.slice d x.ks.length f) /\
  w.cell? ⟨b,0,none⟩=some (.int .i64 x.kd)/\w.cell? ⟨b,1,none⟩=some (.string ⟨x.nm.toArray⟩)/\w.cell? ⟨b,2,none⟩=some (.float .f64 x.x)/\w.cell? ⟨b,3,none⟩=some (.slice d x.ks.length f)/\w.cell? ⟨b,4,none⟩=some (.complex .f64 x.z.1 x.z.2):=by
 obtain⟨b,n,q,e,t,p,g,i,j,k,l,m⟩:=h.cells 0 (by simp);obtain rfl:x=t:=(by simpa using p);injection e with o _ _;obtain⟨d,f,rfl⟩:=g.slice;exact⟨b,d,f,o,g,i,j,k,l,m⟩
theorem Ym {d:Type} {c:Prop} {i:Decidable c} {a b r:d} (h:c) (e:Hid (@ite d c i a b=r)):Hid (a=r):=by have:=e.out;rw[if_pos h] at this;exact this
theorem XY {d:Type} {c:Prop} {i:Decidable c} {a b r:d} (h:¬ c) (e:Hid (@ite d c i a b=r)):Hid (b=r):=by have:=e.out;rw[if_neg h] at this;exact this
theorem Xt (x k:Int):(x=k/\(x==k)=true/\(x != k)=false)\/(x≠k/\(x==k)=false/\(x != k)=true):=by
 by_cases h:x=k
 ·exact .inl ⟨h,beq_iff_eq.2 h,by unfold bne;rw[beq_iff_eq.2 h];rfl⟩
 exact .inr ⟨h,beq_eq_false_iff_ne.2 h,by unfold bne;rw[beq_eq_false_iff_ne.2 h];rfl⟩
structure RxC (nx:Nat->Bool->Tk) (s:ByteArray) (w0:World):Prop where
 call:∀a op W,a<=s.size->Below w0.heap.size w0 W ->
  Calls prog 49 #[.string s,.int .i64 a,.bool op] W fun e w'=>e = .returned (.tuple #[G1 (nx a op),.int .i64 (nx a op).e])/\Below W.heap.size W w'
 lim:∀a op,a<=s.size->(nx a op).f<=s.size/\(nx a op).t<=s.size
 ok:∀a op,a<=s.size->(nx a op).e=0->a<=(nx a op).f/\(nx a op).f<=(nx a op).t/\(nx a op).tx.length<=s.size/\((nx a op).kd≠0->a<(nx a op).t)
def RlC (pl:Nat->Nat×Nat) (s:ByteArray):Prop:=∀f w,f<=s.size->Calls prog 86 #[.string s,.int .i64 f] w fun e w'=>e = .returned (.complex .f64 (pl f).1 (pl f).2)/\w=w'
abbrev rsV (s:ByteArray) (p:Rs):List Value:=[.string s,.int .i64 p.a,.int .i64 p.o,.bool p.g,.int .i64 p.e,.complex .f64 p.z.1 p.z.2]
structure Rz (w0:World) (q:Nat) (s:ByteArray) (p:Rs) (W:World):Prop where
 below:Below w0.heap.size w0 W
 hq:w0.heap.size<=q
 c:CN W q (rsV s p)
 ha:p.a<=s.size
 hs:s.size<=4096
 d1 : -(p.a:Int)<=p.o
 d2:p.o<=p.a
section
variable {w0 W W':World} {q:Nat} {s:ByteArray} {p:Rs}
theorem Rz.keep (h:Rz w0 q s p W) (a:Below W.heap.size W W'):Rz w0 q s p W' :=
 ⟨h.below.trans (a.mono h.below.size),h.hq,h.c.quiet a,h.ha,h.hs,h.d1,h.d2⟩
theorem Rz.lt (h:Rz w0 q s p W):q<W.heap.size:=h.c.l
theorem Rz.drew (h:Rz w0 q s p W):Rz w0 q s p W.drew :=
 ⟨⟨h.below.os,h.below.tape,h.below.output,h.below.size,h.below.block⟩,h.hq,h.c.drew,h.ha,h.hs,h.d1,h.d2⟩
theorem Rz.other {g:Nat} (h:Rz w0 q s p W) (a:Ae g W W') (b:w0.heap.size<=g) (d:q≠g):Rz w0 q s p W' :=
 ⟨a.below_of h.below b h.below.size,h.hq,h.c.only a d,h.ha,h.hs,h.d1,h.d2⟩
theorem Rz.far5 {b:Nat} (h:Rz w0 q s p W) (a:w0.heap.size<=b) (c:q≠b) (v0 v1 v2 v3 v4:Value) :
  Rz w0 q s p (((((W.setCell ⟨b,0,none⟩ v0).setCell ⟨b,1,none⟩ v1).setCell ⟨b,2,none⟩ v2).setCell ⟨b,3,none⟩ v3).setCell ⟨b,4,none⟩ v4) :=
 h.other ((((((Ae.refl b W).set 0 v0).set 1 v1).set 2 v2).set 3 v3).set 4 v4) a c
theorem Rz.setA (h:Rz w0 q s p W) (x:Nat) (e:x<=s.size) (b : -(x:Int)<=p.o) (d:p.o<=x):Rz w0 q s { p with a:=x } (W.setCell ⟨q,1,none⟩ (.int .i64 x)) :=
 ⟨((Ae.refl q W).set 1 _).below_of h.below h.hq h.below.size,h.hq,h.c.set 1 _ (by simp[rsV]),e,h.hs,b,d⟩
theorem Rz.setO (h:Rz w0 q s p W) (x:Int) (b : -(p.a:Int)<=x) (d:x<=p.a):Rz w0 q s { p with o:=x } (W.setCell ⟨q,2,none⟩ (.int .i64 x)) :=
 ⟨((Ae.refl q W).set 2 _).below_of h.below h.hq h.below.size,h.hq,h.c.set 2 _ (by simp[rsV]),h.ha,h.hs,b,d⟩
theorem Rz.setG (h:Rz w0 q s p W) (x:Bool):Rz w0 q s { p with g:=x } (W.setCell ⟨q,3,none⟩ (.bool x)) :=
 ⟨((Ae.refl q W).set 3 _).below_of h.below h.hq h.below.size,h.hq,h.c.set 3 _ (by simp[rsV]),h.ha,h.hs,h.d1,h.d2⟩
theorem Rz.setE (h:Rz w0 q s p W) (x:Int) (z:Nat×Nat):Rz w0 q s { p with e:=x,z:=z } ((W.setCell ⟨q,4,none⟩ (.int .i64 x)).setCell ⟨q,5,none⟩ (.complex .f64 z.1 z.2)) :=
 ⟨(((Ae.refl q W).set 4 _).set 5 _).below_of h.below h.hq h.below.size,h.hq,(h.c.set 4 (.int .i64 x) (by simp[rsV])).set 5 (.complex .f64 z.1 z.2) (by simp[rsV]),h.ha,h.hs,h.d1,h.d2⟩
end
def AbJ {α:Type} (q:Nat) (W:World) (r:RO α) (good:α->Rs->Value->World->Prop) (e:Ending) (w':World):Prop :=
 match r with
 | .ok x p=>∃v,e = .returned v/\good x p v w'/\Ae q W w'
 | .hush=>True
section
variable {α β:Type} {q:Nat} {W W' w':World} {r:RO β} {good:β->Rs->Value->World->Prop}
theorem AbJ.part {o:RO α} {K:α->Rs->RO β} {g:α->Rs->Value->World->Prop} {e:Ending} (h:AbJ q W' o g e w') (a:Hid (o.bind K=r)) (f:r ≠ .hush) :
  ∃x p v,e = .returned v/\g x p v w'/\Ae q W' w'/\Hid (K x p=r):=by
 cases o with
 | hush=>exact absurd a.out.symm f
 | ok x p=>obtain⟨v,b,c,d⟩:=h;exact⟨x,p,v,b,c,d,a.out⟩
theorem Abx {x:β} {p:Rs} {v:Value} (a:Hid (.ok x p=r)) (b:good x p v w') (c:Ae q W w'):AbJ q W r good (.returned v) w':=by rw[<- a.out];exact⟨v,rfl,b,c⟩
theorem K0 {o:RO α} {K:α->Rs->RO β} (a:Hid (o.bind K=r)) (b:r ≠ .hush):o ≠ .hush:=fun e=>b (by rw[<- a.out,e];rfl)
theorem Ab1 {o r:RO α} (a:Hid (o=r)):Hid (o.bind (fun x p => .ok x p)=r):=by rw[<- a.out];show _=_;cases o<;>rfl
end
def Acl (w0:World) (q:Nat) (s:ByteArray) (W:World) (l:List Tr) (a:Rs) (v:Value) (w':World):Prop :=
 (∃t kv,l=[t]/\v=CJ t kv/\Am 42 w' (W.heap.size <= ·) t.ks kv)/\Rz w0 q s a w'
def Ac7 (w0:World) (q:Nat) (s:ByteArray) (W:World) (l:List Tr) (a:Rs) (v:Value) (w':World):Prop :=
 Am 42 w' (W.heap.size <= ·) l v/\Rz w0 q s a w'
def NR (nx:Nat->Bool->Tk) (pl:Nat->Nat×Nat) (ere:List UInt8->Option Bool) (w0:World) (q:Nat) (s:ByteArray) (n:Nat) (k:RT) (f:FuncId):Prop :=
 ∀(p:Rs) (W:World),Rz w0 q s p W->B0 nx pl ere n k p ≠ .hush->Calls prog f #[.pointer (some ⟨q,0,none⟩)] W (AbJ q W (B0 nx pl ere n k p) (Acl w0 q s W))
section
variable (nx:Nat->Bool->Tk) (pl:Nat->Nat×Nat) (ere:List UInt8->Option Bool)
def Abe (f:Nat) (e:Int) (s:Rs):Prop:=e≠0/\((s.e=e/\s.z=pl f)\/(s.e=0/\(nx s.a false).e=e/\(nx s.a false).f=f))
def Ev {α:Type} (F:Nat->RO α) (r:RO α):Prop:=∃N,∀n,N<=n->F n=r
def DD {α:Type} (f:Nat) (e:Int) (F:Nat->RO α):Prop:=∃x s,Abe nx pl f e s/\Ev F (.ok x s)
end
section
variable {nx:Nat->Bool->Tk} {pl:Nat->Nat×Nat} {ere:List UInt8->Option Bool} {α β:Type} {f:Nat} {e:Int} {s:Rs}
theorem Ev.const (r:RO α):Ev (fun _=>r) r:=⟨0,fun _ _=>rfl⟩
theorem Ev.bind {F:Nat->RO α} {K:Nat->α->Rs->RO β} {x:α} {s:Rs} {r:RO β} (h:Ev F (.ok x s)) (a:Ev (fun n=>K n x s) r):Ev (fun n=>(F n).bind (K n)) r:=by
 obtain⟨N,h⟩:=h;obtain⟨M,a⟩:=a;exact⟨max N M,fun n b=>by show (F n).bind (K n)=r;rw[h n (by omega)];exact a n (by omega)⟩
theorem Ev.succ {F:Nat->RO α} {r:RO α} (h:Ev (fun n=>F (n+1)) r):Ev F r:=by
 obtain⟨N,h⟩:=h;exact⟨N+1,fun n a=>by obtain⟨m,rfl⟩:∃m,n=m+1:=⟨n-1,by omega⟩;exact h m (by omega)⟩
theorem DD.ok {x:α} (h:Abe nx pl f e s):DD nx pl f e (fun _=>RO.ok x s):=⟨x,s,h,Ev.const _⟩
theorem DD.bind {F:Nat->RO α} {K:Nat->α->Rs->RO β} (h:DD nx pl f e F) (d:∀x s,Abe nx pl f e s->DD nx pl f e (fun n=>K n x s)):DD nx pl f e (fun n=>(F n).bind (K n)):=by
 obtain⟨x,s,c,g⟩:=h;obtain⟨y,r,a,b⟩:=d x s c;exact⟨y,r,a,g.bind b⟩
theorem DD.succ {F:Nat->RO α} (h:DD nx pl f e (fun n=>F (n+1))):DD nx pl f e F:=by
 obtain⟨x,s,a,b⟩:=h;exact⟨x,s,a,b.succ⟩
theorem Aea (a:Int) (b:Nat) (c:s.e≠0):Abl pl a b s=s:=by unfold Abl;rw[if_neg c]
theorem Abe.tok (h:Abe nx pl f e s) (c:s.e=0):(nx s.a false).e≠0:=by
 rcases h.2 with⟨b,-⟩ | ⟨-,b,-⟩
 ·exact absurd (b.symm.trans c) h.1
 rw[b];exact h.1
theorem Abe.isR (h:Abe nx pl f e s) (x:List UInt8):isR nx x s = .ok false s:=by
 unfold Go.Proofs.YtfblenhlildnaaaGreatDoor.isR;by_cases a:s.e=0
 ·rw[decide_eq_false (h.tok a)];simp
 rw[decide_eq_false a];simp
theorem Abe.takeR (h:Abe nx pl f e s) (x:List UInt8):takeR nx pl x s = .ok false s:=by
 unfold Go.Proofs.YtfblenhlildnaaaGreatDoor.takeR;rw[h.isR];rfl
theorem Abe.oneR (h:Abe nx pl f e s) (L:List (List UInt8)):oneR nx pl L s = .ok none s:=by
 unfold Go.Proofs.YtfblenhlildnaaaGreatDoor.oneR;by_cases a:s.e=0
 ·rw[if_pos a,if_neg (fun c=>h.tok a c.1)]
 rw[if_neg a]
theorem Abe.see (j:∀a,nx a true=nx a false) (h:Abe nx pl f e s) (d:Bool):∃r,AbG nx pl d s = .ok (nx s.a d) r/\r.e=e/\r.z=pl f/\r.g=s.g/\r.a=s.a/\r.o=s.o:=by
 have l:nx s.a d=nx s.a false:=by cases d;rfl;exact j _
 unfold AbG;rw[l];by_cases c:s.e=0
 ·have k:=h.tok c
  rw[if_neg k];rcases h.2 with⟨b,-⟩ | ⟨-,b,i⟩
  ·exact absurd (b.symm.trans c) h.1
  unfold Abl;rw[if_pos c];exact⟨_,rfl,b,by rw[i],rfl,rfl,rfl⟩
 rcases h.2 with⟨b,i⟩ | ⟨b,-⟩
 ·refine⟨s,?_,b,i,rfl,rfl,rfl⟩
  congr 1;split
  ·rfl
  unfold Abl;rw[if_neg c]
 exact absurd b c
theorem Abe.of (h:e≠0) {r:Rs} (a:r.e=e) (b:r.z=pl f):Abe nx pl f e r:=⟨h,.inl ⟨a,b⟩⟩
theorem Abe.wantR (b:∀a,nx a true=nx a false) (h:Abe nx pl f e s) (x:List UInt8):∃r,wantR nx pl x s = .ok () r/\Abe nx pl f e r:=by
 unfold Go.Proofs.YtfblenhlildnaaaGreatDoor.wantR;by_cases c:s.e=0
 ·rw[if_pos c,h.takeR]
  obtain⟨r,g,d,i,-⟩:=h.see b false;simp only[RO.bind,aA,if_false];rw[g];simp only;rw[if_neg (by rw[d];exact h.1)];exact⟨r,rfl,Abe.of h.1 d i⟩
 rw[if_neg c];exact⟨s,rfl,h⟩
theorem Abe.linesR (h:Abe nx pl f e s) (x:List UInt8) (n:Nat):linesR nx x (n+1) s = .ok () s:=by
 unfold Go.Proofs.YtfblenhlildnaaaGreatDoor.linesR;by_cases a:s.e=0
 ·rw[if_pos a,if_neg (fun c=>h.tok a c.1)]
 rw[if_neg a]
theorem Abe.lines (h:Abe nx pl f e s) (x:List UInt8):Ev (fun n=>Go.Proofs.YtfblenhlildnaaaGreatDoor.linesR nx x n s) (.ok () s):=⟨1,fun n a=>by obtain⟨m,rfl⟩:∃m,n=m+1:=⟨n-1,by omega⟩;exact h.linesR x m⟩
theorem Abe.nameR (b:∀a,nx a true=nx a false) (h:Abe nx pl f e s):∃t r,nameR nx pl s = .ok t r/\Abe nx pl f e r:=by
 unfold Go.Proofs.YtfblenhlildnaaaGreatDoor.nameR;obtain⟨r,i,d,j,-⟩:=h.see b false;have g:r.e≠0:=by rw[d];exact h.1
 rw[i];simp only[RO.bind];rw[if_neg (fun c=>g c.1),if_neg g];exact⟨_,r,rfl,Abe.of h.1 d j⟩
theorem Abe.goesR (h:Abe nx pl f e s):∃r,goesR nx pl s = .ok false r/\Abe nx pl f e r:=by
 unfold Go.Proofs.YtfblenhlildnaaaGreatDoor.goesR;by_cases b:s.e=0
 ·rw[if_pos b,if_neg (h.tok b)]
  have:∃r,AbG nx pl false s = .ok (nx s.a false) r/\r.e=e/\r.z=pl f:=by
   unfold AbG;rw[if_neg (h.tok b)];rcases h.2 with⟨c,-⟩ | ⟨-,c,d⟩
   ·exact absurd (c.symm.trans b) h.1
   unfold Abl;rw[if_pos b];exact⟨_,rfl,c,by rw[d]⟩
  obtain⟨r,c,d,g⟩:=this;rw[c];exact⟨r,rfl,Abe.of h.1 d g⟩
 rw[if_neg b];exact⟨s,rfl,h⟩
theorem Abe.g (h:Abe nx pl f e s) (b:Bool):Abe nx pl f e { s with g:=b }:=h
abbrev DK (nx:Nat->Bool->Tk) (pl:Nat->Nat×Nat) (ere:List UInt8->Option Bool) (f:Nat) (e:Int) (k:RT):Prop:=∀s,Abe nx pl f e s->DD nx pl f e (fun n=>B0 nx pl ere n k s)
theorem DD.const {r:RO α} {x:α} {s:Rs} (a:r = .ok x s) (h:Abe nx pl f e s):DD nx pl f e (fun _=>r):=⟨x,s,h,a▸Ev.const _⟩
theorem Ace (b:∀a,nx a true=nx a false):DK nx pl ere f e .operand:=fun s h=>by
 refine DD.succ ?_;obtain⟨r,d,c,g,-⟩:=h.see b true;have i:¬ r.e=0:=by rw[c];exact h.1
 simp only[B0,d,RO.bind,ne_eq,i,not_false_eq_true,if_true];exact DD.ok (Abe.of h.1 c g)
theorem Acn (l:List Tr):DK nx pl ere f e (.listL l):=fun s h=>by
 refine DD.succ ?_;simp only[B0,h.takeR,RO.bind,aA,if_false,ite_self];exact DD.ok h
theorem Aez (b:∀a,nx a true=nx a false):DK nx pl ere f e .primary:=fun s h=>by
 refine DD.succ ?_;by_cases c:s.e=0
 ·simp only[B0,ne_eq,c,not_true_eq_false,if_false,h.oneR,h.isR,RO.bind,aA]
  exact Ace b s h
 simp only[B0,ne_eq,c,not_false_eq_true,if_true];exact DD.ok h
theorem AgU (b:∀a,nx a true=nx a false):DK nx pl ere f e .post:=fun s h=>by
 refine DD.succ ?_;simp only[B0];refine DD.bind (Aez b s h) fun l s h=>?_;simp only[h.oneR,RO.bind,ite_self];exact DD.ok h
theorem Ad8 (b:∀a,nx a true=nx a false):DK nx pl ere f e .power:=fun s h=>by
 refine DD.succ ?_;simp only[B0];refine DD.bind (AgU b s h) fun l s h=>?_;simp only[h.oneR,RO.bind];exact DD.ok h
theorem Af9 (b:∀a,nx a true=nx a false):DK nx pl ere f e .unary:=fun s h=>by
 refine DD.succ ?_;simp only[B0,h.oneR,RO.bind];exact Ad8 b s h
theorem Ac8 (t:Tr):DK nx pl ere f e (.prodL t):=fun s h=>by
 refine DD.succ ?_;simp only[B0,h.oneR,RO.bind];exact DD.ok h
theorem AgV (b:∀a,nx a true=nx a false):DK nx pl ere f e .prod:=fun s h=>by
 refine DD.succ ?_;simp only[B0];exact DD.bind (Af9 b s h) fun l s h=>Ac8 _ s h
theorem AdR (t:Tr):DK nx pl ere f e (.sumL t):=fun s h=>by
 refine DD.succ ?_;simp only[B0,h.oneR,RO.bind];exact DD.ok h
theorem AhM (b:∀a,nx a true=nx a false):DK nx pl ere f e .sum:=fun s h=>by
 refine DD.succ ?_;simp only[B0];exact DD.bind (AgV b s h) fun l s h=>AdR _ s h
theorem AdN (t:Tr):DK nx pl ere f e (.catL t):=fun s h=>by
 refine DD.succ ?_;obtain⟨r,a,b⟩:=h.goesR;simp only[B0,a,RO.bind,aA,if_false];exact DD.ok b
theorem AhJ (b:∀a,nx a true=nx a false):DK nx pl ere f e .cat:=fun s h=>by
 refine DD.succ ?_;simp only[B0];exact DD.bind (AhM b s h) fun l s h=>AdN _ s h
theorem AhK (b:∀a,nx a true=nx a false):DK nx pl ere f e .cmp:=fun s h=>by
 refine DD.succ ?_;simp only[B0];refine DD.bind (AhJ b s h) fun l s h=>?_;simp only[h.oneR,RO.bind];exact DD.ok h
theorem AdP (t:Tr):DK nx pl ere f e (.matL t):=fun s h=>by
 refine DD.succ ?_;simp only[B0,h.oneR,RO.bind];exact DD.ok h
theorem AhL (b:∀a,nx a true=nx a false):DK nx pl ere f e .mat:=fun s h=>by
 refine DD.succ ?_;simp only[B0];exact DD.bind (AhK b s h) fun l s h=>AdP _ s h
theorem AdO (t:Tr):DK nx pl ere f e (.innL t):=fun s h=>by
 refine DD.succ ?_;simp only[B0,h.isR,RO.bind,aA,if_false];exact DD.ok h
theorem Af8 (b:∀a,nx a true=nx a false):DK nx pl ere f e .inn:=fun s h=>by
 refine DD.succ ?_;simp only[B0];exact DD.bind (AhL b s h) fun l s h=>AdO _ s h
theorem Ac1 (t:Tr):DK nx pl ere f e (.andL t):=fun s h=>by
 refine DD.succ ?_;simp only[B0,h.oneR,RO.bind];exact DD.ok h
theorem Af7 (b:∀a,nx a true=nx a false):DK nx pl ere f e .and:=fun s h=>by
 refine DD.succ ?_;simp only[B0];exact DD.bind (Af8 b s h) fun l s h=>Ac1 _ s h
theorem AdQ (t:Tr):DK nx pl ere f e (.orL t):=fun s h=>by
 refine DD.succ ?_;simp only[B0,h.oneR,RO.bind];exact DD.ok h
theorem Aij (b:∀a,nx a true=nx a false):DK nx pl ere f e .or:=fun s h=>by
 refine DD.succ ?_;simp only[B0];exact DD.bind (Af7 b s h) fun l s h=>AdQ _ s h
theorem AgS (b:∀a,nx a true=nx a false):DK nx pl ere f e .cond:=fun s h=>by
 refine DD.succ ?_;simp only[B0];refine DD.bind (Aij b s h) fun l s h=>?_;simp only[h.oneR,RO.bind];exact DD.ok h
theorem Acd (b:∀a,nx a true=nx a false):DK nx pl ere f e .expr:=fun s h=>by
 refine DD.succ ?_;simp only[B0];refine DD.bind (AgS b s h) fun l s h=>?_;simp only[h.oneR,RO.bind,ite_self];exact DD.ok h
theorem Ad9 (b:∀a,nx a true=nx a false):DK nx pl ere f e .round:=fun s h=>by
 refine DD.succ ?_;obtain⟨r,c,h⟩:=h.wantR b [40];simp only[B0,c];show DD nx pl f e (fun n=>(B0 nx pl ere n .expr r).bind fun l s=>(Go.Proofs.YtfblenhlildnaaaGreatDoor.wantR nx pl [41] s).bind fun _ s => .ok l s);refine DD.bind (Acd b r h) fun l s h=>?_;obtain⟨r,c,h⟩:=h.wantR b [41];simp only[c,RO.bind];exact DD.ok h
theorem Ac2 (b:∀a,nx a true=nx a false) (c:Bool):DK nx pl ere f e (.list c):=fun s h=>by
 refine DD.succ ?_;simp only[B0];refine DD.bind (Acd b _ (h.g _)) fun l r h=>?_;refine DD.bind (Acn l r h) fun l r h=>?_;exact DD.ok (h.g _)
theorem Afr (b:∀a,nx a true=nx a false) (x:List UInt8):DK nx pl ere f e (.inside x):=fun s h=>by
 refine DD.succ ?_;simp only[B0];refine DD.bind (Ac2 b false s h) fun l s h=>?_;obtain⟨r,c,h⟩:=h.wantR b x;simp only[c,RO.bind];exact DD.ok h
theorem AgT (b:∀a,nx a true=nx a false):DK nx pl ere f e .outs:=fun s h=>by
 refine DD.succ ?_;simp only[B0,h.takeR];show DD nx pl f e (fun n=>(B0 nx pl ere n (.list true) { s with g:=true }).bind fun l r => .ok l { r with g:=s.g });refine DD.bind (Ac2 b true _ (h.g _)) fun l r h=>?_;exact DD.ok (h.g _)
end
section
variable (nx:Nat->Bool->Tk) (pl:Nat->Nat×Nat)
structure Abi:Prop where
 gw:∀a,(nx a false).kd=8->(nx a false).tx≠[62]
 ln:∀a,(nx a false).kd=6->(nx a false).tx≠[108,101,110,103,116,104]
 op:∀a,nx a true=nx a false
 gt:∀a,isS (nx a false) [62]=false
 re:∀a,(nx a false).kd≠4
 sg:∀a x,(nx a false).kd=8->(nx a false).tx=x->x∉[[40],[41],[91],[93],[123],[125],[44],[59],[58]]
 wd:∀a x,(nx a false).kd=9->(nx a false).tx=x->x∉[[105,110],[105,102],[119,104,105,108,101],[100,111],[102,111,114],[101,108,115,101],[98,114,101,97,107],[99,111,110,116,105,110,117,101],[110,101,120,116],[101,120,105,116],[114,101,116,117,114,110],[100,101,108,101,116,101],[112,114,105,110,116],[112,114,105,110,116,102],[66,69,71,73,78],[69,78,68],[71,65,80],[69,86,69,82,89],[102,117,110,99,116,105,111,110]]
structure Re (p:Ps) (s:Rs):Prop where
 a:s.a=p.a
 o:s.o=p.deep
 e:s.e=0
def Rel {α β:Type} (g:Bool) (R:α->β->Prop) (o:Hf α) (F:Nat->RO β):Prop :=
 match o with
 | .ok x p=>∃y s,R x y/\Re p s/\s.g=g/\Ev F (.ok y s)
 | .bad f e=>DD nx pl f e F
 | .hush=>True
end
section
variable {nx:Nat->Bool->Tk} {pl:Nat->Nat×Nat} {ere:List UInt8->Option Bool} {α β γ δ:Type} {p:Ps} {s:Rs} {g:Bool}
theorem Rel.bind {g':Bool} {R:α->β->Prop} {S:γ->δ->Prop} {o:Hf α} {F:Nat->RO β} {K:α->Ps->Hf γ} {L:Nat->β->Rs->RO δ} (h:Rel nx pl g R o F)
  (t:∀x y p s,R x y->Re p s->s.g=g->Rel nx pl g' S (K x p) (fun n=>L n y s)) (m:∀f e y s,Abe nx pl f e s->DD nx pl f e (fun n=>L n y s)):Rel nx pl g' S (o.bind K) (fun n=>(F n).bind (L n)):=by
 cases o with
 | hush=>trivial
 | bad f e=>exact DD.bind h fun y s A=>m f e y s A
 | ok x p =>
   obtain⟨y,s,w,v,q,i⟩:=h;have b:=t x y p s w v q;show Rel nx pl g' S (K x p) _
   cases d:K x p with
   | hush=>trivial
   | bad f e =>
     rw[d] at b;obtain⟨z,r,c,a⟩:=b;exact⟨z,r,c,i.bind a⟩
   | ok u B =>
     rw[d] at b;obtain⟨z,r,j,k,l,a⟩:=b;exact⟨z,r,j,k,l,i.bind a⟩
theorem Rel.succ {R:α->β->Prop} {o:Hf α} {F:Nat->RO β} (h:Rel nx pl g R o (fun n=>F (n+1))):Rel nx pl g R o F:=by
 cases o with
 | hush=>trivial
 | bad f e=>exact DD.succ h
 | ok x p=>obtain⟨y,s,c,b,a,d⟩:=h;exact⟨y,s,c,b,a,d.succ⟩
theorem Rel.ok {R:α->β->Prop} {x:α} {y:β} (c:R x y) (b:Re p s) (a:s.g=g):Rel nx pl g R (.ok x p) (fun _ => .ok y s):=⟨y,s,c,b,a,Ev.const _⟩
theorem Rel.dead {R:α->β->Prop} {f:Nat} {e:Int} {F:Nat->RO β} (h:DD nx pl f e F):Rel nx pl g R (.bad f e) F:=h
theorem Re.peek {R:α->β->Prop} (H:Abi nx) (h:Re p s) (c:Bool) {K:Tk->Ps->Hf α} {F:Nat->RO β} (i:(nx p.a false).e=0->Rel nx pl g R (K (nx p.a false) p) F) (d:Abe nx pl (nx p.a false).f (nx p.a false).e s->DD nx pl (nx p.a false).f (nx p.a false).e F) :
  Rel nx pl g R ((Eb nx c p).bind K) F:=by
 have j:nx p.a c=nx p.a false:=by cases c;rfl;exact H.op _
 unfold Eb;rw[j];by_cases b:(nx p.a false).e=0
 ·rw[if_pos b];exact i b
 rw[if_neg b];exact d ⟨b,.inr ⟨h.e,by rw[h.a],by rw[h.a]⟩⟩
theorem Re.took (h:Re p s) (t:Tk):Re (CQ t p) { s with a:=t.t }:=⟨rfl,h.o,h.e⟩
theorem Re.one (h:Re p s) (L:List (List UInt8)) (b:(nx p.a false).e=0) :
  oneR nx pl L s=if (nx p.a false).kd=9/\L.contains (nx p.a false).tx=true then .ok (some ((nx p.a false).tx,pl (nx p.a false).f)) { s with a:=(nx p.a false).t } else .ok none s:=by
 unfold oneR;rw[if_pos h.e,h.a];by_cases c:(nx p.a false).kd=9/\L.contains (nx p.a false).tx=true
 ·rw[if_pos ⟨b,c⟩,if_pos c]
 rw[if_neg (fun d=>c d.2),if_neg c]
theorem Re.is (h:Re p s) (x:List UInt8) (b:(nx p.a false).e=0):isR nx x s = .ok (AbN x (nx p.a false)) s:=by
 unfold isR;rw[h.a,decide_eq_true h.e,decide_eq_true b];rfl
theorem AbA (H:Abi nx) (a:Nat) (x:List UInt8) (d:x∈[[40],[41],[91],[93],[123],[125],[44],[59],[58]]):AbN x (nx a false)=isS (nx a false) x:=by
 unfold AbN isS;by_cases b:(nx a false).kd=8
 ·by_cases c:(nx a false).tx=x
  ·exact absurd d (H.sg a x b c)
  rw[decide_eq_false c];simp
 rw[decide_eq_false b];simp
theorem AbV (H:Abi nx) (a:Nat) (x:List UInt8) (d:x∈[[105,110],[105,102],[119,104,105,108,101],[100,111],[102,111,114],[101,108,115,101],[98,114,101,97,107],[99,111,110,116,105,110,117,101],[110,101,120,116],[101,120,105,116],[114,101,116,117,114,110],[100,101,108,101,116,101],[112,114,105,110,116],[112,114,105,110,116,102],[66,69,71,73,78],[69,78,68],[71,65,80],[69,86,69,82,89],[102,117,110,99,116,105,111,110]]):AbN x (nx a false)=XI (nx a false) x:=by
 unfold AbN XI;by_cases b:(nx a false).kd=9
 ·by_cases c:(nx a false).tx=x
  ·exact absurd d (H.wd a x b c)
  rw[decide_eq_false c];simp
 rw[decide_eq_false b];simp
theorem AdZ (t:Tk) (p:Ps):Yd t p≠0:=by unfold Yd;split<;>decide
theorem Re.wrong {R:α->β->Prop} (H:Abi nx) (h:Re p s) {y:β}:Rel nx pl g R (JF (nx p.a false) p) (fun _ => .ok y (Abj pl (nx p.a false) s)):=by
 have b:=H.gt p.a
 have:Abj pl (nx p.a false) s={ s with e:=Yd (nx p.a false) p,z:=pl (nx p.a false).f }:=by
  unfold Abj Yd Abl;rw[b,if_pos h.e,if_pos h.e];simp only[aA,false_and,or_false];split<;>rfl
 rw[this];exact DD.ok (Abe.of (AdZ _ _) rfl rfl)
theorem Re.want (H:Abi nx) (h:Re p s) (x:List UInt8) (k:x∈[[40],[41],[91],[93],[123],[125],[44],[59],[58]]):Rel nx pl s.g (fun _ _=>True) (Abb nx pl x p) (fun _=>wantR nx pl x s):=by
 unfold Abb;refine h.peek H false (fun i=>?_) (fun n=>?_)
 ·by_cases f:isS (nx p.a false) x=true
  ·have j:wantR nx pl x s = .ok () (Abs pl x (nx p.a false) s):=by
    unfold wantR takeR;rw[if_pos h.e,h.is x i,AbA H _ _ k,f];simp only[RO.bind,if_true];rw[h.a]
   rw[if_pos f,j];unfold Abs;by_cases d:ZT x=true
   ·rw[if_pos d,if_pos d,h.o]
    by_cases b:40<p.deep+1
    ·rw[if_pos b,if_pos b]
     unfold Abl;rw[if_pos h.e];exact DD.ok (Abe.of (by decide) rfl rfl)
    rw[if_neg b,if_neg b];exact Rel.ok trivial ⟨rfl,rfl,h.e⟩ rfl
   rw[if_neg d,if_neg d];by_cases c:ZV x=true
   ·rw[if_pos c,if_pos c,h.o];exact Rel.ok trivial ⟨rfl,rfl,h.e⟩ rfl
   rw[if_neg c,if_neg c];exact Rel.ok trivial ⟨rfl,h.o,h.e⟩ rfl
  have j:wantR nx pl x s = .ok () (Abj pl (nx p.a false) s):=by
   unfold wantR takeR;rw[if_pos h.e,h.is x i,AbA H _ _ k];simp only[RO.bind,f,aA,if_false];unfold AbG;rw[h.a,if_pos i];simp only[h.e,if_true]
  rw[if_neg f,j];exact h.wrong H
 obtain⟨r,l,m⟩:=n.wantR H.op x;exact DD.const l m
theorem Re.lines (H:Abi nx) (d:Bool):∀(n:Nat) (p:Ps) (s:Rs),Re p s->Rel nx pl s.g (fun _ _=>True) (Lf nx d n p) (fun m=>linesR nx [] m s)
 | 0,_,_,_=>trivial
 | n+1,p,s,h=>by
   refine Rel.succ ?_;rw[Lf];refine h.peek H d (fun i=>?_) (fun f=>?_)
   ·by_cases b:(nx p.a false).kd=1
    ·have hF:(fun m=>linesR nx [] (m+1) s)=fun m=>linesR nx [] m { s with a:=(nx p.a false).t }:=by
      funext m;rw[linesR,if_pos h.e,h.a,if_pos ⟨i,.inl b⟩]
     rw[if_pos b,hF];exact Re.lines H d n _ _ (h.took _)
    have hF:(fun m=>linesR nx [] (m+1) s)=fun _ => .ok () s:=by
     funext m;rw[linesR,if_pos h.e,h.a,if_neg (fun c=>by rcases c.2 with c | c;exact b c;exact c.1 rfl)]
    rw[if_neg b,hF];exact Rel.ok trivial h rfl
   obtain⟨N,j⟩:=f.lines [];exact⟨_,_,f,N,fun m k=>j (m+1) (by omega)⟩
end
end Go.Proofs.YtfblenhlildnaaaGreatDoor
