/- Eg Eh Ei Ej Ek Et Eu Er -/
import Derived.Test.YtipfpohlnhmlpaaGreatDoorGx
set_option maxRecDepth 100000
set_option maxHeartbeats 4000000
open Go.Lib renaming hid->aA
open List renaming mem_singleton->aB,mem_of_getElem?->aE,getElem?_eq_some_iff->aF,getElem?_eq_getElem->aG,take_succ_eq_append_getElem->aJ,mem_append->aP,length_cons->aS,all_eq_true->aT,take_length->aU
open Nat renaming le_refl->aC,le_trans->aI,lt_of_lt_of_le->aQ,mul_comm->aR
open Go.Ending renaming returned->aD
open Bool renaming true_and->aH,false_and->aK,and_eq_true->aO
open Go.Value renaming int->aL,bool->aM
open Go.Calls renaming quiet_of_same->aN
namespace Go
def Fb (k:Int):Int:=if k=0\/k=1\/k=7\/k=8 then 0 else if k=4\/k=5\/k=6 then 1 else if k=2\/k=3 then 2 else -1
end Go
namespace Go.Proofs.YtipfpohlnhmlpaaGreatDoor
open Go.Proofs.Tryz
open Go.RowKit
theorem RL (k:Int) (w:World):Calls prog 179 #[.int .i64 k] w fun e n=>e = .returned (.int .i64 (Fb k))/\w=n:=by
 by_cases h:0<=k/\k<=8
 ·rcases (by omega:k=0\/k=1\/k=2\/k=3\/k=4\/k=5\/k=6\/k=7\/k=8) with rfl | rfl | rfl | rfl | rfl | rfl | rfl | rfl | rfl <;>
   (go_in;go_wp2;go_ret;exact⟨rfl,rfl⟩)
 have b:¬ k=0:=(by omega);have c:¬ k=1:=(by omega);have d:¬ k=2:=(by omega);have f:¬ k=3:=(by omega);have g:¬ k=4:=(by omega);have i:¬ k=5:=(by omega);have j:¬ k=6:=(by omega);have l:¬ k=7:=(by omega);have m:¬ k=8:=(by omega);have a:Fb k = -1:=by unfold Fb;simp[b,c,d,f,g,i,j,l,m]
 rw[a];clear h a
 go_in
 go_wp2;go_ret;exact⟨rfl,rfl⟩
end Go.Proofs.YtipfpohlnhmlpaaGreatDoor
namespace Go
open Go.RowKit
def Cf (s:ByteArray) (k:Nat):Nat:=if h:k<s.size then s[k].toNat else 256
theorem F6 {s:ByteArray} {k:Nat} (h:k<s.size):Cf s k=s[k].toNat:=by unfold Cf;rw[dif_pos h]
theorem Ot {s:ByteArray} {k:Nat} (h:Cf s k<256):k<s.size:=by
 refine Decidable.byContradiction fun a=>?_;unfold Cf at h;rw[dif_neg a] at h;omega
def Tz:ByteArray:=⟨#[91,48,45,57,93,43]⟩
def OS (a:Nat->Nat->Option (Rt×Nat)) (s:ByteArray) (o k:Nat):Option (Rt×Nat) :=
 if k<s.size then
  if Cf s k=40 then
   if o+1<=10 then (a (o+1) (k+1)).bind fun p=>if Cf s p.2=41 then some (p.1,p.2+1) else none
   else none
  else if Cf s k=46 then some (.mk 1 [],k+1)
  else if Cf s k=91 then (if s=Tz/\k=0 then some (.mk 1 [],5) else none)
  else if Cf s k=94 then some (.mk 7 [],k+1)
  else if Cf s k=36 then some (.mk 8 [],k+1)
  else if Cf s k=92\/Cf s k=42\/Cf s k=43\/Cf s k=63\/Cf s k=123\/Cf s k=124\/Cf s k=41 then none
  else some (.mk 1 [],k+1)
 else none
def C6 (s:ByteArray):Nat->Rt->Nat->Option (Rt×Nat)
 | 0,_,_=>none
 | n+1,t,k=>if k<s.size then
    if Cf s k=42 then C6 s n (.mk 4 [t]) (k+1)
    else if Cf s k=43 then C6 s n (.mk 5 [t]) (k+1)
    else if Cf s k=63 then C6 s n (.mk 6 [t]) (k+1)
    else if Cf s k=123 then none
    else some (t,k)
   else some (t,k)
def NJ (a:Nat->Nat->Option (Rt×Nat)) (n:Nat) (s:ByteArray) (o k:Nat):Option (Rt×Nat):=(OS a s o k).bind fun p=>C6 s n p.1 p.2
def I5 (f:Nat->Option (Rt×Nat)) (s:ByteArray):Nat->List Rt->Nat->Option (List Rt×Nat)
 | 0,_,_=>none
 | n+1,l,k=>if k<s.size/\Cf s k≠124/\Cf s k≠41 then (f k).bind fun p=>I5 f s n (l++[p.1]) p.2 else some (l,k)
def VJ (a:Nat->Nat->Option (Rt×Nat)) (n:Nat) (s:ByteArray) (o k:Nat):Option (Rt×Nat) :=
 (NJ a n s o k).bind fun p=>(I5 (NJ a n s o) s n [p.1] p.2).bind fun q=>some (DL 2 q.1,q.2)
def I4 (f:Nat->Option (Rt×Nat)) (s:ByteArray):Nat->List Rt->Nat->Option (List Rt×Nat)
 | 0,_,_=>none
 | n+1,l,k=>if Cf s k=124 then (f (k+1)).bind fun p=>I4 f s n (l++[p.1]) p.2 else some (l,k)
def I3 (s:ByteArray):Nat->Nat->Nat->Option (Rt×Nat)
 | 0,_,_=>none
 | n+1,o,k=>(VJ (I3 s n) n s o k).bind fun p=>(I4 (VJ (I3 s n) n s o) s n [p.1] p.2).bind fun q=>some (DL 3 q.1,q.2)
mutual
def Rt.wt:Rt->Nat | .mk _ ks=>1+FA ks
def FA:List Rt->Nat | []=>0 | t::ts=>t.wt+FA ts
end
theorem Rt.wt_mk (k:Int) (ks:List Rt):(Rt.mk k ks).wt=1+FA ks:=by rw[Rt.wt]
theorem EA (t:Rt) (a:List Rt):FA (t::a)=t.wt+FA a:=by rw[FA]
theorem Le {t:Rt} {ks:List Rt} (h:t∈ks):t.wt<=FA ks:=by
 induction ks with
 | nil=>cases h
 | cons a ks b=>rw[EA];cases h with
   | head=>omega
   | tail _ h=>have:=b h;omega
theorem Jb (l:List Rt):l.length<=FA l:=by
 induction l with
 | nil=>simp
 | cons t b a=>obtain⟨k,ks⟩:=t;rw[EA,Rt.wt_mk,aS];omega
mutual
def QP:Rt->Bool | .mk k ks=>decide (Fb k=(ks.length:Int))&&Qj ks
def Qj:List Rt->Bool | []=>true | t::ts=>QP t&&Qj ts
end
theorem VM (k:Int) (ks:List Rt):QP (.mk k ks)=(decide (Fb k=(ks.length:Int))&&Qj ks):=by rw[QP]
theorem Sw (ks:List Rt):Qj ks=ks.all QP:=by
 induction ks with
 | nil=>rw[Qj];rfl
 | cons t b a=>rw[Qj,a];rfl
mutual
def Tk:Rt->Nat->Bool | .mk k ks,n=>decide (n≠0)&&DC k ks n 0
def DC (k:Int):List Rt->Nat->Nat->Bool | [],_,_=>true | t::ts,n,i=>Tk t (if i=1/\(k=2\/k=3) then n else n-1)&&DC k ts n (i+1)
end
theorem Vn (k:Int) (ks:List Rt) (n:Nat):Tk (.mk k ks) n=(decide (n≠0)&&DC k ks n 0):=by rw[Tk]
theorem Pp (k:Int) (t:Rt) (a:List Rt) (n i:Nat):DC k (t::a) n i=(Tk t (if i=1/\(k=2\/k=3) then n else n-1)&&DC k a n (i+1)):=by rw[DC]
theorem Pq (k:Int) (ks:List Rt) (n i:Nat) (t:Rt) (h:ks[i]?=some t):DC k (ks.drop i) n i=(Tk t (if i=1/\(k=2\/k=3) then n else n-1)&&DC k (ks.drop (i+1)) n (i+1)):=by
 obtain⟨a,e⟩:=aF.1 h;rw[List.drop_eq_getElem_cons a,e,Pp]
theorem Rd (k:Int) (ks:List Rt) (n i:Nat) (h:ks.length<=i):DC k (ks.drop i) n i=true:=by rw[List.drop_of_length_le h,DC]
mutual
def MU:Rt->Nat | .mk _ ks=>if ks.isEmpty then 1 else E8 ks
def E8:List Rt->Nat | []=>0 | t::ts=>MU t+E8 ts
end
theorem Of (k:Int) (ks:List Rt):MU (.mk k ks)=if ks.isEmpty then 1 else E8 ks:=by rw[MU]
theorem ML:E8 []=0:=by rw[E8]
theorem SS (a b:List Rt):E8 (a++b)=E8 a+E8 b:=by
 induction a with
 | nil=>simp[ML]
 | cons t d c=>rw[List.cons_append,E8,E8,c];omega
theorem Xk (t:Rt):E8 [t]=MU t:=by rw[E8,E8];omega
mutual
theorem VN:∀t:Rt,MU t<=t.wt
 | .mk k ks=>by
   rw[Of,Rt.wt_mk];have:=Lh ks;split<;>omega
theorem Lh:∀l:List Rt,E8 l<=FA l
 | []=>by rw[E8];omega
 | t::ts=>by
   rw[E8,EA];have:=VN t;have:=Lh ts;omega
end
def WX (t:Rt):Bool:=QP t&&(Tk t 40&&decide (MU t<=400))
def So (s:ByteArray):Bool:=match I3 s 12 0 0 with
 | none=>false
 | some (t,k)=>decide (k=s.size)&&(WX t&&decide (t.wt<=1000))
theorem P9 {s:ByteArray} (h:So s=true):∃t,I3 s 12 0 0=some (t,s.size)/\WX t=true/\t.wt<=1000:=by
 unfold So at h
 cases e:I3 s 12 0 0 with
 | none=>rw[e] at h;cases h
 | some p =>
   obtain⟨t,k⟩:=p;rw[e] at h;simp only[aO,decide_eq_true_eq] at h;obtain⟨a,b,c⟩:=h;subst a;exact⟨t,rfl,b,c⟩
theorem Cs.cells {w:World} {S:Nat->Prop} {ks:List Rt} {v:Value} (h:Cs w S ks v) (k:Nat) (e:k<ks.length) :
  ∃(b cap:Nat) (t:Rt) (x:Rw) (j:Value),v = .slice (some ⟨b,0,none⟩) ks.length cap/\ks[k]?=some t/\Cs w S t.ks j/\(t.kd≠1->x=⟨0,0,0,0⟩)/\w.cell? ⟨b,6*k,none⟩=some (.int .i64 t.kd)/\w.cell? ⟨b,6*k+1,none⟩=some (.int .u64 x.a) /\
   w.cell? ⟨b,6*k+2,none⟩=some (.int .u64 x.b)/\w.cell? ⟨b,6*k+3,none⟩=some (.int .u64 x.c)/\w.cell? ⟨b,6*k+4,none⟩=some (.int .u64 x.d)/\w.cell? ⟨b,6*k+5,none⟩=some j:=by
 cases h with
 | nil=>simp at e
 | row L b cap y z s u f =>
   rw[List.length_map] at e;obtain⟨p,g⟩:∃p,L[k]?=some p:=⟨L[k]'e,aG e⟩;obtain⟨l,m,n,o,q,r⟩:=s k p g;have i:=aE g;exact⟨b,cap,p.1,p.2.1,p.2.2,by rw[List.length_map],by rw[List.getElem?_map,g];rfl,f p i,u p i,l,m,n,o,q,r⟩
def Km (t:Rt) (x:Rw) (e:Value):Value:=.agg #[.int .i64 t.kd,.int .u64 x.a,.int .u64 x.b,.int .u64 x.c,.int .u64 x.d,e]
end Go
namespace Go.Proofs.YtipfpohlnhmlpaaGreatDoor
open Go.Proofs.Tryz
open Go.RowKit
def Xb (n:Nat):Prop:=∀(t:Rt) (x:Rw) (a:Value) (W:World),t.wt<=n->(t.kd≠1->x=⟨0,0,0,0⟩)->Cs W (fun _=>True) t.ks a ->
 Calls prog 173 #[Km t x a] W fun e b=>e = .returned (.bool (QP t))/\Below W.heap.size W b
theorem W_ (W:World):Sem.run prog (Op.equal 183 (.agg #[.int .u64 0,.int .u64 0,.int .u64 0,.int .u64 0]) (.agg #[.int .u64 0,.int .u64 0,.int .u64 0,.int .u64 0])) W = .ok true W:=by kernel_rfl
theorem WS (W:World):Sem.run prog (Op.equalIn 10000 183 (.agg #[.int .u64 0,.int .u64 0,.int .u64 0,.int .u64 0]) (.agg #[.int .u64 0,.int .u64 0,.int .u64 0,.int .u64 0])) W = .ok true W:=by kernel_rfl
theorem MF (n:Nat) (hE:Xb n) (t:Rt) (x:Rw) (kv:Value) (W:World) (hw:t.wt<=n+1) (hn:n<=100000) (T:t.kd≠1->x=⟨0,0,0,0⟩) (O:Cs W (fun _=>True) t.ks kv) :
  Calls prog 173 #[Km t x kv] W fun e H=>e = .returned (.bool (QP t))/\Below W.heap.size W H:=by
 obtain⟨k,ks⟩:=t;obtain⟨U,X,Y,Z⟩:=x;have o:FA ks<=n:=by rw[Rt.wt_mk] at hw;omega
 have l0:ks.length<=100000:=by have:=Jb ks;omega
 obtain⟨a,A,rfl⟩:=O.slice;rw[VM,Sw];show Calls prog 173 #[.agg #[.int .i64 k,.int .u64 U,.int .u64 X,.int .u64 Y,.int .u64 Z,.slice a ks.length A]] W _;obtain⟨V,S⟩:∃V,V=W.alloc (.cells #[.int .i64 k,.int .u64 U,.int .u64 X,.int .u64 Y,.int .u64 Z,.slice a ks.length A] 186):=⟨_,rfl⟩;have f:=aA (show Below W.heap.size W V from by rw[S];exact Ad W _);have R:Af V W.heap.size [.int .i64 k,.int .u64 U,.int .u64 X,.int .u64 Y,.int .u64 Z,.slice a ks.length A]:=by rw[S];exact Af.new W _ _
 have HV:=aA ((show Cs W (fun _=>True) ks (.slice a ks.length A) from O).bel f.out);have HE:=aA hE;have HX:=aA (show k≠1->(⟨U,X,Y,Z⟩:Rw)=⟨0,0,0,0⟩ from T);have a0:=aA o;have J:=aA R;have r:Hid (∀s,Calls prog 179 #[.int .i64 k] s fun e H=>e = .returned (.int .i64 (Fb k))/\H=s):=fun s=>(RL k s).mono fun e H h=>⟨h.1,h.2.symm⟩;have d0:=R.c 0 _ rfl;have d5:=R.c 5 _ rfl;have L:=aA S;clear O hE hw o T R S;by_cases G:Fb k=(ks.length:Int)
 ·have z:decide (Fb k=(ks.length:Int))=true:=decide_eq_true G
  rw[z,aH];rw[G] at r;clear G z
  go_in
  go_upto_region 1 with fail
  rw[<- L.out]
  go_cut [21] (fun v wx=>v = .bool false/\∃m,wx=V.drewN m)
  case first =>
   by_cases h1:k=1
   ·subst h1
    go_quiet ((go_at_call 179;exact aN (r.out _)));go_wp2;go_meet;exact⟨rfl,_,rfl⟩
   have T:=HX.out h1;injection T with y0 y1 y2 y3;subst y0 y1 y2 y3;have d1:=J.out.c 1 _ rfl;have d2:=J.out.c 2 _ rfl;have d3:=J.out.c 3 _ rfl;have d4:=J.out.c 4 _ rfl;have b1:(k==1)=false:=beq_eq_false_iff_ne.2 h1;have m0:=fun W=>W_ W;have n0:=fun W=>WS W;go_quiet ((go_at_call 179;exact aN (r.out _)));go_wp2;go_meet;exact⟨rfl,_,rfl⟩
  case rest =>
  obtain⟨rfl,m,rfl⟩:=hcut
  apply_assumption
  have B:=aA (show Below V.heap.size V (V.drewN m) from ⟨rfl,rfl,rfl,aC _,fun _ _=>rfl⟩)
  go_wp2_with fail
  go_loopg [3] ks.length (fun g i wr=>∃(j:Nat),i = .int .i64 j/\j+g=ks.length/\Hid (∀t∈ks.take j,QP t=true)/\Hid (Below V.heap.size V wr))
  case atStart=>exact⟨0,rfl,by omega,by simp[Hid],B⟩
  obtain⟨j,rfl,k0,HT,l⟩:=hrel;have c5:=Aa (J.out.c 5 _ rfl) l.out;by_cases o:j<ks.length
  ·obtain⟨b,j0,t,y,kw,O,M,E,Q,e0,e1,e2,e3,e4,e5⟩:=(HV.out.bel l.out).cells j o
   injection O with h0 _ i0;subst h0;have N:ks[j]'o=t:=by rw[aG o] at M;exact Option.some.inj M
   have F:t∈ks:=aE M;have P:t.wt<=n:=aI (Le F) a0.out;obtain⟨kb,kc,g0⟩:=E.slice;subst g0
   have C:Hid (∀s,Cs s (fun _=>True) t.ks (.slice kb t.ks.length kc)->Calls prog 173 #[.agg #[.int .i64 t.kd,.int .u64 y.a,.int .u64 y.b,.int .u64 y.c,.int .u64 y.d,.slice kb t.ks.length kc]] s fun e H=>e = .returned (.bool (QP t))/\Below s.heap.size s H) :=
    fun s f0=>HE.out t y _ s P Q f0
   have K:=aA E;have HM:=aA F;have c0:Hid (ks.take (j+1)=ks.take j++[t]):=by unfold Hid;rw[aJ o,N]
   obtain⟨bb,D⟩:∃bb,QP t=bb:=⟨_,rfl⟩;have I:=aA D;rw[D] at C;clear i0 N F P E M D Q;rw[aR 6 j] at e0 e1 e2 e3 e4 e5
   cases bb with
   | true =>
     go_wp2_with (go_at_call 173;refine(C.out _ K.out).mono ?_;rintro e w4 ⟨rfl,w⟩)
     have p:=aA (l.out.trans (w.mono l.out.size));clear w
     go_roundg (gk-1)
     case measure=>omega
     refine⟨j+1,congrArg (aL .i64) (by omega),by omega,?_,p⟩;unfold Hid;rw[c0.out];intro u hu;rcases aP.1 hu with h | h
     ·exact HT.out u h
     rw[aB.1 h];exact I.out
   | false =>
     go_wp2_with (go_at_call 173;refine(C.out _ K.out).mono ?_;rintro e w4 ⟨rfl,w⟩)
     have p:=aA (l.out.trans (w.mono l.out.size));clear w;go_ret;refine⟨?_,f.out.trans (p.out.mono f.out.size)⟩;refine congrArg (fun b=>aD (aM b)) (Bool.eq_false_iff.2 fun h=>?_:ks.all QP=false).symm;have:=aT.1 h t HM.out;rw[I.out] at this;cases this
  obtain rfl:j=ks.length:=(by omega);go_wp2;go_ret;refine⟨?_,f.out.trans (l.out.mono f.out.size)⟩;refine congrArg (fun b=>aD (aM b)) (aT.2 fun t M=>HT.out t ?_:ks.all QP=true).symm
  rwa [aU]
 have z:decide (Fb k=(ks.length:Int))=false:=decide_eq_false G;rw[z,aK];have b0:((ks.length:Int)==Fb k)=false:=beq_eq_false_iff_ne.2 fun h=>G h.symm;have b1:((ks.length:Int) != Fb k)=true:=(by simp[bne,b0]);clear z G;generalize Fb k=q at r b0 b1
 go_in
 go_upto_region 1 with fail
 rw[<- L.out];go_quiet ((go_at_call 179;exact aN (r.out _)));have B:=aA (show Below V.heap.size V (V.drewN nq) from ⟨rfl,rfl,rfl,aC _,fun _ _=>rfl⟩);go_wp2;go_ret;exact⟨rfl,f.out.trans (B.out.mono f.out.size)⟩
theorem Jg:∀n,n<=100000->Xb n
 | 0,_=>fun t x b W a=>by obtain⟨k,ks⟩:=t;rw[Rt.wt_mk] at a;omega
 | n+1,h=>fun t x b W a d c=>MF n (Jg n (by omega)) t x b W a (by omega) d c
end Go.Proofs.YtipfpohlnhmlpaaGreatDoor
namespace Go
open Go.RowKit
def FR (s:ByteArray) (k o:Nat):List Value:=[.string s,.int .i64 k,.int .i64 o,.int .i64 0,.int .i64 0,.int .i64 0]
def Dk (b:Nat) (s:ByteArray) (o:Nat) (t:Rt) (k:Nat) (W:World) (e:Ending) (w':World):Prop :=
 ∃(x:Rw) (a:Option Addr) (c:Nat),e = .returned (.agg #[.int .i64 t.kd,.int .u64 x.a,.int .u64 x.b,.int .u64 x.c,.int .u64 x.d,.slice a t.ks.length c]) /\
  Cs w' (fun j=>W.heap.size<=j) t.ks (.slice a t.ks.length c)/\(t.kd≠1->x=⟨0,0,0,0⟩)/\Ae b W w'/\Af w' b (FR s k o)
section
variable {w w' w'':World} {b q:Nat} {vs:List Value}
theorem Mp (h:Ae b w w') (a:Ae q w' w'') (f:w.heap.size<=q):Ae b w w'' :=
 ⟨a.os.trans h.os,a.tape.trans h.tape,a.output.trans h.output,aI h.size a.size,fun i d c=>(a.block i (aQ d h.size) (fun e=>by injection e with e;omega)).trans (h.block i d c)⟩
theorem Cw (h:Ae b w w') (a:Below w.heap.size w' w''):Ae b w w'' :=
 ⟨a.os.trans h.os,a.tape.trans h.tape,a.output.trans h.output,aI h.size a.size,fun i d c=>(a.block i d).trans (h.block i d c)⟩
theorem DJ (h:Ae b w w') (a:Ae b w' w''):Ae b w w'' :=
 ⟨a.os.trans h.os,a.tape.trans h.tape,a.output.trans h.output,aI h.size a.size,fun i d c=>(a.block i (aQ d h.size) c).trans (h.block i d c)⟩
theorem Af.set6 {a b c d e f:Value} (h:Af w q [a,b,c,d,e,f]) (u0 u1 u2 u3 u4 u5:Value) :
  Af ((((((w.setCell ⟨q,0,none⟩ u0).setCell ⟨q,1,none⟩ u1).setCell ⟨q,2,none⟩ u2).setCell ⟨q,3,none⟩ u3).setCell ⟨q,4,none⟩ u4).setCell ⟨q,5,none⟩ u5) q [u0,u1,u2,u3,u4,u5] :=
 (((((h.set 0 u0 _ rfl).set 1 u1 _ rfl).set 2 u2 _ rfl).set 3 u3 _ rfl).set 4 u4 _ rfl).set 5 u5 _ rfl
theorem Ae.set6 (w:World) (q:Nat) (u0 u1 u2 u3 u4 u5:Value) :
  Ae q w ((((((w.setCell ⟨q,0,none⟩ u0).setCell ⟨q,1,none⟩ u1).setCell ⟨q,2,none⟩ u2).setCell ⟨q,3,none⟩ u3).setCell ⟨q,4,none⟩ u4).setCell ⟨q,5,none⟩ u5) :=
 ((((((Ae.refl q w).set 0 u0).set 1 u1).set 2 u2).set 3 u3).set 4 u4).set 5 u5
end
def Bm (L:List (Rt×Rw×Value)):List Value:=L.flatMap fun p=>[.int .i64 p.1.kd,.int .u64 p.2.1.a,.int .u64 p.2.1.b,.int .u64 p.2.1.c,.int .u64 p.2.1.d,p.2.2]
theorem La (p:Rt×Rw×Value) (L:List (Rt×Rw×Value)):Bm (p::L) = .int .i64 p.1.kd :: .int .u64 p.2.1.a :: .int .u64 p.2.1.b :: .int .u64 p.2.1.c :: .int .u64 p.2.1.d::p.2.2::Bm L:=rfl
theorem Mx (L M:List (Rt×Rw×Value)):Bm (L++M)=Bm L++Bm M:=by unfold Bm;rw[List.flatMap_append]
theorem NK (L:List (Rt×Rw×Value)) (i:Nat) (p:Rt×Rw×Value) (h:L[i]?=some p):(Bm L)[6*i]?=some (.int .i64 p.1.kd)/\(Bm L)[6*i+1]?=some (.int .u64 p.2.1.a)/\(Bm L)[6*i+2]?=some (.int .u64 p.2.1.b) /\
  (Bm L)[6*i+3]?=some (.int .u64 p.2.1.c)/\(Bm L)[6*i+4]?=some (.int .u64 p.2.1.d)/\(Bm L)[6*i+5]?=some p.2.2:=by
 induction L generalizing i with
 | nil=>simp at h
 | cons q L e =>
   rw[La]
   cases i with
   | zero=>simp at h;subst h;simp
   | succ i =>
     rw[show 6*(i+1)=6*i+1+1+1+1+1+1 by omega];simp only[List.getElem?_cons_succ] at h ⊢;exact e i h
structure Ln (T:TypeId) (B:Nat) (L:List (Rt×Rw×Value)) (v:Value) (w:World):Prop where
 row:w.ownsRow B T 6 v L.length (Bm L)
 k:∀p∈L,Cs w (fun j=>B<=j/\some j≠v.ownBlock) p.1.ks p.2.2
 z:∀p∈L,p.1.kd≠1->p.2.1=⟨0,0,0,0⟩
section
variable {T:TypeId} {B b:Nat} {L:List (Rt×Rw×Value)} {v v':Value} {w w':World}
theorem Ln.lt (h:Ln T B L v w) (g:Nat) (a:v.ownBlock=some g):B<=g/\g<w.heap.size:=h.row.lt g a
theorem Ln.only (h:Ln T B L v w) (a:Ae b w w') (l:b<B):Ln T B L v w':=by
 refine⟨h.row.kept a ?_,fun p f=>(h.k p f).kept a.size fun j c d=>a.block j d (fun e=>by injection e with e;have:=c.1;omega),h.z⟩
 cases i:v.ownBlock with
 | none=>exact .inl rfl
 | some g=>right;intro e;injection e with e;have:=(h.lt g i).1;omega
theorem Ln.below (h:Ln T B L v w) (a:Below w.heap.size w w'):Ln T B L v w':=⟨GD h.row a,fun p b=>(h.k p b).bel a,h.z⟩
theorem Ln.add {p:Rt×Rw×Value} {o:Obj} (h:Ln T B L v w) (f:Cs w (fun j=>B<=j/\some j≠v.ownBlock) p.1.ks p.2.2) (x:p.1.kd≠1->p.2.1=⟨0,0,0,0⟩)
  (r:w'.ownsRow B T 6 v' (L.length+1) (Bm L++Bm [p])) (c:(w.alloc o).grownBy w' v.ownBlock) (s:v'.ownBlock=v.ownBlock\/v'.ownBlock=some (w.alloc o).heap.size) :
  Ln T B (L++[p]) v' w':=by
 have ha:Below w.heap.size w (w.alloc o):=(Below.refl _ _).alloc (aC _) o;have t:(w.alloc o).heap.size=w.heap.size+1:=by simp
 have a:∀(ks:List Rt) (u:Value),Cs w (fun j=>B<=j/\some j≠v.ownBlock) ks u->Cs w' (fun j=>B<=j/\some j≠v'.ownBlock) ks u:=fun ks u n=>by
  have f:=n.bel ha;rcases s with e | e
  ·rw[e];exact f.kept c.size fun j d g=>c.block j g d.2
  have l:=(n.mono (S':=fun j=>B<=j/\some j≠v'.ownBlock/\some j≠v.ownBlock) fun j d b=>⟨b.1,by rw[e];intro h;injection h with h;omega,b.2⟩).bel ha;exact(l.kept c.size fun j d g=>c.block j g d.2.2).mono fun j _ b=>⟨b.1,b.2.1⟩
 refine⟨by rw[List.length_append,Mx];exact r,fun q i=>?_,fun q i=>?_⟩
 ·rcases aP.1 i with m | m
  ·exact a _ _ (h.k q m)
  obtain rfl:=aB.1 m;exact a _ _ f
 rcases aP.1 i with m | m
 ·exact h.z q m
 obtain rfl:=aB.1 m;exact x
theorem Ln.cells (h:Ln T B L v w) (E:0<L.length):∃(g cap:Nat),v = .slice (some ⟨g,0,none⟩) L.length cap/\B<=g/\g<w.heap.size/\(∀i p,L[i]?=some p->w.cell? ⟨g,6*i,none⟩=some (.int .i64 p.1.kd)/\w.cell? ⟨g,6*i+1,none⟩=some (.int .u64 p.2.1.a) /\
  w.cell? ⟨g,6*i+2,none⟩=some (.int .u64 p.2.1.b)/\w.cell? ⟨g,6*i+3,none⟩=some (.int .u64 p.2.1.c)/\w.cell? ⟨g,6*i+4,none⟩=some (.int .u64 p.2.1.d)/\w.cell? ⟨g,6*i+5,none⟩=some p.2.2)/\∀p∈L,Cs w (fun j=>B<=j) p.1.ks p.2.2:=by
 rcases h.row.2 with⟨_,D⟩ | ⟨g,cap,l,C,z,n,F,H,I,A⟩
 ·omega
 refine⟨g,cap,C,z,(Array.getElem?_eq_some_iff.1 n).1,fun i p f=>?_,fun p f=>(h.k p f).mono fun j _ m=>m.1⟩;have G:=(aF.1 f).1
 have e:∀j u,j<L.length*6->(Bm L)[j]?=some u->w.cell? ⟨g,j,none⟩=some u:=fun j u m o=>by
  rw[cell_of_row w g j l T (0,0) n];rw[<- A,List.getElem?_take_of_lt m] at o;simpa using o
 obtain⟨q,r,s,t,x,y⟩:=NK L i p f;exact⟨e _ _ (by omega) q,e _ _ (by omega) r,e _ _ (by omega) s,e _ _ (by omega) t,e _ _ (by omega) x,e _ _ (by omega) y⟩
theorem Ln.one (t:Rt) (x:Rw) (g:Value) (k:Cs w (fun j=>B<=j) t.ks g) (l:t.kd≠1->x=⟨0,0,0,0⟩) (h:B<=w.heap.size) :
  Ln T B [(t,x,g)] (.slice (some ⟨w.heap.size,0,none⟩) 1 1) (w.alloc (.cells #[.int .i64 t.kd,.int .u64 x.a,.int .u64 x.b,.int .u64 x.c,.int .u64 x.d,g] T)):=by
 refine⟨⟨rfl,.inr ⟨w.heap.size,1,_,rfl,h,heap_alloc_new w _,aC _,(by unfold maxLen;simp),rfl,rfl⟩⟩,fun p f=>?_,fun p f=>?_⟩
 ·obtain rfl:=aB.1 f
  exact(k.mono (S':=fun j=>B<=j/\some j≠(Value.slice (some ⟨w.heap.size,0,none⟩) 1 1).ownBlock) fun j m i=>⟨i,fun e=>by injection e with e;dsimp at e;omega⟩).bel (Ad w _)
 obtain rfl:=aB.1 f;exact l
theorem Cs.one (t:Rt) (x:Rw) (g:Value) (S:Nat->Prop) (j:S w.heap.size) (k:Cs w S t.ks g) (l:t.kd≠1->x=⟨0,0,0,0⟩) :
  Cs (w.alloc (.cells #[.int .i64 t.kd,.int .u64 x.a,.int .u64 x.b,.int .u64 x.c,.int .u64 x.d,g] T)) S [t] (.slice (some ⟨w.heap.size,0,none⟩) 1 1):=by
 have f:∀i v,(#[aL .i64 t.kd,.int .u64 x.a,.int .u64 x.b,.int .u64 x.c,.int .u64 x.d,g]:Array Value)[i]?=some v->(w.alloc (.cells #[.int .i64 t.kd,.int .u64 x.a,.int .u64 x.b,.int .u64 x.c,.int .u64 x.d,g] T)).cell? ⟨w.heap.size,i,none⟩=some v:=fun i v h=>by
  rw[World.cell?_alloc_at _ _ _ _ rfl];exact h
 refine Cs.row [(t,x,g)] w.heap.size 1 j (by simp) (fun i p e=>?_) ?_ ?_
 ·obtain rfl:i=0:=by have:=(aF.1 e).1;simp at this;omega
  simp at e;subst e;exact⟨f 0 _ rfl,f 1 _ rfl,f 2 _ rfl,f 3 _ rfl,f 4 _ rfl,f 5 _ rfl⟩
 ·intro p e
  obtain rfl:=aB.1 e;exact l
 intro p e;obtain rfl:=aB.1 e;exact k.bel (Ad w _)
end
theorem IR (W:World) (t:Rt) (x:Rw) (e:Value) (T:TypeId):∀j u,(Bm [(t,x,e)])[j]?=some u->(W.alloc (.cells #[.int .i64 t.kd,.int .u64 x.a,.int .u64 x.b,.int .u64 x.c,.int .u64 x.d,e] T)).cell? ((⟨W.heap.size,0,none⟩:Addr).add j)=some u :=
 World.news_of_block (cs := #[.int .i64 t.kd,.int .u64 x.a,.int .u64 x.b,.int .u64 x.c,.int .u64 x.d,e]) (heap_alloc_new W _)
theorem IT (t:Rt) (x:Rw) (a:Option Addr) (n c:Nat):∀u∈Bm [(t,x,.slice a n c)],u.oneCell'=true:=by
 intro u b;simp only[Bm,List.flatMap_cons,List.flatMap_nil,List.append_nil,List.mem_cons,List.not_mem_nil,or_false] at b;rcases b with rfl | rfl | rfl | rfl | rfl | rfl<;>rfl
end Go
namespace Go.Proofs.YtipfpohlnhmlpaaGreatDoor
open Go.Proofs.Tryz
open Go.RowKit
def Tm (s:ByteArray) (F:Nat->Nat->Option (Rt×Nat)):Prop:=∀(o k:Nat) (t:Rt) (a b:Nat) (W:World),F o k=some (t,a)->Af W b (FR s k o)->Calls prog 156 #[.pointer (some ⟨b,0,none⟩)] W (Dk b s o t a W)
def UU (s:ByteArray) (F:Nat->Nat->Option (Rt×Nat)):Prop:=∀(o k:Nat) (t:Rt) (a b:Nat) (W:World),F o k=some (t,a)->Af W b (FR s k o)->Calls prog 180 #[.pointer (some ⟨b,0,none⟩)] W (Dk b s o t a W)
def VY:Prop:=∀(a b c d:Int) (W:World),Calls prog 183 #[.agg #[.int .u64 a,.int .u64 b,.int .u64 c,.int .u64 d]] W fun e f=>∃a b c d:Int,e = .returned (.agg #[.int .u64 a,.int .u64 b,.int .u64 c,.int .u64 d])/\Below W.heap.size W f
def WY:Prop:=∀(W:World),Calls prog 184 #[.string Tz,.int .i64 1] W fun e a=>∃arr:Array Value,e = .returned (.tuple #[.agg arr,.int .i64 5,.bool true])/\arr.size=256/\(∀i,i<256->∃b,arr[i]?=some (.bool b))/\Below W.heap.size W a
theorem Ej {b o k r:Nat} {s:ByteArray} {W Z g:World} (f:Af Z b (FR s k o)) (i:Ae b W Z) (p:b<W.heap.size) (m:r=W.heap.size) (t:Rt) (x:Rw) (a:Option Addr) (c:Nat) (l:Cs Z (fun j=>W.heap.size<j) t.ks (.slice a t.ks.length c))
  (n:t.kd≠1->x=⟨0,0,0,0⟩) (e:Ae r Z g):Dk b s o t k W (.returned (.agg #[.int .i64 t.kd,.int .u64 x.a,.int .u64 x.b,.int .u64 x.c,.int .u64 x.d,.slice a t.ks.length c])) g:=by
 subst m;exact⟨x,a,c,rfl,(l.only e (Nat.lt_irrefl _)).mono fun j _ h=>Nat.le_of_lt h,n,Mp i e (aC _),f.only (by have:=f.lt _ rfl;omega) e (by omega)⟩
theorem Gi (s:ByteArray) (o k b:Nat) (W:World) (hk:k<s.size) (hs:s.size<=100000) (hc:Af W b (FR s k o)) (kd:Int) (hN:VY)
  (I:Cf s k=46/\kd=1\/Cf s k=94/\kd=7\/Cf s k=36/\kd=8\/(Cf s k≠40/\Cf s k≠46/\Cf s k≠91/\Cf s k≠94/\Cf s k≠36/\Cf s k≠92/\Cf s k≠42/\Cf s k≠43/\Cf s k≠63/\Cf s k≠123/\Cf s k≠124/\Cf s k≠41)/\kd=1) :
  Calls prog 180 #[.pointer (some ⟨b,0,none⟩)] W (Dk b s o (.mk kd []) (k+1) W):=by
 rw[F6 hk] at I;obtain⟨c,G⟩:∃c:Nat,s[k].toNat=c:=⟨_,rfl⟩;rw[G] at I;have t:c<256:=by rw[<- G];exact s[k].toNat_lt
 obtain⟨V,hV⟩:∃V,V=W.alloc (.cells #[.int .i64 0,.int .u64 0,.int .u64 0,.int .u64 0,.int .u64 0,.slice none 0 0] 186):=⟨_,rfl⟩;have d0:b<W.heap.size:=hc.lt _ rfl;have b0:V.heap.size=W.heap.size+1:=by rw[hV];simp
 have C:Below W.heap.size W V:=by rw[hV];exact Ad W _
 have w:Af V b (FR s k o):=hc.below d0 C;have a0:Af V W.heap.size [.int .i64 0,.int .u64 0,.int .u64 0,.int .u64 0,.int .u64 0,.slice none 0 0]:=by rw[hV];exact Af.new W _ _
 have r0:=w.c 0 _ rfl;have r1:=w.c 1 _ rfl;have m0:=aA hV;have Y:=aA b0;have S:=aA C;have j0:=aA w;have l0:=aA a0;obtain⟨z,e0⟩:∃z,z=k+1:=⟨_,rfl⟩;rw[<- e0];have q1:(k:Int)<(s.size:Int):=(by omega);have t1:k<s.size:=hk;have p1:decide ((s.size:Int)<=(k:Int))=false:=decide_eq_false (by omega);have s1:(k:Int)+1=(z:Int):=(by omega);have o1:(z:Int)<=100000:=(by omega);have HN:=aA hN;have l:=aA d0;clear hV b0 C w a0 hc e0 hs hN
 go_in
 go_upto_region 1 with fail
 rw[<- m0.out];go_quiet (fail);have x:Below V.heap.size V (V.drewN nq):=⟨rfl,rfl,rfl,aC _,fun _ _=>rfl⟩;have m:Af (V.drewN nq) b (FR s k o):=j0.out.below (by have:=Y.out;have:=l.out;omega) x;have y:Af (V.drewN nq) W.heap.size [.int .i64 0,.int .u64 0,.int .u64 0,.int .u64 0,.int .u64 0,.slice none 0 0]:=l0.out.below (by have:=Y.out;omega) x;have H:Below W.heap.size W (V.drewN nq):=S.out.trans (x.mono S.out.size);generalize V.drewN nq=U at m y H ⊢;clear x r0 r1;have r0:=m.c 0 _ rfl;have r1:=m.c 1 _ rfl;have rf:=m.fz;have h2:Af (U.setCell ⟨b,1,none⟩ (.int .i64 (z:Int))) b (FR s z o):=m.set 1 _ _ rfl
 have h3:Af (U.setCell ⟨b,1,none⟩ (.int .i64 (z:Int))) W.heap.size [.int .i64 0,.int .u64 0,.int .u64 0,.int .u64 0,.int .u64 0,.slice none 0 0] :=
  y.only (y.lt _ rfl) ((Ae.refl b U).set 1 _) (by have:=l.out;omega)
 have h4:Ae b W (U.setCell ⟨b,1,none⟩ (.int .i64 (z:Int))):=(Ae.of_below b H).set 1 _;have A:=aA h2;have j:=aA h3;have B:=aA h4;clear m y H h2 h3 h4
 go_upto_region 6 with fail
 generalize U.setCell ⟨b,1,none⟩ (.int .i64 (z:Int))=Z at A j B ⊢;clear r0 r1 rf;have z0:=j.out.c 0 _ rfl;have z1:=j.out.c 1 _ rfl;have z2:=j.out.c 2 _ rfl;have z3:=j.out.c 3 _ rfl;have z4:=j.out.c 4 _ rfl;have z5:=j.out.c 5 _ rfl;have zf:=j.out.fz;have X:Hid (∀w',Calls prog 182 #[.agg Tryz.zeroCells230] w' fun e K=>∃a b c d:Int,e = .returned (.agg #[.int .u64 a,.int .u64 b,.int .u64 c,.int .u64 d])/\Below w'.heap.size w' K):=fun w'=>F' _ (by rw[Dv];simp) (fun i hi=>⟨false,by rw[Dv];simp[hi]⟩) w';have T:Hid (∀w',Calls prog 186 #[.int .u8 (c:Int)] w' fun e K=>∃n p q r:Int,e = .returned (.agg #[.int .i64 1,.int .u64 n,.int .u64 p,.int .u64 q,.int .u64 r,.slice none 0 0])/\Below w'.heap.size w' K):=fun w'=>R6 c t w'
 clear G;rcases I with⟨h,rfl⟩ | ⟨h,rfl⟩ | ⟨h,rfl⟩ | ⟨⟨e1,i1,l1,n1,d1,m1,g1,h1,j1,h0,i0,f1⟩,rfl⟩
 ·subst h
  clear T
  go_wp2_with fail
  generalize Tryz.zeroCells230=arr at X ⊢
  (go_at_call 182;refine(X.out _).mono ?_;rintro e w5 ⟨a1,a2,a3,a4,rfl,c0⟩)
  go_wp2_with fail
  (go_at_call 183;refine(HN.out _ _ _ _ _).mono ?_;rintro e R ⟨n,p,q,r,rfl,n0⟩)
  have F:Below Z.heap.size Z R:=c0.trans (n0.mono c0.size);have D:=A.out.below (A.out.lt _ rfl) F;have f:=j.out.below (j.out.lt _ rfl) F;have E:=Cw B.out (F.mono B.out.size);have k0:=f.c 0 _ rfl;have J:=f.c 1 _ rfl;have k2:=f.c 2 _ rfl;have k3:=f.c 3 _ rfl;have k4:=f.c 4 _ rfl;have k5:=f.c 5 _ rfl;have kf:=f.fz;go_wp2;clear k0 J k2 k3 k4 k5 kf;have g:=f.set6 (.int .i64 1) (.int .u64 n) (.int .u64 p) (.int .u64 q) (.int .u64 r) (.slice none 0 0);have u:=Ae.set6 R W.heap.size (.int .i64 1) (.int .u64 n) (.int .u64 p) (.int .u64 q) (.int .u64 r) (.slice none 0 0);generalize ((((((R.setCell ⟨W.heap.size,0,none⟩ (.int .i64 1)).setCell ⟨W.heap.size,1,none⟩ (.int .u64 n)).setCell ⟨W.heap.size,2,none⟩ (.int .u64 p)).setCell ⟨W.heap.size,3,none⟩ (.int .u64 q)).setCell ⟨W.heap.size,4,none⟩ (.int .u64 r)).setCell ⟨W.heap.size,5,none⟩ (.slice none 0 0))=Z2 at g u ⊢
  have L:=g.c 0 _ rfl;have M:=g.c 1 _ rfl;have N:=g.c 2 _ rfl;have O:=g.c 3 _ rfl;have P:=g.c 4 _ rfl;have Q:=g.c 5 _ rfl;clear g;exact bodyPost_ret (v:=.agg #[.int .i64 1,.int .u64 n,.int .u64 p,.int .u64 q,.int .u64 r,.slice none 0 0]) (by simp[results,results180,go_sem,L,M,N,O,P,Q]<;>exact rfl) rfl (Ej D E l.out rfl (.mk 1 []) ⟨n,p,q,r⟩ none 0 .nil (fun h=>absurd rfl h) u)
 ·subst h
  clear T X;go_wp2;clear zf z0 z1 z2 z3 z4 z5;have g:=j.out.set6 (.int .i64 7) (.int .u64 0) (.int .u64 0) (.int .u64 0) (.int .u64 0) (.slice none 0 0);have u:=Ae.set6 Z W.heap.size (.int .i64 7) (.int .u64 0) (.int .u64 0) (.int .u64 0) (.int .u64 0) (.slice none 0 0);generalize ((((((Z.setCell ⟨W.heap.size,0,none⟩ (.int .i64 7)).setCell ⟨W.heap.size,1,none⟩ (.int .u64 0)).setCell ⟨W.heap.size,2,none⟩ (.int .u64 0)).setCell ⟨W.heap.size,3,none⟩ (.int .u64 0)).setCell ⟨W.heap.size,4,none⟩ (.int .u64 0)).setCell ⟨W.heap.size,5,none⟩ (.slice none 0 0))=Z2 at g u ⊢;have L:=g.c 0 _ rfl;have M:=g.c 1 _ rfl;have N:=g.c 2 _ rfl;have O:=g.c 3 _ rfl
  have P:=g.c 4 _ rfl;have Q:=g.c 5 _ rfl;clear g;exact bodyPost_ret (v:=.agg #[.int .i64 7,.int .u64 0,.int .u64 0,.int .u64 0,.int .u64 0,.slice none 0 0]) (by simp[results,results180,go_sem,L,M,N,O,P,Q]<;>exact rfl) rfl (Ej A.out B.out l.out rfl (.mk 7 []) ⟨0,0,0,0⟩ none 0 .nil (fun _=>rfl) u)
 ·subst h
  clear T X;go_wp2;clear zf z0 z1 z2 z3 z4 z5;have g:=j.out.set6 (.int .i64 8) (.int .u64 0) (.int .u64 0) (.int .u64 0) (.int .u64 0) (.slice none 0 0);have u:=Ae.set6 Z W.heap.size (.int .i64 8) (.int .u64 0) (.int .u64 0) (.int .u64 0) (.int .u64 0) (.slice none 0 0);generalize ((((((Z.setCell ⟨W.heap.size,0,none⟩ (.int .i64 8)).setCell ⟨W.heap.size,1,none⟩ (.int .u64 0)).setCell ⟨W.heap.size,2,none⟩ (.int .u64 0)).setCell ⟨W.heap.size,3,none⟩ (.int .u64 0)).setCell ⟨W.heap.size,4,none⟩ (.int .u64 0)).setCell ⟨W.heap.size,5,none⟩ (.slice none 0 0))=Z2 at g u ⊢;have L:=g.c 0 _ rfl;have M:=g.c 1 _ rfl;have N:=g.c 2 _ rfl;have O:=g.c 3 _ rfl
  have P:=g.c 4 _ rfl;have Q:=g.c 5 _ rfl;clear g;exact bodyPost_ret (v:=.agg #[.int .i64 8,.int .u64 0,.int .u64 0,.int .u64 0,.int .u64 0,.slice none 0 0]) (by simp[results,results180,go_sem,L,M,N,O,P,Q]<;>exact rfl) rfl (Ej A.out B.out l.out rfl (.mk 8 []) ⟨0,0,0,0⟩ none 0 .nil (fun _=>rfl) u)
 have p0:¬ (c:Int)=40:=(by omega);have v0:¬ (c:Int)=46:=(by omega);have x0:¬ (c:Int)=91:=(by omega);have c1:¬ (c:Int)=94:=(by omega);have o0:¬ (c:Int)=36:=(by omega);have b1:¬ (c:Int)=92:=(by omega);have s0:¬ (c:Int)=42:=(by omega);have t0:¬ (c:Int)=43:=(by omega);have w0:¬ (c:Int)=63:=(by omega);have f0:¬ (c:Int)=123:=(by omega);have g0:¬ (c:Int)=124:=(by omega);have q0:¬ (c:Int)=41:=(by omega);clear e1 i1 l1 n1 d1 m1 g1 h1 j1 h0 i0 f1 t X;generalize (c:Int)=ci at T p0 v0 x0 c1 o0 b1 s0 t0 w0 f0 g0 q0 ⊢
 go_wp2_with fail
 (go_at_call 186;refine(T.out _).mono ?_;rintro e R ⟨n,p,q,r,rfl,F⟩)
 have D:=A.out.below (A.out.lt _ rfl) F;have f:=j.out.below (j.out.lt _ rfl) F;have E:=Cw B.out (F.mono B.out.size);have k0:=f.c 0 _ rfl;have J:=f.c 1 _ rfl;have k2:=f.c 2 _ rfl;have k3:=f.c 3 _ rfl;have k4:=f.c 4 _ rfl;have k5:=f.c 5 _ rfl;have kf:=f.fz;go_wp2;clear k0 J k2 k3 k4 k5 kf;have g:=f.set6 (.int .i64 1) (.int .u64 n) (.int .u64 p) (.int .u64 q) (.int .u64 r) (.slice none 0 0);have u:=Ae.set6 R W.heap.size (.int .i64 1) (.int .u64 n) (.int .u64 p) (.int .u64 q) (.int .u64 r) (.slice none 0 0);generalize ((((((R.setCell ⟨W.heap.size,0,none⟩ (.int .i64 1)).setCell ⟨W.heap.size,1,none⟩ (.int .u64 n)).setCell ⟨W.heap.size,2,none⟩ (.int .u64 p)).setCell ⟨W.heap.size,3,none⟩ (.int .u64 q)).setCell ⟨W.heap.size,4,none⟩ (.int .u64 r)).setCell ⟨W.heap.size,5,none⟩ (.slice none 0 0))=Z2 at g u ⊢
 have L:=g.c 0 _ rfl;have M:=g.c 1 _ rfl;have N:=g.c 2 _ rfl;have O:=g.c 3 _ rfl;have P:=g.c 4 _ rfl;have Q:=g.c 5 _ rfl;clear g;exact bodyPost_ret (v:=.agg #[.int .i64 1,.int .u64 n,.int .u64 p,.int .u64 q,.int .u64 r,.slice none 0 0]) (by simp[results,results180,go_sem,L,M,N,O,P,Q]<;>exact rfl) rfl (Ej D E l.out rfl (.mk 1 []) ⟨n,p,q,r⟩ none 0 .nil (fun h=>absurd rfl h) u)
def Xa (n:Nat):Prop:=∀(t:Rt) (x:Rw) (a:Value) (d:Nat) (W:World),t.wt<=n->d<=1000->Cs W (fun _=>True) t.ks a ->
 Calls prog 174 #[Km t x a,.int .i64 d] W fun e b=>e = .returned (.bool (Tk t d))/\Below W.heap.size W b
theorem Pn (n:Nat) (G:Xa n) (t:Rt) (x:Rw) (kv:Value) (d:Nat) (W:World) (hw:t.wt<=n+1) (hn:n<=100000) (hd:d<=1000) (T:Cs W (fun _=>True) t.ks kv) :
  Calls prog 174 #[Km t x kv,.int .i64 d] W fun e w'=>e = .returned (.bool (Tk t d))/\Below W.heap.size W w':=by
 obtain⟨k,ks⟩:=t;obtain⟨x0,x1,x2,x3⟩:=x;have F:FA ks<=n:=by rw[Rt.wt_mk] at hw;omega
 have q0:ks.length<=100000:=by have:=Jb ks;omega
 obtain⟨a,B,rfl⟩:=T.slice;rw[Vn];show Calls prog 174 #[.agg #[.int .i64 k,.int .u64 x0,.int .u64 x1,.int .u64 x2,.int .u64 x3,.slice a ks.length B],.int .i64 d] W _;obtain⟨V,X⟩:∃V,V=W.alloc (.cells #[.int .i64 k,.int .u64 x0,.int .u64 x1,.int .u64 x2,.int .u64 x3,.slice a ks.length B] 186):=⟨_,rfl⟩;have u:=aA (show Below W.heap.size W V from by rw[X];exact Ad W _);have hC:Af V W.heap.size [.int .i64 k,.int .u64 x0,.int .u64 x1,.int .u64 x2,.int .u64 x3,.slice a ks.length B]:=by rw[X];exact Af.new W _ _
 have HV:=aA ((show Cs W (fun _=>True) ks (.slice a ks.length B) from T).bel u.out);have HE:=aA G;have a0:=aA F;have HC:=aA hC;have M:=aA X;clear T G hw F hC X
 cases d with
 | zero =>
   go_in
   go_wp2_with fail
   go_ret;exact⟨rfl,by have:=u.out;rw[M.out] at this;exact this⟩
 | succ d =>
   have H:((d+1:Nat):Int)≠0:=(by omega);have b0:(((d+1:Nat):Int)==0)=false:=beq_eq_false_iff_ne.2 H;have R:((d+1:Nat):Int)-1=(d:Int):=(by omega);rw[show decide (d+1≠0)=true from rfl,aH];generalize hD:((d+1:Nat):Int)=D at H b0 R ⊢;have HD:=aA hD;clear hD H;have l0:D<=1000:=by have:=HD.out;omega
   have k0:1<=D:=by have:=HD.out;omega
   go_in
   go_wp2_with fail
   rw[<- M.out];have Z:=aA (Below.refl V.heap.size V)
   go_loopg [5] ks.length (fun g i wr=>∃(j:Nat),i = .int .i64 j/\j+g=ks.length/\Hid (DC k ks (d+1) 0=DC k (ks.drop j) (d+1) j)/\Hid (Below V.heap.size V wr))
   case atStart=>exact⟨0,rfl,by omega,aA rfl,Z⟩
   obtain⟨j,rfl,p0,HT,v⟩:=hrel;have c5:=Aa (HC.out.c 5 _ rfl) v.out;have c0:=Aa (HC.out.c 0 _ rfl) v.out;by_cases F:j<ks.length
   ·obtain⟨b,j0,t,y,kw,T,ht,J,i0,e0,e1,e2,e3,e4,e5⟩:=(HV.out.bel v.out).cells j F
    injection T with g0 _ h0;subst g0;have S:t∈ks:=aE ht;have U:t.wt<=n:=aI (Le S) a0.out;obtain⟨kb,kc,f0⟩:=J.slice;subst f0;obtain⟨e,O⟩:∃e,(if j=1/\(k=2\/k=3) then d+1 else d+1-1)=e:=⟨_,rfl⟩;have C:=HT.out.trans (Pq k ks (d+1) j t ht);rw[O] at C;have P:e<=1000:=by rw[<- O];split<;>omega
    have o:Hid (∀K,Cs K (fun _=>True) t.ks (.slice kb t.ks.length kc)->Calls prog 174 #[.agg #[.int .i64 t.kd,.int .u64 y.a,.int .u64 y.b,.int .u64 y.c,.int .u64 y.d,.slice kb t.ks.length kc],.int .i64 (e:Int)] K fun e' w'=>e' = .returned (.bool (Tk t e))/\Below K.heap.size K w') :=
     fun K d0=>HE.out t y _ e K U P d0
    have p:=aA J;obtain⟨L,N⟩:∃L,Tk t e=L:=⟨_,rfl⟩;rw[N] at o C;have q:=aA C;clear h0 S U J ht N i0 C P;rw[aR 6 j] at e0 e1 e2 e3 e4 e5
    have w:Hid ((j=1/\(k=2\/k=3))/\(e:Int)=D\/¬ (j=1/\(k=2\/k=3))/\(e:Int)=(d:Int)):=by
     unfold Hid;have:=HD.out;by_cases Y:j=1/\(k=2\/k=3)
     ·rw[if_pos Y] at O;exact .inl ⟨Y,by omega⟩
     rw[if_neg Y] at O;exact .inr ⟨Y,by omega⟩
    generalize (e:Int)=E at o w;clear O;have z:Hid (∀r,Below wr.heap.size wr r->Below V.heap.size V r):=fun r h=>v.out.trans (h.mono v.out.size);have A:Hid (∀r,Below wr.heap.size wr r->Below W.heap.size W r):=fun r h=>u.out.trans ((z.out r h).mono u.out.size);rcases w.out with⟨⟨I,hk | hk⟩,G⟩ | ⟨I,G⟩
    case inl.inl =>
     subst I hk G;clear w
     cases L with
     | true =>
       go_wp2_with (go_at_call 174;refine(o.out _ p.out).mono ?_;rintro e r ⟨rfl,f⟩)
       have l:Hid (DC 2 ks (d+1) 0=DC 2 (ks.drop (1+1)) (d+1) (1+1)):=by have:=q.out;rw[aH] at this;exact this
       have m:=aA (z.out _ f);clear f
       go_roundg (gk-1)
       case measure=>omega
       exact⟨1+1,congrArg (aL .i64) (by omega),by omega,l,m⟩
     | false =>
       go_wp2_with (go_at_call 174;refine(o.out _ p.out).mono ?_;rintro e r ⟨rfl,f⟩)
       have l:Hid (DC 2 ks (d+1) 0=false):=by have:=q.out;rw[aK] at this;exact this
       have s:=aA (A.out _ f);clear f;go_ret;exact⟨congrArg (fun b=>aD (aM b)) l.out.symm,s.out⟩
    case inl.inr =>
     subst I hk G;clear w
     cases L with
     | true =>
       go_wp2_with (go_at_call 174;refine(o.out _ p.out).mono ?_;rintro e r ⟨rfl,f⟩)
       have l:Hid (DC 3 ks (d+1) 0=DC 3 (ks.drop (1+1)) (d+1) (1+1)):=by have:=q.out;rw[aH] at this;exact this
       have m:=aA (z.out _ f);clear f
       go_roundg (gk-1)
       case measure=>omega
       exact⟨1+1,congrArg (aL .i64) (by omega),by omega,l,m⟩
     | false =>
       go_wp2_with (go_at_call 174;refine(o.out _ p.out).mono ?_;rintro e r ⟨rfl,f⟩)
       have l:Hid (DC 3 ks (d+1) 0=false):=by have:=q.out;rw[aK] at this;exact this
       have s:=aA (A.out _ f);clear f;go_ret;exact⟨congrArg (fun b=>aD (aM b)) l.out.symm,s.out⟩
    subst G;by_cases Q:j=1
    ·subst Q
     have n0:(k==2)=false:=beq_eq_false_iff_ne.2 fun h=>I ⟨rfl,.inl h⟩;have o0:(k==3)=false:=beq_eq_false_iff_ne.2 fun h=>I ⟨rfl,.inr h⟩;clear w I
     cases L with
     | true =>
       go_wp2_with (go_at_call 174;refine(o.out _ p.out).mono ?_;rintro e r ⟨rfl,f⟩)
       have l:Hid (DC k ks (d+1) 0=DC k (ks.drop (1+1)) (d+1) (1+1)):=by have:=q.out;rw[aH] at this;exact this
       have m:=aA (z.out _ f);clear f
       go_roundg (gk-1)
       case measure=>omega
       exact⟨1+1,congrArg (aL .i64) (by omega),by omega,l,m⟩
     | false =>
       go_wp2_with (go_at_call 174;refine(o.out _ p.out).mono ?_;rintro e r ⟨rfl,f⟩)
       have l:Hid (DC k ks (d+1) 0=false):=by have:=q.out;rw[aK] at this;exact this
       have s:=aA (A.out _ f);clear f;go_ret;exact⟨congrArg (fun b=>aD (aM b)) l.out.symm,s.out⟩
    have m0:((j:Int)==1)=false:=beq_eq_false_iff_ne.2 (by omega);clear w I Q
    cases L with
    | true =>
      go_wp2_with (go_at_call 174;refine(o.out _ p.out).mono ?_;rintro e r ⟨rfl,f⟩)
      have l:Hid (DC k ks (d+1) 0=DC k (ks.drop (j+1)) (d+1) (j+1)):=by have:=q.out;rw[aH] at this;exact this
      have m:=aA (z.out _ f);clear f
      go_roundg (gk-1)
      case measure=>omega
      exact⟨j+1,congrArg (aL .i64) (by omega),by omega,l,m⟩
    | false =>
      go_wp2_with (go_at_call 174;refine(o.out _ p.out).mono ?_;rintro e r ⟨rfl,f⟩)
      have l:Hid (DC k ks (d+1) 0=false):=by have:=q.out;rw[aK] at this;exact this
      have s:=aA (A.out _ f);clear f;go_ret;exact⟨congrArg (fun b=>aD (aM b)) l.out.symm,s.out⟩
   obtain rfl:j=ks.length:=(by omega);have HZ:Hid (DC k ks (d+1) 0=true):=HT.out.trans (Rd k ks (d+1) ks.length (aC _));go_wp2;go_ret;exact⟨congrArg (fun b=>aD (aM b)) HZ.out.symm,u.out.trans (v.out.mono u.out.size)⟩
def V1 (n:Nat):Prop:=∀(t:Rt) (x:Rw) (a:Value) (W:World),t.wt<=n->Cs W (fun _=>True) t.ks a ->
 Calls prog 175 #[Km t x a] W fun e b=>e = .returned (.int .i64 (MU t:Nat))/\Below W.heap.size W b
theorem Qh (n:Nat) (hE:V1 n) (t:Rt) (x:Rw) (kv:Value) (W:World) (hw:t.wt<=n+1) (hn:n<=100000) (I:Cs W (fun _=>True) t.ks kv) :
  Calls prog 175 #[Km t x kv] W fun e X=>e = .returned (.int .i64 (MU t:Nat))/\Below W.heap.size W X:=by
 obtain⟨k,ks⟩:=t;obtain⟨Y,Z,x2,x3⟩:=x;have f:FA ks<=n:=by rw[Rt.wt_mk] at hw;omega
 have c0:ks.length<=100000:=by have:=Jb ks;omega
 obtain⟨a,r,rfl⟩:=I.slice;show Calls prog 175 #[.agg #[.int .i64 k,.int .u64 Y,.int .u64 Z,.int .u64 x2,.int .u64 x3,.slice a ks.length r]] W _;obtain⟨V,L⟩:∃V,V=W.alloc (.cells #[.int .i64 k,.int .u64 Y,.int .u64 Z,.int .u64 x2,.int .u64 x3,.slice a ks.length r] 186):=⟨_,rfl⟩;have p:=aA (show Below W.heap.size W V from by rw[L];exact Ad W _);have hC:Af V W.heap.size [.int .i64 k,.int .u64 Y,.int .u64 Z,.int .u64 x2,.int .u64 x3,.slice a ks.length r]:=by rw[L];exact Af.new W _ _
 have HV:=aA ((show Cs W (fun _=>True) ks (.slice a ks.length r) from I).bel p.out);have HE:=aA hE;have D:=aA f;have HC:=aA hC;have E:=aA L;clear I hE hw f hC L
 cases o:ks with
 | nil =>
   subst o;have s:Hid (MU (.mk k [])=1):=by unfold Hid;rw[Of];rfl
   go_in
   go_wp2;go_ret;refine⟨by rw[s.out];rfl,by have:=p.out;rw[E.out] at this;exact this⟩
 | cons t0 ts =>
   have s:Hid (MU (.mk k ks)=E8 ks):=by unfold Hid;rw[Of,o];rfl
   have d0:((ks.length:Int)==0)=false:=beq_eq_false_iff_ne.2 (by rw[o,aS];omega);rw[<- o];clear o
   go_in
   go_wp2_with fail
   rw[<- E.out];have N:=aA (Below.refl V.heap.size V)
   go_loopg [4,3] ks.length (fun g i m wr=>∃(j z:Nat),i = .int .i64 j/\m = .int .i64 z/\j+g=ks.length/\z<=100000/\Hid (z=E8 (ks.take j))/\Hid (Below V.heap.size V wr))
   case atStart=>exact⟨0,0,rfl,rfl,by omega,by omega,aA (by rw[List.take_zero,ML]),N⟩
   obtain⟨j,z,rfl,rfl,b0,f0,HT,h⟩:=hrel;have c5:=Aa (HC.out.c 5 _ rfl) h.out;by_cases f:j<ks.length
   ·obtain⟨b,a0,t,y,kw,I,M,w,U,e0,e1,e2,e3,e4,e5⟩:=(HV.out.bel h.out).cells j f
    injection I with S _ T;subst S;have G:ks[j]'f=t:=by rw[aG f] at M;exact Option.some.inj M
    have H:t∈ks:=aE M;have J:t.wt<=n:=aI (Le H) D.out;obtain⟨kb,kc,R⟩:=w.slice;subst R;have v:Hid (z+MU t=E8 (ks.take (j+1))):=by unfold Hid;rw[aJ f,G,SS,Xk,<- HT.out]
    have K:z+MU t<=100000:=by
     rw[v.out];have P:=Lh (ks.take (j+1))
     have h2:FA (ks.take (j+1))<=FA ks:=by
      have:∀(l:List Rt) (i:Nat),FA (l.take i)<=FA l:=by
       intro l
       induction l with
       | nil=>intro i;simp
       | cons u us ih=>intro i;cases i with
         | zero=>rw[List.take_zero,FA];omega
         | succ i=>rw[List.take_succ_cons,EA,EA];have:=ih i;omega
      exact this ks (j+1)
     have:=D.out;omega
    have C:Hid (∀A,Cs A (fun _=>True) t.ks (.slice kb t.ks.length kc)->Calls prog 175 #[.agg #[.int .i64 t.kd,.int .u64 y.a,.int .u64 y.b,.int .u64 y.c,.int .u64 y.d,.slice kb t.ks.length kc]] A fun e X=>e = .returned (.int .i64 (MU t:Nat))/\Below A.heap.size A X) :=
     fun A Q=>HE.out t y _ A J Q
    have O:=aA w;generalize MU t=q at C v K;clear T G H J w M U;rw[aR 6 j] at e0 e1 e2 e3 e4 e5
    go_wp2_with (go_at_call 175;refine(C.out _ O.out).mono ?_;rintro e w4 ⟨rfl,F⟩)
    have B:=aA (h.out.trans (F.mono h.out.size));clear F
    go_roundg (gk-1)
    case measure=>omega
    exact⟨j+1,z+q,congrArg (aL .i64) (by omega),congrArg (aL .i64) (by omega),by omega,K,v,B⟩
   obtain rfl:j=ks.length:=(by omega);go_wp2;go_ret;refine⟨?_,p.out.trans (h.out.mono p.out.size)⟩;have P:=HT.out;rw[aU] at P;rw[s.out,<- P];rfl
theorem LJ:∀n,n<=100000->Xa n
 | 0,_=>fun t x b d W a=>by obtain⟨k,ks⟩:=t;rw[Rt.wt_mk] at a;omega
 | n+1,h=>fun t x b d W a c e=>Pn n (LJ n (by omega)) t x b d W a (by omega) c e
theorem MD:∀n,n<=100000->V1 n
 | 0,_=>fun t x b W a=>by obtain⟨k,ks⟩:=t;rw[Rt.wt_mk] at a;omega
 | n+1,h=>fun t x b W a c=>Qh n (MD n (by omega)) t x b W a (by omega) c
theorem NT (t:Rt) (x:Rw) (a:Option Addr) (cap:Nat) (W:World) (s:t.wt<=100000) (y:WX t=true) (C:t.kd≠1->x=⟨0,0,0,0⟩) (B:Cs W (fun _=>True) t.ks (.slice a t.ks.length cap)) :
  Calls prog 158 #[.agg #[.int .i64 t.kd,.int .u64 x.a,.int .u64 x.b,.int .u64 x.c,.int .u64 x.d,.slice a t.ks.length cap]] W fun e k=>e = .returned (.bool true)/\Below W.heap.size W k:=by
 unfold WX at y;rw[aO,aO,decide_eq_true_eq] at y;obtain⟨D,E,M⟩:=y;obtain⟨V,r⟩:∃V,V=W.alloc (.cells #[.int .i64 t.kd,.int .u64 x.a,.int .u64 x.b,.int .u64 x.c,.int .u64 x.d,.slice a t.ks.length cap] 186):=⟨_,rfl⟩;have j:=aA (show Below W.heap.size W V from by rw[r];exact Ad W _);have l:=aA (show Af V W.heap.size [.int .i64 t.kd,.int .u64 x.a,.int .u64 x.b,.int .u64 x.c,.int .u64 x.d,.slice a t.ks.length cap] from by rw[r];exact Af.new W _ _);have A:=aA (B.bel j.out)
 have G:Hid (∀f,Cs f (fun _=>True) t.ks (.slice a t.ks.length cap)->Calls prog 173 #[.agg #[.int .i64 t.kd,.int .u64 x.a,.int .u64 x.b,.int .u64 x.c,.int .u64 x.d,.slice a t.ks.length cap]] f fun e k=>e = .returned (.bool true)/\Below f.heap.size f k) :=
  fun f h=>by have:=Jg 100000 (aC _) t x _ f s C h;rw[D] at this;exact this
 have F:Hid (∀f,Cs f (fun _=>True) t.ks (.slice a t.ks.length cap)->Calls prog 174 #[.agg #[.int .i64 t.kd,.int .u64 x.a,.int .u64 x.b,.int .u64 x.c,.int .u64 x.d,.slice a t.ks.length cap],.int .i64 40] f fun e k=>e = .returned (.bool true)/\Below f.heap.size f k) :=
  fun f h=>by have:=LJ 100000 (aC _) t x _ 40 f s (by omega) h;rw[E] at this;exact this
 have z:Hid (∀f,Cs f (fun _=>True) t.ks (.slice a t.ks.length cap)->Calls prog 175 #[.agg #[.int .i64 t.kd,.int .u64 x.a,.int .u64 x.b,.int .u64 x.c,.int .u64 x.d,.slice a t.ks.length cap]] f fun e k=>e = .returned (.int .i64 (MU t:Nat))/\Below f.heap.size f k) :=
  fun f h=>MD 100000 (aC _) t x _ f s h
 generalize MU t=q at z M;have w:=aA r;have N:=l.out.c 0 _ rfl;have O:=l.out.c 1 _ rfl;have P:=l.out.c 2 _ rfl;have Q:=l.out.c 3 _ rfl;have R:=l.out.c 4 _ rfl;have S:=l.out.c 5 _ rfl;have T:(q:Int)<=400:=(by omega);clear r B C D E s
 go_in
 go_upto_region 1 with fail
 rw[<- w.out]
 go_wp2_with (first
  | (go_at_call 173;refine(G.out _ A.out).mono ?_;rintro e w4 ⟨rfl,g⟩;have o:=aA (A.out.bel g);have m:=aA g;have H:=Aa N g;have q1:=Aa O g;have I:=Aa P g;have J:=Aa Q g;have K:=Aa R g;have L:=Aa S g;clear g)
  | (go_at_call 174;refine(F.out _ o.out).mono ?_;rintro e w5 ⟨rfl,i⟩;have v:=aA (o.out.bel i);have n:=aA i;have U:=Aa H i;have X:=Aa q1 i;have Y:=Aa I i;have Z:=Aa J i;have p4:=Aa K i;have p5:=Aa L i;clear i)
  | (go_at_call 175;refine(z.out _ v.out).mono ?_;rintro e w6 ⟨rfl,p⟩;have u:=aA p;clear p))
 go_ret;exact⟨rfl,j.out.trans ((m.out.trans ((n.out.trans (u.out.mono n.out.size)).mono m.out.size)).mono j.out.size)⟩
theorem TV (a b c d:Int) (W:World):Calls prog 183 #[.agg #[.int .u64 a,.int .u64 b,.int .u64 c,.int .u64 d]] W fun e A=>∃a b c d:Int,e = .returned (.agg #[.int .u64 a,.int .u64 b,.int .u64 c,.int .u64 d])/\Below W.heap.size W A:=by
 obtain⟨V,n⟩:∃V,V=(W.alloc (.cells #[.int .u64 a,.int .u64 b,.int .u64 c,.int .u64 d] 183)).alloc (.cells #[.int .u64 0,.int .u64 0,.int .u64 0,.int .u64 0] 183):=⟨_,rfl⟩;have o:Below W.heap.size W V:=by rw[n];exact(Ad W _).trans ((Ad _ _).mono (by simp))
 have t:Af V W.heap.size [.int .u64 a,.int .u64 b,.int .u64 c,.int .u64 d]:=by
  rw[n];exact(Af.new W [.int .u64 a,.int .u64 b,.int .u64 c,.int .u64 d] 183).below (by simp) (Ad _ _)
 have u:Af V (W.heap.size+1) [.int .u64 0,.int .u64 0,.int .u64 0,.int .u64 0]:=by
  have h:=Af.new (W.alloc (.cells #[.int .u64 a,.int .u64 b,.int .u64 c,.int .u64 d] 183)) [.int .u64 0,.int .u64 0,.int .u64 0,.int .u64 0] 183;rw[EG] at h;rw[n];exact h
 have y:=aA n;have m:=aA o;have x:=aA t;have r:=aA u;clear n o t u
 go_in
 go_wp2_with fail
 rw[<- y.out]
 go_loopg [4] 4 (fun g i wr=>∃(k:Nat) (a b c d:Int),i = .int .i64 k/\k+g=4/\Hid (Ae W.heap.size V wr)/\Hid (Af wr W.heap.size [.int .u64 a,.int .u64 b,.int .u64 c,.int .u64 d]))
 case atStart=>exact⟨0,a,b,c,d,rfl,rfl,aA (Ae.refl _ _),x⟩
 obtain⟨k,a,b,c,d,rfl,z,j,f⟩:=hrel;have F:=f.out.c 0 _ rfl;have G:=f.out.c 1 _ rfl;have H:=f.out.c 2 _ rfl;have I:=f.out.c 3 _ rfl;have J:=f.out.fz;rcases (by omega:k=0\/k=1\/k=2\/k=3\/k=4) with rfl | rfl | rfl | rfl | rfl
 ·go_wp2
  go_roundg (gk-1)
  case measure=>omega
  exact⟨1,_,b,c,d,rfl,by omega,aA (j.out.set 0 _),aA (f.out.set 0 _ _ rfl)⟩
 ·go_wp2
  go_roundg (gk-1)
  case measure=>omega
  exact⟨2,a,_,c,d,rfl,by omega,aA (j.out.set 1 _),aA (f.out.set 1 _ _ rfl)⟩
 ·go_wp2
  go_roundg (gk-1)
  case measure=>omega
  exact⟨3,a,b,_,d,rfl,by omega,aA (j.out.set 2 _),aA (f.out.set 2 _ _ rfl)⟩
 ·go_wp2
  go_roundg (gk-1)
  case measure=>omega
  exact⟨4,a,b,c,_,rfl,by omega,aA (j.out.set 3 _),aA (f.out.set 3 _ _ rfl)⟩
 have l:=r.out.only (q:=W.heap.size+1) (by have:=r.out.lt _ rfl;omega) j.out (by omega);have K:=l.c 0 _ rfl;have L:=l.c 1 _ rfl;have M:=l.c 2 _ rfl;have N:=l.c 3 _ rfl;have rf:=l.fz;go_wp2;have p:=(((l.set 0 (.int .u64 a) _ rfl).set 1 (.int .u64 b) _ rfl).set 2 (.int .u64 c) _ rfl).set 3 (.int .u64 d) _ rfl;have w:=((((Ae.refl (W.heap.size+1) wr).set 0 (.int .u64 a)).set 1 (.int .u64 b)).set 2 (.int .u64 c)).set 3 (.int .u64 d);generalize ((((wr.setCell ⟨W.heap.size+1,0,none⟩ (.int .u64 a)).setCell ⟨W.heap.size+1,1,none⟩ (.int .u64 b)).setCell ⟨W.heap.size+1,2,none⟩ (.int .u64 c)).setCell ⟨W.heap.size+1,3,none⟩ (.int .u64 d))=Z at p w ⊢
 have B:=p.c 0 _ rfl;have C:=p.c 1 _ rfl;have D:=p.c 2 _ rfl;have E:=p.c 3 _ rfl;have s:=j.out.below_of m.out (aC _) m.out.size;exact bodyPost_ret (v:=.agg #[.int .u64 a,.int .u64 b,.int .u64 c,.int .u64 d]) (by simp[results,results183,go_sem,B,C,D,E]<;>exact rfl) rfl ⟨a,b,c,d,rfl,w.below_of s (by omega) s.size⟩
end Go.Proofs.YtipfpohlnhmlpaaGreatDoor
