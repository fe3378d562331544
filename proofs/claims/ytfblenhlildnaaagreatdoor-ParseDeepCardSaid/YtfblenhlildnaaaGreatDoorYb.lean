/- Yb -/
import Derived.Test.YtfblenhlildnaaaGreatDoorWr
import Derived.Test.YtfblenhlildnaaaGreatDoorPc
import Derived.Deep.DeepCutAuto
import Derived.Deep.CutBlock
import Derived.BigQuiet
import Derived.Deep.QuietTactic
set_option maxRecDepth 100000
set_option maxHeartbeats 4000000
open Go.Lib renaming hid->aA
namespace Go.Proofs.YtfblenhlildnaaaGreatDoor
open Go.Proofs.Tryz
open Go.RowKit
theorem Qe (s:ByteArray) (a:Nat) (w:World) (L:s.size<=140737488351232) (ha:a<=s.size) :
  Calls prog 75 #[.string s,.int .i64 a] w fun e J=>e = .returned (.int .i64 (Abd s.data.toList a:Nat))/\w=J:=by
 obtain⟨K,x⟩:∃K,Abd s.data.toList a=K:=⟨_,rfl⟩;rw[x];have A:=aA x;clear x
 go_in
 go_wp2
 go_loopw [1] (fun i wr=>∃k:Nat,i = .int .i64 k/\k<=s.size/\Hid (Abd s.data.toList k=K)/\w=wr) (fun i _=>s.size-(intOf i).toNat)
 case atStart=>exact⟨a,rfl,ha,A,rfl⟩
 obtain⟨k,rfl,F,j,rfl⟩:=hrel;clear A;by_cases z:k<s.size
 ·have y:k<s.data.toList.length:=by simpa using z
  by_cases l:s[k]=32\/s[k]=9\/s[k]=13
  ·have g:Hid (Abd s.data.toList (k+1)=K):=by unfold Hid;rw[<- j.out,H_ s.data.toList k y l]
   clear j;rcases l with n | n | n
   ·have b1:((s[k].toNat:Int)==32)=true:=AH (d:=32) n
    clear n;go_wp2
    go_roundw
    case rel=>exact⟨k+1,by go_num,by omega,g,by first | rfl | trivial⟩
    simp[intOf];omega
   ·have b0:((s[k].toNat:Int)==32)=false:=Ao (d:=32) (by rw[n];decide)
    have b1:((s[k].toNat:Int)==9)=true:=AH (d:=9) n;clear n;go_wp2
    go_roundw
    case rel=>exact⟨k+1,by go_num,by omega,g,by first | rfl | trivial⟩
    simp[intOf];omega
   have b0:((s[k].toNat:Int)==32)=false:=Ao (d:=32) (by rw[n];decide);have b1:((s[k].toNat:Int)==9)=false:=Ao (d:=9) (by rw[n];decide);have b2:((s[k].toNat:Int)==13)=true:=AH (d:=13) n;clear n;go_wp2
   go_roundw
   case rel=>exact⟨k+1,by go_num,by omega,g,by first | rfl | trivial⟩
   simp[intOf];omega
  have b0:((s[k].toNat:Int)==32)=false:=Ao (d:=32) fun h=>l (.inl h);have b1:((s[k].toNat:Int)==9)=false:=Ao (d:=9) fun h=>l (.inr (.inl h));have b2:((s[k].toNat:Int)==13)=false:=Ao (d:=13) fun h=>l (.inr (.inr h));by_cases p:s[k]=92/\∃h:k+1<s.size,s[k+1]=10
  ·obtain⟨f,t,b⟩:=p
   have b3:((s[k].toNat:Int)==92)=true:=AH (d:=92) f;have C:((s[k+1].toNat:Int)==10)=true:=AH (d:=10) b;have g:Hid (Abd s.data.toList (k+2)=K):=by unfold Hid;rw[<- j.out,Jl s.data.toList k (by simpa using t) f b]
   clear j l f b;go_wp2
   go_roundw
   case rel=>exact⟨k+2,by go_num,by omega,g,by first | rfl | trivial⟩
   simp[intOf];omega
  by_cases c:s[k]=35
  ·have b3:((s[k].toNat:Int)==92)=false:=Ao (d:=92) (by rw[c];decide)
   have u:((s[k].toNat:Int)==35)=true:=AH (d:=35) c;have g:Hid (Ec s.data.toList k=K):=by unfold Hid;rw[<- j.out,Jk s.data.toList k y c]
   have v:=aA c;clear j l p c;go_wp2
   go_loopw [1] (fun i wr=>∃m:Nat,i = .int .i64 m/\k<=m/\m<=s.size/\Hid (Ec s.data.toList m=K)/\w=wr) (fun i _=>s.size-(intOf i).toNat)
   case atStart=>exact⟨k,rfl,Nat.le_refl _,F,g,by first | rfl | trivial⟩
   obtain⟨m,rfl,G,B,q,rfl⟩:=hrel;clear g;by_cases o:m<s.size
   ·by_cases b:s[m]=10
    ·have D:((s[m].toNat:Int) != 10)=false:=Et (d:=10) b
     have H:k≠m:=by
      intro h;subst h;rw[v.out] at b;exact absurd b (by decide)
     have g:Hid (Abd s.data.toList m=K):=by unfold Hid;rw[<- q.out,MI s.data.toList m (by simpa using o) b]
     clear q b b0 b1 b2 b3 u;go_wp2
     go_roundw
     case rel=>exact⟨m,rfl,B,g,by first | rfl | trivial⟩
     simp[intOf];omega
    have D:((s[m].toNat:Int) != 10)=true:=Cu (d:=10) b;have g:Hid (Ec s.data.toList (m+1)=K):=by unfold Hid;rw[<- q.out,Jj s.data.toList m (by simpa using o) b]
    clear q b b0 b1 b2 b3 u;go_wp2
    go_roundw
    case rel=>exact⟨m+1,by go_num,by omega,by omega,g,by first | rfl | trivial⟩
    simp[intOf];omega
   have g:Hid (Abd s.data.toList m=K):=by unfold Hid;rw[<- q.out,Kv s.data.toList m (by simp;omega)]
   clear q b0 b1 b2 b3 u;go_wp2
   go_roundw
   case rel=>exact⟨m,rfl,B,g,by first | rfl | trivial⟩
   simp[intOf];omega
  have u:((s[k].toNat:Int)==35)=false:=Ao (d:=35) c
  have r:Hid (K=k):=by
   unfold Hid;rw[<- j.out];refine Jm s.data.toList k y l c ?_;rintro⟨t,E⟩;obtain⟨q1,I⟩:=List.getElem?_eq_some_iff.1 E;exact p ⟨t,by simpa using q1,I⟩
  by_cases f:s[k]=92
  ·have b3:((s[k].toNat:Int)==92)=true:=AH (d:=92) f
   by_cases t:k+1<s.size
   ·have C:((s[k+1].toNat:Int)==10)=false:=Ao (d:=10) fun h=>p ⟨f,t,h⟩
    clear j l p c f;go_wp2;go_ret;exact⟨by rw[r.out];rfl,rfl⟩
   clear j l p c f;go_wp2;go_ret;exact⟨by rw[r.out];rfl,rfl⟩
  have b3:((s[k].toNat:Int)==92)=false:=Ao (d:=92) f;clear j l p c f;go_wp2;go_ret;exact⟨by rw[r.out];rfl,rfl⟩
 have r:Hid (K=k):=by unfold Hid;rw[<- j.out,Kw s.data.toList k (by simp;omega)]
 clear j;go_wp2;go_ret;exact⟨by rw[r.out];rfl,rfl⟩
theorem Hz (s:ByteArray) (a:Nat) (w:World) (y:s.size<=140737488351232) (ha:a<s.size) (t:s[a]≠92) :
  Calls prog 80 #[.string s,.int .i64 a] w fun e u=>e = .returned (.int .i64 (AF s[a] s.data.toList (a+1)))/\Below w.heap.size w u:=by
 obtain⟨K,o⟩:∃K,AF s[a] s.data.toList (a+1)=K:=⟨_,rfl⟩;rw[o];have r:=aA o;have v:=aA t;clear o t
 go_in
 go_wp2
 go_loopw [5] (fun i wr=>∃k:Nat,i = .int .i64 k/\k<=s.size/\Hid (AF s[a] s.data.toList k=K)/\∃q,wr=w.drewN q) (fun i _=>s.size-(intOf i).toNat)
 case atStart=>exact⟨a+1,by go_num,by omega,r,0,rfl⟩
 obtain⟨k,rfl,x,g,q,rfl⟩:=hrel;clear r;by_cases p:k<s.size
 ·have m:k<s.data.toList.length:=by simpa using p
  by_cases b:s[k]=10
  ·have b0:((s[k].toNat:Int) != 10)=false:=Et (d:=10) b
   have j:Hid (K = -1):=by unfold Hid;rw[<- g.out,FM _ s.data.toList k m b]
   clear g b;go_wp2;go_ret;exact⟨by rw[j.out];rfl,below_drewN (Below.refl _ _) _⟩
  have b0:((s[k].toNat:Int) != 10)=true:=Cu (d:=10) b;by_cases c:s[k]=s[a]
  ·have b1:((s[k].toNat:Int)==(s[a].toNat:Int))=true:=by rw[c];exact beq_self_eq_true _
   have j:Hid (K=k):=by unfold Hid;rw[<- g.out,Iz _ s.data.toList k m b c]
   clear g b c;go_wp2;go_quiet (fail);go_wp2;go_ret;exact⟨by rw[j.out];rfl,by first | exact below_drewN (Below.refl _ _) _ | exact below_drewN (below_drewN (Below.refl _ _) _) _⟩
  have b1:((s[k].toNat:Int)==(s[a].toNat:Int))=false:=beq_eq_false_iff_ne.2 fun h=>c (UInt8.toNat_inj.1 (by omega));by_cases f:s[k]=92
  ·have b2:((s[k].toNat:Int)==92)=true:=AH (d:=92) f
   by_cases n:k+1<s.size
   ·by_cases l:s[k+1]=10
    ·have b3:((s[k+1].toNat:Int) != 10)=false:=Et (d:=10) l
     have j:Hid (AF s[a] s.data.toList (k+1)=K):=by
      unfold Hid;rw[<- g.out,EL _ s.data.toList k (by simpa using n) b c f l,FM _ s.data.toList (k+1) (by simpa using n) l]
     clear g b c f l;go_wp2;go_quiet (fail);go_wp2
     go_roundw
     case rel=>exact⟨k+1,by go_num,by omega,j,_,rfl⟩
     simp[intOf];omega
    have b3:((s[k+1].toNat:Int) != 10)=true:=Cu (d:=10) l;have j:Hid (AF s[a] s.data.toList (k+2)=K):=by unfold Hid;rw[<- g.out,GX _ s.data.toList k (by simpa using n) b c f l]
    clear g b c f l;go_wp2;go_quiet (fail);go_wp2
    go_roundw
    case rel=>exact⟨k+2,by go_num,by omega,j,_,rfl⟩
    simp[intOf];omega
   have j:Hid (AF s[a] s.data.toList (k+1)=K):=by
    unfold Hid;rw[<- g.out,Ef _ s.data.toList k m b c f (by simp;omega),F8 _ s.data.toList (k+1) (by simp;omega)]
   clear g b c f;go_wp2;go_quiet (fail);go_wp2
   go_roundw
   case rel=>exact⟨k+1,by go_num,by omega,j,_,rfl⟩
   simp[intOf];omega
  have b2:((s[k].toNat:Int)==92)=false:=Ao (d:=92) f;have j:Hid (AF s[a] s.data.toList (k+1)=K):=by unfold Hid;rw[<- g.out,Fm _ s.data.toList k m b c f]
  clear g b c f;go_wp2;go_quiet (fail);go_wp2
  go_roundw
  case rel=>exact⟨k+1,by go_num,by omega,j,_,rfl⟩
  simp[intOf];omega
 have j:Hid (K = -1):=by unfold Hid;rw[<- g.out,F8 _ s.data.toList k (by simp;omega)]
 clear g;go_wp2;go_ret;exact⟨by rw[j.out];rfl,below_drewN (Below.refl _ _) _⟩
theorem GU {a b:ByteArray} (h:a.data.toList=b.data.toList):a=b:=by
 obtain⟨⟨x⟩⟩:=a;obtain⟨⟨y⟩⟩:=b;exact congrArg (fun l=>(⟨⟨l⟩⟩:ByteArray)) h
def GI (l:List UInt8) (k:Nat):List UInt8:=Bc l k (k+B6 (l.drop k))
theorem MB (s:ByteArray) (a:Nat) (w:World) (E:s.size<=140737488351232) (ha:a<s.size) :
  Calls prog 85 #[.string s,.int .i64 a] w fun e i=>e = .returned (.string ⟨(GI s.data.toList a).toArray⟩)/\w=i:=by
 have D:a<s.data.toList.length:=(by simpa using ha);have r:=Aq s.data.toList a D;have u:=aA (fun T S W h=>FI T S W h)
 have A:(s.extract a (a+1)).data.toList=[s[a]]:=by
  rw[Lib.extract_data,r,show a+1-a=1 by omega];rfl
 have B:(s.extract a (a+2)).data.toList=(s.data.toList.drop a).take 2:=by
  rw[Lib.extract_data,show a+2-a=2 by omega]
 obtain⟨q,g⟩:∃b,He.contains ((s.data.toList.drop a).take 2)=b:=⟨_,rfl⟩;obtain⟨t,f⟩:∃b,Mo.contains s[a]=b:=⟨_,rfl⟩
 have o:B6 (s.data.toList.drop a)=if q=true then 2 else if t=true then 1 else 0:=by
  rw[r,B6,<- r,g];show (if q=true then 2 else if Mo.contains s[a]=true then 1 else 0)=_;rw[f]
 have z:Hid (∀W,Calls prog 104 #[.string ⟨#[38,38,32,124,124,32,43,43,32,45,45,32,43,61,32,45,61,32,42,61,32,47,61,32,37,61,32,94,61,32,61,61,32,60,61,32,62,61,32,33,61,32,33,126,32,62,62]⟩,.string (s.extract a (a+2))] W fun e i=>e = .returned (.bool q)/\W=i):=fun W=>by
  have h:=u.out ⟨#[38,38,32,124,124,32,43,43,32,45,45,32,43,61,32,45,61,32,42,61,32,47,61,32,37,61,32,94,61,32,61,61,32,60,61,32,62,61,32,33,61,32,33,126,32,62,62]⟩ (s.extract a (a+2)) W (by decide);rw[B,Vf,g] at h;exact h
 have y:Hid (∀W,Calls prog 104 #[.string ⟨#[123,32,125,32,40,32,41,32,91,32,93,32,59,32,44,32,43,32,45,32,42,32,47,32,37,32,94,32,33,32,62,32,60,32,124,32,63,32,58,32,126,32,36,32,61]⟩,.string (s.extract a (a+1))] W fun e i=>e = .returned (.bool t)/\W=i):=fun W=>by
  have h:=u.out ⟨#[123,32,125,32,40,32,41,32,91,32,93,32,59,32,44,32,43,32,45,32,42,32,47,32,37,32,94,32,33,32,62,32,60,32,124,32,63,32,58,32,126,32,36,32,61]⟩ (s.extract a (a+1)) W (by decide);rw[A,Ve,f] at h;exact h
 have n:q=true->a+1<s.size:=fun h=>by
  rcases Nat.lt_or_ge (a+1) s.size with p | p
  ·exact p
  exfalso;rw[h,r,List.drop_eq_nil_of_le (by simp;omega)] at g
  revert g
  generalize s.data.toList[a]=c;simp[He]
 have m:t=true->s[a]≠32:=fun h p=>by
  rw[p] at f;rw[h] at f;exact absurd f (by decide)
 obtain⟨R,x⟩:∃R:ByteArray,R=⟨(GI s.data.toList a).toArray⟩:=⟨_,rfl⟩
 have l:Hid (q=true->R=s.extract a (a+2)):=fun h=>by
  rw[x];apply GU;show GI s.data.toList a=_;rw[B];unfold GI Bc;rw[o,if_pos h,show a+2-a=2 by omega]
 have k:Hid (q=false->t=true->R=s.extract a (a+1)):=fun h p=>by
  rw[x];apply GU;show GI s.data.toList a=_;rw[A];unfold GI Bc;rw[o,if_neg (by rw[h];decide),if_pos p,show a+1-a=1 by omega,r];rfl
 have j:Hid (q=false->t=false->R=⟨#[]⟩):=fun h p=>by
  rw[x];apply GU;show GI s.data.toList a=_;unfold GI Bc;rw[o,if_neg (by rw[h];decide),if_neg (by rw[p];decide)];simp
 rw[<- x];clear o r A B f g x
 cases q with
 | true =>
   have C:=n rfl;have v:=aA (l.out rfl);clear n m l k j
   go_in
   go_wp2_with (go_at_call 104;first | (with_reducible refine(z.out _).mono ?_;rintro e i ⟨rfl,rfl⟩) | (with_reducible refine(y.out _).mono ?_;rintro e i ⟨rfl,rfl⟩))
   go_ret;exact⟨by rw[v.out];rfl,rfl⟩
 | false =>
   cases t with
   | true =>
     have b0:((s[a].toNat:Int) != 32)=true:=Cu (d:=32) (m rfl);have v:=aA (k.out rfl rfl);clear n m l k j;by_cases C:a+1<s.size
     iterate 2
      focus
       go_in
       go_wp2_with (go_at_call 104;first | (with_reducible refine(z.out _).mono ?_;rintro e i ⟨rfl,rfl⟩) | (with_reducible refine(y.out _).mono ?_;rintro e i ⟨rfl,rfl⟩))
       go_ret;exact⟨by rw[v.out];rfl,rfl⟩
   | false =>
     have v:=aA (j.out rfl rfl);clear n m l k j;by_cases C:a+1<s.size
     iterate 2
      focus
       go_in
       go_wp2_with (go_at_call 104;first | (with_reducible refine(z.out _).mono ?_;rintro e i ⟨rfl,rfl⟩) | (with_reducible refine(y.out _).mono ?_;rintro e i ⟨rfl,rfl⟩))
       all_goals
        go_ret;exact⟨by rw[v.out];rfl,rfl⟩
end Go.Proofs.YtfblenhlildnaaaGreatDoor
