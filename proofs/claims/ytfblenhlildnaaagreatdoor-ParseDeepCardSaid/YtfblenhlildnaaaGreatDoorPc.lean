/- Pc Wc Pf -/
import Derived.Test.YtfblenhlildnaaaGreatDoorMp
import Derived.Test.YtfblenhlildnaaaGreatDoorBb
set_option maxHeartbeats 800000
open List renaming drop_eq_nil_of_le->aA,length_cons->aB
open Go.Lib renaming hid->aC
namespace Go.Proofs.YtfblenhlildnaaaGreatDoor
def AF (q:UInt8) (l:List UInt8) (k:Nat):Int:=match BY q (l.drop k) with | some n=>(k+n:Nat) | none => -1
theorem F8 (q:UInt8) (l:List UInt8) (k:Nat) (h:l.length<=k):AF q l k = -1:=by
 rw[AF,aA h];rfl
theorem FM (q:UInt8) (l:List UInt8) (k:Nat) (h:k<l.length) (a:l[k]=10):AF q l k = -1:=by
 rw[AF,Aq l k h,BY.eq_def];simp[a]
theorem Iz (q:UInt8) (l:List UInt8) (k:Nat) (h:k<l.length) (a:l[k]≠10) (b:l[k]=q):AF q l k=k:=by
 rw[AF,Aq l k h,BY.eq_def];subst b;simp[a]
theorem Fm (q:UInt8) (l:List UInt8) (k:Nat) (h:k<l.length) (a:l[k]≠10) (b:l[k]≠q) (c:l[k]≠92):AF q l k=AF q l (k+1):=by
 rw[AF,Aq l k h,BY.eq_def,AF];simp only[a,b,c,if_false]
 cases BY q (l.drop (k+1)) with
 | none=>rfl
 | some n=>simp;omega
theorem Ef (q:UInt8) (l:List UInt8) (k:Nat) (h:k<l.length) (a:l[k]≠10) (b:l[k]≠q) (c:l[k]=92) (d:l.length<=k+1):AF q l k = -1:=by
 rw[AF,Aq l k h,aA d,BY.eq_def];dsimp only;rw[if_neg a,if_neg b,if_pos c]
theorem EL (q:UInt8) (l:List UInt8) (k:Nat) (h:k+1<l.length) (a:l[k]≠10) (b:l[k]≠q) (c:l[k]=92) (d:l[k+1]=10):AF q l k = -1:=by
 rw[AF,Aq l k (by omega),Aq l (k+1) h,BY.eq_def];dsimp only;rw[if_neg a,if_neg b,if_pos c,if_pos d]
theorem GX (q:UInt8) (l:List UInt8) (k:Nat) (h:k+1<l.length) (a:l[k]≠10) (b:l[k]≠q) (c:l[k]=92) (d:l[k+1]≠10):AF q l k=AF q l (k+2):=by
 rw[AF,Aq l k (by omega),Aq l (k+1) h,BY.eq_def,AF];dsimp only;rw[if_neg a,if_neg b,if_pos c,if_neg d]
 cases BY q (l.drop (k+2)) with
 | none=>rfl
 | some n=>simp;omega
theorem GV (q:UInt8):∀(N:Nat) (l:List UInt8) (n:Nat),l.length<=N->BY q l=some n->n<l.length
 | _,[],n,_,h=>by simp[BY] at h
 | 0,c::r,n,hN,_=>by simp at hN
 | N+1,c::r,n,hN,h=>by
   rw[BY.eq_def] at h;dsimp only at h;simp only[aB] at hN ⊢;split at h
   ·cases h
   split at h
   ·cases h;omega
   split at h
   ·split at h
    ·cases h
    rename_i d b
    split at h
    ·cases h
    cases a:BY q b with
    | none=>rw[a] at h;cases h
    | some m =>
      rw[a] at h;cases h;simp only[aB] at hN ⊢;have:=GV q N b m (by omega) a;show m+2<_;omega
   cases a:BY q r with
   | none=>rw[a] at h;cases h
   | some m =>
     rw[a] at h;cases h;have:=GV q N r m (by omega) a;show m+1<_;omega
theorem Cl (q:UInt8) (l:List UInt8) (k t:Nat) (h:AF q l k=t):k<=t/\t<l.length:=by
 rw[AF] at h
 cases a:BY q (l.drop k) with
 | none=>rw[a] at h;simp at h
 | some n =>
   rw[a] at h;have:=GV q _ _ n (Nat.le_refl _) a;simp at this h;omega
theorem GW (q:UInt8) (l:List UInt8) (k t:Nat) (h:AF q l k=t) (i:k<t) (d:k<l.length) :
  l[k]≠10/\l[k]≠q/\(l[k]≠92->AF q l (k+1)=t)/\(l[k]=92->k+2<=t/\AF q l (k+2)=t):=by
 have a:l[k]≠10:=fun e=>by rw[FM q l k d e] at h;omega
 have b:l[k]≠q:=fun e=>by rw[Iz q l k d a e] at h;omega
 refine⟨a,b,fun c=>by rw[<- Fm q l k d a b c];exact h,fun c=>?_⟩;by_cases f:k+1<l.length
 ·by_cases g:l[k+1]=10
  ·rw[EL q l k f a b c g] at h;omega
  rw[GX q l k f a b c g] at h;exact⟨(Cl q l _ t h).1,h⟩
 rw[Ef q l k d a b c (by omega)] at h;omega
theorem OJ:∀(f n:Nat) (l:List UInt8) (j:Nat) (_:j<(D_ f n l).2) (a:j<l.length),48<=l[j].toNat/\l[j].toNat<=55
 | 0,_,_,j,hj,_=>by simp[D_] at hj
 | _+1,_,[],j,hj,_=>by simp[D_] at hj
 | f+1,n,c::r,j,hj,a=>by
   unfold D_ at hj;split at hj
   ·rename_i b
    cases j with
    | zero=>exact b
    | succ j=>exact OJ f _ r j (by simp at hj;omega) (by simpa using a)
   simp at hj
theorem Iy (l:List UInt8) (t:Nat):∀(j k:Nat),AF 34 l k=t->k+j<=t->(∀i (b:k+i<l.length),i<j->48<=l[k+i].toNat/\l[k+i].toNat<=55)->AF 34 l (k+j)=t
 | 0,k,h,_,_=>h
 | j+1,k,h,hj,hd=>by
   have g:=(Cl 34 l k t h).2;have a:=hd 0 (by omega) (by omega);simp only[Nat.add_zero] at a;have d:l[k]≠92:=fun e=>by rw[e] at a;simp at a
   have:=(GW 34 l k t h (by omega) (by omega)).2.2.1 d
   have f:=Iy l t j (k+1) this (by omega) (fun i b c=>by
    have:=hd (i+1) (by omega) (by omega)
    simpa[Nat.add_assoc,Nat.add_comm 1] using this)
   rw[show k+(j+1)=k+1+j by omega];exact f
theorem Pt (l:List UInt8) (k t:Nat) (u:k+2<=t) (h:AF 34 l (k+2)=t) (s:(BZ ((l.drop (k+1)).take (t-(k+1)))).2≠0) :
  AF 34 l (k+1+(BZ ((l.drop (k+1)).take (t-(k+1)))).2)=t/\k+1+(BZ ((l.drop (k+1)).take (t-(k+1)))).2<=t:=by
 have v:=(Cl 34 l _ t h).2;have b:=TD ((l.drop (k+1)).take (t-(k+1)));simp only[List.length_take,List.length_drop] at b;refine⟨?_,by omega⟩;generalize c:(l.drop (k+1)).take (t-(k+1))=m at *;have e:∀j (n:j<m.length),m[j]=l[k+1+j]'(by subst c;simp at n;omega):=fun j n=>by subst c;simp
 have a:m.length=t-(k+1):=by subst c;simp;omega
 cases m with
 | nil=>simp at a;omega
 | cons d r =>
   by_cases g:A4.idxOf d<10
   ·have:(BZ (d::r)).2=1:=by rw[BZ,if_pos g]
    rw[this];exact h
   have o:(BZ (d::r)).2=(D_ 3 0 (d::r)).2:=(by rw[BZ,if_neg g]);rw[o] at s b ⊢
   have:=Iy l t ((D_ 3 0 (d::r)).2-1) (k+2) h (by omega) (fun i p q=>by
    have f:=OJ 3 0 (d::r) (i+1) (by omega) (by simp only[aB] at a ⊢;omega);rw[e (i+1) (by simp only[aB] at a ⊢;omega)] at f
    simpa[show k+1+(i+1)=k+2+i by omega] using f)
   rw[show k+1+(D_ 3 0 (d::r)).2=k+2+((D_ 3 0 (d::r)).2-1) by omega];exact this
def Bc (l:List UInt8) (k t:Nat):List UInt8:=(l.drop k).take (t-k)
theorem KU (l:List UInt8) (k t:Nat) (b:k<t) (a:k<l.length):Bc l k t=l[k]::Bc l (k+1) t:=by
 rw[Bc,Aq l k a,show t-k=(t-(k+1))+1 by omega,List.take_succ_cons];rfl
theorem KV (l:List UInt8) (t:Nat):Bc l t t=[]:=by simp[Bc]
theorem RG (l:List UInt8) (k t n:Nat):(Bc l k t).drop n=Bc l (k+n) t:=by
 rw[Bc,Bc,List.drop_take,List.drop_drop];congr 1;omega
theorem Td:Df []=[]:=rfl
theorem Oi (c:UInt8) (r:List UInt8) (h:c≠92):Df (c::r)=c::Df r:=by
 cases r with
 | nil=>simp[Df,h]
 | cons d r=>rw[Df,if_neg h]
theorem Oj (r:List UInt8):Df (92::47::r)=47::Df r:=by
 rw[Df,if_pos rfl,if_pos rfl]
theorem UL (d:UInt8) (r:List UInt8) (h:d≠47):Df (92::d::r)=92::d::Df r:=by
 rw[Df,if_pos rfl,if_neg h]
open Go.Proofs.Tryz
open Go.RowKit
theorem Hp (s:ByteArray) (i:Nat) (q:UInt8) (w:World) (E:s.size<=maxLen) (F:i<s.size) (D:s[i]=q):Calls prog 175 #[.string s,.int .i64 i] w fun e n=>e = .returned (.int .i64 (AF q s.data.toList (i+1)))/\w=n:=by
 unfold maxLen at E
 go_in
 go_wp2;refine Ll 0 (fun l n=>n=w/\∃k:Nat,i<k/\k<=s.size+1/\AF q s.data.toList (i+1)=AF q s.data.toList k/\∃(u7 u8 u9 u10 u11 u12 u13 u14 u15 u16 u17 u18 u19 u20 u21 u22 u23 u24 u25 u26 u27 u28 u29 u30 u31 u32 u33 u34 u35 u36 u37 u38 u39 u40 u41 u42 u43 u44 u45:Value),l={ tmps := #[.string s,.int .i64 i,undef,undef,.int .i64 0,.int .u8 q.toNat,.int .i64 k,u7,u8,u9,u10,u11,u12,u13,u14,u15,u16,u17,u18,u19,u20,u21,u22,u23,u24,u25,u26,u27,u28,u29,u30,u31,u32,u33,u34,u35,u36,u37,u38,u39,u40,u41,u42,u43,u44,u45],defers:=[] }) (fun l _=>s.size+2-(intOf (l.tmps.getD 6 undef)).toNat) rfl ?_ ?_
 ·rintro l n ⟨rfl,k,C,G,y,u7,u8,u9,u10,u11,u12,u13,u14,u15,u16,u17,u18,u19,u20,u21,u22,u23,u24,u25,u26,u27,u28,u29,u30,u31,u32,u33,u34,u35,u36,u37,u38,u39,u40,u41,u42,u43,u44,u45,rfl⟩
  have HC:=aC y;clear y D;by_cases v:k<s.size
  ·have m:k<s.data.toList.length:=by simpa using v
   by_cases a:s[k]=10
   ·have o:((s[k].toNat:Int)==10)=true:=AH (d:=10) a
    have b:=aC (FM q _ _ m a);clear a;go_wp2;simp only[Exit.jump];go_ret;exact⟨AZ (HC.out.trans (b.out)).symm,rfl⟩
   have o:((s[k].toNat:Int)==10)=false:=Ao (d:=10) a;by_cases c:s[k]=q
   ·have A:((s[k].toNat:Int)==q.toNat)=true:=AH c
    have b:=aC (Iz q _ _ m a c);clear a c;go_wp2;simp only[Exit.jump];go_ret;exact⟨AZ (HC.out.trans (b.out)).symm,rfl⟩
   have A:((s[k].toNat:Int)==q.toNat)=false:=Ao c;by_cases f:s[k]=92
   ·have r:((s[k].toNat:Int)==92)=true:=AH (d:=92) f
    by_cases x:k+1<s.size
    ·have h:k+1<s.data.toList.length:=by simpa using x
     by_cases g:s[k+1]=10
     ·have p:((s[k+1].toNat:Int)==10)=true:=AH (d:=10) g
      have b:=aC (EL q _ _ h a c f g);clear a c f g;go_wp2;simp only[Exit.jump];go_ret;exact⟨AZ (HC.out.trans (b.out)).symm,rfl⟩
     have p:((s[k+1].toNat:Int)==10)=false:=Ao (d:=10) g;have b:=aC (GX q _ _ h a c f g);clear a c f g;go_wp2;go_step3;have t:((k:Int)+1+1)=((k+2:Nat):Int):=(by omega);rw[t];refine⟨rfl,⟨rfl,k+2,by omega,by omega,HC.out.trans b.out,?_⟩,by simp[intOf];omega⟩
     (repeat apply Exists.intro)
     rfl
    have b:=aC (Ef q _ _ m a c f (by simpa using x));clear a c f;go_wp2;simp only[Exit.jump];go_ret;exact⟨AZ (HC.out.trans (b.out)).symm,rfl⟩
   have r:((s[k].toNat:Int)==92)=false:=Ao (d:=92) f;have b:=aC (Fm q _ _ m a c f);clear a c f;go_wp2;go_step3;have t:((k:Int)+1)=((k+1:Nat):Int):=(by omega);rw[t];refine⟨rfl,⟨rfl,k+1,by omega,by omega,HC.out.trans b.out,?_⟩,by simp[intOf];omega⟩
   (repeat apply Exists.intro)
   rfl
  have b:=aC (F8 q s.data.toList k (by simpa using v));go_wp2;simp only[Exit.jump];go_ret;exact⟨AZ (HC.out.trans (b.out)).symm,rfl⟩
 intro j;have u:((i:Int)+1)=((i+1:Nat):Int):=(by omega);have z:=aC u;clear u;go_wp2;go_step3
 rename_i B
 rw[z.out];refine B _ _ (j _ _ ⟨rfl,i+1,by omega,by omega,rfl,?_⟩)
 (repeat apply Exists.intro)
 rfl
def C0:Bool->List UInt8->Nat
 | _,[]=>0
 | true,c::r=>if c=10 then 0 else C0 true r+1
 | false,c::r=>if c=32\/c=9\/c=13 then C0 false r+1 else if c=35 then C0 true r+1
   else if c=92 then (match r with | []=>0 | d::r'=>if d=10 then C0 false r'+2 else 0) else 0
theorem FC:∀(N:Nat) (b:Bool) (l:List UInt8),l.length<=N->C0 b l<=l.length
 | _,_,[],_=>by cases ‹Bool› <;> simp[C0]
 | 0,_,c::r,h=>by simp at h
 | N+1,true,c::r,h=>by
   simp only[aB] at h;have:=FC N true r (by omega);rw[C0];split<;>simp;exact this
 | N+1,false,c::r,h=>by
   simp only[aB] at h;have a:=FC N true r (by omega);have e:=FC N false r (by omega);rw[C0.eq_def];dsimp only;split
   ·simp;exact e
   split
   ·simp;exact a
   split
   ·cases r with
    | nil=>simp
    | cons d f =>
      dsimp only;split
      ·simp only[aB] at h ⊢
       have g:=FC N false f (by omega);omega
      simp
   simp
def Abd (l:List UInt8) (k:Nat):Nat:=k+C0 false (l.drop k)
def Ec (l:List UInt8) (k:Nat):Nat:=k+C0 true (l.drop k)
theorem Kw (l:List UInt8) (k:Nat) (h:l.length<=k):Abd l k=k:=by rw[Abd,aA h];rfl
theorem Kv (l:List UInt8) (k:Nat) (h:l.length<=k):Ec l k=Abd l k:=by rw[Abd,Ec,aA h];rfl
theorem MI (l:List UInt8) (k:Nat) (h:k<l.length) (a:l[k]=10):Ec l k=Abd l k:=by
 rw[Abd,Ec,Aq l k h,C0.eq_def,C0.eq_def];simp[a]
theorem Jj (l:List UInt8) (k:Nat) (h:k<l.length) (a:l[k]≠10):Ec l k=Ec l (k+1):=by
 rw[Ec,Aq l k h,C0,if_neg a,Ec];omega
theorem H_ (l:List UInt8) (k:Nat) (h:k<l.length) (a:l[k]=32\/l[k]=9\/l[k]=13):Abd l k=Abd l (k+1):=by
 rw[Abd,Aq l k h,C0.eq_def];dsimp only;rw[if_pos a,Abd];omega
theorem Jk (l:List UInt8) (k:Nat) (h:k<l.length) (a:l[k]=35):Abd l k=Ec l k:=by
 rw[Abd,Aq l k h,C0.eq_def];dsimp only;rw[if_neg (by simp[a]),if_pos a,Ec,Aq l k h,C0,if_neg (by simp[a])]
theorem Jl (l:List UInt8) (k:Nat) (h:k+1<l.length) (a:l[k]=92) (b:l[k+1]=10):Abd l k=Abd l (k+2):=by
 rw[Abd,Aq l k (by omega),Aq l (k+1) h,C0.eq_def];dsimp only;rw[if_neg (by simp[a]),if_neg (by simp[a]),if_pos a,if_pos b,Abd];show k+(C0 false (l.drop (k+2))+2)=_;omega
theorem Jm (l:List UInt8) (k:Nat) (h:k<l.length) (c:¬ (l[k]=32\/l[k]=9\/l[k]=13)) (d:l[k]≠35) (f:¬ (l[k]=92/\l[k+1]?=some 10)):Abd l k=k:=by
 rw[Abd,Aq l k h,C0.eq_def];dsimp only;rw[if_neg c,if_neg d];split
 ·rename_i a
  by_cases b:k+1<l.length
  ·rw[Aq l (k+1) b];dsimp only
   rw[if_neg];· rfl
   intro e;exact f ⟨a,by rw[List.getElem?_eq_getElem b,e]⟩
  rw[aA (by omega)];rfl
 rfl
def CV (l:List UInt8) (k:Nat):Prop:=∃h:k<l.length,Aj l[k]=true\/(l[k]=46/\∃a:k+1<l.length,Aj l[k+1]=true)
end Go.Proofs.YtfblenhlildnaaaGreatDoor
