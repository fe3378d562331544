/- Du Dy Dz -/
import Derived.Test.YtjolfpcpcaocmaaGreatDoorDs
import Derived.Test.YtjolfpcpcaocmaaGreatDoorDr
import Derived.Test.YtjolfpcpcaocmaaGreatDoorCz
import Derived.Test.YtjolfpcpcaocmaaGreatDoorBe
import Derived.Test.YtjolfpcpcaocmaaGreatDoorWb
set_option maxRecDepth 100000
set_option maxHeartbeats 4000000
namespace Go.Proofs.YtjolfpcpcaocmaaGreatDoor
open Go.Proofs.Tryz
open Go.RowKit
theorem Zi {nx:Nat->Bool->Tk} {pl:Nat->Nat×Nat} {a:List UInt8->Option Bool} {f:World} {s:ByteArray} (b:F2 nx s f) (c:PlC pl s) (d:TZ a s f) (n:Nat) (e:n<=1000000) (q:Nat):RuC f q s (Xq nx pl a n) :=
 YR b c n (XP b c d n e).block (U1 b c n (IE b c d n e).expr (XP b c d n e).block)
def Yp (nx:Nat->Bool->Tk) (pl:Nat->Nat×Nat) (a:List UInt8->Option Bool) (n:Nat):Hf (List Rl):=M1 nx (fun m=>Xq nx pl a m) n [] ⟨0,0,-1⟩
theorem YH {nx:Nat->Bool->Tk} {pl:Nat->Nat×Nat} {a:List UInt8->Option Bool} {w:World} (s:ByteArray) (j:s.size<=4096) (b:F2 nx s w) (c:PlC pl s) (e:TZ a s w) (n:Nat) (i:n<=1000000)
  (h:Yp nx pl a n ≠ .hush) (g:∀f d,Yp nx pl a n = .bad f d->f<=s.size):Calls prog 5 #[.string s] w (ZX pl w (Yp nx pl a n)) :=
 YI s j b c n i (fun m k q=>Zi b c e m (by omega) q) h g
theorem TZ.none (s:ByteArray) (w:World):TZ (fun _=>Option.none) s w:=⟨fun _ _ _ h=>(nomatch h),fun _ _ _ h=>(nomatch h)⟩
theorem Lr.at {w:World} {B:Nat} {rs:List Rl} {v:Value} (h:Lr w B rs v) (i:Nat) (l:i<rs.length):∃b c r pv kv,v = .slice (some ⟨b,0,none⟩) rs.length c/\rs[i]?=some r/\Yj w (fun _=>True) (r,pv,kv) /\
  w.cell? ⟨b,9*i,none⟩=some (.int .i64 r.k)/\w.cell? ⟨b,9*i+1,none⟩=some (.int .i64 r.n)/\w.cell? ⟨b,9*i+2,none⟩=some pv/\w.cell? ⟨b,9*i+3,none⟩=some (.int .i64 r.b.kd)/\w.cell? ⟨b,9*i+4,none⟩=some (.string ⟨r.b.nm.toArray⟩) /\
  w.cell? ⟨b,9*i+5,none⟩=some (.float .f64 r.b.x)/\w.cell? ⟨b,9*i+6,none⟩=some kv/\w.cell? ⟨b,9*i+7,none⟩=some (.complex .f64 r.b.z.1 r.b.z.2)/\w.cell? ⟨b,9*i+8,none⟩=some (.complex .f64 r.z.1 r.z.2):=by
 obtain⟨L,rfl,d,G⟩:=h;rw[List.length_map] at l;obtain⟨g,f,o,-,-⟩:=d.form (by omega);have F:v.ownBlock=some g:=by rw[o];rfl
 have E:=d.cells F;have m:L[i]?=some L[i]:=List.getElem?_eq_getElem l;obtain⟨p,q,s,t,y,c5,A,C,D⟩:=Ld L i _ m;have a:∀j u,(AW L)[j]?=some u->w.cell? ⟨g,j,none⟩=some u:=fun j u e=>by have:=E j u e;rw[Addr.add_lit,Nat.zero_add] at this;exact this
 refine⟨g,f,L[i].1,L[i].2.1,L[i].2.2,by rw[List.length_map];exact o,by rw[List.getElem?_map,m];rfl,(G _ (List.getElem_mem l)).mono fun _ _ _=>trivial,a _ _ p,a _ _ q,a _ _ s,a _ _ t,a _ _ y,a _ _ c5,a _ _ A,a _ _ C,a _ _ D⟩
abbrev Z8:List UInt8:=[123,32,112,114,105,110,116,32,36,49,32,43,32,50,32,125]
abbrev ZM:List UInt8:=[123,32,112,114,105,110,116,32,97,32,62,32,34,102,34,32,125]
def W5 (l:List UInt8) (n:Nat):Hf (List Rl):=Yp (X8 l (Z9 l)) (W1 l) (fun _=>none) n
def Aak (c:List Rl->Bool):Hf (List Rl)->Bool
 | .ok rs _=>c rs
 | _=>false
def Y0 (f:Nat) (e:Int):Hf (List Rl)->Bool
 | .bad f' e'=>Nat.beq f' f&&decide (e'=e)
 | _=>false
theorem ZA {c:List Rl->Bool} {r:Hf (List Rl)} (h:Aak c r=true):∃rs p,r = .ok rs p/\c rs=true:=by
 cases r with
 | ok rs p=>exact⟨rs,p,rfl,h⟩
 | bad f e=>cases h
 | hush=>cases h
theorem Y1 {f:Nat} {e:Int} {r:Hf (List Rl)} (h:Y0 f e r=true):r = .bad f e:=by
 cases r with
 | ok c p=>cases h
 | bad b a =>
   simp only[Y0,Bool.and_eq_true,decide_eq_true_eq] at h;rw[Nat.eq_of_beq_eq_true h.1,h.2]
 | hush=>cases h
def Aaa:List Rl->Bool
 | [r]=>decide (r.k=5)&&(match r.b.ks with | [u]=>decide (u.kd=42) | _=>false)
 | _=>false
theorem ZD:Aak Aaa (W5 Z8 60)=true:=by kernel_rfl
theorem ZE:Y0 10 27 (W5 ZM 60)=true:=by kernel_rfl
theorem L3 (l:List UInt8) (a:l.length<=4096) (n:Nat) (i:n<=1000000) (w:World) (d:CG w) (g:∀k,k<l.length->(Aj (l.getD k 0)=true\/l.getD k 0=46)->Cv l k=true)
  (h:W5 l n ≠ .hush) (e:∀f c,W5 l n = .bad f c->f<=l.length):Calls prog 5 #[.string ⟨l.toArray⟩] w (ZX (W1 l) w (W5 l n)):=by
 have b:(⟨l.toArray⟩:ByteArray).size=l.length:=rfl;exact YH (nx:=X8 l (Z9 l)) (pl:=W1 l) ⟨l.toArray⟩ (by rw[b];exact a) (Za ⟨l.toArray⟩ (by rw[b];exact a) w d g) (YL ⟨l.toArray⟩ (by rw[b];exact a)) (TZ.none _ _) n i h e
theorem Zw (w:World) (x:CG w):Calls prog 5 #[.string ⟨Z8.toArray⟩] w fun e d=>Below w.heap.size w d/\∃(b c i l:Nat),
  e = .returned (.tuple #[.agg #[.slice (some ⟨b,0,none⟩) 1 c,.slice none 0 0],.complex .f64 0 0,.int .i64 0])/\d.cell? ⟨b,0,none⟩=some (.int .i64 5)/\d.cell? ⟨b,6,none⟩=some (.slice (some ⟨i,0,none⟩) 1 l)/\d.cell? ⟨i,0,none⟩=some (.int .i64 42):=by
 obtain⟨n,p,j,f⟩:=ZA ZD;have h:=L3 Z8 (by decide) 60 (by decide) w x (by decide) (by rw[j];exact fun h=>nomatch h) (by rw[j];exact fun _ _ h=>nomatch h);rw[j] at h;refine h.mono fun e d z=>?_;obtain⟨y,v,rfl,B⟩:=z;refine⟨y,?_⟩;rcases n with _ | ⟨r,_ | ⟨I,n⟩⟩
 ·cases f
 rotate_left
 ·cases f
 simp only[Aaa,Bool.and_eq_true,decide_eq_true_eq] at f;obtain⟨q,g⟩:=f;obtain⟨b,c,F,H,G,rfl,k,s,m,-,-,-,-,-,o,-,-⟩:=B.at 0 (by simp);obtain rfl:r=F:=(by simpa using k);have a:=s.2;dsimp only at a;generalize A:r.b.ks=ks at g a;rcases ks with _ | ⟨u,_ | ⟨u2,ks⟩⟩
 ·cases g
 rotate_left
 ·cases g
 have D:u.kd=42:=(by simpa using g);obtain⟨i,l,E,rfl,t,C,-,k0,-⟩:=a.cells 0 (by simp);obtain rfl:u=t:=(by simpa using C);exact⟨b,c,i,l,rfl,by rw[q] at m;exact m,o,by rw[D] at k0;exact k0⟩
theorem Zd:W1 ZM 10=(4607182418800017408,4622382067542392832):=by decide +kernel
theorem Zx (w:World) (g:CG w):Calls prog 5 #[.string ⟨ZM.toArray⟩] w fun e c=>Below w.heap.size w c/\e = .returned (.tuple #[.agg #[.slice none 0 0,.slice none 0 0],.complex .f64 4607182418800017408 4622382067542392832,.int .i64 27]):=by
 have a:=Y1 ZE;have h:=L3 ZM (by decide) 60 (by decide) w g (by decide) (by rw[a];exact fun h=>nomatch h) (by rw[a];intro f e h;injection h with d k;rw[<- d];decide);rw[a] at h;refine h.mono fun e c j=>?_;obtain⟨i,b⟩:=j;rw[Zd] at b;exact⟨i,b⟩
theorem XJ (w:World) (g:CG w):Calls prog 6 #[] w fun e p=>e = .returned (.bool true)/\Below w.heap.size w p:=by
 have k:=Lib.hid (Zw w g);have l:=Lib.hid (fun W (n:Below w.heap.size w W)=>Zx W (g.below n));have o:∀w,Sem.run prog (binOp .eql 26 (.complex .f64 4607182418800017408 4622382067542392832) (.complex .f64 4607182418800017408 4622382067542392832)) w = .ok (.bool true) w:=by intro w;kernel_rfl
 clear g
 go_in
 go_wp2_with (first | (go_at_call 5;(with_reducible refine k.out.mono ?_);rintro e j ⟨d,b,c,u,v,rfl,h,i,k0⟩;have HC:=Lib.hid (And.intro d (And.intro h (And.intro i k0)));clear d h i k0) | (go_at_call 5;(with_reducible refine(l.out _ (HC.out.1.trans ((Ad _ _).mono HC.out.1.size))).mono ?_);rintro e x ⟨a,rfl⟩;have f:(j.alloc (.cells #[.slice (some ⟨b,0,none⟩) 1 c,.slice none 0 0] 25)).cell? ⟨j.heap.size,0,none⟩=some (.slice (some ⟨b,0,none⟩) 1 c):=(by rw[World.cell?_alloc_at _ _ _ _ rfl];rfl);have q:=Az (Aa f a) (.cells #[.slice none 0 0,.slice none 0 0] 25);have r:=Az (Aa (Az HC.out.2.1 _) a) (.cells #[.slice none 0 0,.slice none 0 0] 25);have s:=Az (Aa (Az HC.out.2.2.1 _) a) (.cells #[.slice none 0 0,.slice none 0 0] 25);have t:=Az (Aa (Az HC.out.2.2.2 _) a) (.cells #[.slice none 0 0,.slice none 0 0] 25);have m:=Lib.hid ((HC.out.1.trans ((Ad _ _).mono HC.out.1.size)).trans ((a.trans ((Ad _ (.cells #[.slice none 0 0,.slice none 0 0] 25)).mono a.size)).mono (by have:=HC.out.1.size;simp;omega)));clear a f))
 go_ret;exact⟨rfl,m.out⟩
end Go.Proofs.YtjolfpcpcaocmaaGreatDoor
