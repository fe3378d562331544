/- Af Ag Ah -/
import Derived.Test.YtjolfpcpcaocmaaGreatDoorDu
import Derived.Test.YtjolfpcpcaocmaaGreatDoorAd
set_option maxRecDepth 100000
set_option maxHeartbeats 8000000
open Go.Lib renaming hid->aA
open Nat renaming le_trans->aB
open Bool renaming and_eq_true->aC
namespace Go.Proofs.YtjolfpcpcaocmaaGreatDoor
open Go.RowKit
namespace Kn
abbrev k1:List UInt8:=[47,97,47,44,32,120,32,61,61,32,49]
abbrev k2:List UInt8:=[123,32,120,32,61,32,125]
abbrev k3:List UInt8:=[123,32,34,100,97,116,101,34,32,124,32,103,101,116,108,105,110,101,32,125]
abbrev k4:List UInt8:=[66,69,71,73,78,32,123,32,120,32,61,32,45,50,94,50,32,121,32,125]
abbrev k5:List UInt8:=[69,86,69,82,89,32,48,32,123,32,125]
abbrev k6:List UInt8:=[123,32,115,121,115,116,101,109,40,49,41,32,125]
abbrev k7:List UInt8:=[]
end Kn
open Kn
def AaA (l:List UInt8) (n:Nat):Hf (List Rl):=Yp (X8 l (Z9 l)) (W1 l) AaS n
def AaV:List Rl->Bool
 | [r]=>decide (r.k=7)&&(match r.ps with | [_,_]=>true | _=>false)
 | _=>false
def AaW:List Rl->Bool
 | [r]=>match r.b.ks with
   | [u]=>match u.ks with
     | [x]=>decide (x.kd=7)&&(match x.ks with
       | [_,z]=>decide (z.kd=14)&&(match z.ks with | [p,_]=>decide (p.kd=16) | _=>false)
       | _=>false)
     | _=>false
   | _=>false
 | _=>false
def Aa_:List Rl->Bool
 | []=>true
 | _=>false
theorem Aa3:Aak AaV (AaA k1 60)=true:=by kernel_rfl
theorem Aa4:Y0 6 25 (AaA k2 60)=true:=by kernel_rfl
theorem Aa5:Y0 9 27 (AaA k3 60)=true:=by kernel_rfl
theorem Aa6:Aak AaW (AaA k4 60)=true:=by kernel_rfl
theorem Aa7:Y0 6 23 (AaA k5 60)=true:=by kernel_rfl
theorem Aa8:Y0 2 27 (AaA k6 60)=true:=by kernel_rfl
theorem Aa9:Aak Aa_ (AaA k7 60)=true:=by kernel_rfl
open Go.Proofs.Tryz
open Go.RowKit
def Has (w:World) (L:List (Nat×Nat×Value)):Prop:=∀p∈L,w.cell? ⟨p.1,p.2.1,none⟩=some p.2.2
theorem Has.bel {w w':World} {L:List (Nat×Nat×Value)} (h:Has w L) (a:Below w.heap.size w w'):Has w' L:=fun p b=>Aa (h p b) a
theorem Has.box {w w':World} {L M:List (Nat×Nat×Value)} (h:Has w L) (c:Below w.heap.size w w') (b:Has w' M) (u v:Value) (T:TypeId) :
  Has (w'.alloc (.cells #[u,v] T)) ((w'.heap.size,0,u)::(M++L)):=fun p a=>by
 rcases List.mem_cons.1 a with rfl | a
 ·rw[World.cell?_alloc_at _ _ _ _ rfl];rfl
 rcases List.mem_append.1 a with a | a
 ·exact Az (b p a) _
 exact Az (Aa (h p a) c) _
theorem Has.nil (w:World):Has w []:=fun _ h=>nomatch h
theorem Has.cons {w:World} {L:List (Nat×Nat×Value)} {b i:Nat} {v:Value} (c:w.cell? ⟨b,i,none⟩=some v) (h:Has w L):Has w ((b,i,v)::L):=fun p a=>by
 rcases List.mem_cons.1 a with rfl | a
 ·exact c
 exact h p a
theorem Aay (l:List UInt8) (a:l.length<=4096) (n:Nat) (i:n<=1000000) (w:World) (d:CG w) (g:∀k,k<l.length->(Aj (l.getD k 0)=true\/l.getD k 0=46)->Cv l k=true)
  (h:AaA l n ≠ .hush) (e:∀f c,AaA l n = .bad f c->f<=l.length):Calls prog 5 #[.string ⟨l.toArray⟩] w (ZX (W1 l) w (AaA l n)):=by
 have b:(⟨l.toArray⟩:ByteArray).size=l.length:=rfl;exact YH (nx:=X8 l (Z9 l)) (pl:=W1 l) ⟨l.toArray⟩ (by rw[b];exact a) (Za ⟨l.toArray⟩ (by rw[b];exact a) w d g) (YL ⟨l.toArray⟩ (by rw[b];exact a)) (Aa0 _ _) n i h e
theorem Aaz (l:List UInt8) (s:l.length<=4096) (f:Nat) (b:Int) (q:f<=l.length) (w:World) (n:CG w) (p:∀k,k<l.length->(Aj (l.getD k 0)=true\/l.getD k 0=46)->Cv l k=true)
  (h:Y0 f b (AaA l 60)=true) (i j:Nat) (t:W1 l f=(i,j)):Calls prog 5 #[.string ⟨l.toArray⟩] w fun e g=>Below w.heap.size w g/\e = .returned (.tuple #[.agg #[.slice none 0 0,.slice none 0 0],.complex .f64 i j,.int .i64 b]):=by
 have a:=Y1 h;have d:=Aay l s 60 (by decide) w n p (by rw[a];exact fun h=>nomatch h) (by rw[a];intro u e h;injection h with m v;rw[<- m];exact q);rw[a] at d;refine d.mono fun e g r=>?_;obtain⟨o,c⟩:=r;rw[t] at c;exact⟨o,c⟩
theorem AaJ (w:World) (a:CG w):Calls prog 5 #[.string ⟨k2.toArray⟩] w fun e b=>Below w.heap.size w b/\e = .returned (.tuple #[.agg #[.slice none 0 0,.slice none 0 0],.complex .f64 4607182418800017408 4619567317775286272,.int .i64 25]) :=
 Aaz k2 (by decide) 6 25 (by decide) w a (by decide) Aa4 _ _ (by decide +kernel)
theorem AaK (w:World) (a:CG w):Calls prog 5 #[.string ⟨k3.toArray⟩] w fun e b=>Below w.heap.size w b/\e = .returned (.tuple #[.agg #[.slice none 0 0,.slice none 0 0],.complex .f64 4607182418800017408 4621819117588971520,.int .i64 27]) :=
 Aaz k3 (by decide) 9 27 (by decide) w a (by decide) Aa5 _ _ (by decide +kernel)
theorem AaM (w:World) (a:CG w):Calls prog 5 #[.string ⟨k5.toArray⟩] w fun e b=>Below w.heap.size w b/\e = .returned (.tuple #[.agg #[.slice none 0 0,.slice none 0 0],.complex .f64 4607182418800017408 4619567317775286272,.int .i64 23]) :=
 Aaz k5 (by decide) 6 23 (by decide) w a (by decide) Aa7 _ _ (by decide +kernel)
theorem AaN (w:World) (a:CG w):Calls prog 5 #[.string ⟨k6.toArray⟩] w fun e b=>Below w.heap.size w b/\e = .returned (.tuple #[.agg #[.slice none 0 0,.slice none 0 0],.complex .f64 4607182418800017408 4613937818241073152,.int .i64 27]) :=
 Aaz k6 (by decide) 2 27 (by decide) w a (by decide) Aa8 _ _ (by decide +kernel)
theorem AaO (w:World) (g:CG w):Calls prog 5 #[.string ⟨k7.toArray⟩] w fun e f=>Below w.heap.size w f/\∃a c,e = .returned (.tuple #[.agg #[.slice a 0 c,.slice none 0 0],.complex .f64 0 0,.int .i64 0]):=by
 obtain⟨d,p,b,j⟩:=ZA Aa9;have h:=Aay k7 (by decide) 60 (by decide) w g (by decide) (by rw[b];exact fun h=>nomatch h) (by rw[b];exact fun _ _ h=>nomatch h);rw[b] at h;refine h.mono fun e f l=>?_;obtain⟨i,v,k,m⟩:=l;rcases d with _ | ⟨r,d⟩
 ·obtain⟨a,c,rfl⟩:=m.slice
  exact⟨i,a,c,k⟩
 cases j
theorem AaI (w:World) (s:CG w):Calls prog 5 #[.string ⟨k1.toArray⟩] w fun e f=>Below w.heap.size w f/\∃(b c:Nat) (j:Option Addr) (k:Nat),
  e = .returned (.tuple #[.agg #[.slice (some ⟨b,0,none⟩) 1 c,.slice none 0 0],.complex .f64 0 0,.int .i64 0])/\Has f [(b,0,.int .i64 7),(b,2,.slice j 2 k)]:=by
 obtain⟨n,p,g,a⟩:=ZA Aa3;have h:=Aay k1 (by decide) 60 (by decide) w s (by decide) (by rw[g];exact fun h=>nomatch h) (by rw[g];exact fun _ _ h=>nomatch h);rw[g] at h;refine h.mono fun e f x=>?_;obtain⟨t,v,u,y⟩:=x;rcases n with _ | ⟨r,_ | ⟨C,n⟩⟩
 ·cases a
 rotate_left
 ·cases a
 simp only[AaV,aC,decide_eq_true_eq] at a;obtain⟨o,d⟩:=a;obtain⟨b,c,A,z,B,rfl,i,q,l,-,m,-⟩:=y.at 0 (by simp);obtain rfl:r=A:=(by simpa using i);obtain⟨j,k,rfl⟩:=Am.slice (v:=z) (ks:=r.ps) q.1;generalize r.ps=ks at d m;rcases ks with _ | ⟨u1,_ | ⟨u2,_ | ⟨u3,ks⟩⟩⟩
 ·cases d
 ·cases d
 ·exact⟨t,b,c,j,k,u,(Has.nil f).cons m |>.cons (by rw[o] at l;exact l)⟩
 cases d
theorem AaL (w:World) (X:CG w):Calls prog 5 #[.string ⟨k4.toArray⟩] w fun e m=>Below w.heap.size w m/\∃(b c b1 A b2 B b3 C k D:Nat) (j1:Int) (x1 x2:List UInt8) (Q R S T i1 i2:Nat),
  e = .returned (.tuple #[.agg #[.slice (some ⟨b,0,none⟩) 1 c,.slice none 0 0],.complex .f64 0 0,.int .i64 0]) /\
  Has m [(b,3,.int .i64 j1),(b,4,.string ⟨x1.toArray⟩),(b,5,.float .f64 Q),(b,6,.slice (some ⟨b1,0,none⟩) 1 A),(b,7,.complex .f64 S i1),(b1,3,.slice (some ⟨b2,0,none⟩) 1 B),
   (b2,0,.int .i64 7),(b2,1,.string ⟨x2.toArray⟩),(b2,2,.float .f64 R),(b2,3,.slice (some ⟨b3,0,none⟩) 2 C),(b2,4,.complex .f64 T i2),(b3,5,.int .i64 14),(b3,8,.slice (some ⟨k,0,none⟩) 2 D),(k,0,.int .i64 16)]:=by
 obtain⟨G,p,n,a⟩:=ZA Aa6;have h:=Aay k4 (by decide) 60 (by decide) w X (by decide) (by rw[n];exact fun h=>nomatch h) (by rw[n];exact fun _ _ h=>nomatch h);rw[n] at h;refine h.mono fun e m hh=>?_;obtain⟨Y,v,Z,hr⟩:=hh;rcases G with _ | ⟨r,_ | ⟨r2,G⟩⟩
 ·cases a
 rotate_left
 ·cases a
 obtain⟨b,c,r',pv,kv,rfl,s,W,-,-,-,H,I,c5,J,K,-⟩:=hr.at 0 (by simp);obtain rfl:r=r':=(by simpa using s);have d:=W.2;dsimp only[AaW] at a d;generalize r.b.ks=ks at a d;rcases ks with _ | ⟨u,_ | ⟨u2,ks⟩⟩
 ·cases a
 rotate_left
 ·cases a
 obtain⟨b1,A,a0,rfl,t,f,g,-,-,-,L,-⟩:=d.cells 0 (by simp);obtain rfl:u=t:=(by simpa using f);dsimp only at a;generalize u.ks=ks at a g;rcases ks with _ | ⟨x,_ | ⟨u2,ks⟩⟩
 ·cases a
 rotate_left
 ·cases a
 obtain⟨b2,B,b0,rfl,t,f,i,E,M,N,O,P⟩:=g.cells 0 (by simp);obtain rfl:x=t:=(by simpa using f);simp only[aC,decide_eq_true_eq] at a;obtain⟨V,a⟩:=a;generalize x.ks=ks at a i;rcases ks with _ | ⟨l,_ | ⟨z,_ | ⟨u3,ks⟩⟩⟩
 ·cases a
 ·cases a
 rotate_left
 ·cases a
 obtain⟨b3,C,c0,rfl,t,f,j,F,-,-,U,-⟩:=i.cells 1 (by simp);obtain rfl:z=t:=(by simpa using f);simp only[aC,decide_eq_true_eq] at a;obtain⟨o,a⟩:=a;generalize z.ks=ks at a j;rcases ks with _ | ⟨y,_ | ⟨y2,_ | ⟨u3,ks⟩⟩⟩
 ·cases a
 ·cases a
 rotate_left
 ·cases a
 obtain⟨k,D,d0,rfl,t,f,-,k0,-⟩:=j.cells 0 (by simp);obtain rfl:y=t:=(by simpa using f);have q:y.kd=16:=(by simpa using a);rw[V] at E;rw[o] at F;rw[q] at k0;exact⟨Y,b,c,b1,A,b2,B,b3,C,k,D,_,_,_,_,_,_,_,_,_,Z,(Has.nil m).cons k0 |>.cons U |>.cons F |>.cons P |>.cons O |>.cons N |>.cons M |>.cons E |>.cons L |>.cons K |>.cons J |>.cons c5 |>.cons I |>.cons H⟩
set_option linter.unusedSimpArgs false in
theorem AaB (w:World) (i:CG w):Calls prog 3 #[] w fun e U=>e = .returned (.bool true)/\Below w.heap.size w U:=by
 have O:∀w,Sem.run prog (binOp .eql 26 (.complex .f64 4607182418800017408 4619567317775286272) (.complex .f64 4607182418800017408 4619567317775286272)) w = .ok (.bool true) w:=by intro w;kernel_rfl
 have P:∀w,Sem.run prog (binOp .eql 26 (.complex .f64 4607182418800017408 4621819117588971520) (.complex .f64 4607182418800017408 4621819117588971520)) w = .ok (.bool true) w:=by intro w;kernel_rfl
 have G:=aA (fun W (h:Below w.heap.size w W)=>AaI W (i.below h));have H:=aA (fun W (h:Below w.heap.size w W)=>AaJ W (i.below h));have I:=aA (fun W (h:Below w.heap.size w W)=>AaK W (i.below h));have J:=aA (fun W (h:Below w.heap.size w W)=>AaL W (i.below h));have K:=aA (fun W (h:Below w.heap.size w W)=>AaM W (i.below h));have L:=aA (fun W (h:Below w.heap.size w W)=>AaN W (i.below h));have M:=aA (fun W (h:Below w.heap.size w W)=>AaO W (i.below h));have N:=aA (fun W (h:Below w.heap.size w W)=>XJ W (i.below h));have a:=aA (Below.refl w.heap.size w)
 have g:=aA (Has.nil w);clear i
 go_in
 go_wp2_with (first | (go_at_call 5;(with_reducible refine(G.out _ a.out).mono ?_);rintro e D ⟨f,b,c,S,T,rfl,y⟩;replace g:=aA (g.out.box f y (.slice (some ⟨b,0,none⟩) 1 c) (.slice none 0 0) 25);replace a:=aA ((a.out.trans (f.mono a.out.size)).trans ((Ad D (.cells #[.slice (some ⟨b,0,none⟩) 1 c,.slice none 0 0] 25)).mono (aB a.out.size f.size)));clear f) | (go_at_call 5;(with_reducible refine(H.out _ a.out).mono ?_);rintro e V ⟨f,rfl⟩;replace g:=aA (g.out.box f (Has.nil _) (.slice none 0 0) (.slice none 0 0) 25);replace a:=aA ((a.out.trans (f.mono a.out.size)).trans ((Ad V (.cells #[.slice none 0 0,.slice none 0 0] 25)).mono (aB a.out.size f.size)));clear f) | (go_at_call 5;(with_reducible refine(I.out _ a.out).mono ?_);rintro e X ⟨f,rfl⟩;replace g:=aA (g.out.box f (Has.nil _) (.slice none 0 0) (.slice none 0 0) 25);replace a:=aA ((a.out.trans (f.mono a.out.size)).trans ((Ad X (.cells #[.slice none 0 0,.slice none 0 0] 25)).mono (aB a.out.size f.size)));clear f) | (go_at_call 5;(with_reducible refine(J.out _ a.out).mono ?_);rintro e E ⟨f,d,u,b1,o,b2,Q,b3,A,C,R,n,p,B,k,v,l,x,m,z,rfl,y⟩;replace g:=aA (g.out.box f y (.slice (some ⟨d,0,none⟩) 1 u) (.slice none 0 0) 25);replace a:=aA ((a.out.trans (f.mono a.out.size)).trans ((Ad E (.cells #[.slice (some ⟨d,0,none⟩) 1 u,.slice none 0 0] 25)).mono (aB a.out.size f.size)));clear f) | (go_at_call 5;(with_reducible refine(K.out _ a.out).mono ?_);rintro e Y ⟨f,rfl⟩;replace g:=aA (g.out.box f (Has.nil _) (.slice none 0 0) (.slice none 0 0) 25);replace a:=aA ((a.out.trans (f.mono a.out.size)).trans ((Ad Y (.cells #[.slice none 0 0,.slice none 0 0] 25)).mono (aB a.out.size f.size)));clear f) | (go_at_call 5;(with_reducible refine(L.out _ a.out).mono ?_);rintro e Z ⟨f,rfl⟩;replace g:=aA (g.out.box f (Has.nil _) (.slice none 0 0) (.slice none 0 0) 25);replace a:=aA ((a.out.trans (f.mono a.out.size)).trans ((Ad Z (.cells #[.slice none 0 0,.slice none 0 0] 25)).mono (aB a.out.size f.size)));clear f) | (go_at_call 5;(with_reducible refine(M.out _ a.out).mono ?_);rintro e F ⟨f,s,t,rfl⟩;replace g:=aA (g.out.box f (Has.nil _) (.slice s 0 t) (.slice none 0 0) 25);replace a:=aA ((a.out.trans (f.mono a.out.size)).trans ((Ad F (.cells #[.slice s 0 t,.slice none 0 0] 25)).mono (aB a.out.size f.size)));clear f) | (go_at_call 6;(with_reducible refine(N.out _ a.out).mono ?_);rintro e q ⟨rfl,f⟩;replace g:=aA (g.out.bel f);replace a:=aA (a.out.trans (f.mono a.out.size));clear f;have j:=aA (g.out.bel (Ad q (.cells #[.int .i64 n,.string ⟨p.toArray⟩,.float .f64 k,.slice (some ⟨b1,0,none⟩) 1 o,.complex .f64 l m] 34)));have r:=aA (j.out.bel (Ad (q.alloc (.cells #[.int .i64 n,.string ⟨p.toArray⟩,.float .f64 k,.slice (some ⟨b1,0,none⟩) 1 o,.complex .f64 l m] 34)) (.cells #[.int .i64 7,.string ⟨B.toArray⟩,.float .f64 v,.slice (some ⟨b3,0,none⟩) 2 A,.complex .f64 x z] 34)));have p0:=g.out (D.heap.size,0,.slice (some ⟨b,0,none⟩) 1 c) (by simp);have p1:=g.out (b,0,.int .i64 7) (by simp);have p2:=g.out (b,2,.slice S 2 T) (by simp);have p3:=g.out (E.heap.size,0,.slice (some ⟨d,0,none⟩) 1 u) (by simp);have p4:=g.out (d,3,.int .i64 n) (by simp);have p5:=g.out (d,4,.string ⟨p.toArray⟩) (by simp);have p6:=g.out (d,5,.float .f64 k) (by simp);have p7:=g.out (d,6,.slice (some ⟨b1,0,none⟩) 1 o) (by simp);have p8:=g.out (d,7,.complex .f64 l m) (by simp);have q0:=j.out (b1,3,.slice (some ⟨b2,0,none⟩) 1 Q) (by simp);have q1:=j.out (b2,0,.int .i64 7) (by simp);have q2:=j.out (b2,1,.string ⟨B.toArray⟩) (by simp);have q3:=j.out (b2,2,.float .f64 v) (by simp);have q4:=j.out (b2,3,.slice (some ⟨b3,0,none⟩) 2 A) (by simp);have q5:=j.out (b2,4,.complex .f64 x z) (by simp);have r0:=r.out (b3,5,.int .i64 14) (by simp);have r1:=r.out (b3,8,.slice (some ⟨C,0,none⟩) 2 R) (by simp);have r2:=r.out (C,0,.int .i64 16) (by simp);have r3:=r.out (F.heap.size,0,.slice s 0 t) (by simp)))
 go_ret;exact⟨rfl,(a.out.trans ((Ad q (.cells #[.int .i64 n,.string ⟨p.toArray⟩,.float .f64 k,.slice (some ⟨b1,0,none⟩) 1 o,.complex .f64 l m] 34)).mono a.out.size)).trans ((Ad (q.alloc (.cells #[.int .i64 n,.string ⟨p.toArray⟩,.float .f64 k,.slice (some ⟨b1,0,none⟩) 1 o,.complex .f64 l m] 34)) (.cells #[.int .i64 7,.string ⟨B.toArray⟩,.float .f64 v,.slice (some ⟨b3,0,none⟩) 2 A,.complex .f64 x z] 34)).mono (aB a.out.size (Ad q (.cells #[.int .i64 n,.string ⟨p.toArray⟩,.float .f64 k,.slice (some ⟨b1,0,none⟩) 1 o,.complex .f64 l m] 34)).size))⟩
end Go.Proofs.YtjolfpcpcaocmaaGreatDoor
