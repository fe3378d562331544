/- Nk -/
import Derived.Test.YtipfpohlnhmlpaaGreatDoorNh
set_option maxRecDepth 100000
set_option maxHeartbeats 4000000
open Nat renaming le_trans->aA
open Bool renaming false_and->aC,and_false->aD
namespace Go.Proofs.YtipfpohlnhmlpaaGreatDoor
open Go.Proofs.Tryz
open Go.RowKit
theorem AY {f:FuncId} {args:Array Value} {W:World} {b c:Bool} (h:Calls prog f args W fun e a=>e = .returned (.bool b)/\Below W.heap.size W a) (e:c=b) :
 Calls prog f args W fun e a=>e = .returned (.bool c)/\Below W.heap.size W a:=e▸h
theorem BE (N:Aw) (a:∀x,N.bare x=Be x) {d:Nat} {k:Int} {nm:List UInt8} {x:Nat} {z:Nat×Nat} {ks:List Tr} (c:d<=200) (f:Be x=true) (e:nm=[]\/k=35\/k=41) :
  Av N d (.mk k nm x z ks)=(
   if k=30 then Ha N (d+1) ks
   else if k=31 then (decide (ks.length=2)||decide (ks.length=3)&&Dm ((B4 N (d+1) ks).getD 2 (0,false)))&&((ks.map (Bu N (d+1))).getD 0 false&&Dm ((B4 N (d+1) ks).getD 1 (0,false)))
   else if k=32 then decide (ks.length=2)&&((ks.map (Bu N (d+1))).getD 0 false&&Dm ((B4 N (d+1) ks).getD 1 (0,false)))
   else if k=33 then decide (ks.length=2)&&(Dm ((B4 N (d+1) ks).getD 0 (0,false))&&(ks.map (Bu N (d+1))).getD 1 false)
   else if k=34 then decide (ks.length=4)&&(((ks.map (CK N)).getD 0 false||Ie ((B4 N (d+1) ks).getD 0 (0,false)))&&(((ks.map (CK N)).getD 1 false||(ks.map (Bu N (d+1))).getD 1 false)&&(((ks.map (CK N)).getD 2 false||Ie ((B4 N (d+1) ks).getD 2 (0,false)))&&Dm ((B4 N (d+1) ks).getD 3 (0,false)))))
   else if k=35 then N.name nm&&(decide (ks.length=2)&&(decide (Fg ks=4)&&((ks.map (Bu N (d+1))).getD 0 false&&Dm ((B4 N (d+1) ks).getD 1 (0,false)))))
   else if k=36\/k=37\/k=38 then decide (ks.length=0)
   else if k=39\/k=40 then decide (ks.length<=1)&&A5 N (d+1) ks
   else if k=41 then N.name nm&&A5 N (d+1) ks
   else if k=42 then A5 N (d+1) ks
   else if k=43 then decide (1<=ks.length)&&A5 N (d+1) ks
   else if k=44 then decide (ks.length=1)&&A5 N (d+1) ks
   else false):=by
 have b:(decide (nm=[])||decide (k=35\/k=41))=true:=by
  rcases e with h | h
  ·rw[decide_eq_true h];rfl
  rw[decide_eq_true h,Bool.or_true]
 rw[Av,a,f,b,decide_eq_true c];rfl
theorem MK (N:Aw) (_hNb:∀x,N.bare x=Be x) {d:Nat} {t:Tr} (a:¬ d<=200):Av N d t=false:=by
 obtain⟨k,nm,x,z,ks⟩:=t;rw[Av,decide_eq_false a,aC]
theorem Jp (N:Aw) (a:∀x,N.bare x=Be x) {d:Nat} {k:Int} {nm:List UInt8} {x:Nat} {z:Nat×Nat} {ks:List Tr} (b:Be x=false):Av N d (.mk k nm x z ks)=false:=by
 rw[Av,a,b,aC,aD]
theorem Kx (N:Aw) (_hNb:∀x,N.bare x=Be x) {d:Nat} {k:Int} {nm:List UInt8} {x:Nat} {z:Nat×Nat} {ks:List Tr} (c:¬ nm=[]) (a:¬ k=35) (b:¬ k=41):Av N d (.mk k nm x z ks)=false:=by
 rw[Av,decide_eq_false c,decide_eq_false (p:=k=35\/k=41) (fun h=>h.elim a b),Bool.false_or,aC,aD,aD]
theorem DX (t:Tr):t.ks.length<=t.big:=by
 obtain⟨k,nm,x,z,ks⟩:=t;rw[CD]
 have:∀l:List Tr,l.length<=Bh l:=by
  intro l
  induction l with
  | nil=>simp
  | cons t b a=>rw[AU,List.length_cons];omega
 have:=this ks;show ks.length<=_;omega
theorem SU (Q:List UInt8->Prop) (N:Aw) (I:∀x,N.bare x=Be x) (o:World) (n d:Nat) (x:Nat) (z:Nat×Nat) (c b:Tr) (a:Option Addr) (cap:Nat) (W:World) (hq:∀t∈[c,b],Tr.All (FW Q) t) (k:DN [c,b]<=n) (X:Bh [c,b]<=8796093022208)
  (Z:Am 60 W (fun _=>True) [c,b] (.slice a 2 cap)) (p:Below o.heap.size o W) (Y:d<=200) (hx:Be x=true) (hE:CS Q N o n) (_hS:Ee Q N o n) (hB:Xn Q N o n) :
  Calls prog 75 #[.agg #[.int .i64 31,.string ⟨[].toArray⟩,.float .f64 x,.slice a 2 cap,.complex .f64 z.1 z.2],.int .i64 d] W fun e R=>e = .returned (.bool (Av N d (.mk 31 [] x z [c,b])))/\Below W.heap.size W R:=by
 have hb:∀g,Calls prog 74 #[.agg #[.int .i64 31,.string ⟨[].toArray⟩,.float .f64 x,.slice a 2 cap,.complex .f64 z.1 z.2]] g fun e R=>e = .returned (.bool true)/\Below g.heap.size g R:=fun g=>hx▸Ct (.mk 31 [] x z [c,b]) _ g;obtain⟨q,U,l,L,q0,J,i,w,y,A,B,C⟩:=Z.cells 0 (by simp);obtain rfl:c=q0:=(by simpa using J);obtain⟨b1,V,m,M,q1,K,j,D,E,F,G,H⟩:=Z.cells 1 (by simp);obtain rfl:b=q1:=(by simpa using K);obtain⟨rfl⟩:a=some ⟨q,0,none⟩:=(by injection L);obtain rfl:q=b1:=by injection M with h _ _;injection h with h;injection h with h _ _
 have O:c∈[c,b]:=(by simp);have S:=aA (A9 O) k;have r:c.big<=8796093022208:=by have:=Ax O;omega
 have v:CA 73 #[nv c.kd c.nm c.x l c.z.1 c.z.2,.int .i64 ((d:Int)+1)] W (Bu N (d+1) c):=fun g f=>hE c (d+1) l g (hq c O) S (by omega) r (i.bel f) (p.trans (f.mono p.size));have P:b∈[c,b]:=(by simp);have T:=aA (A9 P) k;have s:b.big<=8796093022208:=by have:=Ax P;omega
 have u:CA 52 #[nv b.kd b.nm b.x m b.z.1 b.z.2,.int .i64 ((d:Int)+1)] W (decide (b.kd=30)&&Av N (d+1) b):=fun g f=>hB b (d+1) m g (hq b P) T (by omega) s (j.bel f) (p.trans (f.mono p.size));refine AY (Ut x q cap z d W Y _ _ _ _ _ _ ⟨w,y,A,B,C⟩ _ _ _ _ _ _ ⟨D,E,F,G,H⟩ _ _ hb v u) ?_;rw[BE N I Y hx (by simp)];simp[Bo,Dm]
theorem SV (Q:List UInt8->Prop) (N:Aw) (U:∀x,N.bare x=Be x) (s:World) (n d:Nat) (x:Nat) (z:Nat×Nat) (f b c:Tr) (a:Option Addr) (cap:Nat) (W:World) (X:∀t∈[f,b,c],Tr.All (FW Q) t) (j:DN [f,b,c]<=n) (l0:Bh [f,b,c]<=8796093022208)
  (V:Am 60 W (fun _=>True) [f,b,c] (.slice a 3 cap)) (k:Below s.heap.size s W) (hd:d<=200) (hx:Be x=true) (hE:CS Q N s n) (_hS:Ee Q N s n) (hB:Xn Q N s n) :
  Calls prog 75 #[.agg #[.int .i64 31,.string ⟨[].toArray⟩,.float .f64 x,.slice a 3 cap,.complex .f64 z.1 z.2],.int .i64 d] W fun e w'=>e = .returned (.bool (Av N d (.mk 31 [] x z [f,b,c])))/\Below W.heap.size W w':=by
 have hb:∀i,Calls prog 74 #[.agg #[.int .i64 31,.string ⟨[].toArray⟩,.float .f64 x,.slice a 3 cap,.complex .f64 z.1 z.2]] i fun e w'=>e = .returned (.bool true)/\Below i.heap.size i w':=fun i=>hx▸Ct (.mk 31 [] x z [f,b,c]) _ i;obtain⟨u,i0,p,c0,q0,Y,l,D,E,F,G,H⟩:=V.cells 0 (by simp);obtain rfl:f=q0:=(by simpa using Y);obtain⟨b1,j0,q,d0,q1,Z,m,I,J,K,L,M⟩:=V.cells 1 (by simp);obtain rfl:b=q1:=(by simpa using Z);obtain⟨b2,k0,r,e0,q2,a0,o,O,P,R,S,T⟩:=V.cells 2 (by simp);obtain rfl:c=q2:=(by simpa using a0);obtain⟨rfl⟩:a=some ⟨u,0,none⟩:=by injection c0
 obtain rfl:u=b1:=by injection d0 with h _ _;injection h with h;injection h with h _ _
 obtain rfl:u=b2:=by injection e0 with h _ _;injection h with h;injection h with h _ _
 have m0:f∈[f,b,c]:=(by simp);have f0:=aA (A9 m0) j;have v:f.big<=8796093022208:=by have:=Ax m0;omega
 have C:CA 73 #[nv f.kd f.nm f.x p f.z.1 f.z.2,.int .i64 ((d:Int)+1)] W (Bu N (d+1) f):=fun i g=>hE f (d+1) p i (X f m0) f0 (by omega) v (l.bel g) (k.trans (g.mono k.size));have m1:b∈[f,b,c]:=(by simp);have g0:=aA (A9 m1) j;have w:b.big<=8796093022208:=by have:=Ax m1;omega
 have A:CA 52 #[nv b.kd b.nm b.x q b.z.1 b.z.2,.int .i64 ((d:Int)+1)] W (decide (b.kd=30)&&Av N (d+1) b):=fun i g=>hB b (d+1) q i (X b m1) g0 (by omega) w (m.bel g) (k.trans (g.mono k.size));have m2:c∈[f,b,c]:=(by simp);have h0:=aA (A9 m2) j;have y:c.big<=8796093022208:=by have:=Ax m2;omega
 have B:CA 52 #[nv c.kd c.nm c.x r c.z.1 c.z.2,.int .i64 ((d:Int)+1)] W (decide (c.kd=30)&&Av N (d+1) c):=fun i g=>hB c (d+1) r i (X c m2) h0 (by omega) y (o.bel g) (k.trans (g.mono k.size));refine AY (Uu x u cap z d W hd _ _ _ _ _ _ ⟨D,E,F,G,H⟩ _ _ _ _ _ _ ⟨I,J,K,L,M⟩ _ _ _ _ _ _ ⟨O,P,R,S,T⟩ _ _ _ hb B C A) ?_;rw[BE N U hd hx (by simp)];simp[Bo,Dm]
theorem SW (Q:List UInt8->Prop) (N:Aw) (I:∀x,N.bare x=Be x) (o:World) (n d:Nat) (x:Nat) (z:Nat×Nat) (c b:Tr) (a:Option Addr) (cap:Nat) (W:World) (hq:∀t∈[c,b],Tr.All (FW Q) t) (k:DN [c,b]<=n) (X:Bh [c,b]<=8796093022208)
  (Z:Am 60 W (fun _=>True) [c,b] (.slice a 2 cap)) (p:Below o.heap.size o W) (Y:d<=200) (hx:Be x=true) (hE:CS Q N o n) (_hS:Ee Q N o n) (hB:Xn Q N o n) :
  Calls prog 75 #[.agg #[.int .i64 32,.string ⟨[].toArray⟩,.float .f64 x,.slice a 2 cap,.complex .f64 z.1 z.2],.int .i64 d] W fun e R=>e = .returned (.bool (Av N d (.mk 32 [] x z [c,b])))/\Below W.heap.size W R:=by
 have hb:∀g,Calls prog 74 #[.agg #[.int .i64 32,.string ⟨[].toArray⟩,.float .f64 x,.slice a 2 cap,.complex .f64 z.1 z.2]] g fun e R=>e = .returned (.bool true)/\Below g.heap.size g R:=fun g=>hx▸Ct (.mk 32 [] x z [c,b]) _ g;obtain⟨q,U,l,L,q0,J,i,w,y,A,B,C⟩:=Z.cells 0 (by simp);obtain rfl:c=q0:=(by simpa using J);obtain⟨b1,V,m,M,q1,K,j,D,E,F,G,H⟩:=Z.cells 1 (by simp);obtain rfl:b=q1:=(by simpa using K);obtain⟨rfl⟩:a=some ⟨q,0,none⟩:=(by injection L);obtain rfl:q=b1:=by injection M with h _ _;injection h with h;injection h with h _ _
 have O:c∈[c,b]:=(by simp);have S:=aA (A9 O) k;have r:c.big<=8796093022208:=by have:=Ax O;omega
 have v:CA 73 #[nv c.kd c.nm c.x l c.z.1 c.z.2,.int .i64 ((d:Int)+1)] W (Bu N (d+1) c):=fun g f=>hE c (d+1) l g (hq c O) S (by omega) r (i.bel f) (p.trans (f.mono p.size));have P:b∈[c,b]:=(by simp);have T:=aA (A9 P) k;have s:b.big<=8796093022208:=by have:=Ax P;omega
 have u:CA 52 #[nv b.kd b.nm b.x m b.z.1 b.z.2,.int .i64 ((d:Int)+1)] W (decide (b.kd=30)&&Av N (d+1) b):=fun g f=>hB b (d+1) m g (hq b P) T (by omega) s (j.bel f) (p.trans (f.mono p.size));refine AY (Wx x q cap z d W Y _ _ _ _ _ _ ⟨w,y,A,B,C⟩ _ _ _ _ _ _ ⟨D,E,F,G,H⟩ _ _ hb v u) ?_;rw[BE N I Y hx (by simp)];simp[Bo,Dm]
theorem SY (Q:List UInt8->Prop) (N:Aw) (I:∀x,N.bare x=Be x) (o:World) (n d:Nat) (x:Nat) (z:Nat×Nat) (b c:Tr) (a:Option Addr) (cap:Nat) (W:World) (hq:∀t∈[b,c],Tr.All (FW Q) t) (k:DN [b,c]<=n) (X:Bh [b,c]<=8796093022208)
  (Z:Am 60 W (fun _=>True) [b,c] (.slice a 2 cap)) (p:Below o.heap.size o W) (Y:d<=200) (hx:Be x=true) (hE:CS Q N o n) (_hS:Ee Q N o n) (hB:Xn Q N o n) :
  Calls prog 75 #[.agg #[.int .i64 33,.string ⟨[].toArray⟩,.float .f64 x,.slice a 2 cap,.complex .f64 z.1 z.2],.int .i64 d] W fun e R=>e = .returned (.bool (Av N d (.mk 33 [] x z [b,c])))/\Below W.heap.size W R:=by
 have hb:∀g,Calls prog 74 #[.agg #[.int .i64 33,.string ⟨[].toArray⟩,.float .f64 x,.slice a 2 cap,.complex .f64 z.1 z.2]] g fun e R=>e = .returned (.bool true)/\Below g.heap.size g R:=fun g=>hx▸Ct (.mk 33 [] x z [b,c]) _ g;obtain⟨q,U,l,L,q0,J,i,w,y,A,B,C⟩:=Z.cells 0 (by simp);obtain rfl:b=q0:=(by simpa using J);obtain⟨b1,V,m,M,q1,K,j,D,E,F,G,H⟩:=Z.cells 1 (by simp);obtain rfl:c=q1:=(by simpa using K);obtain⟨rfl⟩:a=some ⟨q,0,none⟩:=(by injection L);obtain rfl:q=b1:=by injection M with h _ _;injection h with h;injection h with h _ _
 have O:b∈[b,c]:=(by simp);have S:=aA (A9 O) k;have r:b.big<=8796093022208:=by have:=Ax O;omega
 have u:CA 52 #[nv b.kd b.nm b.x l b.z.1 b.z.2,.int .i64 ((d:Int)+1)] W (decide (b.kd=30)&&Av N (d+1) b):=fun g f=>hB b (d+1) l g (hq b O) S (by omega) r (i.bel f) (p.trans (f.mono p.size));have P:c∈[b,c]:=(by simp);have T:=aA (A9 P) k;have s:c.big<=8796093022208:=by have:=Ax P;omega
 have v:CA 73 #[nv c.kd c.nm c.x m c.z.1 c.z.2,.int .i64 ((d:Int)+1)] W (Bu N (d+1) c):=fun g f=>hE c (d+1) m g (hq c P) T (by omega) s (j.bel f) (p.trans (f.mono p.size));refine AY (Wy x q cap z d W Y _ _ _ _ _ _ ⟨w,y,A,B,C⟩ _ _ _ _ _ _ ⟨D,E,F,G,H⟩ _ _ hb u v) ?_;rw[BE N I Y hx (by simp)];simp[Bo,Dm]
theorem SZ (Q:List UInt8->Prop) (N:Aw) (m:∀x,N.bare x=Be x) (D:World) (n d:Nat) (x:Nat) (z:Nat×Nat) (b g c j:Tr) (a:Option Addr) (cap:Nat) (W:World) (F:∀t∈[b,g,c,j],Tr.All (FW Q) t) (o:DN [b,g,c,j]<=n) (a2:Bh [b,g,c,j]<=8796093022208)
  (E:Am 60 W (fun _=>True) [b,g,c,j] (.slice a 4 cap)) (p:Below D.heap.size D W) (hd:d<=200) (hx:Be x=true) (hE:CS Q N D n) (hS:Ee Q N D n) (hB:Xn Q N D n) :
  Calls prog 75 #[.agg #[.int .i64 34,.string ⟨[].toArray⟩,.float .f64 x,.slice a 4 cap,.complex .f64 z.1 z.2],.int .i64 d] W fun e w'=>e = .returned (.bool (Av N d (.mk 34 [] x z [b,g,c,j])))/\Below W.heap.size W w':=by
 have hb:∀i,Calls prog 74 #[.agg #[.int .i64 34,.string ⟨[].toArray⟩,.float .f64 x,.slice a 4 cap,.complex .f64 z.1 z.2]] i fun e w'=>e = .returned (.bool true)/\Below i.heap.size i w':=fun i=>hx▸Ct (.mk 34 [] x z [b,g,c,j]) _ i;obtain⟨v,w1,k,e1,q0,z0,q,S,T,U,V,X⟩:=E.cells 0 (by simp);obtain rfl:b=q0:=(by simpa using z0);obtain⟨b1,x1,u,f1,q1,a1,r,Y,Z,a0,c0,d0⟩:=E.cells 1 (by simp);obtain rfl:g=q1:=(by simpa using a1);obtain⟨b2,y1,l,g1,q2,c1,s,e0,f0,g0,h0,i0⟩:=E.cells 2 (by simp);obtain rfl:c=q2:=(by simpa using c1);obtain⟨b3,z1,C,h1,q3,d1,B,j0,k0,l0,n0,o0⟩:=E.cells 3 (by simp)
 obtain rfl:j=q3:=(by simpa using d1);obtain⟨rfl⟩:a=some ⟨v,0,none⟩:=(by injection e1);obtain rfl:v=b1:=by injection f1 with h _ _;injection h with h;injection h with h _ _
 obtain rfl:v=b2:=by injection g1 with h _ _;injection h with h;injection h with h _ _
 obtain rfl:v=b3:=by injection h1 with h _ _;injection h with h;injection h with h _ _
 have m0:b∈[b,g,c,j]:=(by simp);have p1:=aA (A9 m0) o;have w:b.big<=8796093022208:=by have:=Ax m0;omega
 obtain⟨i1,l1,v0⟩:=q.slice;have p0:b.ks.length<=8796093022208:=aA (DX b) w;have L:CA 92 #[nv b.kd b.nm b.x k b.z.1 b.z.2] W (CK N b):=fun i f=>by rw[v0];exact IS N m b i1 l1 i p0
 have J:CA 93 #[nv b.kd b.nm b.x k b.z.1 b.z.2] W (decide (36<=b.kd/\b.kd<=44)):=fun i f=>Gt b k i;have P:CA 75 #[nv b.kd b.nm b.x k b.z.1 b.z.2,.int .i64 ((d:Int)+1)] W (Av N (d+1) b):=fun i f=>hS b (d+1) k i (F b m0) p1 (by omega) w (q.bel f) (p.trans (f.mono p.size));have m1:g∈[b,g,c,j]:=(by simp);have r1:=aA (A9 m1) o;have y:g.big<=8796093022208:=by have:=Ax m1;omega
 obtain⟨j1,n1,x0⟩:=r.slice;have r0:g.ks.length<=8796093022208:=aA (DX g) y;have M:CA 92 #[nv g.kd g.nm g.x u g.z.1 g.z.2] W (CK N g):=fun i f=>by rw[x0];exact IS N m g j1 n1 i r0
 have I:CA 73 #[nv g.kd g.nm g.x u g.z.1 g.z.2,.int .i64 ((d:Int)+1)] W (Bu N (d+1) g):=fun i f=>hE g (d+1) u i (F g m1) r1 (by omega) y (r.bel f) (p.trans (f.mono p.size));have m2:c∈[b,g,c,j]:=(by simp);have s1:=aA (A9 m2) o;have A:c.big<=8796093022208:=by have:=Ax m2;omega
 obtain⟨k1,o1,y0⟩:=s.slice;have s0:c.ks.length<=8796093022208:=aA (DX c) A;have O:CA 92 #[nv c.kd c.nm c.x l c.z.1 c.z.2] W (CK N c):=fun i f=>by rw[y0];exact IS N m c k1 o1 i s0
 have K:CA 93 #[nv c.kd c.nm c.x l c.z.1 c.z.2] W (decide (36<=c.kd/\c.kd<=44)):=fun i f=>Gt c l i;have R:CA 75 #[nv c.kd c.nm c.x l c.z.1 c.z.2,.int .i64 ((d:Int)+1)] W (Av N (d+1) c):=fun i f=>hS c (d+1) l i (F c m2) s1 (by omega) A (s.bel f) (p.trans (f.mono p.size));have m3:j∈[b,g,c,j]:=(by simp);have v1:=aA (A9 m3) o;have G:j.big<=8796093022208:=by have:=Ax m3;omega
 have H:CA 52 #[nv j.kd j.nm j.x C j.z.1 j.z.2,.int .i64 ((d:Int)+1)] W (decide (j.kd=30)&&Av N (d+1) j):=fun i f=>hB j (d+1) C i (F j m3) v1 (by omega) G (B.bel f) (p.trans (f.mono p.size));refine AY (Wz x v cap z d W hd _ _ _ _ _ _ ⟨S,T,U,V,X⟩ _ _ _ _ _ _ ⟨Y,Z,a0,c0,d0⟩ _ _ _ _ _ _ ⟨e0,f0,g0,h0,i0⟩ _ _ _ _ _ _ ⟨j0,k0,l0,n0,o0⟩ _ _ _ _ _ _ _ _ _ hb L J P M I O K R H) ?_;rw[BE N m hd hx (by simp)];simp[Bo,Dm,Ie]
theorem S0 (Q:List UInt8->Prop) (N:Aw) (j:∀x,N.bare x=Be x) (v:World) (n d:Nat) (nm:List UInt8) (x:Nat) (z:Nat×Nat) (b c:Tr) (a:Option Addr) (cap:Nat) (W:World) (o:∀f,Calls prog 53 #[.string ⟨nm.toArray⟩] f fun e l=>e = .returned (.bool (N.name nm))/\f=l) (hq:∀t∈[b,c],Tr.All (FW Q) t) (r:DN [b,c]<=n) (e0:Bh [b,c]<=8796093022208)
  (hk:Am 60 W (fun _=>True) [b,c] (.slice a 2 cap)) (A:Below v.heap.size v W) (k:d<=200) (B:Be x=true) (hE:CS Q N v n) (_hS:Ee Q N v n) (hB:Xn Q N v n) :
  Calls prog 75 #[.agg #[.int .i64 35,.string ⟨nm.toArray⟩,.float .f64 x,.slice a 2 cap,.complex .f64 z.1 z.2],.int .i64 d] W fun e l=>e = .returned (.bool (Av N d (.mk 35 nm x z [b,c])))/\Below W.heap.size W l:=by
 have R:∀f,Calls prog 74 #[.agg #[.int .i64 35,.string ⟨nm.toArray⟩,.float .f64 x,.slice a 2 cap,.complex .f64 z.1 z.2]] f fun e l=>e = .returned (.bool true)/\Below f.heap.size f l:=fun f=>B▸Ct (.mk 35 nm x z [b,c]) _ f;obtain⟨w,c0,s,U,q0,S,p,m,G,H,I,J⟩:=hk.cells 0 (by simp);obtain rfl:b=q0:=(by simpa using S);obtain⟨b1,d0,u,V,q1,T,q,K,L,M,O,P⟩:=hk.cells 1 (by simp);obtain rfl:c=q1:=(by simpa using T);obtain⟨rfl⟩:a=some ⟨w,0,none⟩:=(by injection U);obtain rfl:w=b1:=by injection V with h _ _;injection h with h;injection h with h _ _
 have X:b∈[b,c]:=(by simp);have Z:=aA (A9 X) r;have C:b.big<=8796093022208:=by have:=Ax X;omega
 have F:CA 73 #[nv b.kd b.nm b.x s b.z.1 b.z.2,.int .i64 ((d:Int)+1)] W (Bu N (d+1) b):=fun f g=>hE b (d+1) s f (hq b X) Z (by omega) C (p.bel g) (A.trans (g.mono A.size));have Y:c∈[b,c]:=(by simp);have a0:=aA (A9 Y) r;have D:c.big<=8796093022208:=by have:=Ax Y;omega
 have E:CA 52 #[nv c.kd c.nm c.x u c.z.1 c.z.2,.int .i64 ((d:Int)+1)] W (decide (c.kd=30)&&Av N (d+1) c):=fun f g=>hB c (d+1) u f (hq c Y) a0 (by omega) D (q.bel g) (A.trans (g.mono A.size));rcases i:N.name nm with _ | _
 ·rw[i] at o
  refine AY (O0 nm x _ 2 cap z d W (by omega) k R (fun f _=>(o f).mono fun e l ⟨h1,h2⟩=>⟨h1,h2▸Below.refl _ _⟩)) ?_;rw[BE N j k B (by simp),i];simp
 rw[i] at o;by_cases y:b.kd=4
 ·refine AY (WA x w cap z d W k nm _ _ _ _ _ _ ⟨m,G,H,I,J⟩ _ _ _ _ _ _ ⟨K,L,M,O,P⟩ _ _ R F E o y) ?_
  rw[BE N j k B (by simp),i];simp[Bo,Dm,Fg,y]
 refine AY (UB nm x w cap z d W k _ m y R o) ?_;rw[BE N j k B (by simp),i];simp[Bo,Dm,Fg,y]
theorem Jq (Q:List UInt8->Prop) (N:Aw) (w:World) (g:∀x,N.bare x=Be x) (d0:∀nm,N.name nm=BM nm) (n:Nat) (hE:CS Q N w n) (hS:Ee Q N w n) (hB:Xn Q N w n) (b0:Xn Q N w (n+1)):Ee Q N w (n+1):=by
 intro t d kv W hq c0 hd p hk G;by_cases K:t.kd=30
 ·by_cases b:d<=200
  ·have j:=b0 t d kv
   obtain⟨k,nm,x,z,ks⟩:=t;obtain rfl:k=30:=K;have m:Am 60 W (fun _=>True) ks kv:=hk;obtain⟨a,f,C⟩:=m.slice;subst C;have o:ks.length<=8796093022208:=aA (DX (.mk 30 nm x z ks)) p;have l:∀h,Calls prog 74 #[.agg #[.int .i64 30,.string ⟨nm.toArray⟩,.float .f64 x,.slice a ks.length f,.complex .f64 z.1 z.2]] h fun e F=>e = .returned (.bool (Be x))/\Below h.heap.size h F:=fun h=>Ct (.mk 30 nm x z ks) _ h;rcases i:Be x with _ | _
   ·rw[i] at l
    exact AY (Ky 30 nm x a ks.length f z d W o b l) (Jp N g i)
   rw[i] at l
   cases nm with
   | cons c r=>exact AY (MM 30 c r x a ks.length f z d W o b l (by decide) (by decide)) (Kx N g (by simp) (by decide) (by decide))
   | nil =>
     refine AY (Ww _ x a ks.length f z d W o b l fun h B=>j h hq c0 hd p (hk.bel B) (G.trans (B.mono G.size))) ?_;rw[decide_eq_true (show (Tr.mk 30 [] x z ks).kd=30 from rfl),Bool.true_and]
  obtain⟨k,nm,x,z,ks⟩:=t;have m:Am 60 W (fun _=>True) ks kv:=hk;obtain⟨a,f,C⟩:=m.slice;subst C;exact AY (O4 k nm x a ks.length f z d W (aA (DX (.mk k nm x z ks)) p) b) (MK N g b)
 obtain⟨k,nm,x,z,ks⟩:=t;have I:¬ k=30:=K;have m:Am 60 W (fun _=>True) ks kv:=hk;obtain⟨a,f,C⟩:=m.slice;subst C;have o:ks.length<=8796093022208:=aA (DX (.mk k nm x z ks)) p;have v:DN ks<=n:=by rw[Tr.wt_mk] at c0;omega
 have hbg:Bh ks<=8796093022208:=by rw[CD] at p;omega
 have f0:nm.length<=8796093022208:=by rw[CD] at p;omega
 have s:∀u∈ks,Tr.All (FW Q) u:=fun u hu=>hq.kid hu;clear K hk hq p b0;show Calls prog 75 #[.agg #[.int .i64 k,.string ⟨nm.toArray⟩,.float .f64 x,.slice a ks.length f,.complex .f64 z.1 z.2],.int .i64 d] W _;by_cases b:d<=200
 case neg=>exact AY (O4 k nm x a ks.length f z d W o b) (MK N g b)
 have l:∀h,Calls prog 74 #[.agg #[.int .i64 k,.string ⟨nm.toArray⟩,.float .f64 x,.slice a ks.length f,.complex .f64 z.1 z.2]] h fun e F=>e = .returned (.bool (Be x))/\Below h.heap.size h F:=fun h=>Ct (.mk k nm x z ks) _ h;have H:∀h,Calls prog 53 #[.string ⟨nm.toArray⟩] h fun e F=>e = .returned (.bool (N.name nm))/\h=F:=fun h=>by rw[d0];exact CM ⟨nm.toArray⟩ h (by simp only[ByteArray.size,List.size_toArray];omega)
 have hA:d<=200->∀h,Below W.heap.size W h->Calls prog 51 #[.slice a ks.length f,.int .i64 ((d:Int)+1)] h fun e F=>e = .returned (.bool (A5 N (d+1) ks))/\Below h.heap.size h F :=
  fun _ h B=>EF Q N w n hE ks (d+1) _ h s v (by omega) hbg (m.bel B) (G.trans (B.mono G.size))
 rcases i:Be x with _ | _
 ·rw[i] at l
  exact AY (Ky k nm x a ks.length f z d W o b l) (Jp N g i)
 have e0:=l;rw[i] at l;by_cases y:k=35
 ·subst y
  by_cases j:ks.length=2
  ·obtain⟨D,E,rfl⟩:=Hu j
   exact S0 Q N g w n d nm x z D E a f W H s v hbg m G b i hE hS hB
  rcases q:N.name nm with _ | _
  ·rw[q] at H
   refine AY (O0 nm x a ks.length f z d W o b l (fun h _=>(H h).mono fun e F ⟨J,j⟩=>⟨J,j▸Below.refl _ _⟩)) ?_;rw[BE N g b i (by simp),q];simp
  rw[q] at H;refine AY (Uy nm x a ks.length f z d W o b l (fun h _=>(H h).mono fun e F ⟨J,j⟩=>⟨J,j▸Below.refl _ _⟩) j) ?_;rw[BE N g b i (by simp),q];simp[j]
 by_cases A:k=41
 ·subst A
  rcases q:N.name nm with _ | _
  ·rw[q] at H
   refine AY (UE nm x a ks.length f z d W o b l (fun h _=>(H h).mono fun e F ⟨J,j⟩=>⟨J,j▸Below.refl _ _⟩)) ?_;rw[BE N g b i (by simp),q];simp
  rw[q] at H;refine AY (WG nm _ x a ks.length f z d W o b l (fun h _=>(H h).mono fun e F ⟨J,j⟩=>⟨J,j▸Below.refl _ _⟩) (hA b)) ?_;rw[BE N g b i (by simp),q];simp
 by_cases a0:nm=[]
 case neg =>
  obtain⟨c,r,rfl⟩:∃c r,nm=c::r:=by cases nm with | nil=>exact absurd rfl a0 | cons c r=>exact⟨c,r,rfl⟩
  exact AY (MM k c r x a ks.length f z d W o b l y A) (Kx N g a0 y A)
 subst a0;by_cases L:k=31
 ·subst L
  by_cases j:ks.length=2
  ·obtain⟨D,E,rfl⟩:=Hu j
   exact SU Q N g w n d x z D E a f W s v hbg m G b i hE hS hB
  by_cases h3:ks.length=3
  ·obtain⟨D,E,t2,rfl⟩:=UY h3
   exact SV Q N g w n d x z D E t2 a f W s v hbg m G b i hE hS hB
  refine AY (Us x a ks.length f z d W o b l j h3) ?_;rw[BE N g b i (by simp)];simp[j,h3]
 by_cases M:k=32
 ·subst M
  by_cases j:ks.length=2
  ·obtain⟨D,E,rfl⟩:=Hu j
   exact SW Q N g w n d x z D E a f W s v hbg m G b i hE hS hB
  refine AY (Uv x a ks.length f z d W o b l j) ?_;rw[BE N g b i (by simp)];simp[j]
 by_cases O:k=33
 ·subst O
  by_cases j:ks.length=2
  ·obtain⟨D,E,rfl⟩:=Hu j
   exact SY Q N g w n d x z D E a f W s v hbg m G b i hE hS hB
  refine AY (Uw x a ks.length f z d W o b l j) ?_;rw[BE N g b i (by simp)];simp[j]
 by_cases P:k=34
 ·subst P
  by_cases j:ks.length=4
  ·obtain⟨D,E,t2,t3,rfl⟩:=UZ j
   exact SZ Q N g w n d x z D E t2 t3 a f W s v hbg m G b i hE hS hB
  refine AY (Ux x a ks.length f z d W o b l j) ?_;rw[BE N g b i (by simp)];simp[j]
 by_cases R:k=36
 ·subst R
  refine AY (WB x a ks.length f z d W o b l) ?_;rw[BE N g b i (by simp)];simp
 by_cases S:k=37
 ·subst S
  refine AY (WC x a ks.length f z d W o b l) ?_;rw[BE N g b i (by simp)];simp
 by_cases T:k=38
 ·subst T
  refine AY (WD x a ks.length f z d W o b l) ?_;rw[BE N g b i (by simp)];simp
 by_cases U:k=39
 ·subst U
  refine AY (WE _ x a ks.length f z d W o b l (hA b)) ?_;rw[BE N g b i (by simp)];simp
 by_cases V:k=40
 ·subst V
  refine AY (WF _ x a ks.length f z d W o b l (hA b)) ?_;rw[BE N g b i (by simp)];simp
 by_cases X:k=42
 ·subst X
  refine AY (WH _ x a ks.length f z d W o b l (hA b)) ?_;rw[BE N g b i (by simp)];simp
 by_cases Y:k=43
 ·subst Y
  refine AY (WI _ x a ks.length f z d W o b l (hA b)) ?_;rw[BE N g b i (by simp)];simp
 by_cases Z:k=44
 ·subst Z
  refine AY (WJ _ x a ks.length f z d W o b l (hA b)) ?_;rw[BE N g b i (by simp)];simp
 refine AY (UF k x a ks.length f z d W o b l I L M O P y R S T U V A X Y Z) ?_;rw[BE N g b i (by simp)];simp[I,L,M,O,P,y,R,S,T,U,V,A,X,Y,Z]
theorem FY (Q:List UInt8->Prop) (N:Aw) (c:World) (a:∀x,N.bare x=Be x) (f:∀nm,N.name nm=BM nm) (g:∀n,CS Q N c n):∀n,Ee Q N c n/\Xn Q N c n
 | 0=>⟨fun t d j W _ b=>by obtain⟨k,nm,x,z,ks⟩:=t;rw[Tr.wt_mk] at b;omega,
       fun t d j W _ b=>by obtain⟨k,nm,x,z,ks⟩:=t;rw[Tr.wt_mk] at b;omega⟩
 | n+1=>by
   obtain⟨h,i⟩:=FY Q N c a f g n;have e:=Ia Q N c a n h;exact⟨Jq Q N c a f n (g n) h i e,e⟩
end Go.Proofs.YtipfpohlnhmlpaaGreatDoor
