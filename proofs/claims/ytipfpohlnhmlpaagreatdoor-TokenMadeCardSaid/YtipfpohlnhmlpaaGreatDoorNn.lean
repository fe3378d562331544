/- Nn -/
import Derived.Test.YtipfpohlnhmlpaaGreatDoorNl
import Derived.Test.YtipfpohlnhmlpaaGreatDoorMm
set_option maxRecDepth 100000
set_option maxHeartbeats 16000000
open Go.Lib renaming hid->aA
open List renaming mem_of_getElem?->aB,all_eq_true->aC,take_length->aG
open Go.Value renaming int->aD
open Go.Ending renaming returned->aE
open Bool renaming eq_false_iff->aF
open Nat renaming le_trans->aH,le_refl->aJ
namespace Go.Proofs.YtipfpohlnhmlpaaGreatDoor
open Go.Proofs.Tryz
open Go.RowKit
structure V0 (Q:List UInt8->Prop) (r:Rl):Prop where
 ps:∀t∈r.ps,Tr.All (FW Q) t
 b:Tr.All (FW Q) r.b
 bp:Bh r.ps<=8796093022208
 bb:r.b.big<=8796093022208
structure VX (Q:List UInt8->Prop) (f:Fu):Prop where
 b:Tr.All (FW Q) f.b
 bb:f.b.big<=8796093022208
 nm:f.nm.length<=8796093022208
 ps:∀p∈f.ps,p.length<=8796093022208
 pl:f.ps.length<=8796093022208
theorem Lz (l:List Tr):l.length<=Bh l:=by
 induction l with
 | nil=>simp
 | cons t b a=>rw[AU,List.length_cons];omega
theorem Ay {N:Aw} {a:List Rl} {b:List Fu} {k:Nat} {r:Rl} (d:a[k]?=some r) (h:BL N r=false):Fc N a b=false:=by
 have c:a.all (BL N)=false:=aF.2 fun ha=>by have:=aC.1 ha r (aB d);rw[h] at this;cases this
 unfold Fc;rw[c,Bool.false_and]
theorem EW {N:Aw} {d:List Rl} {a:List Fu} {k:Nat} {f:Fu} (c:a[k]?=some f) (h:Eu N f=false):Fc N d a=false:=by
 have b:a.all (Eu N)=false:=aF.2 fun ha=>by have:=aC.1 ha f (aB c);rw[h] at this;cases this
 unfold Fc;rw[b,Bool.and_false]
theorem O8 {a:Type} {l:List a} {k:Nat} {x:a} {p:a->Bool} (c:l[k]?=some x) (b:p x=false):l.all p=false:=aF.2 fun ha=>by
 have:=aC.1 ha x (aB c);rw[b] at this;cases this
theorem AA {b:Bool} (h:b=false):aE (.bool false)=aE (.bool b):=by rw[h]
theorem Ss {b:Bool} (h:b=true):aE (.bool true)=aE (.bool b):=by rw[h]
theorem Jt {b:Type} {l:List b} {k:Nat} {x:b} {p:b->Bool} (g:l[k]?=some x) (h:∀y∈l.take k,p y=true) (f:p x=true):∀y∈l.take (k+1),p y=true:=by
 obtain⟨e,d⟩:=List.getElem?_eq_some_iff.1 g;intro y c;rw[List.take_succ_eq_append_getElem e,d] at c;rcases List.mem_append.1 c with a | a
 ·exact h y a
 rw[List.mem_singleton.1 a];exact f
theorem De {N:Aw} {a:List Rl} {k:Nat} {r:Rl} (c:a[k]?=some r) (h:Hid (∀y∈a.take k,BL N y=true)) (b:BL N r=true):Hid (∀y∈a.take (k+1),BL N y=true):=Jt c h.out b
theorem QE {N:Aw} {a:List Fu} {k:Nat} {f:Fu} (c:a[k]?=some f) (h:Hid (∀y∈a.take k,Eu N y=true)) (b:Eu N f=true):Hid (∀y∈a.take (k+1),Eu N y=true):=Jt c h.out b
theorem QF {N:Aw} {a:List (List UInt8)} {k:Nat} {f:List UInt8} (c:a[k]?=some f) (h:Hid (∀y∈a.take k,N.name y=true)) (b:N.name f=true):Hid (∀y∈a.take (k+1),N.name y=true):=Jt c h.out b
theorem Qb (Q:List UInt8->Prop) (N:Aw) (w0:World) (v1:∀nm,N.name nm=BM nm) (w1:∀n,CS Q N w0 n) (t1:∀n,Xn Q N w0 n) (X:List Rl) (R:List Fu) (rv fv:Value) (W:World)
  (hR:ED 60 W X rv) (hF:Fh 60 W R fv) (d2:∀r∈X,V0 Q r) (x1:∀f∈R,VX Q f) (x2:X.length<=8796093022208) (v2:R.length<=8796093022208) (hW:Below w0.heap.size w0 W) :
  Calls prog 31 #[.agg #[rv,fv]] W fun e w'=>e = .returned (.bool (Fc N X R))/\Below W.heap.size W w':=by
 have HR:=aA hR;have HF:=aA hF;have n1:=aA d2;have e2:=aA x1;have HW:=aA hW;have f2:=aA w1;have i1:=aA t1;have HN:Hid (∀(nm:List UInt8) W,nm.length<=8796093022208->Calls prog 53 #[.string ⟨nm.toArray⟩] W fun e w'=>e = .returned (.bool (N.name nm))/\W=w'):=fun nm W h=>by rw[v1];exact CM ⟨nm.toArray⟩ W (by simp only[ByteArray.size,List.size_toArray];omega)
 obtain⟨ra,U,r2,i2⟩:=hR;subst r2;obtain⟨fa,K,k2,j2⟩:=hF;subst k2;have o0:=aA (Ad W (.cells #[.slice ra X.length U,.slice fa R.length K] 37));have u:(W.alloc (.cells #[.slice ra X.length U,.slice fa R.length K] 37)).cell? ⟨W.heap.size,0,none⟩=some (.slice ra X.length U):=by rw[World.cell?_alloc_at _ _ _ _ rfl];rfl
 have s:(W.alloc (.cells #[.slice ra X.length U,.slice fa R.length K] 37)).cell? ⟨W.heap.size,1,none⟩=some (.slice fa R.length K):=by rw[World.cell?_alloc_at _ _ _ _ rfl];rfl
 have HG:=aA (And.intro u s);clear d2 x1 hW w1 t1 u s i2 j2 v1
 go_in
 go_wp2
 go_loopg [3] X.length (fun g i wr=>∃(k:Nat),i = .int .i64 k/\k+g=X.length/\Hid (∀r∈X.take k,BL N r=true)/\Hid (Below W.heap.size W wr)/\Hid (wr.cell? ⟨W.heap.size,0,none⟩=some (.slice ra X.length U)/\wr.cell? ⟨W.heap.size,1,none⟩=some (.slice fa R.length K)))
 case atStart=>exact⟨0,rfl,by omega,by simp[Hid],o0,HG⟩
 obtain⟨k,rfl,m2,HT,c,l0⟩:=hrel;obtain⟨u,s⟩:=l0.out;by_cases z0:k<X.length
 ·obtain⟨a',r1,hv,T⟩:=HR.out.bel c.out
  injection hv with k0 _ e1;obtain⟨b,pv,kv,r,ha,hr,y0,Z,c0,c1,c2,c3,c4,c5,c6,c7,c8⟩:=T k z0;rw[<- k0] at ha;subst ha;rw[Nat.mul_comm 9 k] at c0 c1 c2 c3 c4 c5 c6 c7 c8;obtain⟨pa,w,j0⟩:=y0.slice;subst j0;obtain⟨ka,v,a1⟩:=Z.slice;subst a1;have A:=n1.out r (aB hr);have b1:r.ps.length<=8796093022208:=aH (Lz r.ps) A.bp;have x0:r.b.ks.length<=8796093022208:=by have h1:=DX r.b;have h2:=A.bb;omega
  have HA:Hid (∀J,Below wr.heap.size wr J->Calls prog 51 #[.slice pa r.ps.length w,.int .i64 1] J fun e w'=>e = .returned (.bool (A5 N 1 r.ps))/\Below J.heap.size J w') :=
   fun J h=>EF Q N w0 (DN r.ps) (f2.out _) r.ps 1 _ J A.ps (aJ _) (by omega) A.bp (y0.bel h) (HW.out.trans ((c.out.mono HW.out.size).trans (h.mono (aH HW.out.size c.out.size))))
  have HK:Hid (∀J,Below wr.heap.size wr J->Calls prog 52 #[.agg #[.int .i64 r.b.kd,.string ⟨r.b.nm.toArray⟩,.float .f64 r.b.x,.slice ka r.b.ks.length v,.complex .f64 r.b.z.1 r.b.z.2],.int .i64 1] J fun e w'=>e = .returned (.bool (decide (r.b.kd=30)&&Av N 1 r.b))/\Below J.heap.size J w') :=
   fun J h=>i1.out r.b.wt r.b 1 _ J A.b (aJ _) (by omega) A.bb (Z.bel h) (HW.out.trans ((c.out.mono HW.out.size).trans (h.mono (aH HW.out.size c.out.size))))
  have l:=aA hr;clear k0 e1 T y0 Z hr A HR o0 HG;obtain⟨V,I,t,B,M⟩:=r;have P:Hid (X[k]?=some ⟨V,I,t,B,M⟩):=l;obtain⟨av,p0⟩:∃av,A5 N 1 t=av:=⟨_,rfl⟩;obtain⟨bv,Y⟩:∃bv,(decide (B.kd=30)&&Av N 1 B)=bv:=⟨_,rfl⟩;obtain⟨m,em⟩:∃m,t.length=m:=⟨_,rfl⟩;obtain⟨v3,b0⟩:∃v3,B.kd=v3:=⟨_,rfl⟩;obtain⟨v4,d0⟩:∃v4,B.nm.toArray=v4:=⟨_,rfl⟩;obtain⟨v5,e0⟩:∃v5,B.x=v5:=⟨_,rfl⟩;obtain⟨v6,f0⟩:∃v6,B.ks.length=v6:=⟨_,rfl⟩;obtain⟨v7,h0⟩:∃v7,B.z.1=v7:=⟨_,rfl⟩;obtain⟨v8,i0⟩:∃v8,B.z.2=v8:=⟨_,rfl⟩;have Ea:=aA p0;have Eb:=aA Y
  have Em:=aA em;simp only[p0,em] at HA b1 c2;simp only[Y] at HK;simp only[b0,d0,e0,f0,h0,i0] at HK c3 c4 c5 c6 c7 x0;dsimp only at c0 c1 c8;clear l p0 Y em b0 d0 e0 f0 h0 i0;have l:=P;clear P
  go_upto_region 5 with fail
  have d:=aA (Ad wr (.cells #[.int .i64 V,.int .i64 I,.slice pa m w,.int .i64 v3,.string ⟨v4⟩,.float .f64 v5,.slice ka v6 v,.complex .f64 v7 v8,.complex .f64 M.1 M.2] 62));have hq:=CellsA.new9 wr (.int .i64 V) (.int .i64 I) (.slice pa m w) (.int .i64 v3) (.string ⟨v4⟩) (.float .f64 v5) (.slice ka v6 v) (.complex .f64 v7 v8) (.complex .f64 M.1 M.2) 62;replace u:=Az u (.cells #[.int .i64 V,.int .i64 I,.slice pa m w,.int .i64 v3,.string ⟨v4⟩,.float .f64 v5,.slice ka v6 v,.complex .f64 v7 v8,.complex .f64 M.1 M.2] 62);replace s:=Az s (.cells #[.int .i64 V,.int .i64 I,.slice pa m w,.int .i64 v3,.string ⟨v4⟩,.float .f64 v5,.slice ka v6 v,.complex .f64 v7 v8,.complex .f64 M.1 M.2] 62)
  clear c0 c1 c2 c3 c4 c5 c6 c7 c8;generalize (wr.alloc (.cells #[.int .i64 V,.int .i64 I,.slice pa m w,.int .i64 v3,.string ⟨v4⟩,.float .f64 v5,.slice ka v6 v,.complex .f64 v7 v8,.complex .f64 M.1 M.2] 62))=wa at d hq u s ⊢;obtain⟨q,eq⟩:∃q,wr.heap.size=q:=⟨_,rfl⟩;rw[eq] at hq ⊢;have Eq:=aA eq;clear eq;obtain⟨q0,q1,C,D,E,F,G,H,q8⟩:=hq;by_cases h1:V=1
  ·subst h1
   have o:Hid (BL N ⟨1,I,t,B,M⟩=(decide (t.length=0)&&(A5 N 1 t&&((decide (B.kd=30)&&Av N 1 B)&&decide (I=0))))):=by unfold Hid BL Hx;simp
   rw[Ea.out,Eb.out,Em.out] at o;by_cases L:m=0
   ·subst L
    go_wp2_with fail
    (go_at_call 51;refine(HA.out _ d.out).mono ?_;rintro e O ⟨rfl,a⟩;replace d:=aA (d.out.trans (a.mono d.out.size));replace u:=Aa u a;replace s:=Aa s a;replace q1:=Aa q1 a;replace C:=Aa C a;replace D:=Aa D a;replace E:=Aa E a;replace F:=Aa F a;replace G:=Aa G a;replace H:=Aa H a;clear a)
    cases av with
    | true =>
      go_wp2_with fail
      (go_at_call 52;refine(HK.out _ d.out).mono ?_;rintro e O ⟨rfl,a⟩;replace d:=aA (d.out.trans (a.mono d.out.size));replace u:=Aa u a;replace s:=Aa s a;replace q1:=Aa q1 a;replace C:=Aa C a;replace D:=Aa D a;replace E:=Aa E a;replace F:=Aa F a;replace G:=Aa G a;replace H:=Aa H a;clear a)
      cases bv with
      | true =>
        by_cases S:I=0
        ·subst S
         go_wp2
         go_roundg (gk-1)
         case measure=>omega
         exact⟨k+1,congrArg (aD .i64) (by omega),by omega,De l.out HT (by rw[o.out];simp),aA (c.out.trans (d.out.mono c.out.size)),aA ⟨u,s⟩⟩
        skip
        go_wp2;go_ret;exact⟨AA (Ay l.out (by rw[o.out];simp[S])),c.out.trans (d.out.mono c.out.size)⟩
      | false =>
        go_wp2;go_ret;exact⟨AA (Ay l.out (by rw[o.out];simp)),c.out.trans (d.out.mono c.out.size)⟩
    | false =>
      go_wp2;go_ret;exact⟨AA (Ay l.out (by rw[o.out];simp)),c.out.trans (d.out.mono c.out.size)⟩
   skip
   go_wp2;go_ret;exact⟨AA (Ay l.out (by rw[o.out];simp[L])),c.out.trans (d.out.mono c.out.size)⟩
  by_cases h2:V=2
  ·subst h2
   have o:Hid (BL N ⟨2,I,t,B,M⟩=(decide (t.length=0)&&(A5 N 1 t&&((decide (B.kd=30)&&Av N 1 B)&&decide (I=0))))):=by unfold Hid BL Hx;simp
   rw[Ea.out,Eb.out,Em.out] at o;by_cases L:m=0
   ·subst L
    go_wp2_with fail
    (go_at_call 51;refine(HA.out _ d.out).mono ?_;rintro e O ⟨rfl,a⟩;replace d:=aA (d.out.trans (a.mono d.out.size));replace u:=Aa u a;replace s:=Aa s a;replace q1:=Aa q1 a;replace C:=Aa C a;replace D:=Aa D a;replace E:=Aa E a;replace F:=Aa F a;replace G:=Aa G a;replace H:=Aa H a;clear a)
    cases av with
    | true =>
      go_wp2_with fail
      (go_at_call 52;refine(HK.out _ d.out).mono ?_;rintro e O ⟨rfl,a⟩;replace d:=aA (d.out.trans (a.mono d.out.size));replace u:=Aa u a;replace s:=Aa s a;replace q1:=Aa q1 a;replace C:=Aa C a;replace D:=Aa D a;replace E:=Aa E a;replace F:=Aa F a;replace G:=Aa G a;replace H:=Aa H a;clear a)
      cases bv with
      | true =>
        by_cases S:I=0
        ·subst S
         go_wp2
         go_roundg (gk-1)
         case measure=>omega
         exact⟨k+1,congrArg (aD .i64) (by omega),by omega,De l.out HT (by rw[o.out];simp),aA (c.out.trans (d.out.mono c.out.size)),aA ⟨u,s⟩⟩
        skip
        go_wp2;go_ret;exact⟨AA (Ay l.out (by rw[o.out];simp[S])),c.out.trans (d.out.mono c.out.size)⟩
      | false =>
        go_wp2;go_ret;exact⟨AA (Ay l.out (by rw[o.out];simp)),c.out.trans (d.out.mono c.out.size)⟩
    | false =>
      go_wp2;go_ret;exact⟨AA (Ay l.out (by rw[o.out];simp)),c.out.trans (d.out.mono c.out.size)⟩
   skip
   go_wp2;go_ret;exact⟨AA (Ay l.out (by rw[o.out];simp[L])),c.out.trans (d.out.mono c.out.size)⟩
  by_cases h3:V=3
  ·subst h3
   have o:Hid (BL N ⟨3,I,t,B,M⟩=(decide (t.length=0)&&(A5 N 1 t&&((decide (B.kd=30)&&Av N 1 B)&&decide (1<=I/\I<=1048576))))):=by unfold Hid BL Hx;simp
   rw[Ea.out,Eb.out,Em.out] at o;by_cases L:m=0
   ·subst L
    go_wp2_with fail
    (go_at_call 51;refine(HA.out _ d.out).mono ?_;rintro e O ⟨rfl,a⟩;replace d:=aA (d.out.trans (a.mono d.out.size));replace u:=Aa u a;replace s:=Aa s a;replace q1:=Aa q1 a;replace C:=Aa C a;replace D:=Aa D a;replace E:=Aa E a;replace F:=Aa F a;replace G:=Aa G a;replace H:=Aa H a;clear a)
    cases av with
    | true =>
      go_wp2_with fail
      (go_at_call 52;refine(HK.out _ d.out).mono ?_;rintro e O ⟨rfl,a⟩;replace d:=aA (d.out.trans (a.mono d.out.size));replace u:=Aa u a;replace s:=Aa s a;replace q1:=Aa q1 a;replace C:=Aa C a;replace D:=Aa D a;replace E:=Aa E a;replace F:=Aa F a;replace G:=Aa G a;replace H:=Aa H a;clear a)
      cases bv with
      | true =>
        by_cases n2:1<=I
        ·by_cases y1:I<=1048576
         ·skip
          go_wp2
          go_roundg (gk-1)
          case measure=>omega
          exact⟨k+1,congrArg (aD .i64) (by omega),by omega,De l.out HT (by rw[o.out];simp[n2,y1]),aA (c.out.trans (d.out.mono c.out.size)),aA ⟨u,s⟩⟩
         skip
         go_wp2;go_ret;exact⟨AA (Ay l.out (by rw[o.out];simp[y1])),c.out.trans (d.out.mono c.out.size)⟩
        skip
        go_wp2;go_ret;exact⟨AA (Ay l.out (by rw[o.out];simp;omega)),c.out.trans (d.out.mono c.out.size)⟩
      | false =>
        go_wp2;go_ret;exact⟨AA (Ay l.out (by rw[o.out];simp)),c.out.trans (d.out.mono c.out.size)⟩
    | false =>
      go_wp2;go_ret;exact⟨AA (Ay l.out (by rw[o.out];simp)),c.out.trans (d.out.mono c.out.size)⟩
   skip
   go_wp2;go_ret;exact⟨AA (Ay l.out (by rw[o.out];simp[L])),c.out.trans (d.out.mono c.out.size)⟩
  by_cases h4:V=4
  ·subst h4
   have o:Hid (BL N ⟨4,I,t,B,M⟩=(decide (t.length=0)&&(A5 N 1 t&&((decide (B.kd=30)&&Av N 1 B)&&decide (I=0))))):=by unfold Hid BL Hx;simp
   rw[Ea.out,Eb.out,Em.out] at o;by_cases L:m=0
   ·subst L
    go_wp2_with fail
    (go_at_call 51;refine(HA.out _ d.out).mono ?_;rintro e O ⟨rfl,a⟩;replace d:=aA (d.out.trans (a.mono d.out.size));replace u:=Aa u a;replace s:=Aa s a;replace q1:=Aa q1 a;replace C:=Aa C a;replace D:=Aa D a;replace E:=Aa E a;replace F:=Aa F a;replace G:=Aa G a;replace H:=Aa H a;clear a)
    cases av with
    | true =>
      go_wp2_with fail
      (go_at_call 52;refine(HK.out _ d.out).mono ?_;rintro e O ⟨rfl,a⟩;replace d:=aA (d.out.trans (a.mono d.out.size));replace u:=Aa u a;replace s:=Aa s a;replace q1:=Aa q1 a;replace C:=Aa C a;replace D:=Aa D a;replace E:=Aa E a;replace F:=Aa F a;replace G:=Aa G a;replace H:=Aa H a;clear a)
      cases bv with
      | true =>
        by_cases S:I=0
        ·subst S
         go_wp2
         go_roundg (gk-1)
         case measure=>omega
         exact⟨k+1,congrArg (aD .i64) (by omega),by omega,De l.out HT (by rw[o.out];simp),aA (c.out.trans (d.out.mono c.out.size)),aA ⟨u,s⟩⟩
        skip
        go_wp2;go_ret;exact⟨AA (Ay l.out (by rw[o.out];simp[S])),c.out.trans (d.out.mono c.out.size)⟩
      | false =>
        go_wp2;go_ret;exact⟨AA (Ay l.out (by rw[o.out];simp)),c.out.trans (d.out.mono c.out.size)⟩
    | false =>
      go_wp2;go_ret;exact⟨AA (Ay l.out (by rw[o.out];simp)),c.out.trans (d.out.mono c.out.size)⟩
   skip
   go_wp2;go_ret;exact⟨AA (Ay l.out (by rw[o.out];simp[L])),c.out.trans (d.out.mono c.out.size)⟩
  by_cases h5:V=5
  ·subst h5
   have o:Hid (BL N ⟨5,I,t,B,M⟩=(decide (t.length=0)&&(A5 N 1 t&&((decide (B.kd=30)&&Av N 1 B)&&decide (I=0))))):=by unfold Hid BL Hx;simp
   rw[Ea.out,Eb.out,Em.out] at o;by_cases L:m=0
   ·subst L
    go_wp2_with fail
    (go_at_call 51;refine(HA.out _ d.out).mono ?_;rintro e O ⟨rfl,a⟩;replace d:=aA (d.out.trans (a.mono d.out.size));replace u:=Aa u a;replace s:=Aa s a;replace q1:=Aa q1 a;replace C:=Aa C a;replace D:=Aa D a;replace E:=Aa E a;replace F:=Aa F a;replace G:=Aa G a;replace H:=Aa H a;clear a)
    cases av with
    | true =>
      go_wp2_with fail
      (go_at_call 52;refine(HK.out _ d.out).mono ?_;rintro e O ⟨rfl,a⟩;replace d:=aA (d.out.trans (a.mono d.out.size));replace u:=Aa u a;replace s:=Aa s a;replace q1:=Aa q1 a;replace C:=Aa C a;replace D:=Aa D a;replace E:=Aa E a;replace F:=Aa F a;replace G:=Aa G a;replace H:=Aa H a;clear a)
      cases bv with
      | true =>
        by_cases S:I=0
        ·subst S
         go_wp2
         go_roundg (gk-1)
         case measure=>omega
         exact⟨k+1,congrArg (aD .i64) (by omega),by omega,De l.out HT (by rw[o.out];simp),aA (c.out.trans (d.out.mono c.out.size)),aA ⟨u,s⟩⟩
        skip
        go_wp2;go_ret;exact⟨AA (Ay l.out (by rw[o.out];simp[S])),c.out.trans (d.out.mono c.out.size)⟩
      | false =>
        go_wp2;go_ret;exact⟨AA (Ay l.out (by rw[o.out];simp)),c.out.trans (d.out.mono c.out.size)⟩
    | false =>
      go_wp2;go_ret;exact⟨AA (Ay l.out (by rw[o.out];simp)),c.out.trans (d.out.mono c.out.size)⟩
   skip
   go_wp2;go_ret;exact⟨AA (Ay l.out (by rw[o.out];simp[L])),c.out.trans (d.out.mono c.out.size)⟩
  by_cases h6:V=6
  ·subst h6
   have o:Hid (BL N ⟨6,I,t,B,M⟩=(decide (t.length=1)&&(A5 N 1 t&&((decide (B.kd=30)&&Av N 1 B)&&decide (I=0))))):=by unfold Hid BL Hx;simp
   rw[Ea.out,Eb.out,Em.out] at o;by_cases L:m=1
   ·subst L
    go_wp2_with fail
    (go_at_call 51;refine(HA.out _ d.out).mono ?_;rintro e O ⟨rfl,a⟩;replace d:=aA (d.out.trans (a.mono d.out.size));replace u:=Aa u a;replace s:=Aa s a;replace q1:=Aa q1 a;replace C:=Aa C a;replace D:=Aa D a;replace E:=Aa E a;replace F:=Aa F a;replace G:=Aa G a;replace H:=Aa H a;clear a)
    cases av with
    | true =>
      go_wp2_with fail
      (go_at_call 52;refine(HK.out _ d.out).mono ?_;rintro e O ⟨rfl,a⟩;replace d:=aA (d.out.trans (a.mono d.out.size));replace u:=Aa u a;replace s:=Aa s a;replace q1:=Aa q1 a;replace C:=Aa C a;replace D:=Aa D a;replace E:=Aa E a;replace F:=Aa F a;replace G:=Aa G a;replace H:=Aa H a;clear a)
      cases bv with
      | true =>
        by_cases S:I=0
        ·subst S
         go_wp2
         go_roundg (gk-1)
         case measure=>omega
         exact⟨k+1,congrArg (aD .i64) (by omega),by omega,De l.out HT (by rw[o.out];simp),aA (c.out.trans (d.out.mono c.out.size)),aA ⟨u,s⟩⟩
        skip
        go_wp2;go_ret;exact⟨AA (Ay l.out (by rw[o.out];simp[S])),c.out.trans (d.out.mono c.out.size)⟩
      | false =>
        go_wp2;go_ret;exact⟨AA (Ay l.out (by rw[o.out];simp)),c.out.trans (d.out.mono c.out.size)⟩
    | false =>
      go_wp2;go_ret;exact⟨AA (Ay l.out (by rw[o.out];simp)),c.out.trans (d.out.mono c.out.size)⟩
   skip
   go_wp2;go_ret;exact⟨AA (Ay l.out (by rw[o.out];simp[L])),c.out.trans (d.out.mono c.out.size)⟩
  by_cases h7:V=7
  ·subst h7
   have o:Hid (BL N ⟨7,I,t,B,M⟩=(decide (t.length=2)&&(A5 N 1 t&&((decide (B.kd=30)&&Av N 1 B)&&decide (I=0))))):=by unfold Hid BL Hx;simp
   rw[Ea.out,Eb.out,Em.out] at o;by_cases L:m=2
   ·subst L
    go_wp2_with fail
    (go_at_call 51;refine(HA.out _ d.out).mono ?_;rintro e O ⟨rfl,a⟩;replace d:=aA (d.out.trans (a.mono d.out.size));replace u:=Aa u a;replace s:=Aa s a;replace q1:=Aa q1 a;replace C:=Aa C a;replace D:=Aa D a;replace E:=Aa E a;replace F:=Aa F a;replace G:=Aa G a;replace H:=Aa H a;clear a)
    cases av with
    | true =>
      go_wp2_with fail
      (go_at_call 52;refine(HK.out _ d.out).mono ?_;rintro e O ⟨rfl,a⟩;replace d:=aA (d.out.trans (a.mono d.out.size));replace u:=Aa u a;replace s:=Aa s a;replace q1:=Aa q1 a;replace C:=Aa C a;replace D:=Aa D a;replace E:=Aa E a;replace F:=Aa F a;replace G:=Aa G a;replace H:=Aa H a;clear a)
      cases bv with
      | true =>
        by_cases S:I=0
        ·subst S
         go_wp2
         go_roundg (gk-1)
         case measure=>omega
         exact⟨k+1,congrArg (aD .i64) (by omega),by omega,De l.out HT (by rw[o.out];simp),aA (c.out.trans (d.out.mono c.out.size)),aA ⟨u,s⟩⟩
        skip
        go_wp2;go_ret;exact⟨AA (Ay l.out (by rw[o.out];simp[S])),c.out.trans (d.out.mono c.out.size)⟩
      | false =>
        go_wp2;go_ret;exact⟨AA (Ay l.out (by rw[o.out];simp)),c.out.trans (d.out.mono c.out.size)⟩
    | false =>
      go_wp2;go_ret;exact⟨AA (Ay l.out (by rw[o.out];simp)),c.out.trans (d.out.mono c.out.size)⟩
   skip
   go_wp2;go_ret;exact⟨AA (Ay l.out (by rw[o.out];simp[L])),c.out.trans (d.out.mono c.out.size)⟩
  have o:Hid (BL N ⟨V,I,t,B,M⟩=false):=by unfold Hid BL;rw[decide_eq_false (by show ¬ (1<=V/\V<=7);omega),Bool.false_and]
  go_wp2;go_ret;exact⟨AA (Ay l.out o.out),c.out.trans (d.out.mono c.out.size)⟩
 obtain rfl:k=X.length:=(by omega);have g2:Hid (X.all (BL N)=true):=by unfold Hid;rw[aC];intro r hr;exact HT.out r (by rwa [aG])
 clear HR o0 HG HT n1
 go_wp2_with fail
 go_loopg [7] R.length (fun g i wr=>∃(k:Nat),i = .int .i64 k/\k+g=R.length/\Hid (∀f∈R.take k,Eu N f=true)/\Hid (Below W.heap.size W wr)/\Hid (wr.cell? ⟨W.heap.size,1,none⟩=some (.slice fa R.length K)))
 case atStart=>exact⟨0,rfl,by omega,by simp[Hid],c,aA s⟩
 clear u s l0 c;obtain⟨k,rfl,m2,o1,c,l0⟩:=hrel;have s:=l0.out;by_cases z0:k<R.length
 ·obtain⟨a',r1,hv,T⟩:=HF.out.bel c.out
  injection hv with k0 _ e1;obtain⟨b,pv,kv,f,ha,hf,z1,Z,c0,c1,c2,c3,c4,c5,c6,c7⟩:=T k z0;rw[<- k0] at ha;subst ha;rw[Nat.mul_comm 8 k] at c0 c1 c2 c3 c4 c5 c6 c7;have j0:=z1;obtain⟨pa,w,j0,a0⟩:=j0;subst j0;obtain⟨ka,v,a1⟩:=Z.slice;subst a1;have A:=e2.out f (aB hf);have b1:f.ps.length<=8796093022208:=A.pl;have x0:f.b.ks.length<=8796093022208:=by have h1:=DX f.b;have h2:=A.bb;omega
  have HK:Hid (∀J,Below wr.heap.size wr J->Calls prog 52 #[.agg #[.int .i64 f.b.kd,.string ⟨f.b.nm.toArray⟩,.float .f64 f.b.x,.slice ka f.b.ks.length v,.complex .f64 f.b.z.1 f.b.z.2],.int .i64 1] J fun e w'=>e = .returned (.bool (decide (f.b.kd=30)&&Av N 1 f.b))/\Below J.heap.size J w') :=
   fun J h=>i1.out f.b.wt f.b 1 _ J A.b (aJ _) (by omega) A.bb (Z.bel h) (HW.out.trans ((c.out.mono HW.out.size).trans (h.mono (aH HW.out.size c.out.size))))
  have m0:Hid (∀W,Calls prog 53 #[.string ⟨f.nm.toArray⟩] W fun e w'=>e = .returned (.bool (N.name f.nm))/\W=w'):=fun W=>HN.out f.nm W A.nm;have k1:Hid (∀p∈f.ps,p.length<=8796093022208):=A.ps;have m1:Hid (∀i,i<f.ps.length->∃b p,pa=some ⟨b,0,none⟩/\f.ps[i]?=some p/\wr.cell? ⟨b,i,none⟩=some (.string ⟨p.toArray⟩)):=a0;have l:=aA hf;have a2:=a0;clear k0 e1 T z1 Z hf A a0 a2;obtain⟨fn,y,fb,fz⟩:=f;have P:Hid (R[k]?=some ⟨fn,y,fb,fz⟩):=l;obtain⟨nv,r0⟩:∃nv,N.name fn=nv:=⟨_,rfl⟩;obtain⟨bv,Y⟩:∃bv,(decide (fb.kd=30)&&Av N 1 fb)=bv:=⟨_,rfl⟩;obtain⟨v0,s1⟩:∃v0,fn.toArray=v0:=⟨_,rfl⟩
  obtain⟨v3,b0⟩:∃v3,fb.kd=v3:=⟨_,rfl⟩;obtain⟨v4,d0⟩:∃v4,fb.nm.toArray=v4:=⟨_,rfl⟩;obtain⟨v5,e0⟩:∃v5,fb.x=v5:=⟨_,rfl⟩;obtain⟨v6,f0⟩:∃v6,fb.ks.length=v6:=⟨_,rfl⟩;obtain⟨v7,h0⟩:∃v7,fb.z.1=v7:=⟨_,rfl⟩;obtain⟨v8,i0⟩:∃v8,fb.z.2=v8:=⟨_,rfl⟩;have o:Hid (Eu N ⟨fn,y,fb,fz⟩=(nv&&(decide (y.length<=8)&&(bv&&y.all N.name)))):=by unfold Hid Eu;dsimp only;rw[r0,Y]
  simp only[r0,s1] at m0 c0;simp only[Y] at HK;simp only[b0,d0,e0,f0,h0,i0] at HK c2 c3 c4 c5 c6 x0;dsimp only at c1 c7 k1 m1 b1;clear l r0 Y s1 b0 d0 e0 f0 h0 i0;have l:=P;clear P
  go_upto_region 24 with fail
  have d:=aA (Ad wr (.cells #[.string ⟨v0⟩,.slice pa y.length w,.int .i64 v3,.string ⟨v4⟩,.float .f64 v5,.slice ka v6 v,.complex .f64 v7 v8,.complex .f64 fz.1 fz.2] 68));have hq:=CellsA.new8 wr (.string ⟨v0⟩) (.slice pa y.length w) (.int .i64 v3) (.string ⟨v4⟩) (.float .f64 v5) (.slice ka v6 v) (.complex .f64 v7 v8) (.complex .f64 fz.1 fz.2) 68;replace s:=Az s (.cells #[.string ⟨v0⟩,.slice pa y.length w,.int .i64 v3,.string ⟨v4⟩,.float .f64 v5,.slice ka v6 v,.complex .f64 v7 v8,.complex .f64 fz.1 fz.2] 68);clear c0 c1 c2 c3 c4 c5 c6 c7;generalize (wr.alloc (.cells #[.string ⟨v0⟩,.slice pa y.length w,.int .i64 v3,.string ⟨v4⟩,.float .f64 v5,.slice ka v6 v,.complex .f64 v7 v8,.complex .f64 fz.1 fz.2] 68))=wa at d hq s ⊢
  obtain⟨q,eq⟩:∃q,wr.heap.size=q:=⟨_,rfl⟩;rw[eq] at hq ⊢;have Eq:=aA eq;clear eq;obtain⟨q0,q1,C,D,E,F,G,H⟩:=hq
  cases nv with
  | false =>
    go_wp2_with (go_at_call 53;refine(m0.out _).mono ?_;rintro e O ⟨rfl,rfl⟩)
    go_ret;exact⟨AA (EW l.out (by rw[o.out];simp)),c.out.trans (d.out.mono c.out.size)⟩
  | true =>
    by_cases h8:y.length<=8
    case neg =>
     go_wp2_with (go_at_call 53;refine(m0.out _).mono ?_;rintro e O ⟨rfl,rfl⟩)
     go_ret;exact⟨AA (EW l.out (by rw[o.out];simp[h8])),c.out.trans (d.out.mono c.out.size)⟩
    go_wp2_with fail
    (go_at_call 53;refine(m0.out _).mono ?_;rintro e O ⟨rfl,rfl⟩)
    go_wp2_with fail
    (go_at_call 52;refine(HK.out _ d.out).mono ?_;rintro e O ⟨rfl,a⟩;replace d:=aA (d.out.trans (a.mono d.out.size));replace s:=Aa s a;replace q1:=Aa q1 a;clear a)
    cases bv with
    | false =>
      go_wp2;go_ret;exact⟨AA (EW l.out (by rw[o.out];simp)),c.out.trans (d.out.mono c.out.size)⟩
    | true =>
      have G1:=aA s;obtain⟨t0,s2⟩:∃t0,t0=gk:=⟨_,rfl⟩;clear q0 C D E F G H s
      go_wp2_with fail
      go_loopg [9] y.length (fun g i wx=>wx=O/\∃(j:Nat),i = .int .i64 j/\j+g=y.length/\Hid (∀p∈y.take j,N.name p=true))
      case atStart=>exact⟨rfl,0,rfl,by omega,by simp[Hid]⟩
      obtain⟨rfl,j,rfl,w2,p1⟩:=hrel;by_cases l2:j<y.length
      ·obtain⟨b2,p2,o2,d1,cp⟩:=m1.out j l2
       subst o2;have t2:=(d.out.cell (p:=⟨b2,j,none⟩) (World.block_lt_of_cell? _ _ cp)).trans cp;have l1:=aA d1;obtain⟨pv,s0⟩:∃pv,N.name p2=pv:=⟨_,rfl⟩;have j1:Hid (∀W,Calls prog 53 #[.string ⟨p2.toArray⟩] W fun e w'=>e = .returned (.bool pv)/\W=w'):=fun W=>by rw[<- s0];exact HN.out p2 W (k1.out p2 (aB d1))
       have f1:=aA s0;clear cp d1 s0
       cases pv with
       | true =>
         go_wp2_with (go_at_call 53;refine(j1.out _).mono ?_;rintro e w6 ⟨rfl,rfl⟩)
         go_roundg (gk-1)
         case measure=>omega
         exact⟨rfl,j+1,congrArg (aD .i64) (by omega),by omega,QF l1.out p1 f1.out⟩
       | false =>
         go_wp2_with (go_at_call 53;refine(j1.out _).mono ?_;rintro e w6 ⟨rfl,rfl⟩)
         go_ret;exact⟨AA (EW l.out (by rw[o.out,O8 l1.out f1.out];simp)),c.out.trans (d.out.mono c.out.size)⟩
      obtain rfl:j=y.length:=(by omega);have n0:Hid (y.all N.name=true):=by unfold Hid;rw[aC];intro r hr;exact p1.out r (by rwa [aG])
      go_wp2
      go_roundg (t0-1)
      case measure=>omega
      exact⟨k+1,congrArg (aD .i64) (by omega),by omega,QE l.out o1 (by rw[o.out,n0.out];simp[h8]),aA (c.out.trans (d.out.mono c.out.size)),G1⟩
 obtain rfl:k=R.length:=(by omega);have n0:Hid (R.all (Eu N)=true):=by unfold Hid;rw[aC];intro r hr;exact o1.out r (by rwa [aG])
 go_wp2;go_ret;exact⟨Ss (by unfold Fc;rw[g2.out,n0.out];rfl),c.out⟩
end Go.Proofs.YtipfpohlnhmlpaaGreatDoor
