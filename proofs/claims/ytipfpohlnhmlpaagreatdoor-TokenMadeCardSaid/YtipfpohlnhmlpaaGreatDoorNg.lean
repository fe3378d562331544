/- Ng -/
import Derived.Test.YtipfpohlnhmlpaaGreatDoorMm
set_option maxRecDepth 100000
set_option maxHeartbeats 2000000
open Bool renaming false_and->aA,true_and->aB
open Go.Lib renaming hid->aC
open ByteArray renaming size->aD
open List renaming size_toArray->aE
namespace Go.Proofs.YtipfpohlnhmlpaaGreatDoor
open Go.Proofs.Tryz
open Go.RowKit
def VZ (Q:List UInt8->Prop) (N:Aw) (a:World):Prop:=∀(nm:List UInt8) (W:World),Q nm->nm.length<=8796093022208->Below a.heap.size a W ->
 Calls prog 114 #[.string ⟨nm.toArray⟩] W fun e b=>e = .returned (.bool (N.pat nm))/\Below W.heap.size W b
def ER (x:Nat):Bool:=(FloatKind.f64.format.order x 0==some .gt||FloatKind.f64.format.order x 0==some .eq)&&((FloatKind.f64.format.order x 9218868437227405311==some .lt||FloatKind.f64.format.order x 9218868437227405311==some .eq) && !decide (wrap64 x<0))
def En (N:Aw) (k:Int) (nm:List UInt8) (x:Nat) (a:Option Addr) (n cap:Nat) (z:Nat×Nat) (b:Int) (W:World):Prop :=
 Calls prog 91 #[.agg #[.int .i64 k,.string ⟨nm.toArray⟩,.float .f64 x,.slice a n cap,.complex .f64 z.1 z.2]] W fun e c=>e = .returned (.bool (Bi N k nm x n b))/\Below W.heap.size W c
theorem Ir (T:List UInt8) (L:List (List UInt8)) (h:D2 [] T=L) (b:T.length<=140737488351232) (nm:List UInt8) (W:World) :
  Calls prog 46 #[.string ⟨T.toArray⟩,.string ⟨nm.toArray⟩] W fun e a=>e = .returned (.bool (Gh L nm))/\W=a:=by
 refine(FI ⟨T.toArray⟩ ⟨nm.toArray⟩ W (by simpa[aD] using b)).mono ?_;rintro e a ⟨rfl,rfl⟩;refine⟨?_,rfl⟩;unfold Ts Gh;rw[<- h]
theorem Ex {c:UInt8} {r:List UInt8}:¬ (⟨(c::r).toArray⟩:ByteArray)=⟨#[]⟩:=by
 intro h;have:=congrArg aD h;simp[aD] at this
theorem Qm (x:Nat) (a:Option Addr) (cap:Nat) (z:Nat×Nat) (W:World) (c:FloatKind.f64.format.order x 0=none) :
  Calls prog 91 #[.agg #[.int .i64 1,.string ⟨[].toArray⟩,.float .f64 x,.slice a 0 cap,.complex .f64 z.1 z.2]] W fun e d=>e = .returned (.bool (false))/\Below W.heap.size W d:=by
 have b:=aC (Ad W (.cells #[.int .i64 1,.string ⟨[].toArray⟩,.float .f64 x,.slice a 0 cap,.complex .f64 z.1 z.2] 60))
 go_in
 go_wp2;go_ret;exact⟨rfl,b.out⟩
theorem Qn (x:Nat) (a:Option Addr) (cap:Nat) (z:Nat×Nat) (W:World) (c:FloatKind.f64.format.order x 0=some .lt) :
  Calls prog 91 #[.agg #[.int .i64 1,.string ⟨[].toArray⟩,.float .f64 x,.slice a 0 cap,.complex .f64 z.1 z.2]] W fun e d=>e = .returned (.bool (false))/\Below W.heap.size W d:=by
 have b:=aC (Ad W (.cells #[.int .i64 1,.string ⟨[].toArray⟩,.float .f64 x,.slice a 0 cap,.complex .f64 z.1 z.2] 60))
 go_in
 go_wp2;go_ret;exact⟨rfl,b.out⟩
theorem N8 (x:Nat) (a:Option Addr) (cap:Nat) (z:Nat×Nat) (W:World) (c:FloatKind.f64.format.order x 0=some .eq) (d:FloatKind.f64.format.order x 9218868437227405311=none) :
  Calls prog 91 #[.agg #[.int .i64 1,.string ⟨[].toArray⟩,.float .f64 x,.slice a 0 cap,.complex .f64 z.1 z.2]] W fun e f=>e = .returned (.bool (false))/\Below W.heap.size W f:=by
 have b:=aC (Ad W (.cells #[.int .i64 1,.string ⟨[].toArray⟩,.float .f64 x,.slice a 0 cap,.complex .f64 z.1 z.2] 60))
 go_in
 go_wp2;go_ret;exact⟨rfl,b.out⟩
theorem N9 (x:Nat) (a:Option Addr) (cap:Nat) (z:Nat×Nat) (W:World) (f:FloatKind.f64.format.order x 0=some .eq) (g:FloatKind.f64.format.order x 9218868437227405311=some .lt) :
  Calls prog 91 #[.agg #[.int .i64 1,.string ⟨[].toArray⟩,.float .f64 x,.slice a 0 cap,.complex .f64 z.1 z.2]] W fun e c=>e = .returned (.bool (!decide (wrap64 x<0)))/\Below W.heap.size W c:=by
 have b:=aC (Ad W (.cells #[.int .i64 1,.string ⟨[].toArray⟩,.float .f64 x,.slice a 0 cap,.complex .f64 z.1 z.2] 60));have d:Hid (∀W,Calls prog 90 #[.float .f64 x] W fun e c=>e = .returned (.bool (decide (wrap64 x<0)))/\W=c):=fun W=>CP x W;generalize decide (wrap64 x<0)=sb at d ⊢
 go_in
 go_wp2_with (go_at_call 90;refine(d.out _).mono ?_;rintro e h ⟨rfl,rfl⟩)
 go_ret;exact⟨rfl,b.out⟩
theorem N_ (x:Nat) (a:Option Addr) (cap:Nat) (z:Nat×Nat) (W:World) (f:FloatKind.f64.format.order x 0=some .eq) (g:FloatKind.f64.format.order x 9218868437227405311=some .eq) :
  Calls prog 91 #[.agg #[.int .i64 1,.string ⟨[].toArray⟩,.float .f64 x,.slice a 0 cap,.complex .f64 z.1 z.2]] W fun e c=>e = .returned (.bool (!decide (wrap64 x<0)))/\Below W.heap.size W c:=by
 have b:=aC (Ad W (.cells #[.int .i64 1,.string ⟨[].toArray⟩,.float .f64 x,.slice a 0 cap,.complex .f64 z.1 z.2] 60));have d:Hid (∀W,Calls prog 90 #[.float .f64 x] W fun e c=>e = .returned (.bool (decide (wrap64 x<0)))/\W=c):=fun W=>CP x W;generalize decide (wrap64 x<0)=sb at d ⊢
 go_in
 go_wp2_with (go_at_call 90;refine(d.out _).mono ?_;rintro e h ⟨rfl,rfl⟩)
 go_ret;exact⟨rfl,b.out⟩
theorem N' (x:Nat) (a:Option Addr) (cap:Nat) (z:Nat×Nat) (W:World) (c:FloatKind.f64.format.order x 0=some .eq) (d:FloatKind.f64.format.order x 9218868437227405311=some .gt) :
  Calls prog 91 #[.agg #[.int .i64 1,.string ⟨[].toArray⟩,.float .f64 x,.slice a 0 cap,.complex .f64 z.1 z.2]] W fun e f=>e = .returned (.bool (false))/\Below W.heap.size W f:=by
 have b:=aC (Ad W (.cells #[.int .i64 1,.string ⟨[].toArray⟩,.float .f64 x,.slice a 0 cap,.complex .f64 z.1 z.2] 60))
 go_in
 go_wp2;go_ret;exact⟨rfl,b.out⟩
theorem Oa (x:Nat) (a:Option Addr) (cap:Nat) (z:Nat×Nat) (W:World) (c:FloatKind.f64.format.order x 0=some .gt) (d:FloatKind.f64.format.order x 9218868437227405311=none) :
  Calls prog 91 #[.agg #[.int .i64 1,.string ⟨[].toArray⟩,.float .f64 x,.slice a 0 cap,.complex .f64 z.1 z.2]] W fun e f=>e = .returned (.bool (false))/\Below W.heap.size W f:=by
 have b:=aC (Ad W (.cells #[.int .i64 1,.string ⟨[].toArray⟩,.float .f64 x,.slice a 0 cap,.complex .f64 z.1 z.2] 60))
 go_in
 go_wp2;go_ret;exact⟨rfl,b.out⟩
theorem Ob (x:Nat) (a:Option Addr) (cap:Nat) (z:Nat×Nat) (W:World) (f:FloatKind.f64.format.order x 0=some .gt) (g:FloatKind.f64.format.order x 9218868437227405311=some .lt) :
  Calls prog 91 #[.agg #[.int .i64 1,.string ⟨[].toArray⟩,.float .f64 x,.slice a 0 cap,.complex .f64 z.1 z.2]] W fun e c=>e = .returned (.bool (!decide (wrap64 x<0)))/\Below W.heap.size W c:=by
 have b:=aC (Ad W (.cells #[.int .i64 1,.string ⟨[].toArray⟩,.float .f64 x,.slice a 0 cap,.complex .f64 z.1 z.2] 60));have d:Hid (∀W,Calls prog 90 #[.float .f64 x] W fun e c=>e = .returned (.bool (decide (wrap64 x<0)))/\W=c):=fun W=>CP x W;generalize decide (wrap64 x<0)=sb at d ⊢
 go_in
 go_wp2_with (go_at_call 90;refine(d.out _).mono ?_;rintro e h ⟨rfl,rfl⟩)
 go_ret;exact⟨rfl,b.out⟩
theorem Oc (x:Nat) (a:Option Addr) (cap:Nat) (z:Nat×Nat) (W:World) (f:FloatKind.f64.format.order x 0=some .gt) (g:FloatKind.f64.format.order x 9218868437227405311=some .eq) :
  Calls prog 91 #[.agg #[.int .i64 1,.string ⟨[].toArray⟩,.float .f64 x,.slice a 0 cap,.complex .f64 z.1 z.2]] W fun e c=>e = .returned (.bool (!decide (wrap64 x<0)))/\Below W.heap.size W c:=by
 have b:=aC (Ad W (.cells #[.int .i64 1,.string ⟨[].toArray⟩,.float .f64 x,.slice a 0 cap,.complex .f64 z.1 z.2] 60));have d:Hid (∀W,Calls prog 90 #[.float .f64 x] W fun e c=>e = .returned (.bool (decide (wrap64 x<0)))/\W=c):=fun W=>CP x W;generalize decide (wrap64 x<0)=sb at d ⊢
 go_in
 go_wp2_with (go_at_call 90;refine(d.out _).mono ?_;rintro e h ⟨rfl,rfl⟩)
 go_ret;exact⟨rfl,b.out⟩
theorem Od (x:Nat) (a:Option Addr) (cap:Nat) (z:Nat×Nat) (W:World) (c:FloatKind.f64.format.order x 0=some .gt) (d:FloatKind.f64.format.order x 9218868437227405311=some .gt) :
  Calls prog 91 #[.agg #[.int .i64 1,.string ⟨[].toArray⟩,.float .f64 x,.slice a 0 cap,.complex .f64 z.1 z.2]] W fun e f=>e = .returned (.bool (false))/\Below W.heap.size W f:=by
 have b:=aC (Ad W (.cells #[.int .i64 1,.string ⟨[].toArray⟩,.float .f64 x,.slice a 0 cap,.complex .f64 z.1 z.2] 60))
 go_in
 go_wp2;go_ret;exact⟨rfl,b.out⟩
theorem Ui (N:Aw) (nm:List UInt8) (x:Nat) (a:Option Addr) (n cap:Nat) (z:Nat×Nat) (p:Int) (W:World) (_hn:n<=8796093022208) (j:N.num x=ER x):En N 1 nm x a n cap z p W:=by
 unfold En;have o:Hid (Bi N 1 nm x n p=(decide (n=0)&&(decide (nm=[])&&ER x))):=by unfold Hid;rw[<- j];rfl
 rw[o.out];have i:=aC (Ad W (.cells #[.int .i64 1,.string ⟨nm.toArray⟩,.float .f64 x,.slice a n cap,.complex .f64 z.1 z.2] 60));clear j o;by_cases h:n=0
 ·subst h
  rw[decide_eq_true rfl,aB]
  cases nm with
  | nil =>
    rw[decide_eq_true rfl,aB];clear i;have g:∀(b k:Bool),k=b->(Calls prog 91 #[.agg #[.int .i64 1,.string ⟨[].toArray⟩,.float .f64 x,.slice a 0 cap,.complex .f64 z.1 z.2]] W fun e m=>e = .returned (.bool b)/\Below W.heap.size W m)->Calls prog 91 #[.agg #[.int .i64 1,.string ⟨[].toArray⟩,.float .f64 x,.slice a 0 cap,.complex .f64 z.1 z.2]] W fun e m=>e = .returned (.bool k)/\Below W.heap.size W m:=fun b k e h=>e▸h;rcases d:FloatKind.f64.format.order x 0 with _ | s
    ·exact g _ _ (by simp[ER,d]) (Qm x a cap z W d)
    cases s with
    | lt=>exact g _ _ (by simp[ER,d]) (Qn x a cap z W d)
    | eq =>
      rcases f:FloatKind.f64.format.order x 9218868437227405311 with _ | l
      ·exact g _ _ (by simp[ER,d,f]) (N8 x a cap z W d f)
      cases l with
      | lt=>exact g _ _ (by simp[ER,d,f]) (N9 x a cap z W d f)
      | eq=>exact g _ _ (by simp[ER,d,f]) (N_ x a cap z W d f)
      | gt=>exact g _ _ (by simp[ER,d,f]) (N' x a cap z W d f)
    | gt =>
      rcases f:FloatKind.f64.format.order x 9218868437227405311 with _ | l
      ·exact g _ _ (by simp[ER,d,f]) (Oa x a cap z W d f)
      cases l with
      | lt=>exact g _ _ (by simp[ER,d,f]) (Ob x a cap z W d f)
      | eq=>exact g _ _ (by simp[ER,d,f]) (Oc x a cap z W d f)
      | gt=>exact g _ _ (by simp[ER,d,f]) (Od x a cap z W d f)
  | cons c r =>
    have q:=Ex (c:=c) (r:=r);rw[decide_eq_false (by simp),aA]
    go_in
    go_wp2;go_ret;exact⟨rfl,i.out⟩
 rw[decide_eq_false h,aA]
 go_in
 go_wp2;go_ret;exact⟨rfl,i.out⟩
theorem Uj (N:Aw) (nm:List UInt8) (x:Nat) (a:Option Addr) (n cap:Nat) (z:Nat×Nat) (e:Int) (W:World) (_hn:n<=8796093022208):En N 2 nm x a n cap z e W:=by
 unfold En;have c:Hid (Bi N 2 nm x n e=(decide (n=0)&&decide (nm.length<=256))):=rfl;rw[c.out];have b:=aC (Ad W (.cells #[.int .i64 2,.string ⟨nm.toArray⟩,.float .f64 x,.slice a n cap,.complex .f64 z.1 z.2] 60));have f:(⟨nm.toArray⟩:ByteArray).size=nm.length:=(by simp[aD]);clear c;by_cases h:n=0
 ·subst h
  rw[decide_eq_true rfl,aB];by_cases d:nm.length<=256
  ·rw[decide_eq_true d]
   go_in
   go_wp2;go_ret;exact⟨by simp;omega,b.out⟩
  rw[decide_eq_false d]
  go_in
  go_wp2;go_ret;exact⟨by simp;omega,b.out⟩
 rw[decide_eq_false h,aA]
 go_in
 go_wp2;go_ret;exact⟨rfl,b.out⟩
theorem Uk (N:Aw) (nm:List UInt8) (x:Nat) (a:Option Addr) (n cap:Nat) (z:Nat×Nat) (l:Int) (W:World) (_hn:n<=8796093022208) (k:∀f,Below W.heap.size W f->Calls prog 114 #[.string ⟨nm.toArray⟩] f fun e m=>e = .returned (.bool (N.pat nm))/\Below f.heap.size f m):En N 3 nm x a n cap z l W:=by
 unfold En;have j:Hid (Bi N 3 nm x n l=(decide (n=0)&&N.pat nm)):=rfl;rw[j.out];have c:=aC (Ad W (.cells #[.int .i64 3,.string ⟨nm.toArray⟩,.float .f64 x,.slice a n cap,.complex .f64 z.1 z.2] 60));have i:=aC k;clear k;generalize N.pat nm=b at i ⊢;clear j;by_cases h:n=0
 ·subst h
  rw[decide_eq_true rfl,aB]
  go_in
  go_wp2_with (go_at_call 114;refine(i.out _ c.out).mono ?_;rintro e o ⟨rfl,d⟩;have g:=aC (c.out.trans (d.mono c.out.size));clear d)
  go_ret;exact⟨rfl,g.out⟩
 rw[decide_eq_false h,aA]
 go_in
 go_wp2;go_ret;exact⟨rfl,c.out⟩
theorem Ul (N:Aw) (nm:List UInt8) (x:Nat) (a:Option Addr) (n cap:Nat) (z:Nat×Nat) (i:Int) (W:World) (_hn:n<=8796093022208) (d:∀nm,N.name nm=BM nm) (k:nm.length<=8796093022208):En N 4 nm x a n cap z i W:=by
 unfold En;have g:Hid (Bi N 4 nm x n i=(decide (n=0)&&N.name nm)):=rfl;rw[g.out];have c:=aC (Ad W (.cells #[.int .i64 4,.string ⟨nm.toArray⟩,.float .f64 x,.slice a n cap,.complex .f64 z.1 z.2] 60));have f:Hid (∀W,Calls prog 53 #[.string ⟨nm.toArray⟩] W fun e j=>e = .returned (.bool (N.name nm))/\W=j):=fun W=>by rw[d];exact CM ⟨nm.toArray⟩ W (by simp only[aD,aE];omega)
 clear d;generalize N.name nm=b at f ⊢;clear g;by_cases h:n=0
 ·subst h
  rw[decide_eq_true rfl,aB]
  go_in
  go_wp2_with (go_at_call 53;refine(f.out _).mono ?_;rintro e l ⟨rfl,rfl⟩)
  go_ret;exact⟨rfl,c.out⟩
 rw[decide_eq_false h,aA]
 go_in
 go_wp2;go_ret;exact⟨rfl,c.out⟩
theorem Um (N:Aw) (nm:List UInt8) (x:Nat) (a:Option Addr) (n cap:Nat) (z:Nat×Nat) (i:Int) (W:World) (_hn:n<=8796093022208) (d:∀nm,N.name nm=BM nm) (k:nm.length<=8796093022208):En N 5 nm x a n cap z i W:=by
 unfold En;have g:Hid (Bi N 5 nm x n i=(decide (1<=n)&&N.name nm)):=rfl;rw[g.out];have c:=aC (Ad W (.cells #[.int .i64 5,.string ⟨nm.toArray⟩,.float .f64 x,.slice a n cap,.complex .f64 z.1 z.2] 60));have f:Hid (∀W,Calls prog 53 #[.string ⟨nm.toArray⟩] W fun e j=>e = .returned (.bool (N.name nm))/\W=j):=fun W=>by rw[d];exact CM ⟨nm.toArray⟩ W (by simp only[aD,aE];omega)
 clear d;generalize N.name nm=b at f ⊢;clear g;by_cases h:1<=n
 ·rw[decide_eq_true h,aB]
  go_in
  go_wp2_with (go_at_call 53;refine(f.out _).mono ?_;rintro e l ⟨rfl,rfl⟩)
  go_ret;exact⟨rfl,c.out⟩
 rw[decide_eq_false h,aA]
 go_in
 go_wp2;go_ret;exact⟨rfl,c.out⟩
theorem Un (N:Aw) (nm:List UInt8) (x:Nat) (a:Option Addr) (n cap:Nat) (z:Nat×Nat) (d:Int) (W:World) (_hn:n<=8796093022208):En N 6 nm x a n cap z d W:=by
 unfold En;have e:Hid (Bi N 6 nm x n d=(decide (n=1)&&decide (nm=[]))):=rfl;rw[e.out];have b:=aC (Ad W (.cells #[.int .i64 6,.string ⟨nm.toArray⟩,.float .f64 x,.slice a n cap,.complex .f64 z.1 z.2] 60));by_cases h:n=1
 ·subst h
  rw[decide_eq_true rfl,aB]
  cases nm with
  | nil =>
    rw[decide_eq_true rfl]
    go_in
    go_wp2;go_ret;exact⟨rfl,b.out⟩
  | cons c r =>
    have f:=Ex (c:=c) (r:=r);rw[decide_eq_false (by simp)]
    go_in
    go_wp2;go_ret;exact⟨rfl,b.out⟩
 rw[decide_eq_false h,aA]
 go_in
 go_wp2;go_ret;exact⟨rfl,b.out⟩
theorem Uo (N:Aw) (nm:List UInt8) (x:Nat) (a:Option Addr) (n cap:Nat) (z:Nat×Nat) (i:Int) (W:World) (_hn:n<=8796093022208) (p:n=2->∃(b:Nat) (xs:World) (f:Int) (d:List UInt8) (s:Nat) (q:Value) (m o:Nat),a=some ⟨b,0,none⟩/\xs=(W.alloc (.cells #[.int .i64 7,.string ⟨nm.toArray⟩,.float .f64 x,.slice a n cap,.complex .f64 z.1 z.2] 60))/\xs.cell? ⟨b,0,none⟩=some (.int .i64 f)/\xs.cell? ⟨b,1,none⟩=some (.string ⟨d.toArray⟩)/\xs.cell? ⟨b,2,none⟩=some (.float .f64 s)/\xs.cell? ⟨b,3,none⟩=some q/\xs.cell? ⟨b,4,none⟩=some (.complex .f64 m o)/\f=i /\
  ∀l,Calls prog 115 #[.agg #[.int .i64 f,.string ⟨d.toArray⟩,.float .f64 s,q,.complex .f64 m o]] l fun e r=>e = .returned (.bool (PM f))/\Below l.heap.size l r):En N 7 nm x a n cap z i W:=by
 unfold En;have u:Hid (Bi N 7 nm x n i=(decide (n=2)&&(Gh [[61],[43,61],[45,61],[42,61],[47,61],[37,61],[94,61]] nm&&PM i))):=rfl;rw[u.out];have c:=aC (Ad W (.cells #[.int .i64 7,.string ⟨nm.toArray⟩,.float .f64 x,.slice a n cap,.complex .f64 z.1 z.2] 60));have j:Hid (∀W,Calls prog 46 #[.string ⟨[61,32,43,61,32,45,61,32,42,61,32,47,61,32,37,61,32,94,61].toArray⟩,.string ⟨nm.toArray⟩] W fun e r=>e = .returned (.bool (Gh [[61],[43,61],[45,61],[42,61],[47,61],[37,61],[94,61]] nm))/\W=r):=fun W=>Ir _ _ (by kernel_rfl) (by decide) nm W;generalize Gh [[61],[43,61],[45,61],[42,61],[47,61],[37,61],[94,61]] nm=b at j ⊢
 clear u;by_cases h:n=2
 ·subst h
  obtain⟨y,xs,f,d,s,q,m,o,rfl,rfl,A,B,C,D,E,rfl,v⟩:=p rfl;have t:=aC v;clear p v;rw[decide_eq_true rfl,aB]
  cases b with
  | true =>
    rw[aB];generalize PM f=lb at t ⊢
    go_in
    go_wp2_with (first | (go_at_call 46;refine(j.out _).mono ?_;rintro e w ⟨rfl,rfl⟩) | (go_at_call 115;refine(t.out _).mono ?_;rintro e F ⟨rfl,g⟩;have k:=aC (c.out.trans (g.mono c.out.size));clear g))
    go_ret;exact⟨rfl,k.out⟩
  | false =>
    rw[aA]
    go_in
    go_wp2_with (go_at_call 46;refine(j.out _).mono ?_;rintro e w ⟨rfl,rfl⟩)
    go_ret;exact⟨rfl,c.out⟩
 clear p;rw[decide_eq_false h,aA]
 go_in
 go_wp2;go_ret;exact⟨rfl,c.out⟩
theorem Up (N:Aw) (nm:List UInt8) (x:Nat) (a:Option Addr) (n cap:Nat) (z:Nat×Nat) (d:Int) (W:World) (_hn:n<=8796093022208):En N 8 nm x a n cap z d W:=by
 unfold En;have e:Hid (Bi N 8 nm x n d=(decide (n=3)&&decide (nm=[]))):=rfl;rw[e.out];have b:=aC (Ad W (.cells #[.int .i64 8,.string ⟨nm.toArray⟩,.float .f64 x,.slice a n cap,.complex .f64 z.1 z.2] 60));by_cases h:n=3
 ·subst h
  rw[decide_eq_true rfl,aB]
  cases nm with
  | nil =>
    rw[decide_eq_true rfl]
    go_in
    go_wp2;go_ret;exact⟨rfl,b.out⟩
  | cons c r =>
    have f:=Ex (c:=c) (r:=r);rw[decide_eq_false (by simp)]
    go_in
    go_wp2;go_ret;exact⟨rfl,b.out⟩
 rw[decide_eq_false h,aA]
 go_in
 go_wp2;go_ret;exact⟨rfl,b.out⟩
theorem Uq (N:Aw) (nm:List UInt8) (x:Nat) (a:Option Addr) (n cap:Nat) (z:Nat×Nat) (d:Int) (W:World) (_hn:n<=8796093022208):En N 9 nm x a n cap z d W:=by
 unfold En;have e:Hid (Bi N 9 nm x n d=(decide (n=2)&&decide (nm=[]))):=rfl;rw[e.out];have b:=aC (Ad W (.cells #[.int .i64 9,.string ⟨nm.toArray⟩,.float .f64 x,.slice a n cap,.complex .f64 z.1 z.2] 60));by_cases h:n=2
 ·subst h
  rw[decide_eq_true rfl,aB]
  cases nm with
  | nil =>
    rw[decide_eq_true rfl]
    go_in
    go_wp2;go_ret;exact⟨rfl,b.out⟩
  | cons c r =>
    have f:=Ex (c:=c) (r:=r);rw[decide_eq_false (by simp)]
    go_in
    go_wp2;go_ret;exact⟨rfl,b.out⟩
 rw[decide_eq_false h,aA]
 go_in
 go_wp2;go_ret;exact⟨rfl,b.out⟩
theorem SH (N:Aw) (nm:List UInt8) (x:Nat) (a:Option Addr) (n cap:Nat) (z:Nat×Nat) (d:Int) (W:World) (_hn:n<=8796093022208):En N 10 nm x a n cap z d W:=by
 unfold En;have e:Hid (Bi N 10 nm x n d=(decide (n=2)&&decide (nm=[]))):=rfl;rw[e.out];have b:=aC (Ad W (.cells #[.int .i64 10,.string ⟨nm.toArray⟩,.float .f64 x,.slice a n cap,.complex .f64 z.1 z.2] 60));by_cases h:n=2
 ·subst h
  rw[decide_eq_true rfl,aB]
  cases nm with
  | nil =>
    rw[decide_eq_true rfl]
    go_in
    go_wp2;go_ret;exact⟨rfl,b.out⟩
  | cons c r =>
    have f:=Ex (c:=c) (r:=r);rw[decide_eq_false (by simp)]
    go_in
    go_wp2;go_ret;exact⟨rfl,b.out⟩
 rw[decide_eq_false h,aA]
 go_in
 go_wp2;go_ret;exact⟨rfl,b.out⟩
theorem SI (N:Aw) (nm:List UInt8) (x:Nat) (a:Option Addr) (n cap:Nat) (z:Nat×Nat) (i:Int) (W:World) (_hn:n<=8796093022208) (d:∀nm,N.name nm=BM nm) (k:nm.length<=8796093022208):En N 11 nm x a n cap z i W:=by
 unfold En;have g:Hid (Bi N 11 nm x n i=(decide (1<=n)&&N.name nm)):=rfl;rw[g.out];have c:=aC (Ad W (.cells #[.int .i64 11,.string ⟨nm.toArray⟩,.float .f64 x,.slice a n cap,.complex .f64 z.1 z.2] 60));have f:Hid (∀W,Calls prog 53 #[.string ⟨nm.toArray⟩] W fun e j=>e = .returned (.bool (N.name nm))/\W=j):=fun W=>by rw[d];exact CM ⟨nm.toArray⟩ W (by simp only[aD,aE];omega)
 clear d;generalize N.name nm=b at f ⊢;clear g;by_cases h:1<=n
 ·rw[decide_eq_true h,aB]
  go_in
  go_wp2_with (go_at_call 53;refine(f.out _).mono ?_;rintro e l ⟨rfl,rfl⟩)
  go_ret;exact⟨rfl,c.out⟩
 rw[decide_eq_false h,aA]
 go_in
 go_wp2;go_ret;exact⟨rfl,c.out⟩
theorem SJ (N:Aw) (nm:List UInt8) (x:Nat) (a:Option Addr) (n cap:Nat) (z:Nat×Nat) (g:Int) (W:World) (_hn:n<=8796093022208):En N 12 nm x a n cap z g W:=by
 unfold En;have f:Hid (Bi N 12 nm x n g=(decide (n=2)&&Gh [[126],[33,126]] nm)):=rfl;rw[f.out];have c:=aC (Ad W (.cells #[.int .i64 12,.string ⟨nm.toArray⟩,.float .f64 x,.slice a n cap,.complex .f64 z.1 z.2] 60));have d:Hid (∀W,Calls prog 46 #[.string ⟨[126,32,33,126].toArray⟩,.string ⟨nm.toArray⟩] W fun e i=>e = .returned (.bool (Gh [[126],[33,126]] nm))/\W=i):=fun W=>Ir _ _ (by kernel_rfl) (by decide) nm W;generalize Gh [[126],[33,126]] nm=b at d ⊢;clear f;by_cases h:n=2
 ·subst h
  rw[decide_eq_true rfl,aB]
  go_in
  go_wp2_with (go_at_call 46;refine(d.out _).mono ?_;rintro e j ⟨rfl,rfl⟩)
  go_ret;exact⟨rfl,c.out⟩
 rw[decide_eq_false h,aA]
 go_in
 go_wp2;go_ret;exact⟨rfl,c.out⟩
theorem SK (N:Aw) (nm:List UInt8) (x:Nat) (a:Option Addr) (n cap:Nat) (z:Nat×Nat) (g:Int) (W:World) (_hn:n<=8796093022208):En N 13 nm x a n cap z g W:=by
 unfold En;have f:Hid (Bi N 13 nm x n g=(decide (n=2)&&Gh [[60],[60,61],[61,61],[33,61],[62],[62,61]] nm)):=rfl;rw[f.out];have c:=aC (Ad W (.cells #[.int .i64 13,.string ⟨nm.toArray⟩,.float .f64 x,.slice a n cap,.complex .f64 z.1 z.2] 60));have d:Hid (∀W,Calls prog 46 #[.string ⟨[60,32,60,61,32,61,61,32,33,61,32,62,32,62,61].toArray⟩,.string ⟨nm.toArray⟩] W fun e i=>e = .returned (.bool (Gh [[60],[60,61],[61,61],[33,61],[62],[62,61]] nm))/\W=i):=fun W=>Ir _ _ (by kernel_rfl) (by decide) nm W;generalize Gh [[60],[60,61],[61,61],[33,61],[62],[62,61]] nm=b at d ⊢;clear f;by_cases h:n=2
 ·subst h
  rw[decide_eq_true rfl,aB]
  go_in
  go_wp2_with (go_at_call 46;refine(d.out _).mono ?_;rintro e j ⟨rfl,rfl⟩)
  go_ret;exact⟨rfl,c.out⟩
 rw[decide_eq_false h,aA]
 go_in
 go_wp2;go_ret;exact⟨rfl,c.out⟩
theorem SL (N:Aw) (nm:List UInt8) (x:Nat) (a:Option Addr) (n cap:Nat) (z:Nat×Nat) (d:Int) (W:World) (_hn:n<=8796093022208):En N 14 nm x a n cap z d W:=by
 unfold En;have e:Hid (Bi N 14 nm x n d=(decide (n=2)&&decide (nm=[]))):=rfl;rw[e.out];have b:=aC (Ad W (.cells #[.int .i64 14,.string ⟨nm.toArray⟩,.float .f64 x,.slice a n cap,.complex .f64 z.1 z.2] 60));by_cases h:n=2
 ·subst h
  rw[decide_eq_true rfl,aB]
  cases nm with
  | nil =>
    rw[decide_eq_true rfl]
    go_in
    go_wp2;go_ret;exact⟨rfl,b.out⟩
  | cons c r =>
    have f:=Ex (c:=c) (r:=r);rw[decide_eq_false (by simp)]
    go_in
    go_wp2;go_ret;exact⟨rfl,b.out⟩
 rw[decide_eq_false h,aA]
 go_in
 go_wp2;go_ret;exact⟨rfl,b.out⟩
theorem SM (N:Aw) (nm:List UInt8) (x:Nat) (a:Option Addr) (n cap:Nat) (z:Nat×Nat) (g:Int) (W:World) (_hn:n<=8796093022208):En N 15 nm x a n cap z g W:=by
 unfold En;have f:Hid (Bi N 15 nm x n g=(decide (n=2)&&Gh [[43],[45],[42],[47],[37],[94]] nm)):=rfl;rw[f.out];have c:=aC (Ad W (.cells #[.int .i64 15,.string ⟨nm.toArray⟩,.float .f64 x,.slice a n cap,.complex .f64 z.1 z.2] 60));have d:Hid (∀W,Calls prog 46 #[.string ⟨[43,32,45,32,42,32,47,32,37,32,94].toArray⟩,.string ⟨nm.toArray⟩] W fun e i=>e = .returned (.bool (Gh [[43],[45],[42],[47],[37],[94]] nm))/\W=i):=fun W=>Ir _ _ (by kernel_rfl) (by decide) nm W;generalize Gh [[43],[45],[42],[47],[37],[94]] nm=b at d ⊢;clear f;by_cases h:n=2
 ·subst h
  rw[decide_eq_true rfl,aB]
  go_in
  go_wp2_with (go_at_call 46;refine(d.out _).mono ?_;rintro e j ⟨rfl,rfl⟩)
  go_ret;exact⟨rfl,c.out⟩
 rw[decide_eq_false h,aA]
 go_in
 go_wp2;go_ret;exact⟨rfl,c.out⟩
theorem SN (N:Aw) (nm:List UInt8) (x:Nat) (a:Option Addr) (n cap:Nat) (z:Nat×Nat) (g:Int) (W:World) (_hn:n<=8796093022208):En N 16 nm x a n cap z g W:=by
 unfold En;have f:Hid (Bi N 16 nm x n g=(decide (n=1)&&Gh [[33],[45],[43]] nm)):=rfl;rw[f.out];have c:=aC (Ad W (.cells #[.int .i64 16,.string ⟨nm.toArray⟩,.float .f64 x,.slice a n cap,.complex .f64 z.1 z.2] 60));have d:Hid (∀W,Calls prog 46 #[.string ⟨[33,32,45,32,43].toArray⟩,.string ⟨nm.toArray⟩] W fun e i=>e = .returned (.bool (Gh [[33],[45],[43]] nm))/\W=i):=fun W=>Ir _ _ (by kernel_rfl) (by decide) nm W;generalize Gh [[33],[45],[43]] nm=b at d ⊢;clear f;by_cases h:n=1
 ·subst h
  rw[decide_eq_true rfl,aB]
  go_in
  go_wp2_with (go_at_call 46;refine(d.out _).mono ?_;rintro e j ⟨rfl,rfl⟩)
  go_ret;exact⟨rfl,c.out⟩
 rw[decide_eq_false h,aA]
 go_in
 go_wp2;go_ret;exact⟨rfl,c.out⟩
theorem SO (N:Aw) (nm:List UInt8) (x:Nat) (a:Option Addr) (n cap:Nat) (z:Nat×Nat) (i:Int) (W:World) (_hn:n<=8796093022208) (p:n=1->∃(b:Nat) (xs:World) (f:Int) (d:List UInt8) (s:Nat) (q:Value) (m o:Nat),a=some ⟨b,0,none⟩/\xs=(W.alloc (.cells #[.int .i64 17,.string ⟨nm.toArray⟩,.float .f64 x,.slice a n cap,.complex .f64 z.1 z.2] 60))/\xs.cell? ⟨b,0,none⟩=some (.int .i64 f)/\xs.cell? ⟨b,1,none⟩=some (.string ⟨d.toArray⟩)/\xs.cell? ⟨b,2,none⟩=some (.float .f64 s)/\xs.cell? ⟨b,3,none⟩=some q/\xs.cell? ⟨b,4,none⟩=some (.complex .f64 m o)/\f=i /\
  ∀l,Calls prog 115 #[.agg #[.int .i64 f,.string ⟨d.toArray⟩,.float .f64 s,q,.complex .f64 m o]] l fun e r=>e = .returned (.bool (PM f))/\Below l.heap.size l r):En N 17 nm x a n cap z i W:=by
 unfold En;have u:Hid (Bi N 17 nm x n i=(decide (n=1)&&(Gh [[43,43],[45,45]] nm&&PM i))):=rfl;rw[u.out];have c:=aC (Ad W (.cells #[.int .i64 17,.string ⟨nm.toArray⟩,.float .f64 x,.slice a n cap,.complex .f64 z.1 z.2] 60));have j:Hid (∀W,Calls prog 46 #[.string ⟨[43,43,32,45,45].toArray⟩,.string ⟨nm.toArray⟩] W fun e r=>e = .returned (.bool (Gh [[43,43],[45,45]] nm))/\W=r):=fun W=>Ir _ _ (by kernel_rfl) (by decide) nm W;generalize Gh [[43,43],[45,45]] nm=b at j ⊢;clear u;by_cases h:n=1
 ·subst h
  obtain⟨y,xs,f,d,s,q,m,o,rfl,rfl,A,B,C,D,E,rfl,v⟩:=p rfl;have t:=aC v;clear p v;rw[decide_eq_true rfl,aB]
  cases b with
  | true =>
    rw[aB];generalize PM f=lb at t ⊢
    go_in
    go_wp2_with (first | (go_at_call 46;refine(j.out _).mono ?_;rintro e w ⟨rfl,rfl⟩) | (go_at_call 115;refine(t.out _).mono ?_;rintro e F ⟨rfl,g⟩;have k:=aC (c.out.trans (g.mono c.out.size));clear g))
    go_ret;exact⟨rfl,k.out⟩
  | false =>
    rw[aA]
    go_in
    go_wp2_with (go_at_call 46;refine(j.out _).mono ?_;rintro e w ⟨rfl,rfl⟩)
    go_ret;exact⟨rfl,c.out⟩
 clear p;rw[decide_eq_false h,aA]
 go_in
 go_wp2;go_ret;exact⟨rfl,c.out⟩
theorem SP (N:Aw) (nm:List UInt8) (x:Nat) (a:Option Addr) (n cap:Nat) (z:Nat×Nat) (i:Int) (W:World) (_hn:n<=8796093022208) (p:n=1->∃(b:Nat) (xs:World) (f:Int) (d:List UInt8) (s:Nat) (q:Value) (m o:Nat),a=some ⟨b,0,none⟩/\xs=(W.alloc (.cells #[.int .i64 18,.string ⟨nm.toArray⟩,.float .f64 x,.slice a n cap,.complex .f64 z.1 z.2] 60))/\xs.cell? ⟨b,0,none⟩=some (.int .i64 f)/\xs.cell? ⟨b,1,none⟩=some (.string ⟨d.toArray⟩)/\xs.cell? ⟨b,2,none⟩=some (.float .f64 s)/\xs.cell? ⟨b,3,none⟩=some q/\xs.cell? ⟨b,4,none⟩=some (.complex .f64 m o)/\f=i /\
  ∀l,Calls prog 115 #[.agg #[.int .i64 f,.string ⟨d.toArray⟩,.float .f64 s,q,.complex .f64 m o]] l fun e r=>e = .returned (.bool (PM f))/\Below l.heap.size l r):En N 18 nm x a n cap z i W:=by
 unfold En;have u:Hid (Bi N 18 nm x n i=(decide (n=1)&&(Gh [[43,43],[45,45]] nm&&PM i))):=rfl;rw[u.out];have c:=aC (Ad W (.cells #[.int .i64 18,.string ⟨nm.toArray⟩,.float .f64 x,.slice a n cap,.complex .f64 z.1 z.2] 60));have j:Hid (∀W,Calls prog 46 #[.string ⟨[43,43,32,45,45].toArray⟩,.string ⟨nm.toArray⟩] W fun e r=>e = .returned (.bool (Gh [[43,43],[45,45]] nm))/\W=r):=fun W=>Ir _ _ (by kernel_rfl) (by decide) nm W;generalize Gh [[43,43],[45,45]] nm=b at j ⊢;clear u;by_cases h:n=1
 ·subst h
  obtain⟨y,xs,f,d,s,q,m,o,rfl,rfl,A,B,C,D,E,rfl,v⟩:=p rfl;have t:=aC v;clear p v;rw[decide_eq_true rfl,aB]
  cases b with
  | true =>
    rw[aB];generalize PM f=lb at t ⊢
    go_in
    go_wp2_with (first | (go_at_call 46;refine(j.out _).mono ?_;rintro e w ⟨rfl,rfl⟩) | (go_at_call 115;refine(t.out _).mono ?_;rintro e F ⟨rfl,g⟩;have k:=aC (c.out.trans (g.mono c.out.size));clear g))
    go_ret;exact⟨rfl,k.out⟩
  | false =>
    rw[aA]
    go_in
    go_wp2_with (go_at_call 46;refine(j.out _).mono ?_;rintro e w ⟨rfl,rfl⟩)
    go_ret;exact⟨rfl,c.out⟩
 clear p;rw[decide_eq_false h,aA]
 go_in
 go_wp2;go_ret;exact⟨rfl,c.out⟩
theorem SQ (N:Aw) (nm:List UInt8) (x:Nat) (a:Option Addr) (n cap:Nat) (z:Nat×Nat) (i:Int) (W:World) (_hn:n<=8796093022208) (d:∀nm,N.name nm=BM nm) (o:nm.length<=8796093022208):En N 19 nm x a n cap z i W:=by
 unfold En;have k:Hid (Bi N 19 nm x n i=(N.name nm&&decide (nm≠UH))):=rfl;rw[k.out];have c:=aC (Ad W (.cells #[.int .i64 19,.string ⟨nm.toArray⟩,.float .f64 x,.slice a n cap,.complex .f64 z.1 z.2] 60));have f:Hid (∀W,Calls prog 53 #[.string ⟨nm.toArray⟩] W fun e m=>e = .returned (.bool (N.name nm))/\W=m):=fun W=>by rw[d];exact CM ⟨nm.toArray⟩ W (by simp only[aD,aE];omega)
 clear d;generalize N.name nm=b at f ⊢
 cases b with
 | true =>
   rw[aB];by_cases g:nm=UH
   ·subst g
    rw[decide_eq_false (fun h=>h rfl)]
    go_in
    go_wp2_with (go_at_call 53;refine(f.out _).mono ?_;rintro e j ⟨rfl,rfl⟩)
    go_ret;exact⟨rfl,c.out⟩
   rw[decide_eq_true g];have l:¬ (⟨nm.toArray⟩:ByteArray)=⟨#[115,121,115,116,101,109]⟩:=fun h=>g (congrArg (fun x:ByteArray=>x.data.toList) h)
   go_in
   go_wp2_with (go_at_call 53;refine(f.out _).mono ?_;rintro e j ⟨rfl,rfl⟩)
   go_ret;exact⟨by simpa[UH] using g,c.out⟩
 | false =>
   rw[aA]
   go_in
   go_wp2_with (go_at_call 53;refine(f.out _).mono ?_;rintro e j ⟨rfl,rfl⟩)
   go_ret;exact⟨rfl,c.out⟩
theorem SR (N:Aw) (nm:List UInt8) (x:Nat) (a:Option Addr) (n cap:Nat) (z:Nat×Nat) (g:Int) (W:World) (_hn:n<=8796093022208) (c:∀nm,N.built nm=B1 nm):En N 20 nm x a n cap z g W:=by
 unfold En;have h:Hid (Bi N 20 nm x n g=N.built nm):=rfl;rw[h.out];have d:=aC (Ad W (.cells #[.int .i64 20,.string ⟨nm.toArray⟩,.float .f64 x,.slice a n cap,.complex .f64 z.1 z.2] 60));have f:Hid (∀W,Calls prog 23 #[.string ⟨nm.toArray⟩] W fun e i=>e = .returned (.bool (N.built nm))/\W=i):=fun W=>by rw[c];exact DK ⟨nm.toArray⟩ W
 clear c;generalize N.built nm=b at f ⊢
 go_in
 go_wp2_with (go_at_call 23;refine(f.out _).mono ?_;rintro e j ⟨rfl,rfl⟩)
 go_ret;exact⟨rfl,d.out⟩
theorem Uh (N:Aw) (k:Int) (nm:List UInt8) (x:Nat) (a:Option Addr) (n cap:Nat) (z:Nat×Nat) (q:Int) (W:World) (r:¬ k=1) (s:¬ k=2) (t:¬ k=3) (u:¬ k=4) (v:¬ k=5) (w:¬ k=6) (y:¬ k=7) (A:¬ k=8) (B:¬ k=9) (c:¬ k=10) (d:¬ k=11) (e:¬ k=12) (f:¬ k=13) (g:¬ k=14) (h:¬ k=15) (i:¬ k=16) (j:¬ k=17) (l:¬ k=18) (m:¬ k=19) (o:¬ k=20):En N k nm x a n cap z q W:=by
 unfold En;have p:Hid (Bi N k nm x n q=false):=by unfold Hid Bi;simp only[r,s,t,u,v,w,y,A,B,c,d,e,f,g,h,i,j,l,m,o,if_false,or_self]
 rw[p.out];have b:=aC (Ad W (.cells #[.int .i64 k,.string ⟨nm.toArray⟩,.float .f64 x,.slice a n cap,.complex .f64 z.1 z.2] 60));clear p
 go_in
 go_wp2;go_ret;exact⟨rfl,b.out⟩
theorem Qo (Q:List UInt8->Prop) (N:Aw) (w0:World) (g:∀nm,N.name nm=BM nm) (J:∀nm,N.built nm=B1 nm) (K:∀x,N.num x=(ER x&&decide (x<18446744073709551616))) (hP:VZ Q N w0):KF Q N w0:=by
 intro t kv W hq hx C hk hW;obtain⟨k,nm,x,z,ks⟩:=t;have O:N.num x=ER x:=(by rw[K,decide_eq_true (show x<18446744073709551616 from hx),Bool.and_true]);have i:Am 60 W (fun _=>True) ks kv:=hk;obtain⟨a,c,M⟩:=i.slice;subst M;rw[CD] at C;have D:nm.length<=8796093022208:=by omega
 have d:ks.length<=8796093022208:=by
  have:∀l:List Tr,l.length<=Bh l:=by
   intro l
   induction l with
   | nil=>simp
   | cons t ts ih=>rw[AU,List.length_cons];omega
  have:=this ks;omega
 have R:k=3->Q nm:=hq
 have P:Q nm->∀f,Below W.heap.size W f->Calls prog 114 #[.string ⟨nm.toArray⟩] f fun e G=>e = .returned (.bool (N.pat nm))/\Below f.heap.size f G :=
  fun h f L=>hP nm f h D (hW.trans (L.mono hW.size))
 have m:∀j:Int,1<=ks.length->∃(b:Nat) (xs:World) (I:Int) (F:List UInt8) (x1:Nat) (E:Value) (U V:Nat),a=some ⟨b,0,none⟩/\xs=(W.alloc (.cells #[.int .i64 j,.string ⟨nm.toArray⟩,.float .f64 x,.slice a ks.length c,.complex .f64 z.1 z.2] 60))/\xs.cell? ⟨b,0,none⟩=some (.int .i64 I)/\xs.cell? ⟨b,1,none⟩=some (.string ⟨F.toArray⟩)/\xs.cell? ⟨b,2,none⟩=some (.float .f64 x1)/\xs.cell? ⟨b,3,none⟩=some E/\xs.cell? ⟨b,4,none⟩=some (.complex .f64 U V)/\I=Fg ks /\
   ∀f,Calls prog 115 #[.agg #[.int .i64 I,.string ⟨F.toArray⟩,.float .f64 x1,E,.complex .f64 U V]] f fun e G=>e = .returned (.bool (PM I))/\Below f.heap.size f G:=by
  intro j H;obtain⟨b,cp,E,hv,t,S,a0,e0,e1,e2,e3,e4⟩:=i.cells 0 H;injection hv with T _ _;refine⟨b,_,t.kd,t.nm,t.x,E,t.z.1,t.z.2,T,rfl,Az e0 _,Az e1 _,Az e2 _,Az e3 _,Az e4 _,?_,fun f=>Nu t E f⟩;unfold Fg
  cases ks with
  | nil=>simp at S
  | cons u us=>simp at S;subst S;rfl
 clear hk i hP hq hx;show Calls prog 91 #[.agg #[.int .i64 k,.string ⟨nm.toArray⟩,.float .f64 x,.slice a ks.length c,.complex .f64 z.1 z.2]] W fun e G=>e = .returned (.bool (Bi N k nm x ks.length (Fg ks)))/\Below W.heap.size W G;by_cases H:k=1
 ·subst H;exact Ui N nm x a ks.length c z (Fg ks) W d O
 by_cases X:k=2
 ·subst X;exact Uj N nm x a ks.length c z (Fg ks) W d
 by_cases Y:k=3
 ·subst Y;exact Uk N nm x a ks.length c z (Fg ks) W d (P (R rfl))
 by_cases Z:k=4
 ·subst Z;exact Ul N nm x a ks.length c z (Fg ks) W d g D
 by_cases h5:k=5
 ·subst h5;exact Um N nm x a ks.length c z (Fg ks) W d g D
 by_cases h6:k=6
 ·subst h6;exact Un N nm x a ks.length c z (Fg ks) W d
 by_cases h7:k=7
 ·subst h7;exact Uo N nm x a ks.length c z (Fg ks) W d (fun h=>m _ (by omega))
 by_cases h8:k=8
 ·subst h8;exact Up N nm x a ks.length c z (Fg ks) W d
 by_cases h9:k=9
 ·subst h9;exact Uq N nm x a ks.length c z (Fg ks) W d
 by_cases n:k=10
 ·subst n;exact SH N nm x a ks.length c z (Fg ks) W d
 by_cases o:k=11
 ·subst o;exact SI N nm x a ks.length c z (Fg ks) W d g D
 by_cases p:k=12
 ·subst p;exact SJ N nm x a ks.length c z (Fg ks) W d
 by_cases q:k=13
 ·subst q;exact SK N nm x a ks.length c z (Fg ks) W d
 by_cases r:k=14
 ·subst r;exact SL N nm x a ks.length c z (Fg ks) W d
 by_cases s:k=15
 ·subst s;exact SM N nm x a ks.length c z (Fg ks) W d
 by_cases v:k=16
 ·subst v;exact SN N nm x a ks.length c z (Fg ks) W d
 by_cases w:k=17
 ·subst w;exact SO N nm x a ks.length c z (Fg ks) W d (fun h=>m _ (by omega))
 by_cases y:k=18
 ·subst y;exact SP N nm x a ks.length c z (Fg ks) W d (fun h=>m _ (by omega))
 by_cases A:k=19
 ·subst A;exact SQ N nm x a ks.length c z (Fg ks) W d g D
 by_cases B:k=20
 ·subst B;exact SR N nm x a ks.length c z (Fg ks) W d J
 exact Uh N k nm x a ks.length c z (Fg ks) W H X Y Z h5 h6 h7 h8 h9 n o p q r s v w y A B
end Go.Proofs.YtipfpohlnhmlpaaGreatDoor
