/- Be Dd De -/
import Derived.Test.YtjolfpcpcaocmaaGreatDoorBb
import Derived.KernelRfl
import GoSem.Op.Complex
set_option maxRecDepth 100000
set_option maxHeartbeats 1600000
open Nat renaming pow_pos->aA,mul_lt_mul_right->aB,mul_pos->aD,pow_add->aE
namespace Go.Proofs.YtjolfpcpcaocmaaGreatDoor
open Go.Proofs.Tryz
open Go.RowKit
def PlC (pl:Nat->Nat×Nat) (s:ByteArray):Prop:=∀f w,f<=s.size->Calls prog 9 #[.string s,.int .i64 f] w fun e a=>e = .returned (.complex .f64 (pl f).1 (pl f).2)/\w=a
theorem E2 {pl:Nat->Nat×Nat} {j W:World} {q:Nat} {s:ByteArray} {p:Ps} (l:PlC pl s) (h:Py j q s p W) (t:Tk) (E:t.f<=s.size) (F:t.t<=s.size) (D : -(t.t:Int)<=p.deep) :
  Calls prog 16 #[.pointer (some ⟨q,0,none⟩),G1 t] W fun e m=>e = .returned (.complex .f64 (pl t.f).1 (pl t.f).2)/\Pz j q s (CQ t p) m/\Ae q W m:=by
 have n:=Lib.hid (fun w=>l t.f w E);obtain⟨o,k⟩:∃o:Obj,o = .cells #[.int .i64 t.kd,.string ⟨t.tx.toArray⟩,.float .f64 t.nm,.int .i64 t.f,.int .i64 t.t] 49:=⟨_,rfl⟩;have C:=Lib.hid (Ad W o);have g:=Lib.hid (h.c.below (Ad W o));obtain⟨r,u,v,x,y⟩:=h.c.below (Ad W o);have i:q≠W.heap.size:=by have:=h.lt;omega
 obtain⟨X,b⟩:∃X,X=(W.alloc o).setCell ⟨q,1,none⟩ (.int .i64 t.t):=⟨_,rfl⟩;have z:X.drew.cell? ⟨q,0,none⟩=some (.string s):=by rw[b];exact(g.out.set1 _).c0
 have A:X.drew.cell? ⟨W.heap.size,3,none⟩=some (.int .i64 t.f):=by
  rw[b];show ((W.alloc o).setCell _ _).cell? _=_;rw[Ag (fun e=>i (by injection e)),k,World.cell?_alloc_at _ _ _ _ rfl];rfl
 have B:Hid (Pz j q s (CQ t p) X.drew/\Ae q W X.drew):=by
  refine⟨⟨?_,h.hq,?_,F,h.hs,D,h.d2⟩,?_⟩
  ·rw[b]
   have a:=Below.setCell (h.below.trans ((Ad W o).mono h.below.size)) (p:=⟨q,1,none⟩) h.hq (.int .i64 t.t);exact⟨a.os,a.tape,a.output,a.size,a.block⟩
  ·rw[b]
   exact(g.out.set1 _).kept rfl
  rw[b];exact((Ae.of_below q (Ad W o)).set 1 _).drew
 subst k;have d:=Lib.hid b;clear h l b g C;unfold G1
 go_in
 go_wp2_with fail
 rw[<- d.out];clear r u v x y
 go_region_held3 (fun o=>o.cell? ⟨q,0,none⟩=some (.string s)/\o.cell? ⟨W.heap.size,3,none⟩=some (.int .i64 t.f)) (first | with_reducible exact⟨z,A⟩)
  (first | (go_at_call 9;refine(n.out _).mono ?_;rintro e G ⟨rfl,rfl⟩))
 go_wp2;go_ret;exact⟨rfl,B.out⟩
end Go.Proofs.YtjolfpcpcaocmaaGreatDoor
namespace Go
open Ieee
def KK (n:Nat):Nat:=(1023+n.log2)*4503599627370496+(n-2^n.log2)*2^(52-n.log2)
def eqO (o:Option Nat) (y:Nat):Bool:=match o with
 | some x=>Nat.beq x y
 | none=>false
theorem ZZ:∀ {o:Option Nat} {y:Nat},eqO o y=true->o=some y
 | some _,_,h=>congrArg some (Nat.eq_of_beq_eq_true h)
 | none,_,h=>nomatch h
def okF (k n:Nat):Bool:=eqO (FloatKind.f64.format.add (KK (n+1)) k) (KK (n+2))
def Xr (k o:Nat):Nat->Bool
 | 0=>true
 | m+1=>cond (okF k (m+o)) (Xr k o m) false
theorem LO (k o:Nat):∀m:Nat,Xr k o m=true->∀j,o<=j->j<m+o->okF k j=true
 | 0,_,j,h1,h2=>by omega
 | m+1,h,j,h1,h2=>by
   unfold Xr at h
   cases e:okF k (m+o) with
   | false=>rw[e] at h;cases h
   | true =>
     rw[e] at h;by_cases a:j=m+o
     ·exact a▸e
     exact LO k o m h j h1 (by omega)
theorem Z5 {k n:Nat} (h:okF k n=true):FloatKind.f64.format.add (KK (n+1)) k=some (KK (n+2)):=ZZ h
theorem Aad:Xr 4607182418800017408 0 683=true:=by kernel_rfl
theorem Aae:Xr 4607182418800017408 683 683=true:=by kernel_rfl
theorem Aaf:Xr 4607182418800017408 1366 683=true:=by kernel_rfl
theorem Aag:Xr 4607182418800017408 2049 683=true:=by kernel_rfl
theorem Aah:Xr 4607182418800017408 2732 683=true:=by kernel_rfl
theorem Aai:Xr 4607182418800017408 3415 683=true:=by kernel_rfl
theorem V2 (n:Nat) (c:0<n) (h:n<=4097):FloatKind.f64.format.add (KK n) 4607182418800017408=some (KK (n+1)):=by
 have b:okF 4607182418800017408 (n-1)=true:=by
  have a:n-1<683\/(683<=n-1/\n-1<1366)\/(1366<=n-1/\n-1<2049)\/(2049<=n-1/\n-1<2732)\/(2732<=n-1/\n-1<3415)\/(3415<=n-1/\n-1<4098):=(by omega);rcases a with a | a | a | a | a | a
  ·exact LO _ _ _ Aad (n-1) (by omega) (by omega)
  ·exact LO _ _ _ Aae (n-1) (by omega) (by omega)
  ·exact LO _ _ _ Aaf (n-1) (by omega) (by omega)
  ·exact LO _ _ _ Aag (n-1) (by omega) (by omega)
  ·exact LO _ _ _ Aah (n-1) (by omega) (by omega)
  exact LO _ _ _ Aai (n-1) (by omega) (by omega)
 have:=Z5 b;rw[show n-1+1=n by omega,show n-1+2=n+1 by omega] at this;exact this
theorem YO (E a:Nat) (j:E<=100) (k:a<4503599627370496):FloatKind.f64.format.read ((1023+E)*4503599627370496+a) = .number false (4503599627370496+a) ((E:Int)-52):=by
 have b:FloatKind.f64.format.signWeight=9223372036854775808:=(by decide);have c:FloatKind.f64.format.binade=4503599627370496:=(by decide);have d:FloatKind.f64.format.infRung=9218868437227405312:=(by decide);have e:FloatKind.f64.format.leastPlace = -1074:=(by decide);unfold Format.read;simp only[b,c,d,e];have f:((1023+E)*4503599627370496+a)/9223372036854775808%2=0:=(by omega);have g:((1023+E)*4503599627370496+a)%9223372036854775808=(1023+E)*4503599627370496+a:=(by omega);rw[f,g,if_neg (by omega),if_pos (by omega)];have h:((1023+E)*4503599627370496+a)%4503599627370496=a:=(by omega);have i:((1023+E)*4503599627370496+a)/4503599627370496-1=1022+E:=by omega
 rw[h,i];congr 1;omega
theorem YP:FloatKind.f64.format.read 0 = .number false 0 (-1074):=by decide
theorem X5 (M K:Nat) (b:4503599627370496<=M) (c:M<9007199254740992):(M*2^K).log2=52+K:=by
 have a:0<2^K:=aA (by decide);have d:=aD (show 0<M by omega) a;rw[Nat.log2_eq_iff (by omega)];constructor
 ·rw[aE];exact Nat.mul_le_mul_right _ b
 rw[show 52+K+1=53+K by omega,aE];exact(aB a).2 c
theorem Y' (K M E:Nat) (c:E+1022=K) (b:E<=100) (a:M<9007199254740992):FloatKind.f64.format.word false (min (K*4503599627370496+M) 9218868437227405312)=K*4503599627370496+M:=by
 have:min (K*4503599627370496+M) 9218868437227405312=K*4503599627370496+M:=(by omega);rw[this];rfl
theorem YD (E K M:Nat) (m:E+1022=K) (l:E<=100) (k:4503599627370496<=M) (d:M<9007199254740992):FloatKind.f64.format.nearest false (M<<<K) (-1074)=K*4503599627370496+M:=by
 have f:FloatKind.f64.format.binade=4503599627370496:=(by decide);have g:FloatKind.f64.format.infRung=9218868437227405312:=(by decide);have h:FloatKind.f64.format.leastPlace = -1074:=(by decide);have i:FloatKind.f64.format.fractionBits=52:=(by decide);have b:=X5 M K k d;have o:M<<<K=M*2^K:=Nat.shiftLeft_eq _ _;have c:0<2^K:=aA (by decide);have j:=aD (show 0<M by omega) c;rw[o]
 have e:Toward.even.cut false (M*2^K) K=M:=by
  unfold Toward.cut;simp only[b];rw[show min K (52+K+2)=K by omega,Nat.one_shiftLeft,Nat.mul_div_cancel _ c,Nat.mul_mod_left];have p:decide (2^K<2*0)=false:=decide_eq_false (by omega);have n:(2^K==2*0)=false:=beq_eq_false_iff_ne.2 (by omega);rw[p,n];rfl
 generalize 2^K=G at b c j e ⊢;unfold Format.nearest;simp only[f,g,h,i,b];rw[if_neg (by omega)];have a:max ((-1074:Int)+((52+K:Nat):Int)-((52:Nat):Int)) (-1074)=(E:Int)-52:=(by omega);rw[a,show ((-1074:Int)-((E:Int)-52)).toNat=0 by omega,show ((E:Int)-52-(-1074)).toNat=K by omega,Nat.shiftLeft_zero];rw[e];exact Y' K M E m l d
theorem T2 (E a:Nat) (b:E<=100) (d:a<4503599627370496):FloatKind.f64.format.add ((1023+E)*4503599627370496+a) 0=some ((1023+E)*4503599627370496+a):=by
 unfold Format.add;rw[YO E a b d,YP];unfold Datum.sum;dsimp only;rw[show min ((E:Int)-52) (-1074) = -1074 by omega,show ((E:Int)-52 - -1074).toNat=E+1022 by omega]
 have e:signed false (4503599627370496+a) (E+1022)+signed false 0 (-1074 - -1074:Int).toNat=((((4503599627370496+a)<<<(E+1022):Nat)):Int):=by
  unfold signed;simp
 rw[e];have c:0<(4503599627370496+a)<<<(E+1022):=by rw[Nat.shiftLeft_eq];exact aD (by omega) (aA (by decide))
 rw[if_neg (by omega),Option.map_some];unfold Format.write;dsimp only;rw[show decide ((((4503599627370496+a)<<<(E+1022):Nat):Int)<0)=false from decide_eq_false (by omega),Int.natAbs_natCast];rw[YD E (E+1022) (4503599627370496+a) rfl b (by omega) (by omega)];exact congrArg some (by omega)
theorem XX (n:Nat) (g:0<n) (h:n<=4097):FloatKind.f64.format.add (KK n) 0=some (KK n):=by
 have i:2^n.log2<=n:=Nat.log2_self_le (by omega);have b:n<2^(n.log2+1):=Nat.lt_log2_self
 have j:n.log2<=12:=by
  rcases Nat.lt_or_ge 12 n.log2 with a | a
  ·have:=Nat.pow_le_pow_right (show 0<2 by decide) (show 13<=n.log2 by omega)
   have e:2^13=8192:=(by decide);omega
  exact a
 have f:(n-2^n.log2)*2^(52-n.log2)<4503599627370496:=by
  have c:n-2^n.log2<2^n.log2:=by rw[Nat.pow_succ] at b;omega
  have d:2^n.log2*2^(52-n.log2)=4503599627370496:=(by rw[<- aE,show n.log2+(52-n.log2)=52 by omega]);rw[<- d];exact(aB (aA (by decide))).2 c
 exact T2 _ _ (by omega) f
def R0:List UInt8->Nat×Nat->Nat×Nat
 | [],z=>z
 | c::r,z=>R0 r (if c=10 then (z.1+1,1) else (z.1,z.2+1))
theorem Y_ (l:List UInt8) (c:UInt8) (z:Nat×Nat):R0 (l++[c]) z=if c=10 then ((R0 l z).1+1,1) else ((R0 l z).1,(R0 l z).2+1):=by
 induction l generalizing z with
 | nil=>rfl
 | cons d r a=>exact a _
theorem Zy (l:List UInt8) (z:Nat×Nat) (a:0<z.1) (c:0<z.2):0<(R0 l z).1/\0<(R0 l z).2/\(R0 l z).1<=z.1+l.length/\(R0 l z).2<=z.2+l.length:=by
 induction l generalizing z with
 | nil=>exact⟨a,c,Nat.le_refl _,Nat.le_refl _⟩
 | cons d r b =>
   rw[R0];split
   ·have:=b (z.1+1,1) (by simp) (by simp)
    simp only[List.length_cons] at this ⊢;omega
   have:=b (z.1,z.2+1) a (by simp);simp only[List.length_cons] at this ⊢;omega
def Xv (l:List UInt8) (k:Nat):Nat×Nat:=R0 (l.take k) (1,1)
def W1 (l:List UInt8) (k:Nat):Nat×Nat:=(KK (Xv l k).1,KK (Xv l k).2)
theorem Zc (l:List UInt8) (k:Nat) (h:k<l.length):Xv l (k+1)=if l[k]=10 then ((Xv l k).1+1,1) else ((Xv l k).1,(Xv l k).2+1):=by
 unfold Xv;rw[List.take_add_one,List.getElem?_eq_getElem h];exact Y_ _ _ _
theorem Z6 (l:List UInt8) (k:Nat) (a:l.length<=4096):0<(Xv l k).1/\0<(Xv l k).2/\(Xv l k).1<=4097/\(Xv l k).2<=4097:=by
 have:=Zy (l.take k) (1,1) (by decide) (by decide);have:(l.take k).length<=4096:=by rw[List.length_take];omega
 unfold Xv;omega
theorem Yk:KK 1=4607182418800017408:=by decide +kernel
theorem Zb (l:List UInt8):W1 l 0=(4607182418800017408,4607182418800017408):=by
 unfold W1 Xv;rw[List.take_zero];show (KK 1,KK 1)=_;rw[Yk]
end Go
namespace Go.Proofs.YtjolfpcpcaocmaaGreatDoor
open Go.Proofs.Tryz
open Go.RowKit
theorem Aab {a b c:Nat} (d:FloatKind.f64.format.add a 0=some a) (e:FloatKind.f64.format.add b 4607182418800017408=some c) (w:World) :
  Sem.run prog (binOp .add 26 (.complex .f64 a b) (.complex .f64 0 4607182418800017408)) w = .ok (.complex .f64 a c) w:=by
 simp[binOp,Op.complexOp,Op.Complex.arith,Op.floatArith,d,e,go_sem]
theorem ZY (a b:Nat) (w:World):Sem.run prog (Builtin.real_ #[26] 32 #[.complex .f64 a b]) w = .ok (.float .f64 a) w:=by kernel_rfl
theorem Aac {a b:Nat} (h:FloatKind.f64.format.add a 4607182418800017408=some b) (w:World):Sem.run prog (binOp .add 32 (.float .f64 a) (.float .f64 4607182418800017408)) w = .ok (.float .f64 b) w:=by
 simp[binOp,Op.floatArith,h,go_sem]
theorem Aas (a b:Nat) (w:World):Sem.run prog (Builtin.complex_ #[32,32] 26 #[.float .f64 a,.float .f64 b]) w = .ok (.complex .f64 a b) w:=by kernel_rfl
theorem YL (s:ByteArray) (t:s.size<=4096):PlC (W1 s.data.toList) s:=by
 intro f w p
 go_in
 go_wp2
 go_loop [5,6] (fun z n=>∃k:Nat,k<=f/\n = .int .i64 k/\z = .complex .f64 (W1 s.data.toList k).1 (W1 s.data.toList k).2) (fun _ n=>f-(intOf n).toNat)
 case atStart=>exact⟨0,by omega,rfl,by rw[Zb]⟩
 obtain⟨k,q,rfl,rfl⟩:=hrel;have r:s.data.toList.length=s.size:=rfl;have d:=Lib.hid (Z6 s.data.toList k (by omega));by_cases j:k<f
 ·have l:k<s.size:=by omega
  have c:=Zc s.data.toList k (by omega);by_cases g:s.data.toList[k]'(by omega)=10
  ·rw[if_pos g] at c
   have h:W1 s.data.toList (k+1)=(KK ((Xv s.data.toList k).1+1),4607182418800017408):=by unfold W1;rw[c,Yk]
   clear c;have b:((s[k].toNat:Int)==10)=true:=by rw[show s[k]=10 from g];rfl
   have i:=ZY (W1 s.data.toList k).1 (W1 s.data.toList k).2;have m:=Aac (a:=(W1 s.data.toList k).1) (V2 (Xv s.data.toList k).1 d.out.1 (by have:=d.out;omega));have o:=Aas (KK ((Xv s.data.toList k).1+1)) 4607182418800017408;go_wp2;refine⟨⟨k+1,by omega,rfl,by rw[h]⟩,?_⟩;simp[intOf];omega
  rw[if_neg g] at c;have h:W1 s.data.toList (k+1)=((W1 s.data.toList k).1,KK ((Xv s.data.toList k).2+1)):=by unfold W1;rw[c]
  clear c;have b:((s[k].toNat:Int)==10)=false:=beq_eq_false_iff_ne.2 fun e=>g (UInt8.toNat_inj.1 (show s[k].toNat=10 by omega));have i:=Aab (a:=(W1 s.data.toList k).1) (b:=(W1 s.data.toList k).2) (XX (Xv s.data.toList k).1 d.out.1 (by have:=d.out;omega)) (V2 (Xv s.data.toList k).2 d.out.2.1 (by have:=d.out;omega));go_wp2;refine⟨⟨k+1,by omega,rfl,by rw[h]⟩,?_⟩;simp[intOf];omega
 obtain rfl:k=f:=(by omega);go_wp2;go_ret;exact⟨rfl,rfl⟩
end Go.Proofs.YtjolfpcpcaocmaaGreatDoor
