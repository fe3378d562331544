/- Fe Pz Ha Hb Fn Xt Fo Xu Fr Fv Wy Xz -/
import Derived.Test.YtipfpohlnhmlpaaGreatDoorNp
import Derived.Deep.DeepCutAuto
import Derived.Deep.CutBlock
import Derived.StillTailTactics
import Derived.BigRegion
import Derived.Test.YtipfpohlnhmlpaaGreatDoorWd
import Derived.Shelf.Strconv.Itoa2
import Derived.Test.YtipfpohlnhmlpaaGreatDoorFl
import Derived.Test.YtipfpohlnhmlpaaGreatDoorGu
import Derived.BigQuiet
import Derived.Deep.QuietTactic
import Derived.Test.YtipfpohlnhmlpaaGreatDoorXs
import Derived.Test.YtipfpohlnhmlpaaGreatDoorXr
import Derived.Deep.RegionWith
import Derived.BigCall
import Derived.Test.YtipfpohlnhmlpaaGreatDoorGl
import Derived.Test.YtipfpohlnhmlpaaGreatDoorPe
import Derived.Test.YtipfpohlnhmlpaaGreatDoorNl
import Derived.Test.YtipfpohlnhmlpaaGreatDoorMi
import Derived.Shelf.Strconv.Itoa3
import Derived.Lib.ItoaLen
import Derived.Test.YtipfpohlnhmlpaaGreatDoorWo
import Derived.Test.YtipfpohlnhmlpaaGreatDoorWb
set_option maxRecDepth 100000
set_option maxHeartbeats 6400000
open Go.Value renaming int->aA
open List renaming drop_eq_nil_of_le->aC,length_drop->aG
open Nat renaming zero_add->aE,le_refl->aH
namespace Go.Proofs.YtipfpohlnhmlpaaGreatDoor
open Go.RowKit
structure FV (w:World) (b:Nat) (f:Nat->Nat) (n:Nat):Prop where
 d:∀i,i<n->w.cell? ⟨b,i,none⟩=some (.int .u8 (f i))
 fz:∀i,w.frozen? ⟨b,i,none⟩=false
theorem FV.set {w:World} {b:Nat} {f:Nat->Nat} {n i:Nat} (h:FV w b f n) (c:i<n) (v:Nat):FV (w.setCell ⟨b,i,none⟩ (.int .u8 v)) b (Vb f i v) n where
 d:=fun j a=>by
  by_cases e:j=i
  ·subst e;rw[GL];exact A8 (h.d j a)
  rw[DT f v e,Ag (Ai (Ne.symm e))];exact h.d j a
 fz:=fun j=>by rw[World.frozen?_setCell];exact h.fz j
theorem FV.only {w w':World} {b c:Nat} {f:Nat->Nat} {n:Nat} (h:FV w b f n) (i:Ae c w w') (g:b≠c) (a:b<w.heap.size):FV w' b f n where
 d:=fun j k=>by rw[i.cell g a];exact h.d j k
 fz:=fun j=>by rw[World.frozen?_of_block (i.block b a (fun e=>g (Option.some.inj e)))];exact h.fz j
theorem Pd (w:World) (T:TypeId) (n:Nat) (Z:Array Value) (a:Z=(List.replicate n (aA .u8 0)).toArray):FV (w.alloc (.cells Z T)) w.heap.size (fun _=>0) n where
 d:=fun i b=>by
  rw[World.cell?_alloc_at _ _ _ _ rfl,a];simp[b]
 fz:=fun i=>World.frozen?_alloc_at _ _ _ _ rfl
def Ra (M nd:Nat) (i:Nat):Nat:=48+M/10^(nd-1-i)%10
theorem Vl (M nd i:Nat):Ra M nd i<256:=by unfold Ra;omega
open Go.Proofs.Tryz
open Go.Shelf
def Wu:Ren where
 f:=fun x=>if x=285 then 96 else x
 t:=fun x=>if x=3 then 3 else if x=4 then 4 else if x=5 then 5 else if x=9 then 9 else if x=37 then 41 else if x=51 then 138 else if x=53 then 113 else x
 g:=fun x=>x
theorem TP:Lays.n285 prog Wu where
 mixed:=by kernel_rfl
 f285:=by kernel_rfl
 t0:=by kernel_rfl
 a0:=fun w=>by kernel_rfl
 z0:=fun w=>by kernel_rfl
 v0:=fun w=>by kernel_rfl
 t3:=by kernel_rfl
 a3:=fun w=>by kernel_rfl
 z3:=fun w=>by kernel_rfl
 v3:=fun w=>by kernel_rfl
 t4:=by kernel_rfl
 a4:=fun w=>by kernel_rfl
 z4:=fun w=>by kernel_rfl
 v4:=fun w=>by kernel_rfl
 t5:=by kernel_rfl
 a5:=fun w=>by kernel_rfl
 z5:=fun w=>by kernel_rfl
 v5:=fun w=>by kernel_rfl
 t9:=by kernel_rfl
 a9:=fun w=>by kernel_rfl
 z9:=fun w=>by kernel_rfl
 v9:=fun w=>by kernel_rfl
 t37:=by kernel_rfl
 a37:=fun w=>by kernel_rfl
 z37:=fun w=>by kernel_rfl
 v37:=fun w=>by kernel_rfl
 t51:=by kernel_rfl
 a51:=fun w=>by kernel_rfl
 z51:=fun w=>by kernel_rfl
 v51:=fun w=>by kernel_rfl
 t53:=by kernel_rfl
 a53:=fun w=>by kernel_rfl
 z53:=fun w=>by kernel_rfl
 v53:=fun w=>by kernel_rfl
open Go.Sort
def Vo:UInt8->Value:=fun(b:UInt8)=>aA .u8 (b.toNat:Int)
theorem K6 (w:World) (b:Nat) (d:Array UInt8) (n:Nat):Ae b w ((putRow Vo w b 0 d).drewN n) where
 os:=rfl
 tape:=rfl
 output:=rfl
 size:=by show w.heap.size<=(putRow Vo w b 0 d).heap.size;simp
 block:=fun k _ a=>by
  show (w.heap.modify b (onCells (putCells Vo 0 d)))[k]?=_;rw[Array.getElem?_modify,if_neg (fun e=>a (by rw[e]))]
theorem Q' (u j:Nat):(Go.Lib.dg u j).toNat=48+u/10^j%10:=by
 unfold Go.Lib.dg;rw[UInt8.toNat_ofNat'];omega
theorem Rs (w:World) (b n cap u:Nat) (f:Nat->Nat) (m:FV w b f n) (z:∀i,f i<256) (B:n<=1000) (A:u<10^n) (g:u<18446744073709551616) :
  Calls prog 96 #[.slice (some ⟨b,0,none⟩) n cap,.int .u64 u] w fun e s=>e = .returned (.tuple #[])/\FV s b (Ra u n) n/\Ae b w s:=by
 obtain⟨d,x⟩:∃d:Array UInt8,d=((List.range n).map fun i=>UInt8.ofNat (f i)).toArray:=⟨_,rfl⟩;have a:d.size=n:=by rw[x];simp
 have c:∀i,i<n->(d[i]!).toNat=f i:=fun i l=>by
  have:d[i]! = UInt8.ofNat (f i):=by rw[x];simp[l]
  rw[this,UInt8.toNat_ofNat'];have:=z i;omega
 have v:Holds (fun(b:UInt8)=>aA .u8 (b.toNat:Int)) w b 0 d:=fun j r=>by
  rw[a] at r;rw[aE];refine⟨?_,m.fz j⟩;show _=some (aA .u8 ((d[j]!).toNat:Int));rw[c j r];exact m.d j r
 have h:=Any.internal_strconv_formatBase10 TP b 0 cap u d w v (by rw[a];exact A) g (by rw[a];omega);rw[a] at h;have p:Wu.f 285=96:=(by kernel_rfl);rw[p] at h;refine h.mono ?_;rintro e s ⟨y,q,C,k,rfl,o⟩;refine⟨y,⟨fun i l=>?_,fun i=>?_⟩,K6 w b k q⟩
 ·have t:=cell?_putRow (fun(b:UInt8)=>aA .u8 (b.toNat:Int)) w b 0 d k v (by rw[o.size,a]) i (by rw[o.size];exact l)
  rw[aE] at t;show (putRow (fun(b:UInt8)=>aA .u8 (b.toNat:Int)) w b 0 k).cell? ⟨b,i,none⟩=_;rw[t,o.done i (Nat.zero_le _) l];show some (aA .u8 ((Go.Lib.dg u (n-1-i)).toNat:Int))=_;rw[Q'];rfl
 show (putRow (fun(b:UInt8)=>aA .u8 (b.toNat:Int)) w b 0 k).frozen? ⟨b,i,none⟩=false;rw[frozen?_putRow];exact m.fz i
def Vp (x:Nat):Bool:=decide (9223372036854775808<=x)
def J8 (x:Nat):Nat:=x/4503599627370496%2048
def Tl (x:Nat):Nat:=x%4503599627370496
theorem QW (s:Nat) (h:s<4096):bits .and .i64 (s:Int) 2047=(s%2048:Nat):=by
 have b:∀s:Fin 2048,bits .and .i64 ((s:Nat):Int) 2047=((s:Nat):Int):=(by decide +kernel);have c:∀s:Fin 2048,bits .and .i64 (((s:Nat)+2048:Nat):Int) 2047=((s:Nat):Int):=(by decide +kernel);by_cases a:s<2048
 ·rw[Nat.mod_eq_of_lt a];exact b ⟨s,a⟩
 have:=c ⟨s-2048,by omega⟩;dsimp only at this;rw[show s-2048+2048=s by omega] at this;rw[this,show s%2048=s-2048 by omega]
theorem V6 (x:Nat) (h:x<18446744073709551616):bits .and .u64 (x:Int) 4503599627370495=(Tl x:Nat):=by
 have a:=bits_and_u64_nat x 4503599627370495 h (by omega);have b:x&&&4503599627370495=x%4503599627370496:=Nat.and_two_pow_sub_one_eq_mod x 52;rw[b] at a;exact a
theorem W7 (m:Nat) (h:m<4503599627370496):bits .or .u64 (m:Int) 4503599627370496=(m+4503599627370496:Nat):=by
 have a:=IV (m:Int) 4503599627370496 (by omega) (by omega) (by omega) (by omega)
 have c:GO (m:Int) 4503599627370496=m+4503599627370496:=by
  show m|||4503599627370496=_
  have:=Nat.two_pow_add_eq_or_of_lt (i:=52) (b:=m) h 1;have e:(2:Nat)^52=4503599627370496:=(by decide);rw[e,Nat.mul_one] at this;rw[Nat.or_comm,<- this];omega
 rw[c] at a;exact a
theorem Rq (x:Nat) (w:World):(callFunc 142 #[.float .f64 x]).run prog w = .ok (.value (.int .u64 x)) w:=by kernel_rfl
def FT:Value:=.iface 102 (.int .i64 2)
def Oo (v:Value):Prop:=v = .nilIface\/v=Ga\/v=FT
def V9 (s:ByteArray) (n x:Nat) (v:Value):Prop:=x<18446744073709551616/\Oo v /\
 ∀w,DE w->Calls prog 87 #[.string s] w fun e a=>e = .returned (.tuple #[.float .f64 x,.int .i64 n,v])/\Below w.heap.size w a
theorem U4 {v:Value} (h:R5 v):Oo v:=h.elim .inl (fun h => .inr (.inl h))
theorem E0 (s:ByteArray) (W:World) (f:s.size<=140737488351232) (b:∀c∈s.data.toList,c∈BC) (m:Nat) (p:Int) (a tr:Bool) (n:Nat) (ok:Bool)
  (d:rf s.data.toList=⟨m,p,a,tr,n,ok⟩):Calls prog 102 #[.string s] W fun e g=>e = .returned (.tuple #[.int .u64 m,.int .i64 p,.bool a,.bool tr,.bool false,.int .i64 n,.bool ok])/\W=g:=by
 have:=Cy s W f b;rw[d] at this;exact this
theorem Gc (s:ByteArray) (W:World) (d:s.size<=140737488351232) (a:∀c∈s.data.toList,c∈BC):Calls prog 101 #[.string s] W fun e b=>e = .returned (.tuple #[.float .f64 0,.int .i64 0,.bool false])/\W=b:=Dw s W (by unfold maxLen;omega) (fun k h=>a _ (List.getElem_mem (l:=s.data.toList) (by simpa using h)))
theorem O_ (s:ByteArray) (b:s.size<=140737488351232) (a:∀c∈s.data.toList,c∈BC) (m:Nat) (p:Int) (f tr:Bool) (n:Nat)
  (d:rf s.data.toList=⟨m,p,f,tr,n,false⟩):V9 s n 0 FT:=by
 refine⟨by omega,.inr (.inr rfl),fun w j=>?_⟩;have h:=Lib.hid (fun W=>Gc s W b a);have g:=Lib.hid (fun W=>E0 s W b a m p f tr n false d);clear a d b
 go_in
 go_wp2_with (first | (go_at_call 101;refine(h.out _).mono ?_;rintro e i ⟨rfl,rfl⟩) | (go_at_call 102;refine(g.out _).mono ?_;rintro e i ⟨rfl,rfl⟩))
 go_ret3
 exact⟨rfl,Below.refl _ _⟩
theorem Pm (w:World) (T:TypeId) (Z:Array Value) (g:∀i,i<800->Z[i]?=some (.int .u8 0)) (a:Z[800]?=some (.int .i64 0)) (b:Z[801]?=some (.int .i64 0)) (c:Z[802]?=some (.bool false)) (e:Z[803]?=some (.bool false)) :
  BO (w.alloc (.cells Z T)) w.heap.size (fun _=>0) 0 0 false false where
 d:=fun i f=>by rw[cell_of_row _ _ _ _ _ _ (heap_alloc_new w _),g i f];rfl
 nd:=by rw[cell_of_row _ _ _ _ _ _ (heap_alloc_new w _),a]
 dp:=by rw[cell_of_row _ _ _ _ _ _ (heap_alloc_new w _),b]
 ng:=by rw[cell_of_row _ _ _ _ _ _ (heap_alloc_new w _),c]
 tr:=by rw[cell_of_row _ _ _ _ _ _ (heap_alloc_new w _),e]
 fz:=fun i=>World.frozen?_alloc_at _ _ _ _ rfl
theorem Vj (w:World):BO (w.alloc (.cells Tryz.zeroCells147 147)) w.heap.size (fun _=>0) 0 0 false false:=by
 have h:Tryz.zeroCells147.toList.take 800=List.replicate 800 (.int .u8 0):=(by kernel_rfl);refine Pm w _ _ (fun i b=>?_) (by kernel_rfl) (by kernel_rfl) (by kernel_rfl) (by kernel_rfl);have a:(Tryz.zeroCells147.toList.take 800)[i]?=some (.int .u8 0):=(by rw[h,List.getElem?_replicate,if_pos b]);rw[List.getElem?_take,if_pos b] at a;simpa using a
theorem Q0 {w l wr:World} {e:TypeId} {i m:Nat} {v:Value} {a:List UInt8} (c:Below w.heap.size w l) (h:Dy (l.drewN m) e i v wr a):Dy w e i v wr a:=by
 obtain⟨g,n,o,b⟩:=h;have f:=c.size;refine⟨g,n,o.imp id (fun h=>Nat.le_trans f h),⟨b.os.trans c.os,b.tape.trans c.tape,b.output.trans c.output,Nat.le_trans f b.size,fun k j d=>?_⟩⟩;exact(b.block k (Nat.lt_of_lt_of_le j f) d).trans (c.block k j)
structure Fi (w:World):Prop where
 lg:DE w
 sy:∃te pe,w.cell? ⟨9,0,none⟩=some (.iface te pe)
theorem Fi.below {w w':World} (h:Fi w) (b:Below w.heap.size w w'):Fi w':=by
 obtain⟨c,e,d,a⟩:=h;exact⟨c.below b,e,d,by rw[b.cell (World.block_lt_of_cell? w _ a)];exact a⟩
theorem Ig (h s:ByteArray) (l:TypeId) (k:Value) (w:World) (b:s.size<=281474976710656) (f:w.cell? ⟨9,0,none⟩=some (.iface l k)) :
  Calls prog 69 #[.string h,.string s] w fun e m=>∃N,e = .returned (.pointer (some ⟨N,0,none⟩))/\Below w.heap.size w m:=by
 have i:9<w.heap.size:=Lib.lt_of_cell f;have d:w.drew.cell? ⟨9,0,none⟩=some _:=f
 go_in
 go_wp2
 go_region_with (
  go_at_call 88
  refine(JY s _ b).mono ?_;rintro e g ⟨rfl,a⟩
  have j:g.cell? ⟨9,0,none⟩=some _:=(a.cell (show (⟨9,0,none⟩:Addr).block<w.drew.heap.size from i)).trans d)
 all_goals (
  go_wp2;go_ret;have c:w.heap.size<=g.heap.size:=a.size
  exact⟨_,rfl,((Below.drew (Below.refl _ w)).trans a).alloc c _⟩)
theorem Ju (c s:ByteArray) (base bits:Int) (g:TypeId) (f:Value) (w:World) (a:s.size<=281474976710656) (i:w.cell? ⟨9,0,none⟩=some (.iface g f)) :
  Calls prog 50 #[.string c,.string s,.int .i64 base,.int .i64 bits,.iface 102 (.int .i64 2)] w fun e j=>∃v,e = .returned v/\Below w.heap.size w j:=by
 have b:(prog.info? 102).map (·.comparable)=some true:=(by kernel_rfl);have d:∀W,(binOp .eql 51 (.iface 102 (.int .i64 2)) (.iface 102 (.int .i64 2))).run prog W = .ok (.bool true) W:=fun W=>Lib.run_eql_iface_int W 2 2 underlying51 b underlying102
 go_in
 go_wp2_with (go_at_call 69;refine(Ig c s g f _ a i).mono ?_;rintro e k ⟨N,rfl,h⟩)
 go_ret;exact⟨_,rfl,h⟩
theorem Tv {w wr:World} {e:TypeId} {c m:Nat} {v:Value} {a:List UInt8} (h:Dy (w.drewN m) e c v wr a):Dy w e c v wr a:=by
 obtain⟨g,d,f,b⟩:=h;exact⟨g,d,f,⟨b.os,b.tape,b.output,b.size,b.block⟩⟩
def Wt:Ren where
 f:=fun x=>if x=129 then 117 else if x=171 then 32 else if x=243 then 54 else if x=246 then 76 else if x=283 then 94 else if x=284 then 95 else if x=285 then 96 else if x=286 then 97 else if x=317 then 116 else if x=318 then 118 else if x=319 then 119 else if x=320 then 120 else if x=337 then 139 else if x=338 then 140 else x
 t:=fun x=>if x=0 then 0 else if x=2 then 2 else if x=3 then 3 else if x=4 then 4 else if x=5 then 5 else if x=9 then 9 else if x=20 then 20 else if x=37 then 41 else if x=46 then 135 else if x=51 then 138 else if x=53 then 113 else if x=171 then 123 else if x=173 then 126 else if x=212 then 159 else if x=213 then 160 else if x=232 then 194 else if x=233 then 213 else x
 g:=fun x=>if x=17 then 14 else if x=18 then 19 else if x=19 then 20 else x
theorem RS:LaysM.n171 prog Wt where
 mixed:=by kernel_rfl
 f129:=by kernel_rfl
 f171:=by kernel_rfl
 f243:=by kernel_rfl
 f246:=by kernel_rfl
 f283:=by kernel_rfl
 f284:=by kernel_rfl
 f285:=by kernel_rfl
 f286:=by kernel_rfl
 f317:=by kernel_rfl
 f318:=by kernel_rfl
 f319:=by kernel_rfl
 f320:=by kernel_rfl
 f337:=by kernel_rfl
 f338:=by kernel_rfl
 t0:=by kernel_rfl
 a0:=fun w=>by kernel_rfl
 z0:=fun w=>by kernel_rfl
 v0:=fun w=>by kernel_rfl
 t2:=by kernel_rfl
 a2:=fun w=>by kernel_rfl
 z2:=fun w=>by kernel_rfl
 v2:=fun w=>by kernel_rfl
 t3:=by kernel_rfl
 a3:=fun w=>by kernel_rfl
 z3:=fun w=>by kernel_rfl
 v3:=fun w=>by kernel_rfl
 t4:=by kernel_rfl
 a4:=fun w=>by kernel_rfl
 z4:=fun w=>by kernel_rfl
 v4:=fun w=>by kernel_rfl
 t5:=by kernel_rfl
 a5:=fun w=>by kernel_rfl
 z5:=fun w=>by kernel_rfl
 v5:=fun w=>by kernel_rfl
 t9:=by kernel_rfl
 a9:=fun w=>by kernel_rfl
 z9:=fun w=>by kernel_rfl
 v9:=fun w=>by kernel_rfl
 t20:=by kernel_rfl
 a20:=fun w=>by kernel_rfl
 z20:=fun w=>by kernel_rfl
 v20:=fun w=>by kernel_rfl
 t37:=by kernel_rfl
 a37:=fun w=>by kernel_rfl
 z37:=fun w=>by kernel_rfl
 v37:=fun w=>by kernel_rfl
 t46:=by kernel_rfl
 a46:=fun w=>by kernel_rfl
 z46:=fun w=>by kernel_rfl
 v46:=fun w=>by kernel_rfl
 t51:=by kernel_rfl
 a51:=fun w=>by kernel_rfl
 z51:=fun w=>by kernel_rfl
 v51:=fun w=>by kernel_rfl
 t53:=by kernel_rfl
 a53:=fun w=>by kernel_rfl
 z53:=fun w=>by kernel_rfl
 v53:=fun w=>by kernel_rfl
 t171:=by kernel_rfl
 a171:=fun w=>by kernel_rfl
 z171:=fun w=>by kernel_rfl
 v171:=fun w=>by kernel_rfl
 t173:=by kernel_rfl
 a173:=fun w=>by kernel_rfl
 z173:=fun w=>by kernel_rfl
 v173:=fun w=>by kernel_rfl
 t212:=by kernel_rfl
 a212:=fun w=>by kernel_rfl
 z212:=fun w=>by kernel_rfl
 v212:=fun w=>by kernel_rfl
 t213:=by kernel_rfl
 a213:=fun w=>by kernel_rfl
 z213:=fun w=>by kernel_rfl
 t232:=by kernel_rfl
 a232:=fun w=>by kernel_rfl
 z232:=fun w=>by kernel_rfl
 v232:=fun w=>by kernel_rfl
 t233:=by kernel_rfl
 a233:=fun w=>by kernel_rfl
 z233:=fun w=>by kernel_rfl
 v233:=fun w=>by kernel_rfl
 g17:=by kernel_rfl
 g18:=by kernel_rfl
 g19:=by kernel_rfl
 i0:=by kernel_rfl
 i2:=by kernel_rfl
 i3:=by kernel_rfl
 i4:=by kernel_rfl
 i5:=by kernel_rfl
 i9:=by kernel_rfl
 i20:=by kernel_rfl
 i37:=by kernel_rfl
 i46:=by kernel_rfl
 i51:=by kernel_rfl
 i53:=by kernel_rfl
 i171:=by kernel_rfl
 i173:=by kernel_rfl
 i212:=by kernel_rfl
 i232:=by kernel_rfl
 i233:=by kernel_rfl
 m17:=by kernel_rfl
 m18:=by kernel_rfl
 m19:=by kernel_rfl
theorem MN {P:Program} {w w':World} {n:String} {k:IntKind} {zs:List Int} (h:Lib.TabIs P w n k zs) (d:Below w.heap.size w w'):Lib.TabIs P w' n k zs:=by
 unfold Lib.TabIs World.var? at *
 cases c:P.globalNamed n with
 | none=>rw[c] at h;cases h
 | some g =>
   rw[c] at h;simp only[Option.bind_some] at h ⊢
   have b:g<w.heap.size:=by
    rcases Nat.lt_or_ge g w.heap.size with a | a
    ·exact a
    rw[Array.getElem?_eq_none a] at h;cases h
   rw[d.block g b];exact h
theorem MZ (w:World) (k:Nat) (os:Array Obj):Below w.heap.size w (Go.Sort.grow (w.drewN k) os):=by
 refine⟨rfl,rfl,rfl,?_,fun i a=>?_⟩
 ·show w.heap.size<=(w.heap++os).size
  rw[Array.size_append];omega
 show (w.heap++os)[i]?=_;rw[Array.getElem?_append_left a]
theorem RI (n:Int) (b : -9223372036854775808<=n) (c:n<=9223372036854775807) (W:World) (d:Lib.TabIs prog W "internal/strconv.uint64pow10" .u64 Lib.pow10Tab) :
  Calls prog 32 #[.int .i64 n] W fun e a=>e = .returned (.string ⟨(Fp n).toArray⟩)/\Below W.heap.size W a:=by
 have h:=Any.strconv_Itoa RS n b c W d;rw[show Wt.f 171=32 by kernel_rfl] at h;refine h.mono ?_;rintro e a ⟨rfl,k,g,rfl⟩;exact⟨rfl,MZ W k g⟩
def KE (l:List UInt8) (k:Nat) (V:Value):Prop :=
 ∃(kd:Int) (a:List UInt8) (nm f t:Nat) (e:Int),V = .tuple #[Ap kd a nm f t,.int .i64 e]/\k<=f /\
  ((e≠0/\f<l.length/\t=0/\kd=0/\a=[])\/(e=0/\kd=0/\f=l.length/\t=l.length)\/(e=0/\kd≠0/\f<t/\t<=l.length))
theorem Mi (l:List UInt8) (p:Bool) (nv:Value) (k:Nat) (q:k<=l.length) (o:CV l k->KE l k nv):KE l k (AJ l p nv k):=by
 unfold AJ;by_cases f:k<l.length
 ·rw[Aq l k f]
  dsimp only;have b:∀e:Int,e≠0->KE l k (.tuple #[Ap 0 [] 0 k 0,.int .i64 e]):=fun e n=>⟨0,[],0,k,0,e,rfl,aH _,.inl ⟨n,f,rfl,rfl,rfl⟩⟩;have a:∀(kd:Int) (g:List UInt8) (t:Nat),kd≠0->k<t->t<=l.length->KE l k (.tuple #[Ap kd g 0 k t,.int .i64 0]):=fun kd g t i c j=>⟨kd,g,0,k,t,0,rfl,aH _,.inr (.inr ⟨rfl,i,c,j⟩)⟩;split
  ·exact a 1 [] (k+1) (by omega) (by omega) (by omega)
  split
  ·rename_i h
   refine o ⟨f,h.elim .inl fun h => .inr ⟨h.1,?_⟩⟩;by_cases c:k+1<l.length
   ·refine⟨c,?_⟩
    have:=h.2;rw[Aq l (k+1) c] at this;exact Option.some.inj this
   have:=h.2;rw[aC (by omega)] at this;simp at this
  split
  ·rename_i h
   unfold DG
   have i:0<Al BI (l.drop k):=by
    rw[Aq l k f,Al,if_pos (by simp[BI,h])];omega
   have c:=Bp BI (l.drop k);rw[aG] at c;refine a _ _ _ ?_ (by unfold Co;omega) (by unfold Co;omega);unfold A6;repeat' split
   all_goals omega
  split
  ·unfold C7
   dsimp only;split
   ·exact b 21 (by omega)
   rename_i r
   obtain⟨t,d⟩:∃t:Nat,AF 34 l (k+1)=t:=⟨(AF 34 l (k+1)).toNat,by omega⟩;have m:=Cl 34 l (k+1) t d;rw[d];split
   ·exact b 22 (by omega)
   exact a 3 _ (t+1) (by omega) (by omega) (by omega)
  split
  ·unfold Cr
   dsimp only;split
   ·exact b 21 (by omega)
   obtain⟨t,d⟩:∃t:Nat,AF 47 l (k+1)=t:=⟨(AF 47 l (k+1)).toNat,by omega⟩;have m:=Cl 47 l (k+1) t d;rw[d];exact a 4 _ (t+1) (by omega) (by omega) (by omega)
  split
  ·rename_i h
   have c:=D5 (l.drop k);rw[aG,Aq l k f] at c;exact a 9 _ _ (by omega) (by omega) (by omega)
  exact b 20 (by omega)
 rw[aC (by omega)];exact⟨0,[],0,k,k,0,rfl,aH _,.inr (.inl ⟨rfl,rfl,by omega,by omega⟩)⟩
theorem Ei (c:UInt8) (r:List UInt8) (g:Aj c=true\/(c=46/\∃d i,r=d::i/\Aj d=true)):BH (c::r)=0/\An (c::r)≠0:=by
 have a:DH c=false/\c≠43/\c≠45:=by
  rcases g with h | ⟨h,_⟩
  ·have:=Cq h
   refine⟨?_,fun e=>?_,fun e=>?_⟩
   ·simp[DH,GT];omega
   ·rw[e] at this;exact absurd this (by decide)
   rw[e] at this;exact absurd this (by decide)
  rw[h];decide
 have f:CC (c::r)=0:=by
  unfold CC;rw[Al,if_neg (by simp[a.1])]
 have b:BH (c::r)=0:=by
  unfold BH;rw[f,AR,if_neg (by simp[a.2])]
 refine⟨b,?_⟩
 have m:CU (c::r)≠0:=by
  rcases g with h | ⟨h,d,i,k,l⟩
  ·unfold CU
   have:Al Aj (c::r)≠0:=by rw[Al,if_pos h];omega
   split
   ·split<;>omega
   exact this
  have j:Al Aj (c::r)=0:=by rw[Al,if_neg (by rw[h];decide)]
  have n:Al Aj r≠0:=by rw[k,Al,if_pos l];omega
  unfold CU;rw[j];rw[if_pos (by simp[h])];simp only[aE,List.drop_succ_cons,List.drop_zero];split<;>omega
 unfold An;rw[if_neg m];omega
end Go.Proofs.YtipfpohlnhmlpaaGreatDoor
