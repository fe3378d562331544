/- Zr -/
import Derived.Test.YtfblenhlildnaaaGreatDoorDp
import Derived.Test.YtfblenhlildnaaaGreatDoorLk
import Derived.Test.YtfblenhlildnaaaGreatDoorCs
set_option maxRecDepth 100000
set_option maxHeartbeats 4000000
open Go.Lib renaming hid->aA
namespace Go.Proofs.YtfblenhlildnaaaGreatDoor
open Go.Proofs.Tryz
open Go.RowKit
def AeM (nx:Nat->Bool->Tk) (pl:Nat->Nat×Nat) (ere:List UInt8->Option Bool) (n:Nat) (t:Tk) (p:Ps):Hf Rl :=
 if isS t [123]=true then (It nx pl ere n .block p).bind fun b p => .ok ⟨5,0,[],hd1 b,pl t.f⟩ p else .hush
theorem AiI {t:Tk} (h:isS t [123]=true) (x:List UInt8) (w:World) :
  Calls prog 45 #[.agg #[.int .i64 t.kd,.string ⟨t.tx.toArray⟩,.float .f64 t.nm,.int .i64 t.f,.int .i64 t.t],.int .i64 8,.string ⟨x.toArray⟩] w fun e a=>e = .returned (.bool false)/\Below w.heap.size w a :=
 (L0 t x w).mono fun e a ⟨b,c⟩=>⟨by rw[b,show XI t x=false by unfold isS at h;unfold XI;simp only[Bool.and_eq_true,decide_eq_true_eq] at h;rw[h.1];rfl],c⟩
theorem Ai0 {t:Tk} (h:isS t [123]=true) (w:World) :
  Calls prog 45 #[.agg #[.int .i64 t.kd,.string ⟨t.tx.toArray⟩,.float .f64 t.nm,.int .i64 t.f,.int .i64 t.t],.int .i64 9,.string ⟨#[123]⟩] w fun e a=>e = .returned (.bool true)/\Below w.heap.size w a :=
 (EE t [123] w).mono fun e a ⟨b,c⟩=>⟨by rw[b,h],c⟩
set_option linter.unusedSimpArgs false in
theorem AiC {nx:Nat->Bool->Tk} {pl:Nat->Nat×Nat} {ere:List UInt8->Option Bool} {w0:World} {q:Nat} {s:ByteArray} (hN:F2 nx s w0) (hP:H6 pl s) (n:Nat) (hB:SC nx pl ere w0 q s n .block 72):RuC w0 q s (AeM nx pl ere n):=by
 intro t p W h L Q;obtain⟨r,F⟩:∃r,AeM nx pl ere n t p=r:=⟨_,rfl⟩;rw[F] at Q ⊢;unfold AeM at F
 have hs:isS t [123]=true:=by
  cases e:isS t [123] with
  | true=>rfl
  | false=>rw[if_neg (by rw[e];exact fun h=>nomatch h)] at F;exact absurd F.symm Q
 rw[if_pos hs] at F;have HS:=aA hs;have N:=aA F;obtain⟨X,tb,rb,eX,rfl,rfl,hU,hF⟩:=Z'.start h t 70 44;have d:=aA hU;have b:=aA hF;have HN:=aA hN;have HP:=aA hP;have HB:=aA (fun p W h g=>hB p W h g);have HK:=aA L;have HQ:=aA (And.intro h.lt h.below.size);have HX:=aA eX;clear F hF hU hN hP hB L h eX hs;unfold G1
 go_in
 go_wp2;rw[<- HX.out];clear HX
 go_cut [5] (fun v wx=>∃H,v = .pointer (some ⟨H,0,none⟩)/\H≠q/\Hid (Fx w0 X q X.heap.size s p [⟨H,.int .i64 6,.int .i64 0,.slice none 0 0,.int .i64 0,.string ⟨#[]⟩⟩] [] wx)/\Hid (CN wx H [.int .i64 6,.int .i64 0,.slice none 0 0,.int .i64 0,.string ⟨#[]⟩,.float .f64 0,.slice none 0 0,.complex .f64 0 0,.complex .f64 (pl t.f).1 (pl t.f).2]))
 case first =>
  refine Abt (fun o=>o.cell? ⟨q,0,none⟩=some (.string s)/\o.cell? ⟨W.heap.size,3,none⟩=some (.int .i64 t.f)) 9 (by kernel_rfl) ?_;have C:X.drew.cell? ⟨q,0,none⟩=some (.string s)/\X.drew.cell? ⟨W.heap.size,3,none⟩=some (.int .i64 t.f):=⟨b.out.drew.z.c.c0,(b.out.drew.old5 d.out.t d.out.ht).c3⟩;refine AbP 0 (.pointer (some ⟨q,0,none⟩)) rfl C ?_
  try simp only[Act.put,sP]
  refine AbP 1 (.pointer (some ⟨q,0,none⟩)) rfl C ?_
  try simp only[Act.put,sP]
  refine AbP 2 (.pointer (some ⟨q,0,none⟩)) rfl C ?_
  try simp only[Act.put,sP]
  refine AbU 3 (.string s) rfl (fun w hS=>by obtain⟨s0,s1⟩:=hS;go_simp) C ?_
  try simp only[Act.put,sP]
  refine AbP 4 (.pointer (some ⟨W.heap.size,3,none⟩)) rfl C ?_
  try simp only[Act.put,sP]
  refine AbU 5 (.int .i64 t.f) rfl (fun w hS=>by obtain⟨s0,s1⟩:=hS;go_simp) C ?_
  try simp only[Act.put,sP]
  replace b:=aA b.out.drew;clear C
  revert b
  generalize World.drew _=Y;intro b;refine BW (rs:=[6,8]) (by kernel_rfl) rfl (BS.cons rfl (by rfl) (fun K j=>?_) (BS.cons rfl (by rfl) (fun K j=>?_) BS.nil))
  ·try go_simp
   go_at_call 25
   refine(HP.out t.f _ (by have:=HK.out;omega)).mono ?_;rintro e w8 ⟨rfl,rfl⟩;refine j.out _ _ (.inr ⟨b.out.z.c.c0,(b.out.old5 d.out.t d.out.ht).c3⟩) ?_
   try simp only[Act.put,sP]
   refine BW (rs:=[7,8]) (by kernel_rfl) rfl (BS.cons rfl (by rfl) (fun K j=>?_) (BS.cons rfl (by rfl) (fun K j=>?_) BS.nil))
   ·try go_simp
    refine j.out _ _ (.inr ⟨b.out.z.c.c0,(b.out.old5 d.out.t d.out.ht).c3⟩) ?_
    try simp only[Act.put,sP]
    refine AaC 8 rfl (fun K j=>?_)
    try go_simp
    refine j.out _ _ (.inr ⟨(b.out.quiet (Ad _ _)).z.c.c0,((b.out.quiet (Ad _ _)).old5 d.out.t d.out.ht).c3⟩) ?_
    try simp only[Act.put,sP]
    refine AaC 9 rfl (fun K j=>?_)
    try go_simp
    refine j.out _ _ (.inl rfl) ?_
    try simp only[Act.put,sP]
    refine Aal (by kernel_rfl) ?_ _;have D:Y.heap.size≠q:=by have:=b.out.z.lt;omega
    have a:=aA (CN.new Y [.int .i64 6,.int .i64 0,.slice none 0 0,.int .i64 0,.string ⟨#[]⟩,.float .f64 0,.slice none 0 0,.complex .f64 0 0,.complex .f64 (pl t.f).1 (pl t.f).2] 44);replace b:=aA (b.out.box9 (.int .i64 6) (.int .i64 0) (.slice none 0 0) (.int .i64 0) (.string ⟨#[]⟩) (.float .f64 0) (.slice none 0 0) (.complex .f64 0 0) (.complex .f64 (pl t.f).1 (pl t.f).2) 44);go_wp2;go_meet;exact⟨_,rfl,D,b,a⟩
   try go_simp
   refine j.out _ _ (.inr ⟨(b.out.quiet (Ad _ _)).z.c.c0,((b.out.quiet (Ad _ _)).old5 d.out.t d.out.ht).c3⟩) ?_
   try simp only[Act.put,sP]
   refine AaC 7 rfl (fun K j=>?_)
   try go_simp
   refine j.out _ _ (.inr ⟨(b.out.quiet (Ad _ _)).z.c.c0,((b.out.quiet (Ad _ _)).old5 d.out.t d.out.ht).c3⟩) ?_
   try simp only[Act.put,sP]
   refine AaC 9 rfl (fun K j=>?_)
   try go_simp
   refine j.out _ _ (.inl rfl) ?_
   try simp only[Act.put,sP]
   refine Aal (by kernel_rfl) ?_ _;have D:Y.heap.size≠q:=by have:=b.out.z.lt;omega
   have a:=aA (CN.new Y [.int .i64 6,.int .i64 0,.slice none 0 0,.int .i64 0,.string ⟨#[]⟩,.float .f64 0,.slice none 0 0,.complex .f64 0 0,.complex .f64 (pl t.f).1 (pl t.f).2] 44);replace b:=aA (b.out.box9 (.int .i64 6) (.int .i64 0) (.slice none 0 0) (.int .i64 0) (.string ⟨#[]⟩) (.float .f64 0) (.slice none 0 0) (.complex .f64 0 0) (.complex .f64 (pl t.f).1 (pl t.f).2) 44);go_wp2;go_meet;exact⟨_,rfl,D,b,a⟩
  try go_simp
  refine j.out _ _ (.inr ⟨(b.out.quiet (Ad _ _)).z.c.c0,((b.out.quiet (Ad _ _)).old5 d.out.t d.out.ht).c3⟩) ?_
  try simp only[Act.put,sP]
  refine AaC 6 rfl (fun K j=>?_)
  try go_simp
  go_at_call 25
  refine(HP.out t.f _ (by have:=HK.out;omega)).mono ?_;rintro e w8 ⟨rfl,rfl⟩;refine j.out _ _ (.inr ⟨(b.out.quiet (Ad _ _)).z.c.c0,((b.out.quiet (Ad _ _)).old5 d.out.t d.out.ht).c3⟩) ?_
  try simp only[Act.put,sP]
  refine AaC 7 rfl (fun K j=>?_)
  try go_simp
  refine j.out _ _ (.inr ⟨(b.out.quiet (Ad _ _)).z.c.c0,((b.out.quiet (Ad _ _)).old5 d.out.t d.out.ht).c3⟩) ?_
  try simp only[Act.put,sP]
  refine AaC 9 rfl (fun K j=>?_)
  try go_simp
  refine j.out _ _ (.inl rfl) ?_
  try simp only[Act.put,sP]
  refine Aal (by kernel_rfl) ?_ _;have D:Y.heap.size≠q:=by have:=b.out.z.lt;omega
  have a:=aA (CN.new Y [.int .i64 6,.int .i64 0,.slice none 0 0,.int .i64 0,.string ⟨#[]⟩,.float .f64 0,.slice none 0 0,.complex .f64 0 0,.complex .f64 (pl t.f).1 (pl t.f).2] 44);replace b:=aA (b.out.box9 (.int .i64 6) (.int .i64 0) (.slice none 0 0) (.int .i64 0) (.string ⟨#[]⟩) (.float .f64 0) (.slice none 0 0) (.complex .f64 0 0) (.complex .f64 (pl t.f).1 (pl t.f).2) 44);go_wp2;go_meet;exact⟨_,rfl,D,b,a⟩
 clear b;obtain⟨H,rfl,D,b,a⟩:=hcut;have u0:=a.out.c 0 _ rfl;have u1:=a.out.c 1 _ rfl;have u2:=a.out.c 2 _ rfl;have u3:=a.out.c 3 _ rfl;have u4:=a.out.c 4 _ rfl;have u5:=a.out.c 5 _ rfl;have u6:=a.out.c 6 _ rfl;have u7:=a.out.c 7 _ rfl;have u8:=a.out.c 8 _ rfl;have M:=a.out.z
 (try clear k l m u A B);(try clear m10 m11 m12 m13 m14 m1f);(try clear m20 m21 m22 m23 m24 m2f);(try clear m30 m31 m32 m33 m34 m3f);obtain⟨k,l,m,u,A,B⟩:=b.out.old5 d.out.t d.out.ht
 go_wp2_with (first | (go_at_call 45;(with_reducible refine(AiI HS.out _ _).mono ?_);rintro e a0 ⟨rfl,G⟩;replace b:=aA (b.out.quiet G);replace a:=aA (a.out.quiet G);clear G;(try clear k l m u A B);(try clear m10 m11 m12 m13 m14 m1f);(try clear m20 m21 m22 m23 m24 m2f);(try clear m30 m31 m32 m33 m34 m3f);(try clear u0 u1 u2 u3 u4 u5 u6 u7 u8 M);(try clear R S T U V Z v6 v7 v8 vf);have u0:=a.out.c 0 _ rfl;have u1:=a.out.c 1 _ rfl;have u2:=a.out.c 2 _ rfl;have u3:=a.out.c 3 _ rfl;have u4:=a.out.c 4 _ rfl;have u5:=a.out.c 5 _ rfl;have u6:=a.out.c 6 _ rfl;have u7:=a.out.c 7 _ rfl;have u8:=a.out.c 8 _ rfl;have M:=a.out.z;(try clear k l m u A B);(try clear m10 m11 m12 m13 m14 m1f);(try clear m20 m21 m22 m23 m24 m2f);(try clear m30 m31 m32 m33 m34 m3f);obtain⟨k,l,m,u,A,B⟩:=b.out.old5 d.out.t d.out.ht) | (go_at_call 45;(with_reducible refine(Ai0 HS.out _).mono ?_);rintro e b0 ⟨rfl,G⟩;replace b:=aA (b.out.quiet G);replace a:=aA (a.out.quiet G);clear G;(try clear k l m u A B);(try clear m10 m11 m12 m13 m14 m1f);(try clear m20 m21 m22 m23 m24 m2f);(try clear m30 m31 m32 m33 m34 m3f);(try clear u0 u1 u2 u3 u4 u5 u6 u7 u8 M);(try clear R S T U V Z v6 v7 v8 vf);have u0:=a.out.c 0 _ rfl;have u1:=a.out.c 1 _ rfl;have u2:=a.out.c 2 _ rfl;have u3:=a.out.c 3 _ rfl;have u4:=a.out.c 4 _ rfl;have u5:=a.out.c 5 _ rfl;have u6:=a.out.c 6 _ rfl;have u7:=a.out.c 7 _ rfl;have u8:=a.out.c 8 _ rfl;have M:=a.out.z;replace b:=aA (b.out.wide ((Ae.refl H _).set 0 (.int .i64 5)) (a.out.kind (.int .i64 5)));replace a:=aA (a.out.kind (.int .i64 5));have R:=a.out.c 0 _ rfl;have S:=a.out.c 1 _ rfl;have T:=a.out.c 2 _ rfl;have U:=a.out.c 3 _ rfl;have V:=a.out.c 4 _ rfl;have Z:=a.out.c 5 _ rfl;have v6:=a.out.c 6 _ rfl;have v7:=a.out.c 7 _ rfl;have v8:=a.out.c 8 _ rfl;have vf:=a.out.z;(try clear k l m u A B);(try clear m10 m11 m12 m13 m14 m1f);(try clear m20 m21 m22 m23 m24 m2f);(try clear m30 m31 m32 m33 m34 m3f);obtain⟨k,l,m,u,A,B⟩:=b.out.old5 d.out.t d.out.ht) | (go_at_call 72;(with_reducible refine(HB.out _ _ b.out.z (CA N Q)).mono ?_);intro e w5 ha;rcases ha.part N Q with⟨f,F,rfl,P,hr⟩ | ⟨_,p5,v,rfl,⟨⟨y,kv,rfl,rfl,L⟩,hz⟩,P,O⟩;exact⟨rfl,BX hr (d.out.o.trans (b.out.o.trans P))⟩;replace N:=O;clear O ha;(try dsimp only[hd1,List.headD,List.singleton_append,List.cons_append,List.nil_append] at N);obtain⟨I,J,rfl⟩:=L.slice;replace a:=aA (a.out.only P D);replace b:=aA (b.out.read L hz P);clear L hz P;(try clear k l m u A B);(try clear m10 m11 m12 m13 m14 m1f);(try clear m20 m21 m22 m23 m24 m2f);(try clear m30 m31 m32 m33 m34 m3f);(try clear u0 u1 u2 u3 u4 u5 u6 u7 u8 M);(try clear R S T U V Z v6 v7 v8 vf);have u0:=a.out.c 0 _ rfl;have u1:=a.out.c 1 _ rfl;have u2:=a.out.c 2 _ rfl;have u3:=a.out.c 3 _ rfl;have u4:=a.out.c 4 _ rfl;have u5:=a.out.c 5 _ rfl;have u6:=a.out.c 6 _ rfl;have u7:=a.out.c 7 _ rfl;have u8:=a.out.c 8 _ rfl;have M:=a.out.z;unfold CJ;replace b:=aA (b.out.wide (EZ _ H (.int .i64 y.kd) (.string ⟨y.nm.toArray⟩) (.float .f64 y.x) (.slice I y.ks.length J) (.complex .f64 y.z.1 y.z.2)) (a.out.body (.int .i64 y.kd) (.string ⟨y.nm.toArray⟩) (.float .f64 y.x) (.slice I y.ks.length J) (.complex .f64 y.z.1 y.z.2)));replace a:=aA (a.out.body (.int .i64 y.kd) (.string ⟨y.nm.toArray⟩) (.float .f64 y.x) (.slice I y.ks.length J) (.complex .f64 y.z.1 y.z.2));have R:=a.out.c 0 _ rfl;have S:=a.out.c 1 _ rfl;have T:=a.out.c 2 _ rfl;have U:=a.out.c 3 _ rfl;have V:=a.out.c 4 _ rfl;have Z:=a.out.c 5 _ rfl;have v6:=a.out.c 6 _ rfl;have v7:=a.out.c 7 _ rfl;have v8:=a.out.c 8 _ rfl;have vf:=a.out.z;have i:=aA (b.out.oldN d.out.r d.out.hr);have r0:=i.out.c 0 _ rfl;have r1:=i.out.c 1 _ rfl;have r2:=i.out.c 2 _ rfl;have r3:=i.out.c 3 _ rfl;have r4:=i.out.c 4 _ rfl;have r5:=i.out.c 5 _ rfl;have r6:=i.out.c 6 _ rfl;have r7:=i.out.c 7 _ rfl;have r8:=i.out.c 8 _ rfl;have rf:=i.out.z))
 obtain⟨E,zf,-⟩:=i.out.all9 (.int .i64 5) (.int .i64 0) (.slice none 0 0) (.int .i64 y.kd) (.string ⟨y.nm.toArray⟩) (.float .f64 y.x) (.slice I y.ks.length J) (.complex .f64 y.z.1 y.z.2) (.complex .f64 (pl t.f).1 (pl t.f).2);have z0:=E 0 _ rfl;have z1:=E 1 _ rfl;have z2:=E 2 _ rfl;have z3:=E 3 _ rfl;have z4:=E 4 _ rfl;have z5:=E 5 _ rfl;have z6:=E 6 _ rfl;have z7:=E 7 _ rfl;have z8:=E 8 _ rfl;exact bodyPost_ret (v:=.agg #[.int .i64 5,.int .i64 0,.slice none 0 0,.int .i64 y.kd,.string ⟨y.nm.toArray⟩,.float .f64 y.x,.slice I y.ks.length J,.complex .f64 y.z.1 y.z.2,.complex .f64 (pl t.f).1 (pl t.f).2]) (by simp[results,results47,go_sem,z0,z1,z2,z3,z4,z5,z6,z7,z8]<;>exact rfl) rfl (d.out.done b.out.nilrow HQ.out.1 HQ.out.2 (r:=⟨5,0,[],y,pl t.f⟩) (pv:=(.slice none 0 0)) (kv:=(.slice I y.ks.length J)) (.head _) (.tail _ (.head _)) _ _ _ _ _ _ _ _ _ N)
def AgK (nx:Nat->Bool->Tk) (pl:Nat->Nat×Nat) (ere:List UInt8->Option Bool) (n:Nat):Hf (List Rl):=M1 nx (fun m=>AeM nx pl ere m) n [] ⟨0,0,-1⟩
theorem Aej {nx:Nat->Bool->Tk} {pl:Nat->Nat×Nat} {ere:List UInt8->Option Bool} {w:World} (s:ByteArray) (i:s.size<=4096) (a:F2 nx s w) (b:H6 pl s) (d:TZ ere s w) (n:Nat) (h:n<=1000000)
  (g:AgK nx pl ere n ≠ .hush) (e:∀f c,AgK nx pl ere n = .bad f c->f<=s.size):Calls prog 14 #[.string s] w (ZX pl w (AgK nx pl ere n)) :=
 AeI s i a b n h (fun m j q=>AiC a b m (XP a b d m (by omega)).block) g e
end Go.Proofs.YtfblenhlildnaaaGreatDoor
