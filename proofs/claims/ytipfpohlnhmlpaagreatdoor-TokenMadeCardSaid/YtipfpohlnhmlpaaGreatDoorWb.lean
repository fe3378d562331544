/- Wb Wq -/
import Derived.Test.YtipfpohlnhmlpaaGreatDoorGl
import Derived.Test.YtipfpohlnhmlpaaGreatDoorWe
import Derived.Test.YtipfpohlnhmlpaaGreatDoorWo
import Derived.Test.YtipfpohlnhmlpaaGreatDoorGd
set_option maxRecDepth 100000
set_option maxHeartbeats 1600000
open ByteArray renaming data->aA
open Nat renaming le_refl->aC
namespace Go.Proofs.YtipfpohlnhmlpaaGreatDoor
open Go.Proofs.Tryz
open Go.RowKit
def F_ (x:Nat) (t:List UInt8) (i e:Int):Value:=if KW x=true then .tuple #[Ap 0 [] 0 i 0,.int .i64 23] else .tuple #[Ap 2 t x i e,.int .i64 0]
theorem Ki (s:ByteArray) (i n x:Nat) (w:World) (B:s.size<=maxLen) (D:i+n<=s.size) (q:x<18446744073709551616)
  (p:∀W,Below w.heap.size w W->Calls prog 40 #[.string (s.extract i s.size)] W fun e d=>e = .returned (.tuple #[.float .f64 x,.int .i64 n])/\Below W.heap.size W d) :
  Calls prog 13 #[.string s,.int .i64 i] w fun e d=>e = .returned (F_ x (Bc s.data.toList i (i+n)) i (i+n:Nat))/\Below w.heap.size w d:=by
 have r:Hid ((⟨(Bc s.data.toList i (i+n)).toArray⟩:ByteArray)=s.extract i (i+n)):=by
  have:(s.extract i (i+n)).data.toList=Bc s.data.toList i (i+n):=Lib.extract_data _ _ _;unfold Hid;rw[<- this]
 have o:=Lib.hid p;have f:=Lib.hid (fun W=>PF x q W);unfold maxLen at B;clear p q
 cases a:KW x with
 | true =>
   have g:Hid (F_ x (Bc s.data.toList i (i+n)) i (i+n:Nat) = .tuple #[Ap 0 [] 0 i 0,.int .i64 23]):=by unfold Hid;rw[F_,if_pos a]
   rw[a] at f;clear a
   go_in
   go_wp2_with (first | (go_at_call 40;refine(o.out _ ((Below.refl _ _).alloc (aC _) _)).mono ?_;rintro e C ⟨rfl,c⟩;have b:=c.mono (B':=w.heap.size+1) (by simp)) | (go_at_call 41;refine(f.out _).mono ?_;rintro e d ⟨rfl,rfl⟩;obtain⟨h,j,k,l,m,t,u,y,z,A⟩:=DB b))
   refine bodyPost_ret (v:=.tuple #[Ap 0 [] 0 i 0,.int .i64 23]) (by simp[results,results13,go_sem,Ap,h,j,k,l,m]) rfl ⟨by rw[g.out],BR b _ _ _ _ _⟩
 | false =>
   have g:Hid (F_ x (Bc s.data.toList i (i+n)) i (i+n:Nat) = .tuple #[Ap 2 (Bc s.data.toList i (i+n)) x i (i+n:Nat),.int .i64 0]):=by unfold Hid;rw[F_,if_neg (by simp[a])]
   rw[a] at f;clear a
   go_in
   go_wp2_with (first | (go_at_call 40;refine(o.out _ ((Below.refl _ _).alloc (aC _) _)).mono ?_;rintro e C ⟨rfl,c⟩;have b:=c.mono (B':=w.heap.size+1) (by simp)) | (go_at_call 41;refine(f.out _).mono ?_;rintro e d ⟨rfl,rfl⟩;obtain⟨h,j,k,l,m,t,u,y,z,A⟩:=DB b))
   refine bodyPost_ret (v:=.tuple #[Ap 2 (Bc s.data.toList i (i+n)) x i (i+n:Nat),.int .i64 0]) (by simp[results,results13,go_sem,Ap,h,j,k,l,m,r.out]) rfl ⟨by rw[g.out],BR b _ _ _ _ _⟩
theorem Dh {W:World} {a:Addr} {v:Value} (o:Obj) (h:W.cell? a=some v):(W.alloc o).cell? a=some v:=by
 have c:a.block<W.heap.size:=by
  rcases Nat.lt_or_ge a.block W.heap.size with b | b
  ·exact b
  simp[World.cell?,Array.getElem?_eq_none b] at h
 exact((Below.refl W.heap.size W).alloc (aC _) o).cell c▸h
theorem DV {W:World} {n:Nat} {a b c d e:Value} (f:W.cell? ⟨n,0,none⟩=some a) (g:W.cell? ⟨n,1,none⟩=some b) (h:W.cell? ⟨n,2,none⟩=some c) (i:W.cell? ⟨n,3,none⟩=some d) (j:W.cell? ⟨n,4,none⟩=some e) :
  (∀o,(W.alloc o).cell? ⟨n,0,none⟩=some a)/\(∀o,(W.alloc o).cell? ⟨n,1,none⟩=some b)/\(∀o,(W.alloc o).cell? ⟨n,2,none⟩=some c)/\(∀o,(W.alloc o).cell? ⟨n,3,none⟩=some d)/\(∀o,(W.alloc o).cell? ⟨n,4,none⟩=some e) :=
 ⟨fun o=>Dh o f,fun o=>Dh o g,fun o=>Dh o h,fun o=>Dh o i,fun o=>Dh o j⟩
theorem Fl {a c:World} {n j:Nat} {o:Obj} {v:Value} (b:n<a.heap.size) (d:Below (a.alloc o).heap.size (a.alloc o) c) (e:a.cell? ⟨n,j,none⟩=some v):c.cell? ⟨n,j,none⟩=some v:=by
 rw[d.cell (by simp;omega)];exact((Below.refl a.heap.size a).alloc (aC _) o).cell (p:=⟨n,j,none⟩) b▸e
theorem W6 {e g:World} {n:Nat} {o j:Obj} {k l m p q:Value} {W:World} (h:n<(W.alloc j).heap.size) (i:Below (W.alloc j).heap.size (W.alloc j) e) (f:Below (e.alloc o).heap.size (e.alloc o) g)
  (r:e.cell? ⟨n,0,none⟩=some k) (s:e.cell? ⟨n,1,none⟩=some l) (t:e.cell? ⟨n,2,none⟩=some m) (u:e.cell? ⟨n,3,none⟩=some p) (v:e.cell? ⟨n,4,none⟩=some q) :
  (∀d,(g.alloc d).cell? ⟨n,0,none⟩=some k)/\(∀d,(g.alloc d).cell? ⟨n,1,none⟩=some l)/\(∀d,(g.alloc d).cell? ⟨n,2,none⟩=some m)/\(∀d,(g.alloc d).cell? ⟨n,3,none⟩=some p)/\(∀d,(g.alloc d).cell? ⟨n,4,none⟩=some q):=by
 have a:=i.size;have b:=f.size;simp at b;have c:n<e.heap.size:=(by omega);exact⟨fun d=>Dh d (Fl c f r),fun d=>Dh d (Fl c f s),fun d=>Dh d (Fl c f t),fun d=>Dh d (Fl c f u),fun d=>Dh d (Fl c f v)⟩
theorem Ml (w:World) (d:CG w):Calls prog 13 #[.string ⟨#[32,49,46,53,101,51,120]⟩,.int .i64 (1:Nat)] w fun e a=>e = .returned (.tuple #[Ap 2 [49,46,53,101,51] 4654311885213007872 1 6,.int .i64 0])/\Below w.heap.size w a:=by
 have h:=Ki ⟨#[32,49,46,53,101,51,120]⟩ 1 5 4654311885213007872 w (by decide) (by decide) (by omega) (fun W g=>by
  have f:(ByteArray.extract ⟨#[32,49,46,53,101,51,120]⟩ 1 (ByteArray.size ⟨#[32,49,46,53,101,51,120]⟩))=⟨#[49,46,53,101,51,120]⟩:=(by decide);rw[f];have h:=Hy ⟨#[49,46,53,101,51,120]⟩ W 4654311885213007872 (by decide) (by decide) ((NG W _ (by decide) (d.below g)).mono (fun e a ⟨i,k⟩=>⟨_,i,k▸Below.refl _ _⟩));have b:EU 4654311885213007872=4654311885213007872:=(by kernel_rfl);have c:EV (aA ⟨#[49,46,53,101,51,120]⟩).toList=5:=(by decide);rw[b,c] at h
  exact h)
 have e:F_ 4654311885213007872 (Bc (aA ⟨#[32,49,46,53,101,51,120]⟩).toList 1 (1+5)) (1:Nat) (1+5:Nat) = .tuple #[Ap 2 [49,46,53,101,51] 4654311885213007872 1 6,.int .i64 0]:=by
  have j:KW 4654311885213007872=false:=(by kernel_rfl);rw[F_,if_neg (by rw[j];decide)];rfl
 rw[e] at h;exact h
theorem PR (w:World) (b:CG w):Calls prog 6 #[.string ⟨#[32,49,46,53,101,51,120]⟩,.int .i64 0,.bool true] w fun e d=>e = .returned (.tuple #[Ap 2 [49,46,53,101,51] 4654311885213007872 1 6,.int .i64 0])/\Below w.heap.size w d:=by
 have a:AL (aA ⟨#[32,49,46,53,101,51,120]⟩).toList 0=1:=(by decide);have h:=Fs ⟨#[32,49,46,53,101,51,120]⟩ 0 true w _ _ _ _ _ _ _ rfl (by decide) (by decide) (fun _ W c=>by rw[a];exact Ml W (b.below c));rw[a] at h;exact h
theorem RY (w:World):Calls prog 6 #[.string ⟨#[97,47,98]⟩,.int .i64 1,.bool false] w fun e c=>e = .returned (.tuple #[Ap 9 [47] 0 1 2,.int .i64 0])/\Below w.heap.size w c:=by
 have a:AL (aA ⟨#[97,47,98]⟩).toList 1=1:=(by decide);have h:=Fs ⟨#[97,47,98]⟩ 1 false w _ 0 [] 0 0 0 0 rfl (by decide) (by decide) (fun b W d=>by rw[a] at b;exact absurd b (by unfold CV;decide));rw[a] at h;exact h
theorem RZ (w:World):Calls prog 6 #[.string ⟨#[97,47,98,47]⟩,.int .i64 1,.bool true] w fun e c=>e = .returned (.tuple #[Ap 4 [98] 0 1 4,.int .i64 0])/\Below w.heap.size w c:=by
 have a:AL (aA ⟨#[97,47,98,47]⟩).toList 1=1:=(by decide);have h:=Fs ⟨#[97,47,98,47]⟩ 1 true w _ 0 [] 0 0 0 0 rfl (by decide) (by decide) (fun b W d=>by rw[a] at b;exact absurd b (by unfold CV;decide));rw[a] at h;exact h
theorem No (w:World) (m:CG w):Calls prog 8 #[] w fun e n=>e = .returned (.bool true)/\Below w.heap.size w n:=by
 have d:=PR w m;have f:=fun W=>RY W;have g:=fun W=>RZ W;unfold Ap at d f g;have o:=Lib.hid d;have p:=Lib.hid f;have q:=Lib.hid g;have r:=Lib.hid (fun W=>P1 W);clear m d f g;have R:FloatKind.f64.format.order 4654311885213007872 4654311885213007872=some .eq:=(by kernel_rfl);have S:FloatKind.f64.format.order 4611686018427387904 4611686018427387904=some .eq:=(by kernel_rfl);have T:FloatKind.f64.format.order 4607182418800017408 4607182418800017408=some .eq:=by kernel_rfl
 go_in
 go_wp2_with (first | (go_at_call 6;first | (with_reducible refine o.out.mono ?_;rintro e A ⟨rfl,c⟩) | (with_reducible refine(p.out _).mono ?_;rintro e B ⟨rfl,a⟩;obtain⟨s,t,u,v,x,H,I,J,K,L⟩:=DB (a.mono (B':=A.heap.size+1) (by simp))) | (with_reducible refine(q.out _).mono ?_;rintro e U ⟨rfl,b⟩;obtain⟨C,D,E,F,G⟩:=W6 (by simp) a b s t u v x;obtain⟨h,i,j,k,l,_,_,_,_,_⟩:=DB (b.mono (B':=B.heap.size+1) (by simp));obtain⟨M,N,O,P,Q⟩:=DV h i j k l;clear h i j k l)) | (go_at_call 30;refine(r.out _).mono ?_;rintro e n ⟨rfl,rfl⟩))
 go_ret;refine⟨rfl,?_⟩;have s1:=c.size;have y:=a.size;have z:=b.size;simp at y z;exact((((c.alloc s1 _).trans (a.mono (by simp;omega))).alloc (by omega) _).trans (b.mono (by simp;omega))).alloc (by omega) _
end Go.Proofs.YtipfpohlnhmlpaaGreatDoor
