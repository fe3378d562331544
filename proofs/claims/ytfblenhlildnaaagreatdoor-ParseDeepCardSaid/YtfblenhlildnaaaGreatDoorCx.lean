/- Cx -/
import Derived.Test.YtfblenhlildnaaaGreatDoorNl
import Derived.Test.YtfblenhlildnaaaGreatDoorCs
import Derived.Deep.RegionHeld3
import Derived.Defers
import Derived.Recover
set_option maxRecDepth 100000
set_option maxHeartbeats 4000000
open Go.World renaming block_lt_of_cell?->aA,frozen?_of_block->aB,frozen?_setCell->aC,cell?_alloc_at->aD
namespace Go.Proofs.YtfblenhlildnaaaGreatDoor
open Go.Proofs.Tryz
open Go.RowKit
structure Pd (w0:World) (bp ba be:Nat) (r f:Value) (z:Nat×Nat) (er:Int) (w:World):Prop where
 b:Below w0.heap.size w0 w
 r:w.cell? ⟨bp,0,none⟩=some r
 f:w.cell? ⟨bp,1,none⟩=some f
 z:w.cell? ⟨ba,0,none⟩=some (.complex .f64 z.1 z.2)
 e:w.cell? ⟨be,0,none⟩=some (.int .i64 er)
theorem Fl {W:World} {q b i j:Nat} {u v:Value} (a:q≠b) (h:W.cell? ⟨q,i,none⟩=some u):(W.setCell ⟨b,j,none⟩ v).cell? ⟨q,i,none⟩=some u:=by
 rw[Ag (fun e=>a (by injection e with e;exact e.symm))];exact h
theorem U3 {W:World} {b i j:Nat} {u v:Value} (a:i≠j) (h:W.cell? ⟨b,i,none⟩=some u):(W.setCell ⟨b,j,none⟩ v).cell? ⟨b,i,none⟩=some u:=by
 rw[Ag (fun e=>a (by injection e with _ e;exact e.symm))];exact h
set_option linter.unusedSimpArgs false in
theorem XE {pl:Nat->Nat×Nat} {s:ByteArray} (W:H6 pl s) {k w:World} {bs a c d f:Nat} {l:Int} {N J F B:Value} (M:Below k.heap.size k w) (hf:f<=s.size)
  (V:k.heap.size<=a) (h2:k.heap.size<=c) (h3:k.heap.size<=d) (n1:bs≠a) (n2:bs≠c) (n3:bs≠d) (D:a≠c) (E:a≠d) (n6:c≠d)
  (P:w.cell? ⟨bs,0,none⟩=some (.string s)) (G:w.cell? ⟨a,0,none⟩=some N) (Q:w.cell? ⟨a,1,none⟩=some J) (H:w.cell? ⟨c,0,none⟩=some F) (I:w.cell? ⟨d,0,none⟩=some B)
  (z1:∀j,w.frozen? ⟨a,j,none⟩=false) (z2:∀j,w.frozen? ⟨c,j,none⟩=false) (z3:∀j,w.frozen? ⟨d,j,none⟩=false) (m:List PanicEntry) :
  CallsD prog 24 #[.pointer (some ⟨bs,0,none⟩),.pointer (some ⟨a,0,none⟩),.pointer (some ⟨c,0,none⟩),.pointer (some ⟨d,0,none⟩)] (.panicking ({ v:=.iface 61 (.agg #[.int .i64 f,.int .i64 l]),recovered:=false }::m)) w
   fun e u' w'=>e = .returned (.tuple #[])/\u' = .panicking ({ v:=.iface 61 (.agg #[.int .i64 f,.int .i64 l]),recovered:=true }::m)/\Pd k a c d (.slice none 0 0) (.slice none 0 0) (pl f) l w':=by
 refine callsD_of_wpS func24 rfl fun R cs hu=>?_;apply wpS_seq;apply wpS_region;simp[wpOpsS,go_sem,recoverD,hu,ntmps24,Exit.thenS];refine wpS_of_wp ?_;rw[show (#[.pointer (some ⟨bs,0,none⟩),.pointer (some ⟨a,0,none⟩),.pointer (some ⟨c,0,none⟩),.pointer (some ⟨d,0,none⟩)]++(Array.replicate 16 undef).setIfInBounds 3 (.iface 61 (.agg #[.int .i64 f,.int .i64 l])):Array Value) = #[.pointer (some ⟨bs,0,none⟩),.pointer (some ⟨a,0,none⟩),.pointer (some ⟨c,0,none⟩),.pointer (some ⟨d,0,none⟩),undef,undef,undef,.iface 61 (.agg #[.int .i64 f,.int .i64 l]),undef,undef,undef,undef,undef,undef,undef,undef,undef,undef,undef,undef] from rfl]
 have a0:∀(x:Value) (w:World),Sem.run prog (Instr.typeAssert (.iface 61 x) 20 61 true) w = .ok (.tuple #[x,.bool true]) w:=by intro x w;kernel_rfl
 go_wp2_with fail
 obtain⟨X,g⟩:∃X,X=w.alloc (.cells #[.int .i64 f,.int .i64 l] 61):=⟨_,rfl⟩;have y:X.cell? ⟨bs,0,none⟩=some (.string s):=by rw[g];exact Az P _
 have s1:X.cell? ⟨w.heap.size,0,none⟩=some (.int .i64 f):=by rw[g,aD _ _ _ _ rfl];rfl
 have z:X.cell? ⟨w.heap.size,1,none⟩=some (.int .i64 l):=by rw[g,aD _ _ _ _ rfl];rfl
 have p1:X.cell? ⟨a,0,none⟩=some N:=by rw[g];exact Az G _
 have p2:X.cell? ⟨a,1,none⟩=some J:=by rw[g];exact Az Q _
 have p3:X.cell? ⟨c,0,none⟩=some F:=by rw[g];exact Az H _
 have p4:X.cell? ⟨d,0,none⟩=some B:=by rw[g];exact Az I _
 have lp:=aA w _ G;have la:=aA w _ H;have le:=aA w _ I;dsimp only at lp la le;have zp:∀j,X.frozen? ⟨a,j,none⟩=false:=fun j=>by rw[g,aB ((Ad w _).block a lp)];exact z1 j
 have za:∀j,X.frozen? ⟨c,j,none⟩=false:=fun j=>by rw[g,aB ((Ad w _).block c la)];exact z2 j
 have ze:∀j,X.frozen? ⟨d,j,none⟩=false:=fun j=>by rw[g,aB ((Ad w _).block d le)];exact z3 j
 have u:Hid (Below k.heap.size k X):=by rw[g];exact M.trans ((Ad w _).mono M.size)
 have O:=Lib.hid (fun w=>W f w hf);have C:w.heap.size≠a:=(by omega);have T:w.heap.size≠c:=(by omega);have U:w.heap.size≠d:=(by omega);rw[<- g];clear P G Q H I z1 z2 z3 M g W;refine wp_region_held_drew (S:=fun o=>o.cell? ⟨bs,0,none⟩=some (.string s)/\o.cell? ⟨w.heap.size,0,none⟩=some (.int .i64 f)/\o.cell? ⟨w.heap.size,1,none⟩=some (.int .i64 l)) (by kernel_rfl) ⟨y,s1,z⟩ (fun b=>?_);have y1:X.drew.cell? ⟨a,0,none⟩=some N:=p1;have y2:X.drew.cell? ⟨a,1,none⟩=some J:=p2;have y3:X.drew.cell? ⟨c,0,none⟩=some F:=p3;have y4:X.drew.cell? ⟨d,0,none⟩=some B:=p4;have xp:∀j,X.drew.frozen? ⟨a,j,none⟩=false:=zp
 have xa:∀j,X.drew.frozen? ⟨c,j,none⟩=false:=za;have xe:∀j,X.drew.frozen? ⟨d,j,none⟩=false:=ze;have hY:Hid (Below k.heap.size k X.drew):=⟨u.out.os,u.out.tape,u.out.output,u.out.size,u.out.block⟩;clear p1 p2 p3 p4 zp za ze u y s1 z;generalize X.drew=Y at *;refine wpAnyH_take (i:=0) (v:=.agg #[.slice none 0 0,.slice none 0 0]) rfl (by kernel_rfl) (by kernel_rfl) (by kernel_rfl) (fun _ _ _ h=>h) (Or.inl ⟨by rfl,fun w t=>by go_simp⟩) b ?_
 try simp only[Act.put,sP]
 refine wpAnyH_take (i:=1) (v:=.string s) rfl (by kernel_rfl) (by kernel_rfl) (by kernel_rfl) (fun _ _ _ h=>h) (Or.inl ⟨by rfl,fun w t=>by obtain⟨y,s1,z⟩:=t;go_simp⟩) b ?_
 try simp only[Act.put,sP]
 refine wpAnyH_take (i:=2) (v:=.pointer (some ⟨w.heap.size,0,none⟩)) rfl (by kernel_rfl) (by kernel_rfl) (by kernel_rfl) (fun _ _ _ h=>h) (Or.inl ⟨by rfl,fun w t=>by go_simp⟩) b ?_
 try simp only[Act.put,sP]
 refine wpAnyH_take (i:=3) (v:=.int .i64 f) rfl (by kernel_rfl) (by kernel_rfl) (by kernel_rfl) (fun _ _ _ h=>h) (Or.inl ⟨by rfl,fun w t=>by obtain⟨y,s1,z⟩:=t;go_simp⟩) b ?_
 try simp only[Act.put,sP]
 refine wpAnyH_take (i:=5) (v:=.pointer (some ⟨w.heap.size,1,none⟩)) rfl (by kernel_rfl) (by kernel_rfl) (by kernel_rfl) (fun _ _ _ h=>h) (Or.inl ⟨by rfl,fun w t=>by go_simp⟩) b ?_
 try simp only[Act.put,sP]
 refine wpAnyH_take (i:=6) (v:=.int .i64 l) rfl (by kernel_rfl) (by kernel_rfl) (by kernel_rfl) (fun _ _ _ h=>h) (Or.inl ⟨by rfl,fun w t=>by obtain⟨y,s1,z⟩:=t;go_simp⟩) b ?_
 try simp only[Act.put,sP]
 refine wpAnyH_ready (rs:=[4]) (by kernel_rfl) (by simp) ?_;refine AllReadyH.cons rfl (fun K r=>?_) AllReadyH.nil;rw[if_pos (by rfl)]
 try go_simp
 go_at_call 25
 refine(O.out _).mono ?_;rintro e w3 ⟨rfl,rfl⟩;refine r.out _ _ b (fun _=>?_)
 try simp only[Act.put,sP]
 refine wpAnyH_ready (rs:=[7]) (by kernel_rfl) (by simp) ?_;refine AllReadyH.cons rfl (fun K r=>?_) AllReadyH.nil;rw[if_pos (by rfl)]
 try go_simp
 refine r.out _ _ ⟨Fl n1 (Fl n1 b.1),Fl C (Fl C b.2.1),Fl C (Fl C b.2.2)⟩ (fun n=>?_)
 try simp only[Act.put,sP]
 have A:Hid (Below k.heap.size k ((Y.setCell ⟨a,0,none⟩ (.slice none 0 0)).setCell ⟨a,1,none⟩ (.slice none 0 0))/\((Y.setCell ⟨a,0,none⟩ (.slice none 0 0)).setCell ⟨a,1,none⟩ (.slice none 0 0)).cell? ⟨a,0,none⟩=some (.slice none 0 0)/\((Y.setCell ⟨a,0,none⟩ (.slice none 0 0)).setCell ⟨a,1,none⟩ (.slice none 0 0)).cell? ⟨a,1,none⟩=some (.slice none 0 0)) :=
  ⟨(hY.out.setCell (p:=⟨a,0,none⟩) V _).setCell (p:=⟨a,1,none⟩) V _,U3 (by decide) (A8 y1),A8 (U3 (by decide) y2)⟩
 have u3:((Y.setCell ⟨a,0,none⟩ (.slice none 0 0)).setCell ⟨a,1,none⟩ (.slice none 0 0)).cell? ⟨c,0,none⟩=some F:=Fl (Ne.symm D) (Fl (Ne.symm D) y3);have u4:((Y.setCell ⟨a,0,none⟩ (.slice none 0 0)).setCell ⟨a,1,none⟩ (.slice none 0 0)).cell? ⟨d,0,none⟩=some B:=Fl (Ne.symm E) (Fl (Ne.symm E) y4);have ua:∀j,((Y.setCell ⟨a,0,none⟩ (.slice none 0 0)).setCell ⟨a,1,none⟩ (.slice none 0 0)).frozen? ⟨c,j,none⟩=false:=fun j=>by simp only[aC];exact xa j
 have ue:∀j,((Y.setCell ⟨a,0,none⟩ (.slice none 0 0)).setCell ⟨a,1,none⟩ (.slice none 0 0)).frozen? ⟨d,j,none⟩=false:=fun j=>by simp only[aC];exact xe j
 clear b y1 y2 y3 y4 xp xa xe hY r K;generalize ((Y.setCell ⟨a,0,none⟩ (.slice none 0 0)).setCell ⟨a,1,none⟩ (.slice none 0 0))=Y at *;refine wpAnyH_ready (rs:=[8]) (by kernel_rfl) (by simp) ?_;refine AllReadyH.cons rfl (fun K r=>?_) AllReadyH.nil;rw[if_pos (by rfl)]
 try go_simp
 refine r.out _ _ ⟨Fl n2 n.1,Fl T n.2.1,Fl T n.2.2⟩ (fun q=>?_)
 try simp only[Act.put,sP]
 refine wpAnyH_ready (rs:=[9]) (by kernel_rfl) (by simp) ?_;refine AllReadyH.cons rfl (fun K r=>?_) AllReadyH.nil;rw[if_pos (by rfl)];have v4:=Fl (j:=0) (v:=.complex .f64 (pl f).1 (pl f).2) (Ne.symm n6) u4
 try go_simp
 refine r.out _ _ ⟨Fl n3 q.1,Fl U q.2.1,Fl U q.2.2⟩ (fun L=>?_)
 try simp only[Act.put,sP]
 refine wpAnyH_done (by kernel_rfl) ?_ _
 have HZ:Hid (Pd k a c d (.slice none 0 0) (.slice none 0 0) (pl f) l ((Y.setCell ⟨c,0,none⟩ (.complex .f64 (pl f).1 (pl f).2)).setCell ⟨d,0,none⟩ (.int .i64 l))) :=
  ⟨(A.out.1.setCell (p:=⟨c,0,none⟩) h2 _).setCell (p:=⟨d,0,none⟩) h3 _,Fl E (Fl D A.out.2.1),Fl E (Fl D A.out.2.2),Fl n6 (A8 u3),A8 v4⟩
 clear n q L A u3 u4 ua ue v4 O;generalize ((Y.setCell ⟨c,0,none⟩ (.complex .f64 (pl f).1 (pl f).2)).setCell ⟨d,0,none⟩ (.int .i64 l))=Z at *;go_wp2;simp[bodyPostS,results,results24];exact HZ.out
set_option linter.unusedSimpArgs false in
theorem XV (a b c d:Addr) (w:World) :
  CallsD prog 24 #[.pointer (some a),.pointer (some b),.pointer (some c),.pointer (some d)] .returning w fun e h i=>e = .returned (.tuple #[])/\h = .returning/\i=w:=by
 refine callsD_of_wpS func24 rfl fun f j g=>?_;apply wpS_seq;apply wpS_region;simp[wpOpsS,go_sem,recoverD,g,ntmps24,Exit.thenS];refine wpS_of_wp ?_;rw[show (#[.pointer (some a),.pointer (some b),.pointer (some c),.pointer (some d)]++(Array.replicate 16 undef).setIfInBounds 3 .nilIface:Array Value) = #[.pointer (some a),.pointer (some b),.pointer (some c),.pointer (some d),undef,undef,undef,.nilIface,undef,undef,undef,undef,undef,undef,undef,undef,undef,undef,undef,undef] from rfl];go_wp2;cases f
 simp_all [bodyPostS,results,results24]
end Go.Proofs.YtfblenhlildnaaaGreatDoor
