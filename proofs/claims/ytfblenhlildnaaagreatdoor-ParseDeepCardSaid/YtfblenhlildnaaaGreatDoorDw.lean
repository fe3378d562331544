/- Dw -/
import Derived.Test.YtfblenhlildnaaaGreatDoorLv
import Derived.Test.YtfblenhlildnaaaGreatDoorGl
import Derived.Test.YtfblenhlildnaaaGreatDoorWy
set_option maxHeartbeats 1600000
set_option maxRecDepth 100000
open List renaming getD_eq_getElem?_getD->aA,getElem?_eq_getElem->aB
namespace Go.Proofs.YtfblenhlildnaaaGreatDoor
open Go.Proofs.Tryz
open Go.RowKit
theorem Yv (w:World) (d:CG w):Calls prog 236 #[.int .u64 1,.int .i64 0,.bool false] w fun e f=>e = .returned (.tuple #[.float .f64 4607182418800017408,.bool true])/\w=f:=by
 obtain⟨h,i,b,o,a,j,c⟩:=d;clear c;have g:floatOfInt .f64 1=4607182418800017408:=by kernel_rfl
 go_in
 go_wp2
 go_ret2
 exact⟨rfl,rfl⟩
theorem Yw (w:World) (d:CG w):Calls prog 236 #[.int .u64 2,.int .i64 0,.bool false] w fun e f=>e = .returned (.tuple #[.float .f64 4611686018427387904,.bool true])/\w=f:=by
 obtain⟨h,i,b,o,a,j,c⟩:=d;clear c;have g:floatOfInt .f64 2=4611686018427387904:=by kernel_rfl
 go_in
 go_wp2
 go_ret2
 exact⟨rfl,rfl⟩
theorem NN (s:ByteArray) (w:World) (u:s.size<=140737488351232) (f:∀c∈s.data.toList,c∈BC) (d:CG w) (m:Nat) (p:Int) (n x:Nat) (b:Bool)
  (t:rf s.data.toList=⟨m,p,b,false,n,true⟩) (g:m≠0) (v : -345<=p) (y:p<=310)
  (q:∀W,CG W->Calls prog 236 #[.int .u64 m,.int .i64 p,.bool b] W fun e a=>e = .returned (.tuple #[.float .f64 x,.bool true])/\W=a) :
  Calls prog 185 #[.string s] w fun e a=>e = .returned (.tuple #[.float .f64 x,.int .i64 n,.nilIface])/\w=a:=by
 have o:=Lib.hid (fun W=>Dw s W (by unfold maxLen;omega) (fun k h=>f _ (List.getElem_mem (l:=s.data.toList) (by simpa using h))))
 have r:∀W,Calls prog 226 #[.string s] W fun e a=>e = .returned (.tuple #[.int .u64 m,.int .i64 p,.bool b,.bool false,.bool false,.int .i64 n,.bool true])/\W=a:=fun W=>by
  have:=Cy s W u f;rw[t] at this;exact this
 have j:=Lib.hid r;have i:=Lib.hid (q w d);have A:=d.opt;have z:((m:Int)==0)=false:=beq_eq_false_iff_ne.2 (by omega);clear r q d f t g u
 cases b with
 | true =>
   go_in
   go_wp2_with (first | (go_at_call 225;refine(o.out _).mono ?_;rintro e a ⟨rfl,rfl⟩) | (go_at_call 226;refine(j.out _).mono ?_;rintro e a ⟨rfl,rfl⟩) | (go_at_call 234;refine(Bb _ _).mono ?_;rintro e a ⟨rfl,rfl⟩) | (go_at_call 236;refine i.out.mono ?_;rintro e a ⟨rfl,rfl⟩))
   go_ret3
   exact⟨rfl,rfl⟩
 | false =>
   go_in
   go_wp2_with (first | (go_at_call 225;refine(o.out _).mono ?_;rintro e a ⟨rfl,rfl⟩) | (go_at_call 226;refine(j.out _).mono ?_;rintro e a ⟨rfl,rfl⟩) | (go_at_call 234;refine(Bb _ _).mono ?_;rintro e a ⟨rfl,rfl⟩) | (go_at_call 236;refine i.out.mono ?_;rintro e a ⟨rfl,rfl⟩))
   go_ret3
   exact⟨rfl,rfl⟩
def Zs (c:UInt8):Nat:=if c=48 then 0 else if c=49 then 4607182418800017408 else 4611686018427387904
theorem YJ (w:World) (s:ByteArray) (c:UInt8) (g:c=48\/c=49\/c=50) (a:s.data.toList=[c]) (f:CG w) :
  Calls prog 84 #[.string s,.int .i64 64] w fun e i=>e = .returned (.tuple #[.float .f64 (Zs c),.nilIface])/\w=i:=by
 have d:s.size=1:=by
  have:s.data.toList.length=s.size:=rfl;rw[a] at this;exact this.symm
 refine Mr s w _ (fun W b=>?_) f;rw[d];rcases g with rfl | rfl | rfl
 ·exact Lw s W (by omega) (by rw[a];decide) b 0 false false 1 (by rw[a];rfl)
 ·exact NN s W (by omega) (by rw[a];decide) b 1 0 1 _ false (by rw[a];rfl) (by omega) (by omega) (by omega) (fun W h=>Yv W h)
 exact NN s W (by omega) (by rw[a];decide) b 2 0 1 _ false (by rw[a];rfl) (by omega) (by omega) (by omega) (fun W h=>Yw W h)
def Ac0 (l:List UInt8) (k:Nat):Bool :=
 decide (CC (l.drop k)=0)&&(decide (Ac5 (l.drop k)=1)&&(!decide (An ((l.drop k).drop (BH (l.drop k)))=0)&&(decide (l.getD k 0=48)||(decide (l.getD k 0=49)||decide (l.getD k 0=50)))))
def Z9 (l:List UInt8) (k:Nat):Tk:=⟨2,Bc l k (k+1),Zs (l.getD k 0),k,k+1,0⟩
theorem X7 (s:ByteArray) (u:s.size<=4096) (k:Nat) (r:k<s.size) (b:Ac0 s.data.toList k=true) (w:World) (m:CG w) :
  Calls prog 124 #[.string s,.int .i64 k] w fun e i=>e = .returned (YU (Z9 s.data.toList k))/\Below w.heap.size w i:=by
 have t:s.data.toList.length=s.size:=rfl;unfold Ac0 at b;simp only[Bool.and_eq_true,Bool.or_eq_true,decide_eq_true_eq,Bool.not_eq_true',decide_eq_false_iff_not] at b;obtain⟨j,d,l,f⟩:=b
 have a:(s.extract k s.size).data.toList=s.data.toList.drop k:=by
  rw[Lib.extract_data];exact List.take_of_length_le (by simp)
 have o:s.data.toList.drop k=s.data.toList.getD k 0::s.data.toList.drop (k+1):=by
  rw[Aq _ _ (by omega)];simp[aA,aB (show k<s.data.toList.length by omega)]
 have c:KW (Zs (s.data.toList.getD k 0))=false/\EU (Zs (s.data.toList.getD k 0))=Zs (s.data.toList.getD k 0)/\Zs (s.data.toList.getD k 0)<18446744073709551616:=by
  rcases f with e | e | e<;>rw[e]<;>exact⟨by kernel_rfl,by kernel_rfl,by decide⟩
 have h:=Ki s k 1 (Zs (s.data.toList.getD k 0)) w (by unfold maxLen;omega) (by omega) c.2.2 fun W n=>by
  have g:=Hy (s.extract k s.size) W (Zs (s.data.toList.getD k 0)) (by rw[ByteArray.size_extract];unfold maxLen;omega) (by rw[a];exact l) (by
   rw[a,j,d];refine(YJ W _ (s.data.toList.getD k 0) f ?_ (m.below n)).mono fun e i ⟨p,q⟩=>⟨_,p,q▸Below.refl _ _⟩
   rw[Lib.extract_data,a,o];rfl)
  rw[a,d,c.2.1] at g;exact g
 unfold F_ at h;rw[if_neg (by rw[c.1];decide)] at h;exact h
theorem Za (s:ByteArray) (c:s.size<=4096) (w:World) (e:CG w) (g:∀k,k<s.size->(Aj (s.data.toList.getD k 0)=true\/s.data.toList.getD k 0=46)->Ac0 s.data.toList k=true) :
  F2 (X8 s.data.toList (Z9 s.data.toList)) s w:=by
 refine Z3 s c _ w fun k l=>?_;obtain⟨b,j⟩:=l;have a:k<s.size:=b;have i:s.data.toList.getD k 0=s.data.toList[k]:=(by simp[aA,aB b]);have d:=g k a (by rw[i];exact j.imp id fun h=>h.1);refine⟨⟨2,Bc s.data.toList k (k+1),Zs (s.data.toList.getD k 0),k,k+1,0,rfl,Nat.le_refl _,.inr (.inr ⟨rfl,by decide,by omega,b⟩)⟩,?_,fun W f=>X7 s c k a d W (e.below f)⟩;exact NX _ _ _
end Go.Proofs.YtfblenhlildnaaaGreatDoor
