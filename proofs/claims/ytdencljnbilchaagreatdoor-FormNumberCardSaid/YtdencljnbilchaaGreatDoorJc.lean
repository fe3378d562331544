/- What the shelf's contracts ask of this program: strings.TrimPrefix, Repeat, Contains, ToUpper. strings.TrimPrefix, Repeat, ToUpper, Contains at this program, in plain words. The walks of printf's small ones: put, arg, signed, number. The walks of printf's arg and number. -/
import Derived.Test.YtdencljnbilchaaGreatDoorChecked
import Derived.Shelf.Strings.BuilderX
import Derived.ProofKit
import Derived.Test.YtdencljnbilchaaGreatDoorFl
import Derived.Shelf.Strings.Prefix
import Derived.Shelf.Strings.Search3
import Derived.Shelf.Strings.Repeat
import Derived.Shelf.Strings.OnBuilder
import Derived.Test.YtdencljnbilchaaGreatDoorFe
import Derived.Test.YtdencljnbilchaaGreatDoorFb
import Derived.Test.YtdencljnbilchaaGreatDoorXg
import Derived.Lib.AppendStr
import Derived.Deep.Heap
import Derived.Deep.MidRow

namespace Go.Proofs.YtdencljnbilchaaGreatDoor
open Go.Shelf

def renZ : Ren where
  f := fun x => if x = 99 then 60 else if x = 101 then 73 else if x = 105 then 46 else if x = 118 then 105 else if x = 143 then 42 else if x = 144 then 27 else if x = 158 then 58 else if x = 165 then 61 else if x = 166 then 62 else if x = 167 then 75 else if x = 168 then 106 else if x = 169 then 64 else if x = 170 then 63 else if x = 197 then 104 else if x = 203 then 77 else if x = 206 then 80 else if x = 208 then 100 else if x = 212 then 59 else if x = 217 then 69 else if x = 219 then 54 else if x = 224 then 71 else if x = 225 then 70 else if x = 230 then 76 else if x = 240 then 81 else if x = 241 then 82 else if x = 242 then 134 else if x = 260 then 133 else if x = 262 then 108 else if x = 263 then 78 else if x = 264 then 79 else if x = 266 then 98 else if x = 267 then 72 else if x = 270 then 107 else if x = 274 then 142 else if x = 275 then 143 else if x = 276 then 109 else if x = 277 then 110 else if x = 278 then 141 else if x = 313 then 135 else if x = 314 then 99 else x
  t := fun x => if x = 0 then 0 else if x = 3 then 3 else if x = 4 then 4 else if x = 5 then 5 else if x = 9 then 9 else if x = 20 then 20 else if x = 21 then 21 else if x = 37 then 33 else if x = 46 then 88 else if x = 51 then 48 else if x = 53 then 84 else if x = 70 then 97 else if x = 72 then 99 else if x = 75 then 102 else if x = 76 then 103 else if x = 80 then 106 else if x = 105 then 142 else if x = 107 then 115 else if x = 109 then 95 else if x = 119 then 184 else if x = 127 then 120 else if x = 138 then 186 else if x = 139 then 187 else if x = 146 then 116 else if x = 148 then 118 else if x = 160 then 188 else if x = 162 then 173 else if x = 164 then 147 else if x = 203 then 171 else if x = 206 then 193 else if x = 208 then 195 else x
  g := fun x => if x = 1 then 1 else if x = 3 then 7 else if x = 4 then 8 else if x = 13 then 4 else x

theorem lays101 : Lays.n101 Tryz.prog renZ where
  mixed := by kernel_rfl
  f101 := by kernel_rfl
  f206 := by kernel_rfl
  f208 := by kernel_rfl
  t3 := by kernel_rfl
  a3 := fun w => by kernel_rfl
  z3 := fun w => by kernel_rfl
  v3 := fun w => by kernel_rfl
  t4 := by kernel_rfl
  a4 := fun w => by kernel_rfl
  z4 := fun w => by kernel_rfl
  v4 := fun w => by kernel_rfl
  t9 := by kernel_rfl
  a9 := fun w => by kernel_rfl
  z9 := fun w => by kernel_rfl
  v9 := fun w => by kernel_rfl

theorem lays105 : Lays.n105 Tryz.prog renZ where
  mixed := by kernel_rfl
  f99 := by kernel_rfl
  f105 := by kernel_rfl
  f165 := by kernel_rfl
  f166 := by kernel_rfl
  f169 := by kernel_rfl
  f170 := by kernel_rfl
  f206 := by kernel_rfl
  f212 := by kernel_rfl
  f240 := by kernel_rfl
  f241 := by kernel_rfl
  f263 := by kernel_rfl
  f264 := by kernel_rfl
  f276 := by kernel_rfl
  f277 := by kernel_rfl
  t0 := by kernel_rfl
  a0 := fun w => by kernel_rfl
  z0 := fun w => by kernel_rfl
  v0 := fun w => by kernel_rfl
  t3 := by kernel_rfl
  a3 := fun w => by kernel_rfl
  z3 := fun w => by kernel_rfl
  v3 := fun w => by kernel_rfl
  t4 := by kernel_rfl
  a4 := fun w => by kernel_rfl
  z4 := fun w => by kernel_rfl
  v4 := fun w => by kernel_rfl
  t5 := by kernel_rfl
  a5 := fun w => by kernel_rfl
  z5 := fun w => by kernel_rfl
  v5 := fun w => by kernel_rfl
  t9 := by kernel_rfl
  a9 := fun w => by kernel_rfl
  z9 := fun w => by kernel_rfl
  v9 := fun w => by kernel_rfl
  t20 := by kernel_rfl
  a20 := fun w => by kernel_rfl
  z20 := fun w => by kernel_rfl
  v20 := fun w => by kernel_rfl
  t37 := by kernel_rfl
  a37 := fun w => by kernel_rfl
  z37 := fun w => by kernel_rfl
  v37 := fun w => by kernel_rfl
  t46 := by kernel_rfl
  a46 := fun w => by kernel_rfl
  z46 := fun w => by kernel_rfl
  v46 := fun w => by kernel_rfl
  t51 := by kernel_rfl
  a51 := fun w => by kernel_rfl
  z51 := fun w => by kernel_rfl
  v51 := fun w => by kernel_rfl
  t53 := by kernel_rfl
  a53 := fun w => by kernel_rfl
  z53 := fun w => by kernel_rfl
  v53 := fun w => by kernel_rfl
  t70 := by kernel_rfl
  a70 := fun w => by kernel_rfl
  z70 := fun w => by kernel_rfl
  v70 := fun w => by kernel_rfl
  t72 := by kernel_rfl
  a72 := fun w => by kernel_rfl
  z72 := fun w => by kernel_rfl
  v72 := fun w => by kernel_rfl
  t75 := by kernel_rfl
  a75 := fun w => by kernel_rfl
  z75 := fun w => by kernel_rfl
  v75 := fun w => by kernel_rfl
  t76 := by kernel_rfl
  a76 := fun w => by kernel_rfl
  z76 := fun w => by kernel_rfl
  v76 := fun w => by kernel_rfl
  t109 := by kernel_rfl
  a109 := fun w => by kernel_rfl
  z109 := fun w => by kernel_rfl
  v109 := fun w => by kernel_rfl
  t127 := by kernel_rfl
  a127 := fun w => by kernel_rfl
  z127 := fun w => by kernel_rfl
  v127 := fun w => by kernel_rfl
  t146 := by kernel_rfl
  a146 := fun w => by kernel_rfl
  z146 := fun w => by kernel_rfl
  v146 := fun w => by kernel_rfl
  t148 := by kernel_rfl
  a148 := fun w => by kernel_rfl
  z148 := fun w => by kernel_rfl
  v148 := fun w => by kernel_rfl
  t164 := by kernel_rfl
  a164 := fun w => by kernel_rfl
  z164 := fun w => by kernel_rfl
  v164 := fun w => by kernel_rfl

theorem lays144 : Lays.n144 Tryz.prog renZ where
  mixed := by kernel_rfl
  f143 := by kernel_rfl
  f144 := by kernel_rfl
  f217 := by kernel_rfl
  f219 := by kernel_rfl
  f224 := by kernel_rfl
  f225 := by kernel_rfl
  f266 := by kernel_rfl
  f267 := by kernel_rfl
  f314 := by kernel_rfl
  t3 := by kernel_rfl
  a3 := fun w => by kernel_rfl
  z3 := fun w => by kernel_rfl
  v3 := fun w => by kernel_rfl
  t4 := by kernel_rfl
  a4 := fun w => by kernel_rfl
  z4 := fun w => by kernel_rfl
  v4 := fun w => by kernel_rfl
  t5 := by kernel_rfl
  a5 := fun w => by kernel_rfl
  z5 := fun w => by kernel_rfl
  v5 := fun w => by kernel_rfl
  t9 := by kernel_rfl
  a9 := fun w => by kernel_rfl
  z9 := fun w => by kernel_rfl
  v9 := fun w => by kernel_rfl
  t46 := by kernel_rfl
  a46 := fun w => by kernel_rfl
  z46 := fun w => by kernel_rfl
  v46 := fun w => by kernel_rfl
  t51 := by kernel_rfl
  a51 := fun w => by kernel_rfl
  z51 := fun w => by kernel_rfl
  v51 := fun w => by kernel_rfl
  t146 := by kernel_rfl
  a146 := fun w => by kernel_rfl
  z146 := fun w => by kernel_rfl
  v146 := fun w => by kernel_rfl
  g1 := by kernel_rfl

theorem lays158 : Lays.n158 Tryz.prog renZ where
  mixed := by kernel_rfl
  f118 := by kernel_rfl
  f158 := by kernel_rfl
  f165 := by kernel_rfl
  f166 := by kernel_rfl
  f167 := by kernel_rfl
  f168 := by kernel_rfl
  f169 := by kernel_rfl
  f197 := by kernel_rfl
  f203 := by kernel_rfl
  f230 := by kernel_rfl
  f240 := by kernel_rfl
  f241 := by kernel_rfl
  f242 := by kernel_rfl
  f260 := by kernel_rfl
  f262 := by kernel_rfl
  f270 := by kernel_rfl
  f274 := by kernel_rfl
  f275 := by kernel_rfl
  f276 := by kernel_rfl
  f277 := by kernel_rfl
  f278 := by kernel_rfl
  f313 := by kernel_rfl
  t0 := by kernel_rfl
  a0 := fun w => by kernel_rfl
  z0 := fun w => by kernel_rfl
  v0 := fun w => by kernel_rfl
  t3 := by kernel_rfl
  a3 := fun w => by kernel_rfl
  z3 := fun w => by kernel_rfl
  v3 := fun w => by kernel_rfl
  t4 := by kernel_rfl
  a4 := fun w => by kernel_rfl
  z4 := fun w => by kernel_rfl
  v4 := fun w => by kernel_rfl
  t5 := by kernel_rfl
  a5 := fun w => by kernel_rfl
  z5 := fun w => by kernel_rfl
  v5 := fun w => by kernel_rfl
  t9 := by kernel_rfl
  a9 := fun w => by kernel_rfl
  z9 := fun w => by kernel_rfl
  v9 := fun w => by kernel_rfl
  t20 := by kernel_rfl
  a20 := fun w => by kernel_rfl
  z20 := fun w => by kernel_rfl
  v20 := fun w => by kernel_rfl
  t21 := by kernel_rfl
  a21 := fun w => by kernel_rfl
  z21 := fun w => by kernel_rfl
  v21 := fun w => by kernel_rfl
  t37 := by kernel_rfl
  a37 := fun w => by kernel_rfl
  z37 := fun w => by kernel_rfl
  v37 := fun w => by kernel_rfl
  t46 := by kernel_rfl
  a46 := fun w => by kernel_rfl
  z46 := fun w => by kernel_rfl
  v46 := fun w => by kernel_rfl
  t51 := by kernel_rfl
  a51 := fun w => by kernel_rfl
  z51 := fun w => by kernel_rfl
  v51 := fun w => by kernel_rfl
  t70 := by kernel_rfl
  a70 := fun w => by kernel_rfl
  z70 := fun w => by kernel_rfl
  v70 := fun w => by kernel_rfl
  t72 := by kernel_rfl
  a72 := fun w => by kernel_rfl
  z72 := fun w => by kernel_rfl
  v72 := fun w => by kernel_rfl
  t75 := by kernel_rfl
  a75 := fun w => by kernel_rfl
  z75 := fun w => by kernel_rfl
  v75 := fun w => by kernel_rfl
  t76 := by kernel_rfl
  a76 := fun w => by kernel_rfl
  z76 := fun w => by kernel_rfl
  v76 := fun w => by kernel_rfl
  t105 := by kernel_rfl
  a105 := fun w => by kernel_rfl
  z105 := fun w => by kernel_rfl
  v105 := fun w => by kernel_rfl
  t107 := by kernel_rfl
  a107 := fun w => by kernel_rfl
  z107 := fun w => by kernel_rfl
  v107 := fun w => by kernel_rfl
  t119 := by kernel_rfl
  a119 := fun w => by kernel_rfl
  z119 := fun w => by kernel_rfl
  t127 := by kernel_rfl
  a127 := fun w => by kernel_rfl
  z127 := fun w => by kernel_rfl
  v127 := fun w => by kernel_rfl
  t138 := by kernel_rfl
  a138 := fun w => by kernel_rfl
  z138 := fun w => by kernel_rfl
  v138 := fun w => by kernel_rfl
  t139 := by kernel_rfl
  a139 := fun w => by kernel_rfl
  z139 := fun w => by kernel_rfl
  v139 := fun w => by kernel_rfl
  t160 := by kernel_rfl
  a160 := fun w => by kernel_rfl
  z160 := fun w => by kernel_rfl
  v160 := fun w => by kernel_rfl
  t162 := by kernel_rfl
  a162 := fun w => by kernel_rfl
  z162 := fun w => by kernel_rfl
  v162 := fun w => by kernel_rfl
  t164 := by kernel_rfl
  a164 := fun w => by kernel_rfl
  z164 := fun w => by kernel_rfl
  v164 := fun w => by kernel_rfl
  t203 := by kernel_rfl
  a203 := fun w => by kernel_rfl
  z203 := fun w => by kernel_rfl
  v203 := fun w => by kernel_rfl
  t206 := by kernel_rfl
  a206 := fun w => by kernel_rfl
  z206 := fun w => by kernel_rfl
  v206 := fun w => by kernel_rfl
  t208 := by kernel_rfl
  a208 := fun w => by kernel_rfl
  z208 := fun w => by kernel_rfl
  v208 := fun w => by kernel_rfl
  g3 := by kernel_rfl
  g4 := by kernel_rfl
  g13 := by kernel_rfl

theorem builderX : Builder.Extra Tryz.prog renZ where
  sizeBuilder := by kernel_rfl
  liesBuilder := by kernel_rfl
  t5 := by kernel_rfl
  a5 := fun w => by kernel_rfl
  z5 := fun w => by kernel_rfl
  v5 := fun w => by kernel_rfl
  infoByte := by kernel_rfl
  cellsByte := by kernel_rfl
  sizeByte := by kernel_rfl
  neB5 := by decide

end Go.Proofs.YtdencljnbilchaaGreatDoor

namespace Go.Proofs.YtdencljnbilchaaGreatDoor
open Go.RowKit Go.Shelf

theorem trimP_any (s p : ByteArray) (w : World) : Calls Tryz.prog 73 #[.string s, .string p] w fun e w' => e = .returned (.string ⟨(Lib.trimPrefix s.data.toList p.data.toList).toArray⟩) ∧ w' = w := Any.strings_TrimPrefix lays101 s p w

theorem repeatL_one (c : UInt8) : ∀ n, Lib.repeatL [c] n = List.replicate n c
  | 0 => rfl
  | n + 1 => by rw [Lib.repeatL, repeatL_one c n]; rfl

theorem repeat_any (c : UInt8) (n : Nat) (x : Int) (hx : x = n) (w : World) (hn : n ≤ 140737488355328) : Calls Tryz.prog 46 #[.string ⟨#[c]⟩, .int .i64 x] w fun e w' => e = .returned (.string ⟨(List.replicate n c).toArray⟩) ∧ Below w.heap.size w w' := by
  subst hx
  have h := Any.strings_Repeat lays105 builderX ⟨#[c]⟩ n w (by omega) (by show 1 * n ≤ _; omega)
  rw [← repeatL_one]
  exact h

theorem upper_any (s : ByteArray) (w : World) (hs : s.size ≤ 140737488355328) (ha : ∀ b ∈ s.data.toList, b.toNat < 128) : Calls Tryz.prog 58 #[.string s] w fun e w' => e = .returned (.string ⟨(upL s.data.toList).toArray⟩) ∧ Below w.heap.size w w' := by
  have h := Any.strings_ToUpper_ascii lays158 builderX s w hs (fun j b hb => ha b (List.mem_of_getElem? hb))
  have e : upL s.data.toList = Lib.toUpperA s.data.toList := by
    unfold upL Lib.toUpperA
    refine List.map_congr_left fun c _ => ?_
    unfold Lib.upperB Lib.isLowerB
    by_cases h : 97 ≤ c ∧ c ≤ 122
    · rw [if_pos h, if_pos (by simp [h.1, h.2])]
    · rw [if_neg h, if_neg (by simpa using h)]
  rw [e]
  exact h

theorem contains_any (c : UInt8) (w : World) : Calls Tryz.prog 27 #[.string ⟨#[100, 105, 117, 111, 120, 88, 102, 70, 101, 69, 103, 71, 99, 115]⟩, .string ⟨#[c]⟩] w fun e w' => e = .returned (.bool (isLetter c)) ∧ w' = w := by
  have h := Any.strings_Contains_one lays144 ⟨#[100, 105, 117, 111, 120, 88, 102, 70, 101, 69, 103, 71, 99, 115]⟩ c w
  have e : ∀ c : UInt8, decide (0 ≤ Lib.indexByte [100, 105, 117, 111, 120, 88, 102, 70, 101, 69, 103, 71, 99, 115] c) = isLetter c := by
    have key : ∀ k : Fin 256, decide (0 ≤ Lib.indexByte [100, 105, 117, 111, 120, 88, 102, 70, 101, 69, 103, 71, 99, 115] ⟨⟨k⟩⟩) = isLetter ⟨⟨k⟩⟩ := by decide +kernel
    intro c
    exact key c.toBitVec.toFin
  rw [← e]
  exact h

end Go.Proofs.YtdencljnbilchaaGreatDoor

namespace Go
open Go.RowKit

theorem owns_kept {w w' : World} {B : Nat} {e : TypeId} {v : Value} {n : Nat} {xs : List Value} (h : w.ownsRow B e 1 v n xs) (hk : ∀ g, v.ownBlock = some g → w'.heap[g]? = w.heap[g]?) : w'.ownsRow B e 1 v n xs := by
  obtain ⟨h1, h2⟩ := h
  refine ⟨h1, h2.imp id ?_⟩
  rintro ⟨g, cap, cur, rfl, a, b, c⟩
  exact ⟨g, cap, cur, rfl, a, (hk g rfl).trans b, c⟩

theorem owns_slice {w : World} {B : Nat} {e : TypeId} {v : Value} {n : Nat} {xs : List Value} (h : w.ownsRow B e 1 v n xs) : ∃ ba cap, v = .slice ba n cap ∧ ∀ g, v.ownBlock = some g → B ≤ g ∧ ∃ cur z, w.heap[g]? = some (.cells cur e z) := by
  obtain ⟨h1, ⟨rfl, rfl⟩ | ⟨g, cap, cur, rfl, a, b, c⟩⟩ := h
  · exact ⟨none, 0, rfl, fun g h => by cases h⟩
  · exact ⟨_, cap, rfl, fun g h => by cases h; exact ⟨a, cur, _, b⟩⟩

/-- A block's type. -/
def HasT (w : World) (b : Nat) (T : TypeId) : Prop := ∃ cur z, w.heap[b]? = some (.cells cur T z)

theorem HasT.set {w : World} {b : Nat} {T : TypeId} (h : HasT w b T) (a : Addr) (v : Value) : HasT (w.setCell a v) b T := by
  obtain ⟨cur, z, h⟩ := h
  unfold World.setCell HasT
  by_cases e : a.block = b
  · subst e
    refine ⟨if a.spot.isSome then cur else cur.setIfInBounds a.off v, z, ?_⟩
    simp only [Array.getElem?_modify, h, if_true, Option.map_some]
  · exact ⟨cur, z, by simp only [Array.getElem?_modify, if_neg e]; exact h⟩
theorem HasT.lt {w : World} {b : Nat} {T : TypeId} (h : HasT w b T) : b < w.heap.size := by
  obtain ⟨cur, z, h⟩ := h
  exact (Array.getElem?_eq_some_iff.1 h).1
theorem HasT.kept {w w' : World} {b : Nat} {T : TypeId} (h : HasT w b T) (hk : w'.heap[b]? = w.heap[b]?) : HasT w' b T := by
  obtain ⟨cur, z, h⟩ := h
  exact ⟨cur, z, hk.trans h⟩
theorem HasT.ne {w : World} {b c : Nat} {T U : TypeId} (h : HasT w b T) (h2 : HasT w c U) (hn : T ≠ U) : b ≠ c := by
  rintro rfl
  obtain ⟨cur, z, h⟩ := h
  obtain ⟨cur', z', h2⟩ := h2
  rw [h] at h2
  injection h2 with h2; injection h2 with _ h2
  exact hn h2
theorem HasT.new (w : World) (Z : Array Value) (T : TypeId) : HasT (w.alloc (.cells Z T)) w.heap.size T := ⟨Z, _, Go.heap_alloc_new w _⟩

/-- A writer in block b: what it has come to (a row v of bytes), whether it is too long, what arguments are left. -/
structure WrF (w : World) (T : TypeId) (b : Nat) (v : Value) (long : Bool) (a : Value) : Prop where
  c0 : w.cell? ⟨b, 0, none⟩ = some v
  c1 : w.cell? ⟨b, 1, none⟩ = some (.bool long)
  c2 : w.cell? ⟨b, 2, none⟩ = some a
  fz : ∀ i, w.frozen? ⟨b, i, none⟩ = false
  ty : HasT w b T

section
variable {w : World} {T : TypeId} {b : Nat} {v a : Value} {long : Bool}
theorem WrF.set0 (h : WrF w T b v long a) (u : Value) : WrF (w.setCell ⟨b, 0, none⟩ u) T b u long a where
  c0 := cs_same h.c0
  c1 := by rw [cs_other (addr_ne (by omega))]; exact h.c1
  c2 := by rw [cs_other (addr_ne (by omega))]; exact h.c2
  fz := fun j => by rw [World.frozen?_setCell]; exact h.fz j
  ty := h.ty.set _ _
theorem WrF.set1 (h : WrF w T b v long a) (u : Bool) : WrF (w.setCell ⟨b, 1, none⟩ (.bool u)) T b v u a where
  c0 := by rw [cs_other (addr_ne (by omega))]; exact h.c0
  c1 := cs_same h.c1
  c2 := by rw [cs_other (addr_ne (by omega))]; exact h.c2
  fz := fun j => by rw [World.frozen?_setCell]; exact h.fz j
  ty := h.ty.set _ _
theorem WrF.set2 (h : WrF w T b v long a) (u : Value) : WrF (w.setCell ⟨b, 2, none⟩ u) T b v long u where
  c0 := by rw [cs_other (addr_ne (by omega))]; exact h.c0
  c1 := by rw [cs_other (addr_ne (by omega))]; exact h.c1
  c2 := cs_same h.c2
  fz := fun j => by rw [World.frozen?_setCell]; exact h.fz j
  ty := h.ty.set _ _
theorem WrF.kept {w' : World} (h : WrF w T b v long a) (hk : w'.heap[b]? = w.heap[b]?) : WrF w' T b v long a where
  c0 := by rw [World.cell?_of_block hk]; exact h.c0
  c1 := by rw [World.cell?_of_block hk]; exact h.c1
  c2 := by rw [World.cell?_of_block hk]; exact h.c2
  fz := fun j => by rw [World.frozen?_of_block hk]; exact h.fz j
  ty := h.ty.kept hk
end

theorem WrF.alloc {w : World} {T : TypeId} {b : Nat} {v a : Value} {long : Bool} (h : WrF w T b v long a) (o : Obj) : WrF (w.alloc o) T b v long a := h.kept (Go.heap_alloc_old w o h.ty.lt)
theorem OnlyB.alloc {b : Nat} {a w : World} (h : OnlyB b a w) (o : Obj) : OnlyB b a (w.alloc o) := h.trans (OnlyB.of_below b ((Below.refl _ _).alloc (Nat.le_refl _) o))

/-- What a call on the writer in block b leaves: its own row v and new blocks aside, the world is as it was. -/
def PutOn (b : Nat) (v : Value) (w w' : World) : Prop := ∃ w1, w.grownBy w1 v.ownBlock ∧ OnlyB b w1 w'

theorem PutOn.heap {b : Nat} {v : Value} {w w' : World} (h : PutOn b v w w') {k : Nat} (hk : k < w.heap.size) (h1 : k ≠ b) (h2 : v.ownBlock ≠ some k) : w'.heap[k]? = w.heap[k]? := by
  obtain ⟨w1, a, c⟩ := h
  rw [c.block k (by have := a.size; omega) (fun e => h1 (Option.some.inj e)), a.block k hk (fun e => h2 e.symm)]
theorem PutOn.size {b : Nat} {v : Value} {w w' : World} (h : PutOn b v w w') : w.heap.size ≤ w'.heap.size := by
  obtain ⟨w1, a, c⟩ := h
  exact Nat.le_trans a.size c.size
theorem PutOn.below {b B : Nat} {v : Value} {w0 w w' : World} (h : PutOn b v w w') (h0 : Below B w0 w) (hB : B ≤ w0.heap.size) (hb : B ≤ b) (hv : ∀ k, v.ownBlock = some k → B ≤ k) : Below B w0 w' := by
  obtain ⟨w1, a, c⟩ := h
  have hs := h0.size
  exact c.below_of (h0.grown a (by omega) hv) hb (by have := a.size; omega)
end Go
namespace Go.Proofs.YtdencljnbilchaaGreatDoor
open Go.RowKit

/-- What put leaves: the text was too long; it was too long before; it stands there. -/
def PutEnd (w : World) (b B : Nat) (v a : Value) (long : Bool) (out : List UInt8) (s : ByteArray) (e : Ending) (w' : World) : Prop :=
  e = .returned (.tuple #[]) ∧ ∃ v' out' long', WrF w' 55 b v' long' a ∧ w'.ownsRow B 5 1 v' out'.length (u8s out') ∧ PutOn b v w w' ∧
      ((256 - out.length < s.size ∧ long' = true ∧ out' = out) ∨ (s.size ≤ 256 - out.length ∧ long = true ∧ long' = true ∧ out' = out) ∨ (s.size ≤ 256 - out.length ∧ long = false ∧ long' = false ∧ out' = out ++ s.data.toList))

set_option maxRecDepth 100000 in
theorem put_any (w : World) (b B : Nat) (v a : Value) (long : Bool) (out : List UInt8) (s : ByteArray) (hW : WrF w 55 b v long a) (hO : w.ownsRow B 5 1 v out.length (u8s out)) (hl : out.length ≤ 256) (hB : B ≤ w.heap.size) :
    Calls Tryz.prog 22 #[.pointer (some ⟨b, 0, none⟩), .string s] w (PutEnd w b B v a long out s) := by
  obtain ⟨i0, hi0, hz0, hz1, hz2⟩ := info_parts Tryz.info_u8'
  obtain ⟨ba, cap, rfl, hown⟩ := owns_slice hO
  have c0 := hW.c0
  have c1 := hW.c1
  have f1 := hW.fz 1
  have hne : ∀ k, (Value.slice ba out.length cap).ownBlock = some k → k ≠ b := fun k hk => by
    obtain ⟨_, hT⟩ := hown k hk
    exact HasT.ne hT hW.ty (by decide)
  have HN := Lib.hid hne
  have HW := Lib.hid hW
  have HO := Lib.hid hO
  clear hne hown hW hO
  by_cases h1 : 256 - out.length < s.size
  · have b1 : ((s.size : Int) > 256 - out.length) := by omega
    go_enter Tryz.func22, Tryz.ntmps22
    go_wp2
    refine bodyPost_ret (results_none rfl _ _ _) rfl ?_
    refine ⟨rfl, _, out, true, HW.out.set1 true, ?_, ⟨w, World.grownBy.refl _ _, (OnlyB.refl b w).set _ _⟩, .inl ⟨by omega, rfl, rfl⟩⟩
    exact owns_kept HO.out fun g hg => Deep.blk_setCell_other _ _ _ _ (HN.out g hg)
  · have b1 : ¬ ((s.size : Int) > 256 - out.length) := by omega
    cases long with
    | true =>
      go_enter Tryz.func22, Tryz.ntmps22
      go_wp2
      go_end0
      refine ⟨rfl, .slice ba out.length cap, out, true, HW.out, HO.out, ⟨w, World.grownBy.refl _ _, OnlyB.refl b w⟩, .inr (.inl ⟨by omega, rfl, rfl, rfl⟩)⟩
    | false =>
      have hBB := hB
      go_enter Tryz.func22, Tryz.ntmps22
      go_wp2_with (at_builtin; refine Lib.wpList_append_own_string _ rfl _ _ 33 9 rfl B 5 i0 Tryz.underlying33 Tryz.underlying9 hi0 hz0 hz1 hz2 _ _ _ rfl HO.out s rfl ?c3 ?c4 ?c5 ?_)
      case c3 => unfold maxLen; omega
      case c4 => omega
      intro v' w2 hown' hgrow _
      have hk : w2.heap[b]? = w.heap[b]? := hgrow.block b HW.out.ty.lt (fun e => HN.out b e.symm rfl)
      have HW2 := HW.out.kept hk
      have d0 := HW2.c0
      have g0 := HW2.fz 0
      obtain ⟨ba', cap', rfl, h3⟩ := owns_slice hown'
      have hne2 : ∀ k, (Value.slice ba' (out.length + s.size) cap').ownBlock = some k → k ≠ b := fun k hk => HasT.ne (h3 k hk).2 HW2.ty (by decide)
      have HN2 := Lib.hid hne2
      have HW3 := Lib.hid HW2
      have HG := Lib.hid hgrow
      have HO2 := Lib.hid hown'
      clear hk HW2 hne2 hgrow hown' h3
      go_wp2
      go_end0
      refine ⟨rfl, _, out ++ s.data.toList, false, HW3.out.set0 _, ?_, ⟨w2, HG.out, (OnlyB.refl b w2).set _ _⟩, .inr (.inr ⟨by omega, rfl, rfl, rfl⟩)⟩
      have e : u8s (out ++ s.data.toList) = u8s out ++ Lib.strCells s := by unfold u8s Lib.strCells; rw [List.map_append]
      have e2 : (out ++ s.data.toList).length = out.length + s.size := by rw [List.length_append]; rfl
      rw [e, e2]
      exact owns_kept HO2.out fun g hg => Deep.blk_setCell_other _ _ _ _ (HN2.out g hg)

theorem signed_any (l p bl z : Bool) (wd pr : Int) (below : Bool) (w : World) :
    Calls Tryz.prog 56 #[.agg #[.bool l, .bool p, .bool bl, .bool z, .int .i64 wd, .int .i64 pr], .bool below] w fun e w' => e = .returned (.string ⟨(if below = true then [45] else if p = true then [43] else if bl = true then [32] else [] : List UInt8).toArray⟩) ∧ Below w.heap.size w w' := by
  cases below
  · cases p
    · cases bl <;>
      · go_enter Tryz.func56, Tryz.ntmps56
        go_wp2
        go_ret
        exact ⟨rfl, (Below.refl _ _).alloc (Nat.le_refl _) _⟩
    · go_enter Tryz.func56, Tryz.ntmps56
      go_wp2
      go_ret
      exact ⟨rfl, (Below.refl _ _).alloc (Nat.le_refl _) _⟩
  · go_enter Tryz.func56, Tryz.ntmps56
    go_wp2
    go_ret
    exact ⟨rfl, (Below.refl _ _).alloc (Nat.le_refl _) _⟩

end Go.Proofs.YtdencljnbilchaaGreatDoor

namespace Go.Proofs.YtdencljnbilchaaGreatDoor
open Go.RowKit

/-- Arguments that lie below N. -/
def ArgsAt (w : World) (N : Nat) (v : Value) (A : List FArg) : Prop :=
  ∃ cap, (A = [] ∧ ∃ ba, v = .slice ba 0 cap) ∨ (∃ b o, v = .slice (some ⟨b, o, none⟩) A.length cap ∧ A.length ≤ cap ∧ b < N ∧ ∀ i (h : i < A.length),
    w.cell? ⟨b, o + 3 * i, none⟩ = some (.float .f64 A[i].n) ∧ w.cell? ⟨b, o + 3 * i + 1, none⟩ = some (.string ⟨A[i].s.toArray⟩) ∧ w.cell? ⟨b, o + 3 * i + 2, none⟩ = some (.bool A[i].num))

theorem ArgsAt.kept {w w' : World} {N : Nat} {v : Value} {A : List FArg} (h : ArgsAt w N v A) (hk : ∀ b, b < N → w'.heap[b]? = w.heap[b]?) : ArgsAt w' N v A := by
  obtain ⟨cap, h | ⟨b, o, h1, h2, h3, h4⟩⟩ := h
  · exact ⟨cap, .inl h⟩
  · refine ⟨cap, .inr ⟨b, o, h1, h2, h3, fun i hi => ?_⟩⟩
    have key : ∀ j, w'.cell? ⟨b, j, none⟩ = w.cell? ⟨b, j, none⟩ := fun j => World.cell?_of_block (show w'.heap[(⟨b, j, none⟩ : Addr).block]? = _ from hk b h3)
    rw [key, key, key]
    exact h4 i hi

theorem ArgsAt.tail {w : World} {N b o cap : Nat} {A : List FArg} (h2 : A.length ≤ cap) (h3 : b < N) (h4 : ∀ i (h : i < A.length),
    w.cell? ⟨b, o + 3 * i, none⟩ = some (.float .f64 A[i].n) ∧ w.cell? ⟨b, o + 3 * i + 1, none⟩ = some (.string ⟨A[i].s.toArray⟩) ∧ w.cell? ⟨b, o + 3 * i + 2, none⟩ = some (.bool A[i].num)) : ArgsAt w N (.slice (some ⟨b, o + 3, none⟩) (A.length - 1) (cap - 1)) A.tail := by
  refine ⟨cap - 1, .inr ⟨b, o + 3, by rw [List.length_tail], by rw [List.length_tail]; omega, h3, fun i hi => ?_⟩⟩
  rw [List.length_tail] at hi
  have := h4 (i + 1) (by omega)
  rw [List.getElem_tail]
  rw [show o + 3 + 3 * i = o + 3 * (i + 1) by omega]
  exact this

/-- What arg leaves. -/
def ArgEnd (w : World) (N b : Nat) (v : Value) (long : Bool) (A : List FArg) (e : Ending) (w' : World) : Prop :=
  e = .returned (.agg #[.float .f64 (argH A).n, .string ⟨(argH A).s.toArray⟩, .bool (argH A).num]) ∧ ∃ a', WrF w' 55 b v long a' ∧ ArgsAt w' N a' A.tail ∧ OnlyB b w w'

set_option maxRecDepth 100000 in
theorem arg_any (w : World) (N b : Nat) (v a : Value) (long : Bool) (A : List FArg) (hW : WrF w 55 b v long a) (hA : ArgsAt w N a A) (hN : N ≤ b) :
    Calls Tryz.prog 23 #[.pointer (some ⟨b, 0, none⟩)] w (ArgEnd w N b v long A) := by
  have c2 := hW.c2
  have f2 := hW.fz 2
  have hlt := hW.ty.lt
  have HW := Lib.hid hW
  obtain ⟨cap, ⟨rfl, ba, rfl⟩ | ⟨p, o, rfl, h2, h3, h4⟩⟩ := hA
  · clear hW
    go_enter Tryz.func23, Tryz.ntmps23
    go_wp2
    refine bodyPost_ret (v := .agg #[.float .f64 0, .string ⟨[].toArray⟩, .bool false]) (by simp [results, Tryz.results23, go_sem]) rfl ?_
    exact ⟨rfl, _, HW.out.kept (Go.heap_alloc_old w _ hlt), ⟨cap, .inl ⟨rfl, ba, rfl⟩⟩, OnlyB.of_below b ((Below.refl _ _).alloc (Nat.le_refl _) _)⟩
  · cases A with
    | nil =>
      clear hW h4 h2
      go_enter Tryz.func23, Tryz.ntmps23
      go_wp2
      refine bodyPost_ret (v := .agg #[.float .f64 0, .string ⟨[].toArray⟩, .bool false]) (by simp [results, Tryz.results23, go_sem]) rfl ?_
      exact ⟨rfl, _, HW.out.kept (Go.heap_alloc_old w _ hlt), ⟨cap, .inl ⟨rfl, _, rfl⟩⟩, OnlyB.of_below b ((Below.refl _ _).alloc (Nat.le_refl _) _)⟩
    | cons x r =>
      obtain ⟨d0, d1, d2⟩ := h4 0 (by simp)
      have H4 := Lib.hid (ArgsAt.tail h2 h3 h4)
      clear h4 hW
      obtain ⟨n, hn⟩ : ∃ n, r.length = n := ⟨_, rfl⟩
      rw [List.length_cons] at c2 h2
      have HN := Lib.hid hn
      rw [hn] at c2 h2
      clear hn
      simp only [Nat.mul_zero, Nat.add_zero, List.getElem_cons_zero] at d0 d1 d2
      have hpw : p < w.heap.size := by omega
      have al : ∀ Z T q, (w.alloc (.cells Z T)).cell? ⟨p, q, none⟩ = w.cell? ⟨p, q, none⟩ := fun Z T q => World.cell?_of_block (show (w.alloc (.cells Z T)).heap[(⟨p, q, none⟩ : Addr).block]? = _ from Go.heap_alloc_old w _ hpw)
      have e0 : ∀ Z T, (w.alloc (.cells Z T)).cell? ⟨p, o, none⟩ = some (.float .f64 x.n) := fun Z T => (al Z T _).trans d0
      have e1 : ∀ Z T, (w.alloc (.cells Z T)).cell? ⟨p, o + 1, none⟩ = some (.string ⟨x.s.toArray⟩) := fun Z T => (al Z T _).trans d1
      have e2 : ∀ Z T, (w.alloc (.cells Z T)).cell? ⟨p, o + 2, none⟩ = some (.bool x.num) := fun Z T => (al Z T _).trans d2
      have b0 : (((n : Int) + 1) == 0) = false := beq_eq_false_iff_ne.2 (by omega)
      clear al d0 d1 d2
      have HP := Lib.hid (show N ≤ w.heap.size by omega)
      go_enter Tryz.func23, Tryz.ntmps23
      go_wp2
      · refine bodyPost_ret (v := .agg #[.float .f64 x.n, .string ⟨x.s.toArray⟩, .bool x.num]) (by simp [results, Tryz.results23, go_sem]) rfl ?_
        obtain rfl : n = 0 := by omega
        obtain rfl : r = [] := List.eq_nil_of_length_eq_zero HN.out
        exact ⟨rfl, _, ((HW.out.set2 _).alloc _).alloc _, ⟨_, .inl ⟨rfl, _, rfl⟩⟩, (((OnlyB.refl b w).set 2 _).alloc _).alloc _⟩
      · refine bodyPost_ret (v := .agg #[.float .f64 x.n, .string ⟨x.s.toArray⟩, .bool x.num]) (by simp [results, Tryz.results23, go_sem]) rfl ?_
        have hL := (((OnlyB.refl b w).set 2 (.slice (some ⟨p, o + 3, none⟩) n (cap - 1))).alloc (.cells #[.float .f64 x.n, .string ⟨x.s.toArray⟩, .bool x.num] 44)).alloc (.cells #[.float .f64 x.n, .string ⟨x.s.toArray⟩, .bool x.num] 44)
        refine ⟨rfl, _, ((HW.out.set2 _).alloc _).alloc _, ?_, hL⟩
        have e : n = (x :: r).length - 1 := by rw [List.length_cons, HN.out]; rfl
        rw [e]
        rw [e] at hL
        exact H4.out.kept fun k hk => hL.block k (Nat.lt_of_lt_of_le hk HP.out) (fun e => by cases e; omega)

set_option maxRecDepth 100000 in
theorem pnumber_any (s : ByteArray) (k : Nat) (w : World) (hs : s.size ≤ maxLen) (hk : k ≤ s.size) : Calls Tryz.prog 25 #[.string s, .int .i64 k] w fun e w' => e = .returned (.tuple #[.int .i64 (satN (digsAt s.data.toList k)), .int .i64 (k + nWhile isDig (s.data.toList.drop k) : Nat)]) ∧ w = w' := by
  obtain ⟨d, hd⟩ : ∃ d, k + nWhile isDig (s.data.toList.drop k) = d := ⟨_, rfl⟩
  have hdl : d ≤ s.size := by have := nWhile_le isDig (s.data.toList.drop k); simp at this; omega
  have hD : Hid (satN (digsAt s.data.toList k) = satN ((s.data.toList.drop k).take (d - k))) := by unfold Hid digsAt; rw [← hd, Nat.add_sub_cancel_left]
  rw [hd]
  have HD := Lib.hid hd
  unfold maxLen at hs
  have hid : k ≤ d := by omega
  clear hd
  go_enter Tryz.func25, Tryz.ntmps25
  go_wp2
  go_loop [6, 1] (fun n i => ∃ (j V : Nat), k ≤ j ∧ j ≤ d ∧ i = .int .i64 j ∧ n = .int .i64 V ∧ V ≤ 201 ∧ Hid (j + nWhile isDig (s.data.toList.drop j) = d) ∧ Hid (V = satN ((s.data.toList.drop k).take (j - k)))) (fun _ i => d - (intOf i).toNat)
  case atStart => exact ⟨k, 0, Nat.le_refl _, hid, rfl, rfl, by omega, HD, by simp [Hid, satN]⟩
  case round =>
    obtain ⟨j, V, hk1, hk2, rfl, rfl, hV, hJ, HV⟩ := hrel
    cases hq : digAt s.data.toList j with
    | true =>
      have h1 := nW_on hq
      have hlt := digAt_lt hq
      have h2 := hJ.out
      have hjs : j < s.size := by simpa using hlt
      have hdg : digB (s[j].toNat : Int) = true := by have := digAt_in hlt; rw [hq] at this; exact this.symm
      have hc : 48 ≤ s[j].toNat ∧ s[j].toNat ≤ 57 := by
        unfold digB at hdg
        rw [Bool.and_eq_true, decide_eq_true_iff, decide_eq_true_iff] at hdg
        omega
      obtain ⟨hc1, hc2⟩ := hc
      have hsat : satN ((s.data.toList.drop k).take (j + 1 - k)) = min (10 * V + (s[j].toNat - 48)) 201 := by
        have hj : (s.data.toList.drop k)[j - k]? = some s[j] := by
          rw [List.getElem?_drop, show k + (j - k) = j by omega, List.getElem?_eq_getElem hlt]; rfl
        rw [show j + 1 - k = (j - k) + 1 by omega, List.take_add_one, hj]
        unfold satN
        rw [List.foldl_append]
        simp only [Option.toList_some, List.foldl_cons, List.foldl_nil]
        rw [HV.out]; rfl
      have HS := Lib.hid hsat
      have hK2 : Hid (j + 1 + nWhile isDig (s.data.toList.drop (j + 1)) = d) := by unfold Hid; omega
      have hjd : j < d := by omega
      clear hq h1 h2 hlt hdg hsat
      go_wp2
      refine ⟨⟨j + 1, min (10 * V + (s[j].toNat - 48)) 201, by omega, by omega, by go_num, congrArg (Value.int .i64) (by omega), by omega, hK2, HS.out.symm⟩, ?_⟩
      simp [intOf]; omega
    | false =>
      have h1 := nW_off hq
      have h2 := hJ.out
      obtain rfl : j = d := by omega
      clear h1 h2
      by_cases hjs : j < s.size
      · have hdg : digB (s[j].toNat : Int) = false := by have := digAt_in (l := s.data.toList) (k := j) (by simpa using hjs); rw [hq] at this; exact this.symm
        clear hq
        by_cases hge : (48 : Int) ≤ (s[j].toNat : Int)
        · have hle : ¬ (s[j].toNat : Int) ≤ 57 := by
            intro hle
            unfold digB at hdg
            rw [decide_eq_true hge, decide_eq_true hle] at hdg; cases hdg
          clear hdg
          go_wp2
          go_ret2
          exact ⟨by rw [hD.out, ← HV.out]; rfl, rfl⟩
        · clear hdg
          go_wp2
          go_ret2
          exact ⟨by rw [hD.out, ← HV.out]; rfl, rfl⟩
      · clear hq
        go_wp2
        go_ret2
        exact ⟨by rw [hD.out, ← HV.out]; rfl, rfl⟩

end Go.Proofs.YtdencljnbilchaaGreatDoor
