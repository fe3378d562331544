/- Memory helpers: bytes that a call appends to, as a string. No program here. -/
import Derived.WalkKit
import Derived.Laws.BytesArg

namespace Go
open Go.RowKit

def u8s (l : List UInt8) : List Value := l.map fun c => .int .u8 c.toNat

theorem strOfNums_u8 (l : List UInt8) : strOfNums (l.map fun c => (c.toNat : Int)) = ⟨l.toArray⟩ := by
  simp only [strOfNums, List.map_map]
  congr 2
  have : ((fun n : Int => UInt8.ofNat n.toNat) ∘ fun c : UInt8 => (c.toNat : Int)) = id := by
    funext c; simp
  rw [this, List.map_id]

theorem run_own_string {P : Program} {w : World} {base : Nat} {src dst e : TypeId} {v : Value} {l : List UInt8} (hs : P.underlying src = some (.slice e)) (he : P.underlying e = some (.int .u8)) (hd : P.underlying dst = some .string)
    (h : w.ownsRow base e 1 v l.length (u8s l)) : (convert src dst v).run P w = .ok (.string ⟨l.toArray⟩) w := by
  obtain ⟨h1, h2⟩ := h
  rcases h2 with ⟨rfl, h0⟩ | ⟨g, cap, cur, rfl, _, hg, _, _, hsz, htake⟩
  · have : l = [] := List.eq_nil_of_length_eq_zero h0
    subst this
    exact run_convert_bytes_nil w src e hs he _ _ dst hd
  · rw [← strOfNums_u8]
    refine run_convert_bytes_arg w src e hs he g 0 l.length cap _ (by simp) (fun i hi => ?_) dst hd
    have : cur.toList[i]? = (u8s l)[i]? := by
      rw [← htake, List.getElem?_take, if_pos (by omega)]
    rw [cell_of_row w g (0 + i) cur e (0, 0) hg]
    simp only [Nat.zero_add]
    rw [← Array.getElem?_toList, this]
    simp [u8s, hi]

@[go_sem] theorem run_store_float {P : Program} {w : World} {a : Addr} {m : Mode} (k : FloatKind) (b : Nat) : (store a (.float k b) m).run P w = stored P w a (.float k b) m := run_store P w a _ m rfl
@[go_sem] theorem run_store_complex {P : Program} {w : World} {a : Addr} {m : Mode} (k : FloatKind) (b c : Nat) : (store a (.complex k b c) m).run P w = stored P w a (.complex k b c) m := run_store P w a _ m rfl

theorem u8s_snoc (l : List UInt8) (c : UInt8) : u8s (l ++ [c]) = u8s l ++ [.int .u8 c.toNat] := by simp [u8s]
theorem u8s_length (l : List UInt8) : (u8s l).length = l.length := by simp [u8s]

/-- The cells of a block of five that a call has laid, in a later world that is as it was below. -/
theorem cells5 {w wx : World} {v0 v1 v2 v3 v4 : Value} {T : TypeId} (hb : Below (w.heap.size + 1) (w.alloc (.cells #[v0, v1, v2, v3, v4] T)) wx) :
    wx.cell? ⟨w.heap.size, 0, none⟩ = some v0 ∧ wx.cell? ⟨w.heap.size, 1, none⟩ = some v1 ∧ wx.cell? ⟨w.heap.size, 2, none⟩ = some v2 ∧ wx.cell? ⟨w.heap.size, 3, none⟩ = some v3 ∧ wx.cell? ⟨w.heap.size, 4, none⟩ = some v4 ∧
    wx.frozen? ⟨w.heap.size, 0, none⟩ = false ∧ wx.frozen? ⟨w.heap.size, 1, none⟩ = false ∧ wx.frozen? ⟨w.heap.size, 2, none⟩ = false ∧ wx.frozen? ⟨w.heap.size, 3, none⟩ = false ∧ wx.frozen? ⟨w.heap.size, 4, none⟩ = false := by
  have hF : ∀ j, wx.frozen? ⟨w.heap.size, j, none⟩ = false := fun j => by rw [hb.frozen (by simp)]; exact World.frozen?_alloc_at _ _ _ _ rfl
  refine ⟨?_, ?_, ?_, ?_, ?_, hF 0, hF 1, hF 2, hF 3, hF 4⟩ <;> (rw [hb.cell (by simp), World.cell?_alloc_at _ _ _ _ rfl]; rfl)

theorem own_below {w w' : World} {B : Nat} {e : TypeId} {sz n : Nat} {v : Value} {xs : List Value} (h : w.ownsRow B e sz v n xs) (hb : Below w.heap.size w w') : w'.ownsRow B e sz v n xs :=
  h.kept (row := none) ⟨hb.os, hb.tape, hb.output, hb.size, fun k hk _ => hb.block k hk⟩ (by cases v.ownBlock <;> simp)

theorem below_set5 {w wx : World} {o : Obj} (hb : Below (w.heap.size + 1) (w.alloc o) wx) (v0 v1 v2 v3 v4 : Value) :
    Below w.heap.size w (((((wx.setCell ⟨w.heap.size, 0, none⟩ v0).setCell ⟨w.heap.size, 1, none⟩ v1).setCell ⟨w.heap.size, 2, none⟩ v2).setCell ⟨w.heap.size, 3, none⟩ v3).setCell ⟨w.heap.size, 4, none⟩ v4) :=
  ((((((((Below.refl _ _).alloc (Nat.le_refl _) _).trans (hb.mono (by omega))).setCell (p := ⟨w.heap.size, 0, none⟩) (Nat.le_refl _) _)).setCell (p := ⟨w.heap.size, 1, none⟩) (Nat.le_refl _) _).setCell (p := ⟨w.heap.size, 2, none⟩) (Nat.le_refl _) _).setCell (p := ⟨w.heap.size, 3, none⟩) (Nat.le_refl _) _).setCell (p := ⟨w.heap.size, 4, none⟩) (Nat.le_refl _) _

theorem app_step {W wr w1 : World} {B : Nat} {e : TypeId} {v v' : Value} {acc : List UInt8} {c : UInt8} {o : Obj} (hown : wr.ownsRow B e 1 v acc.length (u8s acc)) (hb : Below B W wr) (hB : B ≤ wr.heap.size)
    (hown' : w1.ownsRow B e 1 v' (acc.length + 1) (u8s acc ++ [.int .u8 c.toNat])) (hg : (wr.alloc o).grownBy w1 v.ownBlock) :
    w1.ownsRow B e 1 v' (acc ++ [c]).length (u8s (acc ++ [c])) ∧ Below B W w1 :=
  ⟨by rw [u8s_snoc]; simpa using hown', (hb.alloc hB o).grown hg (by simp; omega) (fun j hj => (hown.lt j hj).1)⟩

end Go
