/- The walks of tailracehand.Pick, Words. -/
import Derived.Test.YtkedagbknflacaaDoorXu
import Derived.Test.YtkedagbknflacaaDoorWx
import Derived.Deep.DeepCutAuto
import Derived.Deep.CutBlock
import Derived.Deep.WholeRow

namespace Go.Proofs.YtkedagbknflacaaDoor
open Go.RowKit

def pickN (n : Int) (m : Nat) : Nat := (n % m).toNat

set_option maxHeartbeats 1600000 in
theorem pick60 (n : Int) (w : World) : Calls Tryd.prog 13 #[.int .i64 n, .int .i64 60] w fun e w' => (∃ j : Nat, j < 60 ∧ e = .returned (.int .i64 j)) ∧ w = w' := by
  have hb : -60 < n.tmod 60 ∧ n.tmod 60 < 60 := ⟨by have := Int.lt_tmod_of_pos n (b := 60) (by omega); omega, Int.tmod_lt_of_pos n (by omega)⟩
  obtain ⟨r, er⟩ : ∃ r, n.tmod 60 = r := ⟨_, rfl⟩
  rw [er] at hb
  by_cases hr : r < 0
  · go_enter Tryd.func13, Tryd.ntmps13
    go_wp2
    go_ret
    exact ⟨⟨(r + 60).toNat, by omega, by go_num⟩, rfl⟩
  · go_enter Tryd.func13, Tryd.ntmps13
    go_wp2
    go_ret
    exact ⟨⟨r.toNat, by omega, by go_num⟩, rfl⟩

def partsL : List (List UInt8) := [[123], [125], [40], [41], [112, 114, 105, 110, 116], [112, 114, 105, 110, 116, 32], [120], [121], [97, 91], [93], [36, 49], [36], [32], [32], [10], [59], [44], [49], [50, 46, 53], [34, 116, 34], [47, 114, 47], [43], [45], [42], [47], [37], [94], [33], [60], [62], [61, 61], [126], [33, 126], [38, 38], [124, 124], [63], [58], [61], [43, 61], [43, 43], [45, 45], [105, 102, 32, 40], [119, 104, 105, 108, 101, 32, 40], [102, 111, 114, 32, 40], [100, 111, 32], [101, 108, 115, 101, 32], [32, 105, 110, 32], [66, 69, 71, 73, 78, 32], [69, 78, 68, 32], [69, 86, 69, 82, 89, 32, 53, 32], [102, 40], [108, 101, 110, 103, 116, 104], [115, 117, 98, 115, 116, 114, 40], [110, 101, 120, 116], [101, 120, 105, 116], [114, 101, 116, 117, 114, 110], [100, 101, 108, 101, 116, 101, 32], [102, 117, 110, 99, 116, 105, 111, 110, 32, 102, 40, 112, 41, 32], [103, 101, 116, 108, 105, 110, 101], [35, 99, 10]]
def partsC : Array Value := (partsL.map fun l => Value.string ⟨l.toArray⟩).toArray
theorem partsC_at (j : Nat) (h : j < 60) : ∃ s : ByteArray, s.size ≤ 15 ∧ partsC[j]? = some (.string s) := by
  have hl : partsL.length = 60 := by decide
  have ha : ∀ l ∈ partsL, l.length ≤ 15 := by decide
  have hj : j < partsL.length := by omega
  refine ⟨⟨partsL[j].toArray⟩, ?_, ?_⟩
  · have := ha _ (List.getElem_mem hj)
    simpa [ByteArray.size] using this
  · simp [partsC, hl, h]

theorem wp_value {P : Program} {o : Oper} {a : Act} {w : World} {K : Act → World → Prop} {Q : Exit → Act → World → Prop} (v : Value) (h : (execOp a.eval o).run P w = .ok (.value v) w) (hk : K (a.put o.dst v) w) : o.wp P a w K Q := by
  unfold Oper.wp; rw [h]; exact hk
theorem wp_valueW {P : Program} {o : Oper} {a : Act} {w w' : World} {K : Act → World → Prop} {Q : Exit → Act → World → Prop} (v : Value) (h : (execOp a.eval o).run P w = .ok (.value v) w') (hk : K (a.put o.dst v) w') : o.wp P a w K Q := by
  unfold Oper.wp; rw [h]; exact hk
theorem wp_skip {P : Program} {o : Oper} {a : Act} {w w' : World} {K : Act → World → Prop} {Q : Exit → Act → World → Prop} (h : (execOp a.eval o).run P w = .ok .skip w') (hk : K (a.put o.dst undef) w') : o.wp P a w K Q := by
  unfold Oper.wp; rw [h]; exact hk

set_option maxRecDepth 100000 in
set_option maxHeartbeats 3200000 in
theorem words_any (w : World) (ao : Option Addr) (n cap : Nat) (Z : Nat → Int) (hn : n ≤ 9223372036854775807) (hl : n = 0 ∨ ∃ b o, ao = some ⟨b, o, none⟩ ∧ ∀ i, i < n → w.cell? ⟨b, o + i, none⟩ = some (.int .i64 (Z i))) : Calls Tryd.prog 9 #[.slice ao n cap] w fun e w' => ∃ t : ByteArray, e = .returned (.string t) ∧ t.size ≤ 600 ∧ Below w.heap.size w w' := by
  go_enter Tryd.func9, Tryd.ntmps9
  go_upto_region 2 with fail
  go_cut [4, 6] (fun p x wx => p = .pointer (some ⟨w.heap.size, 0, none⟩) ∧ wx = w.alloc (.cells partsC 43))
  case first =>
    go_step
    go_step
    refine wp_value (.agg partsC) (by kernel_rfl) ?_
    go_simp
    go_step
    go_step
    obtain ⟨Z, hZ, hZs⟩ : ∃ Z : Array Value, (∀ W : World, Sem.run Tryd.prog (Instr.alloc 43 true (.tuple #[])) W = .ok (.pointer (some ⟨W.heap.size, 0, none⟩)) (W.alloc (.cells Z 43))) ∧ Z.size = 60 :=
      ⟨(List.replicate 60 (Value.string ⟨#[]⟩)).toArray, fun W => by kernel_rfl, by simp⟩
    refine wp_valueW (w' := w.alloc (.cells Z 43)) (.pointer (some ⟨w.heap.size, 0, none⟩)) (by
      have := hZ w
      simp only [execOp, Sem.run_bind, this, Result.andThen_ok, Sem.run_pure]) ?_
    go_simp
    go_step
    go_step
    refine wp_skip (w' := w.alloc (.cells partsC 43)) (by
      have := run_storeAt_new (P := Tryd.prog) w 43 Z partsC (by kernel_rfl) (by rw [hZs]; kernel_rfl) (by kernel_rfl)
      simp only [execOp, Sem.run_bind]
      exact (congrArg (fun r => Result.andThen r _) this)) ?_
    go_simp
    go_wp2
    go_meet
    exact ⟨rfl, rfl⟩
  case rest =>
    obtain ⟨rfl, rfl⟩ := hcut
    have HL := Lib.hid hl
    have HPK := Lib.hid (fun (z : Int) (W : World) => pick60 z W)
    clear hl
    go_wp2
    go_loopw [3, 5] (fun s i wr => ∃ (k : Nat) (t : ByteArray), k ≤ 40 ∧ i = .int .i64 k ∧ s = .string t ∧ t.size ≤ 15 * k ∧ wr = w.alloc (.cells partsC 43)) (fun _ i _ => 40 - (intOf i).toNat)
    case atStart => exact ⟨0, ⟨#[]⟩, by omega, rfl, rfl, by decide, rfl⟩
    case round =>
      obtain ⟨k, t, hk, rfl, rfl, ht, rfl⟩ := hrel
      by_cases h1 : k < n ∧ k < 40
      · obtain ⟨h1, h2⟩ := h1
        rcases HL.out with h | ⟨b, o, rfl, hc⟩
        · omega
        · have ck := cell_al (hc k h1) (.cells partsC 43)
          clear hc
          generalize Z k = z at ck
          go_wp2_with (go_at_call 13; refine (HPK.out z _).mono ?_; rintro e w1 ⟨⟨j, hj, rfl⟩, rfl⟩; obtain ⟨p, hp, hpc⟩ := partsC_at j hj; have cj : (w.alloc (.cells partsC 43)).cell? ⟨w.heap.size, j, none⟩ = some (.string p) := (by rw [World.cell?_alloc_at _ _ _ _ rfl]; exact hpc))
          go_roundw
          case rel => exact ⟨k + 1, _, by omega, by go_num, rfl, by rw [ByteArray.size_append]; omega, by first | rfl | trivial⟩
          case measure => simp [intOf]; omega
      · have hb : ¬ k < n ∨ ¬ k < 40 := by omega
        rcases hb with hb | hb
        all_goals go_wp2
        all_goals
          go_ret
          exact ⟨t, rfl, by omega, (Below.refl _ _).alloc (Nat.le_refl _) _⟩

end Go.Proofs.YtkedagbknflacaaDoor
