/- The hand's Format: a format of parts; FormNear: the law. -/
import Derived.Test.YtdencljnbilchaaGreatDoorKn
import Derived.Deep.DeepCutAuto
import Derived.Deep.CutBlock
import Derived.Deep.WholeRow

namespace Go.Proofs.YtdencljnbilchaaGreatDoor
open Go.RowKit

def fpartsL : List (List UInt8) := [[37, 100], [37, 53, 100], [37, 45, 53, 100], [37, 48, 53, 100], [37, 115], [37, 46, 50, 115], [37, 49, 48, 115], [37, 99], [37, 120], [37, 111], [37, 88], [37, 117], [37, 102], [37, 46, 50, 102], [37, 101], [37, 103], [37, 71], [37, 43, 100], [37, 32, 100], [37, 42, 100], [37, 46, 42, 102], [37, 37], [97], [37, 46, 48, 102], [37, 53, 46, 51, 100], [37], [37, 113], [37, 45, 48, 56, 46, 51, 103], [37, 105], [37, 43, 101]]
def fpartsC : Array Value := (fpartsL.map fun l => Value.string ⟨l.toArray⟩).toArray
theorem fpartsC_at (j : Nat) (h : j < 30) : ∃ s : ByteArray, s.size ≤ 15 ∧ fpartsC[j]? = some (.string s) := by
  have hl : fpartsL.length = 30 := by decide
  have ha : ∀ l ∈ fpartsL, l.length ≤ 15 := by decide
  have hj : j < fpartsL.length := by omega
  refine ⟨⟨fpartsL[j].toArray⟩, ?_, ?_⟩
  · have := ha _ (List.getElem_mem hj)
    simpa [ByteArray.size] using this
  · simp [fpartsC, hl, h]

theorem wpF_value {P : Program} {o : Oper} {a : Act} {w : World} {K : Act → World → Prop} {Q : Exit → Act → World → Prop} (v : Value) (h : (execOp a.eval o).run P w = .ok (.value v) w) (hk : K (a.put o.dst v) w) : o.wp P a w K Q := by
  unfold Oper.wp; rw [h]; exact hk
theorem wpF_valueW {P : Program} {o : Oper} {a : Act} {w w' : World} {K : Act → World → Prop} {Q : Exit → Act → World → Prop} (v : Value) (h : (execOp a.eval o).run P w = .ok (.value v) w') (hk : K (a.put o.dst v) w') : o.wp P a w K Q := by
  unfold Oper.wp; rw [h]; exact hk
theorem wpF_skip {P : Program} {o : Oper} {a : Act} {w w' : World} {K : Act → World → Prop} {Q : Exit → Act → World → Prop} (h : (execOp a.eval o).run P w = .ok .skip w') (hk : K (a.put o.dst undef) w') : o.wp P a w K Q := by
  unfold Oper.wp; rw [h]; exact hk

set_option maxRecDepth 100000 in
set_option maxHeartbeats 3200000 in
theorem hformat_any (w : World) (ao : Option Addr) (n cap : Nat) (Z : Nat → Nat) (hn : n ≤ 9223372036854775807) (hl : n = 0 ∨ ∃ b o, ao = some ⟨b, o, none⟩ ∧ ∀ i, i < n → Z i < 256 ∧ w.cell? ⟨b, o + i, none⟩ = some (.int .u8 (Z i))) :
    Calls Tryz.prog 15 #[.slice ao n cap] w fun e w' => ∃ T : ByteArray, e = .returned (.string T) ∧ T.size ≤ 180 ∧ Below w.heap.size w w' := by
  go_enter Tryz.func15, Tryz.ntmps15
  go_upto_region 2 with fail
  go_cut [4, 6] (fun p x wx => p = .pointer (some ⟨w.heap.size, 0, none⟩) ∧ wx = w.alloc (.cells fpartsC 74))
  case first =>
    go_step
    go_step
    refine wpF_value (.agg fpartsC) (by kernel_rfl) ?_
    go_simp
    go_step
    go_step
    obtain ⟨Z, hZ, hZs⟩ : ∃ Z : Array Value, (∀ W : World, Sem.run Tryz.prog (Instr.alloc 74 true (.tuple #[])) W = .ok (.pointer (some ⟨W.heap.size, 0, none⟩)) (W.alloc (.cells Z 74))) ∧ Z.size = 30 :=
      ⟨(List.replicate 30 (Value.string ⟨#[]⟩)).toArray, fun W => by kernel_rfl, by simp⟩
    refine wpF_valueW (w' := w.alloc (.cells Z 74)) (.pointer (some ⟨w.heap.size, 0, none⟩)) (by
      have := hZ w
      simp only [execOp, Sem.run_bind, this, Result.andThen_ok, Sem.run_pure]) ?_
    go_simp
    go_step
    go_step
    refine wpF_skip (w' := w.alloc (.cells fpartsC 74)) (by
      have := run_storeAt_new (P := Tryz.prog) w 74 Z fpartsC (by kernel_rfl) (by rw [hZs]; kernel_rfl) (by kernel_rfl)
      simp only [execOp, Sem.run_bind]
      exact (congrArg (fun r => Result.andThen r _) this)) ?_
    go_simp
    go_wp2
    go_meet
    exact ⟨rfl, rfl⟩
  case rest =>
    obtain ⟨rfl, rfl⟩ := hcut
    have HB : Hid (Below w.heap.size w (w.alloc (.cells fpartsC 74))) := (Below.refl _ _).alloc (Nat.le_refl _) _
    have HC : Hid (∀ d, d < 30 → ∃ s : ByteArray, s.size ≤ 15 ∧ (w.alloc (.cells fpartsC 74)).cell? ⟨w.heap.size, d, none⟩ = some (.string s)) := fun d hd => by
      obtain ⟨s, h1, h2⟩ := fpartsC_at d hd
      exact ⟨s, h1, by rw [World.cell?_alloc_at _ _ _ _ rfl]; exact h2⟩
    by_cases h0 : n = 0
    · subst h0
      clear hl
      generalize w.alloc (.cells fpartsC 74) = W at *
      go_wp2
      go_loop [3, 5] (fun t i => t = .string ⟨#[]⟩ ∧ i = .int .i64 0) (fun _ _ => 0)
      case atStart => exact ⟨rfl, rfl⟩
      case round =>
        obtain ⟨rfl, rfl⟩ := hrel
        go_wp2
        go_ret
        exact ⟨_, rfl, Nat.zero_le _, HB.out⟩
    · obtain ⟨b, o, rfl, hc⟩ := hl.resolve_left h0
      have HZ : Hid (∀ i, i < n → Z i < 256 ∧ (w.alloc (.cells fpartsC 74)).cell? ⟨b, o + i, none⟩ = some (.int .u8 (Z i))) := fun i hi => ⟨(hc i hi).1, by
        rw [HB.out.cell (World.block_lt_of_cell? w ⟨b, o + i, none⟩ (hc i hi).2)]; exact (hc i hi).2⟩
      clear hc hl
      generalize w.alloc (.cells fpartsC 74) = W at *
      go_wp2
      go_loopg [3, 5] 12 (fun g t i wr => ∃ (T : ByteArray) (j : Nat), t = .string T ∧ i = .int .i64 j ∧ j ≤ n ∧ j + g = 12 ∧ T.size ≤ 15 * j ∧ ∃ q, wr = W.drewN q)
      case atStart => exact ⟨⟨#[]⟩, 0, rfl, rfl, by omega, by omega, Nat.zero_le _, 0, rfl⟩
      case round =>
        obtain ⟨T, j, rfl, rfl, hj, hjm, hT, q, rfl⟩ := hrel
        by_cases hjn : j < n
        · by_cases hjm2 : j < 12
          · obtain ⟨hz, hcell⟩ := HZ.out j hjn
            obtain ⟨s, hs, hsc⟩ := HC.out (Z j % 30) (Nat.mod_lt _ (by decide))
            have hsz : (T ++ s).size ≤ 15 * (j + 1) := by rw [ByteArray.size_append]; omega
            have HS := Lib.hid hsz
            clear hsz
            go_wp2
            go_roundg (gk - 1)
            case measure => omega
            case rel => exact ⟨_, j + 1, rfl, congrArg (Value.int .i64) (by omega), by omega, by omega, HS.out, _, rfl⟩
          · go_wp2
            go_ret
            exact ⟨T, rfl, by omega, below_drewN HB.out _⟩
        · go_wp2
          go_ret
          exact ⟨T, rfl, by omega, below_drewN HB.out _⟩

set_option maxRecDepth 100000 in
theorem formNear_true (ao : Option Addr) (n cap : Nat) (Z : Nat → Nat) (ar : Option Addr) (m capr : Nat) (w : World) (hn : n ≤ 9223372036854775807) (hl : n = 0 ∨ ∃ b o, ao = some ⟨b, o, none⟩ ∧ ∀ i, i < n → Z i < 256 ∧ w.cell? ⟨b, o + i, none⟩ = some (.int .u8 (Z i)))
    (hm : m ≤ 9223372036854775807) (hr : RawsAt w ar m) (hL : LaidJ w) :
    Calls Tryz.prog 4 #[.slice ao n cap, .slice ar m capr] w fun e w' => e = .returned (.bool true) ∧ Below w.heap.size w w' := by
  have HL := Lib.hid hL
  have HF := Lib.hid (hformat_any w ao n cap Z hn hl)
  have HA := Lib.hid (fun f W hf (hb : Below w.heap.size w W) => formAny_true f ar m capr W hf hm (hr.below hb) (HL.out.below hb))
  clear hL hr hl hn hm
  go_enter Tryz.func4, Tryz.ntmps4
  go_wp2_with (first
    | (go_at_call 15; refine HF.out.mono ?_; rintro e w1 ⟨T, rfl, hT, hb1⟩)
    | (go_at_call 3; refine (HA.out T _ (by omega) hb1).mono ?_; rintro e w2 ⟨rfl, hb2⟩; have hb3 := hb1.trans (hb2.mono hb1.size)))
  go_ret
  exact ⟨rfl, hb3⟩

end Go.Proofs.YtdencljnbilchaaGreatDoor
