/- What the listed variables give a walk; atof64exact at one number. Plain: how far readFloat reads, how great its number is. No program here. -/
import Derived.Test.YtkedagbknflacaaDoorWj
import Derived.Test.YtkedagbknflacaaDoorGl
import Derived.Test.YtkedagbknflacaaDoorPa

namespace Go.Proofs.YtkedagbknflacaaDoor
open Go.RowKit

def pow10L : List Nat := [4607182418800017408, 4621819117588971520, 4636737291354636288, 4652007308841189376, 4666723172467343360, 4681608360884174848, 4696837146684686336, 4711630319722168320, 4726483295884279808, 4741671816366391296, 4756540486875873280, 4771362005757984768, 4786511204640096256, 4801453603149578240, 4816244402031689728, 4831355200913801216, 4846369599423283200, 4861130398305394688, 4876203697187506176, 4891288408196988160, 4906019910204099648, 4921056587992461136, 4936209963552724370]

structure LaidF (w : World) : Prop where
  opt : w.cell? ⟨4, 0, none⟩ = some (.bool true)
  mb : w.cell? ⟨5, 0, none⟩ = some (.int .u64 52)
  pow : ∃ b o cap, w.cell? ⟨8, 0, none⟩ = some (.slice (some ⟨b, o, none⟩) 23 cap) ∧ ∀ i, i < 23 → w.cell? ⟨b, o + i, none⟩ = some (.float .f64 (pow10L.getD i 0))

theorem LaidF.below {w w' : World} (h : LaidF w) (hb : Below w.heap.size w w') : LaidF w' := by
  obtain ⟨h1, h2, b, o, cap, h3, h4⟩ := h
  have keep : ∀ (a : Addr) (v : Value), w.cell? a = some v → w'.cell? a = some v := fun a v hv => by
    rw [hb.cell (World.block_lt_of_cell? w a hv)]; exact hv
  exact ⟨keep _ _ h1, keep _ _ h2, b, o, cap, keep _ _ h3, fun i hi => keep _ _ (h4 i hi)⟩

set_option maxHeartbeats 800000 in
theorem exact_15_2 (w : World) (hL : LaidF w) : Calls Tryd.prog 65 #[.int .u64 15, .int .i64 2, .bool false] w fun e w' => e = .returned (.tuple #[.float .f64 4654311885213007872, .bool true]) ∧ w = w' := by
  obtain ⟨h1, h2, b, o, cap, h3, h4⟩ := hL
  have h5 := h4 2 (by omega)
  simp only [pow10L, List.getD_cons_succ, List.getD_cons_zero] at h5
  clear h4
  have f1 : floatOfInt .f64 15 = 4624633867356078080 := by kernel_rfl
  have f2 : FloatKind.f64.format.order 4624633867356078080 4831355200913801216 = some .lt := by kernel_rfl
  have f3 : FloatKind.f64.format.order 4624633867356078080 14054727237768577024 = some .gt := by kernel_rfl
  have f4 := fun w => run_float_arith (P := Tryd.prog) (w := w) .mul 23 .f64 4624633867356078080 4636737291354636288 4654311885213007872 (by kernel_rfl)
  go_enter Tryd.func65, Tryd.ntmps65
  go_wp2
  go_ret2
  exact ⟨rfl, rfl⟩

end Go.Proofs.YtkedagbknflacaaDoor

namespace Go.Proofs.YtkedagbknflacaaDoor

theorem rfLoop_len : ∀ (l : List UInt8) (st : RF), (rfLoop st l).2 ≤ l.length
  | [], _ => Nat.le_refl _
  | c :: r, st => by
    rw [rfLoop]
    cases h : rfStep st c with
    | none => simp
    | some st' => have := rfLoop_len r st'; simp only [List.length_cons]; omega

theorem eLoop_len : ∀ (l : List UInt8) (e : Nat), (eLoop e l).2 ≤ l.length
  | [], _ => Nat.le_refl _
  | c :: r, e => by
    rw [eLoop]
    split
    · have := eLoop_len r (if e < 10000 then e * 10 + (c.toNat - 48) else e); simp only [List.length_cons]; omega
    · simp

theorem rfLoop_okS : ∀ (l : List UInt8) (st : RF) (k : Nat), st.ok k → (rfLoop st l).1.ok (k + (rfLoop st l).2)
  | [], st, k, h => h
  | c :: r, st, k, h => by
    rw [rfLoop]
    cases hs : rfStep st c with
    | none => exact h
    | some st' =>
      have := rfLoop_okS r st' (k + 1) (rfStep_ok st st' k c h hs)
      dsimp only
      rwa [show k + ((rfLoop st' r).2 + 1) = k + 1 + (rfLoop st' r).2 by omega]

theorem RF.init_okS : RF.init.ok 0 := ⟨by show 0 < 1; omega, by show 0 ≤ 19; omega, Nat.le_refl _, Nat.le_refl _, by show -((0 : Nat) : Int) ≤ 0; omega, by show (0 : Int) ≤ ((0 : Nat) : Int); omega⟩

theorem sgnN_le (l : List UInt8) : sgnN l ≤ l.length := by
  unfold sgnN; split
  · cases l with
    | nil => simp at *
    | cons c r => simp
  · omega

theorem rfDone_i (ng : Bool) (st : RF) (dp : Int) (i : Nat) : (rfDone ng st dp i).i = i := rfl
theorem rfDone_mant (ng : Bool) (st : RF) (dp : Int) (i : Nat) : (rfDone ng st dp i).mant = st.mant := rfl

theorem rf_bd (l : List UInt8) : (rf l).i ≤ l.length ∧ (rf l).mant < 10000000000000000000 := by
  unfold rf
  split
  · exact ⟨Nat.zero_le _, by show 0 < 10000000000000000000; omega⟩
  · have h1 := sgnN_le l
    have h2 := rfLoop_len (l.drop (sgnN l)) .init
    have h3 := rfLoop_okS (l.drop (sgnN l)) .init 0 RF.init_okS
    rw [List.length_drop] at h2
    generalize rfLoop .init (l.drop (sgnN l)) = R at h2 h3
    generalize sgnN l = g at h1 h2
    have hm : R.1.mant < 10000000000000000000 := by
      have := h3.1
      have h19 := h3.2.1
      have := Nat.pow_le_pow_right (n := 10) (by omega) h19
      have e : (10 : Nat) ^ 19 = 10000000000000000000 := by decide
      omega
    have hh : ∀ k, (l.drop k).head? = some 101 ∨ (l.drop k).head? = some 69 → k < l.length := by
      intro k hk
      by_cases hl : k < l.length
      · exact hl
      · rw [List.drop_eq_nil_of_le (by omega)] at hk; simp at hk
    unfold rfTail
    split
    · exact ⟨by show g + R.2 ≤ _; omega, hm⟩
    · split
      · rename_i h
        have := hh _ h
        unfold rfExp
        split
        · exact ⟨by show g + R.2 + 1 ≤ _; omega, hm⟩
        · have h5 := sgnN_le (l.drop (g + R.2 + 1))
          rw [List.length_drop] at h5
          split
          · exact ⟨by show g + R.2 + 1 + _ ≤ _; omega, hm⟩
          · rw [rfDone_i, rfDone_mant]
            have h6 := eLoop_len (l.drop (g + R.2 + 1 + sgnN (l.drop (g + R.2 + 1)))) 0
            rw [List.length_drop] at h6
            exact ⟨by omega, hm⟩
      · rw [rfDone_i, rfDone_mant]; exact ⟨by omega, hm⟩

end Go.Proofs.YtkedagbknflacaaDoor
