/- What the listed variables give a walk; atof64exact at one number. -/
import Derived.Test.YtkedagbknflacaaDoorWj
import Derived.Test.YtkedagbknflacaaDoorGl
namespace Go.Proofs.YtkedagbknflacaaDoor
open Go.RowKit

def pow10L : List Nat := [4607182418800017408, 4621819117588971520, 4636737291354636288, 4652007308841189376, 4666723172467343360, 4681608360884174848, 4696837146684686336, 4711630319722168320, 4726483295884279808, 4741671816366391296, 4756540486875873280, 4771362005757984768, 4786511204640096256, 4801453603149578240, 4816244402031689728, 4831355200913801216, 4846369599423283200, 4861130398305394688, 4876203697187506176, 4891288408196988160, 4906019910204099648, 4921056587992461136, 4936209963552724370]

structure LaidF (w : World) : Prop where
  opt : w.cell? ⟨4, 0, none⟩ = some (.bool true)
  mb : w.cell? ⟨5, 0, none⟩ = some (.int .u64 52)
  pow : ∃ b o cap, w.cell? ⟨8, 0, none⟩ = some (.slice (some ⟨b, o, none⟩) 23 cap) ∧ ∀ i, i < 23 → w.cell? ⟨b, o + i, none⟩ = some (.float .f64 (pow10L.getD i 0))

theorem LaidF.below {w w' : World} (h : LaidF w) (hb : Below w.heap.size w w') : LaidF w' := by
  obtain ⟨h1, h2, b, o, cap, h3, h4⟩ := h
  have keep : ∀ (a : Addr) (v : Value), w.cell? a = some v → w'.cell? a = some v := fun a v hv => by
    rw [hb.cell (World.block_lt_of_cell? w a hv)]; exact hv
  exact ⟨keep _ _ h1, keep _ _ h2, b, o, cap, keep _ _ h3, fun i hi => keep _ _ (h4 i hi)⟩

set_option maxHeartbeats 800000 in
theorem exact_15_2 (w : World) (hL : LaidF w) : Calls Tryd.prog 65 #[.int .u64 15, .int .i64 2, .bool false] w fun e w' => e = .returned (.tuple #[.float .f64 4654311885213007872, .bool true]) ∧ w = w' := by
  obtain ⟨h1, h2, b, o, cap, h3, h4⟩ := hL
  have h5 := h4 2 (by omega)
  simp only [pow10L, List.getD_cons_succ, List.getD_cons_zero] at h5
  clear h4
  have f1 : floatOfInt .f64 15 = 4624633867356078080 := by kernel_rfl
  have f2 : FloatKind.f64.format.order 4624633867356078080 4831355200913801216 = some .lt := by kernel_rfl
  have f3 : FloatKind.f64.format.order 4624633867356078080 14054727237768577024 = some .gt := by kernel_rfl
  have f4 := fun w => run_float_arith (P := Tryd.prog) (w := w) .mul 23 .f64 4624633867356078080 4636737291354636288 4654311885213007872 (by kernel_rfl)
  go_enter Tryd.func65, Tryd.ntmps65
  go_wp2
  go_ret2
  exact ⟨rfl, rfl⟩

end Go.Proofs.YtkedagbknflacaaDoor
