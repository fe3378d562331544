/- What the listed variables give a walk; atof64exact at one number. Plain: a numeral is of numerals' bytes. No program here. -/
import Derived.Test.YtjncgedjdmgpfaaGreatDoorWj
import Derived.Test.YtjncgedjdmgpfaaGreatDoorGl
import Derived.Test.YtjncgedjdmgpfaaGreatDoorFb

namespace Go.Proofs.YtjncgedjdmgpfaaGreatDoor
open Go.RowKit

def pow10L : List Nat := [4607182418800017408, 4621819117588971520, 4636737291354636288, 4652007308841189376, 4666723172467343360, 4681608360884174848, 4696837146684686336, 4711630319722168320, 4726483295884279808, 4741671816366391296, 4756540486875873280, 4771362005757984768, 4786511204640096256, 4801453603149578240, 4816244402031689728, 4831355200913801216, 4846369599423283200, 4861130398305394688, 4876203697187506176, 4891288408196988160, 4906019910204099648, 4921056587992461136, 4936209963552724370]

structure LaidF (w : World) : Prop where
  opt : w.cell? ⟨3, 0, none⟩ = some (.bool true)
  mb : w.cell? ⟨5, 0, none⟩ = some (.int .u64 52)
  pow : ∃ b o cap, w.cell? ⟨9, 0, none⟩ = some (.slice (some ⟨b, o, none⟩) 23 cap) ∧ ∀ i, i < 23 → w.cell? ⟨b, o + i, none⟩ = some (.float .f64 (pow10L.getD i 0))

theorem LaidF.below {w w' : World} (h : LaidF w) (hb : Below w.heap.size w w') : LaidF w' := by
  obtain ⟨h1, h2, b, o, cap, h3, h4⟩ := h
  have keep : ∀ (a : Addr) (v : Value), w.cell? a = some v → w'.cell? a = some v := fun a v hv => by
    rw [hb.cell (World.block_lt_of_cell? w a hv)]; exact hv
  exact ⟨keep _ _ h1, keep _ _ h2, b, o, cap, keep _ _ h3, fun i hi => keep _ _ (h4 i hi)⟩

set_option maxHeartbeats 800000 in
theorem exact_15_2 (w : World) (hL : LaidF w) : Calls Tryz.prog 95 #[.int .u64 15, .int .i64 2, .bool false] w fun e w' => e = .returned (.tuple #[.float .f64 4654311885213007872, .bool true]) ∧ w = w' := by
  obtain ⟨h1, h2, b, o, cap, h3, h4⟩ := hL
  have h5 := h4 2 (by omega)
  simp only [pow10L, List.getD_cons_succ, List.getD_cons_zero] at h5
  clear h4
  have f1 : floatOfInt .f64 15 = 4624633867356078080 := by kernel_rfl
  have f2 : FloatKind.f64.format.order 4624633867356078080 4831355200913801216 = some .lt := by kernel_rfl
  have f3 : FloatKind.f64.format.order 4624633867356078080 14054727237768577024 = some .gt := by kernel_rfl
  have f4 := fun w => run_float_arith (P := Tryz.prog) (w := w) .mul 24 .f64 4624633867356078080 4636737291354636288 4654311885213007872 (by kernel_rfl)
  go_enter Tryz.func95, Tryz.ntmps95
  go_wp2
  go_ret2
  exact ⟨rfl, rfl⟩

end Go.Proofs.YtjncgedjdmgpfaaGreatDoor

namespace Go.Proofs.YtjncgedjdmgpfaaGreatDoor

def allN (l : List UInt8) (n : Nat) : Prop := ∀ c ∈ l.take n, c ∈ numChL

theorem allN_zero (l : List UInt8) : allN l 0 := fun c hc => by simp at hc
theorem allN_add {l : List UInt8} {a b : Nat} (h : allN l a) (h' : allN (l.drop a) b) : allN l (a + b) := by
  intro c hc
  rw [List.take_add] at hc
  rcases List.mem_append.1 hc with hc | hc
  · exact h c hc
  · exact h' c hc
theorem dig_num (c : UInt8) (h : isDig c = true) : c ∈ numChL := by
  have hall : ∀ n : Fin 256, isDig (UInt8.ofNat n) = true → UInt8.ofNat n ∈ numChL := by decide +kernel
  have := hall ⟨c.toNat, c.toNat_lt⟩
  have e : UInt8.ofNat c.toNat = c := UInt8.toNat_inj.1 (by rw [UInt8.toNat_ofNat']; exact Nat.mod_eq_of_lt c.toNat_lt)
  simp only [e] at this
  exact this h
theorem allN_digs : ∀ l : List UInt8, allN l (nWhile isDig l)
  | [] => allN_zero _
  | c :: r => by
    unfold nWhile
    split
    · rename_i h
      intro x hx
      rw [List.take_succ_cons] at hx
      rcases List.mem_cons.1 hx with rfl | hx
      · exact dig_num _ h
      · exact allN_digs r x hx
    · exact allN_zero _
theorem allN_head {l : List UInt8} {c : UInt8} (h : l.head? = some c) (hc : c ∈ numChL) : allN l 1 := by
  cases l with
  | nil => cases h
  | cons d r =>
    cases h
    intro x hx
    simp at hx
    subst hx; exact hc
theorem allN_sgn (l : List UInt8) : allN l (sgnN l) := by
  unfold sgnN
  split
  · rename_i h
    rcases h with h | h
    · exact allN_head h (by decide)
    · exact allN_head h (by decide)
  · exact allN_zero _
theorem allN_mant (l : List UInt8) : allN l (mantN l) := by
  unfold mantN
  split
  · rename_i h
    split
    · exact allN_zero _
    · refine allN_add (allN_add (allN_digs l) (allN_head h (by decide))) ?_
      exact allN_digs _
  · exact allN_digs l
theorem allN_exp (l : List UInt8) : allN l (expN l) := by
  unfold expN
  split
  · rename_i h
    split
    · exact allN_zero _
    · refine allN_add (allN_add ?_ (allN_sgn _)) (allN_digs _)
      rcases h with h | h
      · exact allN_head h (by decide)
      · exact allN_head h (by decide)
  · exact allN_zero _
theorem allN_numeral (l : List UInt8) : allN l (numeralN l) := by
  unfold numeralN
  split
  · exact allN_zero _
  · exact allN_add (allN_mant l) (allN_exp _)

/-- The sign and the numeral behind the blanks. -/
theorem numeral_bytes (l : List UInt8) (b : Nat) : allN (l.drop b) (sgnN (l.drop b) + numeralN (l.drop (b + sgnN (l.drop b)))) := by
  refine allN_add (allN_sgn _) ?_
  rw [List.drop_drop]
  exact allN_numeral _

end Go.Proofs.YtjncgedjdmgpfaaGreatDoor
