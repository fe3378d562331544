/- The reference's Number; FormNumber: the law. -/
import Derived.Test.YtdencljnbilchaaGreatDoorTd
import Derived.Laws.FloatArith

namespace Go.Proofs.YtdencljnbilchaaGreatDoor
open Go.RowKit

theorem wrap_rng (m : Int) : -9223372036854775808 ≤ IntKind.i64.wrap m ∧ IntKind.i64.wrap m ≤ 9223372036854775807 := by
  unfold IntKind.wrap
  have e : (2 : Int) ^ IntKind.i64.bits = 18446744073709551616 := by decide
  have e2 : (2 : Int) ^ (IntKind.i64.bits - 1) = 9223372036854775808 := by decide
  have e3 : IntKind.i64.signed = true := rfl
  rw [e, e2, e3]
  dsimp only
  split
  · next h =>
    have : m % 18446744073709551616 ≥ 9223372036854775808 := by simpa using h
    omega
  · next h =>
    have : ¬ (m % 18446744073709551616 ≥ 9223372036854775808) := by simpa using h
    omega

/-- A double cut to a machine's whole number: some number, at times the machine's own choice. -/
theorem conv_i64_any (x : Nat) (W : World) : ∃ (z : Int) (q : Nat), (convert 36 2 (.float .f64 x)).run Tryz.prog W = .ok (.int .i64 z) (W.drewN q) ∧ -9223372036854775808 ≤ z ∧ z ≤ 9223372036854775807 := by
  cases h : floatToIntVal .f64 x .i64 with
  | some n =>
    have hw : IntKind.i64.min ≤ n ∧ n ≤ IntKind.i64.max := by simpa [Lit.wf] using floatToIntVal_wf h
    exact ⟨n, 0, run_convert_float_int W 36 2 .f64 .i64 x n (by rw [Tryz.underlying36]; rfl) Tryz.underlying2 h, hw.1, hw.2⟩
  | none =>
    refine ⟨IntKind.i64.wrap ((Question.floatToInt .f64 x .i64).cut (W.tape W.drawn (.floatToInt .f64 x .i64)) : Nat), 1, ?_, wrap_rng _⟩
    unfold floatToIntVal at h
    split at h
    · next n he =>
      split at h
      · cases h
      · next hb =>
        have hb' : ¬ (IntKind.i64.min ≤ n ∧ n ≤ 9223372036854775807) := hb
        simp [convert, run_underlying Tryz.underlying36, run_underlying Tryz.underlying2, Conv.floatToInt, he, Question.forced]
        rw [if_neg hb']
        rfl
    · next he =>
      simp [convert, run_underlying Tryz.underlying36, run_underlying Tryz.underlying2, Conv.floatToInt, he, Question.forced]
      rfl

/-- The reference's Format at arguments that lie in a block just made. -/
theorem rformat_new (f : ByteArray) (A : List FArg) (hA : argsOk A) (r : List UInt8 × Nat) (hr : formAll uintT f.data.toList A = r) (hf : f.size ≤ 140737488351232) (T : TypeId) (W : World) (hL : LaidJ W) (n : Nat) (hn : n = A.length) :
    Calls Tryz.prog 13 #[.string f, .slice (some ⟨W.heap.size, 0, none⟩) n n] (W.alloc (.cells (argCells A).toArray T)) fun e w' => e = .returned (.tuple #[.string ⟨r.1.toArray⟩, .int .i64 (errC r.2)]) ∧ Below W.heap.size W w' := by
  have hb : Below W.heap.size W (W.alloc (.cells (argCells A).toArray T)) := (Below.refl _ _).alloc (Nat.le_refl _) _
  have hs : (W.alloc (.cells (argCells A).toArray T)).heap.size = W.heap.size + 1 := by simp
  have h := rformat_any f _ A _ hf (hL.below hb) (by rw [hs]; exact argsAt_new W A T n hn) hA
  refine h.mono fun e w' ⟨h1, h2⟩ => ⟨by rw [← hr]; exact h1, hb.trans (h2.mono hb.size)⟩

theorem rwhole_ways (x : Nat) (hx : x < 18446744073709551616) :
    (numberT [] x = numberT [] x ∧ finB x = true ∧ wholeB x = true ∧ ∀ W, Calls Tryz.prog 36 #[.float .f64 x] W fun e w' => e = .returned (.bool true) ∧ W = w') ∨
    (finB x = true ∧ wholeB x = false ∧ (∀ W, Calls Tryz.prog 36 #[.float .f64 x] W fun e w' => e = .returned (.bool false) ∧ W = w') ∧ FinA x true) ∨
    (finB x = false ∧ (∀ W, Calls Tryz.prog 36 #[.float .f64 x] W fun e w' => e = .returned (.bool false) ∧ W = w') ∧ FinA x false) := by
  have non : ∀ (h : FinA x false), finB x = false → (finB x = false ∧ (∀ W, Calls Tryz.prog 36 #[.float .f64 x] W fun e w' => e = .returned (.bool false) ∧ W = w') ∧ FinA x false) := fun h hf => ⟨hf, fun W => rwhole_non x W h, h⟩
  rcases class3 x hx with h | rfl | rfl | h
  · have hf := (finB_iff x).2 h
    cases hw : wholeB x
    · exact .inr (.inl ⟨hf, rfl, fun W => by have := rwhole_fin x hx h W; rwa [hw] at this, fun W => rfinite_fin x h W⟩)
    · exact .inl ⟨rfl, hf, rfl, fun W => by have := rwhole_fin x hx h W; rwa [hw] at this⟩
  · exact .inr (.inr (non (fun W => rfinite_inf W) (by kernel_rfl)))
  · exact .inr (.inr (non (fun W => rfinite_minf W) (by kernel_rfl)))
  · refine .inr (.inr (non (fun W => rfinite_nan x (nan_order hx h x) W) ?_))
    rw [Bool.eq_false_iff]
    intro h'
    have := (finB_iff x).1 h'
    unfold finN at this; omega

set_option maxRecDepth 100000 in
theorem rNumber_any (f : ByteArray) (x : Nat) (hx : x < 18446744073709551616) (hf : f.size ≤ 140737488351232) (w : World) (hL : LaidJ w) :
    Calls Tryz.prog 21 #[.float .f64 x, .string f] w fun e w' => e = .returned (.tuple #[.string ⟨(numberT f.data.toList x).1.toArray⟩, .int .i64 (errC (numberT f.data.toList x).2)]) ∧ Below w.heap.size w w' := by
  have HL := Lib.hid hL
  obtain ⟨D, hD⟩ : ∃ D : ByteArray, D = ⟨(digT x).toArray⟩ := ⟨_, rfl⟩
  have HD : Hid (∀ W, LaidJ W → Calls Tryz.prog 38 #[.float .f64 x] W fun e w' => e = .returned (.string D) ∧ Below W.heap.size W w') := fun W h => by rw [hD]; exact rdigits_bare x hx W h.lg
  have hb0 := Below.refl w.heap.size w
  clear hL
  have dig : (finB x = true ∧ wholeB x = false → False) → numberT f.data.toList x = (digT x, 0) := fun h => by unfold numberT; rw [if_neg h]
  rcases rwhole_ways x hx with ⟨_, h1, h2, hw⟩ | ⟨h1, h2, hw, hfa⟩ | ⟨h1, hw, hfa⟩
  · have hN : numberT f.data.toList x = (digT x, 0) := dig fun ⟨_, h'⟩ => by rw [h2] at h'; cases h'
    have HW := Lib.hid hw
    rw [hN, ← hD]
    show Calls _ _ _ _ fun e w' => e = .returned (.tuple #[.string D, .int .i64 0]) ∧ _
    clear hN dig hx hD hw h1 h2
    go_enter Tryz.func21, Tryz.ntmps21
    go_wp2_with (first
      | (go_at_call 36; refine (HW.out _).mono ?_; rintro e w1 ⟨rfl, rfl⟩)
      | (go_at_call 38; refine (HD.out _ (HL.out.below hb0)).mono ?_; rintro e w1 ⟨rfl, hb1⟩; have hb0 := hb0.trans (hb1.mono hb0.size)))
    go_ret2
    exact ⟨rfl, hb0⟩
  · have hN : numberT f.data.toList x = formAll uintT f.data.toList [⟨x, digT x, true⟩] := by unfold numberT; rw [if_pos ⟨h1, h2⟩]
    have HW := Lib.hid hw
    have HFA := Lib.hid hfa
    rw [hN]
    obtain ⟨R, hR⟩ : ∃ R, formAll uintT f.data.toList [⟨x, digT x, true⟩] = R := ⟨_, rfl⟩
    rw [hR]
    have HFM : Hid (∀ W, LaidJ W → Calls Tryz.prog 13 #[.string f, .slice (some ⟨W.heap.size, 0, none⟩) 1 1] (W.alloc (.cells #[.float .f64 x, .string D, .bool true] 52)) fun e w' => e = .returned (.tuple #[.string ⟨R.1.toArray⟩, .int .i64 (errC R.2)]) ∧ Below W.heap.size W w') := fun W hW => by
      have h := rformat_new f [⟨x, digT x, true⟩] (fun a ha => by
        simp only [List.mem_cons, List.not_mem_nil, or_false] at ha
        subst ha
        exact ⟨hx, Nat.le_trans (digT_len x hx) (by omega)⟩) R hR hf 52 W hW 1 rfl
      rw [hD]; exact h
    clear hN dig hx hD hw h1 h2 hR hfa
    go_enter Tryz.func21, Tryz.ntmps21
    go_wp2_with (first
      | (go_at_call 36; refine (HW.out _).mono ?_; rintro e w1 ⟨rfl, rfl⟩)
      | (go_at_call 37; refine (HFA.out _).mono ?_; rintro e w1 ⟨rfl, rfl⟩)
      | (go_at_call 38; refine (HD.out _ (HL.out.below hb0)).mono ?_; rintro e w1 ⟨rfl, hb1⟩; have hb0 := hb0.trans (hb1.mono hb0.size))
      | (go_at_call 13; refine (HFM.out _ (HL.out.below hb0)).mono ?_; rintro e w1 ⟨rfl, hb1⟩; have hb0 := hb0.trans (hb1.mono hb0.size)))
    go_ret2
    exact ⟨rfl, hb0⟩
  · have hN : numberT f.data.toList x = (digT x, 0) := dig fun ⟨h, _⟩ => by rw [h1] at h; cases h
    have HW := Lib.hid hw
    have HFA := Lib.hid hfa
    rw [hN, ← hD]
    show Calls _ _ _ _ fun e w' => e = .returned (.tuple #[.string D, .int .i64 0]) ∧ _
    clear hN dig hx hD hw h1 hfa
    go_enter Tryz.func21, Tryz.ntmps21
    go_wp2_with (first
      | (go_at_call 36; refine (HW.out _).mono ?_; rintro e w1 ⟨rfl, rfl⟩)
      | (go_at_call 37; refine (HFA.out _).mono ?_; rintro e w1 ⟨rfl, rfl⟩)
      | (go_at_call 38; refine (HD.out _ (HL.out.below hb0)).mono ?_; rintro e w1 ⟨rfl, hb1⟩; have hb0 := hb0.trans (hb1.mono hb0.size)))
    go_ret2
    exact ⟨rfl, hb0⟩

set_option maxRecDepth 100000 in
theorem formNumber_true (x : Nat) (ao : Option Addr) (n cap : Nat) (Z : Nat → Nat) (wh : Bool) (w : World) (hx : x < 18446744073709551616) (hn : n ≤ 9223372036854775807) (hl : n = 0 ∨ ∃ b o, ao = some ⟨b, o, none⟩ ∧ ∀ i, i < n → Z i < 256 ∧ w.cell? ⟨b, o + i, none⟩ = some (.int .u8 (Z i))) (hL : LaidJ w) :
    Calls Tryz.prog 10 #[.float .f64 x, .slice ao n cap, .bool wh] w fun e w' => e = .returned (.bool true) ∧ Below w.heap.size w w' := by
  have HL := Lib.hid hL
  have HK := Lib.hid (fun W hW => known12_true W hW)
  have HF : Hid (∀ q, Calls Tryz.prog 15 #[.slice ao n cap] (w.drewN q) fun e w' => ∃ T : ByteArray, e = .returned (.string T) ∧ T.size ≤ 180 ∧ Below w.heap.size w w') := fun q =>
    (hformat_any (w.drewN q) ao n cap Z hn hl).mono fun e w' ⟨T, h1, h2, h3⟩ => ⟨T, h1, h2, (below_drewN (Below.refl _ _) q).trans h3⟩
  have HP := Lib.hid (fun (f : ByteArray) (y : Nat) (hy : y < 18446744073709551616) (hf : f.size ≤ 140737488351232) W hW => pNumber_any f y hy hf W hW)
  have HR := Lib.hid (fun (f : ByteArray) (y : Nat) (hy : y < 18446744073709551616) (hf : f.size ≤ 140737488351232) W hW => rNumber_any f y hy hf W hW)
  obtain ⟨z, q, hz, hz1, hz2⟩ := conv_i64_any x w
  have hb0 := Below.refl w.heap.size w
  have hbq := below_drewN (Below.refl w.heap.size w) q
  have hF0 : Calls Tryz.prog 15 #[.slice ao n cap] w fun e w' => ∃ T : ByteArray, e = .returned (.string T) ∧ T.size ≤ 180 ∧ Below w.heap.size w w' := HF.out 0
  have HF0 := Lib.hid hF0
  have HFq := Lib.hid (HF.out q)
  have hlt := ofInt_lt (z.tmod 100000)
  clear hL hl hF0 HF
  by_cases h0 : 0 < n
  · cases wh with
    | false =>
      go_enter Tryz.func10, Tryz.ntmps10
      go_wp2_with (first
        | (go_at_call 15; refine HF0.out.mono ?_; rintro e w1 ⟨T, rfl, hT, hb1⟩)
        | (go_at_call 20; refine (HP.out T _ hx (by omega) _ (HL.out.below hb1)).mono ?_; rintro e w2 ⟨he, hb2⟩; obtain ⟨S, hS⟩ : ∃ S : ByteArray, S = ⟨(numberT (T : ByteArray).data.toList x).1.toArray⟩ := ⟨_, rfl⟩; obtain ⟨E, hE⟩ : ∃ E, errC (numberT (T : ByteArray).data.toList x).2 = E := ⟨_, rfl⟩; have HS := Lib.hid hS; have HE := Lib.hid hE; rw [← HS.out, HE.out] at he; subst he; clear hS hE; have hb3 := hb1.trans (hb2.mono hb1.size))
        | (go_at_call 21; refine (HR.out T _ hx (by omega) _ (HL.out.below hb3)).mono ?_; rintro e w3 ⟨he, hb4⟩; rw [← HS.out, HE.out] at he; subst he; have hb5 := hb3.trans (hb4.mono hb3.size))
        | (go_at_call 14; refine (HK.out _ (HL.out.below hb5)).mono ?_; rintro e w4 ⟨rfl, hb6⟩; have hb7 := hb5.trans (hb6.mono hb5.size)))
      go_ret
      exact ⟨rfl, hb7⟩
    | true =>
      go_enter Tryz.func10, Tryz.ntmps10
      go_wp2_with (first
        | (go_at_call 15; refine HFq.out.mono ?_; rintro e w1 ⟨T, rfl, hT, hb1⟩)
        | (go_at_call 20; refine (HP.out T _ hlt (by omega) _ (HL.out.below hb1)).mono ?_; rintro e w2 ⟨he, hb2⟩; obtain ⟨S, hS⟩ : ∃ S : ByteArray, S = ⟨(numberT (T : ByteArray).data.toList (floatOfInt .f64 (z.tmod 100000))).1.toArray⟩ := ⟨_, rfl⟩; obtain ⟨E, hE⟩ : ∃ E, errC (numberT (T : ByteArray).data.toList (floatOfInt .f64 (z.tmod 100000))).2 = E := ⟨_, rfl⟩; have HS := Lib.hid hS; have HE := Lib.hid hE; rw [← HS.out, HE.out] at he; subst he; clear hS hE; have hb3 := hb1.trans (hb2.mono hb1.size))
        | (go_at_call 21; refine (HR.out T _ hlt (by omega) _ (HL.out.below hb3)).mono ?_; rintro e w3 ⟨he, hb4⟩; rw [← HS.out, HE.out] at he; subst he; have hb5 := hb3.trans (hb4.mono hb3.size))
        | (go_at_call 14; refine (HK.out _ (HL.out.below hb5)).mono ?_; rintro e w4 ⟨rfl, hb6⟩; have hb7 := hb5.trans (hb6.mono hb5.size)))
      go_ret
      exact ⟨rfl, hb7⟩
  · cases wh with
    | false =>
      go_enter Tryz.func10, Tryz.ntmps10
      go_wp2_with (first
        | (go_at_call 20; refine (HP.out ⟨#[37, 46, 54, 103]⟩ _ hx (by decide) _ (HL.out.below hb0)).mono ?_; rintro e w2 ⟨he, hb2⟩; obtain ⟨S, hS⟩ : ∃ S : ByteArray, S = ⟨(numberT (⟨#[37, 46, 54, 103]⟩ : ByteArray).data.toList x).1.toArray⟩ := ⟨_, rfl⟩; obtain ⟨E, hE⟩ : ∃ E, errC (numberT (⟨#[37, 46, 54, 103]⟩ : ByteArray).data.toList x).2 = E := ⟨_, rfl⟩; have HS := Lib.hid hS; have HE := Lib.hid hE; rw [← HS.out, HE.out] at he; subst he; clear hS hE; have hb3 := hb0.trans (hb2.mono hb0.size))
        | (go_at_call 21; refine (HR.out ⟨#[37, 46, 54, 103]⟩ _ hx (by decide) _ (HL.out.below hb3)).mono ?_; rintro e w3 ⟨he, hb4⟩; rw [← HS.out, HE.out] at he; subst he; have hb5 := hb3.trans (hb4.mono hb3.size))
        | (go_at_call 14; refine (HK.out _ (HL.out.below hb5)).mono ?_; rintro e w4 ⟨rfl, hb6⟩; have hb7 := hb5.trans (hb6.mono hb5.size)))
      go_ret
      exact ⟨rfl, hb7⟩
    | true =>
      go_enter Tryz.func10, Tryz.ntmps10
      go_wp2_with (first
        | (go_at_call 20; refine (HP.out ⟨#[37, 46, 54, 103]⟩ _ hlt (by decide) _ (HL.out.below hbq)).mono ?_; rintro e w2 ⟨he, hb2⟩; obtain ⟨S, hS⟩ : ∃ S : ByteArray, S = ⟨(numberT (⟨#[37, 46, 54, 103]⟩ : ByteArray).data.toList (floatOfInt .f64 (z.tmod 100000))).1.toArray⟩ := ⟨_, rfl⟩; obtain ⟨E, hE⟩ : ∃ E, errC (numberT (⟨#[37, 46, 54, 103]⟩ : ByteArray).data.toList (floatOfInt .f64 (z.tmod 100000))).2 = E := ⟨_, rfl⟩; have HS := Lib.hid hS; have HE := Lib.hid hE; rw [← HS.out, HE.out] at he; subst he; clear hS hE; have hb3 := hbq.trans (hb2.mono hbq.size))
        | (go_at_call 21; refine (HR.out ⟨#[37, 46, 54, 103]⟩ _ hlt (by decide) _ (HL.out.below hb3)).mono ?_; rintro e w3 ⟨he, hb4⟩; rw [← HS.out, HE.out] at he; subst he; have hb5 := hb3.trans (hb4.mono hb3.size))
        | (go_at_call 14; refine (HK.out _ (HL.out.below hb5)).mono ?_; rintro e w4 ⟨rfl, hb6⟩; have hb7 := hb5.trans (hb6.mono hb5.size)))
      go_ret
      exact ⟨rfl, hb7⟩

end Go.Proofs.YtdencljnbilchaaGreatDoor
