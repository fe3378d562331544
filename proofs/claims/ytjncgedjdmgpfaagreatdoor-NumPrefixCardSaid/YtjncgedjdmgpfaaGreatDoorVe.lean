/- tailracelaw11's bits, numeral, NumPrefix. -/
import Derived.Test.YtjncgedjdmgpfaaGreatDoorFq
import Derived.Test.YtjncgedjdmgpfaaGreatDoorFs

namespace Go.Proofs.YtjncgedjdmgpfaaGreatDoor
open Go.RowKit

theorem bits_same (x : Nat) (w : World) : Calls Tryz.prog 12 #[.float .f64 x, .float .f64 x] w fun e w' => e = .returned (.bool true) ∧ w = w' := by
  have e1 := fun W => ext_bits x W
  go_enter Tryz.func12, Tryz.ntmps12
  go_wp2_with (fail)
  go_ret
  exact ⟨rfl, rfl⟩

set_option maxHeartbeats 1600000 in
theorem numeral_some (w : World) (ao : Option Addr) (n cap : Nat) (Z : Nat → Nat) (hn : n ≤ 9223372036854775807) (hl : n = 0 ∨ ∃ b o, ao = some ⟨b, o, none⟩ ∧ ∀ i, i < n → Z i < 256 ∧ w.cell? ⟨b, o + i, none⟩ = some (.int .u8 (Z i))) :
    Calls Tryz.prog 8 #[.slice ao n cap] w fun e w' => ∃ t : ByteArray, t.size ≤ 24 ∧ e = .returned (.string t) ∧ w = w' := by
  have HL := Lib.hid hl
  clear hl
  go_enter Tryz.func8, Tryz.ntmps8
  go_wp2
  go_loop [3, 4] (fun s v => ∃ (k : Nat) (t : ByteArray), k ≤ n ∧ k ≤ 24 ∧ s = .string t ∧ t.size ≤ k ∧ v = .int .i64 k) (fun _ v => 24 - (intOf v).toNat)
  case atStart => exact ⟨0, ByteArray.empty, Nat.zero_le _, Nat.zero_le _, rfl, Nat.le_refl _, rfl⟩
  case round =>
    obtain ⟨k, t, hk1, hk2, rfl, ht, rfl⟩ := hrel
    by_cases hkn : k < n
    · by_cases hk24 : k < 24
      · obtain ⟨b, o, rfl, hc⟩ := HL.out.resolve_left (by omega)
        obtain ⟨hz, hck⟩ := hc k hkn
        have hm : Z k % 20 < 20 := Nat.mod_lt _ (by decide)
        clear hc
        go_wp2
        go_round
        case rel => exact ⟨k + 1, _, by omega, by omega, rfl, by simp; omega, by go_num⟩
        case measure => simp [intOf]; omega
      · obtain rfl : k = 24 := by omega
        go_wp2
        go_ret
        exact ⟨t, ht, rfl, rfl⟩
    · obtain rfl : k = n := by omega
      go_wp2
      go_ret
      exact ⟨t, by omega, rfl, rfl⟩

set_option maxRecDepth 100000 in
set_option maxHeartbeats 1600000 in
theorem numPrefix_true (s : ByteArray) (ao : Option Addr) (n cap : Nat) (Z : Nat → Nat) (near : Bool) (w : World) (hs : s.size ≤ 140737488351232) (hn : n ≤ 9223372036854775807) (hl : n = 0 ∨ ∃ b o, ao = some ⟨b, o, none⟩ ∧ ∀ i, i < n → Z i < 256 ∧ w.cell? ⟨b, o + i, none⟩ = some (.int .u8 (Z i))) (hL : LaidH w) :
    Calls Tryz.prog 3 #[.string s, .slice ao n cap, .bool near] w fun e w' => e = .returned (.bool true) ∧ Below w.heap.size w w' := by
  have HB := Lib.hid (numeral_some w ao n cap Z hn hl)
  have HK : Hid (∀ W, Below w.heap.size w W → Calls Tryz.prog 11 #[] W fun e w' => e = .returned (.bool true) ∧ Below W.heap.size W w') := fun W hb => known11_true W (hL.below hb).lg
  have HX : Hid (∀ t : ByteArray, t.size ≤ 140737488351232 → ∃ x N L, (∀ W, Below w.heap.size w W → Calls Tryz.prog 9 #[.string t] W fun e w' => e = .returned (.tuple #[.float .f64 x, .int .i64 N]) ∧ Below W.heap.size W w') ∧
    (∀ W, Below w.heap.size w W → Calls Tryz.prog 10 #[.string t] W fun e w' => e = .returned (.tuple #[.float .f64 x, .int .i64 N]) ∧ Below W.heap.size W w') ∧
    (∀ W, Calls Tryz.prog 13 #[.string t] W fun e w' => e = .returned (.bool L) ∧ W = w') ∧
    (∀ W, Below w.heap.size w W → Calls Tryz.prog 14 #[.string t] W fun e w' => e = .returned (.bool L) ∧ Below W.heap.size W w')) := by
    intro t ht
    obtain ⟨x, _, h1, h2⟩ := prefix_both t ht
    exact ⟨x, _, looksB t.data.toList, fun W hb => h1 W (hL.below hb), fun W hb => h2 W (hL.below hb), fun W => looks_any t W (by unfold maxLen; omega), fun W hb => rlooks_of t W (by unfold maxLen; omega) x (h2 W (hL.below hb))⟩
  clear hL hl
  have HBS := Lib.hid (fun x W => bits_same x W)
  cases near with
  | false =>
    obtain ⟨x, N, L, h1, h2, h3, h4⟩ := HX.out s hs
    have H1 := Lib.hid h1
    have H2 := Lib.hid h2
    have H3 := Lib.hid h3
    have H4 := Lib.hid h4
    have r0 := Below.refl w.heap.size w
    clear h1 h2 h3 h4 HX HB
    go_enter Tryz.func3, Tryz.ntmps3
    go_wp2_with (first
      | (go_at_call 9; refine (H1.out _ r0).mono ?_; rintro e w1 ⟨rfl, hb1⟩)
      | (go_at_call 10; refine (H2.out _ hb1).mono ?_; rintro e w2 ⟨rfl, hb2⟩; have hb12 := hb1.trans (hb2.mono hb1.size))
      | (go_at_call 11; refine (HK.out _ hb12).mono ?_; rintro e w3 ⟨rfl, hb3⟩; have hb13 := hb12.trans (hb3.mono hb12.size))
      | (go_at_call 12; refine (HBS.out _ _).mono ?_; rintro e w' ⟨rfl, rfl⟩)
      | (go_at_call 13; refine (H3.out _).mono ?_; rintro e w' ⟨rfl, rfl⟩)
      | (go_at_call 14; refine (H4.out _ hb13).mono ?_; rintro e w4 ⟨rfl, hb4⟩))
    go_ret
    exact ⟨ret_bool (by simp), hb13.trans (hb4.mono hb13.size)⟩
  | true =>
    go_enter Tryz.func3, Tryz.ntmps3
    go_upto_region 3 with (go_at_call 8; refine HB.out.mono ?_; rintro e w' ⟨t, ht, rfl, rfl⟩)
    obtain ⟨x, N, L, h1, h2, h3, h4⟩ := HX.out t (by omega)
    have H1 := Lib.hid h1
    have H2 := Lib.hid h2
    have H3 := Lib.hid h3
    have H4 := Lib.hid h4
    have r0 := Below.refl w.heap.size w
    clear h1 h2 h3 h4 HX HB
    go_wp2_with (first
      | (go_at_call 9; refine (H1.out _ r0).mono ?_; rintro e w1 ⟨rfl, hb1⟩)
      | (go_at_call 10; refine (H2.out _ hb1).mono ?_; rintro e w2 ⟨rfl, hb2⟩; have hb12 := hb1.trans (hb2.mono hb1.size))
      | (go_at_call 11; refine (HK.out _ hb12).mono ?_; rintro e w3 ⟨rfl, hb3⟩; have hb13 := hb12.trans (hb3.mono hb12.size))
      | (go_at_call 12; refine (HBS.out _ _).mono ?_; rintro e w' ⟨rfl, rfl⟩)
      | (go_at_call 13; refine (H3.out _).mono ?_; rintro e w' ⟨rfl, rfl⟩)
      | (go_at_call 14; refine (H4.out _ hb13).mono ?_; rintro e w4 ⟨rfl, hb4⟩))
    go_ret
    exact ⟨ret_bool (by simp), hb13.trans (hb4.mono hb13.size)⟩

end Go.Proofs.YtjncgedjdmgpfaaGreatDoor
