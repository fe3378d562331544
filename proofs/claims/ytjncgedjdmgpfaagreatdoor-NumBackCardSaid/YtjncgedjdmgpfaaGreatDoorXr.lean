/- The walk of floatBits. -/
import Derived.Test.YtjncgedjdmgpfaaGreatDoorFe
import Derived.Test.YtjncgedjdmgpfaaGreatDoorGt
import Derived.Test.YtjncgedjdmgpfaaGreatDoorWa
import Derived.Deep.DeepCutAuto
import Derived.Deep.CutBlock

namespace Go.Proofs.YtjncgedjdmgpfaaGreatDoor
open Go.RowKit

theorem DecS.drewN {w : World} {b : Nat} {ng : Bool} {s : DS} (h : DecS w b ng s) (n : Nat) : DecS (w.drewN n) b ng s := by
  obtain ⟨f, h1, h2⟩ := h; exact ⟨f, h1.drewN n, h2⟩

/-- Number, exponent, overflow, as they come to the end. -/
def fbTail (s : DS) (e : Int) : Nat × Int × Bool :=
  if 2047 ≤ e + 1023 then (0, 1024, true)
  else
    let m := riV (shlR s 53)
    if m = 9007199254740992 then (if 2047 ≤ e + 1 + 1023 then (0, 1024, true) else (4503599627370496, e + 1, false))
    else (m, if bits .and .u64 (m : Int) 4503599627370496 = 0 then -1023 else e, false)
def fbMid (s : DS) (e : Int) : Nat × Int × Bool := if e - 1 < -1022 then fbTail (shrR s (-1022 - (e - 1)).toNat) (-1022) else fbTail s (e - 1)
def fbFin (s : DS) : Nat × Int × Bool :=
  if s.nd = 0 then (0, -1023, false) else if 310 < s.dp then (0, 1024, true) else if s.dp < -330 then (0, -1023, false)
  else fbMid (fb2 (mu2 (fb1 (mu1 s) s 0).1) (fb1 (mu1 s) s 0).1 (fb1 (mu1 s) s 0).2).1 (fb2 (mu2 (fb1 (mu1 s) s 0).1) (fb1 (mu1 s) s 0).1 (fb1 (mu1 s) s 0).2).2

def outI (ng : Bool) (m : Nat) (e : Int) : Int :=
  if ng = true then bits .or .u64 (bits .or .u64 (bits .and .u64 (m : Int) 4503599627370495) ((e + 1023) * 4503599627370496)) 9223372036854775808
  else bits .or .u64 (bits .and .u64 (m : Int) 4503599627370495) ((e + 1023) * 4503599627370496)
theorem outI_bd (ng : Bool) (m : Nat) (e : Int) : 0 ≤ outI ng m e ∧ outI ng m e < 18446744073709551616 := by
  unfold outI; split <;> exact bits_bd ..

theorem and2047 (x : Int) (h0 : 0 ≤ x) (h1 : x ≤ 2047) : bits .and .i64 x 2047 = x := by
  have h : ∀ s : Fin 2048, bits .and .i64 ((s : Nat) : Int) 2047 = (s : Nat) := by decide +kernel
  have := h ⟨x.toNat, by omega⟩
  rwa [show ((x.toNat : Nat) : Int) = x by omega] at this

def JF (w : World) (b : Nat) (ng : Bool) (R : Nat × Int × Bool) (lb : Nat) (a' : Act) (w' : World) : Prop :=
  OnlyB b w w' ∧ Hid (∃ s, DecS w' b ng s) ∧ ∃ (m : Nat) (e : Int) (ov : Bool), ((lb = 1 ∧ R = (0, 1024, true)) ∨ (lb = 0 ∧ R = (m, e, ov) ∧ m < 18446744073709551616 ∧ -1023 ≤ e ∧ e ≤ 1024)) ∧ ∃ (g0 g1 g2 g3 g4 g5 g6 g7 g8 g9 g10 g11 : V20), a' = { tmps := #[.pointer (some ⟨b, 0, none⟩), .pointer (some ⟨5, 0, none⟩), g0.a, g0.b, .int .u64 0, .bool ov, .int .i64 e, .int .u64 m, g0.c, g0.d, g0.e, g0.f, g0.g, g0.h, g0.i, g0.j, g0.k, g0.l, g0.m, g0.n, g0.o, g0.p, g0.q, g0.r, g0.s, g0.t, g1.a, g1.b, g1.c, g1.d, g1.e, g1.f, g1.g, g1.h, g1.i, g1.j, g1.k, g1.l, g1.m, g1.n, g1.o, g1.p, g1.q, g1.r, g1.s, g1.t, g2.a, g2.b, g2.c, g2.d, g2.e, g2.f, g2.g, g2.h, g2.i, g2.j, g2.k, g2.l, g2.m, g2.n, g2.o, g2.p, g2.q, g2.r, g2.s, g2.t, g3.a, g3.b, g3.c, g3.d, g3.e, g3.f, g3.g, g3.h, g3.i, g3.j, g3.k, g3.l, g3.m, g3.n, g3.o, g3.p, g3.q, g3.r, g3.s, g3.t, g4.a, g4.b, g4.c, g4.d, g4.e, g4.f, g4.g, g4.h, g4.i, g4.j, g4.k, g4.l, g4.m, g4.n, g4.o, g4.p, g4.q, g4.r, g4.s, g4.t, g5.a, g5.b, g5.c, g5.d, g5.e, g5.f, g5.g, g5.h, g5.i, g5.j, g5.k, g5.l, g5.m, g5.n, g5.o, g5.p, g5.q, g5.r, g5.s, g5.t, g6.a, g6.b, g6.c, g6.d, g6.e, g6.f, g6.g, g6.h, g6.i, g6.j, g6.k, g6.l, g6.m, g6.n, g6.o, g6.p, g6.q, g6.r, g6.s, g6.t, g7.a, g7.b, g7.c, g7.d, g7.e, g7.f, g7.g, g7.h, g7.i, g7.j, g7.k, g7.l, g7.m, g7.n, g7.o, g7.p, g7.q, g7.r, g7.s, g7.t, g8.a, g8.b, g8.c, g8.d, g8.e, g8.f, g8.g, g8.h, g8.i, g8.j, g8.k, g8.l, g8.m, g8.n, g8.o, g8.p, g8.q, g8.r, g8.s, g8.t, g9.a, g9.b, g9.c, g9.d, g9.e, g9.f, g9.g, g9.h, g9.i, g9.j, g9.k, g9.l, g9.m, g9.n, g9.o, g9.p, g9.q, g9.r, g9.s, g9.t, g10.a, g10.b, g10.c, g10.d, g10.e, g10.f, g10.g, g10.h, g10.i, g10.j, g10.k, g10.l, g10.m, g10.n, g10.o, g10.p, g10.q, g10.r, g10.s, g10.t, g11.a, g11.b, g11.c, g11.d, g11.e, g11.f, g11.g, g11.h, g11.i, g11.j, g11.k, g11.l, g11.m, g11.n, g11.o, g11.p, g11.q], defers := [] }

set_option maxRecDepth 100000 in
set_option maxHeartbeats 8000000 in
theorem floatBits_any (w : World) (b : Nat) (ng : Bool) (s : DS) (hU : Under w b) (_hn : s.nd ≤ 800) (hok : s.nd = 0 ∨ s.ok) (hD : DecS w b ng s) (hp1 : -1152921504606846976 ≤ s.dp) (hp2 : s.dp ≤ 1152921504606846976) :
    Calls Tryz.prog 92 #[.pointer (some ⟨b, 0, none⟩), .pointer (some ⟨5, 0, none⟩)] w fun e w' => e = .returned (.tuple #[.int .u64 (outI ng (fbFin s).1 (fbFin s).2.1), .bool (fbFin s).2.2]) ∧ OnlyB b w w' := by
  have HD := Lib.hid hD
  have HU := Lib.hid hU
  obtain ⟨f, hF, hdg⟩ := hD
  have c800 := hF.nd
  have c801 := hF.dp
  clear hF hdg hU
  go_enter Tryz.func92, Tryz.ntmps92
  go_wp2
  refine wp_scope_two (JF w b ng (fbFin s)) (fun lb _ _ => if lb = 1 then 1 else 0) rfl rfl (fun l a w h => ?hJ) ?pass0 ?pass1 ?first
  case hJ =>
    obtain ⟨_, _, m, e, ov, h, _⟩ := h
    rcases h with ⟨h, _⟩ | ⟨h, _⟩
    · exact .inr h
    · exact .inl h
  case pass0 =>
    intro a w' h
    obtain ⟨hB, HS, m, e, ov, hR, g0, g1, g2, g3, g4, g5, g6, g7, g8, g9, g10, g11, rfl⟩ := h
    have hG := (HU.out.on hB).laid
    have d0 := hG.lt.le.lf.mb
    have d1 := hG.fi.1
    have d2 := hG.fi.2
    obtain ⟨hR, hm, he1, he2⟩ : fbFin s = (m, e, ov) ∧ m < 18446744073709551616 ∧ -1023 ≤ e ∧ e ≤ 1024 := by
      rcases hR with ⟨h, _⟩ | ⟨_, h⟩
      · exact absurd h (by decide)
      · exact h
    have hng : w'.cell? ⟨b, 802, none⟩ = some (.bool ng) := by obtain ⟨s', f', h1, _⟩ := HS.out; exact h1.ng
    have ha := and2047 (e + 1023) (by omega) (by omega)
    have HR := Lib.hid hR
    have HB := Lib.hid hB
    clear hG hR hB HS c800 c801
    cases ng
    all_goals
      go_wp2
      go_quiet (fail)
      go_wp2
    · go_ret2
      exact ⟨by rw [HR.out]; rfl, HB.out.drewN _⟩
    · go_quiet (fail)
      go_wp2
      go_ret2
      exact ⟨by rw [HR.out]; rfl, HB.out.drewN _⟩
  case pass1 =>
    intro a w' h
    obtain ⟨hB, HS, m, e, ov, hR, g0, g1, g2, g3, g4, g5, g6, g7, g8, g9, g10, g11, rfl⟩ := h
    have hG := (HU.out.on hB).laid
    have d0 := hG.lt.le.lf.mb
    have d1 := hG.fi.1
    have d2 := hG.fi.2
    have hR : fbFin s = (0, 1024, true) := by
      rcases hR with ⟨_, h⟩ | ⟨h, _⟩
      · exact h
      · exact absurd h (by decide)
    have HR := Lib.hid hR
    have HB := Lib.hid hB
    have hng : w'.cell? ⟨b, 802, none⟩ = some (.bool ng) := by obtain ⟨s', f', h1, _⟩ := HS.out; exact h1.ng
    have ha := and2047 2047 (by omega) (by omega)
    clear hG hR hB HS c800 c801
    cases ng
    all_goals
      go_wp2
      go_quiet (fail)
      go_wp2
      go_step3
      go_wp2
      go_quiet (fail)
      go_wp2
    · go_ret2
      exact ⟨by rw [HR.out]; rfl, HB.out.drewN _⟩
    · go_quiet (fail)
      go_wp2
      go_ret2
      exact ⟨by rw [HR.out]; rfl, HB.out.drewN _⟩
  case first =>
    intro pass0 pass1
    clear pass0 pass1
    have hG := HU.out.laid
    have d0 := hG.lt.le.lf.mb
    have d1 := hG.fi.1
    have d2 := hG.fi.2
    have HB0 := Lib.hid (OnlyB.refl b w)
    have HSX : Hid (∃ s, DecS w b ng s) := ⟨s, HD.out⟩
    by_cases h0 : s.nd = 0
    · have hfin : fbFin s = (0, -1023, false) := by unfold fbFin; rw [if_pos h0]
      have HFN := Lib.hid hfin
      have b0 : ((s.nd : Int) == 0) = true := beq_iff_eq.2 (by omega)
      clear hfin hG
      go_wp2
      go_step3
      refine ⟨HB0.out, HSX, 0, -1023, false, .inr ⟨rfl, HFN.out, by omega, by omega, by omega⟩, ?_⟩
      (refine ⟨⟨?_, ?_, ?_, ?_, ?_, ?_, ?_, ?_, ?_, ?_, ?_, ?_, ?_, ?_, ?_, ?_, ?_, ?_, ?_, ?_⟩, ⟨?_, ?_, ?_, ?_, ?_, ?_, ?_, ?_, ?_, ?_, ?_, ?_, ?_, ?_, ?_, ?_, ?_, ?_, ?_, ?_⟩, ⟨?_, ?_, ?_, ?_, ?_, ?_, ?_, ?_, ?_, ?_, ?_, ?_, ?_, ?_, ?_, ?_, ?_, ?_, ?_, ?_⟩, ⟨?_, ?_, ?_, ?_, ?_, ?_, ?_, ?_, ?_, ?_, ?_, ?_, ?_, ?_, ?_, ?_, ?_, ?_, ?_, ?_⟩, ⟨?_, ?_, ?_, ?_, ?_, ?_, ?_, ?_, ?_, ?_, ?_, ?_, ?_, ?_, ?_, ?_, ?_, ?_, ?_, ?_⟩, ⟨?_, ?_, ?_, ?_, ?_, ?_, ?_, ?_, ?_, ?_, ?_, ?_, ?_, ?_, ?_, ?_, ?_, ?_, ?_, ?_⟩, ⟨?_, ?_, ?_, ?_, ?_, ?_, ?_, ?_, ?_, ?_, ?_, ?_, ?_, ?_, ?_, ?_, ?_, ?_, ?_, ?_⟩, ⟨?_, ?_, ?_, ?_, ?_, ?_, ?_, ?_, ?_, ?_, ?_, ?_, ?_, ?_, ?_, ?_, ?_, ?_, ?_, ?_⟩, ⟨?_, ?_, ?_, ?_, ?_, ?_, ?_, ?_, ?_, ?_, ?_, ?_, ?_, ?_, ?_, ?_, ?_, ?_, ?_, ?_⟩, ⟨?_, ?_, ?_, ?_, ?_, ?_, ?_, ?_, ?_, ?_, ?_, ?_, ?_, ?_, ?_, ?_, ?_, ?_, ?_, ?_⟩, ⟨?_, ?_, ?_, ?_, ?_, ?_, ?_, ?_, ?_, ?_, ?_, ?_, ?_, ?_, ?_, ?_, ?_, ?_, ?_, ?_⟩, ⟨?_, ?_, ?_, ?_, ?_, ?_, ?_, ?_, ?_, ?_, ?_, ?_, ?_, ?_, ?_, ?_, ?_, undef, undef, undef⟩, ?_⟩; rotate_left 237; refine @congrArg _ _ _ _ (fun x => Act.mk (List.toArray x) []) ?_; dsimp only; repeat (refine congr (congrArg List.cons (?_ : _ = _)) ?_; · exact rfl); exact rfl)
    · have hsok : s.ok := hok.resolve_left h0
      have b0 : ((s.nd : Int) == 0) = false := beq_eq_false_iff_ne.2 (by omega)
      by_cases h310 : 310 < s.dp
      · have hfin : fbFin s = (0, 1024, true) := by unfold fbFin; rw [if_neg h0, if_pos h310]
        have HFN := Lib.hid hfin
        clear hfin hG
        go_wp2
        go_step3
        refine ⟨HB0.out, HSX, 0, 0, false, .inl ⟨rfl, HFN.out⟩, ?_⟩
        (refine ⟨⟨?_, ?_, ?_, ?_, ?_, ?_, ?_, ?_, ?_, ?_, ?_, ?_, ?_, ?_, ?_, ?_, ?_, ?_, ?_, ?_⟩, ⟨?_, ?_, ?_, ?_, ?_, ?_, ?_, ?_, ?_, ?_, ?_, ?_, ?_, ?_, ?_, ?_, ?_, ?_, ?_, ?_⟩, ⟨?_, ?_, ?_, ?_, ?_, ?_, ?_, ?_, ?_, ?_, ?_, ?_, ?_, ?_, ?_, ?_, ?_, ?_, ?_, ?_⟩, ⟨?_, ?_, ?_, ?_, ?_, ?_, ?_, ?_, ?_, ?_, ?_, ?_, ?_, ?_, ?_, ?_, ?_, ?_, ?_, ?_⟩, ⟨?_, ?_, ?_, ?_, ?_, ?_, ?_, ?_, ?_, ?_, ?_, ?_, ?_, ?_, ?_, ?_, ?_, ?_, ?_, ?_⟩, ⟨?_, ?_, ?_, ?_, ?_, ?_, ?_, ?_, ?_, ?_, ?_, ?_, ?_, ?_, ?_, ?_, ?_, ?_, ?_, ?_⟩, ⟨?_, ?_, ?_, ?_, ?_, ?_, ?_, ?_, ?_, ?_, ?_, ?_, ?_, ?_, ?_, ?_, ?_, ?_, ?_, ?_⟩, ⟨?_, ?_, ?_, ?_, ?_, ?_, ?_, ?_, ?_, ?_, ?_, ?_, ?_, ?_, ?_, ?_, ?_, ?_, ?_, ?_⟩, ⟨?_, ?_, ?_, ?_, ?_, ?_, ?_, ?_, ?_, ?_, ?_, ?_, ?_, ?_, ?_, ?_, ?_, ?_, ?_, ?_⟩, ⟨?_, ?_, ?_, ?_, ?_, ?_, ?_, ?_, ?_, ?_, ?_, ?_, ?_, ?_, ?_, ?_, ?_, ?_, ?_, ?_⟩, ⟨?_, ?_, ?_, ?_, ?_, ?_, ?_, ?_, ?_, ?_, ?_, ?_, ?_, ?_, ?_, ?_, ?_, ?_, ?_, ?_⟩, ⟨?_, ?_, ?_, ?_, ?_, ?_, ?_, ?_, ?_, ?_, ?_, ?_, ?_, ?_, ?_, ?_, ?_, undef, undef, undef⟩, ?_⟩; rotate_left 237; refine @congrArg _ _ _ _ (fun x => Act.mk (List.toArray x) []) ?_; dsimp only; repeat (refine congr (congrArg List.cons (?_ : _ = _)) ?_; · exact rfl); exact rfl)
      · by_cases h330 : s.dp < -330
        · have hfin : fbFin s = (0, -1023, false) := by unfold fbFin; rw [if_neg h0, if_neg h310, if_pos h330]
          have HFN := Lib.hid hfin
          clear hfin hG
          go_wp2
          go_step3
          refine ⟨HB0.out, HSX, 0, -1023, false, .inr ⟨rfl, HFN.out, by omega, by omega, by omega⟩, ?_⟩
          (refine ⟨⟨?_, ?_, ?_, ?_, ?_, ?_, ?_, ?_, ?_, ?_, ?_, ?_, ?_, ?_, ?_, ?_, ?_, ?_, ?_, ?_⟩, ⟨?_, ?_, ?_, ?_, ?_, ?_, ?_, ?_, ?_, ?_, ?_, ?_, ?_, ?_, ?_, ?_, ?_, ?_, ?_, ?_⟩, ⟨?_, ?_, ?_, ?_, ?_, ?_, ?_, ?_, ?_, ?_, ?_, ?_, ?_, ?_, ?_, ?_, ?_, ?_, ?_, ?_⟩, ⟨?_, ?_, ?_, ?_, ?_, ?_, ?_, ?_, ?_, ?_, ?_, ?_, ?_, ?_, ?_, ?_, ?_, ?_, ?_, ?_⟩, ⟨?_, ?_, ?_, ?_, ?_, ?_, ?_, ?_, ?_, ?_, ?_, ?_, ?_, ?_, ?_, ?_, ?_, ?_, ?_, ?_⟩, ⟨?_, ?_, ?_, ?_, ?_, ?_, ?_, ?_, ?_, ?_, ?_, ?_, ?_, ?_, ?_, ?_, ?_, ?_, ?_, ?_⟩, ⟨?_, ?_, ?_, ?_, ?_, ?_, ?_, ?_, ?_, ?_, ?_, ?_, ?_, ?_, ?_, ?_, ?_, ?_, ?_, ?_⟩, ⟨?_, ?_, ?_, ?_, ?_, ?_, ?_, ?_, ?_, ?_, ?_, ?_, ?_, ?_, ?_, ?_, ?_, ?_, ?_, ?_⟩, ⟨?_, ?_, ?_, ?_, ?_, ?_, ?_, ?_, ?_, ?_, ?_, ?_, ?_, ?_, ?_, ?_, ?_, ?_, ?_, ?_⟩, ⟨?_, ?_, ?_, ?_, ?_, ?_, ?_, ?_, ?_, ?_, ?_, ?_, ?_, ?_, ?_, ?_, ?_, ?_, ?_, ?_⟩, ⟨?_, ?_, ?_, ?_, ?_, ?_, ?_, ?_, ?_, ?_, ?_, ?_, ?_, ?_, ?_, ?_, ?_, ?_, ?_, ?_⟩, ⟨?_, ?_, ?_, ?_, ?_, ?_, ?_, ?_, ?_, ?_, ?_, ?_, ?_, ?_, ?_, ?_, ?_, undef, undef, undef⟩, ?_⟩; rotate_left 237; refine @congrArg _ _ _ _ (fun x => Act.mk (List.toArray x) []) ?_; dsimp only; repeat (refine congr (congrArg List.cons (?_ : _ = _)) ?_; · exact rfl); exact rfl)
        · have hfin : fbFin s = fbMid (fb2 (mu2 (fb1 (mu1 s) s 0).1) (fb1 (mu1 s) s 0).1 (fb1 (mu1 s) s 0).2).1 (fb2 (mu2 (fb1 (mu1 s) s 0).1) (fb1 (mu1 s) s 0).1 (fb1 (mu1 s) s 0).2).2 := by
            unfold fbFin; rw [if_neg h0, if_neg h310, if_neg h330]
          have HFN := Lib.hid hfin
          have HOK := Lib.hid hsok
          obtain ⟨B, o, cap, p1, p2⟩ := hG.pt
          have HP2 := Lib.hid p2
          have HP1 := Lib.hid p1
          have hmu : mu1 s ≤ 621 := by unfold mu1; split <;> omega
          clear hfin hG p2 p1
          go_wp2
          go_loopg [6] (mu1 s) (fun g ex wr => ∃ (s1 : DS) (e1 : Int), ex = .int .i64 e1 ∧ mu1 s1 ≤ g ∧ g ≤ 621 ∧ 0 ≤ e1 ∧ e1 + 27 * g ≤ 16767 ∧ -330 ≤ s1.dp ∧ s1.dp ≤ 310 ∧ Hid s1.ok ∧ Hid (fb1 (mu1 s) s 0 = fb1 g s1 e1) ∧ Hid (DecS wr b ng s1) ∧ Hid (OnlyB b w wr))
          case atStart => exact ⟨s, 0, rfl, Nat.le_refl _, hmu, by omega, by omega, by omega, by omega, HOK, rfl, HD, HB0⟩
          case round =>
            obtain ⟨s1, e1, rfl, hg, hg2, he1, he2, hd1, hd2, HOK1, HF1, HD1, HB1⟩ := hrel
            clear hmu c800 c801 d0 d1 d2 h310 h330 b0 h0
            have hG1 := (HU.out.on HB1.out).laid
            have q801 : wr.cell? ⟨b, 801, none⟩ = some (.int .i64 s1.dp) := by obtain ⟨f', h1, _⟩ := HD1.out; exact h1.dp
            by_cases hpos : 0 < s1.dp
            · obtain ⟨d, hd⟩ : ∃ d : Nat, s1.dp = d := ⟨s1.dp.toNat, by omega⟩
              obtain ⟨n, en⟩ : ∃ n, powN d = n := ⟨_, rfl⟩
              have hn27 := powN_bd d
              rw [en] at hn27
              have hmlt := mu1_lt HOK1.out hpos
              rw [show s1.dp.toNat = d by omega, en] at hmlt
              obtain ⟨g', rfl⟩ : ∃ g', gk = g' + 1 := ⟨gk - 1, by omega⟩
              have HF2 : Hid (fb1 (mu1 s) s 0 = fb1 g' (shrS s1 n) (e1 + n)) := by
                unfold Hid; rw [HF1.out, fb1, if_pos hpos, show s1.dp.toNat = d by omega, en]
              have hbd := shrS_dp HOK1.out n
              have HOK2 := Lib.hid (shrS_ok HOK1.out n).1
              have hC := fun m => shiftR_any (wr.drewN m) b n ng s1 HOK1.out hn27.1 (by omega) (HD1.out.drewN m) (by omega) (by omega)
              rw [shrR, if_neg (by omega)] at hC
              have HC := Lib.hid hC
              obtain ⟨B', o', cap', p1, p2⟩ := hG1.pt
              clear hC hG1
              rw [hd] at q801
              by_cases h9 : 9 ≤ d
              · have e27 : (n : Int) = 27 := by rw [← en, powN, if_pos h9]; rfl
                have HC2 := HC.out
                rw [e27] at HC2
                have HC := Lib.hid HC2
                have HE := Lib.hid e27
                clear p2 en HC2 e27
                go_wp2
                go_quiet (fail)
                go_wp2_with (go_at_call 77; refine (HC.out _).mono ?_; rintro e w' ⟨rfl, hD2, hB2⟩)
                go_roundg g'
                case measure => omega
                case rel => exact ⟨shrS s1 n, e1 + n, by rw [HE.out], by omega, by omega, by omega, by omega, by omega, by omega, HOK2, HF2, hD2, (HB1.out.drewN _).trans hB2⟩
              · have p3 := p2 d (by omega)
                have en2 : powL.getD d 0 = n := by rw [← en, powN, if_neg h9]
                rw [en2] at p3
                clear p2 en en2
                go_wp2
                go_quiet (fail)
                go_wp2
                go_quiet (fail)
                go_wp2_with (go_at_call 77; refine (HC.out _).mono ?_; rintro e w' ⟨rfl, hD2, hB2⟩)
                go_roundg g'
                case measure => omega
                case rel => exact ⟨shrS s1 n, e1 + n, by go_num, by omega, by omega, by omega, by omega, by omega, by omega, HOK2, HF2, hD2, (HB1.out.drewN _).trans hB2⟩
            · have HF2 : Hid (fb1 (mu1 s) s 0 = (s1, e1)) := by unfold Hid; rw [HF1.out, fb1_stop _ _ _ hpos]
              have HFN2 : Hid (fbFin s = fbMid (fb2 (mu2 s1) s1 e1).1 (fb2 (mu2 s1) s1 e1).2) := by unfold Hid; rw [HFN.out, HF2.out]
              clear HFN HF2 HF1 hg hG1
              go_upto_block 2 with (fail)
              go_cut [6] (fun ex wx => ∃ (s2 : DS) (e2 : Int), ex = .int .i64 e2 ∧ -200000 ≤ e2 ∧ e2 ≤ 16767 ∧ -330 ≤ s2.dp ∧ s2.dp ≤ 310 ∧ Hid s2.ok ∧ Hid (fbFin s = fbMid s2 e2) ∧ Hid (DecS wx b ng s2) ∧ Hid (OnlyB b w wx))
              case first =>
                have hmu : mu2 s1 ≤ 6620 := by unfold mu2; split <;> (try split) <;> omega
                go_wp2
                go_loopg [6] (mu2 s1) (fun g ex wr => ∃ (s2 : DS) (e2 : Int), ex = .int .i64 e2 ∧ mu2 s2 ≤ g ∧ g ≤ 6620 ∧ -178740 + 27 * (g : Int) ≤ e2 ∧ e2 ≤ 16767 ∧ -330 ≤ s2.dp ∧ s2.dp ≤ 310 ∧ Hid s2.ok ∧ Hid (fb2 (mu2 s1) s1 e1 = fb2 g s2 e2) ∧ Hid (DecS wr b ng s2) ∧ Hid (OnlyB b w wr))
                case atStart => exact ⟨s1, e1, rfl, Nat.le_refl _, hmu, by omega, by omega, hd1, hd2, HOK1, rfl, HD1, HB1⟩
                case round =>
                  clear hmu q801
                  obtain ⟨s2, e2, rfl, hg, hg2, he3, he4, hd3, hd4, HOK2, HF2, HD2, HB2⟩ := hrel
                  have hU2 := HU.out.on HB2.out
                  have hG2 := hU2.laid
                  have q801 : wr.cell? ⟨b, 801, none⟩ = some (.int .i64 s2.dp) := by obtain ⟨f', h1, _⟩ := HD2.out; exact h1.dp
                  have hlead := lead_bd HOK2.out
                  have q0 : wr.cell? ⟨b, 0, none⟩ = some (.int .u8 ((s2.lead : Int) + 48)) := by
                    have h := dcell HD2.out HOK2.out.2.1 (i := 0) HOK2.out.1
                    have e : s2.M / 10 ^ (s2.nd - 1 - 0) % 10 = s2.lead := by
                      show s2.lead % 10 = s2.lead
                      omega
                    rw [e] at h
                    exact h
                  by_cases hc : cond2 s2
                  · obtain ⟨d, hd⟩ : ∃ d : Nat, s2.dp = -(d : Int) := ⟨(-s2.dp).toNat, by rcases hc with h | h <;> omega⟩
                    obtain ⟨n, en⟩ : ∃ n, powN d = n := ⟨_, rfl⟩
                    have hn27 := powN_bd d
                    rw [en] at hn27
                    have hmlt := mu2_lt HOK2.out hc
                    rw [show (-s2.dp).toNat = d by omega, en] at hmlt
                    obtain ⟨g', rfl⟩ : ∃ g', gk = g' + 1 := ⟨gk - 1, by omega⟩
                    have HF3 : Hid (fb2 (mu2 s1) s1 e1 = fb2 g' (shlS s2 n) (e2 - n)) := by
                      unfold Hid; rw [HF2.out, fb2, if_pos hc, show (-s2.dp).toNat = d by omega, en]
                    have hbd := shlS_bd HOK2.out n
                    have HOK3 := Lib.hid (shlS_ok HOK2.out n).1
                    have hC := fun m => shiftL_any (wr.drewN m) b n ng s2 (HU.out.on (HB2.out.drewN m)) HOK2.out hn27.1 (by omega) (HD2.out.drewN m) (by omega) (by omega)
                    rw [shlR, if_neg (by omega)] at hC
                    have HC := Lib.hid hC
                    obtain ⟨B', o', cap', p1, p2⟩ := hG2.pt
                    have hcc : (d ≠ 0 ∧ 0 < (d : Int)) ∨ (d = 0 ∧ (s2.lead : Int) + 48 < 53) := by rcases hc with h | h <;> omega
                    rw [hd] at q801
                    clear hC hG2 hU2 hc
                    rcases hcc with ⟨hdn, hdI⟩ | ⟨rfl, hlI⟩
                    · have bd : ((d : Int) == 0) = false := beq_eq_false_iff_ne.2 (by omega)
                      by_cases h9 : 9 ≤ d
                      · have e27 : (n : Int) = 27 := by rw [← en, powN, if_pos h9]; rfl
                        have HC2 := HC.out
                        rw [e27] at HC2
                        have HC := Lib.hid HC2
                        have HE := Lib.hid e27
                        clear p2 en HC2 e27
                        go_wp2
                        go_quiet (fail)
                        go_wp2_with (go_at_call 77; refine (HC.out _).mono ?_; rintro e w' ⟨rfl, hD3, hB3⟩)
                        go_roundg g'
                        case measure => omega
                        case rel => exact ⟨shlS s2 n, e2 - n, by rw [HE.out], by omega, by omega, by omega, by omega, by omega, by omega, HOK3, HF3, hD3, (HB2.out.drewN _).trans hB3⟩
                      · have p3 := p2 d (by omega)
                        have en2 : powL.getD d 0 = n := by rw [← en, powN, if_neg h9]
                        rw [en2] at p3
                        clear p2 en en2
                        go_wp2
                        go_quiet (fail)
                        go_wp2
                        go_quiet (fail)
                        go_wp2_with (go_at_call 77; refine (HC.out _).mono ?_; rintro e w' ⟨rfl, hD3, hB3⟩)
                        go_roundg g'
                        case measure => omega
                        case rel => exact ⟨shlS s2 n, e2 - n, by go_num, by omega, by omega, by omega, by omega, by omega, by omega, HOK3, HF3, hD3, (HB2.out.drewN _).trans hB3⟩
                    · have p3 := p2 0 (by omega)
                      have e1n : (n : Int) = 1 := by rw [← en]; rfl
                      have HC2 := HC.out
                      rw [e1n] at HC2
                      have HC := Lib.hid HC2
                      have HE := Lib.hid e1n
                      have p4 : wr.cell? ⟨B', o', none⟩ = some (.int .i64 1) := p3
                      clear p2 en p3 HC2 e1n
                      go_wp2
                      go_quiet (fail)
                      go_wp2
                      go_quiet (fail)
                      go_wp2_with (go_at_call 77; refine (HC.out _).mono ?_; rintro e w' ⟨rfl, hD3, hB3⟩)
                      go_roundg g'
                      case measure => omega
                      case rel => exact ⟨shlS s2 n, e2 - n, by rw [HE.out], by omega, by omega, by omega, by omega, by omega, by omega, HOK3, HF3, hD3, (HB2.out.drewN _).trans hB3⟩
                  · have HF3 : Hid (fbFin s = fbMid s2 e2) := by unfold Hid; rw [HFN2.out, HF2.out, fb2_stop _ _ _ hc]
                    have hcc : 0 < s2.dp ∨ (s2.dp = 0 ∧ ¬ (s2.lead : Int) + 48 < 53) := by
                      unfold cond2 at hc; omega
                    clear hc hG2 hU2 hg
                    rcases hcc with h1 | ⟨h1, h2⟩
                    · have bd : (s2.dp == 0) = false := beq_eq_false_iff_ne.2 (by omega)
                      go_wp2
                      go_meet
                      exact ⟨s2, e2, rfl, by omega, by omega, hd3, hd4, HOK2, HF3, HD2, HB2⟩
                    · rw [h1] at q801
                      go_wp2
                      go_meet
                      exact ⟨s2, e2, rfl, by omega, by omega, hd3, hd4, HOK2, HF3, HD2, HB2⟩
              case rest =>
                obtain ⟨s2, e2, rfl, he3, he4, hd3, hd4, HOK2, HF3, HD2, HB2⟩ := hcut
                have hU2 := HU.out.on HB2.out
                have hG2 := hU2.laid
                have d0 := hG2.lt.le.lf.mb
                have d1 := hG2.fi.1
                have d2 := hG2.fi.2
                clear hG2 HOK1 HD1 HB1
                by_cases hlow : e2 - 1 < -1022
                · obtain ⟨n, hn⟩ : ∃ n : Nat, -1022 - (e2 - 1) = n := ⟨(-1022 - (e2 - 1)).toNat, by omega⟩
                  have hn1 : 1 ≤ n := by omega
                  obtain ⟨s3, es3⟩ : ∃ s3, shrR s2 n = s3 := ⟨_, rfl⟩
                  have h3 := shrR_ok n s2 HOK2.out
                  rw [es3] at h3
                  have HOK3 := Lib.hid h3.1
                  have hd5 := h3.2.1
                  have hd6 := h3.2.2
                  obtain ⟨e4, ee4⟩ : ∃ e4 : Int, e4 = -1022 := ⟨_, rfl⟩
                  have HFT : Hid (fbFin s = fbTail s3 e4) := by
                    unfold Hid; rw [HF3.out, fbMid, if_pos hlow, show (-1022 - (e2 - 1)).toNat = n by omega, es3, ee4]
                  have hsum : e2 - 1 + (n : Int) = e4 := by omega
                  have hl4 : e4 ≤ -1022 ∧ -1022 ≤ e4 := by omega
                  have hC1 := shiftR_any wc b n ng s2 HOK2.out hn1 (by omega) HD2.out (by omega) (by omega)
                  rw [es3] at hC1
                  have HC1 := Lib.hid hC1
                  clear h3 ee4 es3 HF3 hC1
                  have hs3a : -400000 ≤ s3.dp := by omega
                  have hs3b : s3.dp ≤ 400000 := by omega
                  have hC3 := fun (W : World) (hD : DecS W b ng (shlR s3 53)) => ri_any W b ng (shlR s3 53) (shlR_ok 53 s3 HOK3.out).1.2.1 hD (Int.le_trans (show (-1000000000 : Int) ≤ s3.dp by omega) (shlR_ok 53 s3 HOK3.out).2.1) (Int.le_trans (shlR_ok 53 s3 HOK3.out).2.2 (show s3.dp + ((53 : Nat) : Int) ≤ 1000000000 by omega))
                  have HC3 := Lib.hid hC3
                  clear hC3 hd5 hd6
                  by_cases ho : 2047 ≤ e4 + 1023
                  · exact absurd ho (by omega)
                  · have hlo : ¬ (2047 : Int) ≤ e4 + 1023 := ho
                    have hsh := shlR_ok 53 s3 HOK3.out
                    have HOK4 := Lib.hid hsh.1
                    obtain ⟨m, em⟩ : ∃ m, riV (shlR s3 53) = m := ⟨_, rfl⟩
                    have hmlt : m < 18446744073709551616 := by rw [← em]; unfold riV; split <;> omega
                    have HM := Lib.hid em
                    have HFT2 := HFT.out
                    rw [fbTail, if_neg ho, em] at HFT2
                    have HFT3 := Lib.hid HFT2
                    clear hsh em HFT2 ho
                    by_cases hm : m = 9007199254740992
                    · have bm : ((m : Int) == 9007199254740992) = true := beq_iff_eq.2 (by omega)
                      have hmh : (m : Int) / 2 = (4503599627370496 : Nat) := by omega
                      by_cases ho2 : 2047 ≤ e4 + 1 + 1023
                      · exact absurd ho2 (by omega)
                      · have HFIN : Hid (fbFin s = (4503599627370496, e4 + 1, false)) := by have h := HFT3.out; simp only [hm, if_true] at h; rw [if_neg ho2] at h; exact h
                        have hlo2 : ¬ (2047 : Int) ≤ e4 + 1 + 1023 := ho2
                        have bz : (bits .and .u64 4503599627370496 4503599627370496 == 0) = false := by decide +kernel
                        clear hm
                        go_wp2_with (go_at_call 77; refine HC1.out.mono ?_; rintro e w3 ⟨rfl, hD3, hB3⟩; have hG3 := (HU.out.on (HB2.out.trans hB3)).laid; have k0 := hG3.lt.le.lf.mb; have k1 := hG3.fi.1; have k2 := hG3.fi.2; clear hG3)
                        go_quiet (fail)
                        have hB4 := HB2.out.trans hB3
                        have hU5 := fun m => HU.out.on (hB4.drewN m)
                        have hC2 := fun m => shiftL_any (w3.drewN m) b 53 ng s3 (hU5 m) HOK3.out (by omega) (by omega) (hD3.drewN m) (by omega) (by omega)
                        have HC2 := Lib.hid hC2
                        have HB4 := Lib.hid (fun m => hB4.drewN m)
                        clear hC2 hU5 hB4 hD3 hB3
                        go_wp2_with (first | (go_at_call 77; refine (HC2.out _).mono ?_; rintro e w4 ⟨rfl, hD4, hB5⟩; have hB6 := (HB4.out _).trans hB5; have hG4 := (HU.out.on hB6).laid; have m0 := hG4.lt.le.lf.mb; have m1 := hG4.fi.1; have m2 := hG4.fi.2; clear hG4) | (go_at_call 125; refine (HC3.out _ hD4).mono ?_; rw [HM.out]; rintro e w' ⟨rfl, rfl⟩))
                        go_quiet (fail)
                        go_wp2
                        go_step3
                        refine ⟨hB6.drewN _, Lib.hid ⟨_, hD4.drewN _⟩, 4503599627370496, e4 + 1, false, .inr ⟨rfl, HFIN.out, by omega, by omega, by omega⟩, ?_⟩
                        (refine ⟨⟨?_, ?_, ?_, ?_, ?_, ?_, ?_, ?_, ?_, ?_, ?_, ?_, ?_, ?_, ?_, ?_, ?_, ?_, ?_, ?_⟩, ⟨?_, ?_, ?_, ?_, ?_, ?_, ?_, ?_, ?_, ?_, ?_, ?_, ?_, ?_, ?_, ?_, ?_, ?_, ?_, ?_⟩, ⟨?_, ?_, ?_, ?_, ?_, ?_, ?_, ?_, ?_, ?_, ?_, ?_, ?_, ?_, ?_, ?_, ?_, ?_, ?_, ?_⟩, ⟨?_, ?_, ?_, ?_, ?_, ?_, ?_, ?_, ?_, ?_, ?_, ?_, ?_, ?_, ?_, ?_, ?_, ?_, ?_, ?_⟩, ⟨?_, ?_, ?_, ?_, ?_, ?_, ?_, ?_, ?_, ?_, ?_, ?_, ?_, ?_, ?_, ?_, ?_, ?_, ?_, ?_⟩, ⟨?_, ?_, ?_, ?_, ?_, ?_, ?_, ?_, ?_, ?_, ?_, ?_, ?_, ?_, ?_, ?_, ?_, ?_, ?_, ?_⟩, ⟨?_, ?_, ?_, ?_, ?_, ?_, ?_, ?_, ?_, ?_, ?_, ?_, ?_, ?_, ?_, ?_, ?_, ?_, ?_, ?_⟩, ⟨?_, ?_, ?_, ?_, ?_, ?_, ?_, ?_, ?_, ?_, ?_, ?_, ?_, ?_, ?_, ?_, ?_, ?_, ?_, ?_⟩, ⟨?_, ?_, ?_, ?_, ?_, ?_, ?_, ?_, ?_, ?_, ?_, ?_, ?_, ?_, ?_, ?_, ?_, ?_, ?_, ?_⟩, ⟨?_, ?_, ?_, ?_, ?_, ?_, ?_, ?_, ?_, ?_, ?_, ?_, ?_, ?_, ?_, ?_, ?_, ?_, ?_, ?_⟩, ⟨?_, ?_, ?_, ?_, ?_, ?_, ?_, ?_, ?_, ?_, ?_, ?_, ?_, ?_, ?_, ?_, ?_, ?_, ?_, ?_⟩, ⟨?_, ?_, ?_, ?_, ?_, ?_, ?_, ?_, ?_, ?_, ?_, ?_, ?_, ?_, ?_, ?_, ?_, undef, undef, undef⟩, ?_⟩; rotate_left 237; refine @congrArg _ _ _ _ (fun x => Act.mk (List.toArray x) []) ?_; dsimp only; repeat (refine congr (congrArg List.cons (?_ : _ = _)) ?_; · exact rfl); exact rfl)
                    · have bm : ((m : Int) == 9007199254740992) = false := beq_eq_false_iff_ne.2 (by omega)
                      cases bz : (bits .and .u64 (m : Int) 4503599627370496 == 0) with
                      | true =>
                        have HFIN : Hid (fbFin s = (m, -1023, false)) := by have h := HFT3.out; simp only [hm, if_false] at h; rw [if_pos (beq_iff_eq.1 bz)] at h; exact h
                        clear hm
                        go_wp2_with (go_at_call 77; refine HC1.out.mono ?_; rintro e w3 ⟨rfl, hD3, hB3⟩; have hG3 := (HU.out.on (HB2.out.trans hB3)).laid; have k0 := hG3.lt.le.lf.mb; have k1 := hG3.fi.1; have k2 := hG3.fi.2; clear hG3)
                        go_quiet (fail)
                        have hB4 := HB2.out.trans hB3
                        have hU5 := fun m => HU.out.on (hB4.drewN m)
                        have hC2 := fun m => shiftL_any (w3.drewN m) b 53 ng s3 (hU5 m) HOK3.out (by omega) (by omega) (hD3.drewN m) (by omega) (by omega)
                        have HC2 := Lib.hid hC2
                        have HB4 := Lib.hid (fun m => hB4.drewN m)
                        clear hC2 hU5 hB4 hD3 hB3
                        go_wp2_with (first | (go_at_call 77; refine (HC2.out _).mono ?_; rintro e w4 ⟨rfl, hD4, hB5⟩; have hB6 := (HB4.out _).trans hB5; have hG4 := (HU.out.on hB6).laid; have m0 := hG4.lt.le.lf.mb; have m1 := hG4.fi.1; have m2 := hG4.fi.2; clear hG4) | (go_at_call 125; refine (HC3.out _ hD4).mono ?_; rw [HM.out]; rintro e w' ⟨rfl, rfl⟩))
                        go_step3
                        refine ⟨hB6, Lib.hid ⟨_, hD4⟩, m, -1023, false, .inr ⟨rfl, HFIN.out, hmlt, by omega, by omega⟩, ?_⟩
                        (refine ⟨⟨?_, ?_, ?_, ?_, ?_, ?_, ?_, ?_, ?_, ?_, ?_, ?_, ?_, ?_, ?_, ?_, ?_, ?_, ?_, ?_⟩, ⟨?_, ?_, ?_, ?_, ?_, ?_, ?_, ?_, ?_, ?_, ?_, ?_, ?_, ?_, ?_, ?_, ?_, ?_, ?_, ?_⟩, ⟨?_, ?_, ?_, ?_, ?_, ?_, ?_, ?_, ?_, ?_, ?_, ?_, ?_, ?_, ?_, ?_, ?_, ?_, ?_, ?_⟩, ⟨?_, ?_, ?_, ?_, ?_, ?_, ?_, ?_, ?_, ?_, ?_, ?_, ?_, ?_, ?_, ?_, ?_, ?_, ?_, ?_⟩, ⟨?_, ?_, ?_, ?_, ?_, ?_, ?_, ?_, ?_, ?_, ?_, ?_, ?_, ?_, ?_, ?_, ?_, ?_, ?_, ?_⟩, ⟨?_, ?_, ?_, ?_, ?_, ?_, ?_, ?_, ?_, ?_, ?_, ?_, ?_, ?_, ?_, ?_, ?_, ?_, ?_, ?_⟩, ⟨?_, ?_, ?_, ?_, ?_, ?_, ?_, ?_, ?_, ?_, ?_, ?_, ?_, ?_, ?_, ?_, ?_, ?_, ?_, ?_⟩, ⟨?_, ?_, ?_, ?_, ?_, ?_, ?_, ?_, ?_, ?_, ?_, ?_, ?_, ?_, ?_, ?_, ?_, ?_, ?_, ?_⟩, ⟨?_, ?_, ?_, ?_, ?_, ?_, ?_, ?_, ?_, ?_, ?_, ?_, ?_, ?_, ?_, ?_, ?_, ?_, ?_, ?_⟩, ⟨?_, ?_, ?_, ?_, ?_, ?_, ?_, ?_, ?_, ?_, ?_, ?_, ?_, ?_, ?_, ?_, ?_, ?_, ?_, ?_⟩, ⟨?_, ?_, ?_, ?_, ?_, ?_, ?_, ?_, ?_, ?_, ?_, ?_, ?_, ?_, ?_, ?_, ?_, ?_, ?_, ?_⟩, ⟨?_, ?_, ?_, ?_, ?_, ?_, ?_, ?_, ?_, ?_, ?_, ?_, ?_, ?_, ?_, ?_, ?_, undef, undef, undef⟩, ?_⟩; rotate_left 237; refine @congrArg _ _ _ _ (fun x => Act.mk (List.toArray x) []) ?_; dsimp only; repeat (refine congr (congrArg List.cons (?_ : _ = _)) ?_; · exact rfl); exact rfl)
                      | false =>
                        have HFIN : Hid (fbFin s = (m, e4, false)) := by have h := HFT3.out; simp only [hm, if_false] at h; rw [if_neg (beq_eq_false_iff_ne.1 bz)] at h; exact h
                        clear hm
                        go_wp2_with (go_at_call 77; refine HC1.out.mono ?_; rintro e w3 ⟨rfl, hD3, hB3⟩; have hG3 := (HU.out.on (HB2.out.trans hB3)).laid; have k0 := hG3.lt.le.lf.mb; have k1 := hG3.fi.1; have k2 := hG3.fi.2; clear hG3)
                        go_quiet (fail)
                        have hB4 := HB2.out.trans hB3
                        have hU5 := fun m => HU.out.on (hB4.drewN m)
                        have hC2 := fun m => shiftL_any (w3.drewN m) b 53 ng s3 (hU5 m) HOK3.out (by omega) (by omega) (hD3.drewN m) (by omega) (by omega)
                        have HC2 := Lib.hid hC2
                        have HB4 := Lib.hid (fun m => hB4.drewN m)
                        clear hC2 hU5 hB4 hD3 hB3
                        go_wp2_with (first | (go_at_call 77; refine (HC2.out _).mono ?_; rintro e w4 ⟨rfl, hD4, hB5⟩; have hB6 := (HB4.out _).trans hB5; have hG4 := (HU.out.on hB6).laid; have m0 := hG4.lt.le.lf.mb; have m1 := hG4.fi.1; have m2 := hG4.fi.2; clear hG4) | (go_at_call 125; refine (HC3.out _ hD4).mono ?_; rw [HM.out]; rintro e w' ⟨rfl, rfl⟩))
                        go_step3
                        refine ⟨hB6, Lib.hid ⟨_, hD4⟩, m, e4, false, .inr ⟨rfl, HFIN.out, hmlt, by omega, by omega⟩, ?_⟩
                        (refine ⟨⟨?_, ?_, ?_, ?_, ?_, ?_, ?_, ?_, ?_, ?_, ?_, ?_, ?_, ?_, ?_, ?_, ?_, ?_, ?_, ?_⟩, ⟨?_, ?_, ?_, ?_, ?_, ?_, ?_, ?_, ?_, ?_, ?_, ?_, ?_, ?_, ?_, ?_, ?_, ?_, ?_, ?_⟩, ⟨?_, ?_, ?_, ?_, ?_, ?_, ?_, ?_, ?_, ?_, ?_, ?_, ?_, ?_, ?_, ?_, ?_, ?_, ?_, ?_⟩, ⟨?_, ?_, ?_, ?_, ?_, ?_, ?_, ?_, ?_, ?_, ?_, ?_, ?_, ?_, ?_, ?_, ?_, ?_, ?_, ?_⟩, ⟨?_, ?_, ?_, ?_, ?_, ?_, ?_, ?_, ?_, ?_, ?_, ?_, ?_, ?_, ?_, ?_, ?_, ?_, ?_, ?_⟩, ⟨?_, ?_, ?_, ?_, ?_, ?_, ?_, ?_, ?_, ?_, ?_, ?_, ?_, ?_, ?_, ?_, ?_, ?_, ?_, ?_⟩, ⟨?_, ?_, ?_, ?_, ?_, ?_, ?_, ?_, ?_, ?_, ?_, ?_, ?_, ?_, ?_, ?_, ?_, ?_, ?_, ?_⟩, ⟨?_, ?_, ?_, ?_, ?_, ?_, ?_, ?_, ?_, ?_, ?_, ?_, ?_, ?_, ?_, ?_, ?_, ?_, ?_, ?_⟩, ⟨?_, ?_, ?_, ?_, ?_, ?_, ?_, ?_, ?_, ?_, ?_, ?_, ?_, ?_, ?_, ?_, ?_, ?_, ?_, ?_⟩, ⟨?_, ?_, ?_, ?_, ?_, ?_, ?_, ?_, ?_, ?_, ?_, ?_, ?_, ?_, ?_, ?_, ?_, ?_, ?_, ?_⟩, ⟨?_, ?_, ?_, ?_, ?_, ?_, ?_, ?_, ?_, ?_, ?_, ?_, ?_, ?_, ?_, ?_, ?_, ?_, ?_, ?_⟩, ⟨?_, ?_, ?_, ?_, ?_, ?_, ?_, ?_, ?_, ?_, ?_, ?_, ?_, ?_, ?_, ?_, ?_, undef, undef, undef⟩, ?_⟩; rotate_left 237; refine @congrArg _ _ _ _ (fun x => Act.mk (List.toArray x) []) ?_; dsimp only; repeat (refine congr (congrArg List.cons (?_ : _ = _)) ?_; · exact rfl); exact rfl)
                · obtain ⟨e4, ee4⟩ : ∃ e4 : Int, e2 - 1 = e4 := ⟨_, rfl⟩
                  have hl4 : ¬ e4 < -1022 := by omega
                  have HFT : Hid (fbFin s = fbTail s2 e4) := by unfold Hid; rw [HF3.out, fbMid, if_neg hlow, ee4]
                  obtain ⟨s3, rfl⟩ : ∃ s3, s3 = s2 := ⟨_, rfl⟩
                  have HOK3 := HOK2
                  clear hlow HF3
                  by_cases ho : 2047 ≤ e4 + 1023
                  · have HFIN : Hid (fbFin s = (0, 1024, true)) := by unfold Hid; rw [HFT.out, fbTail, if_pos ho]
                    go_wp2
                    go_quiet (fail)
                    go_wp2
                    go_step3
                    refine ⟨HB2.out.drewN _, Lib.hid ⟨_, HD2.out.drewN _⟩, 0, e4, false, .inl ⟨rfl, HFIN.out⟩, ?_⟩
                    (refine ⟨⟨?_, ?_, ?_, ?_, ?_, ?_, ?_, ?_, ?_, ?_, ?_, ?_, ?_, ?_, ?_, ?_, ?_, ?_, ?_, ?_⟩, ⟨?_, ?_, ?_, ?_, ?_, ?_, ?_, ?_, ?_, ?_, ?_, ?_, ?_, ?_, ?_, ?_, ?_, ?_, ?_, ?_⟩, ⟨?_, ?_, ?_, ?_, ?_, ?_, ?_, ?_, ?_, ?_, ?_, ?_, ?_, ?_, ?_, ?_, ?_, ?_, ?_, ?_⟩, ⟨?_, ?_, ?_, ?_, ?_, ?_, ?_, ?_, ?_, ?_, ?_, ?_, ?_, ?_, ?_, ?_, ?_, ?_, ?_, ?_⟩, ⟨?_, ?_, ?_, ?_, ?_, ?_, ?_, ?_, ?_, ?_, ?_, ?_, ?_, ?_, ?_, ?_, ?_, ?_, ?_, ?_⟩, ⟨?_, ?_, ?_, ?_, ?_, ?_, ?_, ?_, ?_, ?_, ?_, ?_, ?_, ?_, ?_, ?_, ?_, ?_, ?_, ?_⟩, ⟨?_, ?_, ?_, ?_, ?_, ?_, ?_, ?_, ?_, ?_, ?_, ?_, ?_, ?_, ?_, ?_, ?_, ?_, ?_, ?_⟩, ⟨?_, ?_, ?_, ?_, ?_, ?_, ?_, ?_, ?_, ?_, ?_, ?_, ?_, ?_, ?_, ?_, ?_, ?_, ?_, ?_⟩, ⟨?_, ?_, ?_, ?_, ?_, ?_, ?_, ?_, ?_, ?_, ?_, ?_, ?_, ?_, ?_, ?_, ?_, ?_, ?_, ?_⟩, ⟨?_, ?_, ?_, ?_, ?_, ?_, ?_, ?_, ?_, ?_, ?_, ?_, ?_, ?_, ?_, ?_, ?_, ?_, ?_, ?_⟩, ⟨?_, ?_, ?_, ?_, ?_, ?_, ?_, ?_, ?_, ?_, ?_, ?_, ?_, ?_, ?_, ?_, ?_, ?_, ?_, ?_⟩, ⟨?_, ?_, ?_, ?_, ?_, ?_, ?_, ?_, ?_, ?_, ?_, ?_, ?_, ?_, ?_, ?_, ?_, undef, undef, undef⟩, ?_⟩; rotate_left 237; refine @congrArg _ _ _ _ (fun x => Act.mk (List.toArray x) []) ?_; dsimp only; repeat (refine congr (congrArg List.cons (?_ : _ = _)) ?_; · exact rfl); exact rfl)
                  · have hlo : ¬ (2047 : Int) ≤ e4 + 1023 := ho
                    have hsh := shlR_ok 53 s3 HOK3.out
                    have HOK4 := Lib.hid hsh.1
                    have hb1 := hsh.2.1
                    have hb2 := hsh.2.2
                    obtain ⟨m, em⟩ : ∃ m, riV (shlR s3 53) = m := ⟨_, rfl⟩
                    have hmlt : m < 18446744073709551616 := by rw [← em]; unfold riV; split <;> omega
                    have HM := Lib.hid em
                    have HFT2 := HFT.out
                    rw [fbTail, if_neg ho, em] at HFT2
                    have HFT3 := Lib.hid HFT2
                    clear hsh em HFT2 ho
                    by_cases hm : m = 9007199254740992
                    · have bm : ((m : Int) == 9007199254740992) = true := beq_iff_eq.2 (by omega)
                      have hmh : (m : Int) / 2 = (4503599627370496 : Nat) := by omega
                      by_cases ho2 : 2047 ≤ e4 + 1 + 1023
                      · have HFIN : Hid (fbFin s = (0, 1024, true)) := by have h := HFT3.out; simp only [hm, if_true] at h; rw [if_pos ho2] at h; exact h
                        clear hm
                        go_wp2
                        go_quiet (fail)
                        go_wp2_with (first | (go_at_call 77; refine (shiftL_any _ b 53 ng s3 (HU.out.on (HB2.out.drewN _)) HOK3.out (by omega) (by omega) (HD2.out.drewN _) (by omega) (by omega)).mono ?_; rintro e w4 ⟨rfl, hD4, hB4⟩; have hB5 := (HB2.out.drewN _).trans hB4; have hU4 := HU.out.on hB5; have hG4 := hU4.laid; have m0 := hG4.lt.le.lf.mb; have m1 := hG4.fi.1; have m2 := hG4.fi.2; clear hG4) | (go_at_call 125; refine (ri_any _ b ng (shlR s3 53) HOK4.out.2.1 hD4 (by omega) (by omega)).mono ?_; rw [HM.out]; rintro e w' ⟨rfl, rfl⟩))
                        go_quiet (fail)
                        go_wp2
                        go_step3
                        refine ⟨hB5.drewN _, Lib.hid ⟨_, hD4.drewN _⟩, 4503599627370496, e4 + 1, false, .inl ⟨rfl, HFIN.out⟩, ?_⟩
                        (refine ⟨⟨?_, ?_, ?_, ?_, ?_, ?_, ?_, ?_, ?_, ?_, ?_, ?_, ?_, ?_, ?_, ?_, ?_, ?_, ?_, ?_⟩, ⟨?_, ?_, ?_, ?_, ?_, ?_, ?_, ?_, ?_, ?_, ?_, ?_, ?_, ?_, ?_, ?_, ?_, ?_, ?_, ?_⟩, ⟨?_, ?_, ?_, ?_, ?_, ?_, ?_, ?_, ?_, ?_, ?_, ?_, ?_, ?_, ?_, ?_, ?_, ?_, ?_, ?_⟩, ⟨?_, ?_, ?_, ?_, ?_, ?_, ?_, ?_, ?_, ?_, ?_, ?_, ?_, ?_, ?_, ?_, ?_, ?_, ?_, ?_⟩, ⟨?_, ?_, ?_, ?_, ?_, ?_, ?_, ?_, ?_, ?_, ?_, ?_, ?_, ?_, ?_, ?_, ?_, ?_, ?_, ?_⟩, ⟨?_, ?_, ?_, ?_, ?_, ?_, ?_, ?_, ?_, ?_, ?_, ?_, ?_, ?_, ?_, ?_, ?_, ?_, ?_, ?_⟩, ⟨?_, ?_, ?_, ?_, ?_, ?_, ?_, ?_, ?_, ?_, ?_, ?_, ?_, ?_, ?_, ?_, ?_, ?_, ?_, ?_⟩, ⟨?_, ?_, ?_, ?_, ?_, ?_, ?_, ?_, ?_, ?_, ?_, ?_, ?_, ?_, ?_, ?_, ?_, ?_, ?_, ?_⟩, ⟨?_, ?_, ?_, ?_, ?_, ?_, ?_, ?_, ?_, ?_, ?_, ?_, ?_, ?_, ?_, ?_, ?_, ?_, ?_, ?_⟩, ⟨?_, ?_, ?_, ?_, ?_, ?_, ?_, ?_, ?_, ?_, ?_, ?_, ?_, ?_, ?_, ?_, ?_, ?_, ?_, ?_⟩, ⟨?_, ?_, ?_, ?_, ?_, ?_, ?_, ?_, ?_, ?_, ?_, ?_, ?_, ?_, ?_, ?_, ?_, ?_, ?_, ?_⟩, ⟨?_, ?_, ?_, ?_, ?_, ?_, ?_, ?_, ?_, ?_, ?_, ?_, ?_, ?_, ?_, ?_, ?_, undef, undef, undef⟩, ?_⟩; rotate_left 237; refine @congrArg _ _ _ _ (fun x => Act.mk (List.toArray x) []) ?_; dsimp only; repeat (refine congr (congrArg List.cons (?_ : _ = _)) ?_; · exact rfl); exact rfl)
                      · have HFIN : Hid (fbFin s = (4503599627370496, e4 + 1, false)) := by have h := HFT3.out; simp only [hm, if_true] at h; rw [if_neg ho2] at h; exact h
                        have hlo2 : ¬ (2047 : Int) ≤ e4 + 1 + 1023 := ho2
                        have bz : (bits .and .u64 4503599627370496 4503599627370496 == 0) = false := by decide +kernel
                        clear hm
                        go_wp2
                        go_quiet (fail)
                        go_wp2_with (first | (go_at_call 77; refine (shiftL_any _ b 53 ng s3 (HU.out.on (HB2.out.drewN _)) HOK3.out (by omega) (by omega) (HD2.out.drewN _) (by omega) (by omega)).mono ?_; rintro e w4 ⟨rfl, hD4, hB4⟩; have hB5 := (HB2.out.drewN _).trans hB4; have hU4 := HU.out.on hB5; have hG4 := hU4.laid; have m0 := hG4.lt.le.lf.mb; have m1 := hG4.fi.1; have m2 := hG4.fi.2; clear hG4) | (go_at_call 125; refine (ri_any _ b ng (shlR s3 53) HOK4.out.2.1 hD4 (by omega) (by omega)).mono ?_; rw [HM.out]; rintro e w' ⟨rfl, rfl⟩))
                        go_quiet (fail)
                        go_wp2
                        go_step3
                        refine ⟨hB5.drewN _, Lib.hid ⟨_, hD4.drewN _⟩, 4503599627370496, e4 + 1, false, .inr ⟨rfl, HFIN.out, by omega, by omega, by omega⟩, ?_⟩
                        (refine ⟨⟨?_, ?_, ?_, ?_, ?_, ?_, ?_, ?_, ?_, ?_, ?_, ?_, ?_, ?_, ?_, ?_, ?_, ?_, ?_, ?_⟩, ⟨?_, ?_, ?_, ?_, ?_, ?_, ?_, ?_, ?_, ?_, ?_, ?_, ?_, ?_, ?_, ?_, ?_, ?_, ?_, ?_⟩, ⟨?_, ?_, ?_, ?_, ?_, ?_, ?_, ?_, ?_, ?_, ?_, ?_, ?_, ?_, ?_, ?_, ?_, ?_, ?_, ?_⟩, ⟨?_, ?_, ?_, ?_, ?_, ?_, ?_, ?_, ?_, ?_, ?_, ?_, ?_, ?_, ?_, ?_, ?_, ?_, ?_, ?_⟩, ⟨?_, ?_, ?_, ?_, ?_, ?_, ?_, ?_, ?_, ?_, ?_, ?_, ?_, ?_, ?_, ?_, ?_, ?_, ?_, ?_⟩, ⟨?_, ?_, ?_, ?_, ?_, ?_, ?_, ?_, ?_, ?_, ?_, ?_, ?_, ?_, ?_, ?_, ?_, ?_, ?_, ?_⟩, ⟨?_, ?_, ?_, ?_, ?_, ?_, ?_, ?_, ?_, ?_, ?_, ?_, ?_, ?_, ?_, ?_, ?_, ?_, ?_, ?_⟩, ⟨?_, ?_, ?_, ?_, ?_, ?_, ?_, ?_, ?_, ?_, ?_, ?_, ?_, ?_, ?_, ?_, ?_, ?_, ?_, ?_⟩, ⟨?_, ?_, ?_, ?_, ?_, ?_, ?_, ?_, ?_, ?_, ?_, ?_, ?_, ?_, ?_, ?_, ?_, ?_, ?_, ?_⟩, ⟨?_, ?_, ?_, ?_, ?_, ?_, ?_, ?_, ?_, ?_, ?_, ?_, ?_, ?_, ?_, ?_, ?_, ?_, ?_, ?_⟩, ⟨?_, ?_, ?_, ?_, ?_, ?_, ?_, ?_, ?_, ?_, ?_, ?_, ?_, ?_, ?_, ?_, ?_, ?_, ?_, ?_⟩, ⟨?_, ?_, ?_, ?_, ?_, ?_, ?_, ?_, ?_, ?_, ?_, ?_, ?_, ?_, ?_, ?_, ?_, undef, undef, undef⟩, ?_⟩; rotate_left 237; refine @congrArg _ _ _ _ (fun x => Act.mk (List.toArray x) []) ?_; dsimp only; repeat (refine congr (congrArg List.cons (?_ : _ = _)) ?_; · exact rfl); exact rfl)
                    · have bm : ((m : Int) == 9007199254740992) = false := beq_eq_false_iff_ne.2 (by omega)
                      cases bz : (bits .and .u64 (m : Int) 4503599627370496 == 0) with
                      | true =>
                        have HFIN : Hid (fbFin s = (m, -1023, false)) := by have h := HFT3.out; simp only [hm, if_false] at h; rw [if_pos (beq_iff_eq.1 bz)] at h; exact h
                        clear hm
                        go_wp2
                        go_quiet (fail)
                        go_wp2_with (first | (go_at_call 77; refine (shiftL_any _ b 53 ng s3 (HU.out.on (HB2.out.drewN _)) HOK3.out (by omega) (by omega) (HD2.out.drewN _) (by omega) (by omega)).mono ?_; rintro e w4 ⟨rfl, hD4, hB4⟩; have hB5 := (HB2.out.drewN _).trans hB4; have hU4 := HU.out.on hB5; have hG4 := hU4.laid; have m0 := hG4.lt.le.lf.mb; have m1 := hG4.fi.1; have m2 := hG4.fi.2; clear hG4) | (go_at_call 125; refine (ri_any _ b ng (shlR s3 53) HOK4.out.2.1 hD4 (by omega) (by omega)).mono ?_; rw [HM.out]; rintro e w' ⟨rfl, rfl⟩))
                        go_step3
                        refine ⟨hB5, Lib.hid ⟨_, hD4⟩, m, -1023, false, .inr ⟨rfl, HFIN.out, hmlt, by omega, by omega⟩, ?_⟩
                        (refine ⟨⟨?_, ?_, ?_, ?_, ?_, ?_, ?_, ?_, ?_, ?_, ?_, ?_, ?_, ?_, ?_, ?_, ?_, ?_, ?_, ?_⟩, ⟨?_, ?_, ?_, ?_, ?_, ?_, ?_, ?_, ?_, ?_, ?_, ?_, ?_, ?_, ?_, ?_, ?_, ?_, ?_, ?_⟩, ⟨?_, ?_, ?_, ?_, ?_, ?_, ?_, ?_, ?_, ?_, ?_, ?_, ?_, ?_, ?_, ?_, ?_, ?_, ?_, ?_⟩, ⟨?_, ?_, ?_, ?_, ?_, ?_, ?_, ?_, ?_, ?_, ?_, ?_, ?_, ?_, ?_, ?_, ?_, ?_, ?_, ?_⟩, ⟨?_, ?_, ?_, ?_, ?_, ?_, ?_, ?_, ?_, ?_, ?_, ?_, ?_, ?_, ?_, ?_, ?_, ?_, ?_, ?_⟩, ⟨?_, ?_, ?_, ?_, ?_, ?_, ?_, ?_, ?_, ?_, ?_, ?_, ?_, ?_, ?_, ?_, ?_, ?_, ?_, ?_⟩, ⟨?_, ?_, ?_, ?_, ?_, ?_, ?_, ?_, ?_, ?_, ?_, ?_, ?_, ?_, ?_, ?_, ?_, ?_, ?_, ?_⟩, ⟨?_, ?_, ?_, ?_, ?_, ?_, ?_, ?_, ?_, ?_, ?_, ?_, ?_, ?_, ?_, ?_, ?_, ?_, ?_, ?_⟩, ⟨?_, ?_, ?_, ?_, ?_, ?_, ?_, ?_, ?_, ?_, ?_, ?_, ?_, ?_, ?_, ?_, ?_, ?_, ?_, ?_⟩, ⟨?_, ?_, ?_, ?_, ?_, ?_, ?_, ?_, ?_, ?_, ?_, ?_, ?_, ?_, ?_, ?_, ?_, ?_, ?_, ?_⟩, ⟨?_, ?_, ?_, ?_, ?_, ?_, ?_, ?_, ?_, ?_, ?_, ?_, ?_, ?_, ?_, ?_, ?_, ?_, ?_, ?_⟩, ⟨?_, ?_, ?_, ?_, ?_, ?_, ?_, ?_, ?_, ?_, ?_, ?_, ?_, ?_, ?_, ?_, ?_, undef, undef, undef⟩, ?_⟩; rotate_left 237; refine @congrArg _ _ _ _ (fun x => Act.mk (List.toArray x) []) ?_; dsimp only; repeat (refine congr (congrArg List.cons (?_ : _ = _)) ?_; · exact rfl); exact rfl)
                      | false =>
                        have HFIN : Hid (fbFin s = (m, e4, false)) := by have h := HFT3.out; simp only [hm, if_false] at h; rw [if_neg (beq_eq_false_iff_ne.1 bz)] at h; exact h
                        clear hm
                        go_wp2
                        go_quiet (fail)
                        go_wp2_with (first | (go_at_call 77; refine (shiftL_any _ b 53 ng s3 (HU.out.on (HB2.out.drewN _)) HOK3.out (by omega) (by omega) (HD2.out.drewN _) (by omega) (by omega)).mono ?_; rintro e w4 ⟨rfl, hD4, hB4⟩; have hB5 := (HB2.out.drewN _).trans hB4; have hU4 := HU.out.on hB5; have hG4 := hU4.laid; have m0 := hG4.lt.le.lf.mb; have m1 := hG4.fi.1; have m2 := hG4.fi.2; clear hG4) | (go_at_call 125; refine (ri_any _ b ng (shlR s3 53) HOK4.out.2.1 hD4 (by omega) (by omega)).mono ?_; rw [HM.out]; rintro e w' ⟨rfl, rfl⟩))
                        go_step3
                        refine ⟨hB5, Lib.hid ⟨_, hD4⟩, m, e4, false, .inr ⟨rfl, HFIN.out, hmlt, by omega, by omega⟩, ?_⟩
                        (refine ⟨⟨?_, ?_, ?_, ?_, ?_, ?_, ?_, ?_, ?_, ?_, ?_, ?_, ?_, ?_, ?_, ?_, ?_, ?_, ?_, ?_⟩, ⟨?_, ?_, ?_, ?_, ?_, ?_, ?_, ?_, ?_, ?_, ?_, ?_, ?_, ?_, ?_, ?_, ?_, ?_, ?_, ?_⟩, ⟨?_, ?_, ?_, ?_, ?_, ?_, ?_, ?_, ?_, ?_, ?_, ?_, ?_, ?_, ?_, ?_, ?_, ?_, ?_, ?_⟩, ⟨?_, ?_, ?_, ?_, ?_, ?_, ?_, ?_, ?_, ?_, ?_, ?_, ?_, ?_, ?_, ?_, ?_, ?_, ?_, ?_⟩, ⟨?_, ?_, ?_, ?_, ?_, ?_, ?_, ?_, ?_, ?_, ?_, ?_, ?_, ?_, ?_, ?_, ?_, ?_, ?_, ?_⟩, ⟨?_, ?_, ?_, ?_, ?_, ?_, ?_, ?_, ?_, ?_, ?_, ?_, ?_, ?_, ?_, ?_, ?_, ?_, ?_, ?_⟩, ⟨?_, ?_, ?_, ?_, ?_, ?_, ?_, ?_, ?_, ?_, ?_, ?_, ?_, ?_, ?_, ?_, ?_, ?_, ?_, ?_⟩, ⟨?_, ?_, ?_, ?_, ?_, ?_, ?_, ?_, ?_, ?_, ?_, ?_, ?_, ?_, ?_, ?_, ?_, ?_, ?_, ?_⟩, ⟨?_, ?_, ?_, ?_, ?_, ?_, ?_, ?_, ?_, ?_, ?_, ?_, ?_, ?_, ?_, ?_, ?_, ?_, ?_, ?_⟩, ⟨?_, ?_, ?_, ?_, ?_, ?_, ?_, ?_, ?_, ?_, ?_, ?_, ?_, ?_, ?_, ?_, ?_, ?_, ?_, ?_⟩, ⟨?_, ?_, ?_, ?_, ?_, ?_, ?_, ?_, ?_, ?_, ?_, ?_, ?_, ?_, ?_, ?_, ?_, ?_, ?_, ?_⟩, ⟨?_, ?_, ?_, ?_, ?_, ?_, ?_, ?_, ?_, ?_, ?_, ?_, ?_, ?_, ?_, ?_, ?_, undef, undef, undef⟩, ?_⟩; rotate_left 237; refine @congrArg _ _ _ _ (fun x => Act.mk (List.toArray x) []) ?_; dsimp only; repeat (refine congr (congrArg List.cons (?_ : _ = _)) ?_; · exact rfl); exact rfl)

end Go.Proofs.YtjncgedjdmgpfaaGreatDoor
