/- The walk of ftoa64. -/
import Derived.Test.YtdencljnbilchaaGreatDoorHc
import Derived.Test.YtdencljnbilchaaGreatDoorFn
import Derived.Test.YtdencljnbilchaaGreatDoorXt
import Derived.BigQuiet
import Derived.BigRegion
import Derived.Deep.QuietTactic
import Derived.Deep.RegionWith
import Derived.BigCall
import Derived.StillTailTactics

namespace Go.Proofs.YtdencljnbilchaaGreatDoor
open Go.RowKit

/-- The exponent field as ftoa64 takes it, the mantissa. -/
def fE1 (x : Nat) : Nat := if fEx x = 0 then 1 else fEx x
def fMm (x : Nat) : Nat := if fEx x = 0 then fMt x else fMt x + 4503599627370496

theorem fMm_lt (x : Nat) : fMm x < 9007199254740992 := by
  unfold fMm fMt; split <;> omega

def fPr (fmt : Nat) (prec : Int) : Int := if (fmt = 103 ∨ fmt = 71) ∧ prec = 0 then 1 else prec
def fDg (fmt : Nat) (E prec : Int) : Int :=
  if fmt = 102 then (if 0 ≤ E then 1 + (1 + E) * 78913 / 262144 + prec else 1 + prec - -E * 78913 / 262144)
  else if fmt = 101 ∨ fmt = 69 then prec + 1 else fPr fmt prec

/-- The fast road's digits. -/
def fastN (M : Nat) (E D prec : Int) (fmt : Nat) : Nat := roundN (fwEnd (M * 2 ^ (64 - Lib.bitLen M)) (E - (64 - (Lib.bitLen M : Int)) - 52) D.toNat prec fmt).1
def fastP (M : Nat) (E D prec : Int) (fmt : Nat) : Int := (fwEnd (M * 2 ^ (64 - Lib.bitLen M)) (E - (64 - (Lib.bitLen M : Int)) - 52) D.toNat prec fmt).2
def fastT (ng : Bool) (M : Nat) (E D prec : Int) (fmt : Nat) : List UInt8 :=
  if 0 < D ∧ fastN M E D prec fmt ≠ 0 then
    fmtL ng (dgf (fastN M E D prec fmt) (ndN (fastN M E D prec fmt))) (trimN (ndN (fastN M E D prec fmt)) (fastN M E D prec fmt)).1 ((ndN (fastN M E D prec fmt) : Int) + -(fastP M E D prec fmt)) prec fmt false
  else fmtL ng (fun _ => 48) 0 0 prec fmt false

/-- The slow road's decimal. -/
def slow1 (M : Nat) (E : Int) : DS := shiR (dsOf (ndN M) M) (E - 52)
def slow2 (M : Nat) (E prec : Int) (fmt : Nat) : DS := roundI (slow1 M E) (if fmt = 102 then (slow1 M E).dp + prec else if fmt = 101 ∨ fmt = 69 then prec + 1 else prec)
def slowT (ng : Bool) (M : Nat) (E prec : Int) (fmt : Nat) : List UInt8 :=
  fmtL ng (dgf (slow2 M E prec fmt).M (slow2 M E prec fmt).nd) (slow2 M E prec fmt).nd (slow2 M E prec fmt).dp prec fmt false

/-- What ftoa64 writes of a number that is not nought. -/
def ftoaT (ng : Bool) (M : Nat) (E prec : Int) (fmt : Nat) : List UInt8 :=
  if fDg fmt E prec ≤ 18 then fastT ng M E (fDg fmt E prec) (fPr fmt prec) fmt else slowT ng M E (fPr fmt prec) fmt

theorem fwEnd_bd (m : Nat) (e : Int) (n : Nat) (prec : Int) (fmt : Nat) (hm : m < 18446744073709551616) (he1 : -1137 ≤ e) (he2 : e ≤ 960) (hn1 : 1 ≤ n) (hn2 : n ≤ 18) (hp : 0 ≤ prec) :
    (fwEnd m e n prec fmt).1 < 18446744073709551612 ∧ -400 ≤ (fwEnd m e n prec fmt).2 ∧ (fwEnd m e n prec fmt).2 ≤ 400 := by
  have hu := fwU_lt m e n hm he1 he2 hn1 hn2
  obtain ⟨b1, b2, _, _⟩ := fw_bd e n he1 he2 hn1 hn2
  have hd := divU_lt (fwU m e n) (by omega)
  have hup : (fwUP m e n).1 < 18446744073709551612 ∧ -331 ≤ (fwUP m e n).2 ∧ (fwUP m e n).2 ≤ 345 := by
    unfold fwUP
    split
    · exact ⟨by show divU (fwU m e n) < _; omega, by show -331 ≤ fwP e n - 1; omega, by show fwP e n - 1 ≤ 345; omega⟩
    · exact ⟨hu, by show -331 ≤ fwP e n; omega, b2⟩
  unfold fwEnd
  split
  · rename_i h
    exact ⟨itU_lt _ _ hup.1, by show -400 ≤ prec; omega, by show prec ≤ 400; omega⟩
  · exact ⟨hup.1, by omega, by omega⟩

theorem bitLen_full (M : Nat) (h0 : M ≠ 0) (h1 : M < 9007199254740992) : 1 ≤ Lib.bitLen M ∧ Lib.bitLen M ≤ 53 ∧ M * 2 ^ (64 - Lib.bitLen M) < 18446744073709551616 := by
  have hb : Lib.bitLen M = Lib.bitLenAux 64 M := rfl
  rcases bitLen_two 64 M (by rw [show (2 : Nat) ^ 64 = 18446744073709551616 from by decide]; omega) with ⟨h, _⟩ | ⟨h2, h3, h4, h5⟩
  · omega
  · rw [← hb] at h2 h3 h4 h5
    generalize Lib.bitLen M = L at h2 h3 h4 h5
    have hL : L ≤ 53 := by
      rcases Nat.lt_or_ge 53 L with h | h
      · have := Nat.pow_le_pow_right (n := 2) (by decide) (show 53 ≤ L - 1 by omega)
        have e : (2 : Nat) ^ 53 = 9007199254740992 := by decide
        omega
      · exact h
    refine ⟨h4, hL, ?_⟩
    have : M * 2 ^ (64 - L) < 2 ^ L * 2 ^ (64 - L) := Nat.mul_lt_mul_of_pos_right h3 (Nat.pow_pos (by decide))
    rw [← Nat.pow_add, show L + (64 - L) = 64 by omega] at this
    exact this

set_option maxRecDepth 100000 in
set_option maxHeartbeats 3200000 in
theorem ftoa_any (x fmt : Nat) (prec : Int) (w : World) (v : Value) (bd : Nat) (hx : x < 18446744073709551616) (hE : fEx x ≠ 2047) (hm : fMm x ≠ 0) (hfmt : fmt = 101 ∨ fmt = 69 ∨ fmt = 102 ∨ fmt = 103 ∨ fmt = 71) (hp1 : 0 ≤ prec) (hp2 : prec ≤ 1000) (hL : LaidG w) (hv : RowAt w 5 v bd []) :
    Calls Tryz.prog 68 #[v, .float .f64 x, .int .u8 fmt, .int .i64 prec] w fun e w' => ∃ v', e = .returned v' ∧ App w 5 bd v' w' (ftoaT (fNg x) (fMm x) ((fE1 x : Nat) - 1023) prec fmt) := by
  have a1 : bits .and .i64 ((x : Int) / 4503599627370496) 2047 = (fEx x : Nat) := by
    have := and2047x (x / 4503599627370496) (by omega)
    rwa [show ((x / 4503599627370496 : Nat) : Int) = (x : Int) / 4503599627370496 by omega] at this
  have a2 := and52 x hx
  have hex : fEx x < 2048 := by unfold fEx; omega
  have hmt : fMt x < 4503599627370496 := by unfold fMt; omega
  have a3 := or52 (fMt x) hmt
  have HF := ext_fb x
  have hop := hL.lt.le.lf.opt
  have bE : (((fEx x : Nat) : Int) == 2047) = false := beq_eq_false_iff_ne.2 (by omega)
  obtain ⟨ng, hng⟩ : ∃ ng, fNg x = ng := ⟨_, rfl⟩
  have bng : ((x : Int) / 9223372036854775808 != 0) = ng := by
    rw [← hng]; unfold fNg
    by_cases h : 9223372036854775808 ≤ x
    · rw [decide_eq_true h, bne_iff_ne]; omega
    · rw [decide_eq_false h]; simp; omega
  obtain ⟨T, hT⟩ : ∃ T, ftoaT (fNg x) (fMm x) ((fE1 x : Nat) - 1023) prec fmt = T := ⟨_, rfl⟩
  rw [hT]
  rw [hng] at hT
  have HLG := Lib.hid hL
  have HRow := Lib.hid hv
  clear hL hng hv
  go_enter Tryz.func68, Tryz.ntmps68
  go_upto_region 14 with fail
  go_quiet (fail)
  go_upto_region 22 with fail
  go_cut [78] (fun v wx => ∃ c : Bool, v = .bool c ∧ Hid (c = decide (fEx x = 0)) ∧ ∃ q, wx = w.drewN q)
  case first =>
    by_cases h0 : fEx x = 0
    · have b0 : (((fEx x : Nat) : Int) == 0) = true := beq_iff_eq.2 (by omega)
      go_wp2
      go_meet
      exact ⟨true, rfl, by simp [Hid, h0], _, rfl⟩
    · have b0 : (((fEx x : Nat) : Int) == 0) = false := beq_eq_false_iff_ne.2 (by omega)
      go_wp2
      go_meet
      exact ⟨false, rfl, by simp [Hid, h0], _, rfl⟩
  case rest =>
    obtain ⟨c78, rfl, H78, q, rfl⟩ := hcut
    go_upto_if 78 with (fail)
    go_cut [14, 15] (fun e m wx => e = .int .i64 (fE1 x) ∧ m = .int .u64 (fMm x) ∧ wx = w.drewN q)
    case first =>
      as_aux_lemma =>
        by_cases h0 : fEx x = 0
        · have hc : c78 = true := by rw [H78.out]; simp [h0]
          have e1 : (fE1 x : Int) = 1 := by unfold fE1; rw [if_pos h0]; rfl
          have e2 : fMm x = fMt x := by unfold fMm; rw [if_pos h0]
          have h0i : ((fEx x : Nat) : Int) = 0 := by omega
          subst hc
          go_wp2
          go_meet
          exact ⟨by rw [e1], by rw [e2], rfl⟩
        · have hc : c78 = false := by rw [H78.out]; simp [h0]
          have e1 : fE1 x = fEx x := by unfold fE1; rw [if_neg h0]
          have e2 : fMm x = fMt x + 4503599627370496 := by unfold fMm; rw [if_neg h0]
          subst hc
          go_wp2
          go_meet
          exact ⟨by rw [e1], by rw [e2]; congr 1, rfl⟩
    case rest =>
      obtain ⟨rfl, rfl, rfl⟩ := hcut
      have hM1 := fMm_lt x
      have hE1 : 1 ≤ fE1 x ∧ fE1 x ≤ 2046 := by unfold fE1; split <;> omega
      obtain ⟨M, eM⟩ : ∃ M, fMm x = M := ⟨_, rfl⟩
      obtain ⟨EE, eE⟩ : ∃ EE, fE1 x = EE := ⟨_, rfl⟩
      rw [eM] at hm hM1 hT ⊢
      rw [eE] at hE1 hT ⊢
      have bM : ((M : Int) == 0) = false := beq_eq_false_iff_ne.2 (by omega)
      have b98 : ((fmt : Int) == 98) = false := beq_eq_false_iff_ne.2 (by omega)
      have b120 : ((fmt : Int) == 120) = false := beq_eq_false_iff_ne.2 (by omega)
      have b88 : ((fmt : Int) == 88) = false := beq_eq_false_iff_ne.2 (by omega)
      clear H78 a1 a2 a3 bE hE hex hmt bng HF eM eE
      go_upto_block 2 with fail
      obtain ⟨E, eE⟩ : ∃ E : Int, (EE : Int) + -1023 = E := ⟨_, rfl⟩
      have eE2 : (EE : Int) - 1023 = E := by omega
      have hE2 : -1022 ≤ E ∧ E ≤ 1023 := by omega
      rw [eE]
      rw [eE2] at hT
      clear eE eE2 hE1
      have HLP := Lib.hid (fun (y : Int) (h1 : -1000000 ≤ y) (h2 : y ≤ 1000000) W => log10p_any y h1 h2 W)
      obtain ⟨D, eD⟩ : ∃ D, fDg fmt E prec = D := ⟨_, rfl⟩
      obtain ⟨p', eP⟩ : ∃ p', fPr fmt prec = p' := ⟨_, rfl⟩
      have hp' : 0 ≤ p' ∧ p' ≤ 1000 := by rw [← eP]; unfold fPr; split <;> omega
      have hpg : (fmt = 103 ∨ fmt = 71) → p' ≠ 0 := fun h h0 => by
        rw [← eP] at h0; unfold fPr at h0; split at h0
        · cases h0
        · rename_i hn; exact hn ⟨h, h0⟩
      have HT : Hid (T = if D ≤ 18 then fastT ng M E D p' fmt else slowT ng M E p' fmt) := by unfold Hid; rw [← hT]; unfold ftoaT; rw [eD, eP]
      clear hT
      have hD2 : D ≤ 2000 ∧ -2000 ≤ D := by
        rw [← eD]; unfold fDg
        split
        · split <;> omega
        · split
          · omega
          · rw [eP]; omega
      go_cut [3, 24] (fun p g wx => p = .int .i64 p' ∧ g = .int .i64 D ∧ wx = w.drewN q)
      case first =>
        as_aux_lemma =>
          rcases hfmt with rfl | rfl | rfl | rfl | rfl
          · unfold fDg at eD; unfold fPr at eP; simp at eD eP; subst eD; subst eP
            go_wp2
            go_meet
            exact ⟨rfl, by go_num, rfl⟩
          · unfold fDg at eD; unfold fPr at eP; simp at eD eP; subst eD; subst eP
            go_wp2
            go_meet
            exact ⟨rfl, by go_num, rfl⟩
          · unfold fPr at eP; simp at eP; subst eP
            by_cases h0 : 0 ≤ E
            · unfold fDg at eD; rw [if_pos rfl, if_pos h0] at eD
              have HL1 := Lib.hid (fun W => HLP.out (1 + E) (by omega) (by omega) W)
              obtain ⟨t, et⟩ : ∃ t, (1 + E) * 78913 / 262144 = t := ⟨_, rfl⟩
              rw [et] at HL1 eD
              have htb : 0 ≤ t ∧ t ≤ 400 := by omega
              subst eD
              clear et
              go_wp2_with (go_at_call 92; refine (HL1.out _).mono ?_; rintro e w' ⟨rfl, rfl⟩)
              go_meet
              exact ⟨rfl, by go_num, rfl⟩
            · unfold fDg at eD; rw [if_pos rfl, if_neg h0] at eD
              have HL1 := Lib.hid (fun W => HLP.out (-E) (by omega) (by omega) W)
              obtain ⟨t, et⟩ : ∃ t, -E * 78913 / 262144 = t := ⟨_, rfl⟩
              rw [et] at HL1 eD
              have htb : 0 ≤ t ∧ t ≤ 400 := by omega
              have hwr : RowKit.wrap64 (-E) = -E := by unfold RowKit.wrap64; omega
              subst eD
              clear et
              go_wp2_with (go_at_call 92; refine (HL1.out _).mono ?_; rintro e w' ⟨rfl, rfl⟩)
              go_meet
              exact ⟨rfl, by go_num, rfl⟩
          · by_cases h0 : prec = 0
            · unfold fDg at eD; rw [if_neg (by decide), if_neg (by decide), eP] at eD; unfold fPr at eP; rw [if_pos ⟨by decide, h0⟩] at eP; subst eD; subst eP; subst h0
              go_wp2
              go_meet
              exact ⟨rfl, rfl, rfl⟩
            · have b0 : (prec == 0) = false := beq_eq_false_iff_ne.2 h0
              unfold fDg at eD; rw [if_neg (by decide), if_neg (by decide), eP] at eD; unfold fPr at eP; rw [if_neg (fun h => h0 h.2)] at eP; subst eD; subst eP
              go_wp2
              go_meet
              exact ⟨rfl, rfl, rfl⟩
          · by_cases h0 : prec = 0
            · unfold fDg at eD; rw [if_neg (by decide), if_neg (by decide), eP] at eD; unfold fPr at eP; rw [if_pos ⟨by decide, h0⟩] at eP; subst eD; subst eP; subst h0
              go_wp2
              go_meet
              exact ⟨rfl, rfl, rfl⟩
            · have b0 : (prec == 0) = false := beq_eq_false_iff_ne.2 h0
              unfold fDg at eD; rw [if_neg (by decide), if_neg (by decide), eP] at eD; unfold fPr at eP; rw [if_neg (fun h => h0 h.2)] at eP; subst eD; subst eP
              go_wp2
              go_meet
              exact ⟨rfl, rfl, rfl⟩
      case rest =>
        obtain ⟨rfl, rfl, rfl⟩ := hcut
        clear eD eP HLP bM b98 b120 b88
        obtain ⟨hL1, hL2, hL3⟩ := bitLen_full M (by omega) hM1
        have hroW : RowAt w 5 v bd (u8s []) := HRow.out
        have hbdlt : bd < w.heap.size := hroW.lt
        by_cases h18 : D ≤ 18
        · have HT1 : Hid (T = fastT ng M E D p' fmt) := by unfold Hid; rw [HT.out, if_pos h18]
          clear HT hpg
          go_upto_if 206 with (fail)
          go_cut [26, 27] (fun dv nv wx => ∃ (f : Nat → Nat) (nz : Nat) (dp : Int), dv = .int .i64 dp ∧ nv = .int .i64 nz ∧ nz ≤ 24 ∧ -900 ≤ dp ∧ dp ≤ 900 ∧ Hid (T = fmtL ng f nz dp p' fmt false) ∧ Hid (∀ i, f i < 256) ∧ Hid (∀ i, i < nz → wx.cell? ⟨w.heap.size, i, none⟩ = some (.int .u8 (f i))) ∧ Hid (Below w.heap.size w wx))
          case first =>
            obtain ⟨Z, eZ⟩ : ∃ Z, (w.drewN q).alloc (Obj.cells #[Value.int IntKind.u8 0, Value.int IntKind.u8 0, Value.int IntKind.u8 0, Value.int IntKind.u8 0, Value.int IntKind.u8 0, Value.int IntKind.u8 0, Value.int IntKind.u8 0, Value.int IntKind.u8 0, Value.int IntKind.u8 0, Value.int IntKind.u8 0, Value.int IntKind.u8 0, Value.int IntKind.u8 0, Value.int IntKind.u8 0, Value.int IntKind.u8 0, Value.int IntKind.u8 0, Value.int IntKind.u8 0, Value.int IntKind.u8 0, Value.int IntKind.u8 0, Value.int IntKind.u8 0, Value.int IntKind.u8 0, Value.int IntKind.u8 0, Value.int IntKind.u8 0, Value.int IntKind.u8 0, Value.int IntKind.u8 0] 130) = Z := ⟨_, rfl⟩
            have hZB : Below w.heap.size w Z := by rw [← eZ]; exact (below_drewN (Below.refl _ _) q).alloc (Nat.le_refl _) _
            have hZs : w.heap.size < Z.heap.size := by rw [← eZ]; simp
            have hZF : BufF Z w.heap.size (fun _ => 0) 24 := by rw [← eZ]; exact bufF_zero (w.drewN q) 130 24 _ rfl
            rw [eZ]
            clear eZ
            have HZB := Lib.hid hZB
            have HZF := Lib.hid hZF
            clear hZB hZF
            by_cases h0 : 0 < D
            · obtain ⟨Dn, rfl⟩ : ∃ Dn : Nat, D = Dn := ⟨D.toNat, by omega⟩
              have HL6 := Lib.hid (fun W => len64_any M W (by omega))
              obtain ⟨LN, eLN⟩ : ∃ LN, Lib.bitLen M = LN := ⟨_, rfl⟩
              rw [eLN] at hL1 hL2 hL3 HL6
              obtain ⟨mm, emm⟩ : ∃ mm : Nat, M * 2 ^ (64 - LN) = mm := ⟨_, rfl⟩
              rw [emm] at hL3
              have hwu : IntKind.u64.wrap ((M : Int) * 2 ^ (64 - LN)) = (mm : Nat) := by
                have e1 : (M : Int) * 2 ^ (64 - LN) = (mm : Nat) := by rw [← emm]; push_cast; rfl
                rw [e1, IntKind.wrap_u64]; omega
              have hfe := fwEnd_bd mm (E - (64 - (LN : Int)) - 52) Dn p' fmt hL3 (by omega) (by omega) (by omega) (by omega) hp'.1
              have HFW : Hid (∀ W, Below w.heap.size w W → Calls Tryz.prog 93 #[.int .u64 mm, .int .i64 (E - (64 - (LN : Int)) - 52), .int .i64 Dn, .int .i64 p', .int .u8 fmt] W fun en w' => en = .returned (.tuple #[.int .u64 (roundN (fwEnd mm (E - (64 - (LN : Int)) - 52) Dn p' fmt).1), .int .i64 (-(fwEnd mm (E - (64 - (LN : Int)) - 52) Dn p' fmt).2)]) ∧ Below W.heap.size W w') :=
                fun W hW => fixedWidth_any mm (E - (64 - (LN : Int)) - 52) Dn p' fmt W (HLG.out.below hW) hL3 (by omega) (by omega) (by omega) (by omega) hp'.1 hp'.2 (fwU_lt _ _ _ hL3 (by omega) (by omega) (by omega) (by omega))
              have hT2 : T = if 0 < (Dn : Int) ∧ roundN (fwEnd mm (E - (64 - (LN : Int)) - 52) Dn p' fmt).1 ≠ 0 then
                  fmtL ng (dgf (roundN (fwEnd mm (E - (64 - (LN : Int)) - 52) Dn p' fmt).1) (ndN (roundN (fwEnd mm (E - (64 - (LN : Int)) - 52) Dn p' fmt).1))) (trimN (ndN (roundN (fwEnd mm (E - (64 - (LN : Int)) - 52) Dn p' fmt).1)) (roundN (fwEnd mm (E - (64 - (LN : Int)) - 52) Dn p' fmt).1)).1 ((ndN (roundN (fwEnd mm (E - (64 - (LN : Int)) - 52) Dn p' fmt).1) : Int) + -(fwEnd mm (E - (64 - (LN : Int)) - 52) Dn p' fmt).2) p' fmt false
                  else fmtL ng (fun _ => 48) 0 0 p' fmt false := by
                rw [HT1.out]; unfold fastT fastN fastP; rw [eLN, emm, Int.toNat_natCast]
              obtain ⟨P, eP2⟩ : ∃ P, (fwEnd mm (E - (64 - (LN : Int)) - 52) Dn p' fmt).2 = P := ⟨_, rfl⟩
              obtain ⟨U, eU⟩ : ∃ U, roundN (fwEnd mm (E - (64 - (LN : Int)) - 52) Dn p' fmt).1 = U := ⟨_, rfl⟩
              have hU : U < 18446744073709551616 := by rw [← eU]; unfold roundN; omega
              rw [eP2] at hfe HFW hT2
              rw [eU] at HFW hT2
              have hPb := hfe.2
              have HT2 := Lib.hid hT2
              clear hT2 hfe eU eP2 emm eLN HT1
              by_cases hU0 : U = 0
              · have bU : ((U : Int) != 0) = false := by rw [hU0]; rfl
                have HT3 : Hid (T = fmtL ng (fun _ => 48) 0 0 p' fmt false) := by unfold Hid; rw [HT2.out, if_neg (fun h => h.2 hU0)]
                clear HT2 hU0
                as_aux_lemma =>
                  go_wp2_with (first | (go_at_call 88; refine (HL6.out _).mono ?_; rintro e w' ⟨rfl, rfl⟩) | (go_at_call 93; refine (HFW.out _ HZB.out).mono ?_; rintro e w2 ⟨rfl, hb2⟩))
                  go_meet
                  exact ⟨fun _ => 48, 0, 0, rfl, rfl, by omega, by omega, by omega, HT3, Lib.hid (fun _ => (by decide : 48 < 256)), Lib.hid (fun i hi => absurd hi (by omega)), Lib.hid (HZB.out.trans (hb2.mono (Nat.le_of_lt hZs)))⟩
              · have bU : ((U : Int) != 0) = true := by rw [bne_iff_ne]; omega
                obtain ⟨n1, n2, n3, n4, _⟩ := ndN_ok U (by omega) hU
                have HND : Hid (∀ W, Below w.heap.size w W → Calls Tryz.prog 91 #[.int .u64 U] W fun e w' => e = .returned (.int .i64 (ndN U)) ∧ W = w') := fun W hW => numDigits_any U (by omega) hU W (HLG.out.below hW)
                have HT3 : Hid (T = fmtL ng (dgf U (ndN U)) (trimN (ndN U) U).1 ((ndN U : Int) + -P) p' fmt false) := by unfold Hid; rw [HT2.out, if_pos ⟨by omega, hU0⟩]
                have hnz := trimN_le (ndN U) U
                have hSD : ∀ W, BufF W w.heap.size (fun _ => 0) (ndN U) → Calls Tryz.prog 90 #[.slice (some ⟨w.heap.size, 0, none⟩) 24 24, .int .u64 U, .int .i64 (-P), .int .i64 (ndN U)] W fun e w' => e = .returned (.tuple #[.int .i64 ((ndN U : Int) + -P), .int .i64 (trimN (ndN U) U).1]) ∧ BufF w' w.heap.size (dgf U (ndN U)) (ndN U) ∧ OnlyB w.heap.size W w' :=
                  fun W hB => setDigits_any W w.heap.size U (ndN U) 24 (-P) (fun _ => 0) hB (fun _ => by decide) (by omega) (by omega) n4 hU (by omega) (by omega)
                obtain ⟨n, en⟩ : ∃ n, ndN U = n := ⟨_, rfl⟩
                obtain ⟨nz, enz⟩ : ∃ nz, (trimN n U).1 = nz := ⟨_, rfl⟩
                rw [en] at HND HT3 hSD hnz n1 n2
                rw [enz] at HT3 hSD hnz
                have HSD := Lib.hid hSD
                clear hSD HT2 hU0 n3 n4 en enz
                as_aux_lemma =>
                  go_upto_region 74 with (first | (go_at_call 88; refine (HL6.out _).mono ?_; rintro e w' ⟨rfl, rfl⟩) | (go_at_call 93; refine (HFW.out _ HZB.out).mono ?_; rintro e w2 ⟨rfl, hb2⟩))
                  have hb02 : Below w.heap.size w w2 := HZB.out.trans (hb2.mono (Nat.le_of_lt hZs))
                  have hF2 : BufF w2 w.heap.size (fun _ => 0) n := by
                    have h := HZF.out.only (OnlyB.of_below (w.heap.size + 1) hb2) (by omega) hZs
                    exact ⟨fun i hi => h.d i (by omega), h.fz⟩
                  have HSD2 := Lib.hid (fun m => HSD.out (w2.drewN m) ⟨fun i hi => hF2.d i hi, fun i => hF2.fz i⟩)
                  have HND2 := Lib.hid (fun m => HND.out (w2.drewN m) (below_drewN hb02 m))
                  have HB02 := Lib.hid hb02
                  clear HSD HND hF2 hb02 hb2 HFW
                  go_region_with (first | (go_at_call 91; refine (HND2.out _).mono ?_; rintro e w' ⟨rfl, rfl⟩) | (go_at_call 90; refine (HSD2.out _).mono ?_; rintro e w3 ⟨rfl, hF3, ho3⟩))
                  all_goals go_wp2
                  all_goals go_meet
                  all_goals exact ⟨dgf U n, nz, (n : Int) + -P, rfl, rfl, by omega, by omega, by omega, HT3, Lib.hid (fun i => dgf_lt _ _ i), Lib.hid (fun i hi => hF3.d i (by omega)), Lib.hid (ho3.below_of (below_drewN HB02.out _) (Nat.le_refl _) (by have := HB02.out.size; simpa using this))⟩
            · have HT3 : Hid (T = fmtL ng (fun _ => 48) 0 0 p' fmt false) := by unfold Hid; rw [HT1.out]; unfold fastT; rw [if_neg (fun h => h0 h.1)]
              as_aux_lemma =>
                go_wp2
                go_meet
                exact ⟨fun _ => 48, 0, 0, rfl, rfl, by omega, by omega, by omega, HT3, Lib.hid (fun _ => (by decide : 48 < 256)), Lib.hid (fun i hi => absurd hi (by omega)), HZB⟩
          case rest =>
            obtain ⟨f, nz, dp, rfl, rfl, hnz, hd1, hd2, HT3, Hf, HC, HB⟩ := hcut
            have hFM := fmtEFG_any wc bd v (.slice (some ⟨w.heap.size, 0, none⟩) 24 24) [] ng false f nz dp p' fmt (hroW.kept (HB.out.block bd hbdlt)) (by decide) (.inr ⟨w.heap.size, 24, 24, rfl, hnz, by decide, by decide, by decide, by omega, HC.out⟩) Hf.out hfmt (by omega) hd1 hd2 hp'.1 hp'.2
            rw [← HT3.out] at hFM
            have HFM := Lib.hid hFM
            clear hFM
            as_aux_lemma =>
              go_wp2_with (go_at_call 87; refine HFM.out.mono ?_; rintro e w5 ⟨v', rfl, hA⟩)
              go_ret
              exact ⟨v', rfl, appUnder (m := 0) HB.out hA⟩
        · have HT1 : Hid (T = slowT ng M E p' fmt) := by unfold Hid; rw [HT.out, if_neg h18]
          obtain ⟨n1, n2, n3, n4, _⟩ := ndN_ok M (by omega) (by omega)
          obtain ⟨hok0, hdp0⟩ := dsOf_ok n1 n2 n3 n4
          have hs1 := shiR_ok hok0 (E - 52) (by omega) (by omega)
          have HAS : Hid (∀ q : Nat, Calls Tryz.prog 94 #[.pointer (some ⟨w.heap.size, 0, none⟩), .int .u64 M] ((w.drewN q).alloc (.cells Tryz.zeroCells135 135)) fun e w' => e = .returned (.tuple #[]) ∧ DecS w' w.heap.size false (dsOf (ndN M) M) ∧ OnlyB w.heap.size ((w.drewN q).alloc (.cells Tryz.zeroCells135 135)) w') := fun q =>
            assign_any ((w.drewN q).alloc (.cells Tryz.zeroCells135 135)) w.heap.size M (ndN M) (fun _ => 0) 0 0 false false (by omega) n2 n4 (.inr n3) (decF_z (w.drewN q))
          have HSH : Hid (∀ (W : World), Under W w.heap.size → DecS W w.heap.size false (dsOf (ndN M) M) → Calls Tryz.prog 95 #[.pointer (some ⟨w.heap.size, 0, none⟩), .int .i64 (E - 52)] W (DecEnd W w.heap.size false (slow1 M E))) := fun W h1 h2 =>
            shift_any W w.heap.size (E - 52) false (dsOf (ndN M) M) h1 hok0 (by omega) (by omega) h2 (by rw [hdp0]; omega) (by rw [hdp0]; omega)
          rw [hdp0] at hs1
          have hs1' : (slow1 M E).ok ∧ -400 ≤ (slow1 M E).dp ∧ (slow1 M E).dp ≤ 360 := ⟨hs1.1, by have := hs1.2.1; unfold slow1; omega, by have := hs1.2.2; unfold slow1; omega⟩
          have hT2 : T = fmtL ng (dgf (slow2 M E p' fmt).M (slow2 M E p' fmt).nd) (slow2 M E p' fmt).nd (slow2 M E p' fmt).dp p' fmt false := HT1.out
          have hs2 : slow2 M E p' fmt = roundI (slow1 M E) (if fmt = 102 then (slow1 M E).dp + p' else if fmt = 101 ∨ fmt = 69 then p' + 1 else p') := rfl
          obtain ⟨S1, eS1⟩ : ∃ S1, slow1 M E = S1 := ⟨_, rfl⟩
          obtain ⟨S2, eS2⟩ : ∃ S2, slow2 M E p' fmt = S2 := ⟨_, rfl⟩
          rw [eS1] at HSH hs1' hs2
          rw [eS2] at hT2 hs2
          have HRD : Hid (∀ (W : World) (k : Int), k ≤ 1000000 → DecS W w.heap.size false S1 → Calls Tryz.prog 96 #[.pointer (some ⟨w.heap.size, 0, none⟩), .int .i64 k] W (DecEnd W w.heap.size false (roundI S1 k))) := fun W k hk h => roundI_any W w.heap.size false S1 k hk hs1'.1.2.1 (by omega) (by omega) h
          have hbd2 := fun k => roundI_bd S1 k hs1'.1.1 hs1'.1.2.1 (-400) 360 hs1'.2.1 hs1'.2.2 (by decide) (by decide)
          have hS2b : S2.nd ≤ 800 ∧ -400 ≤ S2.dp ∧ S2.dp ≤ 361 := by rw [hs2]; exact hbd2 _
          have hdp1 : -400 ≤ S1.dp ∧ S1.dp ≤ 360 := hs1'.2
          have HS2 := Lib.hid hs2
          have HT2 := Lib.hid hT2
          clear HT HT1 hok0 hdp0 hs1 hs1' hT2 hs2 hbd2 eS1 eS2 n1 n2 n3 n4 hL1 hL2 hL3
          go_upto_region 79 with (first | (go_at_call 94; refine (HAS.out _).mono ?_; rintro e w2 ⟨rfl, hd2, hb2⟩) | (go_at_call 95; refine (HSH.out w2 ⟨w, HLG.out, hb2.below_of ((below_drewN (Below.refl _ _) _).alloc (Nat.le_refl _) _) (Nat.le_refl _) (by simp), Nat.le_refl _⟩ hd2).mono ?_; rintro e w3 ⟨rfl, hd3, hb3⟩))
          have HD3 := Lib.hid hd3
          have HB3 := Lib.hid hb3
          have hbel3 : Below w.heap.size w w3 := hb3.below_of (hb2.below_of ((below_drewN (Below.refl _ _) _).alloc (Nat.le_refl _) _) (Nat.le_refl _) (by simp)) (Nat.le_refl _) (by have := hb2.size; simp at this; omega)
          have hw3s : w.heap.size < w3.heap.size := by have h2 := hb2.size; have h3 := hb3.size; simp at h2; omega
          have HBEL3 := Lib.hid hbel3
          clear hd2 hb2 hd3 hb3 hbel3 HAS HSH
          go_upto_block 3 with fail
          go_cut [3] (fun pv wx => pv = .int .i64 p' ∧ Hid (DecS wx w.heap.size false S2) ∧ Hid (OnlyB w.heap.size w3 wx))
          case first =>
            as_aux_lemma =>
              have c801 : w3.cell? ⟨w.heap.size, 801, none⟩ = some (.int .i64 S1.dp) := by
                obtain ⟨f3, hF3, _⟩ := HD3.out
                exact hF3.dp
              have b0 : (fmt = 103 ∨ fmt = 71) → (p' == 0) = false := fun h => beq_eq_false_iff_ne.2 (hpg h)
              rcases hfmt with rfl | rfl | rfl | rfl | rfl
              · have e2 : S2 = roundI S1 (p' + 1) := HS2.out
                have HR := Lib.hid (HRD.out w3 (p' + 1) (by omega) HD3.out)
                rw [← e2] at HR
                clear e2 HS2 HT2 hS2b b0 hpg
                go_wp2_with (go_at_call 96; refine HR.out.mono ?_; rintro e w4 ⟨rfl, hd4, hb4⟩)
                go_meet
                exact ⟨rfl, hd4, hb4⟩
              · have e2 : S2 = roundI S1 (p' + 1) := HS2.out
                have HR := Lib.hid (HRD.out w3 (p' + 1) (by omega) HD3.out)
                rw [← e2] at HR
                clear e2 HS2 HT2 hS2b b0 hpg
                go_wp2_with (go_at_call 96; refine HR.out.mono ?_; rintro e w4 ⟨rfl, hd4, hb4⟩)
                go_meet
                exact ⟨rfl, hd4, hb4⟩
              · have e2 : S2 = roundI S1 (S1.dp + p') := HS2.out
                have HR := Lib.hid (HRD.out w3 (S1.dp + p') (by omega) HD3.out)
                rw [← e2] at HR
                obtain ⟨dp1, edp⟩ : ∃ dp1, S1.dp = dp1 := ⟨_, rfl⟩
                rw [edp] at HR c801 hdp1
                clear e2 HS2 HT2 hS2b b0 hpg edp
                go_wp2_with (go_at_call 96; refine HR.out.mono ?_; rintro e w4 ⟨rfl, hd4, hb4⟩)
                go_meet
                exact ⟨rfl, hd4, hb4⟩
              · have e2 : S2 = roundI S1 p' := HS2.out
                have HR := Lib.hid (HRD.out w3 p' (by omega) HD3.out)
                rw [← e2] at HR
                have b0' := b0 (.inl rfl)
                clear e2 HS2 HT2 hS2b b0 hpg
                go_wp2_with (go_at_call 96; refine HR.out.mono ?_; rintro e w4 ⟨rfl, hd4, hb4⟩)
                go_meet
                exact ⟨rfl, hd4, hb4⟩
              · have e2 : S2 = roundI S1 p' := HS2.out
                have HR := Lib.hid (HRD.out w3 p' (by omega) HD3.out)
                rw [← e2] at HR
                have b0' := b0 (.inr rfl)
                clear e2 HS2 HT2 hS2b b0 hpg
                go_wp2_with (go_at_call 96; refine HR.out.mono ?_; rintro e w4 ⟨rfl, hd4, hb4⟩)
                go_meet
                exact ⟨rfl, hd4, hb4⟩
          case rest =>
            obtain ⟨rfl, HD4, HB4⟩ := hcut
            have hbel : Below w.heap.size w wc := HB4.out.below_of HBEL3.out (Nat.le_refl _) (Nat.le_of_lt hw3s)
            obtain ⟨f4, hF4, hg4⟩ := HD4.out
            have c801 : wc.cell? ⟨w.heap.size, 801, none⟩ = some (.int .i64 S2.dp) := hF4.dp
            have c800 : wc.cell? ⟨w.heap.size, 800, none⟩ = some (.int .i64 S2.nd) := hF4.nd
            have hrow4 : RowAt wc 5 v bd (u8s []) := hroW.kept (hbel.block bd hbdlt)
            have hsrc : digSrc wc bd (.slice (some ⟨w.heap.size, 0, none⟩) 800 800) (dgf S2.M S2.nd) S2.nd S2.dp := .inr ⟨w.heap.size, 800, 800, rfl, hS2b.1, by decide, by decide, by decide, by omega, fun i hi => by
              have h1 := hF4.d i (by omega)
              rw [hg4.2 i hi] at h1; exact h1⟩
            have hFM : ∀ m : Nat, Calls Tryz.prog 87 #[v, .bool ng, .slice (some ⟨w.heap.size, 0, none⟩) 800 800, .int .i64 S2.dp, .int .i64 S2.nd, .int .i64 p', .int .u8 fmt, .bool false] (wc.drewN m) fun e w' => ∃ v', e = .returned v' ∧ App (wc.drewN m) 5 bd v' w' T := fun m => by
              have h := fmtEFG_any (wc.drewN m) bd v _ [] ng false (dgf S2.M S2.nd) S2.nd S2.dp p' fmt (hrow4.kept rfl) (by decide) hsrc (dgf_lt _ _) hfmt (by omega) (by omega) (by omega) hp'.1 hp'.2
              rw [← HT2.out] at h
              exact h
            have HFM := Lib.hid hFM
            obtain ⟨dp2, edp⟩ : ∃ dp2, S2.dp = dp2 := ⟨_, rfl⟩
            obtain ⟨nd2, end2⟩ : ∃ nd2, S2.nd = nd2 := ⟨_, rfl⟩
            rw [edp] at HFM c801
            rw [end2] at HFM c800
            have HBEL := Lib.hid hbel
            clear hrow4 hsrc hFM hg4 hF4 HD4 HB4 HT2 HS2 hS2b edp end2 hbel HRD
            as_aux_lemma =>
              go_upto_region 90 with fail
              go_still_tail 16, (by kernel_rfl)
              change wpList _ _ _ _ _ wc.drew
              go_wp2_with (go_at_call 87; refine (HFM.out 1).mono ?_; rintro e w5 ⟨v', rfl, hA⟩)
              go_ret
              exact ⟨v', rfl, appUnder (m := 1) HBEL.out hA⟩

end Go.Proofs.YtdencljnbilchaaGreatDoor
