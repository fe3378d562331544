/- The walks of num.begin, num.numeral. -/
import Derived.Test.YtjncgedjdmgpfaaGreatDoorWa
import Derived.Test.YtjncgedjdmgpfaaGreatDoorFb
import Derived.Deep.DeepCutAuto

namespace Go.Proofs.YtjncgedjdmgpfaaGreatDoor
open Go.RowKit

theorem digits_of (s : ByteArray) (i d : Nat) (a : Int) (ha : a = (i : Int)) (w : World) (hs : s.size ≤ maxLen) (hi : i ≤ s.size) (hd : i + nWhile isDig (s.data.toList.drop i) = d) :
    Calls Tryz.prog 39 #[.string s, .int .i64 a] w fun e w' => e = .returned (.int .i64 d) ∧ w = w' := by
  subst ha; subst hd; exact digits_any s i w hs hi

def NumEnd (l : List UInt8) (i : Nat) (m : Nat) (wb : Bool) : Prop := i ≤ m ∧ m ≤ l.length ∧ (wb = false → mantN (l.drop i) = 0) ∧ (wb = true → i < m ∧ mantN (l.drop i) = m - i)

theorem numEnd_no (l : List UInt8) (i m : Nat) (h : NumEnd l i m false) : i + numeralN (l.drop i) = i := by
  rw [numeralN, if_pos (h.2.2.1 rfl)]; rfl
theorem numEnd_exp (l : List UInt8) (i m : Nat) (h : NumEnd l i m true) : i + numeralN (l.drop i) = m + expN (l.drop m) := by
  obtain ⟨h1, h2⟩ := h.2.2.2 rfl
  rw [numeralN, h2, if_neg (by omega), List.drop_drop, show i + (m - i) = m by omega]; omega

theorem exp_none (l : List UInt8) (m : Nat) (h : ¬ ∃ h : m < l.length, l[m] = 101 ∨ l[m] = 69) : expN (l.drop m) = 0 := by
  rw [expN, if_neg]
  intro hh
  apply h
  by_cases hm : m < l.length
  · rw [drop_head l m hm] at hh
    exact ⟨hm, by simpa using hh⟩
  · rw [drop_head_end l m (by omega)] at hh; simp at hh
theorem exp_some (l : List UInt8) (m : Nat) (h : m < l.length) (he : l[m] = 101 ∨ l[m] = 69) :
    expN (l.drop m) = if nWhile isDig (l.drop (m + 1 + sgnN (l.drop (m + 1)))) = 0 then 0 else 1 + sgnN (l.drop (m + 1)) + nWhile isDig (l.drop (m + 1 + sgnN (l.drop (m + 1)))) := by
  rw [expN, drop_head l m h, if_pos (by rcases he with he | he <;> simp [he])]
  simp only [List.drop_drop, Nat.add_assoc]
theorem sgn_none (l : List UInt8) (m : Nat) (h : ¬ ∃ h : m < l.length, l[m] = 43 ∨ l[m] = 45) : sgnN (l.drop m) = 0 := by
  rw [sgnN, if_neg]
  intro hh
  apply h
  by_cases hm : m < l.length
  · rw [drop_head l m hm] at hh
    exact ⟨hm, by simpa using hh⟩
  · rw [drop_head_end l m (by omega)] at hh; simp at hh
theorem sgn_some (l : List UInt8) (m : Nat) (h : m < l.length) (he : l[m] = 43 ∨ l[m] = 45) : sgnN (l.drop m) = 1 := by
  rw [sgnN, drop_head l m h, if_pos (by rcases he with he | he <;> simp [he])]

theorem mant_end (l : List UInt8) (i d : Nat) (hi : i ≤ l.length) (hd : i + nWhile isDig (l.drop i) = d) (h : ¬ ∃ h : d < l.length, l[d] = 46) : NumEnd l i d (decide (i < d)) := by
  have hm : mantN (l.drop i) = d - i := by
    rw [mantN, List.drop_drop, hd, if_neg]
    · omega
    · intro hh
      apply h
      by_cases hl : d < l.length
      · rw [drop_head l d hl] at hh; exact ⟨hl, by simpa using hh⟩
      · rw [drop_head_end l d (by omega)] at hh; cases hh
  have := nWhile_le isDig (l.drop i)
  simp only [List.length_drop] at this
  refine ⟨by omega, by omega, fun h => ?_, fun h => ?_⟩
  · simp at h; omega
  · simp at h; exact ⟨h, hm⟩
theorem mant_dot (l : List UInt8) (i d p : Nat) (hd : i + nWhile isDig (l.drop i) = d) (h : d < l.length) (h46 : l[d] = 46) (hp : d + 1 + nWhile isDig (l.drop (d + 1)) = p) :
    (i < d ∨ d + 1 < p → NumEnd l i p true) ∧ (¬ i < d → ¬ d + 1 < p → NumEnd l i d false) := by
  have h1 := nWhile_le isDig (l.drop (d + 1))
  simp only [List.length_drop] at h1
  have hm : mantN (l.drop i) = if nWhile isDig (l.drop i) = 0 ∧ nWhile isDig (l.drop (d + 1)) = 0 then 0 else nWhile isDig (l.drop i) + 1 + nWhile isDig (l.drop (d + 1)) := by
    rw [mantN, List.drop_drop, hd, drop_head l d h, h46, if_pos rfl, List.drop_drop, ← Nat.add_assoc, hd]
  constructor
  · intro hor
    refine ⟨by omega, by omega, fun h => by simp at h, fun _ => ⟨by omega, ?_⟩⟩
    rw [hm, if_neg (by omega)]; omega
  · intro h2 h3
    refine ⟨by omega, by omega, fun _ => ?_, fun h => by simp at h⟩
    rw [hm, if_pos (by omega)]

set_option maxRecDepth 100000 in
set_option maxHeartbeats 3200000 in
theorem numeral_any (s : ByteArray) (i : Nat) (w : World) (hs : s.size ≤ maxLen) (hi : i ≤ s.size) : Calls Tryz.prog 24 #[.string s, .int .i64 i] w fun e w' => e = .returned (.int .i64 (i + numeralN (s.data.toList.drop i) : Nat)) ∧ w = w' := by
  obtain ⟨d, hd⟩ : ∃ d, i + nWhile isDig (s.data.toList.drop i) = d := ⟨_, rfl⟩
  have hil : i ≤ s.data.toList.length := by simpa using hi
  have hdl : d ≤ s.size := by have := nWhile_le isDig (s.data.toList.drop i); simp at this; omega
  have hid : i ≤ d := by omega
  have HD := Lib.hid (fun W => digits_of s i d i rfl W hs hi hd)
  have HM := Lib.hid (mant_end s.data.toList i d hil hd)
  have HS := Lib.hid hs
  have HP := Lib.hid (fun p h h46 hp => mant_dot s.data.toList i d p hd h h46 hp)
  clear hd
  unfold maxLen at hs
  by_cases hdot : ∃ h : d < s.size, s[d] = 46
  · obtain ⟨hds, h46⟩ := hdot
    obtain ⟨p, hp⟩ : ∃ p, d + 1 + nWhile isDig (s.data.toList.drop (d + 1)) = p := ⟨_, rfl⟩
    have HDP := Lib.hid (fun W => digits_of s (d + 1) p ((d : Int) + 1) (by omega) W HS.out (by omega) hp)
    have HPP := Lib.hid (HP.out p (by simpa using hds) h46 hp)
    have b46 : ((s[d].toNat : Int) == 46) = true := beq_t (d := 46) h46
    have hdp : d + 1 ≤ p := by omega
    have hpl : p ≤ s.size := by have := nWhile_le isDig (s.data.toList.drop (d + 1)); simp at this; omega
    clear hp h46
    by_cases hor : i < d ∨ d + 1 < p
    · have HNE := Lib.hid (HPP.out.1 hor)
      go_enter Tryz.func24, Tryz.ntmps24
      go_upto_if 25 with (go_at_call 39; refine (HD.out _).mono ?_; rintro e w' ⟨rfl, rfl⟩)
      go_cut [5, 6] (fun a wh wx => a = .int .i64 p ∧ wh = .bool true ∧ wx = w)
      case first =>
        by_cases h1 : i < d
        · go_wp2_with (go_at_call 39; refine (HDP.out _).mono ?_; rintro e w' ⟨rfl, rfl⟩)
          go_meet
          exact ⟨rfl, rfl, rfl⟩
        · have h2 : d + 1 < p := hor.resolve_left h1
          go_wp2_with (go_at_call 39; refine (HDP.out _).mono ?_; rintro e w' ⟨rfl, rfl⟩)
          go_meet
          exact ⟨rfl, rfl, rfl⟩
      case rest =>
        obtain ⟨rfl, rfl, rfl⟩ := hcut
        generalize hm : p = m at *
        have him : i < m := by omega
        have HEXP := Lib.hid (numEnd_exp _ _ _ HNE.out)
        by_cases he : ∃ h : m < s.size, s[m] = 101 ∨ s[m] = 69
        · obtain ⟨hms, he⟩ := he
          have HX := Lib.hid (exp_some s.data.toList m (by simpa using hms) he)
          have hb : ((s[m].toNat : Int) == 101) = true ∨ (((s[m].toNat : Int) == 101) = false ∧ ((s[m].toNat : Int) == 69) = true) := by
            rcases he with he | he
            · exact .inl (beq_t (d := 101) he)
            · exact .inr ⟨beq_f (d := 101) (by rw [he]; decide), beq_t (d := 69) he⟩
          have HB := Lib.hid hb
          clear he hb
          by_cases hg : ∃ h : m + 1 < s.size, s[m + 1] = 43 ∨ s[m + 1] = 45
          · obtain ⟨hms2, hg⟩ := hg
            have HG := Lib.hid (sgn_some s.data.toList (m + 1) (by simpa using hms2) hg)
            have hb2 : ((s[m + 1].toNat : Int) == 43) = true ∨ (((s[m + 1].toNat : Int) == 43) = false ∧ ((s[m + 1].toNat : Int) == 45) = true) := by
              rcases hg with hg | hg
              · exact .inl (beq_t (d := 43) hg)
              · exact .inr ⟨beq_f (d := 43) (by rw [hg]; decide), beq_t (d := 45) hg⟩
            have HB2 := Lib.hid hb2
            clear hg hb2
            obtain ⟨n, hn⟩ : ∃ n, m + 1 + 1 + nWhile isDig (s.data.toList.drop (m + 1 + 1)) = n := ⟨_, rfl⟩
            have HDE := Lib.hid (fun W => digits_of s (m + 1 + 1) n ((m : Int) + 1 + 1) (by omega) W HS.out (by omega) hn)
            have HF : Hid (i + numeralN (s.data.toList.drop i) = if m + 1 + 1 < n then n else m) := by
              unfold Hid
              rw [HEXP.out, HX.out, HG.out]
              by_cases h0 : nWhile isDig (s.data.toList.drop (m + 1 + 1)) = 0
              · rw [if_pos h0, if_neg (by omega)]; omega
              · rw [if_neg h0, if_pos (by omega)]; omega
            have hn2 : m + 1 + 1 ≤ n := by omega
            have hn3 : n ≤ s.size := by have := nWhile_le isDig (s.data.toList.drop (m + 1 + 1)); simp at this; omega
            clear hn
            by_cases hlt : m + 1 + 1 < n
            · have HF2 : Hid (i + numeralN (s.data.toList.drop i) = n) := by rw [HF.out, if_pos hlt]; exact rfl
              rcases HB.out with hb | ⟨hb, hb'⟩ <;> rcases HB2.out with hb2 | ⟨hb2, hb2'⟩ <;>
              · go_wp2_with (first | (go_at_call 39; (with_reducible refine (HDE.out _).mono ?_); rintro e w' ⟨rfl, rfl⟩))
                all_goals (go_ret; exact ⟨ret_int (by rw [HF2.out]), rfl⟩)
            · have HF2 : Hid (i + numeralN (s.data.toList.drop i) = m) := by rw [HF.out, if_neg hlt]; exact rfl
              rcases HB.out with hb | ⟨hb, hb'⟩ <;> rcases HB2.out with hb2 | ⟨hb2, hb2'⟩ <;>
              · go_wp2_with (first | (go_at_call 39; (with_reducible refine (HDE.out _).mono ?_); rintro e w' ⟨rfl, rfl⟩))
                all_goals (go_ret; exact ⟨ret_int (by rw [HF2.out]), rfl⟩)
          · have HG := Lib.hid (sgn_none s.data.toList (m + 1) (fun ⟨h, e⟩ => hg ⟨by simpa using h, e⟩))
            have hb2 : ¬ m + 1 < s.size ∨ (∃ h : m + 1 < s.size, ((s[m + 1].toNat : Int) == 43) = false ∧ ((s[m + 1].toNat : Int) == 45) = false) := by
              by_cases h : m + 1 < s.size
              · exact .inr ⟨h, beq_f (d := 43) (fun e => hg ⟨h, .inl e⟩), beq_f (d := 45) (fun e => hg ⟨h, .inr e⟩)⟩
              · exact .inl h
            have HB2 := Lib.hid hb2
            clear hg hb2
            obtain ⟨n, hn⟩ : ∃ n, m + 1 + nWhile isDig (s.data.toList.drop (m + 1)) = n := ⟨_, rfl⟩
            have HDE := Lib.hid (fun W => digits_of s (m + 1) n ((m : Int) + 1) (by omega) W HS.out (by omega) hn)
            have HF : Hid (i + numeralN (s.data.toList.drop i) = if m + 1 < n then n else m) := by
              unfold Hid
              rw [HEXP.out, HX.out, HG.out, Nat.add_zero]
              by_cases h0 : nWhile isDig (s.data.toList.drop (m + 1)) = 0
              · rw [if_pos h0, if_neg (by omega)]; omega
              · rw [if_neg h0, if_pos (by omega)]; omega
            have hn2 : m + 1 ≤ n := by omega
            have hn3 : n ≤ s.size := by have := nWhile_le isDig (s.data.toList.drop (m + 1)); simp at this; omega
            clear hn
            by_cases hlt : m + 1 < n
            · have HF2 : Hid (i + numeralN (s.data.toList.drop i) = n) := by rw [HF.out, if_pos hlt]; exact rfl
              rcases HB.out with hb | ⟨hb, hb'⟩ <;> rcases HB2.out with hb2 | ⟨hms2, hb2, hb2'⟩ <;>
              · go_wp2_with (first | (go_at_call 39; (with_reducible refine (HDE.out _).mono ?_); rintro e w' ⟨rfl, rfl⟩))
                all_goals (go_ret; exact ⟨ret_int (by rw [HF2.out]), rfl⟩)
            · have HF2 : Hid (i + numeralN (s.data.toList.drop i) = m) := by rw [HF.out, if_neg hlt]; exact rfl
              rcases HB.out with hb | ⟨hb, hb'⟩ <;> rcases HB2.out with hb2 | ⟨hms2, hb2, hb2'⟩ <;>
              · go_wp2_with (first | (go_at_call 39; (with_reducible refine (HDE.out _).mono ?_); rintro e w' ⟨rfl, rfl⟩))
                all_goals (go_ret; exact ⟨ret_int (by rw [HF2.out]), rfl⟩)
        · have HX := Lib.hid (exp_none s.data.toList m (fun ⟨h, e⟩ => he ⟨by simpa using h, e⟩))
          have HF2 : Hid (i + numeralN (s.data.toList.drop i) = m) := by rw [HEXP.out, HX.out]; exact rfl
          have hb : ¬ m < s.size ∨ (∃ h : m < s.size, ((s[m].toNat : Int) == 101) = false ∧ ((s[m].toNat : Int) == 69) = false) := by
            by_cases h : m < s.size
            · exact .inr ⟨h, beq_f (d := 101) (fun e => he ⟨h, .inl e⟩), beq_f (d := 69) (fun e => he ⟨h, .inr e⟩)⟩
            · exact .inl h
          have HB := Lib.hid hb
          clear he hb
          rcases HB.out with hb | ⟨hms, hb, hb'⟩ <;>
          · go_wp2
            all_goals (go_ret; exact ⟨ret_int (by rw [HF2.out]), rfl⟩)
    · have HNE := Lib.hid (numEnd_no _ _ _ (HPP.out.2 (by omega) (by omega)))
      obtain ⟨h1, h2⟩ : ¬ i < d ∧ ¬ d + 1 < p := ⟨by omega, by omega⟩
      clear hor
      go_enter Tryz.func24, Tryz.ntmps24
      go_upto_if 25 with (go_at_call 39; refine (HD.out _).mono ?_; rintro e w' ⟨rfl, rfl⟩)
      go_wp2_with (go_at_call 39; refine (HDP.out _).mono ?_; rintro e w' ⟨rfl, rfl⟩)
      go_ret
      exact ⟨ret_int (by rw [HNE.out]), rfl⟩
  · obtain ⟨m, rfl⟩ : ∃ m, m = d := ⟨d, rfl⟩
    have HNE := Lib.hid (HM.out (fun ⟨h, e⟩ => hdot ⟨by simpa using h, e⟩))
    have hb46 : ¬ m < s.size ∨ (∃ h : m < s.size, ((s[m].toNat : Int) == 46) = false) := by
      by_cases h : m < s.size
      · exact .inr ⟨h, beq_f (d := 46) (fun e => hdot ⟨h, e⟩)⟩
      · exact .inl h
    have HB46 := Lib.hid hb46
    clear hdot hb46
    by_cases h1 : i < m
    · rw [decide_eq_true h1] at HNE
      rcases HB46.out with h46 | ⟨hds, h46⟩
      · have HX := Lib.hid (exp_none s.data.toList m (fun ⟨h, _⟩ => h46 (by simpa using h)))
        have HF2 : Hid (i + numeralN (s.data.toList.drop i) = m) := by rw [numEnd_exp _ _ _ HNE.out, HX.out]; exact rfl
        go_enter Tryz.func24, Tryz.ntmps24
        go_wp2_with (go_at_call 39; refine (HD.out _).mono ?_; rintro e w' ⟨rfl, rfl⟩)
        all_goals (go_ret; exact ⟨ret_int (by rw [HF2.out]), rfl⟩)
      · go_enter Tryz.func24, Tryz.ntmps24
        go_upto_if 25 with (go_at_call 39; refine (HD.out _).mono ?_; rintro e w' ⟨rfl, rfl⟩)
        have HEXP := Lib.hid (numEnd_exp _ _ _ HNE.out)
        by_cases he : ∃ h : m < s.size, s[m] = 101 ∨ s[m] = 69
        · obtain ⟨hms, he⟩ := he
          have HX := Lib.hid (exp_some s.data.toList m (by simpa using hms) he)
          have hb : ((s[m].toNat : Int) == 101) = true ∨ (((s[m].toNat : Int) == 101) = false ∧ ((s[m].toNat : Int) == 69) = true) := by
            rcases he with he | he
            · exact .inl (beq_t (d := 101) he)
            · exact .inr ⟨beq_f (d := 101) (by rw [he]; decide), beq_t (d := 69) he⟩
          have HB := Lib.hid hb
          clear he hb
          by_cases hg : ∃ h : m + 1 < s.size, s[m + 1] = 43 ∨ s[m + 1] = 45
          · obtain ⟨hms2, hg⟩ := hg
            have HG := Lib.hid (sgn_some s.data.toList (m + 1) (by simpa using hms2) hg)
            have hb2 : ((s[m + 1].toNat : Int) == 43) = true ∨ (((s[m + 1].toNat : Int) == 43) = false ∧ ((s[m + 1].toNat : Int) == 45) = true) := by
              rcases hg with hg | hg
              · exact .inl (beq_t (d := 43) hg)
              · exact .inr ⟨beq_f (d := 43) (by rw [hg]; decide), beq_t (d := 45) hg⟩
            have HB2 := Lib.hid hb2
            clear hg hb2
            obtain ⟨n, hn⟩ : ∃ n, m + 1 + 1 + nWhile isDig (s.data.toList.drop (m + 1 + 1)) = n := ⟨_, rfl⟩
            have HDE := Lib.hid (fun W => digits_of s (m + 1 + 1) n ((m : Int) + 1 + 1) (by omega) W HS.out (by omega) hn)
            have HF : Hid (i + numeralN (s.data.toList.drop i) = if m + 1 + 1 < n then n else m) := by
              unfold Hid
              rw [HEXP.out, HX.out, HG.out]
              by_cases h0 : nWhile isDig (s.data.toList.drop (m + 1 + 1)) = 0
              · rw [if_pos h0, if_neg (by omega)]; omega
              · rw [if_neg h0, if_pos (by omega)]; omega
            have hn2 : m + 1 + 1 ≤ n := by omega
            have hn3 : n ≤ s.size := by have := nWhile_le isDig (s.data.toList.drop (m + 1 + 1)); simp at this; omega
            clear hn
            by_cases hlt : m + 1 + 1 < n
            · have HF2 : Hid (i + numeralN (s.data.toList.drop i) = n) := by rw [HF.out, if_pos hlt]; exact rfl
              rcases HB.out with hb | ⟨hb, hb'⟩ <;> rcases HB2.out with hb2 | ⟨hb2, hb2'⟩ <;>
              · go_wp2_with (first | (go_at_call 39; (with_reducible refine (HDE.out _).mono ?_); rintro e w' ⟨rfl, rfl⟩))
                all_goals (go_ret; exact ⟨ret_int (by rw [HF2.out]), rfl⟩)
            · have HF2 : Hid (i + numeralN (s.data.toList.drop i) = m) := by rw [HF.out, if_neg hlt]; exact rfl
              rcases HB.out with hb | ⟨hb, hb'⟩ <;> rcases HB2.out with hb2 | ⟨hb2, hb2'⟩ <;>
              · go_wp2_with (first | (go_at_call 39; (with_reducible refine (HDE.out _).mono ?_); rintro e w' ⟨rfl, rfl⟩))
                all_goals (go_ret; exact ⟨ret_int (by rw [HF2.out]), rfl⟩)
          · have HG := Lib.hid (sgn_none s.data.toList (m + 1) (fun ⟨h, e⟩ => hg ⟨by simpa using h, e⟩))
            have hb2 : ¬ m + 1 < s.size ∨ (∃ h : m + 1 < s.size, ((s[m + 1].toNat : Int) == 43) = false ∧ ((s[m + 1].toNat : Int) == 45) = false) := by
              by_cases h : m + 1 < s.size
              · exact .inr ⟨h, beq_f (d := 43) (fun e => hg ⟨h, .inl e⟩), beq_f (d := 45) (fun e => hg ⟨h, .inr e⟩)⟩
              · exact .inl h
            have HB2 := Lib.hid hb2
            clear hg hb2
            obtain ⟨n, hn⟩ : ∃ n, m + 1 + nWhile isDig (s.data.toList.drop (m + 1)) = n := ⟨_, rfl⟩
            have HDE := Lib.hid (fun W => digits_of s (m + 1) n ((m : Int) + 1) (by omega) W HS.out (by omega) hn)
            have HF : Hid (i + numeralN (s.data.toList.drop i) = if m + 1 < n then n else m) := by
              unfold Hid
              rw [HEXP.out, HX.out, HG.out, Nat.add_zero]
              by_cases h0 : nWhile isDig (s.data.toList.drop (m + 1)) = 0
              · rw [if_pos h0, if_neg (by omega)]; omega
              · rw [if_neg h0, if_pos (by omega)]; omega
            have hn2 : m + 1 ≤ n := by omega
            have hn3 : n ≤ s.size := by have := nWhile_le isDig (s.data.toList.drop (m + 1)); simp at this; omega
            clear hn
            by_cases hlt : m + 1 < n
            · have HF2 : Hid (i + numeralN (s.data.toList.drop i) = n) := by rw [HF.out, if_pos hlt]; exact rfl
              rcases HB.out with hb | ⟨hb, hb'⟩ <;> rcases HB2.out with hb2 | ⟨hms2, hb2, hb2'⟩ <;>
              · go_wp2_with (first | (go_at_call 39; (with_reducible refine (HDE.out _).mono ?_); rintro e w' ⟨rfl, rfl⟩))
                all_goals (go_ret; exact ⟨ret_int (by rw [HF2.out]), rfl⟩)
            · have HF2 : Hid (i + numeralN (s.data.toList.drop i) = m) := by rw [HF.out, if_neg hlt]; exact rfl
              rcases HB.out with hb | ⟨hb, hb'⟩ <;> rcases HB2.out with hb2 | ⟨hms2, hb2, hb2'⟩ <;>
              · go_wp2_with (first | (go_at_call 39; (with_reducible refine (HDE.out _).mono ?_); rintro e w' ⟨rfl, rfl⟩))
                all_goals (go_ret; exact ⟨ret_int (by rw [HF2.out]), rfl⟩)
        · have HX := Lib.hid (exp_none s.data.toList m (fun ⟨h, e⟩ => he ⟨by simpa using h, e⟩))
          have HF2 : Hid (i + numeralN (s.data.toList.drop i) = m) := by rw [HEXP.out, HX.out]; exact rfl
          have hb : ¬ m < s.size ∨ (∃ h : m < s.size, ((s[m].toNat : Int) == 101) = false ∧ ((s[m].toNat : Int) == 69) = false) := by
            by_cases h : m < s.size
            · exact .inr ⟨h, beq_f (d := 101) (fun e => he ⟨h, .inl e⟩), beq_f (d := 69) (fun e => he ⟨h, .inr e⟩)⟩
            · exact .inl h
          have HB := Lib.hid hb
          clear he hb
          rcases HB.out with hb | ⟨hms, hb, hb'⟩ <;>
          · go_wp2
            all_goals (go_ret; exact ⟨ret_int (by rw [HF2.out]), rfl⟩)
    · rw [decide_eq_false h1] at HNE
      have HN2 := Lib.hid (numEnd_no _ _ _ HNE.out)
      rcases HB46.out with h46 | ⟨hds, h46⟩ <;>
      · go_enter Tryz.func24, Tryz.ntmps24
        go_wp2_with (go_at_call 39; refine (HD.out _).mono ?_; rintro e w' ⟨rfl, rfl⟩)
        go_ret
        exact ⟨ret_int (by rw [HN2.out]), rfl⟩

end Go.Proofs.YtjncgedjdmgpfaaGreatDoor
