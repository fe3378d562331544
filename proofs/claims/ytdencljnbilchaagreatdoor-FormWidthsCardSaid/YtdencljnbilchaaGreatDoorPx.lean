/- Plain: bounds of what decimal.set reads. No program here. -/
import Derived.Test.YtdencljnbilchaaGreatDoorHc
import Derived.Test.YtdencljnbilchaaGreatDoorWi

namespace Go.Proofs.YtdencljnbilchaaGreatDoor

theorem eLoop_val : ∀ (l : List UInt8) (e : Nat), e ≤ 100000 → (eLoop e l).1 ≤ 100000
  | [], e, h => h
  | c :: r, e, h => by
    rw [eLoop]
    split
    · rename_i hd
      have := dig_bd hd
      refine eLoop_val r _ ?_
      split <;> omega
    · exact h

theorem sdR_bd (l : List UInt8) (hl : l.length ≤ 281474976710656) (d : DS) (h : sdR l = some d) :
    d.nd ≤ 800 ∧ (d.nd = 0 ∨ d.ok) ∧ -1152921504606846976 ≤ d.dp ∧ d.dp ≤ 1152921504606846976 := by
  unfold sdR at h
  split at h
  · cases h
  · have h3 := sdLoop_ok (l.drop (sgnN l)) .init 0 SD.init_ok
    have h2 : (sdLoop .init (l.drop (sgnN l))).2 ≤ l.length := by
      have : ∀ (l : List UInt8) (st : SD), (sdLoop st l).2 ≤ l.length := by
        intro l
        induction l with
        | nil => intro st; exact Nat.le_refl _
        | cons c r ih =>
          intro st
          rw [sdLoop]
          cases hs : sdStep st c with
          | none => simp
          | some st' => have := ih st'; simp only [List.length_cons]; omega
      have := this (l.drop (sgnN l)) .init
      rw [List.length_drop] at this; omega
    generalize sdLoop .init (l.drop (sgnN l)) = R at h h2 h3
    generalize sgnN l = g at h
    obtain ⟨a1, a2, a3, a4, a5, a6⟩ := h3
    have hc : R.1.nd = 0 ∨ (1 ≤ R.1.nd ∧ R.1.nd ≤ 800 ∧ 10 ^ (R.1.nd - 1) ≤ R.1.M ∧ R.1.M < 10 ^ R.1.nd) := by
      rcases a2 with h | h
      · exact .inl h
      · by_cases h0 : R.1.nd = 0
        · exact .inl h0
        · exact .inr ⟨by omega, a3, h, a1⟩
    have done : ∀ (dp : Int) (i : Nat), -300000000000000 ≤ dp → dp ≤ 300000000000000 → sdDone l R.1 dp i = some d → d.nd ≤ 800 ∧ (d.nd = 0 ∨ d.ok) ∧ -1152921504606846976 ≤ d.dp ∧ d.dp ≤ 1152921504606846976 := by
      intro dp i b1 b2 hd
      unfold sdDone at hd
      split at hd
      · cases hd; exact ⟨a3, hc, by show _ ≤ dp; omega, by show dp ≤ _; omega⟩
      · cases hd
    have b1 : -281474976710656 ≤ (if R.1.sd = true then R.1.dp else (R.1.nd : Int)) := by split <;> omega
    have b2 : (if R.1.sd = true then R.1.dp else (R.1.nd : Int)) ≤ 281474976710656 := by split <;> omega
    unfold sdTail at h
    split at h
    · cases h
    · split at h
      · cases h
      · split at h
        · unfold sdExp at h
          split at h
          · cases h
          · split at h
            · cases h
            · refine done _ _ ?_ ?_ h
              all_goals
                have := eLoop_val (l.drop (g + R.2 + 1 + sgnN (l.drop (g + R.2 + 1)))) 0 (by omega)
                generalize (eLoop 0 (l.drop (g + R.2 + 1 + sgnN (l.drop (g + R.2 + 1))))).1 = E at this
                generalize (if R.1.sd = true then R.1.dp else (R.1.nd : Int)) = D at b1 b2
                split <;> omega
        · exact done _ _ (by omega) (by omega) h

end Go.Proofs.YtdencljnbilchaaGreatDoor
