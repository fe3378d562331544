/- The reference's filling of a width, against the spec's. What a conversion that is read obeys. The reference's Format: plain laws of its padding, no walk here. -/
import Derived.Test.YtdencljnbilchaaGreatDoorFl
import Derived.Test.YtdencljnbilchaaGreatDoorVq
import Derived.Test.YtdencljnbilchaaGreatDoorJm
import Derived.Test.YtdencljnbilchaaGreatDoorJl

namespace Go.Proofs.YtdencljnbilchaaGreatDoor

/-- The noughts that the reference lays ahead of the digits. -/
def padZ (left zero nb : Bool) (width : Nat) (sg body : List UInt8) : Nat :=
  if nb = true ∧ zero = true ∧ left = false then width - (sg.length + body.length) else 0

theorem blanksL_len (n : Nat) : (blanksL n).length = n := by unfold blanksL; exact List.length_replicate

theorem fill_ref (left zero nb : Bool) (width : Nat) (sg body : List UInt8) :
    fillT left zero nb width sg body =
      if left = true then (sg ++ (zerosL (padZ left zero nb width sg body) ++ body)) ++ blanksL (width - (sg ++ (zerosL (padZ left zero nb width sg body) ++ body)).length)
      else blanksL (width - (sg ++ (zerosL (padZ left zero nb width sg body) ++ body)).length) ++ (sg ++ (zerosL (padZ left zero nb width sg body) ++ body)) := by
  have z0 : zerosL 0 = [] := rfl
  have b0 : blanksL 0 = [] := rfl
  unfold fillT padZ
  rw [List.length_append, List.length_append, zerosL_len]
  by_cases hw : width ≤ sg.length + body.length
  · rw [if_pos hw]
    have h0 : (if nb = true ∧ zero = true ∧ left = false then width - (sg.length + body.length) else 0) = 0 := by split <;> omega
    rw [h0, z0, show width - (sg.length + (0 + body.length)) = 0 by omega, b0]
    cases left <;> simp
  · rw [if_neg hw]
    cases left
    · rw [if_neg (show ¬ (false = true) by decide), if_neg (show ¬ (false = true) by decide)]
      by_cases h : (zero && nb) = true
      · have h' := Bool.and_eq_true_iff.1 h
        rw [if_pos h, if_pos ⟨h'.2, h'.1, rfl⟩, show width - (sg.length + (width - (sg.length + body.length) + body.length)) = 0 by omega, b0]
        rfl
      · rw [if_neg h, if_neg (fun q => h (by rw [q.1, q.2.1]; rfl)), z0, show sg.length + (0 + body.length) = sg.length + body.length by omega]
        rfl
    · rw [if_pos rfl, if_pos rfl, if_neg (by simp), z0, show sg.length + (0 + body.length) = sg.length + body.length by omega]
      simp

/-- One nought, one blank more. -/
theorem blanksL_succ (n : Nat) : blanksL (n + 1) = 32 :: blanksL n := rfl
theorem blanksL_succ' (n : Nat) : blanksL (n + 1) = blanksL n ++ [32] := by unfold blanksL; exact List.replicate_succ'

end Go.Proofs.YtdencljnbilchaaGreatDoor

namespace Go.Proofs.YtdencljnbilchaaGreatDoor
open Go.RowKit

theorem widthAt_bd {l : List UInt8} {k : Nat} {A : List FArg} {r : Nat × Bool × Nat × List FArg} (h : widthAt l k A = some r) : r.1 ≤ 200 ∧ k ≤ r.2.2.1 ∧ (argsOk A → argsOk r.2.2.2) := by
  unfold widthAt at h
  split at h
  · unfold starW at h
    split at h
    · next g => simp only [Option.map_some, Option.some.injEq] at h; subst h; exact ⟨by show (valT _).natAbs ≤ 200; omega, by show k ≤ k + 1; omega, argsOk.tail⟩
    · simp at h
  · split at h
    · next g => simp only [Option.some.injEq] at h; subst h; exact ⟨g, by show k ≤ k + _; omega, id⟩
    · simp at h

theorem precAt_bd {l : List UInt8} {k : Nat} {A : List FArg} {r : Int × Nat × List FArg} (h : precAt l k A = some r) : r.1 ≤ 200 ∧ k ≤ r.2.1 ∧ (argsOk A → argsOk r.2.2) := by
  unfold precAt at h
  split at h
  · split at h
    · unfold starP at h
      split at h
      · next g => simp only [Option.map_some, Option.some.injEq] at h; subst h; exact ⟨by show max (valT _) (-1) ≤ 200; omega, by show k ≤ k + 2; omega, argsOk.tail⟩
      · simp at h
    · split at h
      · next g => simp only [Option.some.injEq] at h; subst h; exact ⟨by show ((satN _ : Nat) : Int) ≤ 200; omega, by show k ≤ k + 1 + _; omega, id⟩
      · simp at h
  · simp only [Option.some.injEq] at h; subst h; exact ⟨by show (-1 : Int) ≤ 200; omega, Nat.le_refl _, id⟩

theorem readT_bd {l : List UInt8} {k k' : Nat} {A A' : List FArg} {cv : FConv} (h : readT l k A = some (cv, k', A')) : k < k' ∧ k' ≤ l.length ∧ isLetter cv.c = true ∧ cv.prec ≤ 200 ∧ cv.width ≤ 200 ∧ (argsOk A → argsOk A') := by
  unfold readT at h
  simp only [] at h
  split at h
  · simp at h
  · next wd lf k2 A2 e1 =>
    split at h
    · simp at h
    · next pr k3 A3 e2 =>
      split at h
      · simp at h
      · next c e3 =>
        split at h
        · next hc =>
          obtain ⟨w1, w2, w3⟩ := widthAt_bd e1
          obtain ⟨p1, p2, p3⟩ := precAt_bd e2
          have hl := (List.getElem?_eq_some_iff.1 e3).1
          simp only [Option.some.injEq, Prod.mk.injEq] at h
          obtain ⟨rfl, rfl, rfl⟩ := h
          simp only [] at w1 w2 w3 p1 p2 p3
          exact ⟨by omega, by omega, hc, p1, w1, fun q => p3 (w3 q)⟩
        · simp at h

end Go.Proofs.YtdencljnbilchaaGreatDoor

namespace Go.Proofs.YtdencljnbilchaaGreatDoor
open Go.RowKit

theorem partsT_len5 (cv : FConv) (a : FArg) (ha : a.n < 18446744073709551616) (hs : a.s.length ≤ 5000) (hc : isLetter cv.c = true) (hp : cv.prec ≤ 200) : (partsT cv a).1.length ≤ 1 ∧ (partsT cv a).2.1.length ≤ 5000 := by
  have hup : ∀ l : List UInt8, (letterT ⟨a.n, l, a.num⟩).length ≤ 1 := fun l => by
    unfold letterT
    split
    · split <;> simp
    · rw [List.length_take]; omega
  rcases letter_cases hc with h | h | h | h | h | h | h | h | ⟨h, hr⟩
  · have hP : partsT cv a = ([], (if 0 ≤ cv.prec then a.s.take cv.prec.toNat else a.s), false) := by unfold partsT; rw [if_pos h]
    rw [hP]
    refine ⟨by simp, ?_⟩
    show (if 0 ≤ cv.prec then a.s.take cv.prec.toNat else a.s).length ≤ 5000
    split
    · rw [List.length_take]; omega
    · exact hs
  · have hP : partsT cv a = ([], letterT a, false) := by unfold partsT; rw [if_neg (by rw [h]; decide), if_pos h]
    rw [hP]
    exact ⟨by simp, Nat.le_trans (hup a.s) (by omega)⟩
  iterate 6
    · have hw : isWholeC cv.c = true := by rw [h]; decide
      have hP : partsT cv a = ((wholeT uintT cv a.n).1, (wholeT uintT cv a.n).2, finB a.n && decide (cv.prec < 0)) := by unfold partsT; rw [if_neg (by rw [h]; decide), if_neg (by rw [h]; decide), if_pos hw]
      rw [hP]
      have hl := wholeP_len cv a.n ha
      rw [wholeT_of]
      refine ⟨hl.1, ?_⟩
      show (if _ then _ else _ : List UInt8).length ≤ 5000
      split
      · rw [List.length_append, zerosL_len]; omega
      · omega
  · have hP : partsT cv a = ((realT cv a.n).1, (realT cv a.n).2, finB a.n) := by
      unfold partsT isWholeC
      rw [if_neg h.1, if_neg h.2.1, if_neg (by obtain ⟨_, _, n1, n2, n3, n4, n5, n6⟩ := h; simp [n1, n2, n3, n4, n5, n6])]
    rw [hP]
    have hl := realT_len cv hr a.n ha hp
    exact ⟨hl.1, hl.2⟩

/-- Noughts, blanks as texts. -/
def zB (n : Nat) : ByteArray := ⟨(zerosL n).toArray⟩
def bB (n : Nat) : ByteArray := ⟨(blanksL n).toArray⟩
theorem zB_size (n : Nat) : (zB n).size = n := by show (zerosL n).toArray.size = n; rw [List.size_toArray]; exact zerosL_len n
theorem bB_size (n : Nat) : (bB n).size = n := by show (blanksL n).toArray.size = n; rw [List.size_toArray]; exact blanksL_len n
theorem sz_app (a b : ByteArray) : (a ++ b).size = a.size + b.size := by simp
theorem zB_zero : zB 0 = ⟨#[]⟩ := rfl
theorem bB_zero : bB 0 = ⟨#[]⟩ := rfl
theorem zB_step (n : Nat) (t : ByteArray) : (⟨#[48]⟩ : ByteArray) ++ (zB n ++ t) = zB (n + 1) ++ t := by
  apply ba_ext
  simp [zB, zerosL, List.replicate_succ]
theorem bB_left (n : Nat) (t : ByteArray) : (⟨#[32]⟩ : ByteArray) ++ (bB n ++ t) = bB (n + 1) ++ t := by
  apply ba_ext
  simp [bB, blanksL, List.replicate_succ]
theorem bB_right (n : Nat) (t : ByteArray) : (t ++ bB n) ++ (⟨#[32]⟩ : ByteArray) = t ++ bB (n + 1) := by
  apply ba_ext
  simp [bB, blanksL_succ']

/-- The text that the reference comes to. -/
def refT (left zero nb : Bool) (width : Nat) (S D : ByteArray) : ByteArray :=
  let t := S ++ (zB (padZ left zero nb width S.data.toList D.data.toList) ++ D)
  if left = true then t ++ bB (width - t.size) else bB (width - t.size) ++ t

theorem refT_tell {cv : FConv} {a : FArg} {S D : ByteArray} {nb : Bool} (h : partsT cv a = (S.data.toList, D.data.toList, nb)) : (refT cv.left cv.zero nb cv.width S D).data.toList = tellT uintT cv a := by
  rw [tellT_of, h]
  unfold refT
  simp only []
  rw [fill_ref]
  have hz : (S ++ (zB (padZ cv.left cv.zero nb cv.width S.data.toList D.data.toList) ++ D)).data.toList = S.data.toList ++ (zerosL (padZ cv.left cv.zero nb cv.width S.data.toList D.data.toList) ++ D.data.toList) := by simp [zB]
  have hs : (S ++ (zB (padZ cv.left cv.zero nb cv.width S.data.toList D.data.toList) ++ D)).size = (S.data.toList ++ (zerosL (padZ cv.left cv.zero nb cv.width S.data.toList D.data.toList) ++ D.data.toList)).length := by
    rw [← hz]; rfl
  rw [hs]
  split
  · rw [app_data, hz]; rfl
  · rw [app_data, hz]; rfl

theorem tellT_len {cv : FConv} {a : FArg} (ha : a.n < 18446744073709551616) (hs : a.s.length ≤ 5000) (hc : isLetter cv.c = true) (hp : cv.prec ≤ 200) (hw : cv.width ≤ 200) : (tellT uintT cv a).length ≤ 5001 := by
  rw [tellT_of, fillT_len]
  have := partsT_len5 cv a ha hs hc hp
  omega

end Go.Proofs.YtdencljnbilchaaGreatDoor
