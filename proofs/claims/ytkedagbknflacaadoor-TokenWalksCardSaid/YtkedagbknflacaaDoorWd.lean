/- The walk of token.escape. Plain: a numeral is of numerals' bytes. No program here. -/
import Derived.Test.YtkedagbknflacaaDoorWc
import Derived.Test.YtkedagbknflacaaDoorPa
import Derived.Laws.RangeString
import Derived.Deep.QuietTactic
import Derived.Lib.Strings
import Derived.BigQuiet

namespace Go.Proofs.YtkedagbknflacaaDoor
open Go.RowKit

def lettersB : ByteArray := { data := #[34, 92, 47, 110, 116, 114, 102, 118, 97, 98] }

theorem letters_next (w : World) (m k : Nat) (h : k < 10) (ty : TypeId) :
    (Instr.next (.pointer (some ⟨w.heap.size, 0, none⟩)) true ty).run Tryd.prog ((w.iter lettersB k).drewN m) = .ok (.tuple #[.bool true, .int .i64 k, .int .i32 (lettersB[k]'h).toNat]) ((w.iter lettersB (k + 1)).drewN m) :=
  run_next_ascii (w.drewN m) lettersB k ty h (by
    have : ∀ j (hj : j < 10), (lettersB[j]'hj).toNat < 128 := by decide
    exact this k h)
theorem letters_end (w : World) (m : Nat) (ty : TypeId) :
    (Instr.next (.pointer (some ⟨w.heap.size, 0, none⟩)) true ty).run Tryd.prog ((w.iter lettersB 10).drewN m) = .ok (.tuple #[.bool false]) ((w.iter lettersB 10).drewN m) :=
  run_next_end (w.drewN m) lettersB 10 ty (by decide)

theorem const_index (w : World) (B : ByteArray) (L : List UInt8) (hB : B.data.toList = L) (k : Nat) (h : k < L.length) : (Instr.index 9 (.string B) (.int .i64 k)).run Tryd.prog w = .ok (.int .u8 (L[k]'h).toNat) w := by
  subst hB
  have h2 : k < B.size := by simpa using h
  rw [run_index_string _ _ _ _ _ Tryd.underlying9, dif_pos ⟨by omega, by omega⟩]
  simp only [Int.toNat_natCast]; rfl

set_option maxHeartbeats 800000 in
theorem escape_any (s : ByteArray) (c : UInt8) (w : World) (hs : s.size ≤ maxLen) (hi : 0 < s.size) (hc : s[0] = c) : Calls Tryd.prog 31 #[.string s] w fun e w' => e = .returned (.tuple #[.int .u8 (escL s.data.toList).1.toNat, .int .i64 (escL s.data.toList).2]) ∧ Below w.heap.size w w' := by
  unfold maxLen at hs
  go_enter Tryd.func31, Tryd.ntmps31
  go_wp2
  go_loopw [4] (fun _ w' => ∃ k m : Nat, k ≤ 10 ∧ w' = (w.iter lettersB k).drewN m ∧ lettersL.idxOf c = k + (lettersL.drop k).idxOf c) (fun _ w' => 10 - w'.iterPos w.heap.size)
  case atStart => exact ⟨0, 0, by omega, rfl, by simp⟩
  case round =>
    obtain ⟨k, m, hk, rfl, hix⟩ := hrel
    by_cases hlt : k < 10
    · have hst := idx_step c lettersL k hlt
      by_cases hh : lettersL[k] = c
      · rw [if_pos hh] at hst
        have HX : Hid (lettersL.idxOf c = k) := by rw [hix, hst]; rfl
        clear hix hst
        have hnx := letters_next w m k hlt
        have hL := fun W => const_index W { data := #[34, 92, 47, 110, 116, 114, 102, 118, 97, 98] } lettersL rfl k hlt
        have hB := fun W => const_index W { data := #[34, 92, 47, 10, 9, 13, 12, 11, 7, 8] } bytesL rfl k hlt
        have bq : ((lettersL[k].toNat : Int) == c.toNat) = true := beq_t hh
        have HE := Lib.hid (escL_letter c s.data.toList (by simpa using hi) hc k hlt HX.out)
        clear hh
        go_wp2
        go_quiet (fail)
        go_wp2
        go_ret2
        rw [HE.out]
        exact ⟨rfl, below_drewN ((Below.refl _ _).alloc (Nat.le_refl _) _) _⟩
      · rw [if_neg hh] at hst
        have HX : Hid (lettersL.idxOf c = (k + 1) + (lettersL.drop (k + 1)).idxOf c) := by rw [hix, hst]; show _ = _; omega
        clear hix hst
        have hnx := letters_next w m k hlt
        have hL := fun W => const_index W { data := #[34, 92, 47, 110, 116, 114, 102, 118, 97, 98] } lettersL rfl k hlt
        have bq : ((lettersL[k].toNat : Int) == c.toNat) = false := beq_f hh
        clear hh
        go_wp2
        go_quiet (fail)
        go_wp2
        go_roundw
        case rel => exact ⟨k + 1, _, by omega, World.drewN_drewN _ _ _, HX.out⟩
        case measure => show 10 - (w.iter lettersB (k + 1)).iterPos w.heap.size < 10 - (w.iter lettersB k).iterPos w.heap.size; simp; omega
    · obtain rfl : k = 10 := by omega
      have HX : Hid (¬ lettersL.idxOf c < 10) := by rw [hix]; show ¬ _; omega
      clear hix
      have hnx := letters_end w m
      go_wp2
      go_loop [5, 6] (fun n j => ∃ a i : Nat, i ≤ 3 ∧ i ≤ s.size ∧ a < 8 ^ i ∧ n = .int .i64 a ∧ j = .int .i64 i ∧ (oct 3 0 s.data.toList).1 = (oct (3 - i) a (s.data.toList.drop i)).1 ∧ (oct 3 0 s.data.toList).2 = i + (oct (3 - i) a (s.data.toList.drop i)).2) (fun _ j => 3 - (intOf j).toNat)
      case atStart => exact ⟨0, 0, by omega, by omega, by omega, rfl, rfl, rfl, by simp⟩
      case round =>
        obtain ⟨a, i, h3, hi2, ha, rfl, rfl, ho1, ho2⟩ := hrel
        have HO := Lib.hid (And.intro ho1 ho2); clear ho1 ho2
        have ha2 : a < 512 := by
          have : 8 ^ i ≤ 8 ^ 3 := Nat.pow_le_pow_right (by omega) h3
          omega
        have HB : Hid (∀ a' i', escL s.data.toList = (UInt8.ofNat a', i') → a' < 512 → Value.tuple #[.int .u8 ((a' : Int) % 256), .int .i64 i'] = Value.tuple #[.int .u8 (escL s.data.toList).1.toNat, .int .i64 (escL s.data.toList).2]) := fun a' i' h _ => by
          rw [h]; simp
        have HS := Lib.hid (escL_oct c s.data.toList (by simpa using hi) hc HX.out)
        by_cases hw : i < 3
        · by_cases hz : i < s.size
          · have hl : i < s.data.toList.length := by simpa using hz
            by_cases hg : 48 ≤ s[i].toNat ∧ s[i].toNat ≤ 55
            · have hy := oct_yes (2 - i) a _ i hl hg
              obtain ⟨hg1, hg2⟩ := hg
              rw [show 2 - i + 1 = 3 - i by omega] at hy
              have HY := Lib.hid hy; clear hy
              go_wp2
              go_round
              case rel =>
                obtain ⟨o1, o2⟩ := HO.out
                rw [HY.out] at o1 o2
                refine ⟨8 * a + (s[i].toNat - 48), i + 1, by omega, by omega, by rw [Nat.pow_succ]; omega, ?_, by go_num, ?_, ?_⟩
                · congr 1
                  omega
                · rw [o1, show 2 - i = 3 - (i + 1) by omega]; rfl
                · rw [o2, show 2 - i = 3 - (i + 1) by omega]; show i + (_ + 1) = _; rw [Nat.add_assoc, Nat.add_comm 1]; rfl
              case measure => simp [intOf]; omega
            · have HF : Hid (escL s.data.toList = (UInt8.ofNat a, i)) := by
                rw [HS.out, HO.out.1, HO.out.2, oct_no _ _ _ _ hl hg]; rfl
              go_wp2
              all_goals (go_ret2; exact ⟨congrArg Ending.returned (HB.out a i HF.out ha2), below_drewN ((Below.refl _ _).alloc (Nat.le_refl _) _) _⟩)
          · have HF : Hid (escL s.data.toList = (UInt8.ofNat a, i)) := by
              rw [HS.out, HO.out.1, HO.out.2, oct_end _ _ _ _ (by simpa using hz)]; rfl
            go_wp2
            go_ret2; exact ⟨congrArg Ending.returned (HB.out a i HF.out ha2), below_drewN ((Below.refl _ _).alloc (Nat.le_refl _) _) _⟩
        · have HF : Hid (escL s.data.toList = (UInt8.ofNat a, i)) := by
            rw [HS.out, HO.out.1, HO.out.2, show 3 - i = 0 by omega]; rfl
          go_wp2
          go_ret2; exact ⟨congrArg Ending.returned (HB.out a i HF.out ha2), below_drewN ((Below.refl _ _).alloc (Nat.le_refl _) _) _⟩

theorem escape_sub (s : ByteArray) (k t : Nat) (w : World) (hs : s.size ≤ maxLen) (hk : k < t) (ht : t ≤ s.size) : Calls Tryd.prog 31 #[.string (s.extract k t)] w fun e w' => e = .returned (.tuple #[.int .u8 (escL (inR s.data.toList k t)).1.toNat, .int .i64 (escL (inR s.data.toList k t)).2]) ∧ Below w.heap.size w w' := by
  have hsz : (s.extract k t).size = t - k := by simp; omega
  have := escape_any (s.extract k t) _ w (by omega) (by omega) rfl
  rwa [show (s.extract k t).data.toList = inR s.data.toList k t from Lib.extract_data _ _ _] at this

end Go.Proofs.YtkedagbknflacaaDoor

namespace Go.Proofs.YtkedagbknflacaaDoor

def allN (l : List UInt8) (n : Nat) : Prop := ∀ c ∈ l.take n, c ∈ numChL

theorem allN_zero (l : List UInt8) : allN l 0 := fun c hc => by simp at hc
theorem allN_add {l : List UInt8} {a b : Nat} (h : allN l a) (h' : allN (l.drop a) b) : allN l (a + b) := by
  intro c hc
  rw [List.take_add] at hc
  rcases List.mem_append.1 hc with hc | hc
  · exact h c hc
  · exact h' c hc
theorem dig_num (c : UInt8) (h : isDig c = true) : c ∈ numChL := by
  have hall : ∀ n : Fin 256, isDig (UInt8.ofNat n) = true → UInt8.ofNat n ∈ numChL := by decide +kernel
  have := hall ⟨c.toNat, c.toNat_lt⟩
  have e : UInt8.ofNat c.toNat = c := UInt8.toNat_inj.1 (by rw [UInt8.toNat_ofNat']; exact Nat.mod_eq_of_lt c.toNat_lt)
  simp only [e] at this
  exact this h
theorem allN_digs : ∀ l : List UInt8, allN l (nWhile isDig l)
  | [] => allN_zero _
  | c :: r => by
    unfold nWhile
    split
    · rename_i h
      intro x hx
      rw [List.take_succ_cons] at hx
      rcases List.mem_cons.1 hx with rfl | hx
      · exact dig_num _ h
      · exact allN_digs r x hx
    · exact allN_zero _
theorem allN_head {l : List UInt8} {c : UInt8} (h : l.head? = some c) (hc : c ∈ numChL) : allN l 1 := by
  cases l with
  | nil => cases h
  | cons d r =>
    cases h
    intro x hx
    simp at hx
    subst hx; exact hc
theorem allN_sgn (l : List UInt8) : allN l (sgnN l) := by
  unfold sgnN
  split
  · rename_i h
    rcases h with h | h
    · exact allN_head h (by decide)
    · exact allN_head h (by decide)
  · exact allN_zero _
theorem allN_mant (l : List UInt8) : allN l (mantN l) := by
  unfold mantN
  split
  · rename_i h
    split
    · exact allN_zero _
    · refine allN_add (allN_add (allN_digs l) (allN_head h (by decide))) ?_
      exact allN_digs _
  · exact allN_digs l
theorem allN_exp (l : List UInt8) : allN l (expN l) := by
  unfold expN
  split
  · rename_i h
    split
    · exact allN_zero _
    · refine allN_add (allN_add ?_ (allN_sgn _)) (allN_digs _)
      rcases h with h | h
      · exact allN_head h (by decide)
      · exact allN_head h (by decide)
  · exact allN_zero _
theorem allN_numeral (l : List UInt8) : allN l (numeralN l) := by
  unfold numeralN
  split
  · exact allN_zero _
  · exact allN_add (allN_mant l) (allN_exp _)

/-- The sign and the numeral behind the blanks. -/
theorem numeral_bytes (l : List UInt8) (b : Nat) : allN (l.drop b) (sgnN (l.drop b) + numeralN (l.drop (b + sgnN (l.drop b)))) := by
  refine allN_add (allN_sgn _) ?_
  rw [List.drop_drop]
  exact allN_numeral _

end Go.Proofs.YtkedagbknflacaaDoor
