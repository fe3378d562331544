/- The walk of token.text. The walk of token.regex. -/
import Derived.Test.YtkedagbknflacaaDoorWd
import Derived.Test.YtkedagbknflacaaDoorGm

namespace Go.Proofs.YtkedagbknflacaaDoor
open Go.RowKit

def tokV (kind : Int) (text : List UInt8) (num : Nat) (f t : Int) : Value := .agg #[.int .i64 kind, .string ⟨text.toArray⟩, .float .f64 num, .int .i64 f, .int .i64 t]

theorem Tryd.info_u8 : (Tryd.prog.info? 5).map (fun i => (i.zero, i.size, i.bytes)) = some (some (.int .u8 0), 1, 1) := by kernel_rfl

def textV (l : List UInt8) (i : Nat) : Value :=
  let t := closeR 34 l (i + 1)
  if t < 0 then .tuple #[tokV 0 [] 0 i 0, .int .i64 21]
  else match dec (inR l (i + 1) t.toNat) with
    | none => .tuple #[tokV 0 [] 0 i 0, .int .i64 22]
    | some x => .tuple #[tokV 3 x 0 i (t + 1), .int .i64 0]

set_option maxRecDepth 100000 in
set_option maxHeartbeats 1600000 in
theorem text_any (s : ByteArray) (i : Nat) (w : World) (hs : s.size ≤ 140737488351232) (hi : i < s.size) (hq : s[i] = 34) : Calls Tryd.prog 21 #[.string s, .int .i64 i] w fun e w' => e = .returned (textV s.data.toList i) ∧ Below w.heap.size w w' := by
  have hm : s.size ≤ maxLen := by unfold maxLen; omega
  have HI := Lib.hid (closing_any s i 34)
  obtain ⟨i0, hi0, hz0, hz1, hz2⟩ := info_parts Tryd.info_u8
  by_cases hneg : closeR 34 s.data.toList (i + 1) < 0
  · have HV : Hid (textV s.data.toList i = .tuple #[tokV 0 [] 0 i 0, .int .i64 21]) := by
      unfold textV; dsimp only; rw [if_pos hneg]; exact rfl
    go_enter Tryd.func21, Tryd.ntmps21
    go_wp2_with (go_at_call 30; refine (HI.out _ hm hi hq).mono ?_; rintro e w' ⟨rfl, rfl⟩)
    refine bodyPost_ret (v := .tuple #[tokV 0 [] 0 i 0, .int .i64 21]) (by simp [results, Tryd.results21, go_sem, tokV]) rfl ⟨by rw [HV.out], (Below.refl _ _).alloc (Nat.le_refl _) _⟩
  · obtain ⟨t, ht⟩ : ∃ t : Nat, closeR 34 s.data.toList (i + 1) = t := ⟨(closeR 34 s.data.toList (i + 1)).toNat, by omega⟩
    have htb := closeR_bd _ _ _ _ ht
    have htl : t < s.size := by simpa using htb.2
    have hit := htb.1
    have HT : Hid (textV s.data.toList i = match dec (inR s.data.toList (i + 1) t) with | none => .tuple #[tokV 0 [] 0 i 0, .int .i64 22] | some x => .tuple #[tokV 3 x 0 i (t + 1), .int .i64 0]) := by
      unfold textV; dsimp only; rw [if_neg hneg, ht]; rfl
    have HC := Lib.hid ht
    clear hneg htb
    go_enter Tryd.func21, Tryd.ntmps21
    go_wp2_with (go_at_call 30; refine (HI.out _ hm hi hq).mono ?_; rw [HC.out]; rintro e w' ⟨rfl, rfl⟩)
    clear ht
    go_loopw [7, 8] (fun v j wr => ∃ (k : Nat) (acc : List UInt8), i + 1 ≤ k ∧ k ≤ t ∧ j = .int .i64 k ∧ closeR 34 s.data.toList k = t ∧ dec (inR s.data.toList (i + 1) t) = (dec (inR s.data.toList k t)).map (acc ++ ·) ∧ acc.length ≤ k ∧ wr.ownsRow (w.heap.size + 1) 5 1 v acc.length (u8s acc) ∧ Below (w.heap.size + 1) (w.alloc (.cells #[.int .i64 0, .string { data := #[] }, .float .f64 0, .int .i64 0, .int .i64 0] 25)) wr) (fun _ j _ => t - (intOf j).toNat)
    case atStart => exact ⟨i + 1, [], by omega, hit, by go_num, HC.out, by simp, by simp, World.ownsRow_nil _ _ _ _, Below.refl _ _⟩
    case round =>
      obtain ⟨k, acc, hk1, hk2, rfl, hcl, hd, hac, hown, hb⟩ := hrel
      have HD := Lib.hid hd; clear hd
      have HCl := Lib.hid hcl; clear hcl
      by_cases hlt : k < t
      · have hkl : k < s.data.toList.length := by simp; omega
        have hks : k < s.size := by omega
        obtain ⟨ha1, ha2, ha3, ha4⟩ := closeR_at 34 s.data.toList k t HCl.out hlt hkl
        have hB : w.heap.size + 1 ≤ wr.heap.size := by have := hb.size; simpa using this
        by_cases hc : s[k] = 92
        · have hb92 : ((s[k].toNat : Int) != 92) = false := bne_f (d := 92) hc
          obtain ⟨hk3, hcl2⟩ := ha4 hc
          have HE := Lib.hid (fun W => escape_sub s (k + 1) t W hm (by omega) (by omega))
          have HDE := Lib.hid (And.intro (dec_bad (inR s.data.toList (k + 1) t)) (dec_esc (inR s.data.toList (k + 1) t)))
          have HIN := Lib.hid (inR_at s.data.toList k t hlt hkl)
          have HCE := Lib.hid (esc_close s.data.toList k t hk3 hcl2)
          rw [show (s.data.toList.drop (k + 1)).take (t - (k + 1)) = inR s.data.toList (k + 1) t from rfl] at HCE
          clear ha1 ha2 ha3 ha4 hcl2
          rw [byte_get] at hc
          have HC92 := Lib.hid hc; clear hc
          generalize hes : escL (inR s.data.toList (k + 1) t) = bn at HE HDE HCE
          obtain ⟨b, n⟩ := bn
          clear hes
          dsimp only at HE HDE HCE
          by_cases hn : n = 0
          · subst hn
            have HF : Hid (textV s.data.toList i = .tuple #[tokV 0 [] 0 i 0, .int .i64 22]) := by
              rw [HT.out, HD.out, HIN.out, HC92.out, HDE.out.1 rfl]; rfl
            go_wp2_with (go_at_call 31; refine (HE.out _).mono ?_; rintro e w1 ⟨rfl, hb1⟩; have hb2 := hb.trans (hb1.mono hB); obtain ⟨c0, c1, c2, c3, c4, f0, f1, f2, f3, f4⟩ := cells5 hb2)
            refine bodyPost_ret (v := .tuple #[tokV 0 [] 0 i 0, .int .i64 22]) (by simp [results, Tryd.results21, go_sem, tokV, c0, c1, c2, c3, c4]) rfl ⟨by rw [HF.out], below_set5 hb2 _ _ _ _ _⟩
          · have hn0 : ((n : Int) == 0) = false := beq_eq_false_iff_ne.2 (by omega)
            have hn2 := (HCE.out hn).2
            have HN := Lib.hid (HCE.out hn).1
            go_wp2_with (first | (go_at_call 31; refine (HE.out _).mono ?_; rintro e w1 ⟨rfl, hb1⟩; have hb2 := hb.trans (hb1.mono hB); have hown1 := own_below hown hb1) | (at_builtin; refine wpList_append_own _ rfl _ _ 22 rfl (w.heap.size + 1) 5 i0 (.int .u8 0) 1 1 Tryd.underlying22 hi0 hz0 hz1 hz2 rfl (by decide) _ _ _ rfl (hown1.alloc _) ⟨w1.heap.size, 0, none⟩ 1 1 [.int .u8 b.toNat] rfl rfl ?d1 ?d2 ?d3 ?d4 ?d5 ?_))
            case d1 => exact cell_one_new _ _ _
            case d2 => simp [Value.oneCell']
            case d3 => unfold maxLen; omega
            case d4 => omega
            case d5 => have := hb1.size; simp; omega
            intro v' w2 hown' hgrow _
            obtain ⟨hown2, hb3⟩ := app_step hown1 hb2 (by have := hb1.size; omega) hown' hgrow
            clear hown' hgrow hown1 hb1 hb2
            go_wp2
            go_roundw
            case rel =>
              refine ⟨k + 1 + n, acc ++ [b], by omega, by omega, ?_, HN.out, ?_, by simp; omega, hown2, hb3⟩
              · congr 1; omega
              · rw [HD.out, HIN.out, HC92.out, HDE.out.2 hn, inR_drop]
                simp [Function.comp_def]
            case measure => simp [intOf]; omega
        · have hb92 : ((s[k].toNat : Int) != 92) = true := bne_t (d := 92) hc
          have HN := Lib.hid (ha3 hc)
          have HP := Lib.hid (dec_plain s[k] (inR s.data.toList (k + 1) t) hc)
          have HIN := Lib.hid (inR_at s.data.toList k t hlt hkl)
          clear ha1 ha2 ha3 ha4 hc
          go_wp2_with (at_builtin; refine wpList_append_own _ rfl _ _ 22 rfl (w.heap.size + 1) 5 i0 (.int .u8 0) 1 1 Tryd.underlying22 hi0 hz0 hz1 hz2 rfl (by decide) _ _ _ rfl (hown.alloc _) ⟨wr.heap.size, 0, none⟩ 1 1 [.int .u8 s[k].toNat] rfl rfl ?c1 ?c2 ?c3 ?c4 ?c5 ?_)
          case c1 => exact cell_one_new _ _ _
          case c2 => simp [Value.oneCell']
          case c3 => unfold maxLen; omega
          case c4 => omega
          case c5 => simp; omega
          intro v' w1 hown' hgrow _
          obtain ⟨hown2, hb2⟩ := app_step hown hb hB hown' hgrow
          clear hown' hgrow
          go_wp2
          go_roundw
          case rel =>
            refine ⟨k + 1, acc ++ [s[k]], by omega, by omega, by go_num, HN.out, ?_, by simp; omega, hown2, hb2⟩
            rw [HD.out, HIN.out, ← byte_get s k hks, HP.out]
            simp [Function.comp_def]
          case measure => simp [intOf]; omega
      · obtain rfl : k = t := by omega
        have hconv := run_own_string (P := Tryd.prog) Tryd.underlying22 Tryd.underlying5 Tryd.underlying9 hown
        obtain ⟨c0, c1, c2, c3, c4, f0, f1, f2, f3, f4⟩ := cells5 hb
        have hdd : dec (inR s.data.toList (i + 1) k) = some acc := by rw [HD.out, inR_end, dec_nil]; simp
        have HF : Hid (textV s.data.toList i = .tuple #[tokV 3 acc 0 i (k + 1), .int .i64 0]) := by rw [HT.out, hdd]; rfl
        clear HD hdd
        go_wp2
        refine bodyPost_ret (v := .tuple #[tokV 3 acc 0 i (k + 1), .int .i64 0]) (by simp [results, Tryd.results21, go_sem, tokV, c0, c1, c2, c3, c4]) rfl ⟨by rw [HF.out], below_set5 hb _ _ _ _ _⟩

end Go.Proofs.YtkedagbknflacaaDoor

namespace Go.Proofs.YtkedagbknflacaaDoor
open Go.RowKit

def regexV (l : List UInt8) (i : Nat) : Value :=
  let t := closeR 47 l (i + 1)
  if t < 0 then .tuple #[tokV 0 [] 0 i 0, .int .i64 21]
  else .tuple #[tokV 4 (unsl (inR l (i + 1) t.toNat)) 0 i (t + 1), .int .i64 0]

set_option maxRecDepth 100000 in
set_option maxHeartbeats 1600000 in
theorem regex_any (s : ByteArray) (i : Nat) (w : World) (hs : s.size ≤ 140737488351232) (hi : i < s.size) (hq : s[i] = 47) : Calls Tryd.prog 22 #[.string s, .int .i64 i] w fun e w' => e = .returned (regexV s.data.toList i) ∧ Below w.heap.size w w' := by
  have hm : s.size ≤ maxLen := by unfold maxLen; omega
  have HI := Lib.hid (closing_any s i 47)
  obtain ⟨i0, hi0, hz0, hz1, hz2⟩ := info_parts Tryd.info_u8
  by_cases hneg : closeR 47 s.data.toList (i + 1) < 0
  · have HV : Hid (regexV s.data.toList i = .tuple #[tokV 0 [] 0 i 0, .int .i64 21]) := by
      unfold regexV; dsimp only; rw [if_pos hneg]; exact rfl
    go_enter Tryd.func22, Tryd.ntmps22
    go_wp2_with (go_at_call 30; refine (HI.out _ hm hi hq).mono ?_; rintro e w' ⟨rfl, rfl⟩)
    refine bodyPost_ret (v := .tuple #[tokV 0 [] 0 i 0, .int .i64 21]) (by simp [results, Tryd.results22, go_sem, tokV]) rfl ⟨by rw [HV.out], (Below.refl _ _).alloc (Nat.le_refl _) _⟩
  · obtain ⟨t, ht⟩ : ∃ t : Nat, closeR 47 s.data.toList (i + 1) = t := ⟨(closeR 47 s.data.toList (i + 1)).toNat, by omega⟩
    have htb := closeR_bd _ _ _ _ ht
    have htl : t < s.size := by simpa using htb.2
    have hit := htb.1
    have HT : Hid (regexV s.data.toList i = .tuple #[tokV 4 (unsl (inR s.data.toList (i + 1) t)) 0 i (t + 1), .int .i64 0]) := by
      unfold regexV; dsimp only; rw [if_neg hneg, ht]; rfl
    have HC := Lib.hid ht
    clear hneg htb
    go_enter Tryd.func22, Tryd.ntmps22
    go_wp2_with (go_at_call 30; refine (HI.out _ hm hi hq).mono ?_; rw [HC.out]; rintro e w' ⟨rfl, rfl⟩)
    clear ht
    go_loopw [7, 8] (fun v j wr => ∃ (k : Nat) (acc : List UInt8), i + 1 ≤ k ∧ k ≤ t ∧ j = .int .i64 k ∧ closeR 47 s.data.toList k = t ∧ unsl (inR s.data.toList (i + 1) t) = acc ++ unsl (inR s.data.toList k t) ∧ acc.length ≤ k ∧ wr.ownsRow (w.heap.size + 1) 5 1 v acc.length (u8s acc) ∧ Below (w.heap.size + 1) (w.alloc (.cells #[.int .i64 0, .string { data := #[] }, .float .f64 0, .int .i64 0, .int .i64 0] 25)) wr) (fun _ j _ => t - (intOf j).toNat)
    case atStart => exact ⟨i + 1, [], by omega, hit, by go_num, HC.out, by simp, by simp, World.ownsRow_nil _ _ _ _, Below.refl _ _⟩
    case round =>
      obtain ⟨k, acc, hk1, hk2, rfl, hcl, hd, hac, hown, hb⟩ := hrel
      have HD := Lib.hid hd; clear hd
      have HCl := Lib.hid hcl; clear hcl
      by_cases hlt : k < t
      · have hkl : k < s.data.toList.length := by simp; omega
        have hks : k < s.size := by omega
        have hB : w.heap.size + 1 ≤ wr.heap.size := by have := hb.size; simpa using this
        obtain ⟨ha1, ha2, ha3, ha4⟩ := closeR_at 47 s.data.toList k t HCl.out hlt hkl
        have HIN := Lib.hid (inR_at s.data.toList k t hlt hkl)
        by_cases hc : s[k] = 92
        · have hb92 : ((s[k].toNat : Int) == 92) = true := beq_t (d := 92) hc
          obtain ⟨hk3, hcl2⟩ := ha4 hc
          have HN := Lib.hid hcl2
          have hks2 : k + 1 < s.size := by omega
          have HIN2 := Lib.hid (inR_at s.data.toList (k + 1) t (by omega) (by simp; omega))
          clear ha1 ha2 ha3 ha4 hcl2
          rw [byte_get] at hc
          have HC92 := Lib.hid hc; clear hc
          by_cases hd : s[k + 1] = 47
          · have hb47 : ((s[k + 1].toNat : Int) != 47) = false := bne_f (d := 47) hd
            rw [byte_get] at hd
            have HD47 := Lib.hid hd; clear hd
            go_wp2_with (at_builtin; refine wpList_append_own _ rfl _ _ 22 rfl (w.heap.size + 1) 5 i0 (.int .u8 0) 1 1 Tryd.underlying22 hi0 hz0 hz1 hz2 rfl (by decide) _ _ _ rfl (hown.alloc _) ⟨wr.heap.size, 0, none⟩ 1 1 [.int .u8 s[k + 1].toNat] rfl rfl ?a1 ?a2 ?a3 ?a4 ?a5 ?_)
            case a1 => exact cell_one_new _ _ _
            case a2 => simp [Value.oneCell']
            case a3 => unfold maxLen; omega
            case a4 => omega
            case a5 => have := hb.size; simp; omega
            intro v' w1 hown' hgrow _
            obtain ⟨hown2, hb2⟩ := app_step hown hb hB hown' hgrow
            clear hown' hgrow
            go_wp2
            go_roundw
            case rel =>
              refine ⟨k + 2, acc ++ [s[k + 1]], by omega, by omega, by congr 1, HN.out, ?_, by simp; omega, hown2, hb2⟩
              rw [HD.out, HIN.out, HIN2.out, HC92.out, byte_get, HD47.out, unsl_slash]
              simp
            case measure => simp [intOf]; omega
          · have hb47 : ((s[k + 1].toNat : Int) != 47) = true := bne_t (d := 47) hd
            rw [byte_get] at hd
            have HD47 := Lib.hid hd; clear hd
            go_wp2_with (at_builtin; refine wpList_append_own _ rfl _ _ 22 rfl (w.heap.size + 1) 5 i0 (.int .u8 0) 1 1 Tryd.underlying22 hi0 hz0 hz1 hz2 rfl (by decide) _ _ _ rfl (hown.alloc _) ⟨wr.heap.size, 0, none⟩ 1 1 [.int .u8 92] rfl rfl ?b1 ?b2 ?b3 ?b4 ?b5 ?_)
            case b1 => exact cell_one_new _ _ _
            case b2 => simp [Value.oneCell']
            case b3 => unfold maxLen; omega
            case b4 => omega
            case b5 => have := hb.size; simp; omega
            intro v' w1 hown' hgrow _
            obtain ⟨hown2, hb2⟩ := app_step (c := 92) hown hb hB hown' hgrow
            have hB1 : w.heap.size + 1 ≤ w1.heap.size := by have := hb2.size; simpa using this
            have hac2 : (acc ++ [92]).length ≤ k + 1 := by simp; omega
            clear hown' hgrow hown hb
            generalize hacc : acc ++ [92] = acc2 at hown2 hac2
            have HACC := Lib.hid hacc; clear hacc
            go_wp2_with (at_builtin; refine wpList_append_own _ rfl _ _ 22 rfl (w.heap.size + 1) 5 i0 (.int .u8 0) 1 1 Tryd.underlying22 hi0 hz0 hz1 hz2 rfl (by decide) _ _ _ rfl (hown2.alloc _) ⟨w1.heap.size, 0, none⟩ 1 1 [.int .u8 s[k + 1].toNat] rfl rfl ?e1 ?e2 ?e3 ?e4 ?e5 ?_)
            case e1 => exact cell_one_new _ _ _
            case e2 => simp [Value.oneCell']
            case e3 => unfold maxLen; omega
            case e4 => omega
            case e5 => have := hb2.size; simp; omega
            intro v2 w2 hown' hgrow _
            obtain ⟨hown3, hb3⟩ := app_step hown2 hb2 hB1 hown' hgrow
            clear hown' hgrow
            go_wp2
            go_roundw
            case rel =>
              refine ⟨k + 2, acc2 ++ [s[k + 1]], by omega, by omega, by congr 1, HN.out, ?_, by simp; omega, hown3, hb3⟩
              rw [HD.out, HIN.out, HIN2.out, HC92.out, byte_get, unsl_bs _ _ HD47.out, ← HACC.out]
              simp
            case measure => simp [intOf]; omega
        · have hb92 : ((s[k].toNat : Int) == 92) = false := beq_f (d := 92) hc
          have HN := Lib.hid (ha3 hc)
          have HP := Lib.hid (unsl_plain s[k] (inR s.data.toList (k + 1) t) hc)
          clear ha1 ha2 ha3 ha4 hc
          go_wp2_with (at_builtin; refine wpList_append_own _ rfl _ _ 22 rfl (w.heap.size + 1) 5 i0 (.int .u8 0) 1 1 Tryd.underlying22 hi0 hz0 hz1 hz2 rfl (by decide) _ _ _ rfl (hown.alloc _) ⟨wr.heap.size, 0, none⟩ 1 1 [.int .u8 s[k].toNat] rfl rfl ?c1 ?c2 ?c3 ?c4 ?c5 ?_)
          case c1 => exact cell_one_new _ _ _
          case c2 => simp [Value.oneCell']
          case c3 => unfold maxLen; omega
          case c4 => omega
          case c5 => have := hb.size; simp; omega
          intro v' w1 hown' hgrow _
          obtain ⟨hown2, hb2⟩ := app_step hown hb hB hown' hgrow
          clear hown' hgrow
          go_wp2
          go_roundw
          case rel =>
            refine ⟨k + 1, acc ++ [s[k]], by omega, by omega, by go_num, HN.out, ?_, by simp; omega, hown2, hb2⟩
            rw [HD.out, HIN.out, ← byte_get s k hks, HP.out]
            simp
          case measure => simp [intOf]; omega
      · obtain rfl : k = t := by omega
        have hconv := run_own_string (P := Tryd.prog) Tryd.underlying22 Tryd.underlying5 Tryd.underlying9 hown
        obtain ⟨c0, c1, c2, c3, c4, f0, f1, f2, f3, f4⟩ := cells5 hb
        have hdd : unsl (inR s.data.toList (i + 1) k) = acc := by rw [HD.out, inR_end, unsl_nil]; simp
        have HF : Hid (regexV s.data.toList i = .tuple #[tokV 4 acc 0 i (k + 1), .int .i64 0]) := by rw [HT.out, hdd]; exact rfl
        clear HD hdd
        go_wp2
        refine bodyPost_ret (v := .tuple #[tokV 4 acc 0 i (k + 1), .int .i64 0]) (by simp [results, Tryd.results22, go_sem, tokV, c0, c1, c2, c3, c4]) rfl ⟨by rw [HF.out], below_set5 hb _ _ _ _ _⟩

end Go.Proofs.YtkedagbknflacaaDoor
