/- The walk of token.Next. -/
import Derived.Test.YtkedagbknflacaaDoorWg
import Derived.Test.YtkedagbknflacaaDoorWn
import Derived.Test.YtkedagbknflacaaDoorWc
import Derived.Test.YtkedagbknflacaaDoorGt
import Derived.Test.YtkedagbknflacaaDoorWj

namespace Go.Proofs.YtkedagbknflacaaDoor
open Go.RowKit

def nextV (l : List UInt8) (op : Bool) (nv : Value) (k : Nat) : Value :=
  match l.drop k with
  | [] => .tuple #[tokV 0 [] 0 k k, .int .i64 0]
  | c :: r =>
    if c = 10 then .tuple #[tokV 1 [] 0 k (k + 1), .int .i64 0]
    else if isDig c = true ∨ (c = 46 ∧ (r.head?.map isDig) = some true) then nv
    else if isLet c = true then .tuple #[wordV l k, .int .i64 0]
    else if c = 34 then textV l k
    else if c = 47 ∧ op = true then regexV l k
    else if 0 < signN (c :: r) then .tuple #[tokV 9 (inR l k (k + signN (c :: r))) 0 k (k + signN (c :: r)), .int .i64 0]
    else .tuple #[tokV 0 [] 0 k 0, .int .i64 20]

abbrev tokZ : Obj := .cells #[.int .i64 0, .string { data := #[] }, .float .f64 0, .int .i64 0, .int .i64 0] 25

/-- What holds at the labels: 0: ahead of a token; 1: within a comment. -/
def J7 (s : ByteArray) (op : Bool) (w : World) (K : Nat) (lb : Nat) (a' : Act) (w' : World) : Prop :=
  w' = w.alloc tokZ ∧ ∃ (k : Nat) (c : Int), k ≤ s.size ∧ ((lb = 0 ∧ Hid (skipK s.data.toList k = K)) ∨ (lb = 1 ∧ Hid (skipC s.data.toList k = K))) ∧ ∃ (g0 g1 g2 g3 g4 g5 g6 : V20), a' = { tmps := #[.string s, .int .i64 k, .bool op, undef, undef, undef, .pointer (some ⟨w.heap.size, 0, none⟩), .int .i64 0, .int .u8 c, g0.a, g0.b, g0.c, g0.d, g0.e, g0.f, g0.g, g0.h, g0.i, g0.j, g0.k, g0.l, g0.m, g0.n, g0.o, g0.p, g0.q, g0.r, g0.s, g0.t, g1.a, g1.b, g1.c, g1.d, g1.e, g1.f, g1.g, g1.h, g1.i, g1.j, g1.k, g1.l, g1.m, g1.n, g1.o, g1.p, g1.q, g1.r, g1.s, g1.t, g2.a, g2.b, g2.c, g2.d, g2.e, g2.f, g2.g, g2.h, g2.i, g2.j, g2.k, g2.l, g2.m, g2.n, g2.o, g2.p, g2.q, g2.r, g2.s, g2.t, g3.a, g3.b, g3.c, g3.d, g3.e, g3.f, g3.g, g3.h, g3.i, g3.j, g3.k, g3.l, g3.m, g3.n, g3.o, g3.p, g3.q, g3.r, g3.s, g3.t, g4.a, g4.b, g4.c, g4.d, g4.e, g4.f, g4.g, g4.h, g4.i, g4.j, g4.k, g4.l, g4.m, g4.n, g4.o, g4.p, g4.q, g4.r, g4.s, g4.t, g5.a, g5.b, g5.c, g5.d, g5.e, g5.f, g5.g, g5.h, g5.i, g5.j, g5.k, g5.l, g5.m, g5.n, g5.o, g5.p, g5.q, g5.r, g5.s, g5.t, g6.a, g6.b, g6.c, g6.d, g6.e, g6.f, g6.g, g6.h, g6.i, g6.j, g6.k, g6.l, g6.m, g6.n, g6.o, g6.p, g6.q, g6.r, g6.s], defers := [] }

def muX (s : ByteArray) (lb k : Nat) : Nat := if lb = 1 then 1 else if s.data.toList[k]? = some 35 then 2 else 0
def mu7 (s : ByteArray) (lb : Nat) (a' : Act) (_ : World) : Nat :=
  3 * (s.size - (intOf (a'.tmps.getD 1 undef)).toNat) + muX s lb (intOf (a'.tmps.getD 1 undef)).toNat
theorem mu7_at (s : ByteArray) (lb : Nat) (a : Act) (w : World) (k : Nat) (ha : a.tmps.getD 1 undef = .int .i64 k) : mu7 s lb a w = 3 * (s.size - k) + muX s lb k := by
  unfold mu7; rw [ha]; rfl
theorem muX_le (s : ByteArray) (lb k : Nat) : muX s lb k ≤ 2 := by unfold muX; split <;> (try split) <;> omega
theorem muX_1 (s : ByteArray) (k : Nat) : muX s 1 k = 1 := rfl
theorem mu7_lt0 (s : ByteArray) (a b : Act) (w w' : World) (k k' : Nat) (h : k < k') (hk : k' ≤ s.size) (ha : a.tmps.getD 1 undef = .int .i64 k) (hb : b.tmps.getD 1 undef = .int .i64 k') : mu7 s 0 b w' < mu7 s 0 a w := by
  rw [mu7_at s 0 a w k ha, mu7_at s 0 b w' k' hb]; have := muX_le s 0 k'; omega
theorem mu7_lt1 (s : ByteArray) (a b : Act) (w w' : World) (k k' : Nat) (h : k < k') (hk : k < s.size) (ha : a.tmps.getD 1 undef = .int .i64 k) (hb : b.tmps.getD 1 undef = .int .i64 k') : mu7 s 1 b w' < mu7 s 1 a w := by
  rw [mu7_at s 1 a w k ha, mu7_at s 1 b w' k' hb, muX_1, muX_1]; omega
theorem mu7_hash (s : ByteArray) (a b : Act) (w w' : World) (k : Nat) (ha : a.tmps.getD 1 undef = .int .i64 k) (hb : b.tmps.getD 1 undef = .int .i64 k) (h : s.data.toList[k]? = some 35) : mu7 s 1 b w' < mu7 s 0 a w := by
  rw [mu7_at s 0 a w k ha, mu7_at s 1 b w' k hb, muX_1, muX, if_neg (by decide), if_pos h]; omega
theorem mu7_back (s : ByteArray) (a b : Act) (w w' : World) (k : Nat) (ha : a.tmps.getD 1 undef = .int .i64 k) (hb : b.tmps.getD 1 undef = .int .i64 k) (h : s.data.toList[k]? ≠ some 35) : mu7 s 0 b w' < mu7 s 1 a w := by
  rw [mu7_at s 1 a w k ha, mu7_at s 0 b w' k hb, muX_1, muX, if_neg (by decide), if_neg h]; omega

theorem twoL_len : ∀ x ∈ twoL, x.length = 2 := by decide
theorem signN_le (l : List UInt8) : signN l ≤ l.length := by
  cases l with
  | nil => exact Nat.le_refl _
  | cons c r =>
    rw [signN]; split
    · rename_i h
      have := twoL_len _ (List.contains_iff_mem.1 h)
      rw [List.length_take] at this; omega
    · split <;> simp

theorem nextV_at (l : List UInt8) (op : Bool) (nv : Value) (k : Nat) (h : k < l.length) : nextV l op nv k =
    if l[k] = 10 then .tuple #[tokV 1 [] 0 k (k + 1), .int .i64 0]
    else if isDig l[k] = true ∨ (l[k] = 46 ∧ ((l.drop (k + 1)).head?.map isDig) = some true) then nv
    else if isLet l[k] = true then .tuple #[wordV l k, .int .i64 0]
    else if l[k] = 34 then textV l k
    else if l[k] = 47 ∧ op = true then regexV l k
    else if 0 < signN (l.drop k) then .tuple #[tokV 9 (inR l k (k + signN (l.drop k))) 0 k (k + signN (l.drop k)), .int .i64 0]
    else .tuple #[tokV 0 [] 0 k 0, .int .i64 20] := by
  rw [nextV, drop_at l k h]

theorem digB_of (c : UInt8) (h : isDig c = true) : digB (c.toNat : Int) = true := h
theorem head_dig (l : List UInt8) (k : Nat) (h : k + 1 < l.length) : ((l.drop (k + 1)).head?.map isDig) = some (isDig l[k + 1]) := by rw [drop_at l (k + 1) h]; rfl
theorem head_none (l : List UInt8) (k : Nat) (h : l.length ≤ k + 1) : ((l.drop (k + 1)).head?.map isDig) = none := by rw [List.drop_eq_nil_of_le h]; rfl

theorem nextV_se (l : List UInt8) (op : Bool) (nv : Value) (k : Nat) (h : k < l.length) (h10 : l[k] ≠ 10) (hnn : ¬ (isDig l[k] = true ∨ (l[k] = 46 ∧ ((l.drop (k + 1)).head?.map isDig) = some true)))
    (hnl : ¬ isLet l[k] = true) (h34 : l[k] ≠ 34) (h47 : ¬ (l[k] = 47 ∧ op = true)) : nextV l op nv k =
    if 0 < signN (l.drop k) then .tuple #[tokV 9 (inR l k (k + signN (l.drop k))) 0 k (k + signN (l.drop k)), .int .i64 0] else .tuple #[tokV 0 [] 0 k 0, .int .i64 20] := by
  rw [nextV_at l op nv k h, if_neg h10, if_neg hnn, if_neg hnl, if_neg h34, if_neg h47]

theorem textV_shape (l : List UInt8) (i : Nat) : ∃ kd tx f t e0, textV l i = .tuple #[tokV kd tx 0 f t, .int .i64 e0] := by
  unfold textV; dsimp only; split
  · exact ⟨_, _, _, _, _, rfl⟩
  · split <;> exact ⟨_, _, _, _, _, rfl⟩
theorem regexV_shape (l : List UInt8) (i : Nat) : ∃ kd tx f t e0, regexV l i = .tuple #[tokV kd tx 0 f t, .int .i64 e0] := by
  unfold regexV; dsimp only; split <;> exact ⟨_, _, _, _, _, rfl⟩
theorem numStart_of (l : List UInt8) (k : Nat) (h : k < l.length) (hn : isDig l[k] = true ∨ (l[k] = 46 ∧ ((l.drop (k + 1)).head?.map isDig) = some true)) : numStart l k := by
  refine ⟨h, hn.imp id fun ⟨h1, h2⟩ => ⟨h1, ?_⟩⟩
  rcases Nat.lt_or_ge (k + 1) l.length with h3 | h3
  · rw [head_dig l k h3] at h2; exact ⟨h3, Option.some.inj h2⟩
  · rw [head_none l k h3] at h2; exact absurd h2 (by simp)

set_option maxRecDepth 100000 in
set_option maxHeartbeats 3200000 in
theorem next_any (s : ByteArray) (a0 : Nat) (op : Bool) (w : World) (nv : Value) (kd : Int) (tx : List UInt8) (nm : Nat) (f t e0 : Int) (hnv : nv = .tuple #[tokV kd tx nm f t, .int .i64 e0]) (hs : s.size ≤ 140737488351232) (ha : a0 ≤ s.size)
    (hnum : numStart s.data.toList (skipK s.data.toList a0) → ∀ W, Below w.heap.size w W → Calls Tryd.prog 18 #[.string s, .int .i64 (skipK s.data.toList a0 : Nat)] W fun e w' => e = .returned nv ∧ Below W.heap.size W w') :
    Calls Tryd.prog 7 #[.string s, .int .i64 a0, .bool op] w fun e w' => e = .returned (nextV s.data.toList op nv (skipK s.data.toList a0)) ∧ Below w.heap.size w w' := by
  obtain ⟨K, hK⟩ : ∃ K, skipK s.data.toList a0 = K := ⟨_, rfl⟩
  rw [hK] at hnum ⊢
  have HN := Lib.hid hnum
  have HNV := Lib.hid hnv
  have HK := Lib.hid hK
  have hm : s.size ≤ maxLen := by unfold maxLen; omega
  have HM := Lib.hid hm
  clear hnum hK hm hnv
  have HMM : Hid (min (a0 : Int) s.size = a0) := by unfold Hid; omega
  have HA := Lib.hid ha
  have hlt2 : ¬ ((s.size : Int) < (a0 : Int)) := by omega
  clear ha
  go_enter Tryd.func7, Tryd.ntmps7
  go_wp2
  refine wp_scope_two (J7 s op w K) (mu7 s) rfl rfl (fun l a w h => ?hJ) ?pass0 ?pass1 ?first
  case hJ =>
    obtain ⟨_, k, c, _, hlb, _⟩ := h
    rcases hlb with ⟨h, _⟩ | ⟨h, _⟩
    · exact .inl h
    · exact .inr h
  case first =>
    intro pass pass1
    clear pass1
    have PASS := Lib.hid pass
    clear pass
    go_wp2
    go_step3
    rename_i hK2
    rw [HMM.out]
    refine hK2 _ _ (PASS.out _ _ ⟨rfl, a0, 0, HA.out, .inl ⟨rfl, HK⟩, ?_⟩)
    (refine ⟨⟨?_, ?_, ?_, ?_, ?_, ?_, ?_, ?_, ?_, ?_, ?_, ?_, ?_, ?_, ?_, ?_, ?_, ?_, ?_, ?_⟩, ⟨?_, ?_, ?_, ?_, ?_, ?_, ?_, ?_, ?_, ?_, ?_, ?_, ?_, ?_, ?_, ?_, ?_, ?_, ?_, ?_⟩, ⟨?_, ?_, ?_, ?_, ?_, ?_, ?_, ?_, ?_, ?_, ?_, ?_, ?_, ?_, ?_, ?_, ?_, ?_, ?_, ?_⟩, ⟨?_, ?_, ?_, ?_, ?_, ?_, ?_, ?_, ?_, ?_, ?_, ?_, ?_, ?_, ?_, ?_, ?_, ?_, ?_, ?_⟩, ⟨?_, ?_, ?_, ?_, ?_, ?_, ?_, ?_, ?_, ?_, ?_, ?_, ?_, ?_, ?_, ?_, ?_, ?_, ?_, ?_⟩, ⟨?_, ?_, ?_, ?_, ?_, ?_, ?_, ?_, ?_, ?_, ?_, ?_, ?_, ?_, ?_, ?_, ?_, ?_, ?_, ?_⟩, ⟨?_, ?_, ?_, ?_, ?_, ?_, ?_, ?_, ?_, ?_, ?_, ?_, ?_, ?_, ?_, ?_, ?_, ?_, ?_, undef⟩, ?_⟩; rotate_left 139; refine @congrArg _ _ _ _ (fun x => Act.mk (List.toArray x) []) ?_; dsimp only; repeat (refine congr (congrArg List.cons (?_ : _ = _)) ?_; · exact rfl); exact rfl)
  case pass0 =>
    clear hlt2 HA HMM HK
    rintro a' w' ⟨rfl, k, c, hk, hlb, g0, g1, g2, g3, g4, g5, g6, rfl⟩
    obtain ⟨_, HK⟩ | ⟨h, _⟩ := hlb
    rotate_left
    · exact absurd h (by omega)
    by_cases hend : k = s.size
    · have HF : Hid (nextV s.data.toList op nv K = .tuple #[tokV 0 [] 0 k k, .int .i64 0]) := by
        unfold Hid; rw [← HK.out, skipK_end _ _ (by rw [hend]; exact Nat.le_refl _), nextV, List.drop_eq_nil_of_le (by rw [hend]; exact Nat.le_refl _)]
      have bk : ((k : Int) == s.size) = true := beq_iff_eq.2 (by omega)
      clear hend
      go_wp2
      refine bodyPost_ret (v := .tuple #[tokV 0 [] 0 k k, .int .i64 0]) (by simp [results, Tryd.results7, go_sem, tokV]) rfl ⟨by rw [HF.out], (Below.refl _ _).alloc (Nat.le_refl _) _⟩
    have hks : k < s.size := by omega
    have hkl : k < s.data.toList.length := by simpa using hks
    have bk : ((k : Int) == s.size) = false := beq_eq_false_iff_ne.2 (by omega)
    clear hend
    by_cases hbl : s[k] = 32 ∨ s[k] = 9 ∨ s[k] = 13
    · have HS := Lib.hid (skipK_blank _ _ hkl hbl)
      obtain hb | hb | hb := hbl
      · have b32 : ((s[k].toNat : Int) == 32) = true := beq_t (d := 32) hb
        clear hb
        go_wp2
        go_step3
        have e1 : ((k : Int) + 1) = ((k + 1 : Nat) : Int) := by omega
        rw [e1]
        refine ⟨⟨rfl, (k + 1), (s[k].toNat : Int), by omega, .inl ⟨rfl, by unfold Hid; rw [← HS.out]; exact HK.out⟩, ?_⟩, ?_⟩
        · (refine ⟨⟨?_, ?_, ?_, ?_, ?_, ?_, ?_, ?_, ?_, ?_, ?_, ?_, ?_, ?_, ?_, ?_, ?_, ?_, ?_, ?_⟩, ⟨?_, ?_, ?_, ?_, ?_, ?_, ?_, ?_, ?_, ?_, ?_, ?_, ?_, ?_, ?_, ?_, ?_, ?_, ?_, ?_⟩, ⟨?_, ?_, ?_, ?_, ?_, ?_, ?_, ?_, ?_, ?_, ?_, ?_, ?_, ?_, ?_, ?_, ?_, ?_, ?_, ?_⟩, ⟨?_, ?_, ?_, ?_, ?_, ?_, ?_, ?_, ?_, ?_, ?_, ?_, ?_, ?_, ?_, ?_, ?_, ?_, ?_, ?_⟩, ⟨?_, ?_, ?_, ?_, ?_, ?_, ?_, ?_, ?_, ?_, ?_, ?_, ?_, ?_, ?_, ?_, ?_, ?_, ?_, ?_⟩, ⟨?_, ?_, ?_, ?_, ?_, ?_, ?_, ?_, ?_, ?_, ?_, ?_, ?_, ?_, ?_, ?_, ?_, ?_, ?_, ?_⟩, ⟨?_, ?_, ?_, ?_, ?_, ?_, ?_, ?_, ?_, ?_, ?_, ?_, ?_, ?_, ?_, ?_, ?_, ?_, ?_, undef⟩, ?_⟩; rotate_left 139; refine @congrArg _ _ _ _ (fun x => Act.mk (List.toArray x) []) ?_; dsimp only; repeat (refine congr (congrArg List.cons (?_ : _ = _)) ?_; · exact rfl); exact rfl)
        · exact mu7_lt0 s _ _ _ _ k (k + 1) (by omega) (by omega) rfl rfl
      · have b32 : ((s[k].toNat : Int) == 32) = false := beq_f (d := 32) (by rw [hb]; decide)
        have b9 : ((s[k].toNat : Int) == 9) = true := beq_t (d := 9) hb
        clear hb
        go_wp2
        go_step3
        have e1 : ((k : Int) + 1) = ((k + 1 : Nat) : Int) := by omega
        rw [e1]
        refine ⟨⟨rfl, (k + 1), (s[k].toNat : Int), by omega, .inl ⟨rfl, by unfold Hid; rw [← HS.out]; exact HK.out⟩, ?_⟩, ?_⟩
        · (refine ⟨⟨?_, ?_, ?_, ?_, ?_, ?_, ?_, ?_, ?_, ?_, ?_, ?_, ?_, ?_, ?_, ?_, ?_, ?_, ?_, ?_⟩, ⟨?_, ?_, ?_, ?_, ?_, ?_, ?_, ?_, ?_, ?_, ?_, ?_, ?_, ?_, ?_, ?_, ?_, ?_, ?_, ?_⟩, ⟨?_, ?_, ?_, ?_, ?_, ?_, ?_, ?_, ?_, ?_, ?_, ?_, ?_, ?_, ?_, ?_, ?_, ?_, ?_, ?_⟩, ⟨?_, ?_, ?_, ?_, ?_, ?_, ?_, ?_, ?_, ?_, ?_, ?_, ?_, ?_, ?_, ?_, ?_, ?_, ?_, ?_⟩, ⟨?_, ?_, ?_, ?_, ?_, ?_, ?_, ?_, ?_, ?_, ?_, ?_, ?_, ?_, ?_, ?_, ?_, ?_, ?_, ?_⟩, ⟨?_, ?_, ?_, ?_, ?_, ?_, ?_, ?_, ?_, ?_, ?_, ?_, ?_, ?_, ?_, ?_, ?_, ?_, ?_, ?_⟩, ⟨?_, ?_, ?_, ?_, ?_, ?_, ?_, ?_, ?_, ?_, ?_, ?_, ?_, ?_, ?_, ?_, ?_, ?_, ?_, undef⟩, ?_⟩; rotate_left 139; refine @congrArg _ _ _ _ (fun x => Act.mk (List.toArray x) []) ?_; dsimp only; repeat (refine congr (congrArg List.cons (?_ : _ = _)) ?_; · exact rfl); exact rfl)
        · exact mu7_lt0 s _ _ _ _ k (k + 1) (by omega) (by omega) rfl rfl
      · have b32 : ((s[k].toNat : Int) == 32) = false := beq_f (d := 32) (by rw [hb]; decide)
        have b9 : ((s[k].toNat : Int) == 9) = false := beq_f (d := 9) (by rw [hb]; decide)
        have b13 : ((s[k].toNat : Int) == 13) = true := beq_t (d := 13) hb
        clear hb
        go_wp2
        go_step3
        have e1 : ((k : Int) + 1) = ((k + 1 : Nat) : Int) := by omega
        rw [e1]
        refine ⟨⟨rfl, (k + 1), (s[k].toNat : Int), by omega, .inl ⟨rfl, by unfold Hid; rw [← HS.out]; exact HK.out⟩, ?_⟩, ?_⟩
        · (refine ⟨⟨?_, ?_, ?_, ?_, ?_, ?_, ?_, ?_, ?_, ?_, ?_, ?_, ?_, ?_, ?_, ?_, ?_, ?_, ?_, ?_⟩, ⟨?_, ?_, ?_, ?_, ?_, ?_, ?_, ?_, ?_, ?_, ?_, ?_, ?_, ?_, ?_, ?_, ?_, ?_, ?_, ?_⟩, ⟨?_, ?_, ?_, ?_, ?_, ?_, ?_, ?_, ?_, ?_, ?_, ?_, ?_, ?_, ?_, ?_, ?_, ?_, ?_, ?_⟩, ⟨?_, ?_, ?_, ?_, ?_, ?_, ?_, ?_, ?_, ?_, ?_, ?_, ?_, ?_, ?_, ?_, ?_, ?_, ?_, ?_⟩, ⟨?_, ?_, ?_, ?_, ?_, ?_, ?_, ?_, ?_, ?_, ?_, ?_, ?_, ?_, ?_, ?_, ?_, ?_, ?_, ?_⟩, ⟨?_, ?_, ?_, ?_, ?_, ?_, ?_, ?_, ?_, ?_, ?_, ?_, ?_, ?_, ?_, ?_, ?_, ?_, ?_, ?_⟩, ⟨?_, ?_, ?_, ?_, ?_, ?_, ?_, ?_, ?_, ?_, ?_, ?_, ?_, ?_, ?_, ?_, ?_, ?_, ?_, undef⟩, ?_⟩; rotate_left 139; refine @congrArg _ _ _ _ (fun x => Act.mk (List.toArray x) []) ?_; dsimp only; repeat (refine congr (congrArg List.cons (?_ : _ = _)) ?_; · exact rfl); exact rfl)
        · exact mu7_lt0 s _ _ _ _ k (k + 1) (by omega) (by omega) rfl rfl
    have b32 : ((s[k].toNat : Int) == 32) = false := beq_f (d := 32) (fun h => hbl (.inl h))
    have b9 : ((s[k].toNat : Int) == 9) = false := beq_f (d := 9) (fun h => hbl (.inr (.inl h)))
    have b13 : ((s[k].toNat : Int) == 13) = false := beq_f (d := 13) (fun h => hbl (.inr (.inr h)))
    by_cases hjn : s[k] = 92 ∧ s.data.toList[k + 1]? = some 10
    · obtain ⟨h92, hj⟩ := hjn
      have hk1l : k + 1 < s.data.toList.length := by
        rcases Nat.lt_or_ge (k + 1) s.data.toList.length with h | h
        · exact h
        · rw [List.getElem?_eq_none h] at hj; exact absurd hj (by simp)
      have hk1 : k + 1 < s.size := by simpa using hk1l
      have h10 : s[k + 1] = 10 := by rw [List.getElem?_eq_getElem hk1l] at hj; exact Option.some.inj hj
      have HS := Lib.hid (skipK_join _ _ hk1l h92 h10)
      have b92 : ((s[k].toNat : Int) == 92) = true := beq_t (d := 92) h92
      have b10 : ((s[k + 1].toNat : Int) == 10) = true := beq_t (d := 10) h10
      have d1 : decide ((k : Int) + 1 < s.size) = true := decide_eq_true (by omega)
      clear h92 hj h10 hbl
      go_wp2
      go_step3
      have e1 : ((k : Int) + 2) = ((k + 2 : Nat) : Int) := by omega
      rw [e1]
      refine ⟨⟨rfl, (k + 2), (s[k].toNat : Int), by omega, .inl ⟨rfl, by unfold Hid; rw [← HS.out]; exact HK.out⟩, ?_⟩, ?_⟩
      · (refine ⟨⟨?_, ?_, ?_, ?_, ?_, ?_, ?_, ?_, ?_, ?_, ?_, ?_, ?_, ?_, ?_, ?_, ?_, ?_, ?_, ?_⟩, ⟨?_, ?_, ?_, ?_, ?_, ?_, ?_, ?_, ?_, ?_, ?_, ?_, ?_, ?_, ?_, ?_, ?_, ?_, ?_, ?_⟩, ⟨?_, ?_, ?_, ?_, ?_, ?_, ?_, ?_, ?_, ?_, ?_, ?_, ?_, ?_, ?_, ?_, ?_, ?_, ?_, ?_⟩, ⟨?_, ?_, ?_, ?_, ?_, ?_, ?_, ?_, ?_, ?_, ?_, ?_, ?_, ?_, ?_, ?_, ?_, ?_, ?_, ?_⟩, ⟨?_, ?_, ?_, ?_, ?_, ?_, ?_, ?_, ?_, ?_, ?_, ?_, ?_, ?_, ?_, ?_, ?_, ?_, ?_, ?_⟩, ⟨?_, ?_, ?_, ?_, ?_, ?_, ?_, ?_, ?_, ?_, ?_, ?_, ?_, ?_, ?_, ?_, ?_, ?_, ?_, ?_⟩, ⟨?_, ?_, ?_, ?_, ?_, ?_, ?_, ?_, ?_, ?_, ?_, ?_, ?_, ?_, ?_, ?_, ?_, ?_, ?_, undef⟩, ?_⟩; rotate_left 139; refine @congrArg _ _ _ _ (fun x => Act.mk (List.toArray x) []) ?_; dsimp only; repeat (refine congr (congrArg List.cons (?_ : _ = _)) ?_; · exact rfl); exact rfl)
      · exact mu7_lt0 s _ _ _ _ k (k + 2) (by omega) (by omega) rfl rfl
    by_cases h35 : s[k] = 35
    · have HS := Lib.hid (skipK_hash _ _ hkl h35)
      have H35 := Lib.hid (show s.data.toList[k]? = some 35 by rw [List.getElem?_eq_getElem hkl]; exact congrArg some h35)
      have b92 : ((s[k].toNat : Int) == 92) = false := beq_f (d := 92) (by rw [h35]; decide)
      have b35 : ((s[k].toNat : Int) == 35) = true := beq_t (d := 35) h35
      clear hjn hbl h35
      go_wp2
      go_step3
      refine ⟨⟨rfl, k, (s[k].toNat : Int), hk, .inr ⟨rfl, by unfold Hid; rw [← HS.out]; exact HK.out⟩, ?_⟩, ?_⟩
      · (refine ⟨⟨?_, ?_, ?_, ?_, ?_, ?_, ?_, ?_, ?_, ?_, ?_, ?_, ?_, ?_, ?_, ?_, ?_, ?_, ?_, ?_⟩, ⟨?_, ?_, ?_, ?_, ?_, ?_, ?_, ?_, ?_, ?_, ?_, ?_, ?_, ?_, ?_, ?_, ?_, ?_, ?_, ?_⟩, ⟨?_, ?_, ?_, ?_, ?_, ?_, ?_, ?_, ?_, ?_, ?_, ?_, ?_, ?_, ?_, ?_, ?_, ?_, ?_, ?_⟩, ⟨?_, ?_, ?_, ?_, ?_, ?_, ?_, ?_, ?_, ?_, ?_, ?_, ?_, ?_, ?_, ?_, ?_, ?_, ?_, ?_⟩, ⟨?_, ?_, ?_, ?_, ?_, ?_, ?_, ?_, ?_, ?_, ?_, ?_, ?_, ?_, ?_, ?_, ?_, ?_, ?_, ?_⟩, ⟨?_, ?_, ?_, ?_, ?_, ?_, ?_, ?_, ?_, ?_, ?_, ?_, ?_, ?_, ?_, ?_, ?_, ?_, ?_, ?_⟩, ⟨?_, ?_, ?_, ?_, ?_, ?_, ?_, ?_, ?_, ?_, ?_, ?_, ?_, ?_, ?_, ?_, ?_, ?_, ?_, undef⟩, ?_⟩; rotate_left 139; refine @congrArg _ _ _ _ (fun x => Act.mk (List.toArray x) []) ?_; dsimp only; repeat (refine congr (congrArg List.cons (?_ : _ = _)) ?_; · exact rfl); exact rfl)
      · exact mu7_hash s _ _ _ _ k rfl rfl H35.out
    have HKk : Hid (K = k) := by unfold Hid; rw [← HK.out]; exact skipK_stop _ _ hkl hbl h35 hjn
    have b35 : ((s[k].toNat : Int) == 35) = false := beq_f (d := 35) h35
    clear HK hbl h35
    by_cases hc : s[k] = 92
    · have hnn : ¬ (isDig (s.data.toList[k]'hkl) = true ∨ (s.data.toList[k]'hkl = 46 ∧ ((s.data.toList.drop (k + 1)).head?.map isDig) = some true)) := by rw [← byte_get s k hks, hc]; simp; decide
      have h47 : ¬ (s.data.toList[k]'hkl = 47 ∧ op = true) := by rw [← byte_get s k hks, hc]; simp
      have b92 : ((s[k].toNat : Int) == 92) = true := beq_t (d := 92) hc
      have b10 : ((s[k].toNat : Int) == 10) = false := beq_f (d := 10) (by rw [hc]; decide)
      have b46 : ((s[k].toNat : Int) == 46) = false := beq_f (d := 46) (by rw [hc]; decide)
      have b34 : ((s[k].toNat : Int) == 34) = false := beq_f (d := 34) (by rw [hc]; decide)
      have b47 : ((s[k].toNat : Int) == 47) = false := beq_f (d := 47) (by rw [hc]; decide)
      have hdg : digB (s[k].toNat : Int) = false := by rw [hc]; decide
      have hlt : letB (s[k].toNat : Int) = false := by rw [hc]; decide
      have hnl : ¬ isLet (s.data.toList[k]'hkl) = true := by rw [← byte_get s k hks, hc]; decide
      have h34 : s.data.toList[k]'hkl ≠ 34 := by rw [← byte_get s k hks, hc]; decide
      have h10 : s.data.toList[k]'hkl ≠ 10 := by rw [← byte_get s k hks, hc]; decide
      by_cases hk1 : k + 1 < s.size
      · have b10' : ((s[k + 1].toNat : Int) == 10) = false := beq_f (d := 10) (fun h => hjn ⟨hc, by rw [List.getElem?_eq_getElem (by simpa using hk1)]; exact congrArg some h⟩)
        have d1 : decide ((k : Int) + 1 < s.size) = true := decide_eq_true (by omega)
        clear hjn hc
        have HV := Lib.hid ((congrArg (nextV s.data.toList op nv) HKk.out).trans (nextV_se s.data.toList op nv k hkl h10 hnn hnl h34 h47))
        have HSG := Lib.hid (fun W => sign_any s k W HM.out hks)
        have hle := signN_le (s.data.toList.drop k)
        clear h10 hnn hnl h34 h47
        generalize signN (s.data.toList.drop k) = n at HV HSG hle
        have hle2 : k + n ≤ s.size := by simp at hle; omega
        clear hle
        by_cases hn : 0 < n
        · have HF : Hid (nextV s.data.toList op nv K = .tuple #[tokV 9 (inR s.data.toList k (k + n)) 0 k (k + n), .int .i64 0]) := by unfold Hid; rw [HV.out, if_pos hn]
          have HX : Hid ((⟨(inR s.data.toList k (k + n)).toArray⟩ : ByteArray) = s.extract k (k + n)) := by
            have : (s.extract k (k + n)).data.toList = inR s.data.toList k (k + n) := Lib.extract_data _ _ _
            unfold Hid; rw [← this]
          have dn : decide (0 < (n : Int)) = true := decide_eq_true (by omega)
          go_wp2_with (first | (go_at_call 17; refine (digit_any _ _).mono ?_; rintro e w' ⟨rfl, rfl⟩) | (go_at_call 19; refine (letter_any _ _).mono ?_; rintro e w' ⟨rfl, rfl⟩) | (go_at_call 23; refine (HSG.out _).mono ?_; rintro e w' ⟨rfl, rfl⟩))
          refine bodyPost_ret (v := .tuple #[tokV 9 (inR s.data.toList k (k + n)) 0 k (k + n), .int .i64 0]) (by simp [results, Tryd.results7, go_sem, tokV, HX.out]) rfl ⟨by rw [HF.out], (Below.refl _ _).alloc (Nat.le_refl _) _⟩
        · have HF : Hid (nextV s.data.toList op nv K = .tuple #[tokV 0 [] 0 k 0, .int .i64 20]) := by unfold Hid; rw [HV.out, if_neg hn]
          have dn : decide (0 < (n : Int)) = false := decide_eq_false (by omega)
          go_wp2_with (first | (go_at_call 17; refine (digit_any _ _).mono ?_; rintro e w' ⟨rfl, rfl⟩) | (go_at_call 19; refine (letter_any _ _).mono ?_; rintro e w' ⟨rfl, rfl⟩) | (go_at_call 23; refine (HSG.out _).mono ?_; rintro e w' ⟨rfl, rfl⟩))
          refine bodyPost_ret (v := .tuple #[tokV 0 [] 0 k 0, .int .i64 20]) (by simp [results, Tryd.results7, go_sem, tokV]) rfl ⟨by rw [HF.out], (Below.refl _ _).alloc (Nat.le_refl _) _⟩
      · have d1 : decide ((k : Int) + 1 < s.size) = false := decide_eq_false (by omega)
        clear hjn hc
        have HV := Lib.hid ((congrArg (nextV s.data.toList op nv) HKk.out).trans (nextV_se s.data.toList op nv k hkl h10 hnn hnl h34 h47))
        have HSG := Lib.hid (fun W => sign_any s k W HM.out hks)
        have hle := signN_le (s.data.toList.drop k)
        clear h10 hnn hnl h34 h47
        generalize signN (s.data.toList.drop k) = n at HV HSG hle
        have hle2 : k + n ≤ s.size := by simp at hle; omega
        clear hle
        by_cases hn : 0 < n
        · have HF : Hid (nextV s.data.toList op nv K = .tuple #[tokV 9 (inR s.data.toList k (k + n)) 0 k (k + n), .int .i64 0]) := by unfold Hid; rw [HV.out, if_pos hn]
          have HX : Hid ((⟨(inR s.data.toList k (k + n)).toArray⟩ : ByteArray) = s.extract k (k + n)) := by
            have : (s.extract k (k + n)).data.toList = inR s.data.toList k (k + n) := Lib.extract_data _ _ _
            unfold Hid; rw [← this]
          have dn : decide (0 < (n : Int)) = true := decide_eq_true (by omega)
          go_wp2_with (first | (go_at_call 17; refine (digit_any _ _).mono ?_; rintro e w' ⟨rfl, rfl⟩) | (go_at_call 19; refine (letter_any _ _).mono ?_; rintro e w' ⟨rfl, rfl⟩) | (go_at_call 23; refine (HSG.out _).mono ?_; rintro e w' ⟨rfl, rfl⟩))
          refine bodyPost_ret (v := .tuple #[tokV 9 (inR s.data.toList k (k + n)) 0 k (k + n), .int .i64 0]) (by simp [results, Tryd.results7, go_sem, tokV, HX.out]) rfl ⟨by rw [HF.out], (Below.refl _ _).alloc (Nat.le_refl _) _⟩
        · have HF : Hid (nextV s.data.toList op nv K = .tuple #[tokV 0 [] 0 k 0, .int .i64 20]) := by unfold Hid; rw [HV.out, if_neg hn]
          have dn : decide (0 < (n : Int)) = false := decide_eq_false (by omega)
          go_wp2_with (first | (go_at_call 17; refine (digit_any _ _).mono ?_; rintro e w' ⟨rfl, rfl⟩) | (go_at_call 19; refine (letter_any _ _).mono ?_; rintro e w' ⟨rfl, rfl⟩) | (go_at_call 23; refine (HSG.out _).mono ?_; rintro e w' ⟨rfl, rfl⟩))
          refine bodyPost_ret (v := .tuple #[tokV 0 [] 0 k 0, .int .i64 20]) (by simp [results, Tryd.results7, go_sem, tokV]) rfl ⟨by rw [HF.out], (Below.refl _ _).alloc (Nat.le_refl _) _⟩
    clear hjn
    have b92 : ((s[k].toNat : Int) == 92) = false := beq_f (d := 92) hc
    clear hc
    by_cases hc : s[k] = 10
    · have b10 : ((s[k].toNat : Int) == 10) = true := beq_t (d := 10) hc
      have HF : Hid (nextV s.data.toList op nv K = .tuple #[tokV 1 [] 0 k (k + 1), .int .i64 0]) := by unfold Hid; rw [HKk.out, nextV_at _ _ _ _ hkl, if_pos (by rw [← byte_get s k hks]; exact hc)]
      clear hc
      go_wp2
      refine bodyPost_ret (v := .tuple #[tokV 1 [] 0 k (k + 1), .int .i64 0]) (by simp [results, Tryd.results7, go_sem, tokV]) rfl ⟨by rw [HF.out], (Below.refl _ _).alloc (Nat.le_refl _) _⟩
    have b10 : ((s[k].toNat : Int) == 10) = false := beq_f (d := 10) hc
    have h10 : s.data.toList[k]'hkl ≠ 10 := hc
    clear hc
    by_cases hdc : isDig (s.data.toList[k]'hkl) = true
    · have hnum : isDig (s.data.toList[k]'hkl) = true ∨ (s.data.toList[k]'hkl = 46 ∧ ((s.data.toList.drop (k + 1)).head?.map isDig) = some true) := .inl hdc
      have hdg : digB (s[k].toNat : Int) = true := hdc
      clear hdc
      have HF : Hid (nextV s.data.toList op nv K = .tuple #[tokV kd tx nm f t, .int .i64 e0]) := by unfold Hid; rw [HKk.out, nextV_at _ _ _ _ hkl, if_neg h10, if_pos hnum, HNV.out]
      have HR : Hid (∀ W, Below w.heap.size w W → Calls Tryd.prog 18 #[.string s, .int .i64 k] W fun e w' => e = .returned (.tuple #[.agg #[.int .i64 kd, .string ⟨tx.toArray⟩, .float .f64 nm, .int .i64 f, .int .i64 t], .int .i64 e0]) ∧ Below W.heap.size W w') := by
        have h := HN.out; rw [HKk.out, HNV.out] at h; exact h (numStart_of _ _ hkl hnum)
      clear hnum h10
      go_wp2_with (first | (go_at_call 17; refine (digit_any _ _).mono ?_; rintro e w' ⟨rfl, rfl⟩) | (go_at_call 19; refine (letter_any _ _).mono ?_; rintro e w' ⟨rfl, rfl⟩) | (go_at_call 18; refine (HR.out _ ((Below.refl _ _).alloc (Nat.le_refl _) _)).mono ?_; rintro e w1 ⟨rfl, hb1⟩; have hb2 := hb1.mono (B' := w.heap.size + 1) (by simp); obtain ⟨c0, c1, c2, c3, c4, f0, f1, f2, f3, f4⟩ := cells5 hb2))
      refine bodyPost_ret (v := .tuple #[tokV kd tx nm f t, .int .i64 e0]) (by simp [results, Tryd.results7, go_sem, tokV, c0, c1, c2, c3, c4]) rfl ⟨by rw [HF.out], below_set5 hb2 _ _ _ _ _⟩
    have hdg : digB (s[k].toNat : Int) = false := eq_false_of_ne_true hdc
    by_cases hc : s[k] = 46
    · have h47 : ¬ (s.data.toList[k]'hkl = 47 ∧ op = true) := by rw [← byte_get s k hks, hc]; simp
      have b46 : ((s[k].toNat : Int) == 46) = true := beq_t (d := 46) hc
      have b34 : ((s[k].toNat : Int) == 34) = false := beq_f (d := 34) (by rw [hc]; decide)
      have b47 : ((s[k].toNat : Int) == 47) = false := beq_f (d := 47) (by rw [hc]; decide)
      have hlt : letB (s[k].toNat : Int) = false := by rw [hc]; decide
      have hnl : ¬ isLet (s.data.toList[k]'hkl) = true := by rw [← byte_get s k hks, hc]; decide
      have h34 : s.data.toList[k]'hkl ≠ 34 := by rw [← byte_get s k hks, hc]; decide
      by_cases hk1 : k + 1 < s.size
      · have d1 : decide ((k : Int) + 1 < s.size) = true := decide_eq_true (by omega)
        have hhd := head_dig s.data.toList k (by simpa using hk1)
        by_cases hd2 : isDig (s.data.toList[k + 1]'(by simpa using hk1)) = true
        · have hnum : isDig (s.data.toList[k]'hkl) = true ∨ (s.data.toList[k]'hkl = 46 ∧ ((s.data.toList.drop (k + 1)).head?.map isDig) = some true) := .inr ⟨hc, by rw [hhd, hd2]⟩
          have hdg2 : digB (s[k + 1].toNat : Int) = true := hd2
          clear hdc hd2 hhd hc hnl h34 h47
          have HF : Hid (nextV s.data.toList op nv K = .tuple #[tokV kd tx nm f t, .int .i64 e0]) := by unfold Hid; rw [HKk.out, nextV_at _ _ _ _ hkl, if_neg h10, if_pos hnum, HNV.out]
          have HR : Hid (∀ W, Below w.heap.size w W → Calls Tryd.prog 18 #[.string s, .int .i64 k] W fun e w' => e = .returned (.tuple #[.agg #[.int .i64 kd, .string ⟨tx.toArray⟩, .float .f64 nm, .int .i64 f, .int .i64 t], .int .i64 e0]) ∧ Below W.heap.size W w') := by
            have h := HN.out; rw [HKk.out, HNV.out] at h; exact h (numStart_of _ _ hkl hnum)
          clear hnum h10
          go_wp2_with (first | (go_at_call 17; refine (digit_any _ _).mono ?_; rintro e w' ⟨rfl, rfl⟩) | (go_at_call 19; refine (letter_any _ _).mono ?_; rintro e w' ⟨rfl, rfl⟩) | (go_at_call 18; refine (HR.out _ ((Below.refl _ _).alloc (Nat.le_refl _) _)).mono ?_; rintro e w1 ⟨rfl, hb1⟩; have hb2 := hb1.mono (B' := w.heap.size + 1) (by simp); obtain ⟨c0, c1, c2, c3, c4, f0, f1, f2, f3, f4⟩ := cells5 hb2))
          refine bodyPost_ret (v := .tuple #[tokV kd tx nm f t, .int .i64 e0]) (by simp [results, Tryd.results7, go_sem, tokV, c0, c1, c2, c3, c4]) rfl ⟨by rw [HF.out], below_set5 hb2 _ _ _ _ _⟩
        · have hnn : ¬ (isDig (s.data.toList[k]'hkl) = true ∨ (s.data.toList[k]'hkl = 46 ∧ ((s.data.toList.drop (k + 1)).head?.map isDig) = some true)) := by
            rintro (h | ⟨_, h⟩)
            · exact hdc h
            · rw [hhd] at h; exact hd2 (Option.some.inj h)
          have hdg2 : digB (s[k + 1].toNat : Int) = false := eq_false_of_ne_true hd2
          clear hdc hd2 hhd hc
          have HV := Lib.hid ((congrArg (nextV s.data.toList op nv) HKk.out).trans (nextV_se s.data.toList op nv k hkl h10 hnn hnl h34 h47))
          have HSG := Lib.hid (fun W => sign_any s k W HM.out hks)
          have hle := signN_le (s.data.toList.drop k)
          clear h10 hnn hnl h34 h47
          generalize signN (s.data.toList.drop k) = n at HV HSG hle
          have hle2 : k + n ≤ s.size := by simp at hle; omega
          clear hle
          by_cases hn : 0 < n
          · have HF : Hid (nextV s.data.toList op nv K = .tuple #[tokV 9 (inR s.data.toList k (k + n)) 0 k (k + n), .int .i64 0]) := by unfold Hid; rw [HV.out, if_pos hn]
            have HX : Hid ((⟨(inR s.data.toList k (k + n)).toArray⟩ : ByteArray) = s.extract k (k + n)) := by
              have : (s.extract k (k + n)).data.toList = inR s.data.toList k (k + n) := Lib.extract_data _ _ _
              unfold Hid; rw [← this]
            have dn : decide (0 < (n : Int)) = true := decide_eq_true (by omega)
            go_wp2_with (first | (go_at_call 17; refine (digit_any _ _).mono ?_; rintro e w' ⟨rfl, rfl⟩) | (go_at_call 19; refine (letter_any _ _).mono ?_; rintro e w' ⟨rfl, rfl⟩) | (go_at_call 23; refine (HSG.out _).mono ?_; rintro e w' ⟨rfl, rfl⟩))
            refine bodyPost_ret (v := .tuple #[tokV 9 (inR s.data.toList k (k + n)) 0 k (k + n), .int .i64 0]) (by simp [results, Tryd.results7, go_sem, tokV, HX.out]) rfl ⟨by rw [HF.out], (Below.refl _ _).alloc (Nat.le_refl _) _⟩
          · have HF : Hid (nextV s.data.toList op nv K = .tuple #[tokV 0 [] 0 k 0, .int .i64 20]) := by unfold Hid; rw [HV.out, if_neg hn]
            have dn : decide (0 < (n : Int)) = false := decide_eq_false (by omega)
            go_wp2_with (first | (go_at_call 17; refine (digit_any _ _).mono ?_; rintro e w' ⟨rfl, rfl⟩) | (go_at_call 19; refine (letter_any _ _).mono ?_; rintro e w' ⟨rfl, rfl⟩) | (go_at_call 23; refine (HSG.out _).mono ?_; rintro e w' ⟨rfl, rfl⟩))
            refine bodyPost_ret (v := .tuple #[tokV 0 [] 0 k 0, .int .i64 20]) (by simp [results, Tryd.results7, go_sem, tokV]) rfl ⟨by rw [HF.out], (Below.refl _ _).alloc (Nat.le_refl _) _⟩
      · have d1 : decide ((k : Int) + 1 < s.size) = false := decide_eq_false (by omega)
        have hnn : ¬ (isDig (s.data.toList[k]'hkl) = true ∨ (s.data.toList[k]'hkl = 46 ∧ ((s.data.toList.drop (k + 1)).head?.map isDig) = some true)) := by
          rintro (h | ⟨_, h⟩)
          · exact hdc h
          · rw [head_none _ _ (by simp; omega)] at h; exact absurd h (by simp)
        clear hdc hc
        have HV := Lib.hid ((congrArg (nextV s.data.toList op nv) HKk.out).trans (nextV_se s.data.toList op nv k hkl h10 hnn hnl h34 h47))
        have HSG := Lib.hid (fun W => sign_any s k W HM.out hks)
        have hle := signN_le (s.data.toList.drop k)
        clear h10 hnn hnl h34 h47
        generalize signN (s.data.toList.drop k) = n at HV HSG hle
        have hle2 : k + n ≤ s.size := by simp at hle; omega
        clear hle
        by_cases hn : 0 < n
        · have HF : Hid (nextV s.data.toList op nv K = .tuple #[tokV 9 (inR s.data.toList k (k + n)) 0 k (k + n), .int .i64 0]) := by unfold Hid; rw [HV.out, if_pos hn]
          have HX : Hid ((⟨(inR s.data.toList k (k + n)).toArray⟩ : ByteArray) = s.extract k (k + n)) := by
            have : (s.extract k (k + n)).data.toList = inR s.data.toList k (k + n) := Lib.extract_data _ _ _
            unfold Hid; rw [← this]
          have dn : decide (0 < (n : Int)) = true := decide_eq_true (by omega)
          go_wp2_with (first | (go_at_call 17; refine (digit_any _ _).mono ?_; rintro e w' ⟨rfl, rfl⟩) | (go_at_call 19; refine (letter_any _ _).mono ?_; rintro e w' ⟨rfl, rfl⟩) | (go_at_call 23; refine (HSG.out _).mono ?_; rintro e w' ⟨rfl, rfl⟩))
          refine bodyPost_ret (v := .tuple #[tokV 9 (inR s.data.toList k (k + n)) 0 k (k + n), .int .i64 0]) (by simp [results, Tryd.results7, go_sem, tokV, HX.out]) rfl ⟨by rw [HF.out], (Below.refl _ _).alloc (Nat.le_refl _) _⟩
        · have HF : Hid (nextV s.data.toList op nv K = .tuple #[tokV 0 [] 0 k 0, .int .i64 20]) := by unfold Hid; rw [HV.out, if_neg hn]
          have dn : decide (0 < (n : Int)) = false := decide_eq_false (by omega)
          go_wp2_with (first | (go_at_call 17; refine (digit_any _ _).mono ?_; rintro e w' ⟨rfl, rfl⟩) | (go_at_call 19; refine (letter_any _ _).mono ?_; rintro e w' ⟨rfl, rfl⟩) | (go_at_call 23; refine (HSG.out _).mono ?_; rintro e w' ⟨rfl, rfl⟩))
          refine bodyPost_ret (v := .tuple #[tokV 0 [] 0 k 0, .int .i64 20]) (by simp [results, Tryd.results7, go_sem, tokV]) rfl ⟨by rw [HF.out], (Below.refl _ _).alloc (Nat.le_refl _) _⟩
    have b46 : ((s[k].toNat : Int) == 46) = false := beq_f (d := 46) hc
    have hnn : ¬ (isDig (s.data.toList[k]'hkl) = true ∨ (s.data.toList[k]'hkl = 46 ∧ ((s.data.toList.drop (k + 1)).head?.map isDig) = some true)) := by
      rintro (h | ⟨h, _⟩)
      · exact hdc h
      · exact hc h
    clear hdc hc
    by_cases hlc : isLet (s.data.toList[k]'hkl) = true
    · have hlt : letB (s[k].toNat : Int) = true := hlc
      obtain ⟨kd, tx, f, t, hw⟩ : ∃ kd tx f t, wordV s.data.toList k = tokV kd tx 0 f t := ⟨_, _, _, _, rfl⟩
      have HF : Hid (nextV s.data.toList op nv K = .tuple #[tokV kd tx 0 f t, .int .i64 0]) := by unfold Hid; rw [HKk.out, nextV_at _ _ _ _ hkl, if_neg h10, if_neg hnn, if_pos hlc, hw]
      have HR : Hid (∀ W, Below w.heap.size w W → Calls Tryd.prog 20 #[.string s, .int .i64 k] W fun e w' => e = .returned (.agg #[.int .i64 kd, .string ⟨tx.toArray⟩, .float .f64 0, .int .i64 f, .int .i64 t]) ∧ Below W.heap.size W w') := by
        intro W _; have h := word_any s k W HM.out hks; rw [hw] at h; exact h
      clear hw hlc hnn h10
      go_wp2_with (first | (go_at_call 17; refine (digit_any _ _).mono ?_; rintro e w' ⟨rfl, rfl⟩) | (go_at_call 19; refine (letter_any _ _).mono ?_; rintro e w' ⟨rfl, rfl⟩) | (go_at_call 20; refine (HR.out _ ((Below.refl _ _).alloc (Nat.le_refl _) _)).mono ?_; rintro e w1 ⟨rfl, hb1⟩; have hb2 := hb1.mono (B' := w.heap.size + 1) (by simp); obtain ⟨c0, c1, c2, c3, c4, f0, f1, f2, f3, f4⟩ := cells5 hb2))
      refine bodyPost_ret (v := .tuple #[tokV kd tx 0 f t, .int .i64 0]) (by simp [results, Tryd.results7, go_sem, tokV, c0, c1, c2, c3, c4]) rfl ⟨by rw [HF.out], below_set5 hb2 _ _ _ _ _⟩
    have hlt : letB (s[k].toNat : Int) = false := eq_false_of_ne_true hlc
    by_cases hc : s[k] = 34
    · have b34 : ((s[k].toNat : Int) == 34) = true := beq_t (d := 34) hc
      obtain ⟨kd, tx, f, t, e0, hw⟩ := textV_shape s.data.toList k
      have HF : Hid (nextV s.data.toList op nv K = .tuple #[tokV kd tx 0 f t, .int .i64 e0]) := by unfold Hid; rw [HKk.out, nextV_at _ _ _ _ hkl, if_neg h10, if_neg hnn, if_neg hlc, if_pos (by rw [← byte_get s k hks]; exact hc), hw]
      have HR : Hid (∀ W, Below w.heap.size w W → Calls Tryd.prog 21 #[.string s, .int .i64 k] W fun e w' => e = .returned (.tuple #[.agg #[.int .i64 kd, .string ⟨tx.toArray⟩, .float .f64 0, .int .i64 f, .int .i64 t], .int .i64 e0]) ∧ Below W.heap.size W w') := by
        intro W _; have h := text_any s k W hs hks hc; rw [hw] at h; exact h
      clear hw hlc hnn h10 hc
      go_wp2_with (first | (go_at_call 17; refine (digit_any _ _).mono ?_; rintro e w' ⟨rfl, rfl⟩) | (go_at_call 19; refine (letter_any _ _).mono ?_; rintro e w' ⟨rfl, rfl⟩) | (go_at_call 21; refine (HR.out _ ((Below.refl _ _).alloc (Nat.le_refl _) _)).mono ?_; rintro e w1 ⟨rfl, hb1⟩; have hb2 := hb1.mono (B' := w.heap.size + 1) (by simp); obtain ⟨c0, c1, c2, c3, c4, f0, f1, f2, f3, f4⟩ := cells5 hb2))
      refine bodyPost_ret (v := .tuple #[tokV kd tx 0 f t, .int .i64 e0]) (by simp [results, Tryd.results7, go_sem, tokV, c0, c1, c2, c3, c4]) rfl ⟨by rw [HF.out], below_set5 hb2 _ _ _ _ _⟩
    have b34 : ((s[k].toNat : Int) == 34) = false := beq_f (d := 34) hc
    have h34 : s.data.toList[k]'hkl ≠ 34 := hc
    clear hc
    by_cases hc : s[k] = 47
    · have b47 : ((s[k].toNat : Int) == 47) = true := beq_t (d := 47) hc
      cases op with
      | true =>
        obtain ⟨kd, tx, f, t, e0, hw⟩ := regexV_shape s.data.toList k
        have HF : Hid (nextV s.data.toList true nv K = .tuple #[tokV kd tx 0 f t, .int .i64 e0]) := by unfold Hid; rw [HKk.out, nextV_at _ _ _ _ hkl, if_neg h10, if_neg hnn, if_neg hlc, if_neg h34, if_pos ⟨by rw [← byte_get s k hks]; exact hc, rfl⟩, hw]
        have HR : Hid (∀ W, Below w.heap.size w W → Calls Tryd.prog 22 #[.string s, .int .i64 k] W fun e w' => e = .returned (.tuple #[.agg #[.int .i64 kd, .string ⟨tx.toArray⟩, .float .f64 0, .int .i64 f, .int .i64 t], .int .i64 e0]) ∧ Below W.heap.size W w') := by
          intro W _; have h := regex_any s k W hs hks hc; rw [hw] at h; exact h
        clear hw hlc hnn h10 hc h34
        go_wp2_with (first | (go_at_call 17; refine (digit_any _ _).mono ?_; rintro e w' ⟨rfl, rfl⟩) | (go_at_call 19; refine (letter_any _ _).mono ?_; rintro e w' ⟨rfl, rfl⟩) | (go_at_call 22; refine (HR.out _ ((Below.refl _ _).alloc (Nat.le_refl _) _)).mono ?_; rintro e w1 ⟨rfl, hb1⟩; have hb2 := hb1.mono (B' := w.heap.size + 1) (by simp); obtain ⟨c0, c1, c2, c3, c4, f0, f1, f2, f3, f4⟩ := cells5 hb2))
        refine bodyPost_ret (v := .tuple #[tokV kd tx 0 f t, .int .i64 e0]) (by simp [results, Tryd.results7, go_sem, tokV, c0, c1, c2, c3, c4]) rfl ⟨by rw [HF.out], below_set5 hb2 _ _ _ _ _⟩
      | false =>
        have h47 : ¬ (s.data.toList[k]'hkl = 47 ∧ false = true) := by simp
        have hnl := hlc
        clear hlc hc
        have HV := Lib.hid ((congrArg (nextV s.data.toList false nv) HKk.out).trans (nextV_se s.data.toList false nv k hkl h10 hnn hnl h34 h47))
        have HSG := Lib.hid (fun W => sign_any s k W HM.out hks)
        have hle := signN_le (s.data.toList.drop k)
        clear h10 hnn hnl h34 h47
        generalize signN (s.data.toList.drop k) = n at HV HSG hle
        have hle2 : k + n ≤ s.size := by simp at hle; omega
        clear hle
        by_cases hn : 0 < n
        · have HF : Hid (nextV s.data.toList false nv K = .tuple #[tokV 9 (inR s.data.toList k (k + n)) 0 k (k + n), .int .i64 0]) := by unfold Hid; rw [HV.out, if_pos hn]
          have HX : Hid ((⟨(inR s.data.toList k (k + n)).toArray⟩ : ByteArray) = s.extract k (k + n)) := by
            have : (s.extract k (k + n)).data.toList = inR s.data.toList k (k + n) := Lib.extract_data _ _ _
            unfold Hid; rw [← this]
          have dn : decide (0 < (n : Int)) = true := decide_eq_true (by omega)
          go_wp2_with (first | (go_at_call 17; refine (digit_any _ _).mono ?_; rintro e w' ⟨rfl, rfl⟩) | (go_at_call 19; refine (letter_any _ _).mono ?_; rintro e w' ⟨rfl, rfl⟩) | (go_at_call 23; refine (HSG.out _).mono ?_; rintro e w' ⟨rfl, rfl⟩))
          refine bodyPost_ret (v := .tuple #[tokV 9 (inR s.data.toList k (k + n)) 0 k (k + n), .int .i64 0]) (by simp [results, Tryd.results7, go_sem, tokV, HX.out]) rfl ⟨by rw [HF.out], (Below.refl _ _).alloc (Nat.le_refl _) _⟩
        · have HF : Hid (nextV s.data.toList false nv K = .tuple #[tokV 0 [] 0 k 0, .int .i64 20]) := by unfold Hid; rw [HV.out, if_neg hn]
          have dn : decide (0 < (n : Int)) = false := decide_eq_false (by omega)
          go_wp2_with (first | (go_at_call 17; refine (digit_any _ _).mono ?_; rintro e w' ⟨rfl, rfl⟩) | (go_at_call 19; refine (letter_any _ _).mono ?_; rintro e w' ⟨rfl, rfl⟩) | (go_at_call 23; refine (HSG.out _).mono ?_; rintro e w' ⟨rfl, rfl⟩))
          refine bodyPost_ret (v := .tuple #[tokV 0 [] 0 k 0, .int .i64 20]) (by simp [results, Tryd.results7, go_sem, tokV]) rfl ⟨by rw [HF.out], (Below.refl _ _).alloc (Nat.le_refl _) _⟩
    have b47 : ((s[k].toNat : Int) == 47) = false := beq_f (d := 47) hc
    have h47 : ¬ (s.data.toList[k]'hkl = 47 ∧ op = true) := fun h => hc h.1
    have hnl := hlc
    clear hlc hc
    have HV := Lib.hid ((congrArg (nextV s.data.toList op nv) HKk.out).trans (nextV_se s.data.toList op nv k hkl h10 hnn hnl h34 h47))
    have HSG := Lib.hid (fun W => sign_any s k W HM.out hks)
    have hle := signN_le (s.data.toList.drop k)
    clear h10 hnn hnl h34 h47
    generalize signN (s.data.toList.drop k) = n at HV HSG hle
    have hle2 : k + n ≤ s.size := by simp at hle; omega
    clear hle
    by_cases hn : 0 < n
    · have HF : Hid (nextV s.data.toList op nv K = .tuple #[tokV 9 (inR s.data.toList k (k + n)) 0 k (k + n), .int .i64 0]) := by unfold Hid; rw [HV.out, if_pos hn]
      have HX : Hid ((⟨(inR s.data.toList k (k + n)).toArray⟩ : ByteArray) = s.extract k (k + n)) := by
        have : (s.extract k (k + n)).data.toList = inR s.data.toList k (k + n) := Lib.extract_data _ _ _
        unfold Hid; rw [← this]
      have dn : decide (0 < (n : Int)) = true := decide_eq_true (by omega)
      go_wp2_with (first | (go_at_call 17; refine (digit_any _ _).mono ?_; rintro e w' ⟨rfl, rfl⟩) | (go_at_call 19; refine (letter_any _ _).mono ?_; rintro e w' ⟨rfl, rfl⟩) | (go_at_call 23; refine (HSG.out _).mono ?_; rintro e w' ⟨rfl, rfl⟩))
      refine bodyPost_ret (v := .tuple #[tokV 9 (inR s.data.toList k (k + n)) 0 k (k + n), .int .i64 0]) (by simp [results, Tryd.results7, go_sem, tokV, HX.out]) rfl ⟨by rw [HF.out], (Below.refl _ _).alloc (Nat.le_refl _) _⟩
    · have HF : Hid (nextV s.data.toList op nv K = .tuple #[tokV 0 [] 0 k 0, .int .i64 20]) := by unfold Hid; rw [HV.out, if_neg hn]
      have dn : decide (0 < (n : Int)) = false := decide_eq_false (by omega)
      go_wp2_with (first | (go_at_call 17; refine (digit_any _ _).mono ?_; rintro e w' ⟨rfl, rfl⟩) | (go_at_call 19; refine (letter_any _ _).mono ?_; rintro e w' ⟨rfl, rfl⟩) | (go_at_call 23; refine (HSG.out _).mono ?_; rintro e w' ⟨rfl, rfl⟩))
      refine bodyPost_ret (v := .tuple #[tokV 0 [] 0 k 0, .int .i64 20]) (by simp [results, Tryd.results7, go_sem, tokV]) rfl ⟨by rw [HF.out], (Below.refl _ _).alloc (Nat.le_refl _) _⟩
  case pass1 =>
    clear hlt2 HA HMM HK
    rintro a' w' ⟨rfl, k, c, hk, hlb, g0, g1, g2, g3, g4, g5, g6, rfl⟩
    obtain ⟨h, _⟩ | ⟨_, HK⟩ := hlb
    · exact absurd h (by omega)
    by_cases hks : k < s.size
    · by_cases hc : s[k] = 10
      · have hb : ((s[k].toNat : Int) != 10) = false := bne_f (d := 10) hc
        have HS := Lib.hid (skipC_nl _ _ (by simpa using hks) hc)
        have H35 := Lib.hid (show s.data.toList[k]? ≠ some 35 by rw [List.getElem?_eq_getElem (by simpa using hks)]; rw [byte_get] at hc; rw [hc]; decide)
        clear hc
        go_wp2
        go_step3
        refine ⟨⟨rfl, k, c, hk, .inl ⟨rfl, by unfold Hid; rw [← HS.out]; exact HK.out⟩, ?_⟩, ?_⟩
        · (refine ⟨⟨?_, ?_, ?_, ?_, ?_, ?_, ?_, ?_, ?_, ?_, ?_, ?_, ?_, ?_, ?_, ?_, ?_, ?_, ?_, ?_⟩, ⟨?_, ?_, ?_, ?_, ?_, ?_, ?_, ?_, ?_, ?_, ?_, ?_, ?_, ?_, ?_, ?_, ?_, ?_, ?_, ?_⟩, ⟨?_, ?_, ?_, ?_, ?_, ?_, ?_, ?_, ?_, ?_, ?_, ?_, ?_, ?_, ?_, ?_, ?_, ?_, ?_, ?_⟩, ⟨?_, ?_, ?_, ?_, ?_, ?_, ?_, ?_, ?_, ?_, ?_, ?_, ?_, ?_, ?_, ?_, ?_, ?_, ?_, ?_⟩, ⟨?_, ?_, ?_, ?_, ?_, ?_, ?_, ?_, ?_, ?_, ?_, ?_, ?_, ?_, ?_, ?_, ?_, ?_, ?_, ?_⟩, ⟨?_, ?_, ?_, ?_, ?_, ?_, ?_, ?_, ?_, ?_, ?_, ?_, ?_, ?_, ?_, ?_, ?_, ?_, ?_, ?_⟩, ⟨?_, ?_, ?_, ?_, ?_, ?_, ?_, ?_, ?_, ?_, ?_, ?_, ?_, ?_, ?_, ?_, ?_, ?_, ?_, undef⟩, ?_⟩; rotate_left 139; refine @congrArg _ _ _ _ (fun x => Act.mk (List.toArray x) []) ?_; dsimp only; repeat (refine congr (congrArg List.cons (?_ : _ = _)) ?_; · exact rfl); exact rfl)
        · exact mu7_back s _ _ _ _ k rfl rfl H35.out
      · have hb : ((s[k].toNat : Int) != 10) = true := bne_t (d := 10) hc
        have HS := Lib.hid (skipC_step _ _ (by simpa using hks) hc)
        clear hc
        go_wp2
        go_step3
        have e1 : ((k : Int) + 1) = ((k + 1 : Nat) : Int) := by omega
        rw [e1]
        refine ⟨⟨rfl, k + 1, c, by omega, .inr ⟨rfl, by unfold Hid; rw [← HS.out]; exact HK.out⟩, ?_⟩, ?_⟩
        · (refine ⟨⟨?_, ?_, ?_, ?_, ?_, ?_, ?_, ?_, ?_, ?_, ?_, ?_, ?_, ?_, ?_, ?_, ?_, ?_, ?_, ?_⟩, ⟨?_, ?_, ?_, ?_, ?_, ?_, ?_, ?_, ?_, ?_, ?_, ?_, ?_, ?_, ?_, ?_, ?_, ?_, ?_, ?_⟩, ⟨?_, ?_, ?_, ?_, ?_, ?_, ?_, ?_, ?_, ?_, ?_, ?_, ?_, ?_, ?_, ?_, ?_, ?_, ?_, ?_⟩, ⟨?_, ?_, ?_, ?_, ?_, ?_, ?_, ?_, ?_, ?_, ?_, ?_, ?_, ?_, ?_, ?_, ?_, ?_, ?_, ?_⟩, ⟨?_, ?_, ?_, ?_, ?_, ?_, ?_, ?_, ?_, ?_, ?_, ?_, ?_, ?_, ?_, ?_, ?_, ?_, ?_, ?_⟩, ⟨?_, ?_, ?_, ?_, ?_, ?_, ?_, ?_, ?_, ?_, ?_, ?_, ?_, ?_, ?_, ?_, ?_, ?_, ?_, ?_⟩, ⟨?_, ?_, ?_, ?_, ?_, ?_, ?_, ?_, ?_, ?_, ?_, ?_, ?_, ?_, ?_, ?_, ?_, ?_, ?_, undef⟩, ?_⟩; rotate_left 139; refine @congrArg _ _ _ _ (fun x => Act.mk (List.toArray x) []) ?_; dsimp only; repeat (refine congr (congrArg List.cons (?_ : _ = _)) ?_; · exact rfl); exact rfl)
        · exact mu7_lt1 s _ _ _ _ k (k + 1) (by omega) hks rfl rfl
    · have HS := Lib.hid (skipC_end s.data.toList k (by simp; omega))
      have H35 := Lib.hid (show s.data.toList[k]? ≠ some 35 by rw [List.getElem?_eq_none (by simp; omega)]; simp)
      have d1 : decide ((k : Int) < s.size) = false := decide_eq_false (by omega)
      go_wp2
      go_step3
      refine ⟨⟨rfl, k, c, hk, .inl ⟨rfl, by unfold Hid; rw [← HS.out]; exact HK.out⟩, ?_⟩, ?_⟩
      · (refine ⟨⟨?_, ?_, ?_, ?_, ?_, ?_, ?_, ?_, ?_, ?_, ?_, ?_, ?_, ?_, ?_, ?_, ?_, ?_, ?_, ?_⟩, ⟨?_, ?_, ?_, ?_, ?_, ?_, ?_, ?_, ?_, ?_, ?_, ?_, ?_, ?_, ?_, ?_, ?_, ?_, ?_, ?_⟩, ⟨?_, ?_, ?_, ?_, ?_, ?_, ?_, ?_, ?_, ?_, ?_, ?_, ?_, ?_, ?_, ?_, ?_, ?_, ?_, ?_⟩, ⟨?_, ?_, ?_, ?_, ?_, ?_, ?_, ?_, ?_, ?_, ?_, ?_, ?_, ?_, ?_, ?_, ?_, ?_, ?_, ?_⟩, ⟨?_, ?_, ?_, ?_, ?_, ?_, ?_, ?_, ?_, ?_, ?_, ?_, ?_, ?_, ?_, ?_, ?_, ?_, ?_, ?_⟩, ⟨?_, ?_, ?_, ?_, ?_, ?_, ?_, ?_, ?_, ?_, ?_, ?_, ?_, ?_, ?_, ?_, ?_, ?_, ?_, ?_⟩, ⟨?_, ?_, ?_, ?_, ?_, ?_, ?_, ?_, ?_, ?_, ?_, ?_, ?_, ?_, ?_, ?_, ?_, ?_, ?_, undef⟩, ?_⟩; rotate_left 139; refine @congrArg _ _ _ _ (fun x => Act.mk (List.toArray x) []) ?_; dsimp only; repeat (refine congr (congrArg List.cons (?_ : _ = _)) ?_; · exact rfl); exact rfl)
      · exact mu7_back s _ _ _ _ k rfl rfl H35.out

end Go.Proofs.YtkedagbknflacaaDoor
