/- Memory: a row of bytes that grows by append, with its block kept in sight. No program here. -/
import Derived.Test.YtdencljnbilchaaGreatDoorGm
import Derived.WalkKit
import Derived.Deep.Draws
import Derived.Laws.AppendOwn
import Derived.OwnWalk

namespace Go
open Go.RowKit

/-- A slice value at block g: its elements xs (of one cell each), and room behind them. -/
def RowAt (w : World) (e : TypeId) (v : Value) (g : Nat) (xs : List Value) : Prop :=
  ∃ cap cur, v = .slice (some ⟨g, 0, none⟩) xs.length cap ∧ w.heap[g]? = some (.cells cur e (0, 0)) ∧ xs.length ≤ cap ∧ cap ≤ maxLen ∧ cur.size = cap ∧ cur.toList.take xs.length = xs

theorem RowAt.own {w : World} {e : TypeId} {v : Value} {g : Nat} {xs : List Value} (h : RowAt w e v g xs) (B : Nat) (hB : B ≤ g) : w.ownsRow B e 1 v xs.length xs := by
  obtain ⟨cap, cur, rfl, h1, h2, h3, h4, h5⟩ := h
  exact ⟨by simp, .inr ⟨g, cap, cur, rfl, hB, h1, h2, h3, by simpa using h4, by simpa using h5⟩⟩

theorem RowAt.lt {w : World} {e : TypeId} {v : Value} {g : Nat} {xs : List Value} (h : RowAt w e v g xs) : g < w.heap.size := by
  obtain ⟨cap, cur, rfl, h1, _⟩ := h
  exact (Array.getElem?_eq_some_iff.1 h1).1

theorem RowAt.kept {w w' : World} {e : TypeId} {v : Value} {g : Nat} {xs : List Value} (h : RowAt w e v g xs) (hk : w'.heap[g]? = w.heap[g]?) : RowAt w' e v g xs := by
  obtain ⟨cap, cur, rfl, h1, h2, h3, h4, h5⟩ := h
  exact ⟨cap, cur, rfl, hk.trans h1, h2, h3, h4, h5⟩

theorem run_append_row {P : Program} (w : World) (t ty e : TypeId) (i : TypeInfo) (z : Value) (ht : P.underlying t = some (.slice e)) (hi : P.info? e = some i) (hz : i.zero = some z)
    (hsize : i.size = 1) (hby : i.bytes = 1) (hzs : z.cells.size = 1)
    (v : Value) (g : Nat) (xs : List Value) (hown : RowAt w e v g xs)
    (a : Addr) (c : Nat) (news : List Value) (hnews : ∀ j u, news[j]? = some u → w.cell? (a.add j) = some u) (h1 : ∀ u ∈ news, u.oneCell' = true)
    (hb : xs.length + news.length ≤ 70368744177664) :
    ∃ v' g' w', (Builtin.append_ #[t, t] ty #[v, .slice (some a) news.length c]).run P w = .ok v' w' ∧ RowAt w' e v' g' (xs ++ news) ∧ (g' = g ∨ g' = w.heap.size) ∧ w.grownBy w' (some g) := by
  obtain ⟨cap, cur, rfl, hg, hnc, hcm, hcs, htake⟩ := hown
  by_cases hroom : xs.length + news.length ≤ cap
  · have hr := run_append_room (P := P) w t ty e i ht hi g xs.length cap cur hg a news.length c news (by rw [hsize]; simp) hnews h1 hroom (by rw [hsize]; omega)
    refine ⟨_, g, _, hr, ⟨cap, _, by simp, setRow_heap w g cur _ e _ hg, by simpa using hroom, hcm, ?_, ?_⟩, .inl rfl, ⟨rfl, rfl, rfl, by simp, fun k _ hk => setRow_other w g k _ (fun e => hk (by rw [e]))⟩⟩
    · simp only [hsize, Nat.mul_one, List.size_toArray, List.length_append, List.length_take, List.length_drop, Array.length_toList]
      omega
    · simp only [hsize, Nat.mul_one]
      rw [htake]
      exact List.take_left
  · have holds : ∀ j u, xs[j]? = some u → w.cell? ((⟨g, 0, none⟩ : Addr).add j) = some u := by
      intro j u hu
      have hadd : (⟨g, 0, none⟩ : Addr).add j = ⟨g, j, none⟩ := by unfold Addr.add; split <;> simp_all
      rw [hadd, cell_of_row w g j cur e (0, 0) hg]
      rw [← htake, List.getElem?_take] at hu
      split at hu
      · simpa using hu
      · cases hu
    have hmx : xs.length + news.length ≤ maxLen := by unfold maxLen; omega
    have hr := run_append_grow (P := P) w t ty e i z ht hi hz ⟨g, 0, none⟩ xs.length cap xs (by rw [hsize]; simp) holds a news.length c news (by rw [hsize]; simp) hnews (by omega) (by omega) (growslice_fits (by omega) (by rw [hby]; omega))
    have hge := grownCap_ge w (xs.length + news.length) cap e
    have hcm' : grownCap w (xs.length + news.length) cap e ≤ maxLen := grownCap_le_maxLen w (xs.length + news.length) cap e hmx
    refine ⟨_, w.heap.size, _, hr, ⟨_, _, by simp, Go.heap_alloc_new w.drew _, by simpa using hge, hcm', ?_, ?_⟩, .inr rfl, ⟨rfl, rfl, rfl, by simp, fun k hk _ => Go.heap_alloc_old w.drew _ hk⟩⟩
    · simp only [Array.size_append, List.size_toArray, size_zeroCells, hzs]
      omega
    · simp only [Array.toList_append, List.append_assoc]
      rw [← List.append_assoc]
      exact List.take_left

/-- What has been appended so far, from a row at block bd: the world w at the beginning, wr now. -/
def App (w : World) (e : TypeId) (bd : Nat) (v : Value) (wr : World) (acc : List UInt8) : Prop :=
  ∃ g, RowAt wr e v g (u8s acc) ∧ (g = bd ∨ w.heap.size ≤ g) ∧ w.grownBy wr (some bd)

theorem App.start {w : World} {e : TypeId} {bd : Nat} {v : Value} {acc : List UInt8} (h : RowAt w e v bd (u8s acc)) : App w e bd v w acc := ⟨bd, h, .inl rfl, World.grownBy.refl _ _⟩

theorem App.only {w wr : World} {e : TypeId} {bd : Nat} {v : Value} {acc : List UInt8} (h : App w e bd v wr acc) : w.grownBy wr (some bd) := h.choose_spec.2.2

theorem App.alloc {w wr : World} {e : TypeId} {bd : Nat} {v : Value} {acc : List UInt8} (h : App w e bd v wr acc) (o : Obj) : App w e bd v (wr.alloc o) acc := by
  obtain ⟨g, h1, h2, h3⟩ := h
  exact ⟨g, h1.kept (Go.heap_alloc_old wr o h1.lt), h2, ⟨h3.os, h3.tape, h3.output, by have := h3.size; simp; omega, fun k hk hne => (Go.heap_alloc_old wr o (Nat.lt_of_lt_of_le hk h3.size)).trans (h3.block k hk hne)⟩⟩

theorem App.drew {w wr : World} {e : TypeId} {bd : Nat} {v : Value} {acc : List UInt8} (h : App w e bd v wr acc) : App w e bd v wr.drew acc := by
  obtain ⟨g, h1, h2, h3⟩ := h
  exact ⟨g, h1.kept rfl, h2, ⟨h3.os, h3.tape, h3.output, h3.size, h3.block⟩⟩
theorem App.drewN {w wr : World} {e : TypeId} {bd : Nat} {v : Value} {acc : List UInt8} (h : App w e bd v wr acc) (n : Nat) : App w e bd v (wr.drewN n) acc := by
  obtain ⟨g, h1, h2, h3⟩ := h
  exact ⟨g, h1.kept rfl, h2, ⟨h3.os, h3.tape, h3.output, h3.size, h3.block⟩⟩

/-- An append of bytes that lie somewhere, to such a row. -/
theorem wpList_app {P : Program} (w : World) {ops : Array Oper} {rest : List Oper} {o : Oper} {a : Act} {Q : Exit → Act → World → Prop} (hgd : o.guard = none) (s x : Operand) (t : TypeId)
    (ho : o.op = .call { callee := .builtin .append, args := #[s, x], argTypes := #[t, t] })
    (e : TypeId) (i : TypeInfo) (z : Value) (ht : P.underlying t = some (.slice e)) (hi : P.info? e = some i) (hz : i.zero = some z)
    (hsize : i.size = 1) (hby : i.bytes = 1) (hzs : z.cells.size = 1)
    (w0 : World) (bd : Nat) (v : Value) (acc new : List UInt8) (hs : a.eval s = v) (hown : App w0 e bd v w acc)
    (ad : Addr) (c n : Nat) (hx : a.eval x = .slice (some ad) n c) (hn : n = new.length) (hnews : ∀ j (h : j < new.length), w.cell? (ad.add j) = some (.int .u8 new[j].toNat))
    (hb : acc.length + new.length ≤ 70368744177664)
    (h : ∀ v' w', App w0 e bd v' w' (acc ++ new) → wpList P ops Q rest (a.put o.dst v') w') : wpList P ops Q (o :: rest) a w :=
  wpList_plain hgd fun K hK => by
    subst hn
    obtain ⟨g, h1, h2, h3⟩ := hown
    have hl : (u8s new).length = new.length := u8s_length new
    obtain ⟨v', g', w', hr, r1, r2, r3⟩ := run_append_row (P := P) w t o.type e i z ht hi hz hsize hby hzs v g (u8s acc) h1 ad c (u8s new) (fun j u hu => by
      have hj : j < new.length := by
        have := (List.getElem?_eq_some_iff.1 hu).1
        rwa [hl] at this
      rw [hnews j hj]
      simp only [u8s, List.getElem?_map, List.getElem?_eq_getElem hj, Option.map_some] at hu
      exact hu) (fun u hu => by simp only [u8s, List.mem_map] at hu; obtain ⟨x, _, rfl⟩ := hu; rfl) (by simpa [u8s_length] using hb)
    rw [hl] at hr
    unfold Oper.wp
    simp only [execOp, ho, resolve, invoke, builtin, Sem.run_bind, Sem.run_pure, Result.andThen_ok, List.map_toArray, List.map_cons, List.map_nil, hs, hx, hr]
    refine hK _ _ (h v' w' ⟨g', by rw [show u8s (acc ++ new) = u8s acc ++ u8s new by simp [u8s]]; exact r1, ?_, ?_⟩)
    · rcases r2 with rfl | rfl
      · exact h2
      · have := h3.size; exact .inr (by omega)
    · refine ⟨r3.os.trans h3.os, r3.tape.trans h3.tape, r3.output.trans h3.output, by have := h3.size; have := r3.size; omega, fun k hk hne => ?_⟩
      rw [r3.block k (by have := h3.size; omega) (fun e => ?_), h3.block k hk hne]
      cases e
      rcases h2 with rfl | h2
      · exact hne rfl
      · omega


theorem ofNat_toNat8 {n : Nat} (h : n < 256) : ((UInt8.ofNat n).toNat : Int) = n := by rw [UInt8.toNat_ofNat']; omega

theorem app_cell1 (wr : World) (T : TypeId) (x : Int) (c : UInt8) (h : x = c.toNat) : ∀ j (hj : j < [c].length), (wr.alloc (.cells #[.int .u8 x] T)).cell? ((⟨wr.heap.size, 0, none⟩ : Addr).add j) = some (.int .u8 ([c][j]).toNat) := by
  intro j hj
  have : j = 0 := by simpa using hj
  subst this
  rw [Addr.add_lit, World.cell?_alloc_at _ _ _ _ rfl, h]; rfl
theorem app_cell2 (wr : World) (T : TypeId) (x y : Int) (c d : UInt8) (h : x = c.toNat) (h' : y = d.toNat) : ∀ j (hj : j < [c, d].length), (wr.alloc (.cells #[.int .u8 x, .int .u8 y] T)).cell? ((⟨wr.heap.size, 0, none⟩ : Addr).add j) = some (.int .u8 ([c, d][j]).toNat) := by
  intro j hj
  have hj2 : j < 2 := hj
  obtain rfl | rfl : j = 0 ∨ j = 1 := by omega
  · rw [Addr.add_lit, World.cell?_alloc_at _ _ _ _ rfl, h]; rfl
  · rw [Addr.add_lit, World.cell?_alloc_at _ _ _ _ rfl, h']; rfl
theorem app_cell3 (wr : World) (T : TypeId) (x y z : Int) (c d g : UInt8) (h : x = c.toNat) (h' : y = d.toNat) (h'' : z = g.toNat) : ∀ j (hj : j < [c, d, g].length), (wr.alloc (.cells #[.int .u8 x, .int .u8 y, .int .u8 z] T)).cell? ((⟨wr.heap.size, 0, none⟩ : Addr).add j) = some (.int .u8 ([c, d, g][j]).toNat) := by
  intro j hj
  have hj2 : j < 3 := hj
  obtain rfl | rfl | rfl : j = 0 ∨ j = 1 ∨ j = 2 := by omega
  · rw [Addr.add_lit, World.cell?_alloc_at _ _ _ _ rfl, h]; rfl
  · rw [Addr.add_lit, World.cell?_alloc_at _ _ _ _ rfl, h']; rfl
  · rw [Addr.add_lit, World.cell?_alloc_at _ _ _ _ rfl, h'']; rfl

end Go
