/- The hand's Args: the same arguments for both printfs. -/
import Derived.Test.YtdencljnbilchaaGreatDoorJt
import Derived.Test.YtdencljnbilchaaGreatDoorRs
import Derived.Laws.AppendOwn
import Derived.OwnWalk
import Derived.Deep.Draws

namespace Go
open Go.RowKit
/-- Rows of elements of different types lie in different blocks. -/
theorem own_ne {w : World} {B1 B2 : Nat} {e1 e2 : TypeId} {k1 k2 : Nat} {v1 v2 : Value} {n1 n2 : Nat} {x1 x2 : List Value} (h1 : w.ownsRow B1 e1 k1 v1 n1 x1) (h2 : w.ownsRow B2 e2 k2 v2 n2 x2) (he : e1 ≠ e2) : v2.ownBlock = none ∨ v2.ownBlock ≠ v1.ownBlock := by
  rcases h2.2 with ⟨rfl, _⟩ | ⟨g2, _, c2, rfl, _, hg2, _⟩
  · exact .inl rfl
  · right
    rcases h1.2 with ⟨rfl, _⟩ | ⟨g1, _, c1, rfl, _, hg1, _⟩
    · simp [Value.ownBlock]
    · intro h
      simp only [Value.ownBlock, Option.some.injEq] at h
      subst h
      rw [hg1] at hg2
      injection hg2 with hg2
      injection hg2 with _ h _
      exact he h
theorem ownsRow.block_lt {w : World} {B : Nat} {e : TypeId} {k : Nat} {v : Value} {n : Nat} {x : List Value} (h : w.ownsRow B e k v n x) : ∀ q, v.ownBlock = some q → B ≤ q := fun q hq => (h.lt q hq).1
end Go
namespace Go.Proofs.YtdencljnbilchaaGreatDoor
open Go.RowKit

theorem argCells_app (A : List FArg) (a : FArg) : argCells (A ++ [a]) = argCells A ++ [.float .f64 a.n, .string ⟨a.s.toArray⟩, .bool a.num] := by
  unfold argCells; rw [List.flatMap_append]; rfl

/-- A row of arguments that has grown is a printf's arguments. -/
theorem argsAt_own {w : World} {B : Nat} {e : TypeId} {v : Value} {A : List FArg} (h : w.ownsRow B e 3 v A.length (argCells A)) : ArgsAt w w.heap.size v A := by
  rcases h.2 with ⟨rfl, h0⟩ | ⟨g, cap, cur, rfl, hb, hg, hc, hm, hs, ht⟩
  · exact ⟨0, .inl ⟨List.eq_nil_of_length_eq_zero h0, none, rfl⟩⟩
  · have hlt : g < w.heap.size := (Array.getElem?_eq_some_iff.1 hg).1
    refine ⟨cap, .inr ⟨g, 0, rfl, hc, hlt, fun i hi => ?_⟩⟩
    obtain ⟨h1, h2, h3⟩ := argCells_at A i hi
    have key : ∀ j u, (argCells A)[j]? = some u → w.cell? ⟨g, 0 + j, none⟩ = some u := fun j u hu => by
      have := h.cells (g := g) rfl j u hu
      rwa [Addr.add_lit] at this
    refine ⟨key _ _ h1, ?_, ?_⟩
    · have := key _ _ h2; rwa [show 0 + (3 * i + 1) = 0 + 3 * i + 1 by omega] at this
    · have := key _ _ h3; rwa [show 0 + (3 * i + 2) = 0 + 3 * i + 2 by omega] at this

theorem A.infoP : (Tryz.prog.info? 44).map (fun i => (i.zero, i.size, i.bytes)) = some (some (.agg #[.float .f64 0, .string ⟨#[]⟩, .bool false]), 3, 32) := by kernel_rfl
theorem A.infoQ : (Tryz.prog.info? 52).map (fun i => (i.zero, i.size, i.bytes)) = some (some (.agg #[.float .f64 0, .string ⟨#[]⟩, .bool false]), 3, 32) := by kernel_rfl

theorem bs_list (T : ByteArray) : ∃ s : List UInt8, T = ⟨s.toArray⟩ := ⟨T.data.toList, rfl⟩
theorem new_cells (W : World) (L : List Value) (T : TypeId) : ∀ j u, L[j]? = some u → (W.alloc (.cells L.toArray T)).cell? ((⟨W.heap.size, 0, none⟩ : Addr).add j) = some u := by
  intro j u h
  rw [Addr.add_lit, World.cell?_alloc_at _ _ _ _ rfl]
  simpa using h
theorem one_cells (x : FArg) : ∀ u ∈ ([.float .f64 x.n, .string ⟨x.s.toArray⟩, .bool x.num] : List Value), u.oneCell' = true := by
  intro u hu
  simp only [List.mem_cons, List.not_mem_nil, or_false] at hu
  rcases hu with rfl | rfl | rfl <;> rfl

/-- What Args leaves. -/
def ArgsEnd (w : World) (e : Ending) (w' : World) : Prop :=
  ∃ va vb A, e = .returned (.tuple #[va, vb]) ∧ A.length ≤ 12 ∧ argsOk A ∧ ArgsAt w' w'.heap.size va A ∧ ArgsAt w' w'.heap.size vb A ∧ Below w.heap.size w w'

/-- Both rows so far. -/
structure Rows2 (w wr : World) (va vb : Value) (i : Nat) (A : List FArg) : Prop where
  len : A.length = i
  ok : argsOk A
  a : wr.ownsRow w.heap.size 44 3 va i (argCells A)
  b : wr.ownsRow w.heap.size 52 3 vb i (argCells A)
  below : Below w.heap.size w wr

theorem Rows2.start (w : World) : Rows2 w w (.slice none 0 0) (.slice none 0 0) 0 [] := ⟨rfl, fun _ h => (by cases h), World.ownsRow_nil _ _ _ _, World.ownsRow_nil _ _ _ _, Below.refl _ _⟩
theorem Rows2.more {w wr wx : World} {va vb : Value} {i : Nat} {A : List FArg} (h : Rows2 w wr va vb i A) (hb : Below wr.heap.size wr wx) : Rows2 w wx va vb i A :=
  have hg : wr.grownBy wx none := ⟨hb.os, hb.tape, hb.output, hb.size, fun k hk _ => hb.block k hk⟩
  ⟨h.len, h.ok, h.a.kept hg (by cases va.ownBlock <;> simp), h.b.kept hg (by cases vb.ownBlock <;> simp), h.below.trans (hb.mono h.below.size)⟩
/-- Once the program's has grown. -/
structure Rows2A (w wr : World) (va vb : Value) (i : Nat) (A : List FArg) (x : FArg) : Prop where
  len : A.length = i
  ok : argsOk (A ++ [x])
  a : wr.ownsRow w.heap.size 44 3 va (i + 1) (argCells (A ++ [x]))
  b : wr.ownsRow w.heap.size 52 3 vb i (argCells A)
  below : Below w.heap.size w wr
theorem Rows2.growA {w wr wx : World} {va va' vb : Value} {i : Nat} {A : List FArg} {x : FArg} {o : Obj} (h : Rows2 w wr va vb i A) (hx : argOk x)
    (h1 : wx.ownsRow w.heap.size 44 3 va' (i + 1) (argCells A ++ [.float .f64 x.n, .string ⟨x.s.toArray⟩, .bool x.num])) (h2 : (wr.alloc o).grownBy wx va.ownBlock) : Rows2A w wx va' vb i A x where
  len := h.len
  ok := fun a ha => by
    rcases List.mem_append.1 ha with q | q
    · exact h.ok a q
    · rw [List.mem_singleton.1 q]; exact hx
  a := by rw [argCells_app]; exact h1
  b := (h.b.alloc o).kept h2 (own_ne (h.a.alloc o) (h.b.alloc o) (by decide))
  below := (h.below.alloc h.below.size o).grown h2 (by have := h.below.size; simp; omega) (ownsRow.block_lt h.a)
theorem Rows2A.growB {w wr wx : World} {va vb vb' : Value} {i : Nat} {A : List FArg} {x : FArg} {o : Obj} (h : Rows2A w wr va vb i A x)
    (h1 : wx.ownsRow w.heap.size 52 3 vb' (i + 1) (argCells A ++ [.float .f64 x.n, .string ⟨x.s.toArray⟩, .bool x.num])) (h2 : (wr.alloc o).grownBy wx vb.ownBlock) : Rows2 w wx va vb' (i + 1) (A ++ [x]) where
  len := by rw [List.length_append, h.len]; rfl
  ok := h.ok
  a := (h.a.alloc o).kept h2 (own_ne (h.b.alloc o) (h.a.alloc o) (by decide))
  b := by rw [argCells_app]; exact h1
  below := (h.below.alloc h.below.size o).grown h2 (by have := h.below.size; simp; omega) (ownsRow.block_lt h.b)

set_option maxRecDepth 100000 in
set_option maxHeartbeats 4000000 in
theorem args_any (ao : Option Addr) (n cap : Nat) (w : World) (hn : n ≤ 9223372036854775807) (hl : RawsAt w ao n) :
    Calls Tryz.prog 11 #[.slice ao n cap] w (ArgsEnd w) := by
  have HS := Lib.hid (Rows2.start w)
  by_cases h0 : n = 0
  · subst h0
    clear hl
    go_enter Tryz.func11, Tryz.ntmps11
    go_wp2
    go_loop [4, 5, 6] (fun a b i => a = .slice none 0 0 ∧ b = .slice none 0 0 ∧ i = .int .i64 0) (fun _ _ _ => 0)
    case atStart => exact ⟨rfl, rfl, rfl⟩
    case round =>
      obtain ⟨rfl, rfl, rfl⟩ := hrel
      go_wp2
      go_ret2
      exact ⟨_, _, [], rfl, by simp, fun _ h => (by cases h), argsAt_nil _ _, argsAt_nil _ _, HS.out.below⟩
  · obtain ⟨b, o, X, rfl, hc⟩ := hl.resolve_left h0
    have HC := Lib.hid hc
    clear hc hl
    obtain ⟨i0, hi, hz0, hz1, hz2⟩ := info_parts A.infoP
    obtain ⟨j0, kj, kz0, kz1, kz2⟩ := info_parts A.infoQ
    go_enter Tryz.func11, Tryz.ntmps11
    go_wp2
    go_loopg [4, 5, 6] 12 (fun g va vb i wr => ∃ (j : Nat) (A : List FArg), i = .int .i64 j ∧ j ≤ n ∧ j + g = 12 ∧ Hid (Rows2 w wr va vb j A))
    case atStart => exact ⟨0, [], rfl, by omega, by omega, HS⟩
    case round =>
      obtain ⟨j, A, rfl, hj, hg, HR⟩ := hrel
      by_cases hjn : j < n
      · by_cases hjm : j < 12
        · obtain ⟨hok, e0, e1, e2, e3⟩ := HC.out j hjn
          have keep : ∀ k v, w.cell? ⟨b, k, none⟩ = some v → wr.cell? ⟨b, k, none⟩ = some v := fun k v h => by
            rw [HR.out.below.cell (World.block_lt_of_cell? w ⟨b, k, none⟩ h)]; exact h
          have e0 := keep _ _ e0
          have e1 := keep _ _ e1
          have e2 := keep _ _ e2
          have e3 := keep _ _ e3
          clear keep
          rw [Nat.mul_comm 4 j] at e0 e1 e2 e3
          have HLT : Hid (∀ W, Below w.heap.size w W → Calls Tryz.prog 18 #[.slice (X j).sa (X j).sn (X j).sc, .int .i64 40] W fun e w' => ∃ s : List UInt8, e = .returned (.string ⟨s.toArray⟩) ∧ s.length ≤ 40 ∧ Below W.heap.size W w') := fun W hW => by
            refine (letters_any _ _ _ (X j).z 40 W (by omega) hok.s ?_).mono fun e w' ⟨T, h1, h2, h3⟩ => ?_
            · rcases hok.b with h | ⟨b', o', h1, h2⟩
              · exact .inl h
              · refine .inr ⟨b', o', h1, fun q hq => ⟨(h2 q hq).1, ?_⟩⟩
                rw [hW.cell (World.block_lt_of_cell? w ⟨b', o' + q, none⟩ (h2 q hq).2)]; exact (h2 q hq).2
            · obtain ⟨s, rfl⟩ := bs_list T
              exact ⟨s, h1, by simpa [ByteArray.size] using h2, h3⟩
          have HE2 : Hid (∀ W, Below w.heap.size w W → W.cell? ⟨b, o + j * 4 + 2, none⟩ = some (.bool (X j).num)) := fun W hW => by
            rw [hW.cell (World.block_lt_of_cell? w ⟨b, o + j * 4 + 2, none⟩ (by rw [Nat.mul_comm j 4]; assumption))]; rw [Nat.mul_comm j 4]; assumption
          have hn64 := Lib.hid hok.n
          have hwl := Lib.hid (ofInt_lt ((X j).whole.tmod 1000))
          have hww := hok.w
          clear hok e2
          by_cases h3 : 0 < (X j).whole.tmod 3
          · go_upto_region 9 with (fail)
            clear e0
            generalize floatOfInt .f64 ((X j).whole.tmod 1000) = x at *
            have HX := hwl
            clear hwl hn64 e3
            go_wp2_with (first
              | (go_at_call 18; refine (HLT.out _ HR.out.below).mono ?_; rintro e w5 ⟨s, rfl, hs, hb5⟩; have HR5 := Lib.hid (HR.out.more hb5); have e2 := HE2.out _ HR5.out.below; have hx : argOk ⟨x, s, (X j).num⟩ := ⟨HX.out, by show s.length ≤ 5000; omega⟩; have HXO := Lib.hid hx; clear hb5 hx)
              | (at_builtin; refine wpList_append_own _ rfl (.tmp 44) (.tmp 53) 23 rfl w.heap.size 44 i0 _ 3 32 Tryz.underlying23 hi hz0 hz1 hz2 rfl (by decide) _ _ _ rfl (HR5.out.a.alloc _) ⟨w5.heap.size, 0, none⟩ 1 1 [.float .f64 x, .string ⟨s.toArray⟩, .bool (X j).num] rfl rfl (new_cells _ _ _) (one_cells ⟨x, s, (X j).num⟩) (by unfold maxLen; omega) (by omega) (by have := HR5.out.below.size; simp; omega) ?_; intro va' w6 o1 o2 _; have HR6 := Lib.hid (HR5.out.growA HXO.out o1 o2); clear o1 o2; have e2 := HE2.out _ HR6.out.below)
              | (at_builtin; refine wpList_append_own _ rfl (.tmp 55) (.tmp 64) 24 rfl w.heap.size 52 j0 _ 3 32 Tryz.underlying24 kj kz0 kz1 kz2 rfl (by decide) _ _ _ rfl (HR6.out.b.alloc _) ⟨w6.heap.size, 0, none⟩ 1 1 [.float .f64 x, .string ⟨s.toArray⟩, .bool (X j).num] rfl rfl (new_cells _ _ _) (one_cells ⟨x, s, (X j).num⟩) (by unfold maxLen; omega) (by omega) (by have := HR6.out.below.size; simp; omega) ?_; intro vb' w7 o1 o2 _; have HR7 := Lib.hid (HR6.out.growB o1 o2); clear o1 o2))
            go_roundg (gk - 1)
            case measure => omega
            case rel => exact ⟨j + 1, A ++ [⟨x, s, (X j).num⟩], congrArg (Value.int .i64) (by omega), by omega, by omega, HR7⟩
          · go_upto_region 9 with (fail)
            clear hwl
            obtain ⟨x, hx⟩ : ∃ x, (X j).n = x := ⟨_, rfl⟩
            rw [hx]
            have HX : Hid (x < 18446744073709551616) := by rw [← hx]; exact hn64
            clear e0 hx hn64 e3
            go_wp2_with (first
              | (go_at_call 18; refine (HLT.out _ HR.out.below).mono ?_; rintro e w5 ⟨s, rfl, hs, hb5⟩; have HR5 := Lib.hid (HR.out.more hb5); have e2 := HE2.out _ HR5.out.below; have hx : argOk ⟨x, s, (X j).num⟩ := ⟨HX.out, by show s.length ≤ 5000; omega⟩; have HXO := Lib.hid hx; clear hb5 hx)
              | (at_builtin; refine wpList_append_own _ rfl (.tmp 44) (.tmp 53) 23 rfl w.heap.size 44 i0 _ 3 32 Tryz.underlying23 hi hz0 hz1 hz2 rfl (by decide) _ _ _ rfl (HR5.out.a.alloc _) ⟨w5.heap.size, 0, none⟩ 1 1 [.float .f64 x, .string ⟨s.toArray⟩, .bool (X j).num] rfl rfl (new_cells _ _ _) (one_cells ⟨x, s, (X j).num⟩) (by unfold maxLen; omega) (by omega) (by have := HR5.out.below.size; simp; omega) ?_; intro va' w6 o1 o2 _; have HR6 := Lib.hid (HR5.out.growA HXO.out o1 o2); clear o1 o2; have e2 := HE2.out _ HR6.out.below)
              | (at_builtin; refine wpList_append_own _ rfl (.tmp 55) (.tmp 64) 24 rfl w.heap.size 52 j0 _ 3 32 Tryz.underlying24 kj kz0 kz1 kz2 rfl (by decide) _ _ _ rfl (HR6.out.b.alloc _) ⟨w6.heap.size, 0, none⟩ 1 1 [.float .f64 x, .string ⟨s.toArray⟩, .bool (X j).num] rfl rfl (new_cells _ _ _) (one_cells ⟨x, s, (X j).num⟩) (by unfold maxLen; omega) (by omega) (by have := HR6.out.below.size; simp; omega) ?_; intro vb' w7 o1 o2 _; have HR7 := Lib.hid (HR6.out.growB o1 o2); clear o1 o2))
            go_roundg (gk - 1)
            case measure => omega
            case rel => exact ⟨j + 1, A ++ [⟨x, s, (X j).num⟩], congrArg (Value.int .i64) (by omega), by omega, by omega, HR7⟩
        · go_wp2
          go_ret2
          exact ⟨_, _, A, rfl, by have := HR.out.len; omega, HR.out.ok, argsAt_own (by rw [HR.out.len]; exact HR.out.a), argsAt_own (by rw [HR.out.len]; exact HR.out.b), HR.out.below⟩
      · go_wp2
        go_ret2
        exact ⟨_, _, A, rfl, by have := HR.out.len; omega, HR.out.ok, argsAt_own (by rw [HR.out.len]; exact HR.out.a), argsAt_own (by rw [HR.out.len]; exact HR.out.b), HR.out.below⟩

end Go.Proofs.YtdencljnbilchaaGreatDoor
