/- Chapter 12's known ones and Number, over the walk of Format. -/
import Derived.Test.YtdencljnbilchaaGreatDoorJo
import Derived.Test.YtdencljnbilchaaGreatDoorJm

namespace Go.Proofs.YtdencljnbilchaaGreatDoor
open Go.RowKit

/-- The cells of arguments. -/
def argCells (A : List FArg) : List Value := A.flatMap fun a => [.float .f64 a.n, .string ⟨a.s.toArray⟩, .bool a.num]
theorem argCells_at : ∀ (A : List FArg) (i : Nat) (h : i < A.length), (argCells A)[3 * i]? = some (.float .f64 A[i].n) ∧ (argCells A)[3 * i + 1]? = some (.string ⟨A[i].s.toArray⟩) ∧ (argCells A)[3 * i + 2]? = some (.bool A[i].num)
  | a :: A, 0, _ => ⟨rfl, rfl, rfl⟩
  | a :: A, i + 1, h => by
    have := argCells_at A i (by simpa using h)
    have e : argCells (a :: A) = [.float .f64 a.n, .string ⟨a.s.toArray⟩, .bool a.num] ++ argCells A := rfl
    rw [e, show 3 * (i + 1) = 3 * i + 3 by omega, show 3 * i + 3 + 1 = (3 * i + 1) + 3 by omega, show 3 * i + 3 + 2 = (3 * i + 2) + 3 by omega, List.getElem_cons_succ]
    rw [List.getElem?_append_right (by simp), List.getElem?_append_right (by simp), List.getElem?_append_right (by simp)]
    exact this

theorem argsAt_new (W : World) (A : List FArg) (T : TypeId) (n : Nat) (hn : n = A.length) : ArgsAt (W.alloc (.cells (argCells A).toArray T)) (W.heap.size + 1) (.slice (some ⟨W.heap.size, 0, none⟩) n n) A := by
  subst hn
  refine ⟨A.length, .inr ⟨W.heap.size, 0, rfl, Nat.le_refl _, by omega, fun i hi => ?_⟩⟩
  obtain ⟨h1, h2, h3⟩ := argCells_at A i hi
  refine ⟨?_, ?_, ?_⟩ <;> (rw [World.cell?_alloc_at _ _ _ _ rfl]; simp only [List.getElem?_toArray, Nat.zero_add]; assumption)
theorem argsAt_nil (W : World) (N : Nat) : ArgsAt W N (.slice none 0 0) [] := ⟨0, .inl ⟨rfl, none, rfl⟩⟩

/-- Format at arguments that lie in a block just made. -/
theorem pformat_new (f : ByteArray) (A : List FArg) (hA : argsOk A) (r : List UInt8 × Nat) (hr : formAll uintT f.data.toList A = r) (hf : f.size ≤ 140737488351232) (T : TypeId) (W : World) (hL : LaidJ W) (n : Nat) (hn : n = A.length) :
    Calls Tryz.prog 12 #[.string f, .slice (some ⟨W.heap.size, 0, none⟩) n n] (W.alloc (.cells (argCells A).toArray T)) fun e w' => e = .returned (.tuple #[.string ⟨r.1.toArray⟩, .int .i64 (errC r.2)]) ∧ Below W.heap.size W w' := by
  have hb : Below W.heap.size W (W.alloc (.cells (argCells A).toArray T)) := (Below.refl _ _).alloc (Nat.le_refl _) _
  have hs : (W.alloc (.cells (argCells A).toArray T)).heap.size = W.heap.size + 1 := by simp
  have h := pformat_any f _ A _ hf (hL.below hb) (by rw [hs]; exact argsAt_new W A T n hn) hA
  refine h.mono fun e w' ⟨h1, h2⟩ => ⟨by rw [← hr]; exact h1, hb.trans (h2.mono hb.size)⟩
theorem pformat_nil (f : ByteArray) (r : List UInt8 × Nat) (hr : formAll uintT f.data.toList [] = r) (hf : f.size ≤ 140737488351232) (W : World) (hL : LaidJ W) :
    Calls Tryz.prog 12 #[.string f, .slice none 0 0] W fun e w' => e = .returned (.tuple #[.string ⟨r.1.toArray⟩, .int .i64 (errC r.2)]) ∧ Below W.heap.size W w' := by
  have h := pformat_any f _ [] W hf hL (argsAt_nil W _) (fun a ha => by cases ha)
  rw [← hr]; exact h

theorem n12_any (x : Nat) (w : World) : Calls Tryz.prog 19 #[.float .f64 x] w fun e w' => e = .returned (.agg #[.float .f64 x, .string ⟨#[]⟩, .bool true]) ∧ Below w.heap.size w w' := by
  go_enter Tryz.func19, Tryz.ntmps19
  go_wp2
  refine bodyPost_ret (v := .agg #[.float .f64 x, .string ⟨#[]⟩, .bool true]) (by simp [results, Tryz.results19, go_sem]) rfl ?_
  exact ⟨rfl, (Below.refl _ _).alloc (Nat.le_refl _) _⟩

theorem numA_ok {x : Nat} (h : x < 18446744073709551616) : argOk (numA x) := ⟨h, Nat.zero_le _⟩

set_option maxRecDepth 100000 in
theorem known12_true (w : World) (hL : LaidJ w) : Calls Tryz.prog 14 #[] w fun e w' => e = .returned (.bool true) ∧ Below w.heap.size w w' := by
  have HL := Lib.hid hL
  have HN := Lib.hid (fun x W => n12_any x W)
  have F1 : Hid (∀ W, LaidJ W → Calls Tryz.prog 12 #[.string ⟨#[37, 53, 46, 50, 102, 124, 37, 45, 52, 100, 124, 37, 48, 52, 100]⟩, .slice (some ⟨W.heap.size, 0, none⟩) 3 3] (W.alloc (.cells #[.float .f64 4614256650576692846, .string ⟨#[]⟩, .bool true, .float .f64 4619567317775286272, .string ⟨#[]⟩, .bool true, .float .f64 13842939354630062080, .string ⟨#[]⟩, .bool true] 44)) fun e w' => e = .returned (.tuple #[.string ⟨#[32, 51, 46, 49, 52, 124, 55, 32, 32, 32, 124, 45, 48, 48, 55]⟩, .int .i64 0]) ∧ Below W.heap.size W w') := fun W hW =>
    pformat_new ⟨#[37, 53, 46, 50, 102, 124, 37, 45, 52, 100, 124, 37, 48, 52, 100]⟩ [numA 4614256650576692846, numA 4619567317775286272, numA 13842939354630062080] (fun a ha => by
      simp only [List.mem_cons, List.not_mem_nil, or_false] at ha
      rcases ha with rfl | rfl | rfl <;> exact numA_ok (by omega)) _ k12a (by decide) _ W hW 3 rfl
  have F2 : Hid (∀ W, LaidJ W → Calls Tryz.prog 12 #[.string ⟨#[37, 120, 32, 37, 111, 32, 37, 99, 37, 99, 32, 37, 115]⟩, .slice (some ⟨W.heap.size, 0, none⟩) 5 5] (W.alloc (.cells #[.float .f64 4643176031446892544, .string ⟨#[]⟩, .bool true, .float .f64 4620693217682128896, .string ⟨#[]⟩, .bool true, .float .f64 4634274385308418048, .string ⟨#[]⟩, .bool true, .float .f64 0, .string ⟨#[104, 105]⟩, .bool false, .float .f64 0, .string ⟨#[121, 101, 115]⟩, .bool false] 44)) fun e w' => e = .returned (.tuple #[.string ⟨#[102, 102, 32, 49, 48, 32, 65, 104, 32, 121, 101, 115]⟩, .int .i64 0]) ∧ Below W.heap.size W w') := fun W hW =>
    pformat_new ⟨#[37, 120, 32, 37, 111, 32, 37, 99, 37, 99, 32, 37, 115]⟩ [numA 4643176031446892544, numA 4620693217682128896, numA 4634274385308418048, ⟨0, [104, 105], false⟩, ⟨0, [121, 101, 115], false⟩] (fun a ha => by
      simp only [List.mem_cons, List.not_mem_nil, or_false] at ha
      rcases ha with rfl | rfl | rfl | rfl | rfl
      · exact numA_ok (by omega)
      · exact numA_ok (by omega)
      · exact numA_ok (by omega)
      · exact ⟨by decide, by decide⟩
      · exact ⟨by decide, by decide⟩) _ k12b (by decide) _ W hW 5 rfl
  have hb0 := Below.refl w.heap.size w
  clear hL
  go_enter Tryz.func14, Tryz.ntmps14
  go_wp2_with (first
    | (go_at_call 19; refine (HN.out _ _).mono ?_; rintro e w1 ⟨rfl, hb1⟩; have hb0 := hb0.trans (hb1.mono hb0.size))
    | (go_at_call 12; first
      | (with_reducible refine (F1.out _ (HL.out.below hb0)).mono ?_; rintro e w1 ⟨rfl, hb1⟩; have hb0 := hb0.trans (hb1.mono hb0.size))
      | (with_reducible refine (F2.out _ (HL.out.below hb0)).mono ?_; rintro e w1 ⟨rfl, hb1⟩; have hb0 := hb0.trans (hb1.mono hb0.size))))
  go_ret
  exact ⟨rfl, hb0⟩

-- Number

/-- A number's digits. -/
def digT (x : Nat) : List UInt8 := sgnL (bareT x).2 ++ (bareT x).1
theorem digT_len (x : Nat) (hx : x < 18446744073709551616) : (digT x).length ≤ 1001 := by
  have := (bareT_head x hx).2
  unfold digT sgnL
  rw [List.length_append]
  split <;> simp <;> omega

/-- What CONVFMT makes of a number. -/
def numberT (l : List UInt8) (x : Nat) : List UInt8 × Nat :=
  if finB x = true ∧ wholeB x = false then formAll uintT l [⟨x, digT x, true⟩] else (digT x, 0)

theorem callsB {f : Nat} {args : Array Value} {w : World} {v : Value} (h : Calls Tryz.prog f args w fun e w' => e = .returned v ∧ w = w') : Calls Tryz.prog f args w fun e w' => e = .returned v ∧ Below w.heap.size w w' :=
  h.mono fun _ _ ⟨h1, h2⟩ => ⟨h1, h2 ▸ Below.refl _ _⟩

theorem pwhole_any (x : Nat) (hx : x < 18446744073709551616) : ∃ b, (finB x = true → b = wholeB x) ∧ (finB x = false → b = false) ∧ ∀ W, Calls Tryz.prog 34 #[.float .f64 x] W fun e w' => e = .returned (.bool b) ∧ Below W.heap.size W w' := by
  rcases class3 x hx with h | rfl | rfl | h
  · exact ⟨wholeB x, fun _ => rfl, fun h' => (by rw [(finB_iff x).2 h] at h'; cases h'), fun W => callsB (whole_fin x h W)⟩
  · exact ⟨false, fun h => (by rw [show finB 9218868437227405312 = false by kernel_rfl] at h; cases h), fun _ => rfl, fun W => callsB (whole_inf W)⟩
  · exact ⟨false, fun h => (by rw [show finB 18442240474082181120 = false by kernel_rfl] at h; cases h), fun _ => rfl, fun W => callsB (whole_minf W)⟩
  · refine ⟨false, fun h' => ?_, fun _ => rfl, fun W => whole_nan x hx h W⟩
    have := (finB_iff x).1 h'
    unfold finN at this; omega

set_option maxRecDepth 100000 in
theorem pNumber_any (f : ByteArray) (x : Nat) (hx : x < 18446744073709551616) (hf : f.size ≤ 140737488351232) (w : World) (hL : LaidJ w) :
    Calls Tryz.prog 20 #[.float .f64 x, .string f] w fun e w' => e = .returned (.tuple #[.string ⟨(numberT f.data.toList x).1.toArray⟩, .int .i64 (errC (numberT f.data.toList x).2)]) ∧ Below w.heap.size w w' := by
  obtain ⟨b, hb1, hb2, hW⟩ := pwhole_any x hx
  have HW := Lib.hid hW
  have HL := Lib.hid hL
  have HI := Lib.hid (fun W => isInf0_any x hx W)
  have HN := Lib.hid (fun W => isNaN_any x W)
  obtain ⟨D, hD⟩ : ∃ D : ByteArray, D = ⟨(digT x).toArray⟩ := ⟨_, rfl⟩
  have HD : Hid (∀ W, LaidJ W → Calls Tryz.prog 16 #[.float .f64 x] W fun e w' => e = .returned (.string D) ∧ Below W.heap.size W w') := fun W h => by rw [hD]; exact digits_bare x hx W h.lg
  have HF := fin_tests x hx
  have hb0 := Below.refl w.heap.size w
  clear hW hL
  have dig : (finB x = true ∧ wholeB x = false → False) → numberT f.data.toList x = (digT x, 0) := fun h => by unfold numberT; rw [if_neg h]
  cases b with
  | true =>
    have hN : numberT f.data.toList x = (digT x, 0) := dig fun ⟨h, h'⟩ => by rw [← hb1 h] at h'; cases h'
    rw [hN, ← hD]
    show Calls _ _ _ _ fun e w' => e = .returned (.tuple #[.string D, .int .i64 0]) ∧ _
    clear hN dig hb1 hb2 HF hx hD
    go_enter Tryz.func20, Tryz.ntmps20
    go_wp2_with (first
      | (go_at_call 34; refine (HW.out _).mono ?_; rintro e w1 ⟨rfl, hb1⟩; have hb0 := hb0.trans (hb1.mono hb0.size))
      | (go_at_call 16; refine (HD.out _ (HL.out.below hb0)).mono ?_; rintro e w1 ⟨rfl, hb1⟩; have hb0 := hb0.trans (hb1.mono hb0.size)))
    go_ret2
    exact ⟨rfl, hb0⟩
  | false =>
    rcases HF with ⟨h1, h2⟩ | ⟨h1, h2, h3⟩ | ⟨h1, h2, h3⟩
    · have hN : numberT f.data.toList x = (digT x, 0) := dig fun ⟨h, _⟩ => by rw [h2] at h; cases h
      rw [hN, ← hD]
      show Calls _ _ _ _ fun e w' => e = .returned (.tuple #[.string D, .int .i64 0]) ∧ _
      rw [h1] at HN
      clear hN dig hb1 hb2 hx hD h1
      go_enter Tryz.func20, Tryz.ntmps20
      go_wp2_with (first
        | (go_at_call 34; refine (HW.out _).mono ?_; rintro e w1 ⟨rfl, hb1⟩; have hb0 := hb0.trans (hb1.mono hb0.size))
        | (go_at_call 35; refine (HN.out _).mono ?_; rintro e w' ⟨rfl, rfl⟩)
        | (go_at_call 16; refine (HD.out _ (HL.out.below hb0)).mono ?_; rintro e w1 ⟨rfl, hb1⟩; have hb0 := hb0.trans (hb1.mono hb0.size)))
      go_ret2
      exact ⟨rfl, hb0⟩
    · have hN : numberT f.data.toList x = (digT x, 0) := dig fun ⟨h, _⟩ => by rw [h3] at h; cases h
      rw [hN, ← hD]
      show Calls _ _ _ _ fun e w' => e = .returned (.tuple #[.string D, .int .i64 0]) ∧ _
      rw [h1] at HN
      rw [h2] at HI
      clear hN dig hb1 hb2 hx hD h1 h2 h3
      go_enter Tryz.func20, Tryz.ntmps20
      go_wp2_with (first
        | (go_at_call 34; refine (HW.out _).mono ?_; rintro e w1 ⟨rfl, hb1⟩; have hb0 := hb0.trans (hb1.mono hb0.size))
        | (go_at_call 35; refine (HN.out _).mono ?_; rintro e w' ⟨rfl, rfl⟩)
        | (go_at_call 26; refine (HI.out _).mono ?_; rintro e w' ⟨rfl, rfl⟩)
        | (go_at_call 16; refine (HD.out _ (HL.out.below hb0)).mono ?_; rintro e w1 ⟨rfl, hb1⟩; have hb0 := hb0.trans (hb1.mono hb0.size)))
      go_ret2
      exact ⟨rfl, hb0⟩
    · have hN : numberT f.data.toList x = formAll uintT f.data.toList [⟨x, digT x, true⟩] := by unfold numberT; rw [if_pos ⟨h3, (hb1 h3).symm⟩]
      rw [hN]
      obtain ⟨R, hR⟩ : ∃ R, formAll uintT f.data.toList [⟨x, digT x, true⟩] = R := ⟨_, rfl⟩
      rw [hR]
      have HFM : Hid (∀ W, LaidJ W → Calls Tryz.prog 12 #[.string f, .slice (some ⟨W.heap.size, 0, none⟩) 1 1] (W.alloc (.cells #[.float .f64 x, .string D, .bool true] 44)) fun e w' => e = .returned (.tuple #[.string ⟨R.1.toArray⟩, .int .i64 (errC R.2)]) ∧ Below W.heap.size W w') := fun W hW => by
        have h := pformat_new f [⟨x, digT x, true⟩] (fun a ha => by
          simp only [List.mem_cons, List.not_mem_nil, or_false] at ha
          subst ha
          exact ⟨hx, Nat.le_trans (digT_len x hx) (by omega)⟩) R hR hf 44 W hW 1 rfl
        rw [hD]; exact h
      rw [h1] at HN
      rw [h2] at HI
      clear hN dig hb1 hb2 hx hD h1 h2 h3 hR
      go_enter Tryz.func20, Tryz.ntmps20
      go_wp2_with (first
        | (go_at_call 34; refine (HW.out _).mono ?_; rintro e w1 ⟨rfl, hb1⟩; have hb0 := hb0.trans (hb1.mono hb0.size))
        | (go_at_call 35; refine (HN.out _).mono ?_; rintro e w' ⟨rfl, rfl⟩)
        | (go_at_call 26; refine (HI.out _).mono ?_; rintro e w' ⟨rfl, rfl⟩)
        | (go_at_call 16; refine (HD.out _ (HL.out.below hb0)).mono ?_; rintro e w1 ⟨rfl, hb1⟩; have hb0 := hb0.trans (hb1.mono hb0.size))
        | (go_at_call 12; refine (HFM.out _ (HL.out.below hb0)).mono ?_; rintro e w1 ⟨rfl, hb1⟩; have hb0 := hb0.trans (hb1.mono hb0.size)))
      go_ret2
      exact ⟨rfl, hb0⟩

end Go.Proofs.YtdencljnbilchaaGreatDoor
