/- Lemmas on wire's functions and the document's: what each answers, for all arguments in reach. Conditions: each lemma's own. -/
import Derived.Test.YtggnmnpmhknjgaaIx1
import Derived.Test.YtggnmnpmhknjgaaIx3
import Derived.Test.YtggnmnpmhknjgaaIx4
namespace Go.Proofs.Ytggnmnpmhknjgaa.Pure
open Go.RowKit Go.Proofs.Ytggnmnpmhknjgaa.I Go.Proofs.YtggnmnpmhknjgaaW.PrintWords Go.Proofs.YtggnmnpmhknjgaaW.PrintLast Go.Proofs.YtggnmnpmhknjgaaW.PrintMore
set_option linter.unusedVariables false
set_option linter.unusedSimpArgs false

/-! ### Words -/
theorem wf64 {a : Int} (h : (Lit.int .i64 a).wf = true) : -9223372036854775808 ≤ a ∧ a ≤ 9223372036854775807 := by
  simp [Lit.wf, IntKind.min, IntKind.max, IntKind.signed, IntKind.bits] at h
  omega
theorem w64 {a : Int} (h0 : -9223372036854775808 ≤ a) (h1 : a ≤ 9223372036854775807) : wrap64 a = a := by unfold wrap64; omega
theorem ev_const {α : Type} {x : Option α} {r : α} (h : x = some r) : Ev (fun _ => x) r := ⟨0, fun _ _ => h⟩
theorem ev_const' {α : Type} {x : Nat → Option α} {r : α} (h : ∀ k, x k = some r) : Ev x r := ⟨0, fun k _ => h k⟩
theorem wraps_i64 : ∀ n : Int, 0 ≤ n → n < 2 ^ 63 → IntKind.i64.wrap n = n := by
  intro n h0 h1
  simp [IntKind.wrap, IntKind.bits, IntKind.signed]
  omega
/-- A number of n bytes, the greatest first. -/
def nv (s : ByteArray) (i : Int) : Nat → Int
  | 0 => 0
  | n + 1 => nv s i n * 256 + bt s (i + n)
theorem nv_bd (s : ByteArray) (i : Int) : ∀ n, 0 ≤ nv s i n ∧ nv s i n < 256 ^ n
  | 0 => by simp [nv]
  | n + 1 => by
    have h := nv_bd s i n
    have b := bt_range s (i + n)
    simp only [nv]
    rw [Int.pow_succ]
    omega
theorem nv_bd4 (s : ByteArray) (i : Int) (n : Nat) (h : n ≤ 4) : 0 ≤ nv s i n ∧ nv s i n < 4294967296 := by
  have h1 := nv_bd s i n
  refine ⟨h1.1, Int.lt_of_lt_of_le h1.2 ?_⟩
  have : n = 0 ∨ n = 1 ∨ n = 2 ∨ n = 3 ∨ n = 4 := by omega
  rcases this with rfl | rfl | rfl | rfl | rfl <;> decide
theorem or_byte {x y : Int} (h0 : 0 ≤ x) (h1 : x < 4294967296) (h2 : 0 ≤ y) (h3 : y ≤ 255) : Go.bits .or .i64 (wrap64 (x * 256)) (wrap64 y) = x * 256 + y := by
  rw [w64 (by omega) (by omega), w64 (a := y) (by omega) (by omega)]
  exact Go.bits_join .i64 63 (by decide) wraps_i64 8 (x * 256) y (by omega) (by omega) (by omega) (by omega) (by omega) (by omega)
/-! ### The program's numbers -/
theorem number_loop (s : ByteArray) (a : Int) (n : Nat) (ha : 0 ≤ a) (hn : n ≤ 4) (h : a + n ≤ s.size) (hs : s.size ≤ 140737488351232) :
    ∀ d j : Nat, j + d = n → Ev (fun k => wire_number.l0 k s a n (nv s a j) n j) (nv s a n, a + n, 0) := by
  intro d
  induction d with
  | zero =>
    intro j hj
    obtain rfl : j = n := by omega
    refine Ev.step (f := fun _ => some (nv s a j, a + (j : Int), 0)) (fun k => ?_) (Ev.now _)
    simp only [wire_number.l0]
    rw [if_neg (by omega), w64 (a := a + (j : Int)) (by omega) (by omega)]
  | succ d ih =>
    intro j hj
    refine Ev.step (f := fun k => wire_number.l0 k s a n (nv s a (j + 1)) n ((j + 1 : Nat) : Int)) (fun k => ?_) (ih (j + 1) (by omega))
    simp only [wire_number.l0]
    have b := bt_range s (a + (j : Int))
    have v := nv_bd4 s a j (by omega)
    rw [if_pos (by omega), w64 (a := a + (j : Int)) (by omega) (by omega), if_pos (by omega), if_pos (by omega), or_byte v.1 v.2 b.1 b.2, w64 (a := (j : Int) + 1) (by omega) (by omega)]
    rfl
def CutAt (s : ByteArray) (a : Int) (n : Int) : Prop := a < 0 ∨ a > s.size ∨ s.size - a < n
theorem number_ok {s : ByteArray} {a : Int} {n : Nat} (ha : 0 ≤ a) (hn : n ≤ 4) (h : a + n ≤ s.size) (hs : s.size ≤ 140737488351232) :
    Ev (fun k => wire_number.f k s a n) (nv s a n, a + n, 0) := by
  refine Ev.congr (f := fun k => wire_number.j0 k s a n false) (fun k => ?_) ?_
  · unfold wire_number.f
    rw [if_neg (by omega), if_neg (by omega), w64 (by omega) (by omega)]
    congr 1
    exact decide_eq_false (by omega)
  · refine Ev.step (f := fun k => wire_number.l0 k s a n 0 n 0) (fun k => ?_) (number_loop s a n ha hn h hs n 0 (by omega))
    simp only [wire_number.j0]
    rfl
theorem number_cut {s : ByteArray} {a : Int} {n : Int} (hc : CutAt s a n) (hs : s.size ≤ 140737488351232) :
    Ev (fun k => wire_number.f k s a n) (0, 0, 100) := by
  have key : Ev (fun k => wire_number.j0 k s a n true) (0, 0, 100) := Ev.step (f := fun _ => some (0, 0, 100)) (fun k => by simp only [wire_number.j0]; rfl) (Ev.now _)
  refine Ev.congr (f := fun k => wire_number.j0 k s a n true) (fun k => ?_) key
  unfold wire_number.f CutAt at *
  by_cases h0 : a < 0
  · rw [if_pos h0]
  · rw [if_neg h0]
    by_cases h1 : a > (s.size : Int)
    · rw [if_pos h1]
    · rw [if_neg h1, w64 (by omega) (by omega)]
      congr 1
      exact decide_eq_true (by omega)
theorem num_f (e : Int) : halberdlaw0_Num.f e = some e := rfl
theorem bindE {α β : Type} {x : Option α} {f : α → Option β} {a : α} {r : Option β} (h : x = some a) (k : f a = r) : x.bind f = r := by rw [h]; exact k
theorem evPos {α : Type} {c : Prop} [Decidable c] {g f : Nat → Option α} {r : α} (h : c) (k : Ev g r) : Ev (fun n => if c then g n else f n) r := by
  obtain ⟨K, k⟩ := k
  exact ⟨K, fun n hn => by simp only []; rw [if_pos h]; exact k n hn⟩
theorem evNeg {α : Type} {c : Prop} [Decidable c] {g f : Nat → Option α} {r : α} (h : ¬ c) (k : Ev f r) : Ev (fun n => if c then g n else f n) r := by
  obtain ⟨K, k⟩ := k
  exact ⟨K, fun n hn => by simp only []; rw [if_neg h]; exact k n hn⟩
/-- What a number is. -/
def numOf (s : ByteArray) (a : Int) (n : Nat) : Int × Int × Int :=
  if a < 0 ∨ a > s.size ∨ s.size - a < n then (0, 0, 100) else (nv s a n, a + n, 0)
theorem number_any (s : ByteArray) (a : Int) (n : Nat) (hn : n ≤ 4) (hs : s.size ≤ 140737488351232) : Ev (fun k => wire_number.f k s a n) (numOf s a n) := by
  unfold numOf
  by_cases hc : a < 0 ∨ a > s.size ∨ s.size - a < n
  · rw [if_pos hc]; exact number_cut hc hs
  · rw [if_neg hc]; exact number_ok (by omega) hn (by omega) hs
theorem U24_any (s : ByteArray) (a : Int) (hs : s.size ≤ 140737488351232) : Ev (fun k => wire_U24.f k s a) (numOf s a 3) := by
  refine Ev.congr (f := fun k => (wire_number.f k s a ((3 : Nat) : Int)).bind _) (fun k => by unfold wire_U24.f; rfl) ?_
  exact Ev.bind (number_any s a 3 (by omega) hs) (Ev.now _)
/-! ### The document's numbers -/
theorem rnum_loop (s : ByteArray) (a : Int) (n : Nat) (ha : 0 ≤ a) (hn : n ≤ 4) (h : a + n ≤ s.size) (hs : s.size ≤ 140737488351232) :
    ∀ d j : Nat, j + d = n → Ev (fun k => halberdref1_Num.l0 k s a n (nv s a j) j) (nv s a n, a + n, 0) := by
  intro d
  induction d with
  | zero =>
    intro j hj
    obtain rfl : j = n := by omega
    refine Ev.step (f := fun _ => some (nv s a j, a + (j : Int), 0)) (fun k => ?_) (Ev.now _)
    simp only [halberdref1_Num.l0]
    rw [if_neg (by omega), w64 (a := a + (j : Int)) (by omega) (by omega)]
  | succ d ih =>
    intro j hj
    refine Ev.step (f := fun k => halberdref1_Num.l0 k s a n (nv s a (j + 1)) ((j + 1 : Nat) : Int)) (fun k => ?_) (ih (j + 1) (by omega))
    simp only [halberdref1_Num.l0]
    have b := bt_range s (a + (j : Int))
    have v := nv_bd4 s a j (by omega)
    rw [if_pos (by omega), w64 (a := a + (j : Int)) (by omega) (by omega), if_pos (by omega), if_pos (by omega), or_byte v.1 v.2 b.1 b.2, w64 (a := (j : Int) + 1) (by omega) (by omega)]
    rfl
theorem rnum_ok {s : ByteArray} {a : Int} {n : Nat} (ha : 0 ≤ a) (hn : n ≤ 4) (h : a + n ≤ s.size) (hs : s.size ≤ 140737488351232) :
    Ev (fun k => halberdref1_Num.f k s a n) (nv s a n, a + n, 0) := by
  refine Ev.congr (f := fun k => halberdref1_Num.j0 k s a n false) (fun k => ?_) ?_
  · unfold halberdref1_Num.f
    rw [if_neg (by omega), if_neg (by omega), w64 (by omega) (by omega)]
    congr 1
    exact decide_eq_false (by omega)
  · refine Ev.step (f := fun k => halberdref1_Num.l0 k s a n 0 0) (fun k => ?_) (rnum_loop s a n ha hn h hs n 0 (by omega))
    simp only [halberdref1_Num.j0]
    rfl
theorem rnum_cut {s : ByteArray} {a : Int} {n : Int} (hc : CutAt s a n) (hs : s.size ≤ 140737488351232) :
    Ev (fun k => halberdref1_Num.f k s a n) (0, 0, 100) := by
  have key : Ev (fun k => halberdref1_Num.j0 k s a n true) (0, 0, 100) := Ev.step (f := fun _ => some (0, 0, 100)) (fun k => by simp only [halberdref1_Num.j0]; rfl) (Ev.now _)
  refine Ev.congr (f := fun k => halberdref1_Num.j0 k s a n true) (fun k => ?_) key
  unfold halberdref1_Num.f CutAt at *
  by_cases h0 : a < 0
  · rw [if_pos h0]
  · rw [if_neg h0]
    by_cases h1 : a > (s.size : Int)
    · rw [if_pos h1]
    · rw [if_neg h1, w64 (by omega) (by omega)]
      congr 1
      exact decide_eq_true (by omega)
theorem rnum_any (s : ByteArray) (a : Int) (n : Nat) (hn : n ≤ 4) (hs : s.size ≤ 140737488351232) : Ev (fun k => halberdref1_Num.f k s a n) (numOf s a n) := by
  unfold numOf
  by_cases hc : a < 0 ∨ a > s.size ∨ s.size - a < n
  · rw [if_pos hc]; exact rnum_cut hc hs
  · rw [if_neg hc]; exact rnum_ok (by omega) hn (by omega) hs

end Go.Proofs.Ytggnmnpmhknjgaa.Pure
