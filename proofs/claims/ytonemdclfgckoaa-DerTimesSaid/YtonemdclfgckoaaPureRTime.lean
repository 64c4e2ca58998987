/- Lemmas on the document's Integer, Time and Untime: what they answer. Conditions: each lemma's own. -/
import Derived.Test.YtonemdclfgckoaaXx11
import Derived.Test.YtonemdclfgckoaaXx12
import Derived.Test.YtonemdclfgckoaaXx15d
import Derived.Test.YtonemdclfgckoaaXx5
import Derived.Test.YtonemdclfgckoaaXx6
import Derived.Test.YtonemdclfgckoaaXx7
import Derived.Test.YtonemdclfgckoaaXx8
import Derived.Test.YtonemdclfgckoaaPureUntime
import Derived.Test.YtonemdclfgckoaaPureIntT
namespace Go.Proofs.Ytonemdclfgckoaa.Pure
open Go.RowKit Go.Proofs.Ytonemdclfgckoaa.X Go.Proofs.YtonemdclfgckoaaW.PrintWords Go.Proofs.YtonemdclfgckoaaW.PrintLast Go.Proofs.YtonemdclfgckoaaW.PrintMore
set_option linter.unusedVariables false
set_option linter.unusedSimpArgs false

theorem and255 {x : Int} (h0 : 0 ≤ x) (h1 : x < 9223372036854775808) : Go.bits .and .i64 x 255 = x % 256 := Go.bits_mask .i64 63 (by decide) wraps_i64 8 (by decide) x h0 (by omega)
theorem be_loop : ∀ (m : Nat) (y : Int) (t : List Int),0 ≤ y → y < 9223372036854775808 → m + t.length ≤ 1000 →
    Ev (fun k => halberdref1_Be.l0 k y (List.replicate m 0 ++ t) (m - 1)) (strOfNums (beL m y ++ t))
  | 0,y,t,h0,h1,hl => by
    refine Ev.step (f := fun _ => some (strOfNums (List.replicate 0 0 ++ t))) (fun k => ?_) (Ev.now _)
    simp only [halberdref1_Be.l0]
    rw [if_neg (by omega)]
  | m + 1,y,t,h0,h1,hl => by
    refine Ev.step (f := fun k => halberdref1_Be.l0 k (y / 256) (List.replicate m 0 ++ (y % 256 :: t)) (m - 1)) (fun k => ?_) ?_
    · simp only [halberdref1_Be.l0]
      rw [if_pos (by omega),if_pos (by simp; omega),and255 h0 h1,w64 (by omega) (by omega)]
      have e : (((m + 1 : Nat) : Int) - 1).toNat = m := by omega
      rw [e]
      congr 1
      · rw [List.replicate_succ',List.append_assoc,List.set_append_right _ _ (by simp)]
        simp
      · omega
    · have h := be_loop m (y / 256) (y % 256 :: t) (by omega) (by omega) (by simp; omega)
      simpa [beL] using h
theorem be_ok (x : Int) (n : Nat) (hn : n ≤ 1000) (h0 : 0 ≤ x) (h1 : x < 9223372036854775808) : Ev (fun k => halberdref1_Be.f k x n) (strOfNums (beL n x)) := by
  refine Ev.congr (f := fun k => halberdref1_Be.l0 k x (List.replicate n 0 ++ []) (n - 1)) (fun k => ?_) ?_
  · unfold halberdref1_Be.f
    rw [if_pos (by omega),if_pos (by omega),w64 (by omega) (by omega)]
    simp
  · simpa using be_loop n x [] h0 h1 (by simpa using hn)
theorem racc1 {x : Int} (h : 48 ≤ x ∧ x ≤ 57) : wrap64 ((wrap64 (10 * 0)) + ((x - 48) % 256)) = x - 48 := by
  rw [w64 (a := (10 : Int) * 0) (by omega) (by omega),w64 (by omega) (by omega)]
  omega
theorem racc2 {x y : Int} (g : 48 ≤ x ∧ x ≤ 57) (h : 48 ≤ y ∧ y ≤ 57) : wrap64 ((wrap64 (10 * (x - 48))) + ((y - 48) % 256)) = (x - 48) * 10 + (y - 48) := by
  rw [w64 (a := 10 * (x - 48)) (by omega) (by omega),w64 (by omega) (by omega)]
  omega
theorem rdays_tab : ∀ (i : Fin 80) (j : Fin 12),halberdref13_days.f ((1970 + (i : Nat) : Nat) : Int) ((1 + (j : Nat) : Nat) : Int) = some ((ml (1970 + (i : Nat)) (1 + (j : Nat)) : Nat) : Int) := by decide +kernel
theorem rdays_ok {y m : Nat} (h : 1970 ≤ y) (h1 : y < 2050) (h2 : 1 ≤ m) (h3 : m ≤ 12) : halberdref13_days.f (y : Int) (m : Int) = some ((ml y m : Nat) : Int) := by
  have := rdays_tab ⟨y - 1970,by omega⟩ ⟨m - 1,by omega⟩
  simp only [show 1970 + (y - 1970) = y by omega,show 1 + (m - 1) = m by omega] at this
  exact this
theorem rfigs_good {s : ByteArray} (hs : s.size = 13) (h : ∀ i : Nat,i < 12 → 48 ≤ bt s (i : Int) ∧ bt s (i : Int) ≤ 57) {r : Int × Int} (hr : Ev (fun k => if ((bt s 0 - 48) * 10 + (bt s 1 - 48)) < 50 then (halberdref13_Untime.j2 k (wrap64 (2000 + ((bt s 0 - 48) * 10 + (bt s 1 - 48)))) ((bt s 0 - 48) * 10 + (bt s 1 - 48)) ((bt s 2 - 48) * 10 + (bt s 3 - 48)) ((bt s 4 - 48) * 10 + (bt s 5 - 48)) ((bt s 6 - 48) * 10 + (bt s 7 - 48)) ((bt s 8 - 48) * 10 + (bt s 9 - 48)) ((bt s 10 - 48) * 10 + (bt s 11 - 48))) else (halberdref13_Untime.j2 k (wrap64 (1900 + ((bt s 0 - 48) * 10 + (bt s 1 - 48)))) ((bt s 0 - 48) * 10 + (bt s 1 - 48)) ((bt s 2 - 48) * 10 + (bt s 3 - 48)) ((bt s 4 - 48) * 10 + (bt s 5 - 48)) ((bt s 6 - 48) * 10 + (bt s 7 - 48)) ((bt s 8 - 48) * 10 + (bt s 9 - 48)) ((bt s 10 - 48) * 10 + (bt s 11 - 48)))) r) : Ev (fun k => halberdref13_Untime.l0 k s 0 0 0 0 0 0 0) r := by
  have d0 : 48 ≤ bt s 0 ∧ bt s 0 ≤ 57 := h 0 (by decide)
  have d1 : 48 ≤ bt s 1 ∧ bt s 1 ≤ 57 := h 1 (by decide)
  have d2 : 48 ≤ bt s 2 ∧ bt s 2 ≤ 57 := h 2 (by decide)
  have d3 : 48 ≤ bt s 3 ∧ bt s 3 ≤ 57 := h 3 (by decide)
  have d4 : 48 ≤ bt s 4 ∧ bt s 4 ≤ 57 := h 4 (by decide)
  have d5 : 48 ≤ bt s 5 ∧ bt s 5 ≤ 57 := h 5 (by decide)
  have d6 : 48 ≤ bt s 6 ∧ bt s 6 ≤ 57 := h 6 (by decide)
  have d7 : 48 ≤ bt s 7 ∧ bt s 7 ≤ 57 := h 7 (by decide)
  have d8 : 48 ≤ bt s 8 ∧ bt s 8 ≤ 57 := h 8 (by decide)
  have d9 : 48 ≤ bt s 9 ∧ bt s 9 ≤ 57 := h 9 (by decide)
  have d10 : 48 ≤ bt s 10 ∧ bt s 10 ≤ 57 := h 10 (by decide)
  have d11 : 48 ≤ bt s 11 ∧ bt s 11 ≤ 57 := h 11 (by decide)
  refine Ev.step (f := fun k => halberdref13_Untime.l0 k s 1 (bt s 0 - 48) 0 0 0 0 0) (fun k => by
    simp only [halberdref13_Untime.l0]
    rw [if_pos (show (0 : Int) < 12 by decide),if_pos (show (0 : Int) ≤ 0 by decide),if_pos (show (0 : Int) < (s.size : Int) by omega),if_neg (show ¬ bt s 0 < 48 by omega),if_neg (show ¬ bt s 0 > 57 by omega),show wrap64 (Int.tdiv 0 2) = 0 by decide +kernel,if_pos (show (0 : Int) = 0 from rfl),racc1 d0,w64 (a := (0 : Int) + 1) (by omega) (by omega)]
    rfl) ?_
  refine Ev.step (f := fun k => halberdref13_Untime.l0 k s 2 ((bt s 0 - 48) * 10 + (bt s 1 - 48)) 0 0 0 0 0) (fun k => by
    simp only [halberdref13_Untime.l0]
    rw [if_pos (show (1 : Int) < 12 by decide),if_pos (show (0 : Int) ≤ 1 by decide),if_pos (show (1 : Int) < (s.size : Int) by omega),if_neg (show ¬ bt s 1 < 48 by omega),if_neg (show ¬ bt s 1 > 57 by omega),show wrap64 (Int.tdiv 1 2) = 0 by decide +kernel,if_pos (show (0 : Int) = 0 from rfl),racc2 d0 d1,w64 (a := (1 : Int) + 1) (by omega) (by omega)]
    rfl) ?_
  refine Ev.step (f := fun k => halberdref13_Untime.l0 k s 3 ((bt s 0 - 48) * 10 + (bt s 1 - 48)) (bt s 2 - 48) 0 0 0 0) (fun k => by
    simp only [halberdref13_Untime.l0]
    rw [if_pos (show (2 : Int) < 12 by decide),if_pos (show (0 : Int) ≤ 2 by decide),if_pos (show (2 : Int) < (s.size : Int) by omega),if_neg (show ¬ bt s 2 < 48 by omega),if_neg (show ¬ bt s 2 > 57 by omega),show wrap64 (Int.tdiv 2 2) = 1 by decide +kernel,if_neg (show ¬ ((1 : Int) = 0) by decide),if_pos (show (1 : Int) = 1 from rfl),racc1 d2,w64 (a := (2 : Int) + 1) (by omega) (by omega)]
    rfl) ?_
  refine Ev.step (f := fun k => halberdref13_Untime.l0 k s 4 ((bt s 0 - 48) * 10 + (bt s 1 - 48)) ((bt s 2 - 48) * 10 + (bt s 3 - 48)) 0 0 0 0) (fun k => by
    simp only [halberdref13_Untime.l0]
    rw [if_pos (show (3 : Int) < 12 by decide),if_pos (show (0 : Int) ≤ 3 by decide),if_pos (show (3 : Int) < (s.size : Int) by omega),if_neg (show ¬ bt s 3 < 48 by omega),if_neg (show ¬ bt s 3 > 57 by omega),show wrap64 (Int.tdiv 3 2) = 1 by decide +kernel,if_neg (show ¬ ((1 : Int) = 0) by decide),if_pos (show (1 : Int) = 1 from rfl),racc2 d2 d3,w64 (a := (3 : Int) + 1) (by omega) (by omega)]
    rfl) ?_
  refine Ev.step (f := fun k => halberdref13_Untime.l0 k s 5 ((bt s 0 - 48) * 10 + (bt s 1 - 48)) ((bt s 2 - 48) * 10 + (bt s 3 - 48)) (bt s 4 - 48) 0 0 0) (fun k => by
    simp only [halberdref13_Untime.l0]
    rw [if_pos (show (4 : Int) < 12 by decide),if_pos (show (0 : Int) ≤ 4 by decide),if_pos (show (4 : Int) < (s.size : Int) by omega),if_neg (show ¬ bt s 4 < 48 by omega),if_neg (show ¬ bt s 4 > 57 by omega),show wrap64 (Int.tdiv 4 2) = 2 by decide +kernel,if_neg (show ¬ ((2 : Int) = 0) by decide),if_neg (show ¬ ((2 : Int) = 1) by decide),if_pos (show (2 : Int) = 2 from rfl),racc1 d4,w64 (a := (4 : Int) + 1) (by omega) (by omega)]
    rfl) ?_
  refine Ev.step (f := fun k => halberdref13_Untime.l0 k s 6 ((bt s 0 - 48) * 10 + (bt s 1 - 48)) ((bt s 2 - 48) * 10 + (bt s 3 - 48)) ((bt s 4 - 48) * 10 + (bt s 5 - 48)) 0 0 0) (fun k => by
    simp only [halberdref13_Untime.l0]
    rw [if_pos (show (5 : Int) < 12 by decide),if_pos (show (0 : Int) ≤ 5 by decide),if_pos (show (5 : Int) < (s.size : Int) by omega),if_neg (show ¬ bt s 5 < 48 by omega),if_neg (show ¬ bt s 5 > 57 by omega),show wrap64 (Int.tdiv 5 2) = 2 by decide +kernel,if_neg (show ¬ ((2 : Int) = 0) by decide),if_neg (show ¬ ((2 : Int) = 1) by decide),if_pos (show (2 : Int) = 2 from rfl),racc2 d4 d5,w64 (a := (5 : Int) + 1) (by omega) (by omega)]
    rfl) ?_
  refine Ev.step (f := fun k => halberdref13_Untime.l0 k s 7 ((bt s 0 - 48) * 10 + (bt s 1 - 48)) ((bt s 2 - 48) * 10 + (bt s 3 - 48)) ((bt s 4 - 48) * 10 + (bt s 5 - 48)) (bt s 6 - 48) 0 0) (fun k => by
    simp only [halberdref13_Untime.l0]
    rw [if_pos (show (6 : Int) < 12 by decide),if_pos (show (0 : Int) ≤ 6 by decide),if_pos (show (6 : Int) < (s.size : Int) by omega),if_neg (show ¬ bt s 6 < 48 by omega),if_neg (show ¬ bt s 6 > 57 by omega),show wrap64 (Int.tdiv 6 2) = 3 by decide +kernel,if_neg (show ¬ ((3 : Int) = 0) by decide),if_neg (show ¬ ((3 : Int) = 1) by decide),if_neg (show ¬ ((3 : Int) = 2) by decide),if_pos (show (3 : Int) = 3 from rfl),racc1 d6,w64 (a := (6 : Int) + 1) (by omega) (by omega)]
    rfl) ?_
  refine Ev.step (f := fun k => halberdref13_Untime.l0 k s 8 ((bt s 0 - 48) * 10 + (bt s 1 - 48)) ((bt s 2 - 48) * 10 + (bt s 3 - 48)) ((bt s 4 - 48) * 10 + (bt s 5 - 48)) ((bt s 6 - 48) * 10 + (bt s 7 - 48)) 0 0) (fun k => by
    simp only [halberdref13_Untime.l0]
    rw [if_pos (show (7 : Int) < 12 by decide),if_pos (show (0 : Int) ≤ 7 by decide),if_pos (show (7 : Int) < (s.size : Int) by omega),if_neg (show ¬ bt s 7 < 48 by omega),if_neg (show ¬ bt s 7 > 57 by omega),show wrap64 (Int.tdiv 7 2) = 3 by decide +kernel,if_neg (show ¬ ((3 : Int) = 0) by decide),if_neg (show ¬ ((3 : Int) = 1) by decide),if_neg (show ¬ ((3 : Int) = 2) by decide),if_pos (show (3 : Int) = 3 from rfl),racc2 d6 d7,w64 (a := (7 : Int) + 1) (by omega) (by omega)]
    rfl) ?_
  refine Ev.step (f := fun k => halberdref13_Untime.l0 k s 9 ((bt s 0 - 48) * 10 + (bt s 1 - 48)) ((bt s 2 - 48) * 10 + (bt s 3 - 48)) ((bt s 4 - 48) * 10 + (bt s 5 - 48)) ((bt s 6 - 48) * 10 + (bt s 7 - 48)) (bt s 8 - 48) 0) (fun k => by
    simp only [halberdref13_Untime.l0]
    rw [if_pos (show (8 : Int) < 12 by decide),if_pos (show (0 : Int) ≤ 8 by decide),if_pos (show (8 : Int) < (s.size : Int) by omega),if_neg (show ¬ bt s 8 < 48 by omega),if_neg (show ¬ bt s 8 > 57 by omega),show wrap64 (Int.tdiv 8 2) = 4 by decide +kernel,if_neg (show ¬ ((4 : Int) = 0) by decide),if_neg (show ¬ ((4 : Int) = 1) by decide),if_neg (show ¬ ((4 : Int) = 2) by decide),if_neg (show ¬ ((4 : Int) = 3) by decide),if_pos (show (4 : Int) = 4 from rfl),racc1 d8,w64 (a := (8 : Int) + 1) (by omega) (by omega)]
    rfl) ?_
  refine Ev.step (f := fun k => halberdref13_Untime.l0 k s 10 ((bt s 0 - 48) * 10 + (bt s 1 - 48)) ((bt s 2 - 48) * 10 + (bt s 3 - 48)) ((bt s 4 - 48) * 10 + (bt s 5 - 48)) ((bt s 6 - 48) * 10 + (bt s 7 - 48)) ((bt s 8 - 48) * 10 + (bt s 9 - 48)) 0) (fun k => by
    simp only [halberdref13_Untime.l0]
    rw [if_pos (show (9 : Int) < 12 by decide),if_pos (show (0 : Int) ≤ 9 by decide),if_pos (show (9 : Int) < (s.size : Int) by omega),if_neg (show ¬ bt s 9 < 48 by omega),if_neg (show ¬ bt s 9 > 57 by omega),show wrap64 (Int.tdiv 9 2) = 4 by decide +kernel,if_neg (show ¬ ((4 : Int) = 0) by decide),if_neg (show ¬ ((4 : Int) = 1) by decide),if_neg (show ¬ ((4 : Int) = 2) by decide),if_neg (show ¬ ((4 : Int) = 3) by decide),if_pos (show (4 : Int) = 4 from rfl),racc2 d8 d9,w64 (a := (9 : Int) + 1) (by omega) (by omega)]
    rfl) ?_
  refine Ev.step (f := fun k => halberdref13_Untime.l0 k s 11 ((bt s 0 - 48) * 10 + (bt s 1 - 48)) ((bt s 2 - 48) * 10 + (bt s 3 - 48)) ((bt s 4 - 48) * 10 + (bt s 5 - 48)) ((bt s 6 - 48) * 10 + (bt s 7 - 48)) ((bt s 8 - 48) * 10 + (bt s 9 - 48)) (bt s 10 - 48)) (fun k => by
    simp only [halberdref13_Untime.l0]
    rw [if_pos (show (10 : Int) < 12 by decide),if_pos (show (0 : Int) ≤ 10 by decide),if_pos (show (10 : Int) < (s.size : Int) by omega),if_neg (show ¬ bt s 10 < 48 by omega),if_neg (show ¬ bt s 10 > 57 by omega),show wrap64 (Int.tdiv 10 2) = 5 by decide +kernel,if_neg (show ¬ ((5 : Int) = 0) by decide),if_neg (show ¬ ((5 : Int) = 1) by decide),if_neg (show ¬ ((5 : Int) = 2) by decide),if_neg (show ¬ ((5 : Int) = 3) by decide),if_neg (show ¬ ((5 : Int) = 4) by decide),if_pos (show (5 : Int) = 5 from rfl),racc1 d10,w64 (a := (10 : Int) + 1) (by omega) (by omega)]
    rfl) ?_
  refine Ev.step (f := fun k => halberdref13_Untime.l0 k s 12 ((bt s 0 - 48) * 10 + (bt s 1 - 48)) ((bt s 2 - 48) * 10 + (bt s 3 - 48)) ((bt s 4 - 48) * 10 + (bt s 5 - 48)) ((bt s 6 - 48) * 10 + (bt s 7 - 48)) ((bt s 8 - 48) * 10 + (bt s 9 - 48)) ((bt s 10 - 48) * 10 + (bt s 11 - 48))) (fun k => by
    simp only [halberdref13_Untime.l0]
    rw [if_pos (show (11 : Int) < 12 by decide),if_pos (show (0 : Int) ≤ 11 by decide),if_pos (show (11 : Int) < (s.size : Int) by omega),if_neg (show ¬ bt s 11 < 48 by omega),if_neg (show ¬ bt s 11 > 57 by omega),show wrap64 (Int.tdiv 11 2) = 5 by decide +kernel,if_neg (show ¬ ((5 : Int) = 0) by decide),if_neg (show ¬ ((5 : Int) = 1) by decide),if_neg (show ¬ ((5 : Int) = 2) by decide),if_neg (show ¬ ((5 : Int) = 3) by decide),if_neg (show ¬ ((5 : Int) = 4) by decide),if_pos (show (5 : Int) = 5 from rfl),racc2 d10 d11,w64 (a := (11 : Int) + 1) (by omega) (by omega)]
    rfl) ?_
  refine Ev.step (f := fun k => _) (fun k => ?_) hr
  simp only [halberdref13_Untime.l0]
  rw [if_neg (show ¬ ((12 : Int) < 12) by decide)]
theorem rfigs_bad {s : ByteArray} (hs : s.size = 13) (n : Nat) : ∀ i : Nat,i + n = 12 → (∃ j : Nat,i ≤ j ∧ j < 12 ∧ ¬ (48 ≤ bt s (j : Int) ∧ bt s (j : Int) ≤ 57)) → ∀ a b c d e f : Int,Ev (fun k => halberdref13_Untime.l0 k s (i : Int) a b c d e f) (0,1300) := by
  induction n with
  | zero =>
    intro i hi ⟨j,h1,h2,_⟩
    omega
  | succ n ih =>
    intro i hi ⟨j,h1,h2,h3⟩ a b c d e f
    by_cases g1 : bt s (i : Int) < 48
    · refine Ev.step (f := fun _ => some (0,1300)) (fun k => ?_) (Ev.now _)
      simp only [halberdref13_Untime.l0]
      rw [if_pos (show (i : Int) < 12 by omega),if_pos (show (0 : Int) ≤ (i : Int) by omega),if_pos (show (i : Int) < (s.size : Int) by omega),if_pos g1]
    by_cases g2 : bt s (i : Int) > 57
    · refine Ev.step (f := fun _ => some (0,1300)) (fun k => ?_) (Ev.now _)
      simp only [halberdref13_Untime.l0]
      rw [if_pos (show (i : Int) < 12 by omega),if_pos (show (0 : Int) ≤ (i : Int) by omega),if_pos (show (i : Int) < (s.size : Int) by omega),if_neg g1,if_pos g2]
    have hj : i ≠ j := by
      rintro rfl
      exact h3 ⟨by omega,by omega⟩
    have hq : wrap64 (Int.tdiv (i : Int) 2) = 0 ∨ wrap64 (Int.tdiv (i : Int) 2) = 1 ∨ wrap64 (Int.tdiv (i : Int) 2) = 2 ∨ wrap64 (Int.tdiv (i : Int) 2) = 3 ∨ wrap64 (Int.tdiv (i : Int) 2) = 4 ∨ wrap64 (Int.tdiv (i : Int) 2) = 5 := by
      rw [Int.tdiv_eq_ediv_of_nonneg (by omega),w64 (by omega) (by omega)]
      omega
    rcases hq with hq | hq | hq | hq | hq | hq
    · refine Ev.step (f := fun k => halberdref13_Untime.l0 k s ((i + 1 : Nat) : Int) (wrap64 ((wrap64 (10 * a)) + (((bt s (i : Int)) - 48) % 256))) b c d e f) (fun k => ?_) (ih (i + 1) (by omega) ⟨j,by omega,h2,h3⟩ (wrap64 ((wrap64 (10 * a)) + (((bt s (i : Int)) - 48) % 256))) b c d e f)
      simp only [halberdref13_Untime.l0]
      rw [if_pos (show (i : Int) < 12 by omega),if_pos (show (0 : Int) ≤ (i : Int) by omega),if_pos (show (i : Int) < (s.size : Int) by omega),if_neg g1,if_neg g2,hq,if_pos (show (0 : Int) = 0 from rfl),w64 (a := (i : Int) + 1) (by omega) (by omega)]
      rfl
    · refine Ev.step (f := fun k => halberdref13_Untime.l0 k s ((i + 1 : Nat) : Int) a (wrap64 ((wrap64 (10 * b)) + (((bt s (i : Int)) - 48) % 256))) c d e f) (fun k => ?_) (ih (i + 1) (by omega) ⟨j,by omega,h2,h3⟩ a (wrap64 ((wrap64 (10 * b)) + (((bt s (i : Int)) - 48) % 256))) c d e f)
      simp only [halberdref13_Untime.l0]
      rw [if_pos (show (i : Int) < 12 by omega),if_pos (show (0 : Int) ≤ (i : Int) by omega),if_pos (show (i : Int) < (s.size : Int) by omega),if_neg g1,if_neg g2,hq,if_neg (show ¬ ((1 : Int) = 0) by decide),if_pos (show (1 : Int) = 1 from rfl),w64 (a := (i : Int) + 1) (by omega) (by omega)]
      rfl
    · refine Ev.step (f := fun k => halberdref13_Untime.l0 k s ((i + 1 : Nat) : Int) a b (wrap64 ((wrap64 (10 * c)) + (((bt s (i : Int)) - 48) % 256))) d e f) (fun k => ?_) (ih (i + 1) (by omega) ⟨j,by omega,h2,h3⟩ a b (wrap64 ((wrap64 (10 * c)) + (((bt s (i : Int)) - 48) % 256))) d e f)
      simp only [halberdref13_Untime.l0]
      rw [if_pos (show (i : Int) < 12 by omega),if_pos (show (0 : Int) ≤ (i : Int) by omega),if_pos (show (i : Int) < (s.size : Int) by omega),if_neg g1,if_neg g2,hq,if_neg (show ¬ ((2 : Int) = 0) by decide),if_neg (show ¬ ((2 : Int) = 1) by decide),if_pos (show (2 : Int) = 2 from rfl),w64 (a := (i : Int) + 1) (by omega) (by omega)]
      rfl
    · refine Ev.step (f := fun k => halberdref13_Untime.l0 k s ((i + 1 : Nat) : Int) a b c (wrap64 ((wrap64 (10 * d)) + (((bt s (i : Int)) - 48) % 256))) e f) (fun k => ?_) (ih (i + 1) (by omega) ⟨j,by omega,h2,h3⟩ a b c (wrap64 ((wrap64 (10 * d)) + (((bt s (i : Int)) - 48) % 256))) e f)
      simp only [halberdref13_Untime.l0]
      rw [if_pos (show (i : Int) < 12 by omega),if_pos (show (0 : Int) ≤ (i : Int) by omega),if_pos (show (i : Int) < (s.size : Int) by omega),if_neg g1,if_neg g2,hq,if_neg (show ¬ ((3 : Int) = 0) by decide),if_neg (show ¬ ((3 : Int) = 1) by decide),if_neg (show ¬ ((3 : Int) = 2) by decide),if_pos (show (3 : Int) = 3 from rfl),w64 (a := (i : Int) + 1) (by omega) (by omega)]
      rfl
    · refine Ev.step (f := fun k => halberdref13_Untime.l0 k s ((i + 1 : Nat) : Int) a b c d (wrap64 ((wrap64 (10 * e)) + (((bt s (i : Int)) - 48) % 256))) f) (fun k => ?_) (ih (i + 1) (by omega) ⟨j,by omega,h2,h3⟩ a b c d (wrap64 ((wrap64 (10 * e)) + (((bt s (i : Int)) - 48) % 256))) f)
      simp only [halberdref13_Untime.l0]
      rw [if_pos (show (i : Int) < 12 by omega),if_pos (show (0 : Int) ≤ (i : Int) by omega),if_pos (show (i : Int) < (s.size : Int) by omega),if_neg g1,if_neg g2,hq,if_neg (show ¬ ((4 : Int) = 0) by decide),if_neg (show ¬ ((4 : Int) = 1) by decide),if_neg (show ¬ ((4 : Int) = 2) by decide),if_neg (show ¬ ((4 : Int) = 3) by decide),if_pos (show (4 : Int) = 4 from rfl),w64 (a := (i : Int) + 1) (by omega) (by omega)]
      rfl
    · refine Ev.step (f := fun k => halberdref13_Untime.l0 k s ((i + 1 : Nat) : Int) a b c d e (wrap64 ((wrap64 (10 * f)) + (((bt s (i : Int)) - 48) % 256)))) (fun k => ?_) (ih (i + 1) (by omega) ⟨j,by omega,h2,h3⟩ a b c d e (wrap64 ((wrap64 (10 * f)) + (((bt s (i : Int)) - 48) % 256))))
      simp only [halberdref13_Untime.l0]
      rw [if_pos (show (i : Int) < 12 by omega),if_pos (show (0 : Int) ≤ (i : Int) by omega),if_pos (show (i : Int) < (s.size : Int) by omega),if_neg g1,if_neg g2,hq,if_neg (show ¬ ((5 : Int) = 0) by decide),if_neg (show ¬ ((5 : Int) = 1) by decide),if_neg (show ¬ ((5 : Int) = 2) by decide),if_neg (show ¬ ((5 : Int) = 3) by decide),if_neg (show ¬ ((5 : Int) = 4) by decide),if_pos (show (5 : Int) = 5 from rfl),w64 (a := (i : Int) + 1) (by omega) (by omega)]
      rfl
theorem rsum_months {y a b c d e f : Nat} (y0 : 1970 ≤ y) (y1 : y < 2050) (b1 : b ≤ 12) (c0 : 1 ≤ c) (c1 : c ≤ 31) (d1 : d ≤ 23) (e1 : e ≤ 59) (f1 : f ≤ 59) (n : Nat) : ∀ i : Nat,i + n = b → 1 ≤ i → Ev (fun k => halberdref13_Untime.l2 k (y : Int) ((c - 1 + dby y + cum y i : Nat) : Int) (i : Int) (a : Int) (b : Int) (c : Int) (d : Int) (e : Int) (f : Int)) ((((dby y + cum y b + (c - 1)) * 86400 + d * 3600 + e * 60 + f : Nat) : Int),0) := by
  have q := dby_bd (show y ≤ 2050 by omega)
  induction n with
  | zero =>
    intro i hi h1
    obtain rfl : i = b := by omega
    have q1 := cum_bd y (show i ≤ 13 by omega)
    refine Ev.step (f := fun _ => some ((((dby y + cum y i + (c - 1)) * 86400 + d * 3600 + e * 60 + f : Nat) : Int),0)) (fun k => ?_) (Ev.now _)
    simp only [halberdref13_Untime.l2]
    rw [if_neg (by omega)]
    obtain ⟨S,hS,hS1⟩ : ∃ S : Nat,S = c - 1 + dby y + cum y i ∧ S ≤ 30000 := ⟨_,rfl,by omega⟩
    rw [← hS,show dby y + cum y i + (c - 1) = S by omega]
    clear hS q q1
    rw [w64 (a := (86400 * (S : Int))) (by omega) (by omega),w64 (a := (3600 * (d : Int))) (by omega) (by omega),w64 (a := (60 * (e : Int))) (by omega) (by omega),w64 (a := (86400 * (S : Int)) + (3600 * (d : Int))) (by omega) (by omega),w64 (a := (86400 * (S : Int)) + (3600 * (d : Int)) + (60 * (e : Int))) (by omega) (by omega),w64 (by omega) (by omega)]
    congr 2 <;> omega
  | succ n ih =>
    intro i hi h1
    have q1 := cum_bd y (show i + 1 ≤ 13 by omega)
    have q2 := cum_succ y h1
    refine Ev.step (f := fun k => halberdref13_Untime.l2 k (y : Int) ((c - 1 + dby y + cum y (i + 1) : Nat) : Int) ((i + 1 : Nat) : Int) (a : Int) (b : Int) (c : Int) (d : Int) (e : Int) (f : Int)) (fun k => ?_) (ih (i + 1) (by omega) (by omega))
    simp only [halberdref13_Untime.l2]
    rw [if_pos (by omega)]
    refine bindE (rdays_ok y0 y1 h1 (by omega)) ?_
    rw [w64 (by omega) (by omega),w64 (by omega) (by omega)]
    congr 1
    omega
theorem rsum_years {y a b c d e f : Nat} (y1 : y < 2050) (b0 : 1 ≤ b) (b1 : b ≤ 12) (c0 : 1 ≤ c) (c1 : c ≤ 31) (d1 : d ≤ 23) (e1 : e ≤ 59) (f1 : f ≤ 59) (n : Nat) : ∀ j : Nat,j + n = y → 1970 ≤ j → Ev (fun k => halberdref13_Untime.l1 k (y : Int) ((c - 1 + dby j : Nat) : Int) (j : Int) (a : Int) (b : Int) (c : Int) (d : Int) (e : Int) (f : Int)) ((((dby y + cum y b + (c - 1)) * 86400 + d * 3600 + e * 60 + f : Nat) : Int),0) := by
  induction n with
  | zero =>
    intro j hj h1
    obtain rfl : j = y := by omega
    refine Ev.step (f := fun k => halberdref13_Untime.l2 k (j : Int) ((c - 1 + dby j + cum j 1 : Nat) : Int) ((1 : Nat) : Int) (a : Int) (b : Int) (c : Int) (d : Int) (e : Int) (f : Int)) (fun k => ?_) (rsum_months h1 y1 b1 c0 c1 d1 e1 f1 (b - 1) 1 (by omega) (by omega))
    simp only [halberdref13_Untime.l1]
    rw [if_neg (by omega)]
    rfl
  | succ n ih =>
    intro j hj h1
    have q := dby_bd (show j + 1 ≤ 2050 by omega)
    have q2 := dby_succ h1
    refine Ev.step (f := fun k => halberdref13_Untime.l1 k (y : Int) ((c - 1 + dby (j + 1) : Nat) : Int) ((j + 1 : Nat) : Int) (a : Int) (b : Int) (c : Int) (d : Int) (e : Int) (f : Int)) (fun k => ?_) (ih (j + 1) (by omega) (by omega))
    simp only [halberdref13_Untime.l1]
    rw [if_pos (by omega)]
    have q3 : yl j = 337 + ml j 2 := by unfold yl ml; simp only [if_true]; split <;> rfl
    refine bindE (rdays_ok (m := 2) h1 (by omega) (by omega) (by omega)) ?_
    have q4 := ml_pos j 2
    rw [w64 (a := ((c - 1 + dby j : Nat) : Int) + 337) (by omega) (by omega),w64 (by omega) (by omega),w64 (by omega) (by omega)]
    congr 1
    omega
theorem rrest_bad (y : Int) (a b c d e f : Nat) : Ev (fun k => halberdref13_Untime.j3 k y true (a : Int) (b : Int) (c : Int) (d : Int) (e : Int) (f : Int)) (0,1300) := by
  refine Ev.step (f := fun _ => some (0,1300)) (fun k => ?_) (Ev.now _)
  simp only [halberdref13_Untime.j3]
  rw [if_pos trivial]
theorem rrest_ok {y a b c d e f : Nat} (y0 : 1970 ≤ y) (y1 : y < 2050) : Ev (fun k => halberdref13_Untime.j2 k (y : Int) (a : Int) (b : Int) (c : Int) (d : Int) (e : Int) (f : Int)) (restL y b c d e f) := by
  have bad := rrest_bad (y : Int) a b c d e f
  by_cases hb : b < 1
  · rw [show restL y b c d e f = (0,1300) by unfold restL; rw [if_pos (by omega)]]
    refine Ev.step (f := fun k => halberdref13_Untime.j3 k (y : Int) true (a : Int) (b : Int) (c : Int) (d : Int) (e : Int) (f : Int)) (fun k => ?_) bad
    simp only [halberdref13_Untime.j2]
    rw [if_neg (show ¬ ((y : Int) < 1970) by omega)]
    rw [if_pos (show (b : Int) < 1 by omega)]
  by_cases hb2 : b > 12
  · rw [show restL y b c d e f = (0,1300) by unfold restL; rw [if_pos (by omega)]]
    refine Ev.step (f := fun k => halberdref13_Untime.j3 k (y : Int) true (a : Int) (b : Int) (c : Int) (d : Int) (e : Int) (f : Int)) (fun k => ?_) bad
    simp only [halberdref13_Untime.j2]
    rw [if_neg (show ¬ ((y : Int) < 1970) by omega)]
    rw [if_neg (show ¬ ((b : Int) < 1) by omega),if_pos (show (b : Int) > 12 by omega)]
  by_cases hc : c < 1
  · rw [show restL y b c d e f = (0,1300) by unfold restL; rw [if_pos (by omega)]]
    refine Ev.step (f := fun k => halberdref13_Untime.j3 k (y : Int) true (a : Int) (b : Int) (c : Int) (d : Int) (e : Int) (f : Int)) (fun k => ?_) bad
    simp only [halberdref13_Untime.j2]
    rw [if_neg (show ¬ ((y : Int) < 1970) by omega)]
    rw [if_neg (show ¬ ((b : Int) < 1) by omega),if_neg (show ¬ ((b : Int) > 12) by omega),if_pos (show (c : Int) < 1 by omega)]
  have mp := ml_pos y b
  have dy := rdays_ok y0 y1 (show 1 ≤ b by omega) (show b ≤ 12 by omega)
  by_cases hc2 : c > ml y b
  · rw [show restL y b c d e f = (0,1300) by unfold restL; rw [if_pos (by omega)]]
    refine Ev.step (f := fun k => halberdref13_Untime.j3 k (y : Int) true (a : Int) (b : Int) (c : Int) (d : Int) (e : Int) (f : Int)) (fun k => ?_) bad
    simp only [halberdref13_Untime.j2]
    rw [if_neg (show ¬ ((y : Int) < 1970) by omega)]
    rw [if_neg (show ¬ ((b : Int) < 1) by omega),if_neg (show ¬ ((b : Int) > 12) by omega),if_neg (show ¬ ((c : Int) < 1) by omega)]
    refine bindE dy ?_
    rw [if_pos (by omega)]
  by_cases hd : d > 23
  · rw [show restL y b c d e f = (0,1300) by unfold restL; rw [if_pos (by omega)]]
    refine Ev.step (f := fun k => halberdref13_Untime.j3 k (y : Int) true (a : Int) (b : Int) (c : Int) (d : Int) (e : Int) (f : Int)) (fun k => ?_) bad
    simp only [halberdref13_Untime.j2]
    rw [if_neg (show ¬ ((y : Int) < 1970) by omega)]
    rw [if_neg (show ¬ ((b : Int) < 1) by omega),if_neg (show ¬ ((b : Int) > 12) by omega),if_neg (show ¬ ((c : Int) < 1) by omega)]
    refine bindE dy ?_
    rw [if_neg (by omega),if_pos (by omega)]
  by_cases he : e > 59
  · rw [show restL y b c d e f = (0,1300) by unfold restL; rw [if_pos (by omega)]]
    refine Ev.step (f := fun k => halberdref13_Untime.j3 k (y : Int) true (a : Int) (b : Int) (c : Int) (d : Int) (e : Int) (f : Int)) (fun k => ?_) bad
    simp only [halberdref13_Untime.j2]
    rw [if_neg (show ¬ ((y : Int) < 1970) by omega)]
    rw [if_neg (show ¬ ((b : Int) < 1) by omega),if_neg (show ¬ ((b : Int) > 12) by omega),if_neg (show ¬ ((c : Int) < 1) by omega)]
    refine bindE dy ?_
    rw [if_neg (by omega),if_neg (show ¬ ((d : Int) > 23) by omega),if_pos (by omega)]
  by_cases hf : f > 59
  · rw [show restL y b c d e f = (0,1300) by unfold restL; rw [if_pos (by omega)]]
    refine Ev.step (f := fun k => halberdref13_Untime.j3 k (y : Int) true (a : Int) (b : Int) (c : Int) (d : Int) (e : Int) (f : Int)) (fun k => ?_) bad
    simp only [halberdref13_Untime.j2]
    rw [if_neg (show ¬ ((y : Int) < 1970) by omega)]
    rw [if_neg (show ¬ ((b : Int) < 1) by omega),if_neg (show ¬ ((b : Int) > 12) by omega),if_neg (show ¬ ((c : Int) < 1) by omega)]
    refine bindE dy ?_
    rw [if_neg (by omega),if_neg (show ¬ ((d : Int) > 23) by omega),if_neg (show ¬ ((e : Int) > 59) by omega)]
    congr 1
    exact decide_eq_true (by omega)
  rw [show restL y b c d e f = ((((dby y + cum y b + (c - 1)) * 86400 + d * 3600 + e * 60 + f : Nat) : Int),0) by unfold restL; rw [if_neg (by omega)]]
  refine Ev.step (f := fun k => halberdref13_Untime.j3 k (y : Int) false (a : Int) (b : Int) (c : Int) (d : Int) (e : Int) (f : Int)) (fun k => ?_) ?_
  · simp only [halberdref13_Untime.j2]
    rw [if_neg (show ¬ ((y : Int) < 1970) by omega)]
    rw [if_neg (show ¬ ((b : Int) < 1) by omega),if_neg (show ¬ ((b : Int) > 12) by omega),if_neg (show ¬ ((c : Int) < 1) by omega)]
    refine bindE dy ?_
    rw [if_neg (by omega),if_neg (show ¬ ((d : Int) > 23) by omega),if_neg (show ¬ ((e : Int) > 59) by omega)]
    congr 1
    exact decide_eq_false (by omega)
  · refine Ev.step (f := fun k => halberdref13_Untime.l1 k (y : Int) ((c - 1 + dby 1970 : Nat) : Int) ((1970 : Nat) : Int) (a : Int) (b : Int) (c : Int) (d : Int) (e : Int) (f : Int)) (fun k => ?_) (rsum_years y1 (by omega) (by omega) (by omega) (by omega) (by omega) (by omega) (by omega) (y - 1970) 1970 (by omega) (by omega))
    simp only [halberdref13_Untime.j3]
    rw [if_neg (by simp),w64 (by omega) (by omega),show dby 1970 = 0 from rfl,show (c : Int) - 1 = ((c - 1 + 0 : Nat) : Int) by omega]
    rfl
theorem runtime_tail {a b c d e f : Nat} (a1 : a < 100) : Ev (fun k => if (a : Int) < 50 then (halberdref13_Untime.j2 k (wrap64 (2000 + (a : Int))) (a : Int) (b : Int) (c : Int) (d : Int) (e : Int) (f : Int)) else (halberdref13_Untime.j2 k (wrap64 (1900 + (a : Int))) (a : Int) (b : Int) (c : Int) (d : Int) (e : Int) (f : Int))) (untimeL a b c d e f) := by
  by_cases h : 50 ≤ a ∧ a < 70
  · rw [show untimeL a b c d e f = (0,1300) by unfold untimeL; rw [if_pos h]]
    refine evNeg (by omega) ?_
    refine Ev.step (f := fun k => halberdref13_Untime.j3 k (1900 + (a : Int)) true (a : Int) (b : Int) (c : Int) (d : Int) (e : Int) (f : Int)) (fun k => ?_) (rrest_bad _ a b c d e f)
    simp only [halberdref13_Untime.j2]
    rw [w64 (by omega) (by omega),if_pos (by omega)]
  · rw [show untimeL a b c d e f = restL (if a < 50 then 2000 + a else 1900 + a) b c d e f by unfold untimeL; rw [if_neg h]]
    by_cases h1 : a < 50
    · refine evPos (by omega) ?_
      rw [if_pos h1,w64 (by omega) (by omega)]
      exact rrest_ok (y := 2000 + a) (by omega) (by omega)
    · refine evNeg (by omega) ?_
      rw [if_neg h1,w64 (by omega) (by omega)]
      exact rrest_ok (y := 1900 + a) (by omega) (by omega)
theorem runtime_good {s : ByteArray} {a b c d e f : Nat} (g : Figs s a b c d e f) : Ev (fun k => halberdref13_Untime.f k s) (untimeL a b c d e f) := by
  refine Ev.congr (f := fun k => halberdref13_Untime.j0 k s false) (fun k => ?_) ?_
  · unfold halberdref13_Untime.f
    rw [if_pos (by rw [g.hs]; rfl),if_pos (by rw [g.hs]; decide),g.hz]
    rfl
  · refine Ev.step (f := fun k => halberdref13_Untime.l0 k s 0 0 0 0 0 0 0) (fun k => ?_) (rfigs_good g.hs g.h ?_)
    · simp only [halberdref13_Untime.j0]
      rw [if_neg (by simp)]
    · rw [← g.ha,← g.hb,← g.hc,← g.hd,← g.he,← g.hf]
      exact runtime_tail g.a1
theorem runtime_stop {s : ByteArray} (h : s.size ≠ 13 ∨ (s.size = 13 ∧ bt s 12 ≠ 90)) : Ev (fun k => halberdref13_Untime.f k s) (0,1300) := by
  refine Ev.congr (f := fun k => halberdref13_Untime.j0 k s true) (fun k => ?_) ?_
  · unfold halberdref13_Untime.f
    rcases h with h | ⟨h1,h2⟩
    · rw [if_neg (by omega)]
    · rw [if_pos (by omega),if_pos (by omega),show (bt s 12 != 90) = true by simpa using h2]
  · refine Ev.step (f := fun _ => some (0,1300)) (fun k => ?_) (Ev.now _)
    simp only [halberdref13_Untime.j0]
    rw [if_pos trivial]
theorem runtime_bad {s : ByteArray} (hs : s.size = 13) (hz : bt s 12 = 90) (h : ∃ j : Nat,0 ≤ j ∧ j < 12 ∧ ¬ (48 ≤ bt s (j : Int) ∧ bt s (j : Int) ≤ 57)) : Ev (fun k => halberdref13_Untime.f k s) (0,1300) := by
  refine Ev.congr (f := fun k => halberdref13_Untime.j0 k s false) (fun k => ?_) ?_
  · unfold halberdref13_Untime.f
    rw [if_pos (by rw [hs]; rfl),if_pos (by rw [hs]; decide),hz]
    rfl
  · refine Ev.step (f := fun k => halberdref13_Untime.l0 k s ((0 : Nat) : Int) 0 0 0 0 0 0) (fun k => ?_) (rfigs_bad hs 12 0 rfl h 0 0 0 0 0 0)
    simp only [halberdref13_Untime.j0]
    rw [if_neg (by simp)]
    rfl
theorem rput_ok {t : Int} {s : ByteArray} (ht : isTag t) (hs : s.size ≤ 255) : Ev (fun k => halberdref13_Put.f k t s) (strOfNums (hd t s.size ++ bytesOf s),0) := by
  have h0 := ht.1
  have h1 := ht.2.1
  have h2 := ht.2.2
  have hB : Byte (hd t s.size ++ bytesOf s) := by
    intro x hx
    rcases List.mem_append.mp hx with hx | hx
    · exact hd_byte (by omega) x hx
    · exact bytesOf_byte s x hx
  have hbe := be_ok (s.size : Int) 1 (by omega) (by omega) (by omega)
  have e1 : beL 1 (s.size : Int) = [(s.size : Int)] := by
    simp only [beL,List.nil_append]
    congr 1
    omega
  rw [e1] at hbe
  have hbe : Ev (fun k => halberdref1_Be.f k (s.size : Int) 1) (strOfNums [(s.size : Int)]) := hbe
  refine Ev.congr (f := fun k => halberdref13_Put.j0 k t s false) (fun k => ?_) ?_
  · unfold halberdref13_Put.f
    rw [if_neg (by omega),if_neg (by omega),and_31,if_neg h2]
    congr 1
    exact decide_eq_false (by omega)
  · refine Ev.step (f := fun k => (halberdref1_Be.f k (s.size : Int) 1).bind _) (fun k => by simp only [halberdref13_Put.j0]; rw [if_neg (by simp)]) ?_
    refine Ev.bind hbe ?_
    refine evNeg (by omega) ?_
    have n1 : (strOfNums [(s.size : Int)]).size = 1 := strOf_size _
    have bb : bytesOf (strOfNums [(s.size : Int)]) = [(s.size : Int)] := bytesOf_strOf (by intro x hx; simp at hx; omega)
    have bt0 : bytesOf (strOfNums [t % 256]) = [t % 256] := bytesOf_strOf (by intro x hx; simp at hx; omega)
    have tz : (strOfNums [t % 256]).size = 1 := strOf_size _
    by_cases hl : (s.size : Int) > 127
    · refine evPos hl ?_
      refine ev_const ?_
      have n2 : ((⟨#[129]⟩ : ByteArray) ++ strOfNums [(s.size : Int)]).size = 2 := by rw [ByteArray.size_append,n1]; rfl
      rw [if_pos (by omega)]
      refine bindE rfl ?_
      refine bindE rfl ?_
      rw [if_pos (by omega)]
      refine bindE rfl ?_
      rw [if_pos (by rw [ByteArray.size_append]; omega)]
      congr 1
      rw [Prod.mk.injEq]
      refine ⟨bytesOf_inj ?_,rfl⟩
      rw [bytesOf_strOf hB,bytesOf_app,bytesOf_app,bytesOf_app,bb,bt0]
      unfold hd
      rw [if_neg (by omega),if_pos (by omega)]
      rfl
    · refine evNeg hl ?_
      refine ev_const ?_
      refine bindE rfl ?_
      rw [if_pos (by omega)]
      refine bindE rfl ?_
      rw [if_pos (by rw [ByteArray.size_append]; omega)]
      congr 1
      rw [Prod.mk.injEq]
      refine ⟨bytesOf_inj ?_,rfl⟩
      rw [bytesOf_strOf hB,bytesOf_app,bytesOf_app,bb,bt0]
      unfold hd
      rw [if_pos (by omega)]
      rfl
theorem tl_ok {t : Int} {s : ByteArray} {l : List Int} (ht : isTag t) (hl : bytesOf s = l) (hs : l.length ≤ 255) : Ev (fun k => halberdref13_Tl.f k t s) (strOfNums (hd t l.length ++ l)) := by
  have hz : s.size = l.length := by rw [← bytesOf_length,hl]
  have h := rput_ok (s := s) ht (by omega)
  rw [hl,hz] at h
  refine Ev.congr (f := fun k => (halberdref13_Put.f k t s).bind _) (fun k => by unfold halberdref13_Tl.f; rfl) ?_
  exact Ev.bind h (Ev.now _)
theorem rinteger_l0 : ∀ (l : List Int) (s : ByteArray),bytesOf s = l → s.size ≤ 64 → Ev (fun k => halberdref13_Integer.l0 k s) (strOfNums (hd 2 (cont l).length ++ cont l),0) := by
  have hT : isTag 2 := ⟨by decide,by decide,by decide⟩
  intro l
  induction l with
  | nil =>
    intro s h hs
    have hz : s.size = 0 := by rw [← bytesOf_length,h]; rfl
    refine Ev.step (f := fun k => (halberdref13_Tl.f k 2 ((⟨#[0]⟩ : ByteArray) ++ s)).bind _) (fun k => by
      simp only [halberdref13_Integer.l0]
      rw [if_neg (by omega),if_pos (toList_nil hz),if_pos (by omega)]) ?_
    exact Ev.bind (tl_ok (l := cont []) hT (by rw [bytes_zero,h]; rfl) (by decide)) (Ev.now _)
  | cons x r ih =>
    intro s h hs
    have hx := bt_head h
    obtain ⟨ht,hz⟩ := bytes_tail h
    by_cases h0 : x = 0
    · refine Ev.step (f := fun k => halberdref13_Integer.l0 k (s.extract 1 s.size)) (fun k => by
        simp only [halberdref13_Integer.l0]
        rw [if_pos (by omega),hx,if_pos h0,if_pos (by omega)]) ?_
      have e : cont (x :: r) = cont r := cont_strip (by simp only [strip]; rw [if_pos h0])
      rw [e]
      exact ih _ ht (by rw [ByteArray.size_extract]; omega)
    · have e : strip (x :: r) = x :: r := by simp only [strip]; rw [if_neg h0]
      have hc := cont_len (x :: r)
      simp only [List.length_cons] at hc
      by_cases h1 : x ≥ 128
      · have ec : cont (x :: r) = 0 :: x :: r := by unfold cont; rw [e]; simp only []; rw [if_pos h1]
        refine Ev.step (f := fun k => (halberdref13_Tl.f k 2 ((⟨#[0]⟩ : ByteArray) ++ s)).bind _) (fun k => by
          simp only [halberdref13_Integer.l0]
          rw [if_pos (by omega),hx,if_neg h0,if_neg (toList_cons (by omega)),if_pos (show x > 127 by omega),if_pos (by omega)]) ?_
        exact Ev.bind (tl_ok (l := cont (x :: r)) hT (by rw [bytes_zero,h,ec]) (by omega)) (Ev.now _)
      · have ec : cont (x :: r) = x :: r := by unfold cont; rw [e]; simp only []; rw [if_neg h1]
        refine Ev.step (f := fun k => (halberdref13_Tl.f k 2 s).bind _) (fun k => by
          simp only [halberdref13_Integer.l0]
          rw [if_pos (by omega),hx,if_neg h0,if_neg (toList_cons (by omega)),if_neg (show ¬ x > 127 by omega)]) ?_
        exact Ev.bind (tl_ok (l := cont (x :: r)) hT (by rw [h,ec]) (by omega)) (Ev.now _)
theorem rinteger_ok {s : ByteArray} (hs : s.size ≤ 64) : Ev (fun k => halberdref13_Integer.f k s) (strOfNums (hd 2 (cont (bytesOf s)).length ++ cont (bytesOf s)),0) := by
  refine Ev.congr (f := fun k => halberdref13_Integer.l0 k s) (fun k => ?_) (rinteger_l0 _ s rfl hs)
  unfold halberdref13_Integer.f
  rw [if_neg (by omega)]
theorem rinteger_long {s : ByteArray} (hs : 64 < s.size) : Ev (fun k => halberdref13_Integer.f k s) ((⟨#[]⟩ : ByteArray),1300) := by
  refine ev_const' (fun k => ?_)
  unfold halberdref13_Integer.f
  rw [if_pos (by omega)]
theorem two_ok {x : Nat} (h : x < 100) : halberdref13_two.f (x : Int) = some (strOfNums (dig x)) := by
  unfold halberdref13_two.f
  have e : [(wrap64 (48 + (Int.tmod (wrap64 (Int.tdiv (x : Int) 10)) 10))) % 256,(wrap64 (48 + (Int.tmod (x : Int) 10))) % 256] = dig x := by
    unfold dig
    rw [Int.tdiv_eq_ediv_of_nonneg (by omega),Int.tmod_eq_emod_of_nonneg (a := (x : Int)) (by omega),w64 (a := (x : Int) / 10) (by omega) (by omega),Int.tmod_eq_emod_of_nonneg (by omega),w64 (by omega) (by omega),w64 (by omega) (by omega)]
    congr 1
    · omega
    · congr 1
      omega
  rw [e]
theorem dig_bytes {x : Nat} (h : x < 100) : bytesOf (strOfNums (dig x)) = dig x ∧ (strOfNums (dig x)).size = 2 := ⟨bytesOf_strOf (dig_byte h),strOf_size _⟩
theorem rtime_step {D y m r : Nat} (h : Day D y m r) (x : Int) {j i : Nat} {v : ByteArray × Int} (j0 : 1970 ≤ j) (j1 : j ≤ y) (i0 : 1 ≤ i) (i1 : i ≤ 12) (hd : ml j i ≤ D - dby j - cum j i) (hr : if i = 12 then Ev (fun k => halberdref13_Time.l0 k x ((D - dby j - cum j i - ml j i : Nat) : Int) ((j + 1 : Nat) : Int) 1) v else Ev (fun k => halberdref13_Time.l0 k x ((D - dby j - cum j i - ml j i : Nat) : Int) (j : Int) ((i + 1 : Nat) : Int)) v) : Ev (fun k => halberdref13_Time.l0 k x ((D - dby j - cum j i : Nat) : Int) (j : Int) (i : Int)) v := by
  have hlt := h.lt
  have y1 := h.y1
  have mi := ml_pos j i
  have dd := rdays_ok (y := j) (m := i) j0 (by omega) i0 i1
  by_cases h12 : i = 12
  · rw [if_pos h12] at hr
    refine Ev.step (f := _) (fun k => ?_) hr
    simp only [halberdref13_Time.l0]
    refine bindE dd ?_
    rw [if_pos (by omega)]
    refine bindE dd ?_
    rw [w64 (a := (i : Int) + 1) (by omega) (by omega),if_pos (by omega),w64 (by omega) (by omega),w64 (by omega) (by omega)]
    rw [show ((D - dby j - cum j i : Nat) : Int) - ((ml j i : Nat) : Int) = ((D - dby j - cum j i - ml j i : Nat) : Int) by omega]
    rfl
  · rw [if_neg h12] at hr
    refine Ev.step (f := _) (fun k => ?_) hr
    simp only [halberdref13_Time.l0]
    refine bindE dd ?_
    rw [if_pos (by omega)]
    refine bindE dd ?_
    rw [w64 (a := (i : Int) + 1) (by omega) (by omega),if_neg (by omega),w64 (by omega) (by omega)]
    rw [show ((D - dby j - cum j i : Nat) : Int) - ((ml j i : Nat) : Int) = ((D - dby j - cum j i - ml j i : Nat) : Int) by omega]
    rfl
theorem t_bd {t : Nat} (h : t < 86400) : t / 3600 < 100 ∧ t / 60 % 60 < 100 ∧ t % 60 < 100 := by omega
/-- The last month, and the text. -/
theorem rtime_end {D y m r x : Nat} (h : Day D y m r) : Ev (fun k => halberdref13_Time.l0 k (x : Int) (r : Int) (y : Int) (m : Int)) (strOfNums (hd 23 13 ++ timeL y m r (x % 86400)),0) := by
  have h1 := h.m1
  have h2 := h.hr
  have h3 := ml_pos y m
  have a0 : y % 100 < 100 := by omega
  have a1 : m < 100 := by omega
  have a2 : r + 1 < 100 := by omega
  have hneg : ¬ ((r : Int) ≥ ((ml y m : Nat) : Int)) := by omega
  obtain ⟨t,ht,ht1⟩ : ∃ t,t = x % 86400 ∧ t < 86400 := ⟨_,rfl,by omega⟩
  obtain ⟨a3,a4,a5⟩ := t_bd ht1
  have tb := h.timeL_byte ht1
  have E0 : Int.tmod (y : Int) 100 = ((y % 100 : Nat) : Int) := by rw [Int.tmod_eq_emod_of_nonneg (by omega)]; omega
  have E1 : Int.tmod (x : Int) 86400 = (t : Int) := by rw [Int.tmod_eq_emod_of_nonneg (by omega)]; omega
  have E2 : wrap64 (Int.tdiv (t : Int) 3600) = ((t / 3600 : Nat) : Int) := by rw [Int.tdiv_eq_ediv_of_nonneg (by omega),w64 (by omega) (by omega)]; omega
  have E3 : Int.tmod (wrap64 (Int.tdiv (t : Int) 60)) 60 = ((t / 60 % 60 : Nat) : Int) := by rw [Int.tdiv_eq_ediv_of_nonneg (by omega),w64 (by omega) (by omega),Int.tmod_eq_emod_of_nonneg (by omega)]; omega
  have E4 : Int.tmod (t : Int) 60 = ((t % 60 : Nat) : Int) := by rw [Int.tmod_eq_emod_of_nonneg (by omega)]; omega
  have E5 : wrap64 ((r : Int) + 1) = ((r + 1 : Nat) : Int) := by rw [w64 (by omega) (by omega)]; omega
  rw [← ht]
  clear ht h2 h3
  generalize hy1 : y % 100 = y1 at *
  obtain ⟨b0,s0⟩ := dig_bytes a0
  obtain ⟨b1,s1⟩ := dig_bytes a1
  obtain ⟨b2,s2⟩ := dig_bytes a2
  obtain ⟨b3,s3⟩ := dig_bytes a3
  obtain ⟨b4,s4⟩ := dig_bytes a4
  obtain ⟨b5,s5⟩ := dig_bytes a5
  have hT : isTag 23 := ⟨by decide,by decide,by decide⟩
  obtain ⟨X,hX⟩ : ∃ X,X = strOfNums (dig y1) ++ strOfNums (dig m) ++ strOfNums (dig (r + 1)) ++ strOfNums (dig (t / 3600)) ++ strOfNums (dig (t / 60 % 60)) ++ strOfNums (dig (t % 60)) ++ (⟨#[90]⟩ : ByteArray) := ⟨_,rfl⟩
  have bX : bytesOf X = timeL y m r t := by
    rw [hX]
    simp only [bytesOf_app,b0,b1,b2,b3,b4,b5]
    unfold timeL
    rw [hy1]
    rfl
  have hp := tl_ok (t := 23) (s := X) hT bX (by rw [timeL_len]; decide)
  rw [timeL_len] at hp
  have dd := rdays_ok h.y0 h.y1 h.m0 h.m1
  refine Ev.step (f := fun k => (halberdref13_Tl.f k 23 X).bind fun z => some (z,0)) (fun k => ?_) (Ev.bind hp (Ev.now _))
  simp only [halberdref13_Time.l0]
  refine bindE dd ?_
  rw [if_neg hneg,E0,E1,E2,E3,E4,E5]
  clear E0 E1 E2 E3 E4 E5
  refine bindE (two_ok a0) ?_
  refine bindE (two_ok a1) ?_
  rw [if_pos (by omega)]
  refine bindE rfl ?_
  refine bindE (two_ok a2) ?_
  rw [if_pos (by simp only [ByteArray.size_append]; omega)]
  refine bindE rfl ?_
  refine bindE (two_ok a3) ?_
  rw [if_pos (by simp only [ByteArray.size_append]; omega)]
  refine bindE rfl ?_
  refine bindE (two_ok a4) ?_
  rw [if_pos (by simp only [ByteArray.size_append]; omega)]
  refine bindE rfl ?_
  refine bindE (two_ok a5) ?_
  rw [if_pos (by simp only [ByteArray.size_append]; omega)]
  refine bindE rfl ?_
  rw [if_pos (by simp only [ByteArray.size_append]; omega),← hX]
theorem rtime_months {D y m r x : Nat} (h : Day D y m r) (n : Nat) : ∀ i : Nat,i + n = m → 1 ≤ i → Ev (fun k => halberdref13_Time.l0 k (x : Int) ((D - dby y - cum y i : Nat) : Int) (y : Int) (i : Int)) (strOfNums (hd 23 13 ++ timeL y m r (x % 86400)),0) := by
  have hD := h.hD
  have m1 := h.m1
  induction n with
  | zero =>
    intro i hi h1
    obtain rfl : i = m := by omega
    rw [show D - dby y - cum y i = r by omega]
    exact rtime_end h
  | succ n ih =>
    intro i hi h1
    have c1 := cum_succ y h1
    have c2 := cum_mono y (show i + 1 ≤ m by omega)
    refine rtime_step h (x : Int) h.y0 (Nat.le_refl _) h1 (by omega) (by omega) ?_
    rw [if_neg (by omega),show D - dby y - cum y i - ml y i = D - dby y - cum y (i + 1) by omega]
    exact ih (i + 1) (by omega) (by omega)
/-- One whole year. -/
theorem rtime_year {D y m r x j : Nat} (h : Day D y m r) (j0 : 1970 ≤ j) (j1 : j < y) {v : ByteArray × Int} (hr : Ev (fun k => halberdref13_Time.l0 k (x : Int) ((D - dby (j + 1) : Nat) : Int) ((j + 1 : Nat) : Int) 1) v) (n : Nat) : ∀ i : Nat,i + n = 12 → 1 ≤ i → Ev (fun k => halberdref13_Time.l0 k (x : Int) ((D - dby j - cum j i : Nat) : Int) (j : Int) (i : Int)) v := by
  have hy := h.year
  have d1 := dby_succ j0
  have d2 := dby_mono (show j + 1 ≤ y by omega)
  have c13 := cum_13 j
  induction n with
  | zero =>
    intro i hi h1
    obtain rfl : i = 12 := by omega
    have c1 : cum j 13 = cum j 12 + ml j 12 := cum_succ j h1
    refine rtime_step h (x : Int) j0 (by omega) h1 (by omega) (by omega) ?_
    rw [if_pos rfl,show D - dby j - cum j 12 - ml j 12 = D - dby (j + 1) by omega]
    exact hr
  | succ n ih =>
    intro i hi h1
    have c1 := cum_succ j h1
    have c2 := cum_mono j (show i + 1 ≤ 13 by omega)
    refine rtime_step h (x : Int) j0 (by omega) h1 (by omega) (by omega) ?_
    rw [if_neg (by omega),show D - dby j - cum j i - ml j i = D - dby j - cum j (i + 1) by omega]
    exact ih (i + 1) (by omega) (by omega)
theorem rtime_years {D y m r x : Nat} (h : Day D y m r) (n : Nat) : ∀ j : Nat,j + n = y → 1970 ≤ j → Ev (fun k => halberdref13_Time.l0 k (x : Int) ((D - dby j : Nat) : Int) (j : Int) 1) (strOfNums (hd 23 13 ++ timeL y m r (x % 86400)),0) := by
  induction n with
  | zero =>
    intro j hj h1
    obtain rfl : j = y := by omega
    have k := rtime_months (x := x) h (m - 1) 1 (by have := h.m0; omega) (by omega)
    rw [show D - dby j - cum j 1 = D - dby j by have : cum j 1 = 0 := rfl; omega] at k
    exact k
  | succ n ih =>
    intro j hj h1
    have k := rtime_year (x := x) h h1 (by omega) (ih (j + 1) (by omega) (by omega)) 11 1 rfl (by omega)
    rw [show D - dby j - cum j 1 = D - dby j by have : cum j 1 = 0 := rfl; omega] at k
    exact k
theorem rtime_ok {x y m r : Nat} (h : Day (x / 86400) y m r) : Ev (fun k => halberdref13_Time.f k (x : Int)) (strOfNums (hd 23 13 ++ timeL y m r (x % 86400)),0) := by
  have hlt := h.lt
  refine Ev.congr (f := fun k => halberdref13_Time.j0 k (x : Int) false) (fun k => ?_) ?_
  · unfold halberdref13_Time.f
    rw [if_neg (by omega)]
    congr 1
    exact decide_eq_false (by omega)
  · refine Ev.step (f := fun k => halberdref13_Time.l0 k (x : Int) ((x / 86400 - dby 1970 : Nat) : Int) ((1970 : Nat) : Int) 1) (fun k => ?_) (rtime_years h (y - 1970) 1970 (by have := h.y0; omega) (by omega))
    simp only [halberdref13_Time.j0]
    rw [if_neg (by simp),Int.tdiv_eq_ediv_of_nonneg (by omega),w64 (by omega) (by omega)]
    rfl
theorem rtime_bad {x : Int} (h : x < 0 ∨ x > 2524607999) : Ev (fun k => halberdref13_Time.f k x) ((⟨#[]⟩ : ByteArray),1300) := by
  refine Ev.congr (f := fun k => halberdref13_Time.j0 k x true) (fun k => ?_) ?_
  · unfold halberdref13_Time.f
    by_cases h0 : x < 0
    · rw [if_pos h0]
    · rw [if_neg h0]
      congr 1
      exact decide_eq_true (by omega)
  · refine Ev.step (f := fun _ => some ((⟨#[]⟩ : ByteArray),1300)) (fun k => ?_) (Ev.now _)
    simp only [halberdref13_Time.j0]
    rw [if_pos trivial]

end Go.Proofs.Ytonemdclfgckoaa.Pure
