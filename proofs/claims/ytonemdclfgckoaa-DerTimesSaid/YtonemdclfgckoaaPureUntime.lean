/- Lemmas on der.Untime: what it reads, at all texts. Conditions: each lemma's own. -/
import Derived.Test.YtonemdclfgckoaaXx13
import Derived.Test.YtonemdclfgckoaaXx14
import Derived.Test.YtonemdclfgckoaaPureTime
namespace Go.Proofs.Ytonemdclfgckoaa.Pure
open Go.RowKit Go.Proofs.Ytonemdclfgckoaa.X Go.Proofs.YtonemdclfgckoaaW.PrintWords Go.Proofs.YtonemdclfgckoaaW.PrintLast Go.Proofs.YtonemdclfgckoaaW.PrintMore
set_option linter.unusedVariables false
set_option linter.unusedSimpArgs false

theorem acc1 {x : Int} (h : 48 ≤ x ∧ x ≤ 57) : wrap64 ((wrap64 (0 * 10)) + ((x - 48) % 256)) = x - 48 := by
  rw [w64 (a := (0 : Int) * 10) (by omega) (by omega),w64 (by omega) (by omega)]
  omega
theorem acc2 {x y : Int} (g : 48 ≤ x ∧ x ≤ 57) (h : 48 ≤ y ∧ y ≤ 57) : wrap64 ((wrap64 ((x - 48) * 10)) + ((y - 48) % 256)) = (x - 48) * 10 + (y - 48) := by
  rw [w64 (a := (x - 48) * 10) (by omega) (by omega),w64 (by omega) (by omega)]
  omega
theorem figs_good {s : ByteArray} (hs : s.size = 13) (h : ∀ i : Nat,i < 12 → 48 ≤ bt s (i : Int) ∧ bt s (i : Int) ≤ 57) : Ev (fun k => der_pairs.l0 k s 0 0 0 0 0 0 0) (((bt s 0 - 48) * 10 + (bt s 1 - 48)),((bt s 2 - 48) * 10 + (bt s 3 - 48)),((bt s 4 - 48) * 10 + (bt s 5 - 48)),((bt s 6 - 48) * 10 + (bt s 7 - 48)),((bt s 8 - 48) * 10 + (bt s 9 - 48)),((bt s 10 - 48) * 10 + (bt s 11 - 48)),true) := by
  have d0 : 48 ≤ bt s 0 ∧ bt s 0 ≤ 57 := h 0 (by decide)
  have d1 : 48 ≤ bt s 1 ∧ bt s 1 ≤ 57 := h 1 (by decide)
  have d2 : 48 ≤ bt s 2 ∧ bt s 2 ≤ 57 := h 2 (by decide)
  have d3 : 48 ≤ bt s 3 ∧ bt s 3 ≤ 57 := h 3 (by decide)
  have d4 : 48 ≤ bt s 4 ∧ bt s 4 ≤ 57 := h 4 (by decide)
  have d5 : 48 ≤ bt s 5 ∧ bt s 5 ≤ 57 := h 5 (by decide)
  have d6 : 48 ≤ bt s 6 ∧ bt s 6 ≤ 57 := h 6 (by decide)
  have d7 : 48 ≤ bt s 7 ∧ bt s 7 ≤ 57 := h 7 (by decide)
  have d8 : 48 ≤ bt s 8 ∧ bt s 8 ≤ 57 := h 8 (by decide)
  have d9 : 48 ≤ bt s 9 ∧ bt s 9 ≤ 57 := h 9 (by decide)
  have d10 : 48 ≤ bt s 10 ∧ bt s 10 ≤ 57 := h 10 (by decide)
  have d11 : 48 ≤ bt s 11 ∧ bt s 11 ≤ 57 := h 11 (by decide)
  refine Ev.step (f := fun k => der_pairs.l0 k s 1 (bt s 0 - 48) 0 0 0 0 0) (fun k => by
    simp only [der_pairs.l0]
    rw [if_pos (show (0 : Int) < 12 by decide),if_pos (show (0 : Int) ≤ 0 by decide),if_pos (show (0 : Int) < (s.size : Int) by omega),if_neg (show ¬ bt s 0 < 48 by omega),if_neg (show ¬ bt s 0 > 57 by omega),show wrap64 (Int.tdiv 0 2) = 0 by decide +kernel,if_pos (show (0 : Int) = 0 from rfl),acc1 d0,w64 (a := (0 : Int) + 1) (by omega) (by omega)]
    rfl) ?_
  refine Ev.step (f := fun k => der_pairs.l0 k s 2 ((bt s 0 - 48) * 10 + (bt s 1 - 48)) 0 0 0 0 0) (fun k => by
    simp only [der_pairs.l0]
    rw [if_pos (show (1 : Int) < 12 by decide),if_pos (show (0 : Int) ≤ 1 by decide),if_pos (show (1 : Int) < (s.size : Int) by omega),if_neg (show ¬ bt s 1 < 48 by omega),if_neg (show ¬ bt s 1 > 57 by omega),show wrap64 (Int.tdiv 1 2) = 0 by decide +kernel,if_pos (show (0 : Int) = 0 from rfl),acc2 d0 d1,w64 (a := (1 : Int) + 1) (by omega) (by omega)]
    rfl) ?_
  refine Ev.step (f := fun k => der_pairs.l0 k s 3 ((bt s 0 - 48) * 10 + (bt s 1 - 48)) (bt s 2 - 48) 0 0 0 0) (fun k => by
    simp only [der_pairs.l0]
    rw [if_pos (show (2 : Int) < 12 by decide),if_pos (show (0 : Int) ≤ 2 by decide),if_pos (show (2 : Int) < (s.size : Int) by omega),if_neg (show ¬ bt s 2 < 48 by omega),if_neg (show ¬ bt s 2 > 57 by omega),show wrap64 (Int.tdiv 2 2) = 1 by decide +kernel,if_neg (show ¬ ((1 : Int) = 0) by decide),if_pos (show (1 : Int) = 1 from rfl),acc1 d2,w64 (a := (2 : Int) + 1) (by omega) (by omega)]
    rfl) ?_
  refine Ev.step (f := fun k => der_pairs.l0 k s 4 ((bt s 0 - 48) * 10 + (bt s 1 - 48)) ((bt s 2 - 48) * 10 + (bt s 3 - 48)) 0 0 0 0) (fun k => by
    simp only [der_pairs.l0]
    rw [if_pos (show (3 : Int) < 12 by decide),if_pos (show (0 : Int) ≤ 3 by decide),if_pos (show (3 : Int) < (s.size : Int) by omega),if_neg (show ¬ bt s 3 < 48 by omega),if_neg (show ¬ bt s 3 > 57 by omega),show wrap64 (Int.tdiv 3 2) = 1 by decide +kernel,if_neg (show ¬ ((1 : Int) = 0) by decide),if_pos (show (1 : Int) = 1 from rfl),acc2 d2 d3,w64 (a := (3 : Int) + 1) (by omega) (by omega)]
    rfl) ?_
  refine Ev.step (f := fun k => der_pairs.l0 k s 5 ((bt s 0 - 48) * 10 + (bt s 1 - 48)) ((bt s 2 - 48) * 10 + (bt s 3 - 48)) (bt s 4 - 48) 0 0 0) (fun k => by
    simp only [der_pairs.l0]
    rw [if_pos (show (4 : Int) < 12 by decide),if_pos (show (0 : Int) ≤ 4 by decide),if_pos (show (4 : Int) < (s.size : Int) by omega),if_neg (show ¬ bt s 4 < 48 by omega),if_neg (show ¬ bt s 4 > 57 by omega),show wrap64 (Int.tdiv 4 2) = 2 by decide +kernel,if_neg (show ¬ ((2 : Int) = 0) by decide),if_neg (show ¬ ((2 : Int) = 1) by decide),if_pos (show (2 : Int) = 2 from rfl),acc1 d4,w64 (a := (4 : Int) + 1) (by omega) (by omega)]
    rfl) ?_
  refine Ev.step (f := fun k => der_pairs.l0 k s 6 ((bt s 0 - 48) * 10 + (bt s 1 - 48)) ((bt s 2 - 48) * 10 + (bt s 3 - 48)) ((bt s 4 - 48) * 10 + (bt s 5 - 48)) 0 0 0) (fun k => by
    simp only [der_pairs.l0]
    rw [if_pos (show (5 : Int) < 12 by decide),if_pos (show (0 : Int) ≤ 5 by decide),if_pos (show (5 : Int) < (s.size : Int) by omega),if_neg (show ¬ bt s 5 < 48 by omega),if_neg (show ¬ bt s 5 > 57 by omega),show wrap64 (Int.tdiv 5 2) = 2 by decide +kernel,if_neg (show ¬ ((2 : Int) = 0) by decide),if_neg (show ¬ ((2 : Int) = 1) by decide),if_pos (show (2 : Int) = 2 from rfl),acc2 d4 d5,w64 (a := (5 : Int) + 1) (by omega) (by omega)]
    rfl) ?_
  refine Ev.step (f := fun k => der_pairs.l0 k s 7 ((bt s 0 - 48) * 10 + (bt s 1 - 48)) ((bt s 2 - 48) * 10 + (bt s 3 - 48)) ((bt s 4 - 48) * 10 + (bt s 5 - 48)) (bt s 6 - 48) 0 0) (fun k => by
    simp only [der_pairs.l0]
    rw [if_pos (show (6 : Int) < 12 by decide),if_pos (show (0 : Int) ≤ 6 by decide),if_pos (show (6 : Int) < (s.size : Int) by omega),if_neg (show ¬ bt s 6 < 48 by omega),if_neg (show ¬ bt s 6 > 57 by omega),show wrap64 (Int.tdiv 6 2) = 3 by decide +kernel,if_neg (show ¬ ((3 : Int) = 0) by decide),if_neg (show ¬ ((3 : Int) = 1) by decide),if_neg (show ¬ ((3 : Int) = 2) by decide),if_pos (show (3 : Int) = 3 from rfl),acc1 d6,w64 (a := (6 : Int) + 1) (by omega) (by omega)]
    rfl) ?_
  refine Ev.step (f := fun k => der_pairs.l0 k s 8 ((bt s 0 - 48) * 10 + (bt s 1 - 48)) ((bt s 2 - 48) * 10 + (bt s 3 - 48)) ((bt s 4 - 48) * 10 + (bt s 5 - 48)) ((bt s 6 - 48) * 10 + (bt s 7 - 48)) 0 0) (fun k => by
    simp only [der_pairs.l0]
    rw [if_pos (show (7 : Int) < 12 by decide),if_pos (show (0 : Int) ≤ 7 by decide),if_pos (show (7 : Int) < (s.size : Int) by omega),if_neg (show ¬ bt s 7 < 48 by omega),if_neg (show ¬ bt s 7 > 57 by omega),show wrap64 (Int.tdiv 7 2) = 3 by decide +kernel,if_neg (show ¬ ((3 : Int) = 0) by decide),if_neg (show ¬ ((3 : Int) = 1) by decide),if_neg (show ¬ ((3 : Int) = 2) by decide),if_pos (show (3 : Int) = 3 from rfl),acc2 d6 d7,w64 (a := (7 : Int) + 1) (by omega) (by omega)]
    rfl) ?_
  refine Ev.step (f := fun k => der_pairs.l0 k s 9 ((bt s 0 - 48) * 10 + (bt s 1 - 48)) ((bt s 2 - 48) * 10 + (bt s 3 - 48)) ((bt s 4 - 48) * 10 + (bt s 5 - 48)) ((bt s 6 - 48) * 10 + (bt s 7 - 48)) (bt s 8 - 48) 0) (fun k => by
    simp only [der_pairs.l0]
    rw [if_pos (show (8 : Int) < 12 by decide),if_pos (show (0 : Int) ≤ 8 by decide),if_pos (show (8 : Int) < (s.size : Int) by omega),if_neg (show ¬ bt s 8 < 48 by omega),if_neg (show ¬ bt s 8 > 57 by omega),show wrap64 (Int.tdiv 8 2) = 4 by decide +kernel,if_neg (show ¬ ((4 : Int) = 0) by decide),if_neg (show ¬ ((4 : Int) = 1) by decide),if_neg (show ¬ ((4 : Int) = 2) by decide),if_neg (show ¬ ((4 : Int) = 3) by decide),if_pos (show (4 : Int) = 4 from rfl),acc1 d8,w64 (a := (8 : Int) + 1) (by omega) (by omega)]
    rfl) ?_
  refine Ev.step (f := fun k => der_pairs.l0 k s 10 ((bt s 0 - 48) * 10 + (bt s 1 - 48)) ((bt s 2 - 48) * 10 + (bt s 3 - 48)) ((bt s 4 - 48) * 10 + (bt s 5 - 48)) ((bt s 6 - 48) * 10 + (bt s 7 - 48)) ((bt s 8 - 48) * 10 + (bt s 9 - 48)) 0) (fun k => by
    simp only [der_pairs.l0]
    rw [if_pos (show (9 : Int) < 12 by decide),if_pos (show (0 : Int) ≤ 9 by decide),if_pos (show (9 : Int) < (s.size : Int) by omega),if_neg (show ¬ bt s 9 < 48 by omega),if_neg (show ¬ bt s 9 > 57 by omega),show wrap64 (Int.tdiv 9 2) = 4 by decide +kernel,if_neg (show ¬ ((4 : Int) = 0) by decide),if_neg (show ¬ ((4 : Int) = 1) by decide),if_neg (show ¬ ((4 : Int) = 2) by decide),if_neg (show ¬ ((4 : Int) = 3) by decide),if_pos (show (4 : Int) = 4 from rfl),acc2 d8 d9,w64 (a := (9 : Int) + 1) (by omega) (by omega)]
    rfl) ?_
  refine Ev.step (f := fun k => der_pairs.l0 k s 11 ((bt s 0 - 48) * 10 + (bt s 1 - 48)) ((bt s 2 - 48) * 10 + (bt s 3 - 48)) ((bt s 4 - 48) * 10 + (bt s 5 - 48)) ((bt s 6 - 48) * 10 + (bt s 7 - 48)) ((bt s 8 - 48) * 10 + (bt s 9 - 48)) (bt s 10 - 48)) (fun k => by
    simp only [der_pairs.l0]
    rw [if_pos (show (10 : Int) < 12 by decide),if_pos (show (0 : Int) ≤ 10 by decide),if_pos (show (10 : Int) < (s.size : Int) by omega),if_neg (show ¬ bt s 10 < 48 by omega),if_neg (show ¬ bt s 10 > 57 by omega),show wrap64 (Int.tdiv 10 2) = 5 by decide +kernel,if_neg (show ¬ ((5 : Int) = 0) by decide),if_neg (show ¬ ((5 : Int) = 1) by decide),if_neg (show ¬ ((5 : Int) = 2) by decide),if_neg (show ¬ ((5 : Int) = 3) by decide),if_neg (show ¬ ((5 : Int) = 4) by decide),if_pos (show (5 : Int) = 5 from rfl),acc1 d10,w64 (a := (10 : Int) + 1) (by omega) (by omega)]
    rfl) ?_
  refine Ev.step (f := fun k => der_pairs.l0 k s 12 ((bt s 0 - 48) * 10 + (bt s 1 - 48)) ((bt s 2 - 48) * 10 + (bt s 3 - 48)) ((bt s 4 - 48) * 10 + (bt s 5 - 48)) ((bt s 6 - 48) * 10 + (bt s 7 - 48)) ((bt s 8 - 48) * 10 + (bt s 9 - 48)) ((bt s 10 - 48) * 10 + (bt s 11 - 48))) (fun k => by
    simp only [der_pairs.l0]
    rw [if_pos (show (11 : Int) < 12 by decide),if_pos (show (0 : Int) ≤ 11 by decide),if_pos (show (11 : Int) < (s.size : Int) by omega),if_neg (show ¬ bt s 11 < 48 by omega),if_neg (show ¬ bt s 11 > 57 by omega),show wrap64 (Int.tdiv 11 2) = 5 by decide +kernel,if_neg (show ¬ ((5 : Int) = 0) by decide),if_neg (show ¬ ((5 : Int) = 1) by decide),if_neg (show ¬ ((5 : Int) = 2) by decide),if_neg (show ¬ ((5 : Int) = 3) by decide),if_neg (show ¬ ((5 : Int) = 4) by decide),if_pos (show (5 : Int) = 5 from rfl),acc2 d10 d11,w64 (a := (11 : Int) + 1) (by omega) (by omega)]
    rfl) ?_
  refine Ev.step (f := fun _ => some (((bt s 0 - 48) * 10 + (bt s 1 - 48)),((bt s 2 - 48) * 10 + (bt s 3 - 48)),((bt s 4 - 48) * 10 + (bt s 5 - 48)),((bt s 6 - 48) * 10 + (bt s 7 - 48)),((bt s 8 - 48) * 10 + (bt s 9 - 48)),((bt s 10 - 48) * 10 + (bt s 11 - 48)),true)) (fun k => ?_) (Ev.now _)
  simp only [der_pairs.l0]
  rw [if_neg (show ¬ ((12 : Int) < 12) by decide)]
theorem figs_bad {s : ByteArray} (hs : s.size = 13) (n : Nat) : ∀ i : Nat,i + n = 12 → (∃ j : Nat,i ≤ j ∧ j < 12 ∧ ¬ (48 ≤ bt s (j : Int) ∧ bt s (j : Int) ≤ 57)) → ∀ a b c d e f : Int,∃ v,Ev (fun k => der_pairs.l0 k s (i : Int) a b c d e f) v ∧ v.2.2.2.2.2.2 = false := by
  induction n with
  | zero =>
    intro i hi ⟨j,h1,h2,_⟩
    omega
  | succ n ih =>
    intro i hi ⟨j,h1,h2,h3⟩ a b c d e f
    by_cases g1 : bt s (i : Int) < 48
    · refine ⟨_,Ev.step (f := fun _ => some (a,b,c,d,e,f,false)) (fun k => ?_) (Ev.now _),rfl⟩
      simp only [der_pairs.l0]
      rw [if_pos (show (i : Int) < 12 by omega),if_pos (show (0 : Int) ≤ (i : Int) by omega),if_pos (show (i : Int) < (s.size : Int) by omega),if_pos g1]
    by_cases g2 : bt s (i : Int) > 57
    · refine ⟨_,Ev.step (f := fun _ => some (a,b,c,d,e,f,false)) (fun k => ?_) (Ev.now _),rfl⟩
      simp only [der_pairs.l0]
      rw [if_pos (show (i : Int) < 12 by omega),if_pos (show (0 : Int) ≤ (i : Int) by omega),if_pos (show (i : Int) < (s.size : Int) by omega),if_neg g1,if_pos g2]
    have hj : i ≠ j := by
      rintro rfl
      exact h3 ⟨by omega,by omega⟩
    have hq : wrap64 (Int.tdiv (i : Int) 2) = 0 ∨ wrap64 (Int.tdiv (i : Int) 2) = 1 ∨ wrap64 (Int.tdiv (i : Int) 2) = 2 ∨ wrap64 (Int.tdiv (i : Int) 2) = 3 ∨ wrap64 (Int.tdiv (i : Int) 2) = 4 ∨ wrap64 (Int.tdiv (i : Int) 2) = 5 := by
      rw [Int.tdiv_eq_ediv_of_nonneg (by omega),w64 (by omega) (by omega)]
      omega
    rcases hq with hq | hq | hq | hq | hq | hq
    · obtain ⟨v,hv,hb⟩ := ih (i + 1) (by omega) ⟨j,by omega,h2,h3⟩ (wrap64 ((wrap64 (a * 10)) + (((bt s (i : Int)) - 48) % 256))) b c d e f
      refine ⟨v,Ev.step (f := fun k => der_pairs.l0 k s ((i + 1 : Nat) : Int) (wrap64 ((wrap64 (a * 10)) + (((bt s (i : Int)) - 48) % 256))) b c d e f) (fun k => ?_) hv,hb⟩
      simp only [der_pairs.l0]
      rw [if_pos (show (i : Int) < 12 by omega),if_pos (show (0 : Int) ≤ (i : Int) by omega),if_pos (show (i : Int) < (s.size : Int) by omega),if_neg g1,if_neg g2,hq,if_pos (show (0 : Int) = 0 from rfl),w64 (a := (i : Int) + 1) (by omega) (by omega)]
      rfl
    · obtain ⟨v,hv,hb⟩ := ih (i + 1) (by omega) ⟨j,by omega,h2,h3⟩ a (wrap64 ((wrap64 (b * 10)) + (((bt s (i : Int)) - 48) % 256))) c d e f
      refine ⟨v,Ev.step (f := fun k => der_pairs.l0 k s ((i + 1 : Nat) : Int) a (wrap64 ((wrap64 (b * 10)) + (((bt s (i : Int)) - 48) % 256))) c d e f) (fun k => ?_) hv,hb⟩
      simp only [der_pairs.l0]
      rw [if_pos (show (i : Int) < 12 by omega),if_pos (show (0 : Int) ≤ (i : Int) by omega),if_pos (show (i : Int) < (s.size : Int) by omega),if_neg g1,if_neg g2,hq,if_neg (show ¬ ((1 : Int) = 0) by decide),if_pos (show (1 : Int) = 1 from rfl),w64 (a := (i : Int) + 1) (by omega) (by omega)]
      rfl
    · obtain ⟨v,hv,hb⟩ := ih (i + 1) (by omega) ⟨j,by omega,h2,h3⟩ a b (wrap64 ((wrap64 (c * 10)) + (((bt s (i : Int)) - 48) % 256))) d e f
      refine ⟨v,Ev.step (f := fun k => der_pairs.l0 k s ((i + 1 : Nat) : Int) a b (wrap64 ((wrap64 (c * 10)) + (((bt s (i : Int)) - 48) % 256))) d e f) (fun k => ?_) hv,hb⟩
      simp only [der_pairs.l0]
      rw [if_pos (show (i : Int) < 12 by omega),if_pos (show (0 : Int) ≤ (i : Int) by omega),if_pos (show (i : Int) < (s.size : Int) by omega),if_neg g1,if_neg g2,hq,if_neg (show ¬ ((2 : Int) = 0) by decide),if_neg (show ¬ ((2 : Int) = 1) by decide),if_pos (show (2 : Int) = 2 from rfl),w64 (a := (i : Int) + 1) (by omega) (by omega)]
      rfl
    · obtain ⟨v,hv,hb⟩ := ih (i + 1) (by omega) ⟨j,by omega,h2,h3⟩ a b c (wrap64 ((wrap64 (d * 10)) + (((bt s (i : Int)) - 48) % 256))) e f
      refine ⟨v,Ev.step (f := fun k => der_pairs.l0 k s ((i + 1 : Nat) : Int) a b c (wrap64 ((wrap64 (d * 10)) + (((bt s (i : Int)) - 48) % 256))) e f) (fun k => ?_) hv,hb⟩
      simp only [der_pairs.l0]
      rw [if_pos (show (i : Int) < 12 by omega),if_pos (show (0 : Int) ≤ (i : Int) by omega),if_pos (show (i : Int) < (s.size : Int) by omega),if_neg g1,if_neg g2,hq,if_neg (show ¬ ((3 : Int) = 0) by decide),if_neg (show ¬ ((3 : Int) = 1) by decide),if_neg (show ¬ ((3 : Int) = 2) by decide),if_pos (show (3 : Int) = 3 from rfl),w64 (a := (i : Int) + 1) (by omega) (by omega)]
      rfl
    · obtain ⟨v,hv,hb⟩ := ih (i + 1) (by omega) ⟨j,by omega,h2,h3⟩ a b c d (wrap64 ((wrap64 (e * 10)) + (((bt s (i : Int)) - 48) % 256))) f
      refine ⟨v,Ev.step (f := fun k => der_pairs.l0 k s ((i + 1 : Nat) : Int) a b c d (wrap64 ((wrap64 (e * 10)) + (((bt s (i : Int)) - 48) % 256))) f) (fun k => ?_) hv,hb⟩
      simp only [der_pairs.l0]
      rw [if_pos (show (i : Int) < 12 by omega),if_pos (show (0 : Int) ≤ (i : Int) by omega),if_pos (show (i : Int) < (s.size : Int) by omega),if_neg g1,if_neg g2,hq,if_neg (show ¬ ((4 : Int) = 0) by decide),if_neg (show ¬ ((4 : Int) = 1) by decide),if_neg (show ¬ ((4 : Int) = 2) by decide),if_neg (show ¬ ((4 : Int) = 3) by decide),if_pos (show (4 : Int) = 4 from rfl),w64 (a := (i : Int) + 1) (by omega) (by omega)]
      rfl
    · obtain ⟨v,hv,hb⟩ := ih (i + 1) (by omega) ⟨j,by omega,h2,h3⟩ a b c d e (wrap64 ((wrap64 (f * 10)) + (((bt s (i : Int)) - 48) % 256)))
      refine ⟨v,Ev.step (f := fun k => der_pairs.l0 k s ((i + 1 : Nat) : Int) a b c d e (wrap64 ((wrap64 (f * 10)) + (((bt s (i : Int)) - 48) % 256)))) (fun k => ?_) hv,hb⟩
      simp only [der_pairs.l0]
      rw [if_pos (show (i : Int) < 12 by omega),if_pos (show (0 : Int) ≤ (i : Int) by omega),if_pos (show (i : Int) < (s.size : Int) by omega),if_neg g1,if_neg g2,hq,if_neg (show ¬ ((5 : Int) = 0) by decide),if_neg (show ¬ ((5 : Int) = 1) by decide),if_neg (show ¬ ((5 : Int) = 2) by decide),if_neg (show ¬ ((5 : Int) = 3) by decide),if_neg (show ¬ ((5 : Int) = 4) by decide),if_pos (show (5 : Int) = 5 from rfl),w64 (a := (i : Int) + 1) (by omega) (by omega)]
      rfl
/-- What a moment's year, month, day, hour, minute and second are worth. -/
def restL (y b c d e f : Nat) : Int × Int := if b < 1 ∨ b > 12 ∨ c < 1 ∨ c > ml y b ∨ d > 23 ∨ e > 59 ∨ f > 59 then (0,1300) else ((((dby y + cum y b + (c - 1)) * 86400 + d * 3600 + e * 60 + f : Nat) : Int),0)
def untimeL (a b c d e f : Nat) : Int × Int := if 50 ≤ a ∧ a < 70 then (0,1300) else restL (if a < 50 then 2000 + a else 1900 + a) b c d e f
theorem dby_bd {y : Nat} (h : y ≤ 2050) : dby y ≤ 29220 := by
  have := dby_mono h
  have h5 : dby 2050 = 29220 := by decide
  omega
theorem cum_bd (y : Nat) {m : Nat} (h : m ≤ 13) : cum y m ≤ 366 := by
  have := cum_mono y h
  rw [cum_13] at this
  unfold yl at this
  split at this <;> omega
theorem sum_months {y a b c d e f : Nat} (y0 : 1970 ≤ y) (y1 : y < 2050) (b1 : b ≤ 12) (c0 : 1 ≤ c) (c1 : c ≤ 31) (d1 : d ≤ 23) (e1 : e ≤ 59) (f1 : f ≤ 59) (n : Nat) : ∀ i : Nat,i + n = b → 1 ≤ i → Ev (fun k => der_Untime.l1 k (y : Int) ((c - 1 + dby y + cum y i : Nat) : Int) (i : Int) (a : Int) (b : Int) (c : Int) (d : Int) (e : Int) (f : Int)) ((((dby y + cum y b + (c - 1)) * 86400 + d * 3600 + e * 60 + f : Nat) : Int),0) := by
  have q := dby_bd (show y ≤ 2050 by omega)
  induction n with
  | zero =>
    intro i hi h1
    obtain rfl : i = b := by omega
    have q1 := cum_bd y (show i ≤ 13 by omega)
    refine Ev.step (f := fun _ => some ((((dby y + cum y i + (c - 1)) * 86400 + d * 3600 + e * 60 + f : Nat) : Int),0)) (fun k => ?_) (Ev.now _)
    simp only [der_Untime.l1]
    rw [if_neg (by omega)]
    obtain ⟨S,hS,hS1⟩ : ∃ S : Nat,S = c - 1 + dby y + cum y i ∧ S ≤ 30000 := ⟨_,rfl,by omega⟩
    rw [← hS,show dby y + cum y i + (c - 1) = S by omega]
    clear hS q q1
    rw [w64 (a := ((S : Int) * 86400)) (by omega) (by omega),w64 (a := ((d : Int) * 3600)) (by omega) (by omega),w64 (a := ((e : Int) * 60)) (by omega) (by omega),w64 (a := ((S : Int) * 86400) + ((d : Int) * 3600)) (by omega) (by omega),w64 (a := ((S : Int) * 86400) + ((d : Int) * 3600) + ((e : Int) * 60)) (by omega) (by omega),w64 (by omega) (by omega)]
    congr 2 <;> omega
  | succ n ih =>
    intro i hi h1
    have q1 := cum_bd y (show i + 1 ≤ 13 by omega)
    have q2 := cum_succ y h1
    refine Ev.step (f := fun k => der_Untime.l1 k (y : Int) ((c - 1 + dby y + cum y (i + 1) : Nat) : Int) ((i + 1 : Nat) : Int) (a : Int) (b : Int) (c : Int) (d : Int) (e : Int) (f : Int)) (fun k => ?_) (ih (i + 1) (by omega) (by omega))
    simp only [der_Untime.l1]
    rw [if_pos (by omega)]
    refine bindE (days_ok y0 y1 h1 (by omega)) ?_
    rw [w64 (by omega) (by omega),w64 (by omega) (by omega)]
    congr 1
    omega
theorem sum_years {y a b c d e f : Nat} (y1 : y < 2050) (b0 : 1 ≤ b) (b1 : b ≤ 12) (c0 : 1 ≤ c) (c1 : c ≤ 31) (d1 : d ≤ 23) (e1 : e ≤ 59) (f1 : f ≤ 59) (n : Nat) : ∀ j : Nat,j + n = y → 1970 ≤ j → Ev (fun k => der_Untime.l0 k (y : Int) ((c - 1 + dby j : Nat) : Int) (j : Int) (a : Int) (b : Int) (c : Int) (d : Int) (e : Int) (f : Int)) ((((dby y + cum y b + (c - 1)) * 86400 + d * 3600 + e * 60 + f : Nat) : Int),0) := by
  induction n with
  | zero =>
    intro j hj h1
    obtain rfl : j = y := by omega
    refine Ev.step (f := fun k => der_Untime.l1 k (j : Int) ((c - 1 + dby j + cum j 1 : Nat) : Int) ((1 : Nat) : Int) (a : Int) (b : Int) (c : Int) (d : Int) (e : Int) (f : Int)) (fun k => ?_) (sum_months h1 y1 b1 c0 c1 d1 e1 f1 (b - 1) 1 (by omega) (by omega))
    simp only [der_Untime.l0]
    rw [if_neg (by omega)]
    rfl
  | succ n ih =>
    intro j hj h1
    have q := dby_bd (show j + 1 ≤ 2050 by omega)
    have q2 := dby_succ h1
    refine Ev.step (f := fun k => der_Untime.l0 k (y : Int) ((c - 1 + dby (j + 1) : Nat) : Int) ((j + 1 : Nat) : Int) (a : Int) (b : Int) (c : Int) (d : Int) (e : Int) (f : Int)) (fun k => ?_) (ih (j + 1) (by omega) (by omega))
    simp only [der_Untime.l0]
    rw [if_pos (by omega)]
    refine bindE (yearDays_ok h1 (by omega)) ?_
    rw [w64 (by omega) (by omega),w64 (by omega) (by omega)]
    congr 1
    omega
theorem rest_bad (y : Int) (a b c d e f : Nat) : Ev (fun k => der_Untime.j2 k y true (a : Int) (b : Int) (c : Int) (d : Int) (e : Int) (f : Int)) (0,1300) := by
  refine Ev.step (f := fun _ => some (0,1300)) (fun k => ?_) (Ev.now _)
  simp only [der_Untime.j2]
  rw [if_pos trivial]
theorem rest_ok {y a b c d e f : Nat} (y0 : 1970 ≤ y) (y1 : y < 2050) : Ev (fun k => der_Untime.j1 k (y : Int) (a : Int) (b : Int) (c : Int) (d : Int) (e : Int) (f : Int)) (restL y b c d e f) := by
  have bad := rest_bad (y : Int) a b c d e f
  by_cases hb : b < 1
  · rw [show restL y b c d e f = (0,1300) by unfold restL; rw [if_pos (by omega)]]
    refine Ev.step (f := fun k => der_Untime.j2 k (y : Int) true (a : Int) (b : Int) (c : Int) (d : Int) (e : Int) (f : Int)) (fun k => ?_) bad
    simp only [der_Untime.j1]
    rw [if_pos (show (b : Int) < 1 by omega)]
  by_cases hb2 : b > 12
  · rw [show restL y b c d e f = (0,1300) by unfold restL; rw [if_pos (by omega)]]
    refine Ev.step (f := fun k => der_Untime.j2 k (y : Int) true (a : Int) (b : Int) (c : Int) (d : Int) (e : Int) (f : Int)) (fun k => ?_) bad
    simp only [der_Untime.j1]
    rw [if_neg (show ¬ ((b : Int) < 1) by omega),if_pos (show (b : Int) > 12 by omega)]
  by_cases hc : c < 1
  · rw [show restL y b c d e f = (0,1300) by unfold restL; rw [if_pos (by omega)]]
    refine Ev.step (f := fun k => der_Untime.j2 k (y : Int) true (a : Int) (b : Int) (c : Int) (d : Int) (e : Int) (f : Int)) (fun k => ?_) bad
    simp only [der_Untime.j1]
    rw [if_neg (show ¬ ((b : Int) < 1) by omega),if_neg (show ¬ ((b : Int) > 12) by omega),if_pos (show (c : Int) < 1 by omega)]
  have mp := ml_pos y b
  have dy := days_ok y0 y1 (show 1 ≤ b by omega) (show b ≤ 12 by omega)
  by_cases hc2 : c > ml y b
  · rw [show restL y b c d e f = (0,1300) by unfold restL; rw [if_pos (by omega)]]
    refine Ev.step (f := fun k => der_Untime.j2 k (y : Int) true (a : Int) (b : Int) (c : Int) (d : Int) (e : Int) (f : Int)) (fun k => ?_) bad
    simp only [der_Untime.j1]
    rw [if_neg (show ¬ ((b : Int) < 1) by omega),if_neg (show ¬ ((b : Int) > 12) by omega),if_neg (show ¬ ((c : Int) < 1) by omega)]
    refine bindE dy ?_
    rw [if_pos (by omega)]
  by_cases hd : d > 23
  · rw [show restL y b c d e f = (0,1300) by unfold restL; rw [if_pos (by omega)]]
    refine Ev.step (f := fun k => der_Untime.j2 k (y : Int) true (a : Int) (b : Int) (c : Int) (d : Int) (e : Int) (f : Int)) (fun k => ?_) bad
    simp only [der_Untime.j1]
    rw [if_neg (show ¬ ((b : Int) < 1) by omega),if_neg (show ¬ ((b : Int) > 12) by omega),if_neg (show ¬ ((c : Int) < 1) by omega)]
    refine bindE dy ?_
    rw [if_neg (by omega),if_pos (by omega)]
  by_cases he : e > 59
  · rw [show restL y b c d e f = (0,1300) by unfold restL; rw [if_pos (by omega)]]
    refine Ev.step (f := fun k => der_Untime.j2 k (y : Int) true (a : Int) (b : Int) (c : Int) (d : Int) (e : Int) (f : Int)) (fun k => ?_) bad
    simp only [der_Untime.j1]
    rw [if_neg (show ¬ ((b : Int) < 1) by omega),if_neg (show ¬ ((b : Int) > 12) by omega),if_neg (show ¬ ((c : Int) < 1) by omega)]
    refine bindE dy ?_
    rw [if_neg (by omega),if_neg (show ¬ ((d : Int) > 23) by omega),if_pos (by omega)]
  by_cases hf : f > 59
  · rw [show restL y b c d e f = (0,1300) by unfold restL; rw [if_pos (by omega)]]
    refine Ev.step (f := fun k => der_Untime.j2 k (y : Int) true (a : Int) (b : Int) (c : Int) (d : Int) (e : Int) (f : Int)) (fun k => ?_) bad
    simp only [der_Untime.j1]
    rw [if_neg (show ¬ ((b : Int) < 1) by omega),if_neg (show ¬ ((b : Int) > 12) by omega),if_neg (show ¬ ((c : Int) < 1) by omega)]
    refine bindE dy ?_
    rw [if_neg (by omega),if_neg (show ¬ ((d : Int) > 23) by omega),if_neg (show ¬ ((e : Int) > 59) by omega)]
    congr 1
    exact decide_eq_true (by omega)
  rw [show restL y b c d e f = ((((dby y + cum y b + (c - 1)) * 86400 + d * 3600 + e * 60 + f : Nat) : Int),0) by unfold restL; rw [if_neg (by omega)]]
  refine Ev.step (f := fun k => der_Untime.j2 k (y : Int) false (a : Int) (b : Int) (c : Int) (d : Int) (e : Int) (f : Int)) (fun k => ?_) ?_
  · simp only [der_Untime.j1]
    rw [if_neg (show ¬ ((b : Int) < 1) by omega),if_neg (show ¬ ((b : Int) > 12) by omega),if_neg (show ¬ ((c : Int) < 1) by omega)]
    refine bindE dy ?_
    rw [if_neg (by omega),if_neg (show ¬ ((d : Int) > 23) by omega),if_neg (show ¬ ((e : Int) > 59) by omega)]
    congr 1
    exact decide_eq_false (by omega)
  · refine Ev.step (f := fun k => der_Untime.l0 k (y : Int) ((c - 1 + dby 1970 : Nat) : Int) ((1970 : Nat) : Int) (a : Int) (b : Int) (c : Int) (d : Int) (e : Int) (f : Int)) (fun k => ?_) (sum_years y1 (by omega) (by omega) (by omega) (by omega) (by omega) (by omega) (by omega) (y - 1970) 1970 (by omega) (by omega))
    simp only [der_Untime.j2]
    rw [if_neg (by simp),w64 (by omega) (by omega),show dby 1970 = 0 from rfl,show (c : Int) - 1 = ((c - 1 + 0 : Nat) : Int) by omega]
    rfl
theorem untime_tail {a b c d e f : Nat} (a1 : a < 100) : Ev (fun k => if (a : Int) ≥ 50 then (der_Untime.j0 k (decide ((a : Int) < 70)) (a : Int) (b : Int) (c : Int) (d : Int) (e : Int) (f : Int)) else (der_Untime.j0 k false (a : Int) (b : Int) (c : Int) (d : Int) (e : Int) (f : Int))) (untimeL a b c d e f) := by
  by_cases h : 50 ≤ a ∧ a < 70
  · rw [show untimeL a b c d e f = (0,1300) by unfold untimeL; rw [if_pos h]]
    refine Ev.congr (f := fun k => der_Untime.j0 k true (a : Int) (b : Int) (c : Int) (d : Int) (e : Int) (f : Int)) (fun k => ?_) ?_
    · rw [if_pos (by omega)]
      congr 1
      exact decide_eq_true (by omega)
    · refine Ev.step (f := fun _ => some (0,1300)) (fun k => ?_) (Ev.now _)
      simp only [der_Untime.j0]
      rw [if_pos trivial]
  · rw [show untimeL a b c d e f = restL (if a < 50 then 2000 + a else 1900 + a) b c d e f by unfold untimeL; rw [if_neg h]]
    refine Ev.congr (f := fun k => der_Untime.j0 k false (a : Int) (b : Int) (c : Int) (d : Int) (e : Int) (f : Int)) (fun k => ?_) ?_
    · by_cases h1 : a < 50
      · rw [if_neg (by omega)]
      · rw [if_pos (by omega)]
        congr 1
        exact decide_eq_false (by omega)
    · refine Ev.step (f := fun k => der_Untime.j1 k ((if a < 50 then 2000 + a else 1900 + a : Nat) : Int) (a : Int) (b : Int) (c : Int) (d : Int) (e : Int) (f : Int)) (fun k => ?_) (rest_ok (by split <;> omega) (by split <;> omega))
      simp only [der_Untime.j0]
      rw [if_neg (by simp)]
      by_cases h1 : a < 50
      · rw [if_neg (by omega),if_pos h1,w64 (by omega) (by omega)]
        rfl
      · rw [if_pos (by omega),if_neg h1,w64 (a := 2000 + (a : Int)) (by omega) (by omega),w64 (by omega) (by omega),show 2000 + (a : Int) - 100 = ((1900 + a : Nat) : Int) by omega]
/-- A text that is read. -/
structure Figs (s : ByteArray) (a b c d e f : Nat) : Prop where
  hs : s.size = 13
  hz : bt s 12 = 90
  h : ∀ i : Nat,i < 12 → 48 ≤ bt s (i : Int) ∧ bt s (i : Int) ≤ 57
  ha : (a : Int) = (bt s 0 - 48) * 10 + (bt s 1 - 48)
  hb : (b : Int) = (bt s 2 - 48) * 10 + (bt s 3 - 48)
  hc : (c : Int) = (bt s 4 - 48) * 10 + (bt s 5 - 48)
  hd : (d : Int) = (bt s 6 - 48) * 10 + (bt s 7 - 48)
  he : (e : Int) = (bt s 8 - 48) * 10 + (bt s 9 - 48)
  hf : (f : Int) = (bt s 10 - 48) * 10 + (bt s 11 - 48)
theorem Figs.a1 {s : ByteArray} {a b c d e f : Nat} (g : Figs s a b c d e f) : a < 100 := by
  have h0 : 48 ≤ bt s 0 ∧ bt s 0 ≤ 57 := g.h 0 (by decide)
  have h1 : 48 ≤ bt s 1 ∧ bt s 1 ≤ 57 := g.h 1 (by decide)
  have := g.ha
  omega
theorem figs_of (s : ByteArray) : (∃ a b c d e f,Figs s a b c d e f) ∨ s.size ≠ 13 ∨ (s.size = 13 ∧ bt s 12 ≠ 90) ∨ (s.size = 13 ∧ bt s 12 = 90 ∧ ∃ j : Nat,0 ≤ j ∧ j < 12 ∧ ¬ (48 ≤ bt s (j : Int) ∧ bt s (j : Int) ≤ 57)) := by
  by_cases h1 : s.size = 13
  · by_cases h2 : bt s 12 = 90
    · by_cases h3 : ∀ i : Nat,i < 12 → 48 ≤ bt s (i : Int) ∧ bt s (i : Int) ≤ 57
      · left
        have d : ∀ i : Nat,i < 11 → (((bt s (i : Int) - 48) * 10 + (bt s ((i + 1 : Nat) : Int) - 48)).toNat : Int) = (bt s (i : Int) - 48) * 10 + (bt s ((i + 1 : Nat) : Int) - 48) := by
          intro i hi
          have := h3 i (by omega)
          have := h3 (i + 1) (by omega)
          omega
        exact ⟨_,_,_,_,_,_,h1,h2,h3,d 0 (by decide),d 2 (by decide),d 4 (by decide),d 6 (by decide),d 8 (by decide),d 10 (by decide)⟩
      · right; right; right
        refine ⟨h1,h2,?_⟩
        apply Classical.byContradiction
        intro h4
        apply h3
        intro i hi
        apply Classical.byContradiction
        intro h5
        exact h4 ⟨i,by omega,hi,h5⟩
    · exact Or.inr (Or.inr (Or.inl ⟨h1,h2⟩))
  · exact Or.inr (Or.inl h1)
theorem untime_good {s : ByteArray} {a b c d e f : Nat} (g : Figs s a b c d e f) : Ev (fun k => der_Untime.f k s) (untimeL a b c d e f) := by
  have hp : Ev (fun k => der_pairs.f k s) ((a : Int),(b : Int),(c : Int),(d : Int),(e : Int),(f : Int),true) := by
    rw [g.ha,g.hb,g.hc,g.hd,g.he,g.hf]
    refine Ev.congr (f := fun k => der_pairs.j0 k s false 0 0 0 0 0 0) (fun k => ?_) ?_
    · unfold der_pairs.f
      rw [if_pos (by rw [g.hs]; rfl),if_pos (by rw [g.hs]; decide),g.hz]
      rfl
    · refine Ev.step (f := fun k => der_pairs.l0 k s 0 0 0 0 0 0 0) (fun k => ?_) (figs_good g.hs g.h)
      simp only [der_pairs.j0]
      rw [if_neg (by simp)]
  refine Ev.congr (f := fun k => (der_pairs.f k s).bind _) (fun k => by unfold der_Untime.f; rfl) ?_
  refine Ev.bind hp ?_
  refine evPos rfl ?_
  exact untime_tail g.a1
theorem untime_no {s : ByteArray} {v : Int × Int × Int × Int × Int × Int × Bool} (h : Ev (fun k => der_pairs.f k s) v) (hv : v.2.2.2.2.2.2 = false) : Ev (fun k => der_Untime.f k s) (0,1300) := by
  refine Ev.congr (f := fun k => (der_pairs.f k s).bind _) (fun k => by unfold der_Untime.f; rfl) ?_
  refine Ev.bind h ?_
  refine evNeg (by rw [hv]; simp) ?_
  refine Ev.step (f := fun _ => some (0,1300)) (fun k => ?_) (Ev.now _)
  simp only [der_Untime.j0]
  rw [if_pos trivial]
theorem pairs_stop {s : ByteArray} (h : s.size ≠ 13 ∨ (s.size = 13 ∧ bt s 12 ≠ 90)) : Ev (fun k => der_pairs.f k s) (0,0,0,0,0,0,false) := by
  refine Ev.congr (f := fun k => der_pairs.j0 k s true 0 0 0 0 0 0) (fun k => ?_) ?_
  · unfold der_pairs.f
    rcases h with h | ⟨h1,h2⟩
    · rw [if_neg (by omega)]
    · rw [if_pos (by omega),if_pos (by omega),show (bt s 12 != 90) = true by simpa using h2]
  · refine Ev.step (f := fun _ => some (0,0,0,0,0,0,false)) (fun k => ?_) (Ev.now _)
    simp only [der_pairs.j0]
    rw [if_pos trivial]
theorem pairs_bad {s : ByteArray} (hs : s.size = 13) (hz : bt s 12 = 90) (h : ∃ j : Nat,0 ≤ j ∧ j < 12 ∧ ¬ (48 ≤ bt s (j : Int) ∧ bt s (j : Int) ≤ 57)) : ∃ v : Int × Int × Int × Int × Int × Int × Bool,Ev (fun k => der_pairs.f k s) v ∧ v.2.2.2.2.2.2 = false := by
  obtain ⟨v,hv,hb⟩ := figs_bad hs 12 0 rfl h 0 0 0 0 0 0
  refine ⟨v,?_,hb⟩
  refine Ev.congr (f := fun k => der_pairs.j0 k s false 0 0 0 0 0 0) (fun k => ?_) ?_
  · unfold der_pairs.f
    rw [if_pos (by rw [hs]; rfl),if_pos (by rw [hs]; decide),hz]
    rfl
  · refine Ev.step (f := fun k => der_pairs.l0 k s ((0 : Nat) : Int) 0 0 0 0 0 0) (fun k => ?_) hv
    simp only [der_pairs.j0]
    rw [if_neg (by simp)]
    rfl

end Go.Proofs.Ytonemdclfgckoaa.Pure
