/- Proved: whatever the bytes, the place and the size, wire's U8, U16, U24, U32 and Vec answer as the document's Num and Vec (halberdlaw1.WireGets answers true). Conditions: none beside the given statement's own. -/
import Derived.Test.YtggnmnpmhknjgaaXx12
import Derived.Test.YtggnmnpmhknjgaaXx15
import Derived.Test.YtggnmnpmhknjgaaXx16
import Derived.Test.YtggnmnpmhknjgaaXx7
import Derived.Test.YtggnmnpmhknjgaaPureLib
namespace Go.Proofs.Ytggnmnpmhknjgaa.Pure
open Go.RowKit Go.Proofs.Ytggnmnpmhknjgaa.X Go.Proofs.YtggnmnpmhknjgaaW.PrintWords Go.Proofs.YtggnmnpmhknjgaaW.PrintLast Go.Proofs.YtggnmnpmhknjgaaW.PrintMore
set_option linter.unusedVariables false
set_option linter.unusedSimpArgs false

/-- The given statement's pure form. -/
theorem WireGets : halberdlaw1_WireGets.Pure := by
  intro s a n hs ha hn
  have ha := wf64 ha
  have hn := wf64 hn
  obtain ⟨K1, h1⟩ := U8_any s a hs
  obtain ⟨K2, h2⟩ := U16_any s a hs
  obtain ⟨K3, h3⟩ := U24_any s a hs
  obtain ⟨K4, h4⟩ := U32_any s a hs
  obtain ⟨L1, g1⟩ := rnum_any s a 1 (by omega) hs
  obtain ⟨L2, g2⟩ := rnum_any s a 2 (by omega) hs
  obtain ⟨L3, g3⟩ := rnum_any s a 3 (by omega) hs
  obtain ⟨L4, g4⟩ := rnum_any s a 4 (by omega) hs
  obtain ⟨r, K5, L5, h5, g5⟩ : ∃ r K5 L5, (∀ k, K5 ≤ k → wire_Vec.f k s a n = some r) ∧ (∀ k, L5 ≤ k → halberdref1_Vec.f k s a n = some r) := by
    by_cases hb : n < 1 ∨ n > 3
    · obtain ⟨K, h⟩ := vec_no (s := s) (a := a) hb
      obtain ⟨L, g⟩ := rvec_no (s := s) (a := a) hb
      exact ⟨_, K, L, h, g⟩
    · obtain ⟨m, rfl⟩ : ∃ m : Nat, n = m := ⟨n.toNat, by omega⟩
      obtain ⟨K, h⟩ := vec_ok (s := s) (a := a) (n := m) (by omega) (by omega) hs
      obtain ⟨L, g⟩ := rvec_ok (s := s) (a := a) (n := m) (by omega) (by omega) hs
      exact ⟨_, K, L, h, g⟩
  refine ⟨K1 + K2 + K3 + K4 + K5 + L1 + L2 + L3 + L4 + L5, ?_⟩
  unfold halberdlaw1_WireGets.f
  replace g1 : ∀ k, L1 ≤ k → halberdref1_Num.f k s a 1 = some (numOf s a 1) := g1
  replace g2 : ∀ k, L2 ≤ k → halberdref1_Num.f k s a 2 = some (numOf s a 2) := g2
  replace g3 : ∀ k, L3 ≤ k → halberdref1_Num.f k s a 3 = some (numOf s a 3) := g3
  replace g4 : ∀ k, L4 ≤ k → halberdref1_Num.f k s a 4 = some (numOf s a 4) := g4
  refine bindE (h1 _ (by omega)) ?_
  refine bindE (h2 _ (by omega)) ?_
  refine bindE (h3 _ (by omega)) ?_
  refine bindE (h4 _ (by omega)) ?_
  refine bindE (h5 _ (by omega)) ?_
  refine bindE (g1 _ (by omega)) ?_
  refine bindE (g2 _ (by omega)) ?_
  refine bindE (g3 _ (by omega)) ?_
  refine bindE (g4 _ (by omega)) ?_
  refine bindE (g5 _ (by omega)) ?_
  simp only [if_true, num_f, aw, Option.bind_some]

end Go.Proofs.Ytggnmnpmhknjgaa.Pure
