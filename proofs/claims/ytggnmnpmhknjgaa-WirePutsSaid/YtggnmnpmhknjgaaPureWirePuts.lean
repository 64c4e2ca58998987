/- Proved: whatever the number, the text and the size, wire's Put and PutVec answer as the document's (halberdlaw1.WirePuts answers true). Conditions: none beside the given statement's own. -/
import Derived.Test.YtggnmnpmhknjgaaXx11
import Derived.Test.YtggnmnpmhknjgaaXx12
import Derived.Test.YtggnmnpmhknjgaaXx13
import Derived.Test.YtggnmnpmhknjgaaPureLib
namespace Go.Proofs.Ytggnmnpmhknjgaa.Pure
open Go.RowKit Go.Proofs.Ytggnmnpmhknjgaa.X Go.Proofs.YtggnmnpmhknjgaaW.PrintWords Go.Proofs.YtggnmnpmhknjgaaW.PrintLast Go.Proofs.YtggnmnpmhknjgaaW.PrintMore
set_option linter.unusedVariables false
set_option linter.unusedSimpArgs false

/-- The given statement's pure form. -/
theorem WirePuts : halberdlaw1_WirePuts.Pure := by
  intro x s n hx hs hn
  have hx := wf64 hx
  have hn := wf64 hn
  obtain ⟨r, h1, L1, g1⟩ : ∃ r, wire_Put.f x n = some r ∧ ∃ L, ∀ k, L ≤ k → halberdref1_Put.f k x n = some r := by
    by_cases hb : n < 1 ∨ n > 4 ∨ x < 0
    · exact ⟨_, put_no x n hb, rput_no x n hb⟩
    · obtain ⟨m, rfl⟩ : ∃ m : Nat, n = m := ⟨n.toNat, by omega⟩
      exact ⟨_, put_ok x m (by omega) (by omega) (by omega), rput_ok x m (by omega) (by omega) (by omega) (by omega)⟩
  obtain ⟨q, h2, L2, g2⟩ : ∃ q, wire_PutVec.f s n = some q ∧ ∃ L, ∀ k, L ≤ k → halberdref1_PutVec.f k s n = some q := by
    by_cases hb : n < 1 ∨ n > 3
    · exact ⟨_, putVec_no s n hb, rputVec_no s n hb⟩
    · obtain ⟨m, rfl⟩ : ∃ m : Nat, n = m := ⟨n.toNat, by omega⟩
      exact ⟨_, putVec_ok s m (by omega) (by omega) hs, rputVec_ok s m (by omega) (by omega) hs⟩
  refine ⟨L1 + L2, ?_⟩
  unfold halberdlaw1_WirePuts.f
  rw [h1, h2, g1 _ (by omega), g2 _ (by omega)]
  simp only [Option.bind_some, num_f, aw, if_true]

end Go.Proofs.Ytggnmnpmhknjgaa.Pure
