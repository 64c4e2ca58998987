/- Polys, the plain law. Conditions: none. -/
import Derived.Test.YtocckplgjbhlbaaPuT
import Derived.Test.YtocckplgjbhlbaaRx7
namespace Go.Proofs.Ytocckplgjbhlbaa.Pure
open Go.RowKit Go.Proofs.Ytocckplgjbhlbaa.R Go.Proofs.Ytocckplgjbhlbaa.PureR Go.Proofs.Ytocckplgjbhlbaa.PureP Go.Proofs.YtocckplgjbhlbaaW.PrintWords Go.Proofs.YtocckplgjbhlbaaW.PrintLast
set_option linter.unusedVariables false
theorem num_f (n : Int) : halberdlaw0_Num.f n = some n := rfl
theorem Polys : halberdlaw7_Polys.Pure := by
  intro a0 a1 a2 a3 _ _ _ h3
  obtain ⟨m, e, hm1, hm2⟩ := mac_pair a0 a3 h3
  obtain ⟨c, f, K, hs1, hs2⟩ := seal_pair a0 a1 a2 a3
  obtain ⟨d, g, K2, ho1, ho2⟩ := open_pair a0 a1 a2 a3 h3
  refine ⟨max K K2, ?_⟩
  unfold halberdlaw7_Polys.f
  refine bindE hm1 (bindE hm2 (bindE hs1 (bindE (hs2 _ (Nat.le_max_left _ _)) (bindE ho1 (bindE (ho2 _ (Nat.le_max_right _ _)) ?_)))))
  rw [if_pos rfl]
  refine bindE (num_f e) ?_
  rw [if_pos rfl, if_pos rfl]
  refine bindE (num_f f) ?_
  rw [if_pos rfl, if_pos rfl]
  refine bindE (num_f g) ?_
  rw [if_pos rfl]
  exact bindE rfl rfl
end Go.Proofs.Ytocckplgjbhlbaa.Pure
