/- Proved: every error, limit and kind that the program names is the document's number: the closed function halberdlaw0.HalberdNames answers true. Conditions: none. -/
import Derived.Test.YtggnmnpmhknjgaaPHalberdNamesx2
namespace Go.Proofs.Ytggnmnpmhknjgaa.Pure
open Go.RowKit Go.Proofs.Ytggnmnpmhknjgaa.PHalberdNames Go.Proofs.YtggnmnpmhknjgaaW.PrintWords Go.Proofs.YtggnmnpmhknjgaaW.PrintLast

theorem HalberdNames : halberdlaw0_HalberdNames.Pure := by
  unfold halberdlaw0_HalberdNames.Pure
  rfl

end Go.Proofs.Ytggnmnpmhknjgaa.Pure
