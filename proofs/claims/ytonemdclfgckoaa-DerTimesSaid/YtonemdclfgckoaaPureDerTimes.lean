/- Proved: der's Integer, Time and Untime answer as the document's (halberdlaw13.DerTimes answers true at every input). Conditions: none beside the given statement's own. -/
import Derived.Test.YtonemdclfgckoaaXx10
import Derived.Test.YtonemdclfgckoaaXx12
import Derived.Test.YtonemdclfgckoaaXx14
import Derived.Test.YtonemdclfgckoaaXx15d
import Derived.Test.YtonemdclfgckoaaXx20
import Derived.Test.YtonemdclfgckoaaXx21
import Derived.Test.YtonemdclfgckoaaXx4
import Derived.Test.YtonemdclfgckoaaXx8
import Derived.Test.YtonemdclfgckoaaPureRTime
namespace Go.Proofs.Ytonemdclfgckoaa.Pure
open Go.RowKit Go.Proofs.Ytonemdclfgckoaa.X Go.Proofs.YtonemdclfgckoaaW.PrintWords Go.Proofs.YtonemdclfgckoaaW.PrintLast Go.Proofs.YtonemdclfgckoaaW.PrintMore
set_option linter.unusedVariables false
set_option linter.unusedSimpArgs false

theorem aw : halberdlaw13_awake.f = some true := rfl
theorem same_int (s : ByteArray) : ∃ v,Ev (fun k => der_Integer.f k s) v ∧ Ev (fun k => halberdref13_Integer.f k s) v := by
  by_cases h : s.size ≤ 64
  · exact ⟨_,integer_ok h,rinteger_ok h⟩
  · exact ⟨_,integer_long (by omega),rinteger_long (by omega)⟩
theorem same_time (x : Int) : ∃ v,Ev (fun k => der_Time.f k x) v ∧ Ev (fun k => halberdref13_Time.f k x) v := by
  by_cases h : x < 0 ∨ x > 2524607999
  · exact ⟨_,time_bad h,rtime_bad h⟩
  · obtain ⟨n,rfl⟩ : ∃ n : Nat,x = n := ⟨x.toNat,by omega⟩
    obtain ⟨y,m,r,hd⟩ := day_of (D := n / 86400) (by omega)
    exact ⟨_,time_ok hd,rtime_ok hd⟩
theorem same_untime (s : ByteArray) : ∃ v,Ev (fun k => der_Untime.f k s) v ∧ Ev (fun k => halberdref13_Untime.f k s) v := by
  rcases figs_of s with ⟨a,b,c,d,e,f,g⟩ | h | h | ⟨h1,h2,h3⟩
  · exact ⟨_,untime_good g,runtime_good g⟩
  · exact ⟨_,untime_no (pairs_stop (Or.inl h)) rfl,runtime_stop (Or.inl h)⟩
  · exact ⟨_,untime_no (pairs_stop (Or.inr h)) rfl,runtime_stop (Or.inr h)⟩
  · obtain ⟨v,hv,hb⟩ := pairs_bad h1 h2 h3
    exact ⟨_,untime_no hv hb,runtime_bad h1 h2 h3⟩
/-- The given statement's pure form. -/
theorem DerTimes : halberdlaw13_DerTimes.Pure := by
  intro s x t _ _ _
  obtain ⟨v1,⟨K1,g1⟩,⟨L1,h1⟩⟩ := same_int s
  obtain ⟨v2,⟨K2,g2⟩,⟨L2,h2⟩⟩ := same_time x
  obtain ⟨v3,⟨K3,g3⟩,⟨L3,h3⟩⟩ := same_untime t
  refine ⟨K1 + K2 + K3 + L1 + L2 + L3,?_⟩
  unfold halberdlaw13_DerTimes.f
  refine bindE (g1 _ (by omega)) ?_
  refine bindE (h1 _ (by omega)) ?_
  refine bindE (g2 _ (by omega)) ?_
  refine bindE (h2 _ (by omega)) ?_
  refine bindE (g3 _ (by omega)) ?_
  refine bindE (h3 _ (by omega)) ?_
  rw [if_pos rfl]
  refine bindE (num_f _) ?_
  rw [if_pos rfl,if_pos rfl]
  refine bindE (num_f _) ?_
  rw [if_pos rfl,if_pos rfl]
  refine bindE (num_f _) ?_
  rw [if_pos rfl]
  exact bindE aw rfl

end Go.Proofs.Ytonemdclfgckoaa.Pure
