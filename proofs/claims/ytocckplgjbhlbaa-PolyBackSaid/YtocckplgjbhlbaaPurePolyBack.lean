/- PolyBack, the plain law. Conditions: none. -/
import Derived.Test.YtocckplgjbhlbaaPx3
import Derived.Test.YtocckplgjbhlbaaPuA
namespace Go.Proofs.Ytocckplgjbhlbaa.Pure
open Go.RowKit Go.Proofs.Ytocckplgjbhlbaa.P Go.Proofs.Ytocckplgjbhlbaa.Pol Go.Proofs.Ytocckplgjbhlbaa.Cha Go.Proofs.YtocckplgjbhlbaaW.PrintWords Go.Proofs.YtocckplgjbhlbaaW.PrintLast Go.Proofs.Ytocckplgjbhlbaa.PureP
set_option linter.unusedVariables false
theorem num_f (n : Int) : halberdlaw0_Num.f n = some n := rfl
theorem pb_l0 (a0 a1 a2 : ByteArray) : ∀ (d i : Nat) (x : List Int), i + d = 44 → x.length = 44 → ∃ n y, y.length = 44 ∧ ∀ k, halberdlaw7_PolyBack.l0 (k + n) a0 a1 a2 x (i : Int) = halberdlaw7_PolyBack.j2 k a1 a2 y
  | 0, i, x, hd, hx => ⟨1, x, hx, fun k => by rw [halberdlaw7_PolyBack.l0, if_neg (by omega)]⟩
  | d + 1, i, x, hd, hx => by
    by_cases h : (i : Int) < (a0.size : Int)
    · obtain ⟨n, y, hy, H⟩ := pb_l0 a0 a1 a2 d (i + 1) (x.set i (bt a0 i)) (by omega) (by rw [List.length_set]; exact hx)
      have hw : wrap64 ((i : Int) + 1) = ((i + 1 : Nat) : Int) := by rw [w64_small (by omega) (by omega)]; omega
      refine ⟨n + 1, y, hy, fun k => ?_⟩
      rw [← Nat.add_assoc, halberdlaw7_PolyBack.l0, if_pos (by omega), if_pos h, if_pos (by omega), if_pos (by omega), hw, Int.toNat_natCast]
      exact H k
    · exact ⟨1, x, hx, fun k => by rw [halberdlaw7_PolyBack.l0, if_pos (by omega), if_neg h]⟩
theorem pb_of (k : Nat) (a s : ByteArray) (y : List Int) (hy : y.length = 44) (c : ByteArray) (hs : s.size ≤ 5000) (hc : c.size = s.size + 16)
    (h1 : poly_Seal.f (strOfNums (y.take 32)) (strOfNums (y.drop 32)) a s = some (c, 0))
    (h2 : poly_Open.f (strOfNums (y.take 32)) (strOfNums (y.drop 32)) a c = some (s, 0)) : halberdlaw7_PolyBack.j2 (k + 1) a s y = some true := by
  have hw : wrap64 ((s.size : Int) + 16) = (c.size : Int) := by rw [w64_small (by omega) (by omega)]; omega
  rw [halberdlaw7_PolyBack.j2, if_pos (by omega)]
  refine bindE h1 (bindE h2 (bindE (num_f 0) ?_))
  rw [if_pos rfl]
  refine bindE (num_f 0) ?_
  rw [if_pos rfl, if_pos rfl, hw, beq_self_eq_true]
theorem pb_j2 (k : Nat) (a s : ByteArray) (y : List Int) (hy : y.length = 44) (ha : a.size ≤ 5000) (hs : s.size ≤ 5000) : halberdlaw7_PolyBack.j2 (k + 1) a s y = some true := by
  have hk := seed_key y hy
  have hn := seed_nonce y hy
  have hz := sealed_size (strOfNums (y.take 32)) (strOfNums (y.drop 32)) a s
  refine pb_of k a s y hy (sealedOf (strOfNums (y.take 32)) (strOfNums (y.drop 32)) a s) hs hz ?_ ?_
  · unfold poly_Seal.f
    rw [if_pos ⟨hk, hn, by omega, by omega⟩]
  · unfold poly_Open.f
    rw [if_pos (by omega), if_pos ⟨⟨⟨hk, hn, by omega, by omega⟩, by omega⟩, sealed_fits _ _ _ _⟩, sealed_opened]
theorem PolyBack : halberdlaw7_PolyBack.Pure := by
  intro a0 a1 a2 _ _ _
  obtain ⟨n, y, hy, H⟩ := pb_l0 a0 a1 a2 44 0 (List.replicate 44 0) (by omega) (by simp)
  refine ⟨0 + 1 + n + 1, ?_⟩
  unfold halberdlaw7_PolyBack.f
  refine bindE rfl ?_
  rw [if_pos rfl]
  by_cases h2 : (a2.size : Int) > 5000
  · rw [if_pos h2, halberdlaw7_PolyBack.j0, if_pos rfl]
  · rw [if_neg h2]
    by_cases h1 : (a1.size : Int) > 5000
    · rw [halberdlaw7_PolyBack.j0, if_pos (decide_eq_true h1)]
    · rw [halberdlaw7_PolyBack.j0, if_neg (by rw [decide_eq_false h1]; decide), if_pos (by decide)]
      exact (H (0 + 1)).trans (pb_j2 0 a1 a2 y hy (by omega) (by omega))
end Go.Proofs.Ytocckplgjbhlbaa.Pure
