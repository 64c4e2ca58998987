/- PolyEnds, the plain law. Conditions: none. -/
import Derived.Test.YtocckplgjbhlbaaPuN
import Derived.Test.YtocckplgjbhlbaaTx3
namespace Go.Proofs.Ytocckplgjbhlbaa.Pure
open Go.RowKit Go.Proofs.Ytocckplgjbhlbaa.T Go.Proofs.Ytocckplgjbhlbaa.Pol Go.Proofs.Ytocckplgjbhlbaa.PureP Go.Proofs.YtocckplgjbhlbaaW.PrintWords Go.Proofs.YtocckplgjbhlbaaW.PrintLast
set_option linter.unusedVariables false
theorem num_f (n : Int) : halberdlaw0_Num.f n = some n := rfl
theorem macOf_size (key s : ByteArray) : (macOf key s).size = 16 := by rw [macOf, tagged, strOfNums_size_, tout_length]
theorem both_f (key s : ByteArray) (hk : key.size = 32) (hs : s.size ≤ 140737488351232) : poly_Mac.f key s = some (macOf key s, 0) ∧ halberdref4_Poly.f key s = some (macOf key s, 0) := by
  refine ⟨?_, ?_⟩
  · unfold poly_Mac.f
    rw [if_pos hk]
  · unfold halberdref4_Poly.f halberdref4_poly.f
    rw [if_pos (by omega), if_pos ⟨hk, by omega⟩, mac_law key s hk]
    rfl
/-- The end of the law. -/
theorem pe_end (x7 z : List Int) (h7 : x7.length = 32) (hz : z.length ≤ 1000) :
    ((poly_Mac.f (strOfNums x7) (strOfNums z)).bind fun bt210 => ((halberdref4_Poly.f (strOfNums x7) (strOfNums z)).bind fun bt212 => (if bt210.1.toList = bt212.1.toList then ((halberdlaw0_Num.f bt210.2).bind fun t214 => (if t214 = 0 then (if bt212.2 = 0 then (some ((bt210.1.size : Int) == 16)) else (some false)) else (some false))) else (some false)))) = some true := by
  obtain ⟨h1, h2⟩ := both_f (strOfNums x7) (strOfNums z) (by rw [strOfNums_size_]; exact h7) (by rw [strOfNums_size_]; omega)
  refine bindE h1 (bindE h2 ?_)
  rw [if_pos rfl]
  refine bindE (num_f 0) ?_
  rw [if_pos rfl, if_pos rfl, macOf_size]
  rfl
theorem pe_l1 (x2 : Int) (x7 : List Int) (h7 : x7.length = 32) (n : Nat) (hn : n < 128) : ∀ (d i : Nat) (x : List Int), i + d = n → x.length = n → ∀ k, halberdlaw7_PolyEnds.l1 (k + 1 + d) x2 x7 (n : Int) x (i : Int) = some true
  | 0, i, x, hd, hx, k => by
    rw [Nat.add_zero, halberdlaw7_PolyEnds.l1, if_neg (by omega)]
    by_cases h : (n : Int) > 0
    · have hw : wrap64 ((n : Int) - 1) = ((n - 1 : Nat) : Int) := by rw [w64_small (by omega) (by omega)]; omega
      rw [if_pos h, hw, if_pos (by omega), if_pos (by omega), if_pos (by omega)]
      refine bindE rfl ?_
      exact pe_end x7 _ h7 (by simp only [List.length_set]; omega)
    · rw [if_neg h]
      exact pe_end x7 _ h7 (by omega)
  | d + 1, i, x, hd, hx, k => by
    have hw : wrap64 ((i : Int) + 1) = ((i + 1 : Nat) : Int) := by rw [w64_small (by omega) (by omega)]; omega
    rw [← Nat.add_assoc, halberdlaw7_PolyEnds.l1, if_pos (by omega), if_pos (by omega), if_pos (by omega), hw, Int.toNat_natCast]
    exact pe_l1 x2 x7 h7 n hn d (i + 1) _ (by omega) (by rw [List.length_set]; exact hx) k
theorem pe_l0 (x0 : ByteArray) (x1 x2 : Int) : ∀ (d i : Nat) (x : List Int), i + d = 32 → x.length = 32 → halberdlaw7_PolyEnds.l0 (200 + d) x0 x1 x2 x (i : Int) = some true
  | 0, i, x, hd, hx => by
    have hb : 0 ≤ x1 % 128 ∧ x1 % 128 < 128 := by omega
    rw [Nat.add_zero, halberdlaw7_PolyEnds.l0, if_neg (by omega), and_127]
    generalize x1 % 128 = y at hb
    obtain ⟨n, rfl⟩ : ∃ n : Nat, (n : Int) = y := ⟨y.toNat, by omega⟩
    rw [if_pos (by omega), Int.toNat_natCast, if_pos (by omega)]
    have := pe_l1 x2 x hx n (by omega) n 0 (List.replicate n 0) (by omega) (by simp) (198 - n)
    rw [show 198 - n + 1 + n = 199 by omega] at this
    exact this
  | d + 1, i, x, hd, hx => by
    have hw : wrap64 ((i : Int) + 1) = ((i + 1 : Nat) : Int) := by rw [w64_small (by omega) (by omega)]; omega
    rw [← Nat.add_assoc, halberdlaw7_PolyEnds.l0, if_pos (by omega), if_pos (by omega), if_pos (by omega), hw, Int.toNat_natCast]
    refine bindE rfl ?_
    by_cases h : (i : Int) < (x0.size : Int)
    · rw [if_pos h]
      exact pe_l0 x0 x1 x2 d (i + 1) _ (by omega) (by simp only [List.length_set]; exact hx)
    · rw [if_neg h]
      exact pe_l0 x0 x1 x2 d (i + 1) _ (by omega) (by simp only [List.length_set]; exact hx)
theorem PolyEnds : halberdlaw7_PolyEnds.Pure := by
  intro a0 a1 a2
  intros
  refine ⟨232, ?_⟩
  unfold halberdlaw7_PolyEnds.f
  refine bindE rfl ?_
  rw [if_pos rfl, if_pos (by decide)]
  exact pe_l0 a0 a1 a2 32 0 (List.replicate 32 0) (by omega) (by simp)
end Go.Proofs.Ytocckplgjbhlbaa.Pure
