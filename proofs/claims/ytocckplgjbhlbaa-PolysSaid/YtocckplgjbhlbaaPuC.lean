/- Limbs of 26 bits, modulo 2^130 - 5: the program's carries and products and the document's: plain laws without a program. Conditions: none. -/
import Derived.Test.YtocckplgjbhlbaaPuB
import Derived.Test.YtocckplgjbhlbaaPolC
namespace Go.Proofs.Ytocckplgjbhlbaa.PureP
open Go.RowKit Go.Proofs.Ytocckplgjbhlbaa.Cha Go.Proofs.Ytocckplgjbhlbaa.Pol Go.Proofs.YtocckplgjbhlbaaW.PrintWords
set_option linter.unusedVariables false
theorem w64 (n : Int) : IntKind.u64.wrap n = n % 18446744073709551616 := by simp [IntKind.wrap, IntKind.bits, IntKind.signed]
theorem w64_in (n : Int) (h : 0 ≤ n) (h1 : n < 18446744073709551616) : IntKind.u64.wrap n = n := by rw [w64]; omega
theorem wraps64 : ∀ n : Int, 0 ≤ n → n < 2 ^ 64 → IntKind.u64.wrap n = n := by
  intro n h0 h1
  have : (2 : Int) ^ 64 = 18446744073709551616 := by decide
  exact w64_in n h0 (by omega)
theorem and26 (x : Int) (h : 0 ≤ x) (h1 : x < 18446744073709551616) : Go.bits .and .u64 x 67108863 = x % 67108864 := by
  have := bits_mask .u64 64 (by decide) wraps64 26 (by decide) x h (by have : (2 : Int) ^ 64 = 18446744073709551616 := by decide
                                                                       omega)
  exact this
/-- The number of five limbs. -/
def val (y : List Int) : Int := gx y 0 + gx y 1 * 67108864 + gx y 2 * 4503599627370496 + gx y 3 * 302231454903657293676544 + gx y 4 * 20282409603651670423947251286016
theorem val5 (a b c d e : Int) : val [a, b, c, d, e] = a + b * 67108864 + c * 4503599627370496 + d * 302231454903657293676544 + e * 20282409603651670423947251286016 := rfl
/-- The modulus. -/
def pp : Int := 1361129467683753853853498429727072845819
theorem given_eq (d0 d1 d2 d3 d4 : Int) : given 0 [d0, d1, d2, d3, d4] 6 =
  [(Go.bits .and .u64 (IntKind.u64.wrap ((Go.bits .and .u64 d0 67108863) + (IntKind.u64.wrap (5 * ((IntKind.u64.wrap (d4 + (IntKind.u64.wrap (d3 + (IntKind.u64.wrap (d2 + (IntKind.u64.wrap (d1 + d0 / 67108864)) / 67108864)) / 67108864)) / 67108864)) / 67108864))))) 67108863),
   (IntKind.u64.wrap ((Go.bits .and .u64 (IntKind.u64.wrap (d1 + d0 / 67108864)) 67108863) + (IntKind.u64.wrap ((Go.bits .and .u64 d0 67108863) + (IntKind.u64.wrap (5 * ((IntKind.u64.wrap (d4 + (IntKind.u64.wrap (d3 + (IntKind.u64.wrap (d2 + (IntKind.u64.wrap (d1 + d0 / 67108864)) / 67108864)) / 67108864)) / 67108864)) / 67108864))))) / 67108864)),
   (Go.bits .and .u64 (IntKind.u64.wrap (d2 + (IntKind.u64.wrap (d1 + d0 / 67108864)) / 67108864)) 67108863),
   (Go.bits .and .u64 (IntKind.u64.wrap (d3 + (IntKind.u64.wrap (d2 + (IntKind.u64.wrap (d1 + d0 / 67108864)) / 67108864)) / 67108864)) 67108863),
   (Go.bits .and .u64 (IntKind.u64.wrap (d4 + (IntKind.u64.wrap (d3 + (IntKind.u64.wrap (d2 + (IntKind.u64.wrap (d1 + d0 / 67108864)) / 67108864)) / 67108864)) / 67108864)) 67108863)] := by rfl
/-- A pass of the program's carry: each limb by itself, the number less a multiple of the modulus. -/
theorem carry_law (d0 d1 d2 d3 d4 : Int) (h0 : 0 ≤ d0 ∧ d0 < 1152921504606846976) (h1 : 0 ≤ d1 ∧ d1 < 1152921504606846976) (h2 : 0 ≤ d2 ∧ d2 < 1152921504606846976) (h3 : 0 ≤ d3 ∧ d3 < 1152921504606846976) (h4 : 0 ≤ d4 ∧ d4 < 1152921504606846976) :
    ∃ b0 b1 b2 b3 b4 c0 c1 c2 c3 c4 c5 m0 m1 : Int, given 0 [d0, d1, d2, d3, d4] 6 = [b0, b1, b2, b3, b4] ∧
      c0 = d0 / 67108864 ∧ m0 = d0 % 67108864 ∧ c1 = (d1 + c0) / 67108864 ∧ m1 = (d1 + c0) % 67108864 ∧ c2 = (d2 + c1) / 67108864 ∧ b2 = (d2 + c1) % 67108864 ∧ c3 = (d3 + c2) / 67108864 ∧ b3 = (d3 + c2) % 67108864 ∧
      c4 = (d4 + c3) / 67108864 ∧ b4 = (d4 + c3) % 67108864 ∧ c5 = (m0 + 5 * c4) / 67108864 ∧ b0 = (m0 + 5 * c4) % 67108864 ∧ b1 = m1 + c5 := by
  have e0 : IntKind.u64.wrap (d1 + d0 / 67108864) = d1 + d0 / 67108864 := w64_in _ (by omega) (by omega)
  obtain ⟨c0, hc0⟩ : ∃ c0, c0 = d0 / 67108864 := ⟨_, rfl⟩
  have n0 : 0 ≤ c0 ∧ c0 < 17179869184 := by omega
  obtain ⟨m0, hm0⟩ : ∃ m0, m0 = d0 % 67108864 := ⟨_, rfl⟩
  have a0 := and26 d0 h0.1 (by omega)
  rw [← hm0] at a0
  rw [← hc0] at e0
  have a1 := and26 (d1 + c0) (by omega) (by omega)
  obtain ⟨c1, hc1⟩ : ∃ c1, c1 = (d1 + c0) / 67108864 := ⟨_, rfl⟩
  have n1 : 0 ≤ c1 ∧ c1 < 17179870000 := by omega
  obtain ⟨m1, hm1⟩ : ∃ m1, m1 = (d1 + c0) % 67108864 := ⟨_, rfl⟩
  rw [← hm1] at a1
  have e1 : IntKind.u64.wrap (d2 + c1) = d2 + c1 := w64_in _ (by omega) (by omega)
  have a2 := and26 (d2 + c1) (by omega) (by omega)
  obtain ⟨c2, hc2⟩ : ∃ c2, c2 = (d2 + c1) / 67108864 := ⟨_, rfl⟩
  have n2 : 0 ≤ c2 ∧ c2 < 17179870000 := by omega
  have e2 : IntKind.u64.wrap (d3 + c2) = d3 + c2 := w64_in _ (by omega) (by omega)
  have a3 := and26 (d3 + c2) (by omega) (by omega)
  obtain ⟨c3, hc3⟩ : ∃ c3, c3 = (d3 + c2) / 67108864 := ⟨_, rfl⟩
  have n3 : 0 ≤ c3 ∧ c3 < 17179870000 := by omega
  have e3 : IntKind.u64.wrap (d4 + c3) = d4 + c3 := w64_in _ (by omega) (by omega)
  have a4 := and26 (d4 + c3) (by omega) (by omega)
  obtain ⟨c4, hc4⟩ : ∃ c4, c4 = (d4 + c3) / 67108864 := ⟨_, rfl⟩
  have n4 : 0 ≤ c4 ∧ c4 < 17179870000 := by omega
  have e4 : IntKind.u64.wrap (5 * c4) = 5 * c4 := w64_in _ (by omega) (by omega)
  have e5 : IntKind.u64.wrap (m0 + 5 * c4) = m0 + 5 * c4 := w64_in _ (by omega) (by omega)
  have a5 := and26 (m0 + 5 * c4) (by omega) (by omega)
  obtain ⟨c5, hc5⟩ : ∃ c5, c5 = (m0 + 5 * c4) / 67108864 := ⟨_, rfl⟩
  have n5 : 0 ≤ c5 ∧ c5 < 1300 := by omega
  have e6 : IntKind.u64.wrap (m1 + c5) = m1 + c5 := w64_in _ (by omega) (by omega)
  refine ⟨_, _, _, _, _, c0, c1, c2, c3, c4, c5, m0, m1, ?_, hc0, hm0, hc1, hm1, hc2, rfl, hc3, rfl, hc4, rfl, hc5, rfl, rfl⟩
  rw [given_eq]
  simp only [← hc0, e0, ← hc1, e1, ← hc2, e2, ← hc3, e3, ← hc4, e4, a0, a1, a2, a3, a4, e5, a5, ← hc5, e6]
/-- .. in short. -/
theorem carry_val (d0 d1 d2 d3 d4 : Int) (h0 : 0 ≤ d0 ∧ d0 < 1152921504606846976) (h1 : 0 ≤ d1 ∧ d1 < 1152921504606846976) (h2 : 0 ≤ d2 ∧ d2 < 1152921504606846976) (h3 : 0 ≤ d3 ∧ d3 < 1152921504606846976) (h4 : 0 ≤ d4 ∧ d4 < 1152921504606846976) :
    ∃ b0 b1 b2 b3 b4 k : Int, given 0 [d0, d1, d2, d3, d4] 6 = [b0, b1, b2, b3, b4] ∧ (0 ≤ b0 ∧ b0 < 67108864) ∧ (0 ≤ b1 ∧ b1 < 67117056) ∧ (0 ≤ b2 ∧ b2 < 67108864) ∧ (0 ≤ b3 ∧ b3 < 67108864) ∧ (0 ≤ b4 ∧ b4 < 67108864) ∧
      val [b0, b1, b2, b3, b4] = val [d0, d1, d2, d3, d4] - k * 1361129467683753853853498429727072845819 := by
  obtain ⟨b0, b1, b2, b3, b4, c0, c1, c2, c3, c4, c5, m0, m1, e, hc0, hm0, hc1, hm1, hc2, hb2, hc3, hb3, hc4, hb4, hc5, hb0, hb1⟩ := carry_law d0 d1 d2 d3 d4 h0 h1 h2 h3 h4
  have n0 : 0 ≤ c0 ∧ c0 < 17179869184 := by omega
  have n1 : 0 ≤ c1 ∧ c1 < 17179870000 := by omega
  have n2 : 0 ≤ c2 ∧ c2 < 17179870000 := by omega
  have n3 : 0 ≤ c3 ∧ c3 < 17179870000 := by omega
  have n4 : 0 ≤ c4 ∧ c4 < 17179870000 := by omega
  have g0 : d0 = m0 + 67108864 * c0 := by omega
  have g1 : d1 + c0 = m1 + 67108864 * c1 := by omega
  have g2 : d2 + c1 = b2 + 67108864 * c2 := by omega
  have g3 : d3 + c2 = b3 + 67108864 * c3 := by omega
  have g4 : d4 + c3 = b4 + 67108864 * c4 := by omega
  have g5 : m0 + 5 * c4 = b0 + 67108864 * c5 := by omega
  refine ⟨b0, b1, b2, b3, b4, c4, e, by omega, by omega, by omega, by omega, by omega, ?_⟩
  rw [val5, val5]
  clear hc0 hm0 hc1 hm1 hc2 hb2 hc3 hb3 hc4 hb4 hc5 hb0 e
  omega
/-- A pass over limbs that are nearly whole leaves whole ones. -/
theorem carry_small (d0 d1 d2 d3 d4 : Int) (h0 : 0 ≤ d0 ∧ d0 < 67108864) (h1 : 0 ≤ d1 ∧ d1 < 67117056) (h2 : 0 ≤ d2 ∧ d2 < 67108864) (h3 : 0 ≤ d3 ∧ d3 < 67108864) (h4 : 0 ≤ d4 ∧ d4 < 67108864) :
    ∃ b0 b1 b2 b3 b4 k : Int, given 0 [d0, d1, d2, d3, d4] 6 = [b0, b1, b2, b3, b4] ∧ (0 ≤ b0 ∧ b0 < 67108864) ∧ (0 ≤ b1 ∧ b1 < 67108864) ∧ (0 ≤ b2 ∧ b2 < 67108864) ∧ (0 ≤ b3 ∧ b3 < 67108864) ∧ (0 ≤ b4 ∧ b4 < 67108864) ∧
      val [b0, b1, b2, b3, b4] = val [d0, d1, d2, d3, d4] - k * 1361129467683753853853498429727072845819 := by
  obtain ⟨b0, b1, b2, b3, b4, c0, c1, c2, c3, c4, c5, m0, m1, e, hc0, hm0, hc1, hm1, hc2, hb2, hc3, hb3, hc4, hb4, hc5, hb0, hb1⟩ := carry_law d0 d1 d2 d3 d4 (by omega) (by omega) (by omega) (by omega) (by omega)
  have n0 : c0 = 0 := by omega
  subst n0
  have n1 : c1 = 0 ∨ (c1 = 1 ∧ m1 < 8192) := by omega
  have n2 : 0 ≤ c2 ∧ c2 ≤ c1 := by omega
  have n3 : 0 ≤ c3 ∧ c3 ≤ c2 := by omega
  have n4 : 0 ≤ c4 ∧ c4 ≤ c3 := by omega
  have n5 : 0 ≤ c5 ∧ c5 ≤ c4 := by omega
  have g0 : d0 = m0 := by omega
  have g1 : d1 = m1 + 67108864 * c1 := by omega
  have g2 : d2 + c1 = b2 + 67108864 * c2 := by omega
  have g3 : d3 + c2 = b3 + 67108864 * c3 := by omega
  have g4 : d4 + c3 = b4 + 67108864 * c4 := by omega
  have g5 : m0 + 5 * c4 = b0 + 67108864 * c5 := by omega
  refine ⟨b0, b1, b2, b3, b4, c4, e, by omega, by omega, by omega, by omega, by omega, ?_⟩
  rw [val5, val5]
  clear hc0 hm0 hc1 hm1 hc2 hb2 hc3 hb3 hc4 hb4 hc5 hb0 e
  omega
theorem rcs_eq (d0 d1 d2 d3 d4 : Int) : rcs [d0, d1, d2, d3, d4] 5 =
  ([(Go.bits .and .u64 (IntKind.u64.wrap (d0 + 0)) 67108863),
   (Go.bits .and .u64 (IntKind.u64.wrap (d1 + (IntKind.u64.wrap (d0 + 0)) / 67108864)) 67108863),
   (Go.bits .and .u64 (IntKind.u64.wrap (d2 + (IntKind.u64.wrap (d1 + (IntKind.u64.wrap (d0 + 0)) / 67108864)) / 67108864)) 67108863),
   (Go.bits .and .u64 (IntKind.u64.wrap (d3 + (IntKind.u64.wrap (d2 + (IntKind.u64.wrap (d1 + (IntKind.u64.wrap (d0 + 0)) / 67108864)) / 67108864)) / 67108864)) 67108863),
   (Go.bits .and .u64 (IntKind.u64.wrap (d4 + (IntKind.u64.wrap (d3 + (IntKind.u64.wrap (d2 + (IntKind.u64.wrap (d1 + (IntKind.u64.wrap (d0 + 0)) / 67108864)) / 67108864)) / 67108864)) / 67108864)) 67108863)],
   (IntKind.u64.wrap (d4 + (IntKind.u64.wrap (d3 + (IntKind.u64.wrap (d2 + (IntKind.u64.wrap (d1 + (IntKind.u64.wrap (d0 + 0)) / 67108864)) / 67108864)) / 67108864)) / 67108864)) / 67108864) := by rfl
theorem rcs_law (d0 d1 d2 d3 d4 : Int) (h0 : 0 ≤ d0 ∧ d0 < 1152921504606846976) (h1 : 0 ≤ d1 ∧ d1 < 1152921504606846976) (h2 : 0 ≤ d2 ∧ d2 < 1152921504606846976) (h3 : 0 ≤ d3 ∧ d3 < 1152921504606846976) (h4 : 0 ≤ d4 ∧ d4 < 1152921504606846976) :
    ∃ b0 b1 b2 b3 b4 c0 c1 c2 c3 c4 : Int, rcs [d0, d1, d2, d3, d4] 5 = ([b0, b1, b2, b3, b4], c4) ∧
      c0 = d0 / 67108864 ∧ b0 = d0 % 67108864 ∧ c1 = (d1 + c0) / 67108864 ∧ b1 = (d1 + c0) % 67108864 ∧ c2 = (d2 + c1) / 67108864 ∧ b2 = (d2 + c1) % 67108864 ∧ c3 = (d3 + c2) / 67108864 ∧ b3 = (d3 + c2) % 67108864 ∧
      c4 = (d4 + c3) / 67108864 ∧ b4 = (d4 + c3) % 67108864 := by
  have e0 : IntKind.u64.wrap (d0 + 0) = d0 := by rw [Int.add_zero]; exact w64_in _ (by omega) (by omega)
  obtain ⟨c0, hc0⟩ : ∃ c0, c0 = d0 / 67108864 := ⟨_, rfl⟩
  have n0 : 0 ≤ c0 ∧ c0 < 17179869184 := by omega
  have a0 := and26 d0 h0.1 (by omega)
  have e1 : IntKind.u64.wrap (d1 + c0) = d1 + c0 := w64_in _ (by omega) (by omega)
  have a1 := and26 (d1 + c0) (by omega) (by omega)
  obtain ⟨c1, hc1⟩ : ∃ c1, c1 = (d1 + c0) / 67108864 := ⟨_, rfl⟩
  have n1 : 0 ≤ c1 ∧ c1 < 17179870000 := by omega
  have e2 : IntKind.u64.wrap (d2 + c1) = d2 + c1 := w64_in _ (by omega) (by omega)
  have a2 := and26 (d2 + c1) (by omega) (by omega)
  obtain ⟨c2, hc2⟩ : ∃ c2, c2 = (d2 + c1) / 67108864 := ⟨_, rfl⟩
  have n2 : 0 ≤ c2 ∧ c2 < 17179870000 := by omega
  have e3 : IntKind.u64.wrap (d3 + c2) = d3 + c2 := w64_in _ (by omega) (by omega)
  have a3 := and26 (d3 + c2) (by omega) (by omega)
  obtain ⟨c3, hc3⟩ : ∃ c3, c3 = (d3 + c2) / 67108864 := ⟨_, rfl⟩
  have n3 : 0 ≤ c3 ∧ c3 < 17179870000 := by omega
  have e4 : IntKind.u64.wrap (d4 + c3) = d4 + c3 := w64_in _ (by omega) (by omega)
  have a4 := and26 (d4 + c3) (by omega) (by omega)
  refine ⟨_, _, _, _, _, c0, c1, c2, c3, _, ?_, hc0, rfl, hc1, rfl, hc2, rfl, hc3, rfl, rfl, rfl⟩
  rw [rcs_eq]
  simp only [e0, ← hc0, e1, ← hc1, e2, ← hc2, e3, ← hc3, e4, a0, a1, a2, a3, a4]
theorem rcarried_law (d0 d1 d2 d3 d4 : Int) (h0 : 0 ≤ d0 ∧ d0 < 1152921504606846976) (h1 : 0 ≤ d1 ∧ d1 < 1152921504606846976) (h2 : 0 ≤ d2 ∧ d2 < 1152921504606846976) (h3 : 0 ≤ d3 ∧ d3 < 1152921504606846976) (h4 : 0 ≤ d4 ∧ d4 < 1152921504606846976) :
    ∃ b0 b1 b2 b3 b4 c0 c1 c2 c3 c4 : Int, rcarried [d0, d1, d2, d3, d4] = [b0 + 5 * c4, b1, b2, b3, b4] ∧
      d0 = b0 + 67108864 * c0 ∧ d1 + c0 = b1 + 67108864 * c1 ∧ d2 + c1 = b2 + 67108864 * c2 ∧ d3 + c2 = b3 + 67108864 * c3 ∧ d4 + c3 = b4 + 67108864 * c4 ∧
      (0 ≤ b0 ∧ b0 < 67108864) ∧ (0 ≤ b1 ∧ b1 < 67108864) ∧ (0 ≤ b2 ∧ b2 < 67108864) ∧ (0 ≤ b3 ∧ b3 < 67108864) ∧ (0 ≤ b4 ∧ b4 < 67108864) ∧ (0 ≤ c4 ∧ c4 < 17179870000) ∧
      val [b0 + 5 * c4, b1, b2, b3, b4] = val [d0, d1, d2, d3, d4] - c4 * 1361129467683753853853498429727072845819 := by
  obtain ⟨b0, b1, b2, b3, b4, c0, c1, c2, c3, c4, e, hc0, hb0, hc1, hb1, hc2, hb2, hc3, hb3, hc4, hb4⟩ := rcs_law d0 d1 d2 d3 d4 h0 h1 h2 h3 h4
  have n0 : 0 ≤ c0 ∧ c0 < 17179869184 := by omega
  have n1 : 0 ≤ c1 ∧ c1 < 17179870000 := by omega
  have n2 : 0 ≤ c2 ∧ c2 < 17179870000 := by omega
  have n3 : 0 ≤ c3 ∧ c3 < 17179870000 := by omega
  have n4 : 0 ≤ c4 ∧ c4 < 17179870000 := by omega
  have g0 : d0 = b0 + 67108864 * c0 := by omega
  have g1 : d1 + c0 = b1 + 67108864 * c1 := by omega
  have g2 : d2 + c1 = b2 + 67108864 * c2 := by omega
  have g3 : d3 + c2 = b3 + 67108864 * c3 := by omega
  have g4 : d4 + c3 = b4 + 67108864 * c4 := by omega
  refine ⟨b0, b1, b2, b3, b4, c0, c1, c2, c3, c4, ?_, g0, g1, g2, g3, g4, by omega, by omega, by omega, by omega, by omega, n4, ?_⟩
  · unfold rcarried
    rw [e]
    have e5 : IntKind.u64.wrap (5 * c4) = 5 * c4 := w64_in _ (by omega) (by omega)
    have e6 : IntKind.u64.wrap (b0 + 5 * c4) = b0 + 5 * c4 := w64_in _ (by omega) (by omega)
    show [IntKind.u64.wrap (b0 + IntKind.u64.wrap (5 * c4)), b1, b2, b3, b4] = _
    rw [e5, e6]
  · rw [val5, val5]
    clear hc0 hb0 hc1 hb1 hc2 hb2 hc3 hb3 hc4 hb4 e
    omega
/-- The document's two passes. -/
theorem rtwice_law (d0 d1 d2 d3 d4 : Int) (h0 : 0 ≤ d0 ∧ d0 < 1152921504606846976) (h1 : 0 ≤ d1 ∧ d1 < 1152921504606846976) (h2 : 0 ≤ d2 ∧ d2 < 1152921504606846976) (h3 : 0 ≤ d3 ∧ d3 < 1152921504606846976) (h4 : 0 ≤ d4 ∧ d4 < 1152921504606846976) :
    ∃ b0 b1 b2 b3 b4 k : Int, rcarried (rcarried [d0, d1, d2, d3, d4]) = [b0, b1, b2, b3, b4] ∧ (0 ≤ b0 ∧ b0 < 67108869) ∧ (0 ≤ b1 ∧ b1 < 67108864) ∧ (0 ≤ b2 ∧ b2 < 67108864) ∧ (0 ≤ b3 ∧ b3 < 67108864) ∧ (0 ≤ b4 ∧ b4 < 67108864) ∧
      val [b0, b1, b2, b3, b4] = val [d0, d1, d2, d3, d4] - k * 1361129467683753853853498429727072845819 := by
  obtain ⟨x0, x1, x2, x3, x4, _, _, _, _, y, e, _, _, _, _, _, i0, i1, i2, i3, i4, i5, hv⟩ := rcarried_law d0 d1 d2 d3 d4 h0 h1 h2 h3 h4
  obtain ⟨b0, b1, b2, b3, b4, c0, c1, c2, c3, z, e2, g0, g1, g2, g3, g4, j0, j1, j2, j3, j4, j5, hw⟩ := rcarried_law (x0 + 5 * y) x1 x2 x3 x4 (by omega) (by omega) (by omega) (by omega) (by omega)
  refine ⟨b0 + 5 * z, b1, b2, b3, b4, y + z, by rw [e, e2], by omega, j1, j2, j3, j4, ?_⟩
  rw [hw, hv]
  omega
/-- .. over limbs that are nearly whole. -/
theorem rsmall_law (d0 d1 d2 d3 d4 : Int) (h0 : 0 ≤ d0 ∧ d0 < 67108869) (h1 : 0 ≤ d1 ∧ d1 < 67108864) (h2 : 0 ≤ d2 ∧ d2 < 67108864) (h3 : 0 ≤ d3 ∧ d3 < 67108864) (h4 : 0 ≤ d4 ∧ d4 < 67108864) :
    ∃ b0 b1 b2 b3 b4 k : Int, rcarried [d0, d1, d2, d3, d4] = [b0, b1, b2, b3, b4] ∧ (0 ≤ b0 ∧ b0 < 67108864) ∧ (0 ≤ b1 ∧ b1 < 67108864) ∧ (0 ≤ b2 ∧ b2 < 67108864) ∧ (0 ≤ b3 ∧ b3 < 67108864) ∧ (0 ≤ b4 ∧ b4 < 67108864) ∧
      val [b0, b1, b2, b3, b4] = val [d0, d1, d2, d3, d4] - k * 1361129467683753853853498429727072845819 := by
  obtain ⟨b0, b1, b2, b3, b4, c0, c1, c2, c3, c4, e, g0, g1, g2, g3, g4, j0, j1, j2, j3, j4, j5, hw⟩ := rcarried_law d0 d1 d2 d3 d4 (by omega) (by omega) (by omega) (by omega) (by omega)
  exact ⟨b0 + 5 * c4, b1, b2, b3, b4, c4, e, by omega, j1, j2, j3, j4, hw⟩
theorem mul_eq (r0 r1 r2 r3 r4 x0 x1 x2 x3 x4 : Int) : mulAcc [r0, r1, r2, r3, r4, x0, x1, x2, x3, x4] 5 0 5 =
  [(IntKind.u64.wrap ((IntKind.u64.wrap ((IntKind.u64.wrap ((IntKind.u64.wrap ((IntKind.u64.wrap (0 + (IntKind.u64.wrap (x0 * r0)))) + (IntKind.u64.wrap ((IntKind.u64.wrap (x1 * r4)) * 5)))) + (IntKind.u64.wrap ((IntKind.u64.wrap (x2 * r3)) * 5)))) + (IntKind.u64.wrap ((IntKind.u64.wrap (x3 * r2)) * 5)))) + (IntKind.u64.wrap ((IntKind.u64.wrap (x4 * r1)) * 5)))),
   (IntKind.u64.wrap ((IntKind.u64.wrap ((IntKind.u64.wrap ((IntKind.u64.wrap ((IntKind.u64.wrap (0 + (IntKind.u64.wrap (x0 * r1)))) + (IntKind.u64.wrap (x1 * r0)))) + (IntKind.u64.wrap ((IntKind.u64.wrap (x2 * r4)) * 5)))) + (IntKind.u64.wrap ((IntKind.u64.wrap (x3 * r3)) * 5)))) + (IntKind.u64.wrap ((IntKind.u64.wrap (x4 * r2)) * 5)))),
   (IntKind.u64.wrap ((IntKind.u64.wrap ((IntKind.u64.wrap ((IntKind.u64.wrap ((IntKind.u64.wrap (0 + (IntKind.u64.wrap (x0 * r2)))) + (IntKind.u64.wrap (x1 * r1)))) + (IntKind.u64.wrap (x2 * r0)))) + (IntKind.u64.wrap ((IntKind.u64.wrap (x3 * r4)) * 5)))) + (IntKind.u64.wrap ((IntKind.u64.wrap (x4 * r3)) * 5)))),
   (IntKind.u64.wrap ((IntKind.u64.wrap ((IntKind.u64.wrap ((IntKind.u64.wrap ((IntKind.u64.wrap (0 + (IntKind.u64.wrap (x0 * r3)))) + (IntKind.u64.wrap (x1 * r2)))) + (IntKind.u64.wrap (x2 * r1)))) + (IntKind.u64.wrap (x3 * r0)))) + (IntKind.u64.wrap ((IntKind.u64.wrap (x4 * r4)) * 5)))),
   (IntKind.u64.wrap ((IntKind.u64.wrap ((IntKind.u64.wrap ((IntKind.u64.wrap ((IntKind.u64.wrap (0 + (IntKind.u64.wrap (x0 * r4)))) + (IntKind.u64.wrap (x1 * r3)))) + (IntKind.u64.wrap (x2 * r2)))) + (IntKind.u64.wrap (x3 * r1)))) + (IntKind.u64.wrap (x4 * r0))))] := by kernel_rfl
theorem rmul_eq (r0 r1 r2 r3 r4 x0 x1 x2 x3 x4 : Int) : rmul [x0, x1, x2, x3, x4] [r0, r1, r2, r3, r4] 5 =
  [(IntKind.u64.wrap ((IntKind.u64.wrap ((IntKind.u64.wrap ((IntKind.u64.wrap ((IntKind.u64.wrap (0 + (IntKind.u64.wrap (x0 * r0)))) + (IntKind.u64.wrap (5 * (IntKind.u64.wrap (x1 * r4)))))) + (IntKind.u64.wrap (5 * (IntKind.u64.wrap (x2 * r3)))))) + (IntKind.u64.wrap (5 * (IntKind.u64.wrap (x3 * r2)))))) + (IntKind.u64.wrap (5 * (IntKind.u64.wrap (x4 * r1)))))),
   (IntKind.u64.wrap ((IntKind.u64.wrap ((IntKind.u64.wrap ((IntKind.u64.wrap ((IntKind.u64.wrap (0 + (IntKind.u64.wrap (x0 * r1)))) + (IntKind.u64.wrap (x1 * r0)))) + (IntKind.u64.wrap (5 * (IntKind.u64.wrap (x2 * r4)))))) + (IntKind.u64.wrap (5 * (IntKind.u64.wrap (x3 * r3)))))) + (IntKind.u64.wrap (5 * (IntKind.u64.wrap (x4 * r2)))))),
   (IntKind.u64.wrap ((IntKind.u64.wrap ((IntKind.u64.wrap ((IntKind.u64.wrap ((IntKind.u64.wrap (0 + (IntKind.u64.wrap (x0 * r2)))) + (IntKind.u64.wrap (x1 * r1)))) + (IntKind.u64.wrap (x2 * r0)))) + (IntKind.u64.wrap (5 * (IntKind.u64.wrap (x3 * r4)))))) + (IntKind.u64.wrap (5 * (IntKind.u64.wrap (x4 * r3)))))),
   (IntKind.u64.wrap ((IntKind.u64.wrap ((IntKind.u64.wrap ((IntKind.u64.wrap ((IntKind.u64.wrap (0 + (IntKind.u64.wrap (x0 * r3)))) + (IntKind.u64.wrap (x1 * r2)))) + (IntKind.u64.wrap (x2 * r1)))) + (IntKind.u64.wrap (x3 * r0)))) + (IntKind.u64.wrap (5 * (IntKind.u64.wrap (x4 * r4)))))),
   (IntKind.u64.wrap ((IntKind.u64.wrap ((IntKind.u64.wrap ((IntKind.u64.wrap ((IntKind.u64.wrap (0 + (IntKind.u64.wrap (x0 * r4)))) + (IntKind.u64.wrap (x1 * r3)))) + (IntKind.u64.wrap (x2 * r2)))) + (IntKind.u64.wrap (x3 * r1)))) + (IntKind.u64.wrap (x4 * r0))))] := by kernel_rfl
theorem prod_in (x r : Int) (hx : 0 ≤ x ∧ x < 134250496) (hr : 0 ≤ r ∧ r < 67108864) : 0 ≤ x * r ∧ x * r < 9009398277996544 := by
  refine ⟨Int.mul_nonneg hx.1 hr.1, ?_⟩
  have h1 : x * r ≤ 134250495 * r := Int.mul_le_mul_of_nonneg_right (by omega) hr.1
  omega
theorem lim1 (s p : Int) (h0 : 0 ≤ s) (h1 : s < 576460752303423488) (hp : 0 ≤ p ∧ p < 9009398277996544) : IntKind.u64.wrap (s + IntKind.u64.wrap p) = s + p := by
  rw [w64_in p hp.1 (by omega), w64_in _ (by omega) (by omega)]
theorem lim5 (s p : Int) (h0 : 0 ≤ s) (h1 : s < 576460752303423488) (hp : 0 ≤ p ∧ p < 9009398277996544) : IntKind.u64.wrap (s + IntKind.u64.wrap (IntKind.u64.wrap p * 5)) = s + 5 * p := by
  rw [w64_in p hp.1 (by omega), w64_in (p * 5) (by omega) (by omega), w64_in _ (by omega) (by omega)]
  omega
theorem rlim5 (s p : Int) (h0 : 0 ≤ s) (h1 : s < 576460752303423488) (hp : 0 ≤ p ∧ p < 9009398277996544) : IntKind.u64.wrap (s + IntKind.u64.wrap (5 * IntKind.u64.wrap p)) = s + 5 * p := by
  rw [w64_in p hp.1 (by omega), w64_in (5 * p) (by omega) (by omega), w64_in _ (by omega) (by omega)]
theorem mul_law (r0 r1 r2 r3 r4 x0 x1 x2 x3 x4 : Int) (hx0 : 0 ≤ x0 ∧ x0 < 134250496) (hx1 : 0 ≤ x1 ∧ x1 < 134250496) (hx2 : 0 ≤ x2 ∧ x2 < 134250496) (hx3 : 0 ≤ x3 ∧ x3 < 134250496) (hx4 : 0 ≤ x4 ∧ x4 < 134250496) (hr0 : 0 ≤ r0 ∧ r0 < 67108864) (hr1 : 0 ≤ r1 ∧ r1 < 67108864) (hr2 : 0 ≤ r2 ∧ r2 < 67108864) (hr3 : 0 ≤ r3 ∧ r3 < 67108864) (hr4 : 0 ≤ r4 ∧ r4 < 67108864) : mulAcc [r0, r1, r2, r3, r4, x0, x1, x2, x3, x4] 5 0 5 = [0 + x0 * r0 + 5 * (x1 * r4) + 5 * (x2 * r3) + 5 * (x3 * r2) + 5 * (x4 * r1), 0 + x0 * r1 + x1 * r0 + 5 * (x2 * r4) + 5 * (x3 * r3) + 5 * (x4 * r2), 0 + x0 * r2 + x1 * r1 + x2 * r0 + 5 * (x3 * r4) + 5 * (x4 * r3), 0 + x0 * r3 + x1 * r2 + x2 * r1 + x3 * r0 + 5 * (x4 * r4), 0 + x0 * r4 + x1 * r3 + x2 * r2 + x3 * r1 + x4 * r0] := by
  have p00 := prod_in x0 r0 hx0 hr0
  have p01 := prod_in x0 r1 hx0 hr1
  have p02 := prod_in x0 r2 hx0 hr2
  have p03 := prod_in x0 r3 hx0 hr3
  have p04 := prod_in x0 r4 hx0 hr4
  have p10 := prod_in x1 r0 hx1 hr0
  have p11 := prod_in x1 r1 hx1 hr1
  have p12 := prod_in x1 r2 hx1 hr2
  have p13 := prod_in x1 r3 hx1 hr3
  have p14 := prod_in x1 r4 hx1 hr4
  have p20 := prod_in x2 r0 hx2 hr0
  have p21 := prod_in x2 r1 hx2 hr1
  have p22 := prod_in x2 r2 hx2 hr2
  have p23 := prod_in x2 r3 hx2 hr3
  have p24 := prod_in x2 r4 hx2 hr4
  have p30 := prod_in x3 r0 hx3 hr0
  have p31 := prod_in x3 r1 hx3 hr1
  have p32 := prod_in x3 r2 hx3 hr2
  have p33 := prod_in x3 r3 hx3 hr3
  have p34 := prod_in x3 r4 hx3 hr4
  have p40 := prod_in x4 r0 hx4 hr0
  have p41 := prod_in x4 r1 hx4 hr1
  have p42 := prod_in x4 r2 hx4 hr2
  have p43 := prod_in x4 r3 hx4 hr3
  have p44 := prod_in x4 r4 hx4 hr4
  rw [mul_eq]
  generalize x0 * r0 = q00 at p00 ⊢
  generalize x0 * r1 = q01 at p01 ⊢
  generalize x0 * r2 = q02 at p02 ⊢
  generalize x0 * r3 = q03 at p03 ⊢
  generalize x0 * r4 = q04 at p04 ⊢
  generalize x1 * r0 = q10 at p10 ⊢
  generalize x1 * r1 = q11 at p11 ⊢
  generalize x1 * r2 = q12 at p12 ⊢
  generalize x1 * r3 = q13 at p13 ⊢
  generalize x1 * r4 = q14 at p14 ⊢
  generalize x2 * r0 = q20 at p20 ⊢
  generalize x2 * r1 = q21 at p21 ⊢
  generalize x2 * r2 = q22 at p22 ⊢
  generalize x2 * r3 = q23 at p23 ⊢
  generalize x2 * r4 = q24 at p24 ⊢
  generalize x3 * r0 = q30 at p30 ⊢
  generalize x3 * r1 = q31 at p31 ⊢
  generalize x3 * r2 = q32 at p32 ⊢
  generalize x3 * r3 = q33 at p33 ⊢
  generalize x3 * r4 = q34 at p34 ⊢
  generalize x4 * r0 = q40 at p40 ⊢
  generalize x4 * r1 = q41 at p41 ⊢
  generalize x4 * r2 = q42 at p42 ⊢
  generalize x4 * r3 = q43 at p43 ⊢
  generalize x4 * r4 = q44 at p44 ⊢
  rw [lim1 (0) q00 (by omega) (by omega) p00]
  rw [lim5 (0 + q00) q14 (by omega) (by omega) p14]
  rw [lim5 (0 + q00 + 5 * q14) q23 (by omega) (by omega) p23]
  rw [lim5 (0 + q00 + 5 * q14 + 5 * q23) q32 (by omega) (by omega) p32]
  rw [lim5 (0 + q00 + 5 * q14 + 5 * q23 + 5 * q32) q41 (by omega) (by omega) p41]
  rw [lim1 (0) q01 (by omega) (by omega) p01]
  rw [lim1 (0 + q01) q10 (by omega) (by omega) p10]
  rw [lim5 (0 + q01 + q10) q24 (by omega) (by omega) p24]
  rw [lim5 (0 + q01 + q10 + 5 * q24) q33 (by omega) (by omega) p33]
  rw [lim5 (0 + q01 + q10 + 5 * q24 + 5 * q33) q42 (by omega) (by omega) p42]
  rw [lim1 (0) q02 (by omega) (by omega) p02]
  rw [lim1 (0 + q02) q11 (by omega) (by omega) p11]
  rw [lim1 (0 + q02 + q11) q20 (by omega) (by omega) p20]
  rw [lim5 (0 + q02 + q11 + q20) q34 (by omega) (by omega) p34]
  rw [lim5 (0 + q02 + q11 + q20 + 5 * q34) q43 (by omega) (by omega) p43]
  rw [lim1 (0) q03 (by omega) (by omega) p03]
  rw [lim1 (0 + q03) q12 (by omega) (by omega) p12]
  rw [lim1 (0 + q03 + q12) q21 (by omega) (by omega) p21]
  rw [lim1 (0 + q03 + q12 + q21) q30 (by omega) (by omega) p30]
  rw [lim5 (0 + q03 + q12 + q21 + q30) q44 (by omega) (by omega) p44]
  rw [lim1 (0) q04 (by omega) (by omega) p04]
  rw [lim1 (0 + q04) q13 (by omega) (by omega) p13]
  rw [lim1 (0 + q04 + q13) q22 (by omega) (by omega) p22]
  rw [lim1 (0 + q04 + q13 + q22) q31 (by omega) (by omega) p31]
  rw [lim1 (0 + q04 + q13 + q22 + q31) q40 (by omega) (by omega) p40]
theorem rmul_law (r0 r1 r2 r3 r4 x0 x1 x2 x3 x4 : Int) (hx0 : 0 ≤ x0 ∧ x0 < 134250496) (hx1 : 0 ≤ x1 ∧ x1 < 134250496) (hx2 : 0 ≤ x2 ∧ x2 < 134250496) (hx3 : 0 ≤ x3 ∧ x3 < 134250496) (hx4 : 0 ≤ x4 ∧ x4 < 134250496) (hr0 : 0 ≤ r0 ∧ r0 < 67108864) (hr1 : 0 ≤ r1 ∧ r1 < 67108864) (hr2 : 0 ≤ r2 ∧ r2 < 67108864) (hr3 : 0 ≤ r3 ∧ r3 < 67108864) (hr4 : 0 ≤ r4 ∧ r4 < 67108864) : rmul [x0, x1, x2, x3, x4] [r0, r1, r2, r3, r4] 5 = [0 + x0 * r0 + 5 * (x1 * r4) + 5 * (x2 * r3) + 5 * (x3 * r2) + 5 * (x4 * r1), 0 + x0 * r1 + x1 * r0 + 5 * (x2 * r4) + 5 * (x3 * r3) + 5 * (x4 * r2), 0 + x0 * r2 + x1 * r1 + x2 * r0 + 5 * (x3 * r4) + 5 * (x4 * r3), 0 + x0 * r3 + x1 * r2 + x2 * r1 + x3 * r0 + 5 * (x4 * r4), 0 + x0 * r4 + x1 * r3 + x2 * r2 + x3 * r1 + x4 * r0] := by
  have p00 := prod_in x0 r0 hx0 hr0
  have p01 := prod_in x0 r1 hx0 hr1
  have p02 := prod_in x0 r2 hx0 hr2
  have p03 := prod_in x0 r3 hx0 hr3
  have p04 := prod_in x0 r4 hx0 hr4
  have p10 := prod_in x1 r0 hx1 hr0
  have p11 := prod_in x1 r1 hx1 hr1
  have p12 := prod_in x1 r2 hx1 hr2
  have p13 := prod_in x1 r3 hx1 hr3
  have p14 := prod_in x1 r4 hx1 hr4
  have p20 := prod_in x2 r0 hx2 hr0
  have p21 := prod_in x2 r1 hx2 hr1
  have p22 := prod_in x2 r2 hx2 hr2
  have p23 := prod_in x2 r3 hx2 hr3
  have p24 := prod_in x2 r4 hx2 hr4
  have p30 := prod_in x3 r0 hx3 hr0
  have p31 := prod_in x3 r1 hx3 hr1
  have p32 := prod_in x3 r2 hx3 hr2
  have p33 := prod_in x3 r3 hx3 hr3
  have p34 := prod_in x3 r4 hx3 hr4
  have p40 := prod_in x4 r0 hx4 hr0
  have p41 := prod_in x4 r1 hx4 hr1
  have p42 := prod_in x4 r2 hx4 hr2
  have p43 := prod_in x4 r3 hx4 hr3
  have p44 := prod_in x4 r4 hx4 hr4
  rw [rmul_eq]
  generalize x0 * r0 = q00 at p00 ⊢
  generalize x0 * r1 = q01 at p01 ⊢
  generalize x0 * r2 = q02 at p02 ⊢
  generalize x0 * r3 = q03 at p03 ⊢
  generalize x0 * r4 = q04 at p04 ⊢
  generalize x1 * r0 = q10 at p10 ⊢
  generalize x1 * r1 = q11 at p11 ⊢
  generalize x1 * r2 = q12 at p12 ⊢
  generalize x1 * r3 = q13 at p13 ⊢
  generalize x1 * r4 = q14 at p14 ⊢
  generalize x2 * r0 = q20 at p20 ⊢
  generalize x2 * r1 = q21 at p21 ⊢
  generalize x2 * r2 = q22 at p22 ⊢
  generalize x2 * r3 = q23 at p23 ⊢
  generalize x2 * r4 = q24 at p24 ⊢
  generalize x3 * r0 = q30 at p30 ⊢
  generalize x3 * r1 = q31 at p31 ⊢
  generalize x3 * r2 = q32 at p32 ⊢
  generalize x3 * r3 = q33 at p33 ⊢
  generalize x3 * r4 = q34 at p34 ⊢
  generalize x4 * r0 = q40 at p40 ⊢
  generalize x4 * r1 = q41 at p41 ⊢
  generalize x4 * r2 = q42 at p42 ⊢
  generalize x4 * r3 = q43 at p43 ⊢
  generalize x4 * r4 = q44 at p44 ⊢
  rw [lim1 (0) q00 (by omega) (by omega) p00]
  rw [rlim5 (0 + q00) q14 (by omega) (by omega) p14]
  rw [rlim5 (0 + q00 + 5 * q14) q23 (by omega) (by omega) p23]
  rw [rlim5 (0 + q00 + 5 * q14 + 5 * q23) q32 (by omega) (by omega) p32]
  rw [rlim5 (0 + q00 + 5 * q14 + 5 * q23 + 5 * q32) q41 (by omega) (by omega) p41]
  rw [lim1 (0) q01 (by omega) (by omega) p01]
  rw [lim1 (0 + q01) q10 (by omega) (by omega) p10]
  rw [rlim5 (0 + q01 + q10) q24 (by omega) (by omega) p24]
  rw [rlim5 (0 + q01 + q10 + 5 * q24) q33 (by omega) (by omega) p33]
  rw [rlim5 (0 + q01 + q10 + 5 * q24 + 5 * q33) q42 (by omega) (by omega) p42]
  rw [lim1 (0) q02 (by omega) (by omega) p02]
  rw [lim1 (0 + q02) q11 (by omega) (by omega) p11]
  rw [lim1 (0 + q02 + q11) q20 (by omega) (by omega) p20]
  rw [rlim5 (0 + q02 + q11 + q20) q34 (by omega) (by omega) p34]
  rw [rlim5 (0 + q02 + q11 + q20 + 5 * q34) q43 (by omega) (by omega) p43]
  rw [lim1 (0) q03 (by omega) (by omega) p03]
  rw [lim1 (0 + q03) q12 (by omega) (by omega) p12]
  rw [lim1 (0 + q03 + q12) q21 (by omega) (by omega) p21]
  rw [lim1 (0 + q03 + q12 + q21) q30 (by omega) (by omega) p30]
  rw [rlim5 (0 + q03 + q12 + q21 + q30) q44 (by omega) (by omega) p44]
  rw [lim1 (0) q04 (by omega) (by omega) p04]
  rw [lim1 (0 + q04) q13 (by omega) (by omega) p13]
  rw [lim1 (0 + q04 + q13) q22 (by omega) (by omega) p22]
  rw [lim1 (0 + q04 + q13 + q22) q31 (by omega) (by omega) p31]
  rw [lim1 (0 + q04 + q13 + q22 + q31) q40 (by omega) (by omega) p40]
end Go.Proofs.Ytocckplgjbhlbaa.PureP
