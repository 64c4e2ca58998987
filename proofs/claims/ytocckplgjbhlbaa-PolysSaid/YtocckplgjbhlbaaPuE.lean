/- The program's tag is the document's: plain laws without a program. Conditions: none. -/
import Derived.Test.YtocckplgjbhlbaaPuD
namespace Go.Proofs.Ytocckplgjbhlbaa.PureP
open Go.RowKit Go.Proofs.Ytocckplgjbhlbaa.Cha Go.Proofs.Ytocckplgjbhlbaa.Pol Go.Proofs.YtocckplgjbhlbaaW.PrintWords
set_option linter.unusedVariables false
/-- Limbs that are nearly whole. -/
def Near (z : List Int) : Prop := ∃ a b c d e : Int, z = [a, b, c, d, e] ∧ (0 ≤ a ∧ a < 67117056) ∧ (0 ≤ b ∧ b < 67117056) ∧ (0 ≤ c ∧ c < 67117056) ∧ (0 ≤ d ∧ d < 67117056) ∧ (0 ≤ e ∧ e < 67117056)
/-- .. as the program leaves them, and as the document does. -/
def NearP (z : List Int) : Prop := ∃ a b c d e : Int, z = [a, b, c, d, e] ∧ (0 ≤ a ∧ a < 67108864) ∧ (0 ≤ b ∧ b < 67117056) ∧ (0 ≤ c ∧ c < 67108864) ∧ (0 ≤ d ∧ d < 67108864) ∧ (0 ≤ e ∧ e < 67108864)
def NearR (z : List Int) : Prop := ∃ a b c d e : Int, z = [a, b, c, d, e] ∧ (0 ≤ a ∧ a < 67108869) ∧ (0 ≤ b ∧ b < 67108864) ∧ (0 ≤ c ∧ c < 67108864) ∧ (0 ≤ d ∧ d < 67108864) ∧ (0 ≤ e ∧ e < 67108864)
def Full (z : List Int) : Prop := ∃ a b c d e : Int, z = [a, b, c, d, e] ∧ (0 ≤ a ∧ a < 67108864) ∧ (0 ≤ b ∧ b < 67108864) ∧ (0 ≤ c ∧ c < 67108864) ∧ (0 ≤ d ∧ d < 67108864) ∧ (0 ≤ e ∧ e < 67108864)
theorem digits_full (V : Int) : Full (digits V) := ⟨_, _, _, _, _, rfl, by omega, by omega, by omega, by omega, by omega⟩
theorem mul_parts (x a r b : Int) : x * a * (r * b) = x * r * (a * b) := by ac_rfl
theorem prod_val (r0 r1 r2 r3 r4 x0 x1 x2 x3 x4 : Int) : val [x0, x1, x2, x3, x4] * val [r0, r1, r2, r3, r4] % 1361129467683753853853498429727072845819 = val [0 + x0 * r0 + 5 * (x1 * r4) + 5 * (x2 * r3) + 5 * (x3 * r2) + 5 * (x4 * r1), 0 + x0 * r1 + x1 * r0 + 5 * (x2 * r4) + 5 * (x3 * r3) + 5 * (x4 * r2), 0 + x0 * r2 + x1 * r1 + x2 * r0 + 5 * (x3 * r4) + 5 * (x4 * r3), 0 + x0 * r3 + x1 * r2 + x2 * r1 + x3 * r0 + 5 * (x4 * r4), 0 + x0 * r4 + x1 * r3 + x2 * r2 + x3 * r1 + x4 * r0] % 1361129467683753853853498429727072845819 := by
  rw [val5, val5, val5]
  have e : (x0 + x1 * 67108864 + x2 * 4503599627370496 + x3 * 302231454903657293676544 + x4 * 20282409603651670423947251286016) * (r0 + r1 * 67108864 + r2 * 4503599627370496 + r3 * 302231454903657293676544 + r4 * 20282409603651670423947251286016) = x0 * r0 * 1 + x0 * r1 * 67108864 + x0 * r2 * 4503599627370496 + x0 * r3 * 302231454903657293676544 + x0 * r4 * 20282409603651670423947251286016 + x1 * r0 * 67108864 + x1 * r1 * 4503599627370496 + x1 * r2 * 302231454903657293676544 + x1 * r3 * 20282409603651670423947251286016 + x1 * r4 * 1361129467683753853853498429727072845824 + x2 * r0 * 4503599627370496 + x2 * r1 * 302231454903657293676544 + x2 * r2 * 20282409603651670423947251286016 + x2 * r3 * 1361129467683753853853498429727072845824 + x2 * r4 * 91343852333181432387730302044767688728495783936 + x3 * r0 * 302231454903657293676544 + x3 * r1 * 20282409603651670423947251286016 + x3 * r2 * 1361129467683753853853498429727072845824 + x3 * r3 * 91343852333181432387730302044767688728495783936 + x3 * r4 * 6129982163463555433433388108601236734474956488734408704 + x4 * r0 * 20282409603651670423947251286016 + x4 * r1 * 1361129467683753853853498429727072845824 + x4 * r2 * 91343852333181432387730302044767688728495783936 + x4 * r3 * 6129982163463555433433388108601236734474956488734408704 + x4 * r4 * 411376139330301510538742295639337626245683966408394965837152256 := by
    have f : ∀ a b : Nat, True := fun _ _ => trivial
    have m01 : x0 * (r1 * 67108864) = x0 * r1 * 67108864 := (Int.mul_assoc _ _ _).symm
    have m02 : x0 * (r2 * 4503599627370496) = x0 * r2 * 4503599627370496 := (Int.mul_assoc _ _ _).symm
    have m03 : x0 * (r3 * 302231454903657293676544) = x0 * r3 * 302231454903657293676544 := (Int.mul_assoc _ _ _).symm
    have m04 : x0 * (r4 * 20282409603651670423947251286016) = x0 * r4 * 20282409603651670423947251286016 := (Int.mul_assoc _ _ _).symm
    have m10 : x1 * 67108864 * r0 = x1 * r0 * 67108864 := Int.mul_right_comm _ _ _
    have m11 : x1 * 67108864 * (r1 * 67108864) = x1 * r1 * 4503599627370496 := mul_parts _ _ _ _
    have m12 : x1 * 67108864 * (r2 * 4503599627370496) = x1 * r2 * 302231454903657293676544 := mul_parts _ _ _ _
    have m13 : x1 * 67108864 * (r3 * 302231454903657293676544) = x1 * r3 * 20282409603651670423947251286016 := mul_parts _ _ _ _
    have m14 : x1 * 67108864 * (r4 * 20282409603651670423947251286016) = x1 * r4 * 1361129467683753853853498429727072845824 := mul_parts _ _ _ _
    have m20 : x2 * 4503599627370496 * r0 = x2 * r0 * 4503599627370496 := Int.mul_right_comm _ _ _
    have m21 : x2 * 4503599627370496 * (r1 * 67108864) = x2 * r1 * 302231454903657293676544 := mul_parts _ _ _ _
    have m22 : x2 * 4503599627370496 * (r2 * 4503599627370496) = x2 * r2 * 20282409603651670423947251286016 := mul_parts _ _ _ _
    have m23 : x2 * 4503599627370496 * (r3 * 302231454903657293676544) = x2 * r3 * 1361129467683753853853498429727072845824 := mul_parts _ _ _ _
    have m24 : x2 * 4503599627370496 * (r4 * 20282409603651670423947251286016) = x2 * r4 * 91343852333181432387730302044767688728495783936 := mul_parts _ _ _ _
    have m30 : x3 * 302231454903657293676544 * r0 = x3 * r0 * 302231454903657293676544 := Int.mul_right_comm _ _ _
    have m31 : x3 * 302231454903657293676544 * (r1 * 67108864) = x3 * r1 * 20282409603651670423947251286016 := mul_parts _ _ _ _
    have m32 : x3 * 302231454903657293676544 * (r2 * 4503599627370496) = x3 * r2 * 1361129467683753853853498429727072845824 := mul_parts _ _ _ _
    have m33 : x3 * 302231454903657293676544 * (r3 * 302231454903657293676544) = x3 * r3 * 91343852333181432387730302044767688728495783936 := mul_parts _ _ _ _
    have m34 : x3 * 302231454903657293676544 * (r4 * 20282409603651670423947251286016) = x3 * r4 * 6129982163463555433433388108601236734474956488734408704 := mul_parts _ _ _ _
    have m40 : x4 * 20282409603651670423947251286016 * r0 = x4 * r0 * 20282409603651670423947251286016 := Int.mul_right_comm _ _ _
    have m41 : x4 * 20282409603651670423947251286016 * (r1 * 67108864) = x4 * r1 * 1361129467683753853853498429727072845824 := mul_parts _ _ _ _
    have m42 : x4 * 20282409603651670423947251286016 * (r2 * 4503599627370496) = x4 * r2 * 91343852333181432387730302044767688728495783936 := mul_parts _ _ _ _
    have m43 : x4 * 20282409603651670423947251286016 * (r3 * 302231454903657293676544) = x4 * r3 * 6129982163463555433433388108601236734474956488734408704 := mul_parts _ _ _ _
    have m44 : x4 * 20282409603651670423947251286016 * (r4 * 20282409603651670423947251286016) = x4 * r4 * 411376139330301510538742295639337626245683966408394965837152256 := mul_parts _ _ _ _
    simp only [Int.add_mul, Int.mul_add]
    rw [m01, m02, m03, m04, m10, m11, m12, m13, m14, m20, m21, m22, m23, m24, m30, m31, m32, m33, m34, m40, m41, m42, m43, m44]
    omega
  rw [e]
  generalize x0 * r0 = q00
  generalize x0 * r1 = q01
  generalize x0 * r2 = q02
  generalize x0 * r3 = q03
  generalize x0 * r4 = q04
  generalize x1 * r0 = q10
  generalize x1 * r1 = q11
  generalize x1 * r2 = q12
  generalize x1 * r3 = q13
  generalize x1 * r4 = q14
  generalize x2 * r0 = q20
  generalize x2 * r1 = q21
  generalize x2 * r2 = q22
  generalize x2 * r3 = q23
  generalize x2 * r4 = q24
  generalize x3 * r0 = q30
  generalize x3 * r1 = q31
  generalize x3 * r2 = q32
  generalize x3 * r3 = q33
  generalize x3 * r4 = q34
  generalize x4 * r0 = q40
  generalize x4 * r1 = q41
  generalize x4 * r2 = q42
  generalize x4 * r3 = q43
  generalize x4 * r4 = q44
  omega
theorem eqv_mul (a b r : Int) (h : a % 1361129467683753853853498429727072845819 = b % 1361129467683753853853498429727072845819) : a * r % 1361129467683753853853498429727072845819 = b * r % 1361129467683753853853498429727072845819 := by rw [Int.mul_emod, h, ← Int.mul_emod]
theorem wrap_add (a b : Int) (ha : 0 ≤ a ∧ a < 67117056) (hb : 0 ≤ b ∧ b < 67108864) : IntKind.u64.wrap (a + b) = a + b := w64_in _ (by omega) (by omega)
/-- A block added, the program's. -/
theorem added_law (x : List Int) (hx : Near x) (r : List Int) (hr : Full r) (bs : List Int) (o n : Nat) (y : List Int) (hy : Full y) (e : limbs (bitted bs o n) = y) :
    ∃ z, added (r ++ x) bs o n = r ++ z ∧ NearP z ∧ val z % 1361129467683753853853498429727072845819 = (val x + val y) * val r % 1361129467683753853853498429727072845819 := by
  obtain ⟨x0, x1, x2, x3, x4, rfl, hx0, hx1, hx2, hx3, hx4⟩ := hx
  obtain ⟨r0, r1, r2, r3, r4, rfl, hr0, hr1, hr2, hr3, hr4⟩ := hr
  obtain ⟨y0, y1, y2, y3, y4, rfl, hy0, hy1, hy2, hy3, hy4⟩ := hy
  have hp : plus [r0, r1, r2, r3, r4, x0, x1, x2, x3, x4] [y0, y1, y2, y3, y4] 5 = [r0, r1, r2, r3, r4, x0 + y0, x1 + y1, x2 + y2, x3 + y3, x4 + y4] := by
    have e : plus [r0, r1, r2, r3, r4, x0, x1, x2, x3, x4] [y0, y1, y2, y3, y4] 5 = [r0, r1, r2, r3, r4, IntKind.u64.wrap (x0 + y0), IntKind.u64.wrap (x1 + y1), IntKind.u64.wrap (x2 + y2), IntKind.u64.wrap (x3 + y3), IntKind.u64.wrap (x4 + y4)] := by kernel_rfl
    rw [e, wrap_add _ _ hx0 hy0, wrap_add _ _ hx1 hy1, wrap_add _ _ hx2 hy2, wrap_add _ _ hx3 hy3, wrap_add _ _ hx4 hy4]
  have hv : val [x0 + y0, x1 + y1, x2 + y2, x3 + y3, x4 + y4] = val [x0, x1, x2, x3, x4] + val [y0, y1, y2, y3, y4] := by
    rw [val5, val5, val5]
    omega
  rw [← hv]
  unfold added
  rw [e]
  show ∃ z, timesd (plus [r0, r1, r2, r3, r4, x0, x1, x2, x3, x4] [y0, y1, y2, y3, y4] 5) 5 0 = _ ∧ _
  rw [hp]
  clear hp hv e
  obtain ⟨u0, hu0⟩ : ∃ u, u = x0 + y0 := ⟨_, rfl⟩
  obtain ⟨u1, hu1⟩ : ∃ u, u = x1 + y1 := ⟨_, rfl⟩
  obtain ⟨u2, hu2⟩ : ∃ u, u = x2 + y2 := ⟨_, rfl⟩
  obtain ⟨u3, hu3⟩ : ∃ u, u = x3 + y3 := ⟨_, rfl⟩
  obtain ⟨u4, hu4⟩ : ∃ u, u = x4 + y4 := ⟨_, rfl⟩
  rw [← hu0, ← hu1, ← hu2, ← hu3, ← hu4]
  have b0 : 0 ≤ u0 ∧ u0 < 134250496 := by omega
  have b1 : 0 ≤ u1 ∧ u1 < 134250496 := by omega
  have b2 : 0 ≤ u2 ∧ u2 < 134250496 := by omega
  have b3 : 0 ≤ u3 ∧ u3 < 134250496 := by omega
  have b4 : 0 ≤ u4 ∧ u4 < 134250496 := by omega
  clear hu0 hu1 hu2 hu3 hu4 hx0 hx1 hx2 hx3 hx4 hy0 hy1 hy2 hy3 hy4
  have hm := mul_law r0 r1 r2 r3 r4 u0 u1 u2 u3 u4 b0 b1 b2 b3 b4 hr0 hr1 hr2 hr3 hr4
  have hpv := prod_val r0 r1 r2 r3 r4 u0 u1 u2 u3 u4
  unfold timesd
  rw [hm]
  have p00 := prod_in u0 r0 b0 hr0
  have p01 := prod_in u0 r1 b0 hr1
  have p02 := prod_in u0 r2 b0 hr2
  have p03 := prod_in u0 r3 b0 hr3
  have p04 := prod_in u0 r4 b0 hr4
  have p10 := prod_in u1 r0 b1 hr0
  have p11 := prod_in u1 r1 b1 hr1
  have p12 := prod_in u1 r2 b1 hr2
  have p13 := prod_in u1 r3 b1 hr3
  have p14 := prod_in u1 r4 b1 hr4
  have p20 := prod_in u2 r0 b2 hr0
  have p21 := prod_in u2 r1 b2 hr1
  have p22 := prod_in u2 r2 b2 hr2
  have p23 := prod_in u2 r3 b2 hr3
  have p24 := prod_in u2 r4 b2 hr4
  have p30 := prod_in u3 r0 b3 hr0
  have p31 := prod_in u3 r1 b3 hr1
  have p32 := prod_in u3 r2 b3 hr2
  have p33 := prod_in u3 r3 b3 hr3
  have p34 := prod_in u3 r4 b3 hr4
  have p40 := prod_in u4 r0 b4 hr0
  have p41 := prod_in u4 r1 b4 hr1
  have p42 := prod_in u4 r2 b4 hr2
  have p43 := prod_in u4 r3 b4 hr3
  have p44 := prod_in u4 r4 b4 hr4
  generalize u0 * r0 = q00 at *
  generalize u0 * r1 = q01 at *
  generalize u0 * r2 = q02 at *
  generalize u0 * r3 = q03 at *
  generalize u0 * r4 = q04 at *
  generalize u1 * r0 = q10 at *
  generalize u1 * r1 = q11 at *
  generalize u1 * r2 = q12 at *
  generalize u1 * r3 = q13 at *
  generalize u1 * r4 = q14 at *
  generalize u2 * r0 = q20 at *
  generalize u2 * r1 = q21 at *
  generalize u2 * r2 = q22 at *
  generalize u2 * r3 = q23 at *
  generalize u2 * r4 = q24 at *
  generalize u3 * r0 = q30 at *
  generalize u3 * r1 = q31 at *
  generalize u3 * r2 = q32 at *
  generalize u3 * r3 = q33 at *
  generalize u3 * r4 = q34 at *
  generalize u4 * r0 = q40 at *
  generalize u4 * r1 = q41 at *
  generalize u4 * r2 = q42 at *
  generalize u4 * r3 = q43 at *
  generalize u4 * r4 = q44 at *
  obtain ⟨c0, c1, c2, c3, c4, k, ec, g0, g1, g2, g3, g4, hcv⟩ := carry_val (0 + q00 + 5 * q14 + 5 * q23 + 5 * q32 + 5 * q41) (0 + q01 + q10 + 5 * q24 + 5 * q33 + 5 * q42) (0 + q02 + q11 + q20 + 5 * q34 + 5 * q43) (0 + q03 + q12 + q21 + q30 + 5 * q44) (0 + q04 + q13 + q22 + q31 + q40) (by omega) (by omega) (by omega) (by omega) (by omega)
  rw [ec]
  refine ⟨[c0, c1, c2, c3, c4], rfl, ⟨c0, c1, c2, c3, c4, rfl, g0, g1, g2, g3, g4⟩, ?_⟩
  rw [hpv, hcv]
  omega
theorem near_of_p {z : List Int} (h : NearP z) : Near z := by
  obtain ⟨a, b, c, d, e, rfl, h0, h1, h2, h3, h4⟩ := h
  exact ⟨a, b, c, d, e, rfl, by omega, by omega, by omega, by omega, by omega⟩
theorem near_of_r {z : List Int} (h : NearR z) : Near z := by
  obtain ⟨a, b, c, d, e, rfl, h0, h1, h2, h3, h4⟩ := h
  exact ⟨a, b, c, d, e, rfl, by omega, by omega, by omega, by omega, by omega⟩
/-- A block added, the document's. -/
theorem rstep_law (x : List Int) (hx : Near x) (r : List Int) (hr : Full r) (y : List Int) (hy : Full y) :
    NearR (rproduct (rplus x y 5) r) ∧ val (rproduct (rplus x y 5) r) % 1361129467683753853853498429727072845819 = (val x + val y) * val r % 1361129467683753853853498429727072845819 := by
  obtain ⟨x0, x1, x2, x3, x4, rfl, hx0, hx1, hx2, hx3, hx4⟩ := hx
  obtain ⟨r0, r1, r2, r3, r4, rfl, hr0, hr1, hr2, hr3, hr4⟩ := hr
  obtain ⟨y0, y1, y2, y3, y4, rfl, hy0, hy1, hy2, hy3, hy4⟩ := hy
  have hp : rplus [x0, x1, x2, x3, x4] [y0, y1, y2, y3, y4] 5 = [x0 + y0, x1 + y1, x2 + y2, x3 + y3, x4 + y4] := by
    have e : rplus [x0, x1, x2, x3, x4] [y0, y1, y2, y3, y4] 5 = [IntKind.u64.wrap (x0 + y0), IntKind.u64.wrap (x1 + y1), IntKind.u64.wrap (x2 + y2), IntKind.u64.wrap (x3 + y3), IntKind.u64.wrap (x4 + y4)] := by kernel_rfl
    rw [e, wrap_add _ _ hx0 hy0, wrap_add _ _ hx1 hy1, wrap_add _ _ hx2 hy2, wrap_add _ _ hx3 hy3, wrap_add _ _ hx4 hy4]
  have hv : val [x0 + y0, x1 + y1, x2 + y2, x3 + y3, x4 + y4] = val [x0, x1, x2, x3, x4] + val [y0, y1, y2, y3, y4] := by
    rw [val5, val5, val5]
    omega
  rw [← hv, hp]
  clear hp hv
  obtain ⟨u0, hu0⟩ : ∃ u, u = x0 + y0 := ⟨_, rfl⟩
  obtain ⟨u1, hu1⟩ : ∃ u, u = x1 + y1 := ⟨_, rfl⟩
  obtain ⟨u2, hu2⟩ : ∃ u, u = x2 + y2 := ⟨_, rfl⟩
  obtain ⟨u3, hu3⟩ : ∃ u, u = x3 + y3 := ⟨_, rfl⟩
  obtain ⟨u4, hu4⟩ : ∃ u, u = x4 + y4 := ⟨_, rfl⟩
  rw [← hu0, ← hu1, ← hu2, ← hu3, ← hu4]
  have b0 : 0 ≤ u0 ∧ u0 < 134250496 := by omega
  have b1 : 0 ≤ u1 ∧ u1 < 134250496 := by omega
  have b2 : 0 ≤ u2 ∧ u2 < 134250496 := by omega
  have b3 : 0 ≤ u3 ∧ u3 < 134250496 := by omega
  have b4 : 0 ≤ u4 ∧ u4 < 134250496 := by omega
  clear hu0 hu1 hu2 hu3 hu4 hx0 hx1 hx2 hx3 hx4 hy0 hy1 hy2 hy3 hy4
  have hm := rmul_law r0 r1 r2 r3 r4 u0 u1 u2 u3 u4 b0 b1 b2 b3 b4 hr0 hr1 hr2 hr3 hr4
  have hpv := prod_val r0 r1 r2 r3 r4 u0 u1 u2 u3 u4
  unfold rproduct
  rw [hm]
  have p00 := prod_in u0 r0 b0 hr0
  have p01 := prod_in u0 r1 b0 hr1
  have p02 := prod_in u0 r2 b0 hr2
  have p03 := prod_in u0 r3 b0 hr3
  have p04 := prod_in u0 r4 b0 hr4
  have p10 := prod_in u1 r0 b1 hr0
  have p11 := prod_in u1 r1 b1 hr1
  have p12 := prod_in u1 r2 b1 hr2
  have p13 := prod_in u1 r3 b1 hr3
  have p14 := prod_in u1 r4 b1 hr4
  have p20 := prod_in u2 r0 b2 hr0
  have p21 := prod_in u2 r1 b2 hr1
  have p22 := prod_in u2 r2 b2 hr2
  have p23 := prod_in u2 r3 b2 hr3
  have p24 := prod_in u2 r4 b2 hr4
  have p30 := prod_in u3 r0 b3 hr0
  have p31 := prod_in u3 r1 b3 hr1
  have p32 := prod_in u3 r2 b3 hr2
  have p33 := prod_in u3 r3 b3 hr3
  have p34 := prod_in u3 r4 b3 hr4
  have p40 := prod_in u4 r0 b4 hr0
  have p41 := prod_in u4 r1 b4 hr1
  have p42 := prod_in u4 r2 b4 hr2
  have p43 := prod_in u4 r3 b4 hr3
  have p44 := prod_in u4 r4 b4 hr4
  generalize u0 * r0 = q00 at *
  generalize u0 * r1 = q01 at *
  generalize u0 * r2 = q02 at *
  generalize u0 * r3 = q03 at *
  generalize u0 * r4 = q04 at *
  generalize u1 * r0 = q10 at *
  generalize u1 * r1 = q11 at *
  generalize u1 * r2 = q12 at *
  generalize u1 * r3 = q13 at *
  generalize u1 * r4 = q14 at *
  generalize u2 * r0 = q20 at *
  generalize u2 * r1 = q21 at *
  generalize u2 * r2 = q22 at *
  generalize u2 * r3 = q23 at *
  generalize u2 * r4 = q24 at *
  generalize u3 * r0 = q30 at *
  generalize u3 * r1 = q31 at *
  generalize u3 * r2 = q32 at *
  generalize u3 * r3 = q33 at *
  generalize u3 * r4 = q34 at *
  generalize u4 * r0 = q40 at *
  generalize u4 * r1 = q41 at *
  generalize u4 * r2 = q42 at *
  generalize u4 * r3 = q43 at *
  generalize u4 * r4 = q44 at *
  obtain ⟨c0, c1, c2, c3, c4, k, ec, g0, g1, g2, g3, g4, hcv⟩ := rtwice_law (0 + q00 + 5 * q14 + 5 * q23 + 5 * q32 + 5 * q41) (0 + q01 + q10 + 5 * q24 + 5 * q33 + 5 * q42) (0 + q02 + q11 + q20 + 5 * q34 + 5 * q43) (0 + q03 + q12 + q21 + q30 + 5 * q44) (0 + q04 + q13 + q22 + q31 + q40) (by omega) (by omega) (by omega) (by omega) (by omega)
  rw [ec]
  refine ⟨⟨c0, c1, c2, c3, c4, rfl, g0, g1, g2, g3, g4⟩, ?_⟩
  rw [hpv, hcv]
  omega
theorem noughts_near : Near (List.replicate 5 0) := ⟨0, 0, 0, 0, 0, rfl, by decide, by decide, by decide, by decide, by decide⟩
/-- The two sums, block by block. -/
theorem sums_law (key s : ByteArray) (hk : key.size = 32) : ∀ q, q ≤ (s.size + 15) / 16 → ∃ x, alled (sum0 key) (bytesOf s) 0 s.size q = rOf key ++ x ∧ NearP x ∧ NearR (rsteps key s q) ∧ val x % 1361129467683753853853498429727072845819 = val (rsteps key s q) % 1361129467683753853853498429727072845819
  | 0, _ => ⟨List.replicate 5 0, rfl, ⟨0, 0, 0, 0, 0, rfl, by decide, by decide, by decide, by decide, by decide⟩, ⟨0, 0, 0, 0, 0, rfl, by decide, by decide, by decide, by decide, by decide⟩, rfl⟩
  | q + 1, hq => by
    obtain ⟨x, e, hx, hr, hv⟩ := sums_law key s hk q (by omega)
    have hR : Full (rOf key) := by rw [rOf_law key hk]; exact digits_full _
    have hRR : rkey key 128 = rOf key := by rw [rkey_law key hk, rOf_law key hk]
    obtain ⟨c, hc⟩ : ∃ c, c = min (s.size - 16 * q) 16 := ⟨_, rfl⟩
    have hY : Full (rone s (16 * q) c) := by rw [rone_law s _ c (by omega)]; exact digits_full _
    obtain ⟨z, ez, hz, hzv⟩ := added_law x (near_of_p hx) (rOf key) hR (bytesOf s) (16 * q) c (rone s (16 * q) c) hY (block_law s _ c (by omega))
    have hs := rstep_law (rsteps key s q) (near_of_r hr) (rOf key) hR (rone s (16 * q) c) hY
    have e2 : rsteps key s (q + 1) = rproduct (rplus (rsteps key s q) (rone s (16 * q) c) 5) (rOf key) := by rw [rsteps, ← hc, hRR]
    refine ⟨z, ?_, hz, ?_, ?_⟩
    · rw [alled, e, Nat.zero_add, ← hc, ez]
    · rw [e2]; exact hs.1
    · rw [e2, hs.2, hzv]
      refine eqv_mul _ _ _ ?_
      omega
/-! ### the least number -/
theorem over5_eq (b0 b1 b2 b3 b4 : Int) : over5 [b0, b1, b2, b3, b4] 4 =
  [(Go.bits .and .u64 (IntKind.u64.wrap (b0 + 5)) 67108863),
   (Go.bits .and .u64 (IntKind.u64.wrap (b1 + (IntKind.u64.wrap (b0 + 5)) / 67108864)) 67108863),
   (Go.bits .and .u64 (IntKind.u64.wrap (b2 + (IntKind.u64.wrap (b1 + (IntKind.u64.wrap (b0 + 5)) / 67108864)) / 67108864)) 67108863),
   (Go.bits .and .u64 (IntKind.u64.wrap (b3 + (IntKind.u64.wrap (b2 + (IntKind.u64.wrap (b1 + (IntKind.u64.wrap (b0 + 5)) / 67108864)) / 67108864)) / 67108864)) 67108863),
   (IntKind.u64.wrap (b4 + (IntKind.u64.wrap (b3 + (IntKind.u64.wrap (b2 + (IntKind.u64.wrap (b1 + (IntKind.u64.wrap (b0 + 5)) / 67108864)) / 67108864)) / 67108864)) / 67108864))] := by kernel_rfl
theorem over5_law (b0 b1 b2 b3 b4 : Int) (h0 : 0 ≤ b0 ∧ b0 < 67108864) (h1 : 0 ≤ b1 ∧ b1 < 67108864) (h2 : 0 ≤ b2 ∧ b2 < 67108864) (h3 : 0 ≤ b3 ∧ b3 < 67108864) (h4 : 0 ≤ b4 ∧ b4 < 67108864) :
    ∃ m0 m1 m2 m3 y4 c0 c1 c2 c3 : Int, over5 [b0, b1, b2, b3, b4] 4 = [m0, m1, m2, m3, y4] ∧ b0 + 5 = m0 + 67108864 * c0 ∧ b1 + c0 = m1 + 67108864 * c1 ∧ b2 + c1 = m2 + 67108864 * c2 ∧ b3 + c2 = m3 + 67108864 * c3 ∧ y4 = b4 + c3 ∧
      (0 ≤ m0 ∧ m0 < 67108864) ∧ (0 ≤ m1 ∧ m1 < 67108864) ∧ (0 ≤ m2 ∧ m2 < 67108864) ∧ (0 ≤ m3 ∧ m3 < 67108864) ∧ (0 ≤ c3 ∧ c3 ≤ 1) := by
  have e0 : IntKind.u64.wrap (b0 + 5) = b0 + 5 := w64_in _ (by omega) (by omega)
  obtain ⟨c0, hc0⟩ : ∃ c0, c0 = (b0 + 5) / 67108864 := ⟨_, rfl⟩
  have e1 : IntKind.u64.wrap (b1 + c0) = b1 + c0 := w64_in _ (by omega) (by omega)
  obtain ⟨c1, hc1⟩ : ∃ c1, c1 = (b1 + c0) / 67108864 := ⟨_, rfl⟩
  have e2 : IntKind.u64.wrap (b2 + c1) = b2 + c1 := w64_in _ (by omega) (by omega)
  obtain ⟨c2, hc2⟩ : ∃ c2, c2 = (b2 + c1) / 67108864 := ⟨_, rfl⟩
  have e3 : IntKind.u64.wrap (b3 + c2) = b3 + c2 := w64_in _ (by omega) (by omega)
  obtain ⟨c3, hc3⟩ : ∃ c3, c3 = (b3 + c2) / 67108864 := ⟨_, rfl⟩
  have e4 : IntKind.u64.wrap (b4 + c3) = b4 + c3 := w64_in _ (by omega) (by omega)
  have a0 := and26 (b0 + 5) (by omega) (by omega)
  have a1 := and26 (b1 + c0) (by omega) (by omega)
  have a2 := and26 (b2 + c1) (by omega) (by omega)
  have a3 := and26 (b3 + c2) (by omega) (by omega)
  refine ⟨(b0 + 5) % 67108864, (b1 + c0) % 67108864, (b2 + c1) % 67108864, (b3 + c2) % 67108864, b4 + c3, c0, c1, c2, c3, ?_, by omega, by omega, by omega, by omega, rfl, by omega, by omega, by omega, by omega, by omega⟩
  rw [over5_eq]
  simp only [e0, ← hc0, e1, ← hc1, e2, ← hc2, e3, ← hc3, e4, a0, a1, a2, a3]
/-- A whole number below the modulus. -/
def Least (z : List Int) (V : Int) : Prop := Full z ∧ val z = V % 1361129467683753853853498429727072845819
theorem val_range {z : List Int} (h : Full z) : 0 ≤ val z ∧ val z < 1361129467683753853853498429727072845824 := by
  obtain ⟨a, b, c, d, e, rfl, h0, h1, h2, h3, h4⟩ := h
  rw [val5]
  omega
theorem whole_law (x : List Int) (hx : NearP x) : Least (wholed x) (val x) := by
  obtain ⟨x0, x1, x2, x3, x4, rfl, hx0, hx1, hx2, hx3, hx4⟩ := hx
  obtain ⟨a0, a1, a2, a3, a4, k, ea, g0, g1, g2, g3, g4, hav⟩ := carry_val x0 x1 x2 x3 x4 (by omega) (by omega) (by omega) (by omega) (by omega)
  obtain ⟨b0, b1, b2, b3, b4, k2, eb, i0, i1, i2, i3, i4, hbv⟩ := carry_small a0 a1 a2 a3 a4 g0 g1 g2 g3 g4
  obtain ⟨m0, m1, m2, m3, y4, c0, c1, c2, c3, eo, j0, j1, j2, j3, j4, n0, n1, n2, n3, n5⟩ := over5_law b0 b1 b2 b3 b4 i0 i1 i2 i3 i4
  have et : twice [x0, x1, x2, x3, x4] = [b0, b1, b2, b3, b4] := by rw [twice, ea, eb]
  have hb := val5 b0 b1 b2 b3 b4
  have hr := val_range (z := [b0, b1, b2, b3, b4]) ⟨b0, b1, b2, b3, b4, rfl, i0, i1, i2, i3, i4⟩
  unfold wholed
  rw [et, eo]
  show Least (if y4 / 67108864 > 0 then push [m0, m1, m2, m3, y4] 4 else [b0, b1, b2, b3, b4]) _
  have ha := and26 y4 (by omega) (by omega)
  have ep : push [m0, m1, m2, m3, y4] 4 = [m0, m1, m2, m3, y4 % 67108864] := by
    show [m0, m1, m2, m3, Go.bits .and .u64 y4 67108863] = _
    rw [ha]
  by_cases h : y4 / 67108864 > 0
  · rw [if_pos h, ep]
    have hy := val5 m0 m1 m2 m3 (y4 % 67108864)
    refine ⟨⟨_, _, _, _, _, rfl, n0, n1, n2, n3, by omega⟩, ?_⟩
    have hv : val [m0, m1, m2, m3, y4 % 67108864] = val [b0, b1, b2, b3, b4] - 1361129467683753853853498429727072845819 := by
      rw [hy, hb]
      have : y4 % 67108864 = y4 - 67108864 := by omega
      rw [this]
      omega
    have hl : 0 ≤ val [m0, m1, m2, m3, y4 % 67108864] := by rw [hy]; omega
    omega
  · rw [if_neg h]
    refine ⟨⟨_, _, _, _, _, rfl, i0, i1, i2, i3, i4⟩, ?_⟩
    have hl : val [b0, b1, b2, b3, b4] < 1361129467683753853853498429727072845819 := by rw [hb]; omega
    omega
theorem least_law (x : List Int) (hx : NearR x) : Least (rleast x) (val x) := by
  obtain ⟨x0, x1, x2, x3, x4, rfl, hx0, hx1, hx2, hx3, hx4⟩ := hx
  obtain ⟨a0, a1, a2, a3, a4, k, ea, g0, g1, g2, g3, g4, hav⟩ := rsmall_law x0 x1 x2 x3 x4 hx0 hx1 hx2 hx3 hx4
  obtain ⟨b0, b1, b2, b3, b4, k2, eb, i0, i1, i2, i3, i4, hbv⟩ := rsmall_law a0 a1 a2 a3 a4 (by omega) g1 g2 g3 g4
  have et : rfull [x0, x1, x2, x3, x4] = [b0, b1, b2, b3, b4] := by rw [rfull, ea, eb]
  have el : rless [x0, x1, x2, x3, x4] = [b0 + 5, b1, b2, b3, b4] := by
    rw [rless, et]
    show [IntKind.u64.wrap (b0 + 5), b1, b2, b3, b4] = _
    rw [w64_in (b0 + 5) (by omega) (by omega)]
  obtain ⟨m0, m1, m2, m3, m4, c0, c1, c2, c3, c4, er, hc0, hm0, hc1, hm1, hc2, hm2, hc3, hm3, hc4, hm4⟩ := rcs_law (b0 + 5) b1 b2 b3 b4 (by omega) (by omega) (by omega) (by omega) (by omega)
  have j0 : b0 + 5 = m0 + 67108864 * c0 := by omega
  have j1 : b1 + c0 = m1 + 67108864 * c1 := by omega
  have j2 : b2 + c1 = m2 + 67108864 * c2 := by omega
  have j3 : b3 + c2 = m3 + 67108864 * c3 := by omega
  have j4 : b4 + c3 = m4 + 67108864 * c4 := by omega
  have n0 : 0 ≤ m0 ∧ m0 < 67108864 := by omega
  have n1 : 0 ≤ m1 ∧ m1 < 67108864 := by omega
  have n2 : 0 ≤ m2 ∧ m2 < 67108864 := by omega
  have n3 : 0 ≤ m3 ∧ m3 < 67108864 := by omega
  have n4 : 0 ≤ m4 ∧ m4 < 67108864 := by omega
  have nc : 0 ≤ c4 ∧ c4 ≤ 1 := by omega
  clear hc0 hm0 hc1 hm1 hc2 hm2 hc3 hm3 hc4 hm4
  have hb := val5 b0 b1 b2 b3 b4
  have hr := val_range (z := [b0, b1, b2, b3, b4]) ⟨b0, b1, b2, b3, b4, rfl, i0, i1, i2, i3, i4⟩
  unfold rleast
  rw [el, er, et]
  show Least (if c4 > 0 then [m0, m1, m2, m3, m4] else [b0, b1, b2, b3, b4]) _
  have hy := val5 m0 m1 m2 m3 m4
  have hvy : val [m0, m1, m2, m3, m4] = val [b0, b1, b2, b3, b4] + 5 - c4 * 1361129467683753853853498429727072845824 := by
    rw [hy, hb]
    omega
  have hry := val_range (z := [m0, m1, m2, m3, m4]) ⟨m0, m1, m2, m3, m4, rfl, n0, n1, n2, n3, n4⟩
  by_cases h : c4 > 0
  · rw [if_pos h]
    refine ⟨⟨_, _, _, _, _, rfl, n0, n1, n2, n3, n4⟩, ?_⟩
    have : c4 = 1 := by omega
    subst this
    omega
  · rw [if_neg h]
    refine ⟨⟨_, _, _, _, _, rfl, i0, i1, i2, i3, i4⟩, ?_⟩
    have : c4 = 0 := by omega
    subst this
    omega
theorem full_eq {y z : List Int} (hy : Full y) (hz : Full z) (h : val y = val z) : y = z := by
  obtain ⟨a, b, c, d, e, rfl, h0, h1, h2, h3, h4⟩ := hy
  obtain ⟨a', b', c', d', e', rfl, k0, k1, k2, k3, k4⟩ := hz
  rw [val5, val5] at h
  have e0 : a = a' := by omega
  subst e0
  have e1 : b = b' := by omega
  subst e1
  have e2 : c = c' := by omega
  subst e2
  have e3 : d = d' := by omega
  subst e3
  have e4 : e = e' := by omega
  subst e4
  rfl
/-! ### the tag's bytes -/
theorem and255_u64 (x : Int) (h : 0 ≤ x) (h1 : x < 18446744073709551616) : Go.bits .and .u64 x 255 = x % 256 :=
  bits_mask .u64 64 (by decide) wraps64 8 (by decide) x h (by rw [show (2 : Int) ^ 64 = 18446744073709551616 from by decide]; omega)
theorem and1_u64 (x : Int) (h : 0 ≤ x) (h1 : x < 18446744073709551616) : Go.bits .and .u64 x 1 = x % 2 :=
  bits_mask .u64 64 (by decide) wraps64 1 (by decide) x h (by rw [show (2 : Int) ^ 64 = 18446744073709551616 from by decide]; omega)
theorem words_law (a b c d e : Int) (h0 : 0 ≤ a ∧ a < 67108864) (h1 : 0 ≤ b ∧ b < 67108864) (h2 : 0 ≤ c ∧ c < 67108864) (h3 : 0 ≤ d ∧ d < 67108864) (h4 : 0 ≤ e ∧ e < 67108864) :
    lo64 [a, b, c, d, e] = val [a, b, c, d, e] % 18446744073709551616 ∧ hi64 [a, b, c, d, e] = val [a, b, c, d, e] / 18446744073709551616 % 18446744073709551616 := by
  rw [val5]
  have l1 : Go.bits .or .u64 a (IntKind.u64.wrap (b * 67108864)) = a + b * 67108864 := by
    rw [w64_in (b * 67108864) (by omega) (by omega)]
    exact join64 _ _ 26 h0.1 h0.2 (by decide) (by omega) (show b * 67108864 % 67108864 = 0 by omega) (by omega)
  have l2 : Go.bits .or .u64 (a + b * 67108864) (IntKind.u64.wrap (c * 4503599627370496)) = a + b * 67108864 + c * 4503599627370496 % 18446744073709551616 := by
    rw [w64]
    exact join64 _ _ 52 (by omega) (show a + b * 67108864 < 4503599627370496 by omega) (by decide) (by omega) (show c * 4503599627370496 % 18446744073709551616 % 4503599627370496 = 0 by omega) (by omega)
  have u1 : Go.bits .or .u64 (c / 4096) (IntKind.u64.wrap (d * 16384)) = c / 4096 + d * 16384 := by
    rw [w64_in (d * 16384) (by omega) (by omega)]
    exact join64 _ _ 14 (by omega) (show c / 4096 < 16384 by omega) (by decide) (by omega) (show d * 16384 % 16384 = 0 by omega) (by omega)
  have u2 : Go.bits .or .u64 (c / 4096 + d * 16384) (IntKind.u64.wrap (e * 1099511627776)) = c / 4096 + d * 16384 + e * 1099511627776 % 18446744073709551616 := by
    rw [w64]
    exact join64 _ _ 40 (by omega) (show c / 4096 + d * 16384 < 1099511627776 by omega) (by decide) (by omega) (show e * 1099511627776 % 18446744073709551616 % 1099511627776 = 0 by omega) (by omega)
  refine ⟨?_, ?_⟩
  · show Go.bits .or .u64 (Go.bits .or .u64 a (IntKind.u64.wrap (b * 67108864))) (IntKind.u64.wrap (c * 4503599627370496)) = _
    rw [l1, l2]
    omega
  · show Go.bits .or .u64 (Go.bits .or .u64 (c / 4096) (IntKind.u64.wrap (d * 16384))) (IntKind.u64.wrap (e * 1099511627776)) = _
    rw [u1, u2]
    omega
/-- The number's byte i. -/
def vbyte (V : Int) (i : Nat) : Int := V / 2 ^ (8 * i) % 256
theorem vbyte_range (V : Int) (i : Nat) : 0 ≤ vbyte V i ∧ vbyte V i < 256 := by unfold vbyte; omega
theorem half_law (z : List Int) (hz : Full z) (i : Nat) (hi : i < 16) : Go.bits .and .u64 (half z i / 2 ^ (8 * (i % 8))) 255 = vbyte (val z) i := by
  have hr := val_range hz
  obtain ⟨a, b, c, d, e, rfl, h0, h1, h2, h3, h4⟩ := hz
  obtain ⟨hl, hh⟩ := words_law a b c d e h0 h1 h2 h3 h4
  unfold half vbyte
  rw [hl, hh]
  generalize val [a, b, c, d, e] = V at hr
  have hs : i = 0 ∨ i = 1 ∨ i = 2 ∨ i = 3 ∨ i = 4 ∨ i = 5 ∨ i = 6 ∨ i = 7 ∨ i = 8 ∨ i = 9 ∨ i = 10 ∨ i = 11 ∨ i = 12 ∨ i = 13 ∨ i = 14 ∨ i = 15 := by omega
  rcases hs with rfl | rfl | rfl | rfl | rfl | rfl | rfl | rfl | rfl | rfl | rfl | rfl | rfl | rfl | rfl | rfl
  · show Go.bits .and .u64 (V % 18446744073709551616 / 1) 255 = V / 1 % 256
    rw [and255_u64 _ (by omega) (by omega)]
    omega
  · show Go.bits .and .u64 (V % 18446744073709551616 / 256) 255 = V / 256 % 256
    rw [and255_u64 _ (by omega) (by omega)]
    omega
  · show Go.bits .and .u64 (V % 18446744073709551616 / 65536) 255 = V / 65536 % 256
    rw [and255_u64 _ (by omega) (by omega)]
    omega
  · show Go.bits .and .u64 (V % 18446744073709551616 / 16777216) 255 = V / 16777216 % 256
    rw [and255_u64 _ (by omega) (by omega)]
    omega
  · show Go.bits .and .u64 (V % 18446744073709551616 / 4294967296) 255 = V / 4294967296 % 256
    rw [and255_u64 _ (by omega) (by omega)]
    omega
  · show Go.bits .and .u64 (V % 18446744073709551616 / 1099511627776) 255 = V / 1099511627776 % 256
    rw [and255_u64 _ (by omega) (by omega)]
    omega
  · show Go.bits .and .u64 (V % 18446744073709551616 / 281474976710656) 255 = V / 281474976710656 % 256
    rw [and255_u64 _ (by omega) (by omega)]
    omega
  · show Go.bits .and .u64 (V % 18446744073709551616 / 72057594037927936) 255 = V / 72057594037927936 % 256
    rw [and255_u64 _ (by omega) (by omega)]
    omega
  · show Go.bits .and .u64 (V / 18446744073709551616 % 18446744073709551616 / 1) 255 = V / 18446744073709551616 % 256
    rw [and255_u64 _ (by omega) (by omega)]
    omega
  · show Go.bits .and .u64 (V / 18446744073709551616 % 18446744073709551616 / 256) 255 = V / 4722366482869645213696 % 256
    rw [and255_u64 _ (by omega) (by omega)]
    omega
  · show Go.bits .and .u64 (V / 18446744073709551616 % 18446744073709551616 / 65536) 255 = V / 1208925819614629174706176 % 256
    rw [and255_u64 _ (by omega) (by omega)]
    omega
  · show Go.bits .and .u64 (V / 18446744073709551616 % 18446744073709551616 / 16777216) 255 = V / 309485009821345068724781056 % 256
    rw [and255_u64 _ (by omega) (by omega)]
    omega
  · show Go.bits .and .u64 (V / 18446744073709551616 % 18446744073709551616 / 4294967296) 255 = V / 79228162514264337593543950336 % 256
    rw [and255_u64 _ (by omega) (by omega)]
    omega
  · show Go.bits .and .u64 (V / 18446744073709551616 % 18446744073709551616 / 1099511627776) 255 = V / 20282409603651670423947251286016 % 256
    rw [and255_u64 _ (by omega) (by omega)]
    omega
  · show Go.bits .and .u64 (V / 18446744073709551616 % 18446744073709551616 / 281474976710656) 255 = V / 5192296858534827628530496329220096 % 256
    rw [and255_u64 _ (by omega) (by omega)]
    omega
  · show Go.bits .and .u64 (V / 18446744073709551616 % 18446744073709551616 / 72057594037927936) 255 = V / 1329227995784915872903807060280344576 % 256
    rw [and255_u64 _ (by omega) (by omega)]
    omega
theorem bit_high (a b : Int) (m : Nat) (hm : m < 26) : (a + 67108864 * b) / 2 ^ m % 2 = a / 2 ^ m % 2 := by
  have hp := pow_pos m
  have e : (67108864 : Int) = 2 ^ m * (2 * 2 ^ (25 - m)) := by
    have h1 : (2 : Int) * 2 ^ (25 - m) = 2 ^ (26 - m) := by rw [show 26 - m = (25 - m) + 1 by omega, Int.pow_succ, Int.mul_comm]
    rw [h1, ← Int.pow_add, show m + (26 - m) = 26 by omega]
    decide
  rw [e, Int.mul_assoc, Int.add_mul_ediv_left _ _ (by omega), Int.mul_assoc]
  generalize (2 : Int) ^ (25 - m) * b = u
  omega
theorem vbit (z : List Int) (hz : Full z) (j : Nat) (hj : j < 130) : Go.bits .and .u64 (gx z (j / 26) / 2 ^ (j % 26)) 1 = val z / 2 ^ j % 2 := by
  obtain ⟨q, hq⟩ : ∃ q, q = j / 26 := ⟨_, rfl⟩
  obtain ⟨m, hm⟩ : ∃ m, m = j % 26 := ⟨_, rfl⟩
  have e : j = 26 * q + m := by omega
  have hm26 : m < 26 := by omega
  rw [← hq, ← hm, e, Int.pow_add, ← Int.ediv_ediv_of_nonneg (by have := pow_pos (26 * q); omega)]
  obtain ⟨a, b, c, d, f, rfl, h0, h1, h2, h3, h4⟩ := hz
  rw [val5]
  have hb : ∀ x : Int, 0 ≤ x ∧ x < 67108864 → Go.bits .and .u64 (x / 2 ^ m) 1 = x / 2 ^ m % 2 := fun x hx => by
    have hp := pow_pos m
    have h5 : 0 ≤ x / 2 ^ m := Int.ediv_nonneg hx.1 (by omega)
    have h6 : x / 2 ^ m ≤ x := Int.ediv_le_self _ hx.1
    exact and1_u64 _ h5 (by omega)
  have hq5 : q = 0 ∨ q = 1 ∨ q = 2 ∨ q = 3 ∨ q = 4 := by omega
  rcases hq5 with rfl | rfl | rfl | rfl | rfl
  · show Go.bits .and .u64 (a / 2 ^ m) 1 = (a + b * 67108864 + c * 4503599627370496 + d * 302231454903657293676544 + f * 20282409603651670423947251286016) / 1 / 2 ^ m % 2
    have e2 : (a + b * 67108864 + c * 4503599627370496 + d * 302231454903657293676544 + f * 20282409603651670423947251286016) / 1 = a + 67108864 * (b + c * 67108864 + d * 4503599627370496 + f * 302231454903657293676544) := by omega
    rw [e2, bit_high _ _ m hm26, hb _ h0]
  · show Go.bits .and .u64 (b / 2 ^ m) 1 = (a + b * 67108864 + c * 4503599627370496 + d * 302231454903657293676544 + f * 20282409603651670423947251286016) / 67108864 / 2 ^ m % 2
    have e2 : (a + b * 67108864 + c * 4503599627370496 + d * 302231454903657293676544 + f * 20282409603651670423947251286016) / 67108864 = b + 67108864 * (c + d * 67108864 + f * 4503599627370496) := by omega
    rw [e2, bit_high _ _ m hm26, hb _ h1]
  · show Go.bits .and .u64 (c / 2 ^ m) 1 = (a + b * 67108864 + c * 4503599627370496 + d * 302231454903657293676544 + f * 20282409603651670423947251286016) / 4503599627370496 / 2 ^ m % 2
    have e2 : (a + b * 67108864 + c * 4503599627370496 + d * 302231454903657293676544 + f * 20282409603651670423947251286016) / 4503599627370496 = c + 67108864 * (d + f * 67108864) := by omega
    rw [e2, bit_high _ _ m hm26, hb _ h2]
  · show Go.bits .and .u64 (d / 2 ^ m) 1 = (a + b * 67108864 + c * 4503599627370496 + d * 302231454903657293676544 + f * 20282409603651670423947251286016) / 302231454903657293676544 / 2 ^ m % 2
    have e2 : (a + b * 67108864 + c * 4503599627370496 + d * 302231454903657293676544 + f * 20282409603651670423947251286016) / 302231454903657293676544 = d + 67108864 * (f) := by omega
    rw [e2, bit_high _ _ m hm26, hb _ h3]
  · show Go.bits .and .u64 (f / 2 ^ m) 1 = (a + b * 67108864 + c * 4503599627370496 + d * 302231454903657293676544 + f * 20282409603651670423947251286016) / 20282409603651670423947251286016 / 2 ^ m % 2
    have e2 : (a + b * 67108864 + c * 4503599627370496 + d * 302231454903657293676544 + f * 20282409603651670423947251286016) / 20282409603651670423947251286016 = f + 67108864 * (0) := by omega
    rw [e2, bit_high _ _ m hm26, hb _ h4]
theorem or_bit_i64 (a b : Int) (k : Nat) (hk : k < 8) (ha : 0 ≤ a ∧ a < 2 ^ k) (hb : 0 ≤ b ∧ b ≤ 1) : Go.bits .or .i64 a (wrap64 (wrap64 b * 2 ^ k)) = a + b * 2 ^ k := by
  have hp := pow_pos k
  have h7 : (2 : Int) ^ k ≤ 2 ^ 7 := by exact_mod_cast Nat.pow_le_pow_right (by decide) (by omega)
  have e7 : (2 : Int) ^ 7 = 128 := by decide
  have h63 : (2 : Int) ^ 63 = 9223372036854775808 := by decide
  have hw : wrap64 b = b := w64_small hb.1 (by omega)
  have hb2 : b = 0 ∨ b = 1 := by omega
  have hx : 0 ≤ b * 2 ^ k ∧ b * 2 ^ k ≤ 128 := by rcases hb2 with rfl | rfl <;> omega
  rw [hw, w64_small hx.1 (by omega)]
  have hc : Go.bits .or .i64 a (b * 2 ^ k) = Go.bits .or .i64 (b * 2 ^ k) a := by
    obtain ⟨A, rfl⟩ := Int.eq_ofNat_of_zero_le ha.1
    obtain ⟨X, hX⟩ := Int.eq_ofNat_of_zero_le hx.1
    rw [hX, (bits_nat .i64 63 (by decide) wraps_i64 A X (by omega) (by omega)).2, (bits_nat .i64 63 (by decide) wraps_i64 X A (by omega) (by omega)).2, Nat.or_comm]
  rw [hc, bits_join .i64 63 (by decide) wraps_i64 k (b * 2 ^ k) a hx.1 (Int.mul_emod_left _ _) (by omega) ha.1 ha.2 (by omega)]
  omega
theorem rbyte_law (z : List Int) (hz : Full z) (i : Nat) (hi : i < 16) : ∀ k, k ≤ 8 → rbyte z i k = val z / 2 ^ (8 * i) % 2 ^ k
  | 0, _ => by
    rw [rbyte, show (2 : Int) ^ 0 = 1 from rfl, Int.emod_one]
  | k + 1, hk => by
    have hp := pow_pos k
    rw [rbyte, rbit, vbit z hz (8 * i + k) (by omega), rbyte_law z hz i hi k (by omega), bit_step _ k (by omega), Int.pow_add, ← Int.ediv_ediv_of_nonneg (by have := pow_pos (8 * i); omega)]
    exact or_bit_i64 _ _ k (by omega) ⟨Int.emod_nonneg _ (by omega), Int.emod_lt_of_pos _ hp⟩ (by omega)
theorem rbyte_whole (z : List Int) (hz : Full z) (i : Nat) (hi : i < 16) : rbyte z i 8 = vbyte (val z) i := rbyte_law z hz i hi 8 (by omega)
theorem and255_i64 (x : Int) (h0 : 0 ≤ x) (h1 : x < 9223372036854775808) : Go.bits .and .i64 x 255 = x % 256 := and_255 x
theorem w8 (n : Int) : IntKind.u8.wrap n = n % 256 := by simp [IntKind.wrap, IntKind.bits, IntKind.signed]
theorem back_at (key : ByteArray) (hk : key.size = 32) (i : Nat) (hi : i < 16) : bt (key.extract 16 key.size) (i : Int) = bt key (16 + (i : Int)) := by
  rw [show 16 + (i : Int) = ((16 + i : Nat) : Int) by omega, bt_bytes, bt_bytes]
  unfold bytesOf
  rw [data_extract]
  unfold gx
  rw [List.getD_eq_getElem?_getD, List.getD_eq_getElem?_getD, List.getElem?_map, List.getElem?_map, List.getElem?_drop, List.getElem?_take, if_pos (by omega)]
theorem tags_law (z : List Int) (hz : Full z) (key : ByteArray) (hk : key.size = 32) : ∀ i, i ≤ 16 → tout z key i = rout z (key.extract 16 key.size) i ∧ tcar z key i = rcar z (key.extract 16 key.size) i ∧ 0 ≤ tcar z key i ∧ tcar z key i ≤ 1
  | 0, _ => ⟨rfl, rfl, Int.le_refl _, by show (0 : Int) ≤ 1; omega⟩
  | i + 1, hi => by
    obtain ⟨h1, h2, h3, h4⟩ := tags_law z hz key hk i (by omega)
    have hb := vbyte_range (val z) i
    have hk2 := bt_range key (16 + (i : Int))
    have e1 : tsum z key (tcar z key i) i = tcar z key i + (vbyte (val z) i + bt key (16 + (i : Int))) := by
      unfold tsum
      rw [half_law z hz i (by omega), w64_in (bt key (16 + (i : Int))) hk2.1 (by omega), w64_in (vbyte (val z) i + bt key (16 + (i : Int))) (by omega) (by omega), w64_in _ (by omega) (by omega)]
    have e2 : rsum z (key.extract 16 key.size) (tcar z key i) i = tcar z key i + (vbyte (val z) i + bt key (16 + (i : Int))) := by
      unfold rsum
      rw [rbyte_whole z hz i (by omega), back_at key hk i (by omega), w64_small (n := tcar z key i + vbyte (val z) i) (by omega) (by omega), w64_small (by omega) (by omega)]
      omega
    refine ⟨?_, ?_, ?_⟩
    · rw [tout, rout, h1, ← h2, e1, e2, w8, w8, and255_i64 _ (by omega) (by omega)]
      congr 1
      omega
    · rw [tcar, rcar, ← h2, e1, e2]
    · rw [tcar, e1]
      omega
/-- The program's tag is the document's. -/
theorem mac_law (key s : ByteArray) (hk : key.size = 32) : macOf key s = rpoly key s := by
  obtain ⟨x, e, hx, hr, hv⟩ := sums_law key s hk ((s.size + 15) / 16) (Nat.le_refl _)
  have hw := whole_law x hx
  have hl := least_law (rsteps key s ((s.size + 15) / 16)) hr
  have hz : wholed x = rleast (rsteps key s ((s.size + 15) / 16)) := full_eq hw.1 hl.1 (by rw [hw.2, hl.2, hv])
  have hd : ((rOf key ++ x).drop 5).take 5 = x := by
    rw [List.drop_left' (rOf_length key)]
    obtain ⟨a, b, c, d, f, rfl, _⟩ := hx
    rfl
  unfold macOf tagged rpoly rfinish
  rw [e, hd, hz, (tags_law _ hl.1 key hk 16 (Nat.le_refl _)).1]
end Go.Proofs.Ytocckplgjbhlbaa.PureP
