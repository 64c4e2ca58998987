/- ChachaForms, the plain law. Conditions: none. -/
import Derived.Test.YtocckplgjbhlbaaPu0
import Derived.Test.YtocckplgjbhlbaaVx2
namespace Go.Proofs.Ytocckplgjbhlbaa.Pure
open Go.RowKit Go.Proofs.Ytocckplgjbhlbaa.V Go.Proofs.Ytocckplgjbhlbaa.Cha Go.Proofs.YtocckplgjbhlbaaW.PrintWords Go.Proofs.YtocckplgjbhlbaaW.PrintLast
set_option linter.unusedVariables false
theorem num_f (e : Int) : halberdlaw0_Num.f e = some e := rfl
theorem aw : halberdlaw6_awake.f = some true := rfl
theorem wrap_small {n : Int} (h0 : 0 ≤ n) (h1 : n < 9223372036854775808) : wrap64 n = n := by unfold wrap64; omega
theorem bindE {α β : Type} {x : Option α} {f : α → Option β} {a : α} {r : Option β} (h : x = some a) (k : f a = r) : x.bind f = r := by rw [h]; exact k
theorem wraps_i64 : ∀ n : Int, 0 ≤ n → n < 2 ^ 63 → IntKind.i64.wrap n = n := by
  intro n h0 h1
  simp only [IntKind.wrap, IntKind.bits, IntKind.signed]
  have : (2 : Int) ^ 63 = 9223372036854775808 := by decide
  simp
  omega
theorem toNat_ofInt64 (x : Int) : (BitVec.ofInt 64 x).toNat = (x % 18446744073709551616).toNat := by
  rw [BitVec.toNat_ofInt]
  have : ((2 ^ 64 : Nat) : Int) = 18446744073709551616 := rfl
  rw [this]
theorem and_mask (x : Int) (i : Nat) (hi : i ≤ 62) : Go.bits .and .i64 x ((2 ^ i - 1 : Nat) : Int) = x % ((2 ^ i : Nat) : Int) := by
  have hp : 0 < 2 ^ i := Nat.two_pow_pos i
  have hq : 2 ^ i ≤ 4611686018427387904 := by
    have : (4611686018427387904 : Nat) = 2 ^ 62 := by decide
    rw [this]; exact Nat.pow_le_pow_right (by decide) hi
  have hd : ((2 ^ i : Nat) : Int) ∣ 18446744073709551616 := by
    have h1 : (2 ^ i : Nat) ∣ 2 ^ 64 := Nat.pow_dvd_pow 2 (by omega)
    have h2 : ((2 ^ 64 : Nat) : Int) = 18446744073709551616 := rfl
    rw [← h2]
    exact Int.natCast_dvd_natCast.mpr h1
  have e2 : (BitVec.ofInt 64 x &&& BitVec.ofInt 64 ((2 ^ i - 1 : Nat) : Int)).toNat = (x % 18446744073709551616).toNat % 2 ^ i := by
    have hm : 2 ^ i - 1 < 2 ^ 64 := by
      have : (2 : Nat) ^ 64 = 18446744073709551616 := by decide
      omega
    rw [BitVec.toNat_and, BitVec.ofInt_natCast, BitVec.toNat_ofNat, Nat.mod_eq_of_lt hm, toNat_ofInt64, Nat.and_two_pow_sub_one_eq_mod]
  have e0 : Go.bits .and .i64 x ((2 ^ i - 1 : Nat) : Int) = IntKind.i64.wrap (((BitVec.ofInt 64 x &&& BitVec.ofInt 64 ((2 ^ i - 1 : Nat) : Int)).toNat : Nat) : Int) := rfl
  rw [e0, e2]
  generalize 2 ^ i = m at *
  have hb := Int.emod_nonneg x (b := (m : Int)) (by omega)
  have hl := Int.emod_lt_of_pos x (b := (m : Int)) (by omega)
  have hn := Int.emod_nonneg x (b := 18446744073709551616) (by decide)
  have hz := Int.emod_emod_of_dvd x hd
  rw [Int.natCast_emod, Int.toNat_of_nonneg hn, hz, wraps_i64 _ hb (by omega)]
theorem and_7 (x : Int) : Go.bits .and .i64 x 7 = x % 8 := and_mask x 3 (by decide)
theorem fo_of (k : Nat) (c : Int) (K M : Nat) (hK : K < 100) (hM : M < 100) (x9 : Bool) (e : Int) (b1 b2 b3 : ByteArray)
    (h1 : chacha_Block.f (strOfNums (List.replicate K 0)) c (strOfNums (List.replicate M 0)) = some (b1, e))
    (h2 : chacha_Xor.f (strOfNums (List.replicate K 0)) c (strOfNums (List.replicate M 0)) (⟨#[97]⟩ : ByteArray) = some (b2, e))
    (h3 : chacha_Xor.f (strOfNums (List.replicate 32 0)) 0 (strOfNums (List.replicate 12 0)) (strOfNums (List.replicate 65537 0)) = some (b3, 600))
    (he : (x9 = true ∧ e = 0) ∨ (x9 = false ∧ e = 600)) : halberdlaw6_ChachaForms.j0 (k + 1) c (K : Int) (M : Int) x9 = some true := by
  rw [halberdlaw6_ChachaForms.j0, if_pos (by omega), Int.toNat_natCast, if_pos (by omega), if_pos (by omega), Int.toNat_natCast, if_pos (by omega)]
  refine bindE h1 (bindE h2 ?_)
  rw [if_pos (by omega), if_pos (by omega), if_pos (by omega)]
  refine bindE h3 ?_
  rcases he with ⟨rfl, rfl⟩ | ⟨rfl, rfl⟩
  · refine bindE (num_f 0) ?_
    rw [if_pos rfl, if_pos rfl]
    refine bindE (num_f 0) ?_
    rw [if_pos rfl]
    exact bindE (num_f 600) rfl
  · refine bindE (num_f 600) ?_
    rw [if_neg (by decide), if_neg (by decide)]
    refine bindE (num_f 600) ?_
    rw [if_neg (by decide)]
    refine bindE (num_f 600) ?_
    rw [if_pos rfl]
    refine bindE (num_f 600) ?_
    rw [if_pos rfl]
    exact bindE (num_f 600) rfl
theorem zs_size (n : Nat) : (strOfNums (List.replicate n 0)).size = n := by rw [strOfNums_size, List.length_replicate]
theorem fo_long : chacha_Xor.f (strOfNums (List.replicate 32 0)) 0 (strOfNums (List.replicate 12 0)) (strOfNums (List.replicate 65537 0)) = some (ByteArray.empty, 600) := by
  unfold chacha_Xor.f
  rw [if_neg (fun h => by have := h.2; rw [zs_size] at this; omega)]
theorem fo_yes (k : Nat) (c : Int) (h0 : 0 ≤ c) (h1 : c ≤ 4294967295) : halberdlaw6_ChachaForms.j0 (k + 1) c ((32 : Nat) : Int) ((12 : Nat) : Int) true = some true := by
  have hM : May (strOfNums (List.replicate 32 0)) c (strOfNums (List.replicate 12 0)) := ⟨zs_size 32, h0, h1, zs_size 12⟩
  refine fo_of k c 32 12 (by omega) (by omega) true 0 _ _ _ (by unfold chacha_Block.f; rw [if_pos hM]) (by unfold chacha_Xor.f; rw [if_pos ⟨hM, by decide⟩]) fo_long (Or.inl ⟨rfl, rfl⟩)
theorem fo_no (k : Nat) (c : Int) (K M : Nat) (hK : K < 100) (hM : M < 100) (h : ¬ (K = 32 ∧ M = 12 ∧ 0 ≤ c ∧ c ≤ 4294967295)) : halberdlaw6_ChachaForms.j0 (k + 1) c (K : Int) (M : Int) false = some true := by
  have hN : ¬ May (strOfNums (List.replicate K 0)) c (strOfNums (List.replicate M 0)) := fun ⟨a, b, d, e⟩ => h ⟨by rw [zs_size] at a; exact a, by rw [zs_size] at e; exact e, b, d⟩
  refine fo_of k c K M hK hM false 600 _ _ _ (by unfold chacha_Block.f; rw [if_neg hN]) (by unfold chacha_Xor.f; rw [if_neg (fun q => hN q.1)]) fo_long (Or.inr ⟨rfl, rfl⟩)
theorem ChachaForms : halberdlaw6_ChachaForms.Pure := by
  intro a0 a1 a2 _ _ _
  refine ⟨0 + 1, ?_⟩
  obtain ⟨K, hK, hK1⟩ : ∃ K : Nat, wrap64 (28 + (Go.bits .and .i64 a0 7)) = (K : Int) ∧ K < 100 := by
    rw [and_7, wrap_small (by omega) (by omega)]
    exact ⟨(28 + a0 % 8).toNat, by omega, by omega⟩
  obtain ⟨M, hM, hM1⟩ : ∃ M : Nat, wrap64 (8 + (Go.bits .and .i64 a2 7)) = (M : Int) ∧ M < 100 := by
    rw [and_7, wrap_small (by omega) (by omega)]
    exact ⟨(8 + a2 % 8).toNat, by omega, by omega⟩
  unfold halberdlaw6_ChachaForms.f
  refine bindE aw ?_
  rw [if_pos rfl, hK, hM]
  by_cases c1 : (K : Int) = 32
  · rw [if_pos c1]
    by_cases c2 : (M : Int) = 12
    · rw [if_pos c2]
      by_cases c3 : a1 ≥ 0
      · rw [if_pos c3]
        by_cases c4 : a1 ≤ 4294967295
        · rw [decide_eq_true c4]
          obtain rfl : K = 32 := by omega
          obtain rfl : M = 12 := by omega
          exact fo_yes 0 a1 c3 c4
        · rw [decide_eq_false c4]
          exact fo_no 0 a1 K M hK1 hM1 (fun h => c4 h.2.2.2)
      · rw [if_neg c3]
        exact fo_no 0 a1 K M hK1 hM1 (fun h => c3 h.2.2.1)
    · rw [if_neg c2]
      exact fo_no 0 a1 K M hK1 hM1 (fun h => c2 (by omega))
  · rw [if_neg c1]
    exact fo_no 0 a1 K M hK1 hM1 (fun h => c1 (by omega))
end Go.Proofs.Ytocckplgjbhlbaa.Pure
