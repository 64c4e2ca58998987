/- Masks of numbers and small words: plain laws. Conditions: none. -/
import Derived.Test.YtocckplgjbhlbaaPu0
import Derived.Test.YtocckplgjbhlbaaPolB
namespace Go.Proofs.Ytocckplgjbhlbaa.PureP
open Go.RowKit Go.Proofs.Ytocckplgjbhlbaa.Cha Go.Proofs.YtocckplgjbhlbaaW.PrintWords Go.Proofs.YtocckplgjbhlbaaW.PrintLast
set_option linter.unusedVariables false
theorem bindE {α β : Type} {x : Option α} {f : α → Option β} {a : α} {r : Option β} (h : x = some a) (k : f a = r) : x.bind f = r := by rw [h]; exact k
theorem w64_small {n : Int} (h0 : 0 ≤ n) (h1 : n < 9223372036854775808) : wrap64 n = n := by unfold wrap64; omega
theorem wraps_i64 : ∀ n : Int, 0 ≤ n → n < 2 ^ 63 → IntKind.i64.wrap n = n := by
  intro n h0 h1
  simp only [IntKind.wrap, IntKind.bits, IntKind.signed]
  have : (2 : Int) ^ 63 = 9223372036854775808 := by decide
  simp
  omega
theorem toNat_ofInt64 (x : Int) : (BitVec.ofInt 64 x).toNat = (x % 18446744073709551616).toNat := by
  rw [BitVec.toNat_ofInt]
  have : ((2 ^ 64 : Nat) : Int) = 18446744073709551616 := rfl
  rw [this]
theorem and_mask (x : Int) (i : Nat) (hi : i ≤ 62) : Go.bits .and .i64 x ((2 ^ i - 1 : Nat) : Int) = x % ((2 ^ i : Nat) : Int) := by
  have hp : 0 < 2 ^ i := Nat.two_pow_pos i
  have hq : 2 ^ i ≤ 4611686018427387904 := by
    have : (4611686018427387904 : Nat) = 2 ^ 62 := by decide
    rw [this]; exact Nat.pow_le_pow_right (by decide) hi
  have hd : ((2 ^ i : Nat) : Int) ∣ 18446744073709551616 := by
    have h1 : (2 ^ i : Nat) ∣ 2 ^ 64 := Nat.pow_dvd_pow 2 (by omega)
    have h2 : ((2 ^ 64 : Nat) : Int) = 18446744073709551616 := rfl
    rw [← h2]
    exact Int.natCast_dvd_natCast.mpr h1
  have e2 : (BitVec.ofInt 64 x &&& BitVec.ofInt 64 ((2 ^ i - 1 : Nat) : Int)).toNat = (x % 18446744073709551616).toNat % 2 ^ i := by
    have hm : 2 ^ i - 1 < 2 ^ 64 := by
      have : (2 : Nat) ^ 64 = 18446744073709551616 := by decide
      omega
    rw [BitVec.toNat_and, BitVec.ofInt_natCast, BitVec.toNat_ofNat, Nat.mod_eq_of_lt hm, toNat_ofInt64, Nat.and_two_pow_sub_one_eq_mod]
  have e0 : Go.bits .and .i64 x ((2 ^ i - 1 : Nat) : Int) = IntKind.i64.wrap (((BitVec.ofInt 64 x &&& BitVec.ofInt 64 ((2 ^ i - 1 : Nat) : Int)).toNat : Nat) : Int) := rfl
  rw [e0, e2]
  generalize 2 ^ i = m at *
  have hb := Int.emod_nonneg x (b := (m : Int)) (by omega)
  have hl := Int.emod_lt_of_pos x (b := (m : Int)) (by omega)
  have hn := Int.emod_nonneg x (b := 18446744073709551616) (by decide)
  have hz := Int.emod_emod_of_dvd x hd
  rw [Int.natCast_emod, Int.toNat_of_nonneg hn, hz, wraps_i64 _ hb (by omega)]
theorem and_255 (x : Int) : Go.bits .and .i64 x 255 = x % 256 := and_mask x 8 (by decide)
theorem and_7 (x : Int) : Go.bits .and .i64 x 7 = x % 8 := and_mask x 3 (by decide)
theorem u64_wrap (n : Int) : IntKind.u64.wrap n = n % 18446744073709551616 := by simp [IntKind.wrap, IntKind.bits, IntKind.signed]
theorem and_32 (x : Int) : Go.bits .and .i64 x 4294967295 = x % 4294967296 := and_mask x 32 (by decide)
theorem and_63 (x : Int) : Go.bits .and .i64 x 63 = x % 64 := and_mask x 6 (by decide)
theorem and_127 (x : Int) : Go.bits .and .i64 x 127 = x % 128 := and_mask x 7 (by decide)
open Go.Proofs.Ytocckplgjbhlbaa.Pol
theorem bytesOf_strOfNums (xs : List Int) (h : ∀ x ∈ xs, 0 ≤ x ∧ x < 256) : bytesOf (strOfNums xs) = xs := by
  unfold bytesOf strOfNums
  rw [List.map_map]
  refine Eq.trans (List.map_congr_left fun x hx => ?_) (List.map_id xs)
  obtain ⟨h0, h1⟩ := h x hx
  have : x.toNat < 256 := by omega
  simp only [Function.comp, UInt8.toNat_ofNat', Nat.reducePow]
  show ((x.toNat % 256 : Nat) : Int) = x
  omega
theorem bytesOf_range (s : ByteArray) : ∀ x ∈ bytesOf s, 0 ≤ x ∧ x < 256 := by
  intro x hx
  obtain ⟨b, _, rfl⟩ := List.mem_map.1 hx
  have := b.toNat_lt
  omega
theorem strOfNums_bytesOf (s : ByteArray) : strOfNums (bytesOf s) = s := by
  refine bytes_ext ?_
  rw [strOfNums_data, bytesOf, List.map_map]
  refine Eq.trans (List.map_congr_left fun x hx => ?_) (List.map_id _)
  simp
theorem gx_range (xs : List Int) (h : ∀ x ∈ xs, 0 ≤ x ∧ x < 256) (j : Nat) : 0 ≤ gx xs j ∧ gx xs j < 256 := by
  unfold gx
  rw [List.getD_eq_getElem?_getD]
  cases e : xs[j]? with
  | none => exact ⟨by simp, by simp⟩
  | some v => exact h v (List.mem_of_getElem? e)
theorem turned_range (key nonce s : ByteArray) : ∀ x ∈ turned key nonce s, 0 ≤ x ∧ x < 256 := by
  intro x hx
  unfold turned xr at hx
  obtain ⟨j, _, rfl⟩ := List.mem_map.1 hx
  have hg := gx_range _ (bytesOf_range s) j
  split
  · have hk := kb_range key nonce 1 j
    rw [u8_xor _ _ hg.1 hg.2 hk.1 hk.2]
    have h1 := @Nat.xor_lt_two_pow (gx (bytesOf s) j).toNat (kb key nonce 1 j).toNat 8 (by omega) (by omega)
    omega
  · exact hg
theorem bytes_xorOut (key nonce s : ByteArray) : bytesOf (xorOut key nonce 1 s) = turned key nonce s := by
  have : xorOut key nonce 1 s = strOfNums (turned key nonce s) := rfl
  rw [this]
  exact bytesOf_strOfNums _ (turned_range key nonce s)
theorem front_append (a b : ByteArray) (h : b.size = 16) : front (a ++ b) = a := by
  refine bytes_ext ?_
  rw [front, data_extract, data_append, List.drop_zero, ByteArray.size_append, h, Nat.add_sub_cancel, ← size_list, List.take_left]
theorem back_append (a b : ByteArray) (h : b.size = 16) : back (a ++ b) = b := by
  refine bytes_ext ?_
  have e : (a ++ b).size = (a.data.toList ++ b.data.toList).length := by rw [List.length_append, size_list, size_list, ByteArray.size_append]
  rw [back, data_extract, data_append, ByteArray.size_append, h, Nat.add_sub_cancel, ← h, ← ByteArray.size_append, e, List.take_length, ← size_list, List.drop_left]
theorem sealed_size (key nonce aad s : ByteArray) : (sealedOf key nonce aad s).size = s.size + 16 := by rw [sealedOf, ByteArray.size_append, xorOut_size, tagOf_size]
/-- What was sealed is opened. -/
theorem sealed_fits (key nonce aad s : ByteArray) : Fits key nonce aad (sealedOf key nonce aad s) := by
  unfold Fits
  rw [sealedOf, front_append _ _ (tagOf_size _ _ _ _), back_append _ _ (tagOf_size _ _ _ _), bytes_xorOut]
theorem sealed_opened (key nonce aad s : ByteArray) : xorOut key nonce 1 (front (sealedOf key nonce aad s)) = s := by
  rw [sealedOf, front_append _ _ (tagOf_size _ _ _ _), xorOut_twice]
theorem seed_key (y : List Int) (h : y.length = 44) : (strOfNums (y.take 32)).size = 32 := by rw [strOfNums_size_, List.length_take]; omega
theorem seed_nonce (y : List Int) (h : y.length = 44) : (strOfNums (y.drop 32)).size = 12 := by rw [strOfNums_size_, List.length_drop]; omega
end Go.Proofs.Ytocckplgjbhlbaa.PureP
