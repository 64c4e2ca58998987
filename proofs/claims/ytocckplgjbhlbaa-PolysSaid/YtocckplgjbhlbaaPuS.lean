/- The document's stream answers as chacha's: plain laws of the printed functions of group R. Conditions: none. -/
import Derived.Test.YtocckplgjbhlbaaPu0
import Derived.Test.YtocckplgjbhlbaaRx3
namespace Go.Proofs.Ytocckplgjbhlbaa.PureR
open Go.RowKit Go.Proofs.Ytocckplgjbhlbaa.R Go.Proofs.Ytocckplgjbhlbaa.Cha Go.Proofs.YtocckplgjbhlbaaW.PrintWords Go.Proofs.YtocckplgjbhlbaaW.PrintLast
set_option linter.unusedVariables false
def sr (key nonce : ByteArray) (c : Int) (s : ByteArray) (m : Nat) : List Int := (List.range s.size).map fun j => if j < m then Go.bits .xor .u8 (gx (bytesOf s) j) (kb key nonce c j) else 0
theorem sr_length (key nonce : ByteArray) (c : Int) (s : ByteArray) (m : Nat) : (sr key nonce c s m).length = s.size := by simp [sr]
theorem sr_zero (key nonce : ByteArray) (c : Int) (s : ByteArray) : sr key nonce c s 0 = List.replicate s.size 0 := by
  refine List.ext_getElem (by simp [sr]) fun i h1 h2 => ?_
  simp [sr]
theorem sr_step (key nonce : ByteArray) (c : Int) (s : ByteArray) (m : Nat) (hm : m < s.size) : (sr key nonce c s m).set m (Go.bits .xor .u8 (gx (bytesOf s) m) (kb key nonce c m)) = sr key nonce c s (m + 1) := by
  refine List.ext_getElem (by simp [sr]) fun i h1 h2 => ?_
  rw [List.getElem_set]
  by_cases he : m = i
  · subst he
    simp [sr]
  · rw [if_neg he]
    have : (i < m) = (i < m + 1) := by apply propext; omega
    simp [sr, this]
theorem sr_all (key nonce : ByteArray) (c : Int) (s : ByteArray) : strOfNums (sr key nonce c s s.size) = xorOut key nonce c s := by
  unfold xorOut
  congr 1
  unfold sr xr
  rw [bytesOf_length]
  refine List.map_congr_left fun j hj => ?_
  have hj := List.mem_range.mp hj
  rw [if_pos hj, if_pos hj]
theorem bt_gx (s : ByteArray) (j : Nat) : bt s (j : Int) = gx (bytesOf s) j := by
  rw [← rd_bytesOf]
  unfold rd gx
  rw [Int.toNat_natCast]
theorem bt_strm (key nonce : ByteArray) (c : Int) (q j : Nat) (hj : j < 64) : bt (strOfNums (strm key nonce c q)) (j : Int) = gx (strm key nonce c q) j := by
  have hr := strm_range key nonce c q j hj
  have hl := strm_length key nonce c q
  rw [bt_gx]
  unfold gx bytesOf at *
  rw [strOfNums_data, List.map_map, List.getD_eq_getElem?_getD, List.getElem?_map]
  rw [List.getD_eq_getElem?_getD, List.getElem?_eq_getElem (by omega)] at hr ⊢
  simp only [Option.map_some, Option.getD_some, Function.comp, UInt8.toNat_ofNat'] at hr ⊢
  omega
theorem wrap_small {n : Int} (h0 : 0 ≤ n) (h1 : n < 9223372036854775808) : wrap64 n = n := by unfold wrap64; omega
theorem l1_run (key nonce : ByteArray) (c : Int) (s : ByteArray) (hs : s.size ≤ 65536) (q : Nat) (hq : 64 * q < s.size) : ∀ d j : Nat, j + d = 64 → ∃ n, ∀ k, halberdref4_stream.l1 (k + n) key c nonce s (sr key nonce c s (min (64 * q + j) s.size)) ((64 * q : Nat) : Int) (strOfNums (strm key nonce c q)) (j : Int) = halberdref4_stream.l0 k key c nonce s (sr key nonce c s (min (64 * (q + 1)) s.size)) ((64 * (q + 1) : Nat) : Int)
  | 0, j, hj => by
    obtain rfl : j = 64 := by omega
    refine ⟨1, fun k => ?_⟩
    have hw : wrap64 (((64 * q : Nat) : Int) + 64) = ((64 * (q + 1) : Nat) : Int) := by rw [wrap_small (by omega) (by omega)]; omega
    rw [halberdref4_stream.l1, if_neg (by omega), hw]
    rfl
  | d + 1, j, hj => by
    have hw2 : wrap64 (((64 * q : Nat) : Int) + 64) = ((64 * (q + 1) : Nat) : Int) := by rw [wrap_small (by omega) (by omega)]; omega
    have hw : wrap64 (((64 * q : Nat) : Int) + (j : Int)) = ((64 * q + j : Nat) : Int) := by rw [wrap_small (by omega) (by omega)]; omega
    have hw3 : wrap64 ((j : Int) + 1) = ((j + 1 : Nat) : Int) := by rw [wrap_small (by omega) (by omega)]; omega
    by_cases h : 64 * q + j < s.size
    · obtain ⟨n, ih⟩ := l1_run key nonce c s hs q hq d (j + 1) (by omega)
      refine ⟨n + 1, fun k => ?_⟩
      have hz : (strOfNums (strm key nonce c q)).size = 64 := by rw [strOfNums_size, strm_length]
      rw [← Nat.add_assoc, halberdref4_stream.l1, hw, if_pos (by omega), if_pos (by omega), if_pos (by omega), if_pos (by omega), if_pos (by rw [hz]; omega), if_pos (by rw [sr_length]; omega), Int.toNat_natCast, bt_gx, bt_strm _ _ _ _ _ (by omega), hw3, ← ih]
      rw [Nat.min_eq_left (by omega), Nat.min_eq_left (by omega), ← kb_at key nonce c q j (by omega), sr_step _ _ _ _ _ h]
      rfl
    · refine ⟨1, fun k => ?_⟩
      rw [halberdref4_stream.l1, hw, if_pos (by omega), if_neg (by omega), hw2, Nat.min_eq_right (by omega), Nat.min_eq_right (by omega)]
theorem chacha_f (key nonce : ByteArray) (hk : key.size = 32) (hn : nonce.size = 12) (c : Int) (q : Nat) (hq : q ≤ 65536) : halberdref4_chacha.f key ((c + ((wrap64 (Int.tdiv ((64 * q : Nat) : Int) 64)) % 4294967296)) % 4294967296) nonce = some (strOfNums (strm key nonce c q)) := by
  have h1 : Int.tdiv ((64 * q : Nat) : Int) 64 = (q : Int) := by rw [Int.tdiv_eq_ediv_of_nonneg (by omega)]; omega
  have h2 : (c + ((q : Int) % 4294967296)) % 4294967296 = (c + (q : Int)) % 4294967296 := by omega
  rw [h1, wrap_small (by omega) (by omega), h2]
  unfold halberdref4_chacha.f
  rw [if_pos ⟨hk, hn⟩]
  rfl
theorem l0_run (key nonce : ByteArray) (hk : key.size = 32) (hn : nonce.size = 12) (c : Int) (s : ByteArray) (hs : s.size ≤ 65536) : ∀ d q : Nat, s.size ≤ 64 * (q + d) → q ≤ 65536 → ∃ n, ∀ k, halberdref4_stream.l0 (k + n) key c nonce s (sr key nonce c s (min (64 * q) s.size)) ((64 * q : Nat) : Int) = some (xorOut key nonce c s)
  | 0, q, hd, hq => by
    refine ⟨1, fun k => ?_⟩
    rw [halberdref4_stream.l0, if_neg (by omega), Nat.min_eq_right (by omega), sr_all]
  | d + 1, q, hd, hq => by
    by_cases h : 64 * q < s.size
    · obtain ⟨n1, h1⟩ := l1_run key nonce c s hs q h 64 0 (by omega)
      obtain ⟨n2, h2⟩ := l0_run key nonce hk hn c s hs d (q + 1) (by omega) (by omega)
      refine ⟨n2 + n1 + 1, fun k => ?_⟩
      have e1 := h1 (k + n2)
      rw [h2 k] at e1
      rw [show k + (n2 + n1 + 1) = (k + n2 + n1) + 1 by omega, halberdref4_stream.l0, if_pos (by omega), chacha_f key nonce hk hn c q hq]
      exact e1
    · refine ⟨1, fun k => ?_⟩
      rw [halberdref4_stream.l0, if_neg (by omega), Nat.min_eq_right (by omega), sr_all]
theorem stream_f (key nonce : ByteArray) (hk : key.size = 32) (hn : nonce.size = 12) (c : Int) (s : ByteArray) (hs : s.size ≤ 65536) : ∃ k, halberdref4_stream.f k key c nonce s = some (xorOut key nonce c s) := by
  obtain ⟨n, h⟩ := l0_run key nonce hk hn c s hs 1024 0 (by omega) (by omega)
  refine ⟨0 + n, ?_⟩
  have h := h 0
  rw [Nat.mul_zero, Nat.zero_min, sr_zero] at h
  unfold halberdref4_stream.f
  rw [if_pos (by omega), Int.toNat_natCast, if_pos (by omega)]
  exact h
end Go.Proofs.Ytocckplgjbhlbaa.PureR
