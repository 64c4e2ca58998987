/- chacha's stream as bytes: plain laws without a program. Conditions: none. -/
import Derived.Test.YtocckplgjbhlbaaXor
namespace Go.Proofs.Ytocckplgjbhlbaa.Cha
open Go.RowKit Go.Proofs.YtocckplgjbhlbaaW.PrintWords Go.Proofs.Ytocckplgjbhlbaa.X
set_option linter.unusedVariables false
theorem getD_mapRange {α : Type} (f : Nat → α) (n j : Nat) (d : α) (h : j < n) : ((List.range n).map f).getD j d = f j := by
  rw [List.getD_eq_getElem?_getD]
  simp [h]
theorem list_mapRange {α : Type} (l : List α) (d : α) : (List.range l.length).map (fun j => l.getD j d) = l := by
  refine List.ext_getElem (by simp) fun i h1 h2 => ?_
  simp [List.getD_eq_getElem?_getD, h2]
theorem bytes_ext {a b : ByteArray} (h : a.data.toList = b.data.toList) : a = b := by
  cases a; cases b
  exact congrArg ByteArray.mk (Array.toList_inj.mp h)
theorem gx_outs (x y : List Int) (j : Nat) (hj : j < 64) : ∀ n, gx (outs x y n) j = if j < n then outByte x y j else 0
  | 0 => by
    rw [if_neg (by omega)]
    unfold outs gx
    rw [List.getD_eq_getElem?_getD, List.getElem?_replicate, if_pos hj]
    rfl
  | n + 1 => by
    have ih := gx_outs x y j hj n
    have hl := outs_length x y n
    by_cases he : n = j
    · subst he
      rw [if_pos (by omega)]
      simp [outs, gx, List.getD_eq_getElem?_getD, hl, hj]
    · have e1 : gx (outs x y (n + 1)) j = gx (outs x y n) j := by simp [outs, gx, List.getD_eq_getElem?_getD, he]
      rw [e1, ih]
      by_cases h2 : j < n
      · rw [if_pos h2, if_pos (by omega)]
      · rw [if_neg h2, if_neg (by omega)]
theorem strm_range (key nonce : ByteArray) (c : Int) (q j : Nat) (hj : j < 64) : 0 ≤ gx (strm key nonce c q) j ∧ gx (strm key nonce c q) j < 256 := by
  unfold strm
  rw [gx_outs _ _ j hj 64, if_pos hj]
  unfold outByte
  omega
theorem kb_range (key nonce : ByteArray) (c : Int) (j : Nat) : 0 ≤ kb key nonce c j ∧ kb key nonce c j < 256 := strm_range _ _ _ _ _ (by omega)
def kbU (key nonce : ByteArray) (c : Int) (j : Nat) : UInt8 := UInt8.ofNat (kb key nonce c j).toNat
theorem xor_byte (a : UInt8) (b : Int) (h0 : 0 ≤ b) (h1 : b < 256) : UInt8.ofNat (Go.bits .xor .u8 (a.toNat : Int) b).toNat = a ^^^ UInt8.ofNat b.toNat := by
  have := a.toNat_lt
  rw [u8_xor (a.toNat : Int) b (by omega) (by omega) h0 h1, Int.toNat_natCast, Int.toNat_natCast, UInt8.ofNat_xor, UInt8.ofNat_toNat]
theorem xorOut_list (key nonce : ByteArray) (c : Int) (s : ByteArray) : (xorOut key nonce c s).data.toList = (List.range s.size).map fun j => s.data.toList.getD j 0 ^^^ kbU key nonce c j := by
  unfold xorOut
  rw [strOfNums_data, xr, List.map_map, bytesOf_length]
  refine List.map_congr_left fun j hj => ?_
  have hj := List.mem_range.mp hj
  simp only [Function.comp, if_pos hj]
  rw [gx_bytesOf]
  exact xor_byte _ _ (kb_range key nonce c j).1 (kb_range key nonce c j).2
theorem size_list (s : ByteArray) : s.data.toList.length = s.size := rfl
theorem xorOut_size (key nonce : ByteArray) (c : Int) (s : ByteArray) : (xorOut key nonce c s).size = s.size := by
  rw [← size_list, xorOut_list]; simp
theorem xorOut_twice (key nonce : ByteArray) (c : Int) (s : ByteArray) : xorOut key nonce c (xorOut key nonce c s) = s := by
  refine bytes_ext ?_
  rw [xorOut_list, xorOut_size, xorOut_list, ← size_list]
  refine Eq.trans (List.map_congr_left fun j hj => ?_) (list_mapRange s.data.toList 0)
  have hj := List.mem_range.mp hj
  rw [getD_mapRange _ _ _ _ hj, UInt8.xor_assoc, UInt8.xor_self, UInt8.xor_zero]
theorem strm_shift (key nonce : ByteArray) (c : Int) (b q : Nat) : strm key nonce ((c + (b : Int)) % 4294967296) q = strm key nonce c (b + q) := by
  unfold strm
  have e : ((c + (b : Int)) % 4294967296 + (q : Int)) % 4294967296 = (c + ((b + q : Nat) : Int)) % 4294967296 := by omega
  rw [e]
theorem kb_shift (key nonce : ByteArray) (c : Int) (b j : Nat) : kb key nonce ((c + (b : Int)) % 4294967296) j = kb key nonce c (64 * b + j) := by
  unfold kb
  rw [strm_shift, show (64 * b + j) / 64 = b + j / 64 by omega, show (64 * b + j) % 64 = j % 64 by omega]
theorem data_append (a b : ByteArray) : (a ++ b).data.toList = a.data.toList ++ b.data.toList := by simp
theorem data_extract (s : ByteArray) (i j : Nat) : (s.extract i j).data.toList = (s.data.toList.take j).drop i := by
  simp [List.drop_take]
theorem xorOut_cut (key nonce : ByteArray) (c : Int) (s : ByteArray) (b : Nat) (hb : 64 * b ≤ s.size) : xorOut key nonce c (s.extract 0 (64 * b)) ++ xorOut key nonce ((c + (b : Int)) % 4294967296) (s.extract (64 * b) s.size) = xorOut key nonce c s := by
  refine bytes_ext ?_
  rw [data_append, xorOut_list, xorOut_list, xorOut_list, data_extract, data_extract, ByteArray.size_extract, ByteArray.size_extract, List.drop_zero, Nat.min_eq_left hb, Nat.min_self, Nat.sub_zero]
  rw [show s.data.toList.take s.size = s.data.toList from List.take_length]
  refine List.ext_getElem (by simp; omega) fun i h1 h2 => ?_
  rw [List.getElem_append]
  by_cases h : i < 64 * b
  · simp [h, List.getD_eq_getElem?_getD, List.getElem?_take]
  · have e : kbU key nonce ((c + (b : Int)) % 4294967296) (i - 64 * b) = kbU key nonce c i := by
      unfold kbU
      rw [kb_shift, show 64 * b + (i - 64 * b) = i by omega]
    have e2 : 64 * b + (i - 64 * b) = i := by omega
    simp [h, List.getD_eq_getElem?_getD, List.getElem?_drop, e, e2]
theorem blk_list (key nonce : ByteArray) (c : Int) (hc : 0 ≤ c) (hc2 : c < 4294967296) : (strOfNums (blkNums key c nonce)).data.toList = (List.range 64).map fun j => kbU key nonce c j := by
  have e0 : (c + ((0 : Nat) : Int)) % 4294967296 = c := by omega
  have e : blkNums key c nonce = strm key nonce c 0 := by unfold strm blkNums; rw [e0]
  rw [e, strOfNums_data]
  refine List.ext_getElem (by simp [strm_length]) fun i h1 h2 => ?_
  have hi : i < 64 := by simpa using h2
  have hk := kb_at key nonce c 0 i hi
  have hg : gx (strm key nonce c 0) i = (strm key nonce c 0)[i]'(by rw [strm_length]; exact hi) := by
    unfold gx
    rw [List.getD_eq_getElem?_getD, List.getElem?_eq_getElem (by rw [strm_length]; exact hi)]
    rfl
  simp only [List.getElem_map, List.getElem_range]
  unfold kbU
  rw [← hg, ← hk, Nat.mul_zero, Nat.zero_add]
end Go.Proofs.Ytocckplgjbhlbaa.Cha
