/- ChachaBlocks, the plain law. Conditions: none. -/
import Derived.Test.YtocckplgjbhlbaaPu2
import Derived.Test.YtocckplgjbhlbaaZx5
namespace Go.Proofs.Ytocckplgjbhlbaa.Pure
open Go.RowKit Go.Proofs.Ytocckplgjbhlbaa.Z Go.Proofs.Ytocckplgjbhlbaa.Cha Go.Proofs.YtocckplgjbhlbaaW.PrintWords Go.Proofs.YtocckplgjbhlbaaW.PrintLast
set_option linter.unusedVariables false
theorem bl_l0 (a0 : ByteArray) (a1 a2 : Int) : ∀ (d i : Nat) (x : List Int), i + d = 44 → x.length = 44 → ∃ n y, y.length = 44 ∧ ∀ k, halberdlaw6_ChachaBlocks.l0 (k + n) a0 a1 a2 x (i : Int) = halberdlaw6_ChachaBlocks.j1 k a1 a2 y
  | 0, i, x, hd, hx => ⟨1, x, hx, fun k => by rw [halberdlaw6_ChachaBlocks.l0, if_neg (by omega)]⟩
  | d + 1, i, x, hd, hx => by
    by_cases h : (i : Int) < (a0.size : Int)
    · obtain ⟨n, y, hy, H⟩ := bl_l0 a0 a1 a2 d (i + 1) (x.set i (bt a0 i)) (by omega) (by rw [List.length_set]; exact hx)
      have hw : wrap64 ((i : Int) + 1) = ((i + 1 : Nat) : Int) := by rw [wrap_small (by omega) (by omega)]; omega
      refine ⟨n + 1, y, hy, fun k => ?_⟩
      rw [← Nat.add_assoc, halberdlaw6_ChachaBlocks.l0, if_pos (by omega), if_pos h, if_pos (by omega), if_pos (by omega), hw, Int.toNat_natCast]
      exact H k
    · exact ⟨1, x, hx, fun k => by rw [halberdlaw6_ChachaBlocks.l0, if_pos (by omega), if_neg h]⟩
def wantOf (l : List UInt8) : ByteArray := ⟨l.toArray⟩
theorem wantOf_list (l : List UInt8) : (wantOf l).data.toList = l := by simp [wantOf]
/-- The stream's first i blocks. -/
def want (K N : ByteArray) (c : Int) (i : Nat) : ByteArray := wantOf ((List.range (64 * i)).map (kbU K N c))
theorem want_list (K N : ByteArray) (c : Int) (i : Nat) : (want K N c i).data.toList = (List.range (64 * i)).map (kbU K N c) := wantOf_list _
theorem want_size (K N : ByteArray) (c : Int) (i : Nat) : (want K N c i).size = 64 * i := by rw [← size_list, want_list]; simp
theorem want_step (K N : ByteArray) (c : Int) (i : Nat) : want K N c i ++ strOfNums (blkNums K ((c + (i : Int)) % 4294967296) N) = want K N c (i + 1) := by
  refine bytes_ext ?_
  rw [data_append, want_list, want_list, blk_list K N _ (by omega) (by omega), show 64 * (i + 1) = 64 * i + 64 by omega, List.range_add, List.map_append, List.map_map]
  refine congrArg (fun l => List.map (kbU K N c) (List.range (64 * i)) ++ l) (List.map_congr_left fun j _ => ?_)
  simp only [Function.comp]
  unfold kbU
  rw [kb_shift]
theorem zeros_xor (K N : ByteArray) (c : Int) (m : Nat) : xorOut K N c (strOfNums (List.replicate (64 * m) 0)) = want K N c m := by
  refine bytes_ext ?_
  rw [xorOut_list, want_list, strOfNums_size, List.length_replicate]
  refine List.map_congr_left fun j hj => ?_
  have hj := List.mem_range.mp hj
  have : (strOfNums (List.replicate (64 * m) 0)).data.toList.getD j 0 = 0 := by
    rw [strOfNums_data, List.map_replicate, List.getD_eq_getElem?_getD, List.getElem?_replicate, if_pos hj]
    rfl
  rw [this, UInt8.zero_xor]
theorem bl_l1 (K N : ByteArray) (hk : K.size = 32) (hn : N.size = 12) (c : Int) (h0 : 0 ≤ c) (h1 : c < 4294967296) (m : Nat) (hm : m < 8) : ∀ d i : Nat, i + d = m → ∃ n, ∀ k, halberdlaw6_ChachaBlocks.l1 (k + n) K N c (m : Int) (want K N c m) 0 (want K N c i) (i : Int) = some true
  | 0, i, hd => by
    obtain rfl : i = m := by omega
    refine ⟨1, fun k => ?_⟩
    rw [halberdlaw6_ChachaBlocks.l1, if_neg (by omega), num_f]
    simp only [Option.bind_some, if_true]
    rw [want_size, wrap_small (by omega) (by omega)]
    rw [show (64 * (i : Int)) = ((64 * i : Nat) : Int) by omega, beq_self_eq_true]
  | d + 1, i, hd => by
    obtain ⟨n, H⟩ := bl_l1 K N hk hn c h0 h1 m hm d (i + 1) (by omega)
    have hw : wrap64 ((i : Int) + 1) = ((i + 1 : Nat) : Int) := by rw [wrap_small (by omega) (by omega)]; omega
    have hc : wrap64 (c + (i : Int)) = c + (i : Int) := wrap_small (by omega) (by omega)
    refine ⟨n + 1, fun k => ?_⟩
    rw [← Nat.add_assoc, halberdlaw6_ChachaBlocks.l1, if_pos (by omega), hc, and_32, blk_yes K N _ ⟨hk, by omega, by omega, hn⟩]
    simp only [Option.bind_some, num_f, if_true]
    rw [strOfNums_size, show (blkNums K ((c + (i : Int)) % 4294967296) N).length = 64 from outs_length _ _ _, want_size, if_pos (by omega), want_step, hw]
    exact H k
theorem bl_j1 (a1 a2 : Int) (y : List Int) (hy : y.length = 44) : ∃ n, halberdlaw6_ChachaBlocks.j1 (n + 1) a1 a2 y = some true := by
  obtain ⟨m, hm⟩ : ∃ m : Nat, a2 % 8 = (m : Int) := ⟨(a2 % 8).toNat, by omega⟩
  have hm8 : m < 8 := by omega
  have hM := may_seed y hy a1
  have h64 : wrap64 (64 * (m : Int)) = ((64 * m : Nat) : Int) := by rw [wrap_small (by omega) (by omega)]; omega
  obtain ⟨n, H⟩ := bl_l1 (strOfNums (y.take 32)) (strOfNums (y.drop 32)) (key_size y hy) (nonce_size y hy) (a1 % 4294967296) (by omega) (by omega) m hm8 m 0 (by omega)
  refine ⟨0 + n, ?_⟩
  have H := H 0
  rw [halberdlaw6_ChachaBlocks.j1, if_pos (by omega)]
  simp only [Option.bind_some]
  rw [and_7, hm, h64, and_32, if_pos (by omega), Int.toNat_natCast, if_pos (by omega), xor_fyes _ _ _ _ hM (by rw [strOfNums_size, List.length_replicate]; omega)]
  simp only [Option.bind_some]
  rw [zeros_xor]
  exact H
theorem ChachaBlocks : halberdlaw6_ChachaBlocks.Pure := by
  intro a0 a1 a2 _ _ _
  obtain ⟨n, y, hy, H⟩ := bl_l0 a0 a1 a2 44 0 (List.replicate 44 0) (by omega) (by simp)
  obtain ⟨m, hm⟩ := bl_j1 a1 a2 y hy
  refine ⟨m + 1 + n, ?_⟩
  unfold halberdlaw6_ChachaBlocks.f
  rw [aw]
  simp only [Option.bind_some, if_true]
  rw [if_pos (by omega)]
  exact (H (m + 1)).trans hm
end Go.Proofs.Ytocckplgjbhlbaa.Pure
