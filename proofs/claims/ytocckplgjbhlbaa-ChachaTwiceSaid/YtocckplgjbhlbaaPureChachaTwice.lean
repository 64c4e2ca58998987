/- ChachaTwice, the plain law. Conditions: none. -/
import Derived.Test.YtocckplgjbhlbaaPu2
import Derived.Test.YtocckplgjbhlbaaZx4
namespace Go.Proofs.Ytocckplgjbhlbaa.Pure
open Go.RowKit Go.Proofs.Ytocckplgjbhlbaa.Z Go.Proofs.Ytocckplgjbhlbaa.Cha Go.Proofs.YtocckplgjbhlbaaW.PrintWords Go.Proofs.YtocckplgjbhlbaaW.PrintLast
set_option linter.unusedVariables false
theorem bindE {α β : Type} {x : Option α} {f : α → Option β} {a : α} {r : Option β} (h : x = some a) (k : f a = r) : x.bind f = r := by rw [h]; exact k
theorem tw_l0 (a0 : ByteArray) (a1 : Int) (a2 : ByteArray) (a3 : Int) : ∀ (d i : Nat) (x : List Int), i + d = 44 → x.length = 44 → ∃ n y, y.length = 44 ∧ ∀ k, halberdlaw6_ChachaTwice.l0 (k + n) a0 a1 a2 a3 x (i : Int) = halberdlaw6_ChachaTwice.j1 k a1 a2 a3 y
  | 0, i, x, hd, hx => ⟨1, x, hx, fun k => by rw [halberdlaw6_ChachaTwice.l0, if_neg (by omega)]⟩
  | d + 1, i, x, hd, hx => by
    by_cases h : (i : Int) < (a0.size : Int)
    · obtain ⟨n, y, hy, H⟩ := tw_l0 a0 a1 a2 a3 d (i + 1) (x.set i (bt a0 i)) (by omega) (by rw [List.length_set]; exact hx)
      have hw : wrap64 ((i : Int) + 1) = ((i + 1 : Nat) : Int) := by rw [wrap_small (by omega) (by omega)]; omega
      refine ⟨n + 1, y, hy, fun k => ?_⟩
      rw [← Nat.add_assoc, halberdlaw6_ChachaTwice.l0, if_pos (by omega), if_pos h, if_pos (by omega), if_pos (by omega), hw, Int.toNat_natCast]
      exact H k
    · exact ⟨1, x, hx, fun k => by rw [halberdlaw6_ChachaTwice.l0, if_pos (by omega), if_neg h]⟩
theorem tw_cut (n : Nat) (x : Int) (hn : n ≤ 3000) : ∃ b : Nat, wrap64 (Int.tmod (IntKind.u64.wrap x) (IntKind.u64.wrap (wrap64 (wrap64 ((n : Int) / 64) + 1)))) = (b : Int) ∧ 64 * b ≤ n ∧ ¬ IntKind.u64.wrap (wrap64 (wrap64 ((n : Int) / 64) + 1)) = 0 := by
  have h1 : wrap64 (wrap64 ((n : Int) / 64) + 1) = (n : Int) / 64 + 1 := by rw [wrap_small (n := (n : Int) / 64) (by omega) (by omega), wrap_small (by omega) (by omega)]
  have h2 : IntKind.u64.wrap ((n : Int) / 64 + 1) = (n : Int) / 64 + 1 := by rw [u64_wrap]; omega
  rw [h1, h2, u64_wrap]
  have h3 : 0 ≤ x % 18446744073709551616 := by omega
  rw [Int.tmod_eq_emod_of_nonneg h3]
  generalize x % 18446744073709551616 = z at h3
  have h4 : 0 ≤ z % ((n : Int) / 64 + 1) := Int.emod_nonneg _ (by omega)
  have h5 : z % ((n : Int) / 64 + 1) < (n : Int) / 64 + 1 := Int.emod_lt_of_pos _ (by omega)
  generalize z % ((n : Int) / 64 + 1) = v at h4 h5
  refine ⟨v.toNat, ?_, by omega, by omega⟩
  rw [wrap_small (by omega) (by omega)]
  omega
theorem tw_of (k : Nat) (a1 : Int) (s : ByteArray) (a3 : Int) (y : List Int) (hy : y.length = 44) (b : Nat) (c1 x z : ByteArray) (hb1 : 64 * b ≤ s.size) (hs : s.size ≤ 3000)
    (hb : wrap64 (Int.tmod (IntKind.u64.wrap a3) (IntKind.u64.wrap (wrap64 (wrap64 ((s.size : Int) / 64) + 1)))) = (b : Int)) (hb2 : ¬ IntKind.u64.wrap (wrap64 (wrap64 ((s.size : Int) / 64) + 1)) = 0)
    (h1 : chacha_Xor.f (strOfNums (y.take 32)) (a1 % 4294967296) (strOfNums (y.drop 32)) s = some (c1, 0))
    (h2 : chacha_Xor.f (strOfNums (y.take 32)) (a1 % 4294967296) (strOfNums (y.drop 32)) c1 = some (s, 0))
    (h3 : chacha_Xor.f (strOfNums (y.take 32)) (a1 % 4294967296) (strOfNums (y.drop 32)) (s.extract 0 (64 * b)) = some (x, 0))
    (h4 : chacha_Xor.f (strOfNums (y.take 32)) ((a1 % 4294967296 + (b : Int)) % 4294967296) (strOfNums (y.drop 32)) (s.extract (64 * b) s.size) = some (z, 0))
    (hz : x ++ z = c1) (hsz : x.size + z.size ≤ 9223372036854775807) : halberdlaw6_ChachaTwice.j1 (k + 1) a1 s a3 y = some true := by
  have h64 : wrap64 (64 * (b : Int)) = ((64 * b : Nat) : Int) := by rw [wrap_small (by omega) (by omega)]; omega
  have hcb : wrap64 (a1 % 4294967296 + (b : Int)) = a1 % 4294967296 + (b : Int) := wrap_small (by omega) (by omega)
  rw [halberdlaw6_ChachaTwice.j1, if_pos (by omega), hb, h64, and_32, hcb, and_32]
  refine bindE rfl (bindE rfl (bindE h1 (bindE h2 ?_)))
  rw [if_neg hb2, if_pos (by omega), if_pos (by omega), Int.toNat_natCast]
  refine bindE h3 (bindE h4 (bindE (num_f 0) ?_))
  rw [if_pos rfl]
  refine bindE (num_f 0) ?_
  rw [if_pos rfl, if_pos rfl]
  refine bindE (num_f 0) ?_
  rw [if_pos rfl]
  refine bindE (num_f 0) ?_
  rw [if_pos rfl, if_pos hsz, hz, beq_self_eq_true]
theorem tw_j1 (k : Nat) (a1 : Int) (s : ByteArray) (a3 : Int) (y : List Int) (hy : y.length = 44) (hs : s.size ≤ 3000) : halberdlaw6_ChachaTwice.j1 (k + 1) a1 s a3 y = some true := by
  obtain ⟨b, hb, hb1, hb2⟩ := tw_cut s.size a3 hs
  have hM := may_seed y hy a1
  have hM2 := may_seed y hy (a1 % 4294967296 + (b : Int))
  have h1 := xor_fyes _ _ _ s hM (by omega)
  have h2 := xor_fyes _ _ _ (xorOut (strOfNums (y.take 32)) (strOfNums (y.drop 32)) (a1 % 4294967296) s) hM (by rw [xorOut_size]; omega)
  rw [xorOut_twice] at h2
  have h3 := xor_fyes _ _ _ (s.extract 0 (64 * b)) hM (by rw [ByteArray.size_extract]; omega)
  have h4 := xor_fyes _ _ _ (s.extract (64 * b) s.size) hM2 (by rw [ByteArray.size_extract]; omega)
  refine tw_of k a1 s a3 y hy b _ _ _ hb1 hs hb hb2 h1 h2 h3 h4 (xorOut_cut _ _ _ s b hb1) ?_
  rw [xorOut_size, xorOut_size, ByteArray.size_extract, ByteArray.size_extract]
  omega
theorem ChachaTwice : halberdlaw6_ChachaTwice.Pure := by
  intro a0 a1 a2 a3 _ _ _ _
  by_cases hs : (a2.size : Int) > 3000
  · refine ⟨0, ?_⟩
    unfold halberdlaw6_ChachaTwice.f
    rw [aw]
    simp only [Option.bind_some, if_true]
    rw [if_pos hs]
  · obtain ⟨n, y, hy, H⟩ := tw_l0 a0 a1 a2 a3 44 0 (List.replicate 44 0) (by omega) (by simp)
    refine ⟨0 + 1 + n, ?_⟩
    unfold halberdlaw6_ChachaTwice.f
    rw [aw]
    simp only [Option.bind_some, if_true]
    rw [if_neg hs, if_pos (by omega)]
    exact (H (0 + 1)).trans (tw_j1 0 a1 a2 a3 y hy (by omega))
end Go.Proofs.Ytocckplgjbhlbaa.Pure
