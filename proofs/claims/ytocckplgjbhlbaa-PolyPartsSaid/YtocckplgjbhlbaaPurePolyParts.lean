/- PolyParts, the plain law. Conditions: none. -/
import Derived.Test.YtocckplgjbhlbaaPx5
import Derived.Test.YtocckplgjbhlbaaPuB
namespace Go.Proofs.Ytocckplgjbhlbaa.Pure
open Go.RowKit Go.Proofs.Ytocckplgjbhlbaa.P Go.Proofs.Ytocckplgjbhlbaa.Pol Go.Proofs.Ytocckplgjbhlbaa.Cha Go.Proofs.YtocckplgjbhlbaaW.PrintWords Go.Proofs.YtocckplgjbhlbaaW.PrintLast Go.Proofs.Ytocckplgjbhlbaa.PureP
set_option linter.unusedVariables false
theorem num_f (n : Int) : halberdlaw0_Num.f n = some n := rfl
theorem pp_l0 (a0 a1 a2 : ByteArray) : ∀ (d i : Nat) (x : List Int), i + d = 44 → x.length = 44 → ∃ n y, y.length = 44 ∧ ∀ k, halberdlaw7_PolyParts.l0 (k + n) a0 a1 a2 x (i : Int) = halberdlaw7_PolyParts.j2 k a1 a2 y
  | 0, i, x, hd, hx => ⟨1, x, hx, fun k => by rw [halberdlaw7_PolyParts.l0, if_neg (by omega)]⟩
  | d + 1, i, x, hd, hx => by
    by_cases h : (i : Int) < (a0.size : Int)
    · obtain ⟨n, y, hy, H⟩ := pp_l0 a0 a1 a2 d (i + 1) (x.set i (bt a0 i)) (by omega) (by rw [List.length_set]; exact hx)
      have hw : wrap64 ((i : Int) + 1) = ((i + 1 : Nat) : Int) := by rw [w64_small (by omega) (by omega)]; omega
      refine ⟨n + 1, y, hy, fun k => ?_⟩
      rw [← Nat.add_assoc, halberdlaw7_PolyParts.l0, if_pos (by omega), if_pos h, if_pos (by omega), if_pos (by omega), hw, Int.toNat_natCast]
      exact H k
    · exact ⟨1, x, hx, fun k => by rw [halberdlaw7_PolyParts.l0, if_pos (by omega), if_neg h]⟩
theorem sizes_eq (n m : Nat) (hn : n ≤ 2000) (hm : m ≤ 2000) : strOfNums [(Go.bits .and .i64 (n : Int) 255) % 256, ((n : Int) / 256) % 256, 0, 0, 0, 0, 0, 0, (Go.bits .and .i64 (m : Int) 255) % 256, ((m : Int) / 256) % 256, 0, 0, 0, 0, 0, 0] = len8 n ++ len8 m := by
  have e : ∀ k : Nat, k ≤ 2000 → ((k : Int) / 65536) % 256 = 0 ∧ ((k : Int) / 16777216) % 256 = 0 := fun k hk => by omega
  have ea : ∀ k : Nat, Go.bits .and .i64 (k : Int) 255 % 256 = (k : Int) % 256 := fun k => by rw [and_255]; omega
  refine bytes_ext ?_
  rw [data_append, len8, len8, ea, ea, (e n hn).1, (e n hn).2, (e m hm).1, (e m hm).2]
  simp only [strOfNums_data, List.map_cons, List.map_nil, List.cons_append, List.nil_append]
theorem pad_def (n : Nat) : pad n = strOfNums (List.replicate ((16 - n % 16) % 16) 0) := rfl
theorem nat_pad (n : Nat) : ((16 - ((n : Int) % 16)) % 16 : Int).toNat = (16 - n % 16) % 16 := by omega
theorem pp_j3 (k : Nat) (a x B c t : ByteArray) (s : ByteArray) (ha : a.size ≤ 2000) (hs : s.size ≤ 2000) (hx : x.size = s.size) (hB : B.size = 64) (ht : t.size = 16)
    (h : poly_Mac.f (B.extract 0 32) (a ++ pad a.size ++ x ++ pad s.size ++ (len8 a.size ++ len8 s.size)) = some (t, 0)) (hc : c = x ++ t) : halberdlaw7_PolyParts.j3 (k + 1) a s c x B false = some true := by
  have h1 := pad_size a.size
  have h2 := pad_size s.size
  have h3 := len8_size a.size
  have h4 := len8_size s.size
  have p1 : (pad a.size).size = (16 - a.size % 16) % 16 := by rw [pad, strOfNums_size_, List.length_replicate]
  rw [halberdlaw7_PolyParts.j3, if_neg (by decide)]
  refine bindE rfl ?_
  rw [sizes_eq a.size s.size ha hs, hx, nat_pad, nat_pad, if_pos (by omega), if_pos (by omega)]
  refine bindE rfl ?_
  rw [← pad_def a.size, if_pos (by omega)]
  refine bindE rfl ?_
  rw [if_pos (by rw [ByteArray.size_append]; omega)]
  refine bindE rfl ?_
  rw [if_pos (by omega), if_pos (by omega)]
  refine bindE rfl ?_
  rw [← pad_def s.size, if_pos (by rw [ByteArray.size_append, ByteArray.size_append]; omega)]
  refine bindE rfl ?_
  rw [if_pos (by simp only [ByteArray.size_append]; omega), if_pos (by omega), if_pos (by omega)]
  refine bindE h (bindE (num_f 0) ?_)
  rw [if_pos rfl, if_pos (by rw [ht]; omega), hc, beq_self_eq_true]
theorem pp_mac (key nonce a s : ByteArray) : poly_Mac.f ((strOfNums (blkNums key 0 nonce)).extract 0 32) (a ++ pad a.size ++ xorOut key nonce 1 s ++ pad s.size ++ (len8 a.size ++ len8 s.size)) = some (tagOf key nonce a (turned key nonce s), 0) := by
  have e := tag_mac key nonce a (turned key nonce s) (turned_range key nonce s)
  rw [Go.Proofs.Ytocckplgjbhlbaa.PureP.whole, turned_length] at e
  have ek : (strOfNums (blkNums key 0 nonce)).extract 0 32 = own key nonce := rfl
  have ex : xorOut key nonce 1 s = strOfNums (turned key nonce s) := rfl
  rw [ek, ex]
  unfold poly_Mac.f
  rw [if_pos (own_size key nonce), e]
theorem pp_j2 (k : Nat) (a s : ByteArray) (y : List Int) (hy : y.length = 44) (ha : a.size ≤ 2000) (hs : s.size ≤ 2000) : halberdlaw7_PolyParts.j2 (k + 1 + 1) a s y = some true := by
  have hk := seed_key y hy
  have hn := seed_nonce y hy
  rw [halberdlaw7_PolyParts.j2, if_pos (by omega)]
  refine bindE rfl (bindE rfl ?_)
  generalize strOfNums (y.take 32) = key at hk
  generalize strOfNums (y.drop 32) = nonce at hn
  have h1 : poly_Seal.f key nonce a s = some (sealedOf key nonce a s, 0) := by
    unfold poly_Seal.f
    rw [if_pos ⟨hk, hn, by omega, by omega⟩]
  have h2 : chacha_Xor.f key 1 nonce s = some (xorOut key nonce 1 s, 0) := by
    unfold chacha_Xor.f
    rw [if_pos ⟨⟨hk, by omega, by omega, hn⟩, by omega⟩]
  have h3 : chacha_Block.f key 0 nonce = some (strOfNums (blkNums key 0 nonce), 0) := by
    unfold chacha_Block.f
    rw [if_pos ⟨hk, by omega, by omega, hn⟩]
  refine bindE h1 (bindE h2 (bindE h3 (bindE (num_f 0) ?_)))
  rw [if_pos rfl]
  refine bindE (num_f 0) ?_
  rw [if_pos rfl]
  refine bindE (num_f 0) ?_
  rw [if_pos rfl, blk_size]
  exact pp_j3 k a (xorOut key nonce 1 s) _ _ (tagOf key nonce a (turned key nonce s)) s ha hs (xorOut_size _ _ _ _) (blk_size key nonce) (tagOf_size _ _ _ _) (pp_mac key nonce a s) rfl
theorem PolyParts : halberdlaw7_PolyParts.Pure := by
  intro a0 a1 a2 _ _ _
  obtain ⟨n, y, hy, H⟩ := pp_l0 a0 a1 a2 44 0 (List.replicate 44 0) (by omega) (by simp)
  refine ⟨0 + 1 + 1 + n + 1, ?_⟩
  unfold halberdlaw7_PolyParts.f
  refine bindE rfl ?_
  rw [if_pos rfl]
  by_cases h2 : (a2.size : Int) > 2000
  · rw [if_pos h2, halberdlaw7_PolyParts.j0, if_pos rfl]
  · rw [if_neg h2]
    by_cases h1 : (a1.size : Int) > 2000
    · rw [halberdlaw7_PolyParts.j0, if_pos (decide_eq_true h1)]
    · rw [halberdlaw7_PolyParts.j0, if_neg (by rw [decide_eq_false h1]; decide), if_pos (by decide)]
      exact (H (0 + 1 + 1)).trans (pp_j2 0 a1 a2 y hy (by omega) (by omega))
end Go.Proofs.Ytocckplgjbhlbaa.Pure
