/- The document's tags and sealed texts are the program's: plain laws of the printed functions of group R. Conditions: none. -/
import Derived.Test.YtocckplgjbhlbaaPuS
import Derived.Test.YtocckplgjbhlbaaPuE
import Derived.Test.YtocckplgjbhlbaaRx5
import Derived.Test.YtocckplgjbhlbaaRx6
namespace Go.Proofs.Ytocckplgjbhlbaa.PureR
open Go.RowKit Go.Proofs.Ytocckplgjbhlbaa.R Go.Proofs.Ytocckplgjbhlbaa.Cha Go.Proofs.Ytocckplgjbhlbaa.Pol Go.Proofs.Ytocckplgjbhlbaa.PureP Go.Proofs.YtocckplgjbhlbaaW.PrintWords Go.Proofs.YtocckplgjbhlbaaW.PrintLast
set_option linter.unusedVariables false
theorem empty_def : (⟨#[]⟩ : ByteArray) = ByteArray.empty := rfl
theorem mac_pair (key s : ByteArray) (hs : s.size ≤ 140737488351232) : ∃ m e, poly_Mac.f key s = some (m, e) ∧ halberdref4_Poly.f key s = some (m, e) := by
  by_cases hk : key.size = 32
  · refine ⟨macOf key s, 0, ?_, ?_⟩
    · unfold poly_Mac.f
      rw [if_pos hk]
    · unfold halberdref4_Poly.f halberdref4_poly.f
      rw [if_pos (by omega), if_pos ⟨hk, by omega⟩, mac_law key s hk]
      rfl
  · refine ⟨ByteArray.empty, 700, ?_, ?_⟩
    · unfold poly_Mac.f
      rw [if_neg hk]
    · unfold halberdref4_Poly.f
      rw [if_neg (by omega)]
      rfl
theorem little_step (n : Nat) (k i : Nat) (x : List Int) (hi : i < 8) (hx : x.length = 8) : halberdref4_little.l0 (k + 1) (n : Int) x (i : Int) = halberdref4_little.l0 k (n : Int) (x.set i ((n : Int) / 2 ^ (8 * i) % 256)) ((i + 1 : Nat) : Int) := by
  have h8 : wrap64 (8 * (i : Int)) = ((8 * i : Nat) : Int) := by rw [w64_small (by omega) (by omega)]; omega
  have h1 : wrap64 ((i : Int) + 1) = ((i + 1 : Nat) : Int) := by rw [w64_small (by omega) (by omega)]; omega
  have hs : shr .i64 (n : Int) ((8 * i : Nat) : Int) = (n : Int) / 2 ^ (8 * i) := by
    unfold shr
    rw [Int.toNat_natCast, Nat.min_eq_left (by simp [IntKind.bits]; omega)]
  rw [halberdref4_little.l0, if_pos (by omega), h8, if_pos (by omega), if_pos (by omega), if_pos (by omega), h1, hs, and_255, Int.toNat_natCast]
  have : (n : Int) / 2 ^ (8 * i) % 256 % 256 = (n : Int) / 2 ^ (8 * i) % 256 := by omega
  rw [this]
theorem little_end (n : Nat) (k : Nat) (x : List Int) : halberdref4_little.l0 (k + 1) (n : Int) x ((8 : Nat) : Int) = some (strOfNums x) := by
  rw [halberdref4_little.l0, if_neg (by omega)]
theorem little_f (n : Nat) (hn : n ≤ 4000000000) (k : Nat) : halberdref4_little.f (k + 9) (n : Int) = some (len8 n) := by
  unfold halberdref4_little.f
  rw [if_pos (by decide)]
  have h0 := little_step n (k + 8) 0 (List.replicate 8 0) (by omega) rfl
  refine h0.trans ?_
  rw [little_step n (k + 7) 1 _ (by omega) rfl, little_step n (k + 6) 2 _ (by omega) rfl, little_step n (k + 5) 3 _ (by omega) rfl, little_step n (k + 4) 4 _ (by omega) rfl, little_step n (k + 3) 5 _ (by omega) rfl, little_step n (k + 2) 6 _ (by omega) rfl, little_step n (k + 1) 7 _ (by omega) rfl, little_end]
  have e : ((((((((List.replicate 8 (0 : Int)).set 0 ((n : Int) / 2 ^ (8 * 0) % 256)).set 1 ((n : Int) / 2 ^ (8 * 1) % 256)).set 2 ((n : Int) / 2 ^ (8 * 2) % 256)).set 3 ((n : Int) / 2 ^ (8 * 3) % 256)).set 4 ((n : Int) / 2 ^ (8 * 4) % 256)).set 5 ((n : Int) / 2 ^ (8 * 5) % 256)).set 6 ((n : Int) / 2 ^ (8 * 6) % 256)).set 7 ((n : Int) / 2 ^ (8 * 7) % 256) =
      [(n : Int) / 1 % 256, (n : Int) / 256 % 256, (n : Int) / 65536 % 256, (n : Int) / 16777216 % 256, (n : Int) / 4294967296 % 256, (n : Int) / 1099511627776 % 256, (n : Int) / 281474976710656 % 256, (n : Int) / 72057594037927936 % 256] := rfl
  rw [e, len8]
  have z0 : (n : Int) / 1 % 256 = (n : Int) % 256 := by omega
  have z4 : (n : Int) / 4294967296 % 256 = 0 := by omega
  have z5 : (n : Int) / 1099511627776 % 256 = 0 := by omega
  have z6 : (n : Int) / 281474976710656 % 256 = 0 := by omega
  have z7 : (n : Int) / 72057594037927936 % 256 = 0 := by omega
  rw [z0, z4, z5, z6, z7]
theorem all_text (aad c : ByteArray) : aad ++ pad aad.size ++ (c ++ pad c.size) ++ len8 aad.size ++ len8 c.size = PureP.whole aad (bytesOf c) := by
  refine bytes_ext ?_
  rw [PureP.whole, strOfNums_bytesOf, bytesOf_length]
  simp only [data_append, List.append_assoc]
theorem tag_f (key nonce aad c : ByteArray) (hk : key.size = 32) (hn : nonce.size = 12) (ha : aad.size ≤ 65536) (hc : c.size ≤ 65536) (k : Nat) : halberdref4_polyTag.f (k + 9) key nonce aad c = some (tagOf key nonce aad (bytesOf c)) := by
  have h1 := pad_size aad.size
  have h2 := pad_size c.size
  have h3 := len8_size aad.size
  have h4 := len8_size c.size
  have e0 : halberdref4_chacha.f key 0 nonce = some (strOfNums (blkNums key 0 nonce)) := by
    unfold halberdref4_chacha.f
    rw [if_pos ⟨hk, hn⟩]
    rfl
  have e1 : ∀ s : ByteArray, s.size ≤ 65536 → halberdref4_filled.f s = some (s ++ pad s.size) := fun s hs => by
    unfold halberdref4_filled.f
    rw [if_pos (by omega)]
  unfold halberdref4_polyTag.f
  refine bindE e0 ?_
  rw [if_pos (by decide), if_pos (by rw [blk_size]; decide)]
  refine bindE (e1 aad ha) (bindE (e1 c hc) ?_)
  rw [if_pos (by simp only [ByteArray.size_append]; omega)]
  refine bindE rfl (bindE (little_f aad.size (by omega) k) ?_)
  rw [if_pos (by simp only [ByteArray.size_append]; omega)]
  refine bindE rfl (bindE (little_f c.size (by omega) k) ?_)
  rw [if_pos (by simp only [ByteArray.size_append]; omega)]
  refine bindE (a := tagOf key nonce aad (bytesOf c)) ?_ rfl
  have eo : (strOfNums (blkNums key 0 nonce)).extract 0 32 = own key nonce := rfl
  rw [eo, all_text]
  unfold halberdref4_poly.f
  have hw : (PureP.whole aad (bytesOf c)).size ≤ 140737488355328 := by
    rw [← all_text]
    simp only [ByteArray.size_append]
    omega
  rw [if_pos ⟨own_size key nonce, hw⟩, tag_mac key nonce aad (bytesOf c) (bytesOf_range c), mac_law _ _ (own_size key nonce)]
theorem stream_all (key nonce : ByteArray) (hk : key.size = 32) (hn : nonce.size = 12) (c : Int) (s : ByteArray) (hs : s.size ≤ 65536) : ∃ K, ∀ k, K ≤ k → halberdref4_stream.f k key c nonce s = some (xorOut key nonce c s) := by
  obtain ⟨K, h⟩ := stream_f key nonce hk hn c s hs
  exact ⟨K, fun k hK => at_rounds (g := fun k => halberdref4_stream.f k key c nonce s) (halberdref4_stream.mono key c nonce s) hK h⟩
theorem seal_pair (key nonce aad s : ByteArray) : ∃ c e K, poly_Seal.f key nonce aad s = some (c, e) ∧ ∀ k, K ≤ k → halberdref4_PolySeal.f k key nonce aad s = some (c, e) := by
  by_cases hM : PMay key nonce aad s.size
  · obtain ⟨hk, hn, ha, hs⟩ := hM
    obtain ⟨K, hK⟩ := stream_all key nonce hk hn 1 s (by omega)
    refine ⟨sealedOf key nonce aad s, 0, K + 10, ?_, fun k hk2 => ?_⟩
    · unfold poly_Seal.f
      rw [if_pos ⟨hk, hn, ha, hs⟩]
    · obtain ⟨j, rfl⟩ : ∃ j, k = j + 9 + 1 := ⟨k - 10, by omega⟩
      unfold halberdref4_PolySeal.f
      rw [if_pos (by omega), if_pos (by omega), if_neg (by omega), decide_eq_false (by omega), halberdref4_PolySeal.j0, if_neg (by decide)]
      refine bindE (hK _ (by omega)) (bindE (tag_f key nonce aad _ hk hn ha (by rw [xorOut_size]; omega) j) ?_)
      rw [if_pos (by rw [xorOut_size, tagOf_size]; omega), bytes_xorOut]
      rfl
  · refine ⟨ByteArray.empty, 700, 1, ?_, fun k hk2 => ?_⟩
    · unfold poly_Seal.f
      rw [if_neg hM]
    · obtain ⟨j, rfl⟩ : ∃ j, k = j + 1 := ⟨k - 1, by omega⟩
      have hj : halberdref4_PolySeal.j0 (j + 1) key nonce aad s true = some (ByteArray.empty, 700) := by rw [halberdref4_PolySeal.j0, if_pos rfl]; rfl
      unfold halberdref4_PolySeal.f
      by_cases h1 : key.size = 32
      · rw [if_pos (by omega)]
        by_cases h2 : nonce.size = 12
        · rw [if_pos (by omega)]
          by_cases h3 : (aad.size : Int) > 65536
          · rw [if_pos h3, hj]
          · rw [if_neg h3]
            have h4 : (s.size : Int) > 65536 := by
              by_cases h4 : (s.size : Int) > 65536
              · exact h4
              · exact absurd ⟨h1, h2, by omega, by omega⟩ hM
            rw [decide_eq_true h4, hj]
        · rw [if_neg (by omega), hj]
      · rw [if_neg (by omega), hj]
theorem list_text {a b : ByteArray} (h : a.toList = b.toList) : a = b := by
  have := same_text a b
  rw [h, beq_self_eq_true] at this
  exact of_decide_eq_true this.symm
theorem open_pair (key nonce aad s : ByteArray) (hz : s.size ≤ 140737488351232) : ∃ c e K, poly_Open.f key nonce aad s = some (c, e) ∧ ∀ k, K ≤ k → halberdref4_PolyOpen.f k key nonce aad s = some (c, e) := by
  have hw : wrap64 ((s.size : Int) - 16) = (s.size : Int) - 16 := by unfold wrap64; omega
  by_cases hM : OMay key nonce aad s
  · obtain ⟨⟨hk, hn, ha, hs⟩, h16⟩ := hM
    have ht : ((s.size : Int) - 16).toNat = s.size - 16 := by omega
    have hfs := front_size s
    have ef : s.extract 0 (s.size - 16) = front s := rfl
    have eb : s.extract (s.size - 16) s.size = back s := rfl
    obtain ⟨K, hK⟩ := stream_all key nonce hk hn 1 (front s) (by omega)
    by_cases hf : Fits key nonce aad s
    · refine ⟨xorOut key nonce 1 (front s), 0, K + 10, ?_, fun k hk2 => ?_⟩
      · unfold poly_Open.f
        rw [if_pos (by omega), if_pos ⟨⟨⟨hk, hn, ha, hs⟩, h16⟩, hf⟩]
      · obtain ⟨j, rfl⟩ : ∃ j, k = j + 9 := ⟨k - 9, by omega⟩
        unfold halberdref4_PolyOpen.f
        rw [if_pos (by omega), if_pos (by omega), if_neg (by omega), hw, if_neg (by omega), if_neg (by omega), if_pos (by omega), if_pos (by omega), ht, ef, eb]
        refine bindE (tag_f key nonce aad (front s) hk hn ha (by omega) j) ?_
        rw [if_pos (congrArg ByteArray.toList hf)]
        exact bindE (hK _ (by omega)) rfl
    · refine ⟨ByteArray.empty, 700, 10, ?_, fun k hk2 => ?_⟩
      · unfold poly_Open.f
        rw [if_pos (by omega), if_neg (fun h => hf h.2)]
      · obtain ⟨j, rfl⟩ : ∃ j, k = j + 9 := ⟨k - 9, by omega⟩
        unfold halberdref4_PolyOpen.f
        rw [if_pos (by omega), if_pos (by omega), if_neg (by omega), hw, if_neg (by omega), if_neg (by omega), if_pos (by omega), if_pos (by omega), ht, ef, eb]
        refine bindE (tag_f key nonce aad (front s) hk hn ha (by omega) j) ?_
        rw [if_neg (fun h => hf (list_text h))]
        rfl
  · refine ⟨ByteArray.empty, 700, 0, ?_, fun k hk2 => ?_⟩
    · unfold poly_Open.f
      rw [if_pos (by omega), if_neg (fun h => hM h.1)]
    · unfold halberdref4_PolyOpen.f
      rw [hw]
      by_cases h1 : key.size = 32
      · rw [if_pos (by omega)]
        by_cases h2 : nonce.size = 12
        · rw [if_pos (by omega)]
          by_cases h3 : (aad.size : Int) > 65536
          · rw [if_pos h3]; rfl
          · rw [if_neg h3]
            by_cases h4 : (s.size : Int) - 16 < 0
            · rw [if_pos h4]; rfl
            · rw [if_neg h4]
              have h5 : (s.size : Int) - 16 > 65536 := by
                by_cases h5 : (s.size : Int) - 16 > 65536
                · exact h5
                · exact absurd ⟨⟨h1, h2, by omega, by omega⟩, by omega⟩ hM
              rw [if_pos h5]; rfl
        · rw [if_neg (by omega)]; rfl
      · rw [if_neg (by omega)]; rfl
end Go.Proofs.Ytocckplgjbhlbaa.PureR
