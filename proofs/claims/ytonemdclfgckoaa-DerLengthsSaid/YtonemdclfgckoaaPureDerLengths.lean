/- Proved: which lengths der.Get takes, and which not (halberdlaw13.DerLengths answers true at every input). Conditions: none beside the given statement's own. -/
import Derived.Test.YtonemdclfgckoaaXx18
import Derived.Test.YtonemdclfgckoaaXx19
import Derived.Test.YtonemdclfgckoaaXx20
import Derived.Test.YtonemdclfgckoaaXx24
import Derived.Test.YtonemdclfgckoaaPureGet
namespace Go.Proofs.Ytonemdclfgckoaa.Pure
open Go.RowKit Go.Proofs.Ytonemdclfgckoaa.X Go.Proofs.YtonemdclfgckoaaW.PrintWords Go.Proofs.YtonemdclfgckoaaW.PrintLast Go.Proofs.YtonemdclfgckoaaW.PrintMore
set_option linter.unusedVariables false
set_option linter.unusedSimpArgs false

theorem aw : halberdlaw13_awake.f = some true := rfl
theorem and_127 (x : Int) : Go.bits .and .i64 x 127 = x % 128 := and_mask x 7 (by decide)
theorem get_of {L : List Int} {z : ByteArray} (hL : Byte L) (hs : L.length + z.size ≤ 100000) {r : Option (Int × List Int × Nat)} (e : getL (L ++ bytesOf z) = r) : Ev (fun k => der_Get.f k (strOfNums L ++ z) 0) (getRes 0 r) := by
  have h := From.start (strOfNums L ++ z)
  rw [bytesOf_app, bytesOf_strOf hL] at h
  have g := get_ok h (by rw [ByteArray.size_append, strOf_size]; omega)
  rw [e] at g
  exact g
theorem byte_zeros (n : Nat) : Byte (List.replicate n 0) := by
  intro x hx
  have := List.eq_of_mem_replicate hx
  omega
theorem len_short {n : Nat} (hn : n < 128) : getL ([48, (n : Int) % 256] ++ List.replicate n 0) = some (48, List.replicate n 0, 2 + n) := by
  have e := getL_put (t := 48) (b := List.replicate n 0) (m := []) ⟨by decide, by decide, by decide⟩ (by rw [List.length_replicate]; omega)
  rw [List.length_replicate, List.append_nil] at e
  have h : hd 48 n = [48, (n : Int) % 256] := by
    unfold hd
    rw [if_pos hn, show (n : Int) % 256 = n by omega]
    rfl
  rw [h] at e
  exact e
theorem l81 (x : Int) (z : List Int) (h : x < 128) : lengthL (129 :: x :: z) = none := by
  show (if x < 128 then none else some (x, 2)) = none
  rw [if_pos h]
theorem l82 (x y : Int) (z : List Int) (h : x * 256 + y < 256) : lengthL (130 :: x :: y :: z) = none := by
  show (if x * 256 + y < 256 then none else some (x * 256 + y, 3)) = none
  rw [if_pos h]
theorem getL_none {r : List Int} (e : lengthL r = none) : getL (48 :: r) = none := by
  simp only [getL]
  rw [if_neg (show ¬ ((48 : Int) % 32 = 31) by decide), e]
theorem len_81 {n : Nat} (hn : n < 128) (z : List Int) : getL ([48, 129, (n : Int) % 256] ++ z) = none := getL_none (l81 _ z (by omega))
theorem len_82 {n : Nat} (hn : n < 128) (z : List Int) : getL ([48, 130, 0, (n : Int) % 256] ++ z) = none := getL_none (l82 _ _ z (by omega))
theorem len_80 (z : List Int) : getL ([48, 128] ++ z) = none := rfl
theorem len_83 (z : List Int) (x : Int) : getL ([48, 131, 0, 0, x] ++ z) = none := rfl
theorem len_tag {t : Int} (h : t % 32 = 31) (z : List Int) (x : Int) : getL ([t, x] ++ z) = none := by
  simp only [List.cons_append, getL]
  rw [if_pos h]
set_option maxHeartbeats 4000000 in
/-- The given statement's pure form. -/
theorem DerLengths : halberdlaw13_DerLengths.Pure := by
  intro a b _ _
  obtain ⟨n, hn, hn1⟩ : ∃ n : Nat, a % 128 = n ∧ n < 128 := ⟨(a % 128).toNat, by omega, by omega⟩
  have hz : bytesOf (strOfNums (List.replicate n 0)) = List.replicate n 0 := bytesOf_strOf (byte_zeros n)
  have hzs : (strOfNums (List.replicate n 0)).size = n := by rw [strOf_size, List.length_replicate]
  have hbt : (31 + ((b % 8) % 256 * 32) % 256) % 256 % 32 = 31 := by omega
  have h1 := get_of (L := [48, (n : Int) % 256]) (z := strOfNums (List.replicate n 0)) (by intro x hx; simp at hx; omega) (by simp only [hzs, List.length_cons, List.length_nil]; omega) (r := some (48, List.replicate n 0, 2 + n)) (by rw [hz]; exact len_short hn1)
  have h2 := get_of (L := [48, 129, (n : Int) % 256]) (z := strOfNums (List.replicate n 0)) (by intro x hx; simp at hx; omega) (by simp only [hzs, List.length_cons, List.length_nil]; omega) (len_81 hn1 _)
  have h3 := get_of (L := [48, 130, 0, (n : Int) % 256]) (z := strOfNums (List.replicate n 0)) (by intro x hx; simp at hx; omega) (by simp only [hzs, List.length_cons, List.length_nil]; omega) (len_82 hn1 _)
  have h4 := get_of (L := [48, 128]) (z := strOfNums (List.replicate n 0)) (by intro x hx; simp at hx; omega) (by simp only [hzs, List.length_cons, List.length_nil]; omega) (len_80 _)
  have h5 := get_of (L := [48, 131, 0, 0, (n : Int) % 256]) (z := strOfNums (List.replicate n 0)) (by intro x hx; simp at hx; omega) (by simp only [hzs, List.length_cons, List.length_nil]; omega) (len_83 _ _)
  have h6 := get_of (L := [(31 + ((b % 8) % 256 * 32) % 256) % 256, (n : Int) % 256]) (z := strOfNums (List.replicate n 0)) (by intro x hx; simp at hx; omega) (by simp only [hzs, List.length_cons, List.length_nil]; omega) (len_tag hbt _ _)
  have h7 := get_none (⟨#[]⟩ : ByteArray) 0 (Or.inr (by decide))
  have h8 := get_none (⟨#[48]⟩ : ByteArray) (-1) (Or.inl (by decide))
  have h9 : Ev (fun k => der_All.f k (⟨#[]⟩ : ByteArray)) ([], 0) := by
    refine Ev.congr (f := fun k => der_All.l0 k (⟨#[]⟩ : ByteArray) [] (((⟨#[]⟩ : ByteArray).size : Nat) : Int)) (fun k => by unfold der_All.f; rfl) ?_
    exact all_end
  simp only [getRes] at h1 h2 h3 h4 h5 h6
  obtain ⟨K1, g1⟩ := h1
  obtain ⟨K2, g2⟩ := h2
  obtain ⟨K3, g3⟩ := h3
  obtain ⟨K4, g4⟩ := h4
  obtain ⟨K5, g5⟩ := h5
  obtain ⟨K6, g6⟩ := h6
  obtain ⟨K7, g7⟩ := h7
  obtain ⟨K8, g8⟩ := h8
  obtain ⟨K9, g9⟩ := h9
  refine ⟨K1 + K2 + K3 + K4 + K5 + K6 + K7 + K8 + K9, ?_⟩
  unfold halberdlaw13_DerLengths.f
  rw [and_127, and_7, hn]
  have nn : ((n : Int)).toNat = n := by omega
  rw [nn]
  refine bindE aw ?_
  rw [if_pos rfl, if_pos (by omega), if_pos (by omega)]
  refine bindE rfl ?_
  refine bindE rfl ?_
  rw [if_pos (by simp only [strOf_size, hzs, List.length_cons, List.length_nil]; omega)]
  refine bindE (g1 _ (by omega)) ?_
  refine bindE rfl ?_
  rw [if_pos (by simp only [strOf_size, hzs, List.length_cons, List.length_nil]; omega)]
  refine bindE (g2 _ (by omega)) ?_
  refine bindE rfl ?_
  rw [if_pos (by simp only [strOf_size, hzs, List.length_cons, List.length_nil]; omega)]
  refine bindE (g3 _ (by omega)) ?_
  refine bindE rfl ?_
  rw [if_pos (by simp only [strOf_size, hzs, List.length_cons, List.length_nil]; omega)]
  refine bindE (g4 _ (by omega)) ?_
  refine bindE rfl ?_
  rw [if_pos (by simp only [strOf_size, hzs, List.length_cons, List.length_nil]; omega)]
  refine bindE (g5 _ (by omega)) ?_
  refine bindE rfl ?_
  rw [if_pos (by simp only [strOf_size, hzs, List.length_cons, List.length_nil]; omega)]
  refine bindE (g6 _ (by omega)) ?_
  refine bindE (g7 _ (by omega)) ?_
  refine bindE (g8 _ (by omega)) ?_
  refine bindE (g9 _ (by omega)) ?_
  refine bindE (num_f _) ?_
  rw [if_pos rfl]
  refine bindE (num_f _) ?_
  rw [if_pos rfl]
  refine bindE (num_f _) ?_
  rw [if_pos rfl]
  refine bindE (num_f _) ?_
  rw [if_pos rfl]
  refine bindE (num_f _) ?_
  rw [if_pos rfl]
  refine bindE (num_f _) ?_
  rw [if_pos rfl]
  refine bindE (num_f _) ?_
  rw [if_pos rfl]
  refine bindE (num_f _) ?_
  rw [if_pos rfl]
  rfl

end Go.Proofs.Ytonemdclfgckoaa.Pure
