/- A tag by parts is the tag of the whole: plain laws without a program. Conditions: none. -/
import Derived.Test.YtocckplgjbhlbaaPuA
namespace Go.Proofs.Ytocckplgjbhlbaa.PureP
open Go.RowKit Go.Proofs.Ytocckplgjbhlbaa.Cha Go.Proofs.Ytocckplgjbhlbaa.Pol Go.Proofs.YtocckplgjbhlbaaW.PrintWords
set_option linter.unusedVariables false
theorem words_congr (xs ys : List Int) (o p : Nat) : ∀ n, (∀ j, j < n → gx xs (o + j) = gx ys (p + j)) → words xs o n = words ys p n
  | 0, _ => rfl
  | n + 1, h => by rw [words, words, words_congr xs ys o p n (fun j hj => h j (by omega)), h n (by omega)]
theorem added_congr (z xs ys : List Int) (o p n : Nat) (h : ∀ j, j < n → gx xs (o + j) = gx ys (p + j)) : added z xs o n = added z ys p n := by
  rw [added, added, bitted, bitted, words_congr xs ys o p n h]
theorem alled_congr (z xs ys : List Int) (o p n m : Nat) : ∀ q, (∀ i, i < q → min (n - 16 * i) 16 = min (m - 16 * i) 16 ∧ ∀ j, j < min (m - 16 * i) 16 → gx xs (o + 16 * i + j) = gx ys (p + 16 * i + j)) → alled z xs o n q = alled z ys p m q
  | 0, _ => rfl
  | q + 1, h => by
    rw [alled, alled, alled_congr z xs ys o p n m q (fun i hi => h i (by omega)), (h q (by omega)).1]
    exact added_congr _ _ _ _ _ _ (h q (by omega)).2
theorem alled_add (z xs : List Int) (o n q1 : Nat) : ∀ q2, alled z xs o n (q1 + q2) = alled (alled z xs o n q1) xs (o + 16 * q1) (n - 16 * q1) q2
  | 0 => rfl
  | q2 + 1 => by
    rw [← Nat.add_assoc, alled, alled_add z xs o n q1 q2, alled, show o + 16 * (q1 + q2) = o + 16 * q1 + 16 * q2 by omega, show n - 16 * (q1 + q2) = n - 16 * q1 - 16 * q2 by omega]
/-- The sum behind a list of bytes. -/
def blocks (z L : List Int) : List Int := alled z L 0 L.length ((L.length + 15) / 16)
theorem gx_left (a b : List Int) (i : Nat) (h : i < a.length) : gx (a ++ b) i = gx a i := by
  simp [gx, List.getD_eq_getElem?_getD, List.getElem?_append_left h]
theorem gx_right (a b : List Int) (i k : Nat) (h : k = a.length + i) : gx (a ++ b) k = gx b i := by
  subst h
  simp [gx, List.getD_eq_getElem?_getD, List.getElem?_append_right]
theorem blocks_append (z a b : List Int) (h : a.length % 16 = 0) : blocks z (a ++ b) = blocks (blocks z a) b := by
  have e : (a ++ b).length = a.length + b.length := List.length_append
  unfold blocks
  rw [e, show (a.length + b.length + 15) / 16 = a.length / 16 + (b.length + 15) / 16 by omega, alled_add, show (a.length + 15) / 16 = a.length / 16 by omega]
  rw [alled_congr z (a ++ b) a 0 0 (a.length + b.length) a.length (a.length / 16) (fun i hi => ⟨by omega, fun j hj => gx_left a b _ (by omega)⟩)]
  exact alled_congr _ (a ++ b) b _ 0 _ b.length _ (fun i hi => ⟨by omega, fun j hj => gx_right a b _ _ (by omega)⟩)
theorem alled_take (z xs : List Int) (m : Nat) (hm : m ≤ xs.length) : alled z xs 0 m ((m + 15) / 16) = blocks z (xs.take m) := by
  unfold blocks
  rw [List.length_take, Nat.min_eq_left hm]
  refine alled_congr z xs (xs.take m) 0 0 m m _ (fun i hi => ⟨rfl, fun j hj => ?_⟩)
  have : 0 + 16 * i + j < m := by omega
  unfold gx
  rw [List.getD_eq_getElem?_getD, List.getD_eq_getElem?_getD, List.getElem?_take, if_pos this]
theorem bytesOf_append (a b : ByteArray) : bytesOf (a ++ b) = bytesOf a ++ bytesOf b := by
  unfold bytesOf
  rw [data_append, List.map_append]
theorem bytes_pad (n : Nat) : bytesOf (pad n) = List.replicate ((16 - n % 16) % 16) 0 := bytesOf_strOfNums _ (fun x hx => by rw [List.mem_replicate] at hx; omega)
theorem mac_blocks (key s : ByteArray) : macOf key s = tagged (blocks (sum0 key) (bytesOf s)) key := by
  rw [macOf, blocks, bytesOf_length]
theorem drop_range (bs : List Int) (h : ∀ x ∈ bs, 0 ≤ x ∧ x < 256) (m : Nat) : ∀ x ∈ bs.drop m, 0 ≤ x ∧ x < 256 := fun x hx => h x (List.mem_of_mem_drop hx)
/-- All that a tag is made of. -/
def whole (aad : ByteArray) (bs : List Int) : ByteArray := aad ++ pad aad.size ++ strOfNums bs ++ pad bs.length ++ (len8 aad.size ++ len8 bs.length)
theorem tag_mac (key nonce aad : ByteArray) (bs : List Int) (h : ∀ x ∈ bs, 0 ≤ x ∧ x < 256) : tagOf key nonce aad bs = macOf (own key nonce) (Go.Proofs.Ytocckplgjbhlbaa.PureP.whole aad bs) := by
  have hm : bs.length - bs.length % 16 ≤ bs.length := by omega
  have e3 : all3 (own key nonce) aad bs = blocks (sum0 (own key nonce)) (bytesOf (Pol.ahead aad) ++ (bs.take (bs.length - bs.length % 16) ++ bytesOf (behind aad bs))) := by
    rw [blocks_append _ _ _ (by rw [bytesOf_length, Pol.ahead, ByteArray.size_append, pad, strOfNums_size_, List.length_replicate]; omega), blocks_append _ _ _ (by rw [List.length_take]; omega)]
    rw [all3, all2, all1, alled_take _ _ _ hm]
    unfold blocks
    rw [bytesOf_length, bytesOf_length]
  rw [mac_blocks, tagOf, e3]
  have eb : bytesOf (Go.Proofs.Ytocckplgjbhlbaa.PureP.whole aad bs) = bytesOf (Pol.ahead aad) ++ (bs.take (bs.length - bs.length % 16) ++ bytesOf (behind aad bs)) := by
    rw [Go.Proofs.Ytocckplgjbhlbaa.PureP.whole, behind, Pol.ahead]
    simp only [bytesOf_append]
    rw [bytesOf_strOfNums _ h, bytesOf_strOfNums _ (drop_range bs h _)]
    simp only [List.append_assoc]
    rw [← List.append_assoc (List.take _ bs), List.take_append_drop]
  rw [eb]
end Go.Proofs.Ytocckplgjbhlbaa.PureP
