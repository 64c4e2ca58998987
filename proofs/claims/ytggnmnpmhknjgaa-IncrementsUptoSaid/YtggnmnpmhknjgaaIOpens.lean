/- What a slice of texts that comes in holds, as a list; what the bound on its bulk gives. Conditions: each lemma's own. -/
import Derived.Test.YtggnmnpmhknjgaaRows
import Derived.Test.YtggnmnpmhknjgaaInc
import Derived.SliceStrings
import Derived.ChangeSame
namespace Go.Proofs.Ytggnmnpmhknjgaa.opens
open Go.ChangeShapes Go.WideShapes Go.RowKit Go.Proofs.YtggnmnpmhknjgaaW.PrintWords
set_option linter.unusedVariables false
theorem bulk_append {H : Type} (l r : List (DataW H)) : Rows.uptoBulkAll (l ++ r) = Rows.uptoBulkAll l + Rows.uptoBulkAll r := by
  induction l with
  | nil => simp [Rows.uptoBulkAll]
  | cons x l ih => simp only [List.cons_append, Rows.uptoBulkAll, ih]; omega
theorem bulk_cons {H : Type} (d : DataW H) (r : List (DataW H)) : Rows.uptoBulkAll (d :: r) = Rows.uptoBulk d + Rows.uptoBulkAll r := by simp only [Rows.uptoBulkAll]
theorem bound {H : Type} {l : List (DataW H)} (hk : Rows.uptoSmall H l = true) : Rows.uptoBulkAll l ≤ 1048576 := of_decide_eq_true hk
theorem bulk_strs {H : Type} : ∀ ss : List ByteArray, Rows.uptoBulkAll (strs (H := H) ss) = (ss.map ByteArray.size).sum + ss.length
  | [] => by simp [strs, Rows.uptoBulkAll]
  | s :: ss => by
    have ih := bulk_strs (H := H) ss
    have e : s.data.toList.length = s.size := by rw [Array.length_toList]; rfl
    unfold strs at ih ⊢
    simp only [List.map_cons, Rows.uptoBulkAll, Rows.uptoBulk, List.sum_cons, List.length_cons, ih, e]
    omega
theorem open_parts {H : Type} {enc : TypeId × Value → H} {W : World} {spare : Nat → Bool} {held : Bool} {fuel : Nat} {a : Option Addr} {len cap : Nat} {x : DataW H × List MemPlace}
    (h : DataW.trod enc Try.prog W 0 spare held fuel 23 [.slice a len cap] = some x) :
    ∃ l : List ByteArray, len = l.length ∧ len ≤ cap ∧ Kd.C Kd.string W a len l ∧ (l.map ByteArray.size).sum + l.length ≤ Rows.uptoBulk x.1 := by
  rcases open_strings Try.underlying23 Try.underlying9 (by kernel_rfl) h with ⟨hcs, rfl⟩ | ⟨ad, len', cap', ss, hcs, _, hl, hm, hz, hx, hcell, _⟩
  · simp at hcs
    obtain ⟨rfl, rfl, rfl⟩ := hcs
    exact ⟨[], rfl, Nat.le_refl _, ⟨rfl, by omega, fun h => by omega⟩, by simp⟩
  · simp at hcs
    obtain ⟨rfl, rfl, rfl⟩ := hcs
    have hle : len ≤ ss.length := by rw [hz]; split <;> omega
    have hlen : len = (ss.take len).length := by rw [List.length_take]; omega
    refine ⟨ss.take len, hlen, hl, ?_, ?_⟩
    · refine ⟨hlen.symm, by unfold maxLen at hm; omega, fun _ => ⟨ad, rfl, fun j p hp => ?_⟩⟩
      have hj : j < len := by
        rcases Nat.lt_or_ge j len with h | h
        · exact h
        · rw [List.getElem?_take, if_neg (by omega)] at hp
          cases hp
      rw [List.getElem?_take, if_pos hj] at hp
      refine ⟨[.string p], rfl, rfl, ?_⟩
      intro i u hu
      match i, hu with
      | 0, hu =>
        simp at hu
        subst hu
        have := hcell j (by omega)
        rw [List.getD_eq_getElem?_getD, hp] at this
        show W.cell? (ad.add (j * 1 + 0)) = _
        rw [Nat.mul_one, Nat.add_zero]
        exact this
      | i + 1, hu => simp at hu
    · rw [hx]
      simp only [Rows.uptoBulk]
      have := bulk_strs (H := H) (ss.take len)
      omega
end Go.Proofs.Ytggnmnpmhknjgaa.opens
