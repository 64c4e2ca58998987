/- Proved: a vector that is cut is told so, wherever it is cut, and a whole one between other bytes is read (halberdlaw1.WireCuts answers true at every input). Conditions: none beside the given statement's own. -/
import Derived.Test.YtggnmnpmhknjgaaXx12
import Derived.Test.YtggnmnpmhknjgaaXx15
import Derived.Test.YtggnmnpmhknjgaaPureLib
namespace Go.Proofs.Ytggnmnpmhknjgaa.Pure
open Go.RowKit Go.Proofs.Ytggnmnpmhknjgaa.X Go.Proofs.YtggnmnpmhknjgaaW.PrintWords Go.Proofs.YtggnmnpmhknjgaaW.PrintLast Go.Proofs.YtggnmnpmhknjgaaW.PrintMore
set_option linter.unusedVariables false
set_option linter.unusedSimpArgs false

theorem sizeK (a : Int) : ∃ n : Nat, 1 ≤ n ∧ n ≤ 3 ∧ wrap64 (1 + wrap64 (Int.tmod (IntKind.u64.wrap a) 3)) = n := by
  rw [u64_wrap, Int.tmod_eq_emod_of_nonneg (by omega)]
  refine ⟨(1 + a % 18446744073709551616 % 3).toNat, by omega, by omega, ?_⟩
  unfold wrap64
  omega
theorem vec_cut {t : ByteArray} {n m : Nat} (h1 : 1 ≤ n) (h3 : n ≤ 3) (ht : t.size ≤ 255) (hm : m < n + t.size) :
    Ev (fun k => wire_Vec.f k ((strOfNums (beL n t.size) ++ t).extract 0 m) 0 n) ((⟨#[]⟩ : ByteArray), 0, 100) := by
  have hb : bytesOf ((strOfNums (beL n t.size) ++ t).extract 0 m) = (beL n t.size ++ bytesOf t).take m := by
    rw [bytesOf_extract, bytesOf_app, bytesOf_strOf (beL_byte _ _)]
    simp
  have hz : ((strOfNums (beL n t.size) ++ t).extract 0 m).size = m := by
    rw [← bytesOf_length, hb, List.length_take, List.length_append, beL_length, bytesOf_length]
    omega
  have hv := vec_ok (s := (strOfNums (beL n t.size) ++ t).extract 0 m) (a := 0) (n := n) h1 h3 (by rw [hz]; omega)
  unfold vecOf at hv
  rw [hz] at hv
  by_cases hc : m < n
  · rw [if_pos (by omega)] at hv
    exact hv
  · have hf : From ((strOfNums (beL n t.size) ++ t).extract 0 m) 0 (beL n t.size ++ (bytesOf t).take (m - n)) := by
      refine ⟨Nat.zero_le _, ?_⟩
      rw [hb, List.drop_zero, List.take_append, beL_length, List.take_of_length_le (by rw [beL_length]; omega)]
    have e := hf.number.1
    have hp := pow_pos_ge n h1 h3
    have e1 : nv ((strOfNums (beL n t.size) ++ t).extract 0 m) 0 n = t.size := by
      have e2 : nv ((strOfNums (beL n t.size) ++ t).extract 0 m) ((0 : Nat) : Int) n = t.size := by rw [e]; exact Int.emod_eq_of_lt (by omega) (by omega)
      exact e2
    rw [if_neg (by omega), e1, if_pos (by omega)] at hv
    exact hv
theorem bytes_z : bytesOf (⟨#[122]⟩ : ByteArray) = [122] := rfl
theorem cuts_j0 (t : ByteArray) (ht : t.size ≤ 200) (x y : Int) : Ev (fun k => halberdlaw1_WireCuts.j0 k x y t) true := by
  obtain ⟨n, h1, h3, hn⟩ := sizeK x
  have hp := putT t n h1 h3 (by omega)
  generalize hv : strOfNums (beL n t.size) ++ t = v at hp
  have hz : v.size = n + t.size := by rw [← hv, ByteArray.size_append, strOf_size, beL_length]
  have hb : bytesOf v = beL n t.size ++ bytesOf t := by rw [← hv, bytesOf_app, bytesOf_strOf (beL_byte _ _)]
  have hu : IntKind.u64.wrap (v.size : Int) = (v.size : Int) := by rw [u64_wrap]; omega
  obtain ⟨m, hm, hmv⟩ : ∃ m : Nat, m < v.size ∧ wrap64 (Int.tmod (IntKind.u64.wrap y) (v.size : Int)) = m := by
    rw [u64_wrap, Int.tmod_eq_emod_of_nonneg (by omega)]
    have h0 := Int.emod_nonneg (y % 18446744073709551616) (b := (v.size : Int)) (by omega)
    have hl := Int.emod_lt_of_pos (y % 18446744073709551616) (b := (v.size : Int)) (by omega)
    refine ⟨(y % 18446744073709551616 % (v.size : Int)).toNat, by omega, ?_⟩
    rw [w64 (by omega) (by omega)]
    omega
  have hc := vec_cut (t := t) (n := n) (m := m) h1 h3 (by omega) (by omega)
  rw [hv] at hc
  have hf : From (((⟨#[122]⟩ : ByteArray) ++ v) ++ (⟨#[122]⟩ : ByteArray)) 1 (beL n t.size ++ (bytesOf t ++ [122])) := by
    refine ⟨by rw [ByteArray.size_append, ByteArray.size_append]; have : (⟨#[122]⟩ : ByteArray).size = 1 := rfl; omega, ?_⟩
    rw [bytesOf_app, bytesOf_app, bytes_z, hb]
    simp
  have z1 : (⟨#[122]⟩ : ByteArray).size = 1 := rfl
  have hs2 : (((⟨#[122]⟩ : ByteArray) ++ v) ++ (⟨#[122]⟩ : ByteArray)).size ≤ 140737488351232 := by rw [ByteArray.size_append, ByteArray.size_append]; omega
  obtain ⟨hw, _⟩ := vec_at h1 h3 (by omega) hs2 hf
  have hU := U16_any v ((v.size : Int) - 1) (by omega)
  have hX := U32_any v (-1) (by omega)
  unfold numOf at hU hX
  rw [if_pos (by omega)] at hU hX
  refine Ev.step (f := fun k => (wire_PutVec.f t (n : Int)).bind _) (fun k => by simp only [halberdlaw1_WireCuts.j0]; rw [hn]) ?_
  refine Ev.bind (ev_const hp) ?_
  have hmn : ((m : Int)).toNat = m := by omega
  simp only [hu, hmv, hmn]
  refine evNeg (by omega) ?_
  refine evPos (by omega) ?_
  refine evPos (by omega) ?_
  refine Ev.bind hc ?_
  refine evPos (by omega) ?_
  refine evPos (by rw [ByteArray.size_append]; omega) ?_
  refine Ev.bind hw ?_
  simp only [w64 (a := (v.size : Int) - 1) (by omega) (by omega)]
  refine Ev.bind hU ?_
  refine Ev.bind hX ?_
  refine ev_const ?_
  refine bindE (num_f _) ?_
  rw [if_pos rfl]
  refine bindE (num_f _) ?_
  rw [if_pos rfl, if_pos trivial, w64 (by omega) (by omega), if_pos (by omega)]
  refine bindE (num_f _) ?_
  rw [if_pos rfl]
  refine bindE (num_f _) ?_
  rw [if_pos rfl]
  rfl
/-- The given statement's pure form. -/
theorem WireCuts : halberdlaw1_WireCuts.Pure := by
  intro s x y hs _ _
  unfold halberdlaw1_WireCuts.f
  by_cases h : (s.size : Int) > 200
  · have hx : (s.extract 0 200).size ≤ 200 := by rw [ByteArray.size_extract]; omega
    obtain ⟨k, hk⟩ := (cuts_j0 _ hx x y).rounds
    refine ⟨k, ?_⟩
    refine bindE aw ?_
    rw [if_pos rfl, if_pos h, if_pos (by omega), if_pos (by omega)]
    exact hk
  · obtain ⟨k, hk⟩ := (cuts_j0 s (by omega) x y).rounds
    refine ⟨k, ?_⟩
    refine bindE aw ?_
    rw [if_pos rfl, if_neg h]
    exact hk

end Go.Proofs.Ytggnmnpmhknjgaa.Pure
