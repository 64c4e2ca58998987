/- Proved: a message that is fed byte by byte, with empty feeds between, comes out whole at its last byte, and not before (halberdlaw18.IncrBytes answers true at every input). Conditions: none beside the given statement's own. -/
import Derived.Test.YtggnmnpmhknjgaaYx2
import Derived.Test.YtggnmnpmhknjgaaYx4
import Derived.Test.YtggnmnpmhknjgaaYPureIncr
namespace Go.Proofs.Ytggnmnpmhknjgaa.Pure
open Go.RowKit Go.Proofs.Ytggnmnpmhknjgaa.Y Go.Proofs.YtggnmnpmhknjgaaW.PrintWords Go.Proofs.YtggnmnpmhknjgaaW.PrintLast Go.Proofs.YtggnmnpmhknjgaaW.PrintMore
set_option linter.unusedVariables false
set_option linter.unusedSimpArgs false

theorem bytes0 : bytesOf (⟨#[0]⟩ : ByteArray) = [0] := rfl
theorem take_one (s : ByteArray) (i : Nat) : s.extract 0 i ++ s.extract i (i + 1) = s.extract 0 (i + 1) := by
  apply bytesOf_inj
  rw [bytesOf_app, bytesOf_extract, bytesOf_extract, bytesOf_extract]
  simp only [List.drop_zero, Nat.sub_zero]
  rw [Nat.add_sub_cancel_left, List.take_add]
def heldAt (s : ByteArray) (i : Nat) : ByteArray := if i < s.size then s.extract 0 i else (⟨#[]⟩ : ByteArray)
theorem mn_le (x : ByteArray) : ∃ m : Nat, mn (x.size : Int) 2 = m ∧ m ≤ 2 ∧ m ≤ x.size := by
  unfold mn
  by_cases h : (2 : Int) < (x.size : Int)
  · exact ⟨2, by rw [if_pos h]; rfl, by omega, by omega⟩
  · exact ⟨x.size, by rw [if_neg h], by omega, by omega⟩
theorem pre_size (s : ByteArray) (i : Nat) (h : i ≤ s.size) : (s.extract 0 i).size = i := by rw [ByteArray.size_extract]; omega
section
variable (s : ByteArray) (x0 x1 x2 x3 : Int) (l : List Int) (hb : bytesOf s = x0 :: x1 :: x2 :: x3 :: l) (hn : (x1 * 256 + x2) * 256 + x3 + 4 = s.size) (hs : s.size ≤ 1000)
include hb hn hs
theorem pre_waits (i : Nat) (h : i < s.size) : (s.extract 0 i).size < 4 ∨ (nv (s.extract 0 i) 1 3 + 4 ≤ 65536 ∧ ((s.extract 0 i).size : Int) < nv (s.extract 0 i) 1 3 + 4) := by
  have hz := pre_size s i (by omega)
  by_cases c : i < 4
  · left; omega
  · right
    obtain ⟨j, rfl⟩ : ∃ j, i = j + 4 := ⟨i - 4, by omega⟩
    have e : bytesOf (s.extract 0 (j + 4)) = x0 :: x1 :: x2 :: x3 :: l.take j := by
      rw [bytesOf_extract, hb]
      simp
    have h2 := (header e).2
    rw [h2, hz]
    omega
theorem bytes_loop (more : ByteArray) : ∀ d i : Nat, i + d = s.size → Ev (fun k => halberdlaw18_IncrBytes.l0 k more s (i : Int) (heldAt s i) false) true := by
  intro d
  induction d with
  | zero =>
    intro i hi
    have e0 : heldAt s i = (⟨#[]⟩ : ByteArray) := by unfold heldAt; rw [if_neg (by omega)]
    rw [e0]
    obtain ⟨m, hm, hm2, hmx⟩ := mn_le more
    have z0 : (⟨#[0]⟩ : ByteArray).size = 1 := rfl
    have zx : (more.extract 0 m).size = m := by rw [ByteArray.size_extract]; omega
    have zz : ((⟨#[0]⟩ : ByteArray) ++ more.extract 0 m).size = 1 + m := by rw [ByteArray.size_append, z0, zx]
    have ze : (⟨#[]⟩ : ByteArray).size = 0 := rfl
    have hf := feed_ok (⟨#[]⟩ : ByteArray) ((⟨#[0]⟩ : ByteArray) ++ more.extract 0 m) (by omega)
    rw [none_app, drain_wait (by left; omega)] at hf
    refine Ev.step (f := fun k => (incr_Decoder_Feed.f k (⟨#[]⟩ : ByteArray) false ((⟨#[0]⟩ : ByteArray) ++ more.extract 0 m)).bind _) (fun k => by
      simp only [halberdlaw18_IncrBytes.l0]
      rw [if_neg (by omega), hm, if_pos (by omega), if_pos (by omega)]
      have hmn : ((m : Int)).toNat = m := by omega
      rw [hmn, if_pos (by omega)]) ?_
    refine Ev.bind hf (ev_const ?_)
    rw [if_pos (by rfl)]
    refine bindE (num_f _) ?_
    rw [if_pos rfl]
    refine bindE (held_f _ _) ?_
    have : (((((⟨#[0]⟩ : ByteArray) ++ more.extract 0 m).size : Nat) : Int) == 1 + (m : Int)) = true := by rw [zz]; exact beq_iff_eq.mpr (by omega)
    simp only [this]
  | succ d ih =>
    intro i hi
    have e0 : heldAt s i = s.extract 0 i := by unfold heldAt; rw [if_pos (by omega)]
    rw [e0]
    have zi := pre_size s i (by omega)
    have ze : (⟨#[]⟩ : ByteArray).size = 0 := rfl
    have f1 := feed_ok (s.extract 0 i) (⟨#[]⟩ : ByteArray) (by omega)
    rw [app_none, drain_wait (pre_waits s x0 x1 x2 x3 l hb hn hs i (by omega))] at f1
    have zo : (s.extract i (i + 1)).size = 1 := by rw [ByteArray.size_extract]; omega
    have f2 := feed_ok (s.extract 0 i) (s.extract i (i + 1)) (by omega)
    rw [take_one] at f2
    have i1 := ih (i + 1) (by omega)
    refine Ev.step (f := fun k => (incr_Decoder_Feed.f k (s.extract 0 i) false (⟨#[]⟩ : ByteArray)).bind _) (fun k => by
      simp only [halberdlaw18_IncrBytes.l0]
      rw [if_pos (by omega)]) ?_
    refine Ev.bind f1 ?_
    have w1 : wrap64 ((i : Int) + 1) = ((i + 1 : Nat) : Int) := by rw [w64 (by omega) (by omega)]; omega
    have n1 : ((i : Int)).toNat = i := by omega
    have n2 : (((i + 1 : Nat) : Int)).toNat = i + 1 := by omega
    simp only [w1, n1, n2]
    refine evPos (by omega) ?_
    refine evPos (by omega) ?_
    refine evPos (by omega) ?_
    by_cases hl : i + 1 = s.size
    · have full : s.extract 0 (i + 1) = s := by rw [hl, extract_all]
      have h2 := (header hb).2
      have hsz := (header hb).1
      rw [full] at f2
      rw [drain_take (by omega) (by rw [h2]; omega) (by rw [h2]; omega)] at f2
      have nn : (nv s 1 3 + 4).toNat = s.size := by rw [h2]; omega
      rw [nn, extract_all, extract_none, drain_wait (by left; omega)] at f2
      have eh : heldAt s (i + 1) = (⟨#[]⟩ : ByteArray) := by unfold heldAt; rw [if_neg (by omega)]
      rw [eh] at i1
      refine Ev.bind f2 ?_
      refine Ev.bind (ev_const (num_f _)) ?_
      refine evPos rfl ?_
      refine Ev.bind (ev_const (num_f _)) ?_
      refine evPos rfl ?_
      refine evPos (by rfl) ?_
      refine evPos (by omega) ?_
      refine evPos (by rfl) ?_
      refine evPos (by simp) ?_
      refine evPos (by rfl) ?_
      exact i1
    · rw [drain_wait (pre_waits s x0 x1 x2 x3 l hb hn hs (i + 1) (by omega))] at f2
      have zi1 := pre_size s (i + 1) (by omega)
      have eh : heldAt s (i + 1) = s.extract 0 (i + 1) := by unfold heldAt; rw [if_pos (by omega)]
      rw [eh] at i1
      refine Ev.bind f2 ?_
      refine Ev.bind (ev_const (num_f _)) ?_
      refine evPos rfl ?_
      refine Ev.bind (ev_const (num_f _)) ?_
      refine evPos rfl ?_
      refine evPos (by rfl) ?_
      refine evNeg (by omega) ?_
      refine evNeg (by simp) ?_
      refine Ev.bind (ev_const (held_f _ _)) ?_
      refine evPos (by rw [zi1]) ?_
      exact i1
end
theorem bytes_j0 (a0 : Int) (more b : ByteArray) (hb : b.size ≤ 400) : Ev (fun k => halberdlaw18_IncrBytes.j0 k a0 more b) true := by
  have hbyte : Byte [a0 % 256, 0, (b.size : Int) / 256 % 256, (b.size : Int) % 256] := by
    intro x hx
    simp only [List.mem_cons, List.not_mem_nil, or_false] at hx
    rcases hx with rfl | rfl | rfl | rfl <;> omega
  have e : bytesOf (strOfNums [a0 % 256, 0, (b.size : Int) / 256 % 256, (b.size : Int) % 256] ++ b) = a0 % 256 :: 0 :: (b.size : Int) / 256 % 256 :: (b.size : Int) % 256 :: bytesOf b := by
    rw [bytesOf_app, bytesOf_strOf hbyte]
    rfl
  have zs : (strOfNums [a0 % 256, 0, (b.size : Int) / 256 % 256, (b.size : Int) % 256]).size = 4 := by rw [strOf_size]; rfl
  have zz : (strOfNums [a0 % 256, 0, (b.size : Int) / 256 % 256, (b.size : Int) % 256] ++ b).size = 4 + b.size := by rw [ByteArray.size_append, zs]
  have hl := bytes_loop _ _ _ _ _ _ e (by rw [zz]; omega) (by omega) more (4 + b.size) 0 (by omega)
  have eh : heldAt (strOfNums [a0 % 256, 0, (b.size : Int) / 256 % 256, (b.size : Int) % 256] ++ b) 0 = (⟨#[]⟩ : ByteArray) := by
    unfold heldAt
    rw [if_pos (by omega)]
    apply bytesOf_inj
    rw [bytesOf_extract]
    rfl
  rw [eh] at hl
  refine Ev.step (f := fun k => halberdlaw18_IncrBytes.l0 k more (strOfNums [a0 % 256, 0, (b.size : Int) / 256 % 256, (b.size : Int) % 256] ++ b) 0 (⟨#[]⟩ : ByteArray) false) (fun k => ?_) hl
  simp only [halberdlaw18_IncrBytes.j0]
  refine bindE rfl ?_
  rw [if_pos (by omega)]
  refine bindE new_f ?_
  rfl
/-- The given statement's pure form. -/
theorem IncrBytes : halberdlaw18_IncrBytes.Pure := by
  intro a0 b more _ _ _
  unfold halberdlaw18_IncrBytes.f
  by_cases h : (b.size : Int) > 400
  · have hx : (b.extract 0 400).size ≤ 400 := by rw [ByteArray.size_extract]; omega
    obtain ⟨k, hk⟩ := (bytes_j0 a0 more _ hx).rounds
    refine ⟨k, ?_⟩
    refine bindE aw18 ?_
    rw [if_pos rfl, if_pos h, if_pos (by omega), if_pos (by omega)]
    exact hk
  · obtain ⟨k, hk⟩ := (bytes_j0 a0 more b (by omega)).rounds
    refine ⟨k, ?_⟩
    refine bindE aw18 ?_
    rw [if_pos rfl, if_neg h]
    exact hk

end Go.Proofs.Ytggnmnpmhknjgaa.Pure
