/- Lemmas: extensions come back in their row (halberdlaw16.ExtBack's pure form, below a bound). Conditions: each lemma's own. -/
import Derived.Test.YtlkebjkpmiehcaaEx7
import Derived.Test.YtlkebjkpmiehcaaEPureBack
namespace Go.Proofs.Ytlkebjkpmiehcaa.Pure
open Go.RowKit Go.Proofs.Ytlkebjkpmiehcaa.E Go.Proofs.YtlkebjkpmiehcaaW.PrintWords Go.Proofs.YtlkebjkpmiehcaaW.PrintLast Go.Proofs.YtlkebjkpmiehcaaW.PrintMore
set_option linter.unusedVariables false
set_option linter.unusedSimpArgs false

theorem same_loop (l : List S41) (hl : l.length ≤ 16777216) : ∀ d j : Nat, j + d = l.length → Ev (fun k => halberdlaw0_SameExts.l0 k l l j) true := by
  intro d
  induction d with
  | zero =>
    intro j hj
    refine Ev.step (fun k => rfl) ?_
    simp only [halberdlaw0_SameExts.l0]
    exact evNeg (by omega) (Ev.now _)
  | succ d ih =>
    intro j hj
    refine Ev.step (fun k => rfl) ?_
    simp only [halberdlaw0_SameExts.l0]
    refine evPos (by omega) (evPos (by omega) (evPos (by omega) (evNeg (by simp) ?_)))
    have e : wrap64 ((j : Int) + 1) = ((j + 1 : Nat) : Int) := by rw [w64 (by omega) (by omega)]; omega
    rw [e]
    exact ih (j + 1) (by omega)
theorem same_self (l : List S41) (hl : l.length ≤ 16777216) : Ev (fun k => halberdlaw0_SameExts.f k l l) true := by
  have h := same_loop l hl l.length 0 (by omega)
  refine Ev.congr (f := fun k => halberdlaw0_SameExts.l0 k l l 0) (fun k => ?_) h
  unfold halberdlaw0_SameExts.f
  rw [if_pos rfl]
theorem weigh_len : ∀ l : List S41, 4 * l.length ≤ (l.map fun x => x.f1.size + 4).sum
  | [] => by simp
  | x :: l => by
    have := weigh_len l
    simp only [List.length_cons, List.map_cons, List.sum_cons]
    omega
theorem weigh_mem : ∀ {l : List S41} {x : S41}, x ∈ l → x.f1.size ≤ (l.map fun x => x.f1.size + 4).sum
  | y :: l, x, h => by
    simp only [List.map_cons, List.sum_cons]
    rcases List.mem_cons.mp h with rfl | h
    · omega
    · have := weigh_mem h
      omega
theorem weigh_enc : ∀ l : List S41, (encL l).length = (l.map fun x => x.f1.size + 4).sum
  | [] => rfl
  | x :: l => by
    have h := weigh_enc l
    have e : encL (x :: l) = bytesOf (encE x) ++ encL l := by simp [encL]
    rw [e, List.length_append, bytesOf_length, encE_len, h]
    simp only [List.map_cons, List.sum_cons]
    omega
/-- The given statement's pure form, below a bound. -/
theorem ExtBack (l : List S41) (s : ByteArray) (hl : (l.map fun x => x.f1.size + 4).sum ≤ 4194304) (hs : s.size ≤ 1048576) : ∃ k, halberdlaw16_ExtBack.f k l s = some true := by
  have h4 := weigh_len l
  obtain ⟨K1, k1⟩ := put_any l (by omega) (fun x hx => by have := weigh_mem hx; omega)
  obtain ⟨K2, k2⟩ := get_any s (by omega)
  have hw : ∃ K, ∀ n, K ≤ n → halberdlaw16_ExtBack.j0 (n + 1) s = some true := by
    by_cases h0 : (getOf s).2 = 0
    · obtain ⟨e1, e2, e3⟩ := getOf_is h0
      have hlen := encL_len (getOf s).1
      rw [← e1, bytesOf_length] at hlen
      obtain ⟨K3, k3⟩ := put_any (getOf s).1 (by omega) (fun x hx => by have := (e2 x hx).2.2; omega)
      rw [putL_ok _ _ e2, List.nil_append, if_neg (by rw [e3]; decide)] at k3
      refine ⟨K2 + K3, fun n hn => ?_⟩
      simp only [halberdlaw16_ExtBack.j0]
      refine bindE (k2 n (by omega)) ?_
      rw [num_f, Option.bind_some, if_pos h0]
      refine bindE (k3 n (by omega)) ?_
      rw [num_f, Option.bind_some, if_pos rfl]
      have e : encs (getOf s).1 = s := bytesOf_inj (by rw [encs_bytes, e1])
      rw [e]
      simp
    · refine ⟨K2, fun n hn => ?_⟩
      simp only [halberdlaw16_ExtBack.j0]
      refine bindE (k2 n (by omega)) ?_
      rw [num_f, Option.bind_some, if_neg h0, getOf_no h0]
      simp
  obtain ⟨K4, k4⟩ := hw
  by_cases h0 : (putL [] l).2 = 0
  · obtain ⟨e1, e2, e3⟩ := putL_is h0
    rw [e1] at k1
    have hsz : (encs l).size ≤ 4194304 := by rw [← bytesOf_length, encs_bytes, weigh_enc]; exact hl
    obtain ⟨K5, k5⟩ := get_any (encs l) (by omega)
    rw [getOf_enc (encs_bytes l) e2, if_neg (by rw [e3]; decide)] at k5
    obtain ⟨K6, k6⟩ := same_self l (by omega)
    refine ⟨K1 + K4 + K5 + K6 + 1, ?_⟩
    unfold halberdlaw16_ExtBack.f
    rw [aw, Option.bind_some, if_pos rfl]
    refine bindE (k1 _ (by omega)) ?_
    rw [num_f, Option.bind_some, if_pos rfl]
    refine bindE (k5 _ (by omega)) ?_
    rw [num_f, Option.bind_some, if_pos rfl]
    refine bindE (k6 _ (by omega)) ?_
    rw [if_pos rfl]
    exact k4 _ (by omega)
  · refine ⟨K1 + K4 + 1, ?_⟩
    unfold halberdlaw16_ExtBack.f
    rw [aw, Option.bind_some, if_pos rfl]
    refine bindE (k1 _ (by omega)) ?_
    rw [num_f, Option.bind_some, if_neg h0]
    exact k4 _ (by omega)

end Go.Proofs.Ytlkebjkpmiehcaa.Pure
