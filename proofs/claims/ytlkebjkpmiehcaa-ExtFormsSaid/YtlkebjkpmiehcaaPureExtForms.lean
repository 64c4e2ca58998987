/- Proved: which numbers and bodies an extension may have, and that one number is there once (halberdlaw16.ExtForms answers true at every input). Conditions: none beside the given statement's own. -/
import Derived.Test.YtlkebjkpmiehcaaEx6
import Derived.Test.YtlkebjkpmiehcaaEPureBack
namespace Go.Proofs.Ytlkebjkpmiehcaa.Pure
open Go.RowKit Go.Proofs.Ytlkebjkpmiehcaa.E Go.Proofs.YtlkebjkpmiehcaaW.PrintWords Go.Proofs.YtlkebjkpmiehcaaW.PrintLast Go.Proofs.YtlkebjkpmiehcaaW.PrintMore
set_option linter.unusedVariables false
set_option linter.unusedSimpArgs false

theorem and_15 (x : Int) : Go.bits .and .i64 x 15 = x % 16 := and_mask x 4 (by decide)
theorem and_1 (x : Int) : Go.bits .and .i64 x 1 = x % 2 := and_mask x 1 (by decide)
theorem and_65535 (x : Int) : Go.bits .and .i64 x 65535 = x % 65536 := and_mask x 16 (by decide)
theorem xor_1 {g : Int} (h0 : 0 ≤ g) (h1 : g < 65536) : 0 ≤ Go.bits .xor .i64 g 1 ∧ Go.bits .xor .i64 g 1 ≤ 65535 := by
  obtain ⟨n, rfl⟩ : ∃ n : Nat, g = n := ⟨g.toNat, by omega⟩
  have e0 : Go.bits .xor .i64 (n : Int) 1 = IntKind.i64.wrap (((BitVec.ofInt 64 (n : Int) ^^^ BitVec.ofInt 64 1).toNat : Nat) : Int) := rfl
  have hn : n < 2 ^ 16 := by omega
  have hx : n ^^^ 1 < 2 ^ 16 := Nat.xor_lt_two_pow hn (by decide)
  have e : (BitVec.ofInt 64 (n : Int) ^^^ BitVec.ofInt 64 1).toNat = n ^^^ 1 := by
    rw [BitVec.toNat_xor, BitVec.ofInt_natCast, BitVec.toNat_ofNat, Nat.mod_eq_of_lt (by omega)]
    rfl
  rw [e0, e, wraps_i64 _ (by omega) (by omega)]
  omega
theorem zeros_size (n : Nat) : (strOfNums (List.replicate n 0)).size = n := by rw [strOf_size, List.length_replicate]
/-- The given statement's pure form. -/
theorem ExtForms : halberdlaw16_ExtForms.Pure := by
  intro a b c ha hb hc
  have ha := wf64 ha
  have hb := wf64 hb
  have hc := wf64 hc
  generalize hk : 65530 + b % 16 = k
  generalize hg : c % 65536 = g
  obtain ⟨x0, x1⟩ := xor_1 (g := g) (by omega) (by omega)
  generalize hX : Go.bits .xor .i64 g 1 = X at x0 x1
  generalize hy : (strOfNums [g / 256 % 256, Go.bits .and .i64 g 255 % 256, 0, 0] : ByteArray) = y
  have eg : Go.bits .and .i64 g 255 % 256 = g % 256 := by rw [and_255]; omega
  have yb : bytesOf y = [g / 256 % 256, g % 256, 0, 0] := by
    rw [← hy, eg]
    refine bytesOf_strOf ?_
    intro z hz
    simp at hz
    omega
  have ys : y.size = 4 := by rw [← bytesOf_length, yb]; rfl
  have yE : bytesOf y = bytesOf (encE ⟨g, ⟨#[]⟩⟩) := by rw [encE_bytes, yb, beL2, beL2]; simp [bytesOf, ByteArray.size]
  have og : okE (⟨g, ⟨#[]⟩⟩ : S41) := by
    refine ⟨?_, ?_, ?_⟩
    · show (0 : Int) ≤ g; omega
    · show g ≤ 65535; omega
    · simp [ByteArray.size]
  obtain ⟨K1, k1⟩ := put_any [⟨7, strOfNums (List.replicate k.toNat 0)⟩] (by simp) (by intro x hx; simp at hx; subst hx; simp only [zeros_size]; omega)
  obtain ⟨K2, k2⟩ := put_any [⟨a, ⟨#[]⟩⟩] (by simp) (by intro x hx; simp at hx; subst hx; simp [ByteArray.size])
  obtain ⟨K3, k3⟩ := put_any [⟨g, ⟨#[97]⟩⟩, ⟨X, ⟨#[]⟩⟩, ⟨g, ⟨#[]⟩⟩] (by simp) (by intro x hx; simp at hx; rcases hx with rfl | rfl | rfl <;> simp [ByteArray.size])
  obtain ⟨K4, k4⟩ := get_any (y ++ y) (by rw [ByteArray.size_append]; omega)
  obtain ⟨K5, k5⟩ := get_any y (by omega)
  obtain ⟨K6, k6⟩ := get_any (y.extract 0 (1 + c % 2).toNat) (by rw [ByteArray.size_extract]; omega)
  have g4 : getOf (y ++ y) = ([], 1601) := by
    rw [getOf_enc (l := [⟨g, ⟨#[]⟩⟩, ⟨g, ⟨#[]⟩⟩]) (by rw [bytesOf_app, yE]; simp [encL]) (by intro x hx; simp at hx; subst hx; exact og)]
    rw [if_pos]
    simp [kindsOf, dupB]
  have g5 : getOf y = ([⟨g, ⟨#[]⟩⟩], 0) := by
    rw [getOf_enc (l := [⟨g, ⟨#[]⟩⟩]) (by rw [yE]; simp [encL]) (by intro x hx; simp at hx; subst hx; exact og)]
    rw [if_neg]
    simp [kindsOf, dupB]
  have g6 : getOf (y.extract 0 (1 + c % 2).toNat) = ([], 1600) := get_short (by rw [ByteArray.size_extract]; omega) (by rw [ByteArray.size_extract]; omega)
  have p3 : putL [] [⟨g, ⟨#[97]⟩⟩, ⟨X, ⟨#[]⟩⟩, ⟨g, ⟨#[]⟩⟩] = (⟨#[]⟩, 1601) := by
    rw [putL_ok _ _ (by
      intro x hx
      simp at hx
      rcases hx with rfl | rfl | rfl
      · exact ⟨og.1, og.2.1, by simp [ByteArray.size]⟩
      · exact ⟨x0, x1, by simp [ByteArray.size]⟩
      · exact og), if_pos]
    simp [kindsOf, dupB]
  have p1 : putL [] [⟨7, strOfNums (List.replicate k.toNat 0)⟩] = if k ≤ 65535 then (encs [⟨7, strOfNums (List.replicate k.toNat 0)⟩], 0) else (⟨#[]⟩, 1600) := by
    by_cases h : k ≤ 65535
    · rw [if_pos h, putL_ok _ _ (by intro x hx; simp at hx; subst hx; exact ⟨by simp, by simp, by simp only [zeros_size]; omega⟩), if_neg]
      · rfl
      · simp [kindsOf, dupB]
    · rw [if_neg h, putL_no]
      intro hh
      have := (hh _ (List.mem_singleton.mpr rfl)).2.2
      simp only [zeros_size] at this
      omega
  have s1 : k ≤ 65535 → ((encs [⟨7, strOfNums (List.replicate k.toNat 0)⟩]).size : Int) = k + 4 := by
    intro h
    rw [← bytesOf_length, encs_bytes]
    simp only [encL, List.flatMap_cons, List.flatMap_nil, List.append_nil, bytesOf_length, encE_len, zeros_size]
    omega
  have p2 : putL [] [⟨a, ⟨#[]⟩⟩] = if 0 ≤ a ∧ a ≤ 65535 then (encs [⟨a, ⟨#[]⟩⟩], 0) else (⟨#[]⟩, 1600) := by
    by_cases h : 0 ≤ a ∧ a ≤ 65535
    · rw [if_pos h, putL_ok _ _ (by intro x hx; simp at hx; subst hx; exact ⟨h.1, h.2, by simp [ByteArray.size]⟩), if_neg]
      · rfl
      · simp [kindsOf, dupB]
    · rw [if_neg h, putL_no]
      intro hh
      have := hh _ (List.mem_singleton.mpr rfl)
      exact h ⟨this.1, this.2.1⟩
  rw [p1] at k1
  rw [p2] at k2
  rw [p3] at k3
  rw [g4] at k4
  rw [g5] at k5
  rw [g6] at k6
  have key : ∀ (n : Nat) (t : ByteArray) (e : Int) (i : Bool) (f : Int), K3 + K4 + K5 + K6 ≤ n → (i = true → e = 0 ∧ (t.size : Int) = k + 4) → (i = false → e = 1600) → ∀ j : Bool, (j = true → f = 0) → (j = false → f = 1600) →
      halberdlaw16_ExtForms.j0 (n + 1) c k t e i f j = some true := by
    intro n t e i f hn h1 h2 j h3 h4
    simp only [halberdlaw16_ExtForms.j0, and_65535, hg, and_1, hX, hy]
    refine bindE (k3 n (by omega)) ?_
    refine bindE rfl ?_
    rw [hy, if_pos (by omega)]
    refine bindE (k4 n (by omega)) ?_
    refine bindE (k5 n (by omega)) ?_
    rw [w64 (a := 1 + c % 2) (by omega) (by omega), if_pos (by omega), if_pos (by omega)]
    refine bindE (k6 n (by omega)) ?_
    cases i <;> cases j
    · simp [num_f, h2, h4, rd_T41]
    · simp [num_f, h2, h3, rd_T41]
    · obtain ⟨e1, e2⟩ := h1 rfl
      simp [num_f, e1, e2, h4, rd_T41, w64 (a := k + 4) (by omega) (by omega)]
    · obtain ⟨e1, e2⟩ := h1 rfl
      simp [num_f, e1, e2, h3, rd_T41, w64 (a := k + 4) (by omega) (by omega)]
  refine ⟨K1 + K2 + K3 + K4 + K5 + K6 + 1, ?_⟩
  unfold halberdlaw16_ExtForms.f
  rw [aw, Option.bind_some, if_pos rfl, and_15, hk, w64 (a := k) (by omega) (by omega), if_pos (by omega), if_pos (by omega)]
  refine bindE (k1 _ (by omega)) ?_
  refine bindE (k2 _ (by omega)) ?_
  by_cases h0 : a ≥ 0
  · rw [if_pos h0]
    refine key _ _ _ _ _ (by omega) ?_ ?_ _ ?_ ?_
    · intro h
      have h := of_decide_eq_true h
      rw [if_pos h]
      exact ⟨rfl, s1 h⟩
    · intro h
      have h := of_decide_eq_false h
      rw [if_neg h]
    · intro h
      have h := of_decide_eq_true h
      rw [if_pos ⟨h0, h⟩]
    · intro h
      have h := of_decide_eq_false h
      rw [if_neg (fun z => h z.2)]
  · rw [if_neg h0]
    refine key _ _ _ _ _ (by omega) ?_ ?_ _ ?_ ?_
    · intro h
      have h := of_decide_eq_true h
      rw [if_pos h]
      exact ⟨rfl, s1 h⟩
    · intro h
      have h := of_decide_eq_false h
      rw [if_neg h]
    · intro h
      cases h
    · intro h
      rw [if_neg (fun z => h0 z.1)]

end Go.Proofs.Ytlkebjkpmiehcaa.Pure
