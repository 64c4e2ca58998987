/- Proved: what der.Put wrote, der.Get and der.All read back, and a cut one is refused (halberdlaw13.DerBack answers true at every input). Conditions: none beside the given statement's own. -/
import Derived.Test.YtonemdclfgckoaaXx19
import Derived.Test.YtonemdclfgckoaaXx20
import Derived.Test.YtonemdclfgckoaaXx22
import Derived.Test.YtonemdclfgckoaaPureGet
namespace Go.Proofs.Ytonemdclfgckoaa.Pure
open Go.RowKit Go.Proofs.Ytonemdclfgckoaa.X Go.Proofs.YtonemdclfgckoaaW.PrintWords Go.Proofs.YtonemdclfgckoaaW.PrintLast Go.Proofs.YtonemdclfgckoaaW.PrintMore
set_option linter.unusedVariables false
set_option linter.unusedSimpArgs false

theorem aw : halberdlaw13_awake.f = some true := rfl
theorem lengthL_more {l : List Int} {n : Int} {h : Nat} (e : lengthL l = some (n, h)) (m : List Int) : lengthL (l ++ m) = some (n, h) := by
  match l, e with
  | c :: r, e =>
    simp only [List.cons_append, lengthL] at e ⊢
    by_cases h1 : c < 128
    · rw [if_pos h1] at e ⊢; exact e
    · rw [if_neg h1] at e ⊢
      by_cases h2 : c = 130
      · rw [if_pos h2] at e ⊢
        match r, e with
        | x :: y :: _, e => exact e
      · rw [if_neg h2] at e ⊢
        by_cases h3 : c = 129
        · rw [if_pos h3] at e ⊢
          match r, e with
          | x :: _, e => exact e
        · rw [if_neg h3] at e; exact absurd e (by simp)
theorem getL_more {l : List Int} (hb : Byte l) {t : Int} {b : List Int} {c : Nat} (e : getL l = some (t, b, c)) (m : List Int) : getL (l ++ m) = some (t, b, c) ∧ c ≤ l.length := by
  match l, e with
  | u :: r, e =>
    simp only [List.cons_append, getL] at e ⊢
    by_cases h1 : u % 32 = 31
    · rw [if_pos h1] at e; exact absurd e (by simp)
    · rw [if_neg h1] at e ⊢
      cases e2 : lengthL r with
      | none => rw [e2] at e; exact absurd e (by simp)
      | some v =>
        obtain ⟨n, h⟩ := v
        have bd := lengthL_bd (fun x hx => hb x (List.mem_cons_of_mem _ hx)) e2
        rw [lengthL_more e2 m]
        rw [e2] at e
        simp only [] at e ⊢
        by_cases h3 : n > ((r.length : Int) - h)
        · rw [if_pos h3] at e; exact absurd e (by simp)
        · rw [if_neg h3] at e
          rw [if_neg (by rw [List.length_append]; omega)]
          have e' := Option.some.inj e
          rw [Prod.mk.injEq, Prod.mk.injEq] at e'
          obtain ⟨rfl, e4, e5⟩ := e'
          refine ⟨?_, by simp only [List.length_cons]; omega⟩
          rw [List.drop_append_of_le_length (by omega), List.take_append_of_le_length (by rw [List.length_drop]; omega), e4, e5]
theorem getL_cut {t : Int} {b : List Int} (hb : Byte b) (ht : isTag t) (hn : b.length ≤ 65535) {j : Nat} (hj : j < (hd t b.length ++ b).length) : getL ((hd t b.length ++ b).take j) = none := by
  have hB : Byte (hd t b.length ++ b) := by
    intro x hx
    rcases List.mem_append.mp hx with hx | hx
    · exact hd_byte hn x hx
    · exact hb x hx
  cases e : getL ((hd t b.length ++ b).take j) with
  | none => rfl
  | some v =>
    obtain ⟨u, w, c⟩ := v
    obtain ⟨e1, e2⟩ := getL_more (fun x hx => hB x (List.mem_of_mem_take hx)) e ((hd t b.length ++ b).drop j)
    rw [List.take_append_drop] at e1
    have e3 := getL_put (m := []) ht hn
    rw [List.append_nil, e1] at e3
    have e4 := Option.some.inj e3
    rw [Prod.mk.injEq, Prod.mk.injEq] at e4
    rw [List.length_take] at e2
    rw [List.length_append] at hj
    omega
theorem byte_zeros' (n : Nat) : Byte (List.replicate n 0) := by
  intro x hx
  have := List.eq_of_mem_replicate hx
  omega
set_option maxHeartbeats 4000000 in
/-- The given statement's pure form. -/
theorem DerBack : halberdlaw13_DerBack.Pure := by
  intro a b c _ _ hc
  have hc := wf64 hc
  have hp : 0 ≤ Go.bits .and .i64 b 7 ∧ Go.bits .and .i64 b 7 < 8 := by rw [and_7]; omega
  have h65 : Go.bits .and .i64 b 65535 = b % 65536 := and_mask b 16 (by decide)
  have ha : 0 ≤ Go.bits .and .i64 a 255 ∧ Go.bits .and .i64 a 255 ≤ 255 := by rw [and_255]; omega
  obtain ⟨n, hn, hn1⟩ : ∃ n : Nat, rd [0, 1, 127, 128, 255, 256, 65535, Go.bits .and .i64 b 65535] (Go.bits .and .i64 b 7) = n ∧ n ≤ 65535 := by
    rw [h65]
    have : Go.bits .and .i64 b 7 = 0 ∨ Go.bits .and .i64 b 7 = 1 ∨ Go.bits .and .i64 b 7 = 2 ∨ Go.bits .and .i64 b 7 = 3 ∨ Go.bits .and .i64 b 7 = 4 ∨ Go.bits .and .i64 b 7 = 5 ∨ Go.bits .and .i64 b 7 = 6 ∨ Go.bits .and .i64 b 7 = 7 := by omega
    rcases this with h | h | h | h | h | h | h | h <;> rw [h]
    · exact ⟨0, rfl, by omega⟩
    · exact ⟨1, rfl, by omega⟩
    · exact ⟨127, rfl, by omega⟩
    · exact ⟨128, rfl, by omega⟩
    · exact ⟨255, rfl, by omega⟩
    · exact ⟨256, rfl, by omega⟩
    · exact ⟨65535, rfl, by omega⟩
    · exact ⟨(b % 65536).toNat, by show b % 65536 = _; omega, by omega⟩
  unfold halberdlaw13_DerBack.f
  generalize Go.bits .and .i64 b 7 = p7 at *
  generalize Go.bits .and .i64 b 65535 = p65 at *
  have h31 : Go.bits .and .i64 (Go.bits .and .i64 a 255) 31 = Go.bits .and .i64 a 255 % 32 := and_31 _
  have nn : ((n : Int)).toNat = n := by omega
  have zs : (strOfNums (List.replicate n 0)).size = n := by rw [strOf_size, List.length_replicate]
  have zb : bytesOf (strOfNums (List.replicate n 0)) = List.replicate n 0 := bytesOf_strOf (byte_zeros' n)
  rw [h31]
  generalize Go.bits .and .i64 a 255 = t at *
  by_cases ht : t % 32 = 31
  · obtain ⟨K1, g1⟩ := put_tag (t := t) (l := [strOfNums (List.replicate n 0)]) (fun h => h.2.2 ht) (by simp) (by rw [flat_one, bytesOf_length, zs]; omega)
    refine ⟨K1, ?_⟩
    refine bindE aw ?_
    rw [if_pos rfl]
    refine bindE rfl ?_
    rw [hn, nn, if_pos hp.1, if_pos (show p7 < (([0, 1, 127, 128, 255, 256, 65535, p65] : List Int).length : Int) from hp.2), if_pos (by omega), if_pos (by omega)]
    refine bindE (g1 _ (by omega)) ?_
    rw [if_pos ht]
    refine bindE (num_f _) ?_
    rw [if_pos rfl]
    decide +kernel
  · have hT : isTag t := ⟨ha.1, ha.2, ht⟩
    have hdl := hd_len t n
    obtain ⟨K1, g1⟩ := put_one (s := strOfNums (List.replicate n 0)) hT (by omega)
    rw [zs, zb] at g1
    obtain ⟨X, hX⟩ : ∃ X, X = strOfNums (hd t n ++ List.replicate n 0) := ⟨_, rfl⟩
    have hB : Byte (hd t n ++ List.replicate n 0) := by
      intro x hx
      rcases List.mem_append.mp hx with hx | hx
      · exact hd_byte hn1 x hx
      · exact byte_zeros' n x hx
    have xb : bytesOf X = hd t n ++ List.replicate n 0 := by rw [hX]; exact bytesOf_strOf hB
    have xs : X.size = (hd t n).length + n := by rw [hX, strOf_size, List.length_append, List.length_replicate]
    rw [← hX] at g1
    have lr : (List.replicate n (0 : Int)).length = n := List.length_replicate
    have e1 : ∀ m, getL (hd t n ++ List.replicate n 0 ++ m) = some (t, List.replicate n 0, X.size) := by
      intro m
      have e := getL_put (t := t) (b := List.replicate n 0) (m := m) hT (by omega)
      rw [lr] at e
      rw [e, xs]
    have h2 := From.start X
    rw [xb] at h2
    have G2 := get_ok h2 (by omega)
    have e10 := e1 []
    rw [List.append_nil] at e10
    rw [e10] at G2
    have G3 : Ev (fun k => der_All.f k (X ++ X)) ([⟨t, strOfNums (List.replicate n 0)⟩, ⟨t, strOfNums (List.replicate n 0)⟩], 0) := by
      have s2 : (X ++ X).size = X.size + X.size := ByteArray.size_append
      have f1 := From.start (X ++ X)
      rw [bytesOf_app, xb] at f1
      have f2 := f1.skip
      rw [← xb, bytesOf_length, xb] at f2
      refine Ev.congr (f := fun k => der_All.l0 k (X ++ X) [] ((0 : Nat) : Int)) (fun k => by unfold der_All.f; rfl) ?_
      refine all_step f1 (by omega) (e1 _) (by omega) (by simp) ?_
      refine all_step f2 (by omega) e10 (by omega) (by simp) ?_
      rw [show 0 + X.size + X.size = (X ++ X).size by omega]
      exact all_end
    simp only [getRes] at G2
    obtain ⟨K2, g2⟩ := G2
    obtain ⟨K3, g3⟩ := G3
    have um : IntKind.u64.wrap (X.size : Int) = X.size := by rw [u64_wrap]; omega
    have hmod : ∃ j : Nat, wrap64 (Int.tmod (IntKind.u64.wrap c) (IntKind.u64.wrap (X.size : Int))) = j ∧ j < X.size := by
      rw [um, u64_wrap, Int.tmod_eq_emod_of_nonneg (by omega)]
      have q0 := Int.emod_nonneg (c % 18446744073709551616) (b := (X.size : Int)) (by omega)
      have q1 := Int.emod_lt_of_pos (c % 18446744073709551616) (b := (X.size : Int)) (by omega)
      exact ⟨(c % 18446744073709551616 % (X.size : Int)).toNat, by rw [w64 (by omega) (by omega)]; omega, by omega⟩
    obtain ⟨j, hj, hj1⟩ := hmod
    have f4 := From.start (X.extract 0 j)
    rw [bytesOf_extract, xb, List.drop_zero, Nat.sub_zero] at f4
    have G4 := get_ok f4 (by rw [ByteArray.size_extract]; omega)
    have e4 := getL_cut (t := t) (b := List.replicate n 0) (byte_zeros' n) hT (by omega) (j := j) (by rw [lr, List.length_append, lr]; omega)
    rw [lr] at e4
    rw [e4] at G4
    simp only [getRes] at G4
    obtain ⟨K4, g4⟩ := G4
    obtain ⟨K5, g5⟩ := put_long (t := t) (s := strOfNums (List.replicate 65536 0)) (by rw [strOf_size, List.length_replicate]; omega) (by rw [strOf_size, List.length_replicate]; omega)
    refine ⟨K1 + K2 + K3 + K4 + K5, ?_⟩
    refine bindE aw ?_
    rw [if_pos rfl]
    refine bindE rfl ?_
    rw [hn, nn, if_pos hp.1, if_pos (show p7 < (([0, 1, 127, 128, 255, 256, 65535, p65] : List Int).length : Int) from hp.2), if_pos (by omega), if_pos (by omega)]
    refine bindE (g1 _ (by omega)) ?_
    rw [if_neg ht]
    refine bindE (g2 _ (by omega)) ?_
    rw [if_pos (show X.size + X.size ≤ _ by omega)]
    refine bindE (g3 _ (by omega)) ?_
    simp only []
    rw [if_neg (by rw [um]; omega), hj, if_pos (by omega), if_pos (by omega), show ((j : Int)).toNat = j by omega]
    refine bindE (g4 _ (by omega)) ?_
    rw [if_pos (by decide)]
    refine bindE (g5 _ (by omega)) ?_
    refine bindE (num_f _) ?_
    rw [if_pos rfl]
    refine bindE (num_f _) ?_
    rw [if_pos rfl, if_pos trivial, if_pos (by show ((strOfNums (List.replicate n 0)).size : Int) = n; omega), if_pos (by show ((0 + X.size : Nat) : Int) = X.size; omega)]
    refine bindE (num_f _) ?_
    rw [if_pos rfl, if_pos (show (([⟨t, strOfNums (List.replicate n 0)⟩, ⟨t, strOfNums (List.replicate n 0)⟩] : List S40).length : Int) = 2 from rfl)]
    refine bindE (num_f _) ?_
    rw [if_pos rfl]
    exact bindE (num_f _) rfl

end Go.Proofs.Ytonemdclfgckoaa.Pure
