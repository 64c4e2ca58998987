/- Lemmas: ext's Get and Put answer as the document's (halberdlaw16.Exts' pure form, below a bound). Conditions: each lemma's own. -/
import Derived.Test.YtlkebjkpmiehcaaEx10
import Derived.Test.YtlkebjkpmiehcaaEx11
import Derived.Test.YtlkebjkpmiehcaaEx12
import Derived.Test.YtlkebjkpmiehcaaEx13
import Derived.Test.YtlkebjkpmiehcaaEx7
import Derived.Test.YtlkebjkpmiehcaaEx8
import Derived.Test.YtlkebjkpmiehcaaEx9
import Derived.Test.YtlkebjkpmiehcaaPureExtBack
import Derived.Test.YtlkebjkpmiehcaaExtsX
namespace Go.Proofs.Ytlkebjkpmiehcaa.Pure
open Go.RowKit Go.Proofs.Ytlkebjkpmiehcaa.E Go.Proofs.YtlkebjkpmiehcaaW.PrintWords Go.Proofs.YtlkebjkpmiehcaaW.PrintLast Go.Proofs.YtlkebjkpmiehcaaW.PrintMore
set_option linter.unusedVariables false
set_option linter.unusedSimpArgs false

/-! ### The document's numbers -/
theorem rnum_loop (s : ByteArray) (a : Int) (n : Nat) (ha : 0 ≤ a) (hn : n ≤ 4) (h : a + n ≤ s.size) (hs : s.size ≤ 140737488351232) :
    ∀ d j : Nat, j + d = n → Ev (fun k => halberdref1_Num.l0 k s a n (nv s a j) j) (nv s a n, a + n, 0) := by
  intro d
  induction d with
  | zero =>
    intro j hj
    obtain rfl : j = n := by omega
    refine Ev.step (f := fun _ => some (nv s a j, a + (j : Int), 0)) (fun k => ?_) (Ev.now _)
    simp only [halberdref1_Num.l0]
    rw [if_neg (by omega), w64 (a := a + (j : Int)) (by omega) (by omega)]
  | succ d ih =>
    intro j hj
    refine Ev.step (f := fun k => halberdref1_Num.l0 k s a n (nv s a (j + 1)) ((j + 1 : Nat) : Int)) (fun k => ?_) (ih (j + 1) (by omega))
    simp only [halberdref1_Num.l0]
    have b := bt_range s (a + (j : Int))
    have v := nv_bd4 s a j (by omega)
    rw [if_pos (by omega), w64 (a := a + (j : Int)) (by omega) (by omega), if_pos (by omega), if_pos (by omega), or_byte v.1 v.2 b.1 b.2, w64 (a := (j : Int) + 1) (by omega) (by omega)]
    rfl
theorem rnum_ok {s : ByteArray} {a : Int} {n : Nat} (ha : 0 ≤ a) (hn : n ≤ 4) (h : a + n ≤ s.size) (hs : s.size ≤ 140737488351232) :
    Ev (fun k => halberdref1_Num.f k s a n) (nv s a n, a + n, 0) := by
  refine Ev.congr (f := fun k => halberdref1_Num.j0 k s a n false) (fun k => ?_) ?_
  · unfold halberdref1_Num.f
    rw [if_neg (by omega), if_neg (by omega), w64 (by omega) (by omega)]
    congr 1
    exact decide_eq_false (by omega)
  · refine Ev.step (f := fun k => halberdref1_Num.l0 k s a n 0 0) (fun k => ?_) (rnum_loop s a n ha hn h hs n 0 (by omega))
    simp only [halberdref1_Num.j0]
    rfl
theorem rnum_cut {s : ByteArray} {a : Int} {n : Int} (hc : CutAt s a n) (hs : s.size ≤ 140737488351232) :
    Ev (fun k => halberdref1_Num.f k s a n) (0, 0, 100) := by
  have key : Ev (fun k => halberdref1_Num.j0 k s a n true) (0, 0, 100) := Ev.step (f := fun _ => some (0, 0, 100)) (fun k => by simp only [halberdref1_Num.j0]; rfl) (Ev.now _)
  refine Ev.congr (f := fun k => halberdref1_Num.j0 k s a n true) (fun k => ?_) key
  unfold halberdref1_Num.f CutAt at *
  by_cases h0 : a < 0
  · rw [if_pos h0]
  · rw [if_neg h0]
    by_cases h1 : a > (s.size : Int)
    · rw [if_pos h1]
    · rw [if_neg h1, w64 (by omega) (by omega)]
      congr 1
      exact decide_eq_true (by omega)
theorem rnum_any (s : ByteArray) (a : Int) (n : Nat) (hn : n ≤ 4) (hs : s.size ≤ 140737488351232) : Ev (fun k => halberdref1_Num.f k s a n) (numOf s a n) := by
  unfold numOf
  by_cases hc : a < 0 ∨ a > s.size ∨ s.size - a < n
  · rw [if_pos hc]; exact rnum_cut hc hs
  · rw [if_neg hc]; exact rnum_ok (by omega) hn (by omega) hs
theorem rvec_ok {s : ByteArray} {a : Int} {n : Nat} (h1 : 1 ≤ n) (h3 : n ≤ 3) (hs : s.size ≤ 140737488351232) : Ev (fun k => halberdref1_Vec.f k s a n) (vecOf s a n) := by
  refine Ev.congr (f := fun k => halberdref1_Vec.j0 k s a n false) (fun k => ?_) ?_
  · unfold halberdref1_Vec.f
    rw [if_neg (by omega)]
    congr 1
    exact decide_eq_false (by omega)
  · unfold vecOf
    by_cases hc : a < 0 ∨ a > s.size ∨ s.size - a < n
    · rw [if_pos hc]
      refine Ev.step (f := fun k => (halberdref1_Num.f k s a n).bind _) (fun k => by simp only [halberdref1_Vec.j0]; rfl) ?_
      exact Ev.bind (rnum_cut hc hs) (Ev.now _)
    · rw [if_neg hc]
      refine Ev.step (f := fun k => (halberdref1_Num.f k s a n).bind _) (fun k => by simp only [halberdref1_Vec.j0]; rfl) ?_
      have v := nv_bd4 s a n (by omega)
      refine Ev.bind (rnum_ok (by omega) (by omega) (by omega) hs) (ev_const ?_)
      simp only [if_true]
      rw [w64 (a := (s.size : Int) - (a + n)) (by omega) (by omega), w64 (a := a + n + nv s a n) (by omega) (by omega)]
      by_cases hl : nv s a n > s.size - (a + n)
      · rw [if_pos hl, if_pos hl]
      · rw [if_neg hl, if_neg hl, if_pos (by omega), if_pos (by omega), if_pos (by omega)]
theorem rvec_no {s : ByteArray} {a n : Int} (h : n < 1 ∨ n > 3) : Ev (fun k => halberdref1_Vec.f k s a n) ((⟨#[]⟩ : ByteArray), 0, 101) := by
  have key : Ev (fun k => halberdref1_Vec.j0 k s a n true) ((⟨#[]⟩ : ByteArray), 0, 101) := Ev.step (f := fun _ => some ((⟨#[]⟩ : ByteArray), 0, 101)) (fun k => by simp only [halberdref1_Vec.j0]; rfl) (Ev.now _)
  refine Ev.congr (f := fun k => halberdref1_Vec.j0 k s a n true) (fun k => ?_) key
  unfold halberdref1_Vec.f
  by_cases h0 : n < 1
  · rw [if_pos h0]
  · rw [if_neg h0]
    congr 1
    exact decide_eq_true (by omega)
theorem and255 {x : Int} (h0 : 0 ≤ x) (h1 : x < 9223372036854775808) : Go.bits .and .i64 x 255 = x % 256 := Go.bits_mask .i64 63 (by decide) wraps_i64 8 (by decide) x h0 (by omega)
theorem be_loop : ∀ (m : Nat) (y : Int) (t : List Int), 0 ≤ y → y < 9223372036854775808 → m + t.length ≤ 1000 →
    Ev (fun k => halberdref1_Be.l0 k y (List.replicate m 0 ++ t) (m - 1)) (strOfNums (beL m y ++ t))
  | 0, y, t, h0, h1, hl => by
    refine Ev.step (f := fun _ => some (strOfNums (List.replicate 0 0 ++ t))) (fun k => ?_) (Ev.now _)
    simp only [halberdref1_Be.l0]
    rw [if_neg (by omega)]
  | m + 1, y, t, h0, h1, hl => by
    refine Ev.step (f := fun k => halberdref1_Be.l0 k (y / 256) (List.replicate m 0 ++ (y % 256 :: t)) (m - 1)) (fun k => ?_) ?_
    · simp only [halberdref1_Be.l0]
      rw [if_pos (by omega), if_pos (by simp; omega), and255 h0 h1, w64 (by omega) (by omega)]
      have e : (((m + 1 : Nat) : Int) - 1).toNat = m := by omega
      rw [e]
      congr 1
      · rw [List.replicate_succ', List.append_assoc, List.set_append_right _ _ (by simp)]
        simp
      · omega
    · have h := be_loop m (y / 256) (y % 256 :: t) (by omega) (by omega) (by simp; omega)
      simpa [beL] using h
theorem be_ok (x : Int) (n : Nat) (hn : n ≤ 1000) (h0 : 0 ≤ x) (h1 : x < 9223372036854775808) : Ev (fun k => halberdref1_Be.f k x n) (strOfNums (beL n x)) := by
  refine Ev.congr (f := fun k => halberdref1_Be.l0 k x (List.replicate n 0 ++ []) (n - 1)) (fun k => ?_) ?_
  · unfold halberdref1_Be.f
    rw [if_pos (by omega), if_pos (by omega), w64 (by omega) (by omega)]
    simp
  · simpa using be_loop n x [] h0 h1 (by simpa using hn)
theorem rd_get (l : List S41) (a : Nat) (h : a < l.length) : rd_T41 l a = l[a] := by
  simp [rd_T41, List.getD_eq_getElem?_getD, List.getElem?_eq_getElem h]
theorem dup_yes {l : List S41} {a b : Nat} (hb : b < a) (ha : a < l.length) (h : (rd_T41 l a).f0 = (rd_T41 l b).f0) : dupB (kindsOf l) = true := by
  rw [rd_get l a ha, rd_get l b (by omega)] at h
  unfold dupB
  rw [decide_eq_true_eq]
  intro hn
  have hp := List.pairwise_iff_getElem.mp hn b a (by simp [kindsOf]; omega) (by simp [kindsOf]; omega) hb
  simp [kindsOf] at hp
  exact hp h.symm
theorem dup_no {l : List S41} (h : ∀ a b : Nat, b < a → a < l.length → (rd_T41 l a).f0 ≠ (rd_T41 l b).f0) : dupB (kindsOf l) = false := by
  unfold dupB
  rw [decide_eq_false_iff_not, Classical.not_not]
  refine List.pairwise_iff_getElem.mpr fun i j hi hj hij => ?_
  have hj' : j < l.length := by simpa [kindsOf] using hj
  have := h j i hij hj'
  rw [rd_get l j hj', rd_get l i (by omega)] at this
  simp only [kindsOf, List.getElem_map]
  exact fun e => this e.symm
theorem tw1 (l : List S41) (hl : l.length ≤ 16777216) (i : Nat) (hi : i < l.length) (H : ∀ a b : Nat, b < a → a < i → (rd_T41 l a).f0 ≠ (rd_T41 l b).f0)
    (next : (∀ a b : Nat, b < a → a < i + 1 → (rd_T41 l a).f0 ≠ (rd_T41 l b).f0) → Ev (fun k => halberdref16_twice.l0 k l ((i + 1 : Nat) : Int)) (dupB (kindsOf l))) :
    ∀ d j : Nat, j + d = i → (∀ b : Nat, b < j → (rd_T41 l i).f0 ≠ (rd_T41 l b).f0) → Ev (fun k => halberdref16_twice.l1 k l i j) (dupB (kindsOf l)) := by
  intro d
  induction d with
  | zero =>
    intro j hj hb
    refine Ev.step (fun k => rfl) ?_
    simp only [halberdref16_twice.l1]
    have e : wrap64 ((i : Int) + 1) = ((i + 1 : Nat) : Int) := by rw [w64 (by omega) (by omega)]; omega
    refine evNeg (by omega) ?_
    rw [e]
    refine next (fun a b h1 h2 => ?_)
    by_cases ha : a = i
    · subst ha
      exact hb b (by omega)
    · exact H a b h1 (by omega)
  | succ d ih =>
    intro j hj hb
    refine Ev.step (fun k => rfl) ?_
    simp only [halberdref16_twice.l1]
    refine evPos (by omega) (evPos (by omega) (evPos (by omega) (evPos (by omega) (evPos (by omega) ?_))))
    by_cases he : (rd_T41 l i).f0 = (rd_T41 l j).f0
    · refine evPos he ?_
      rw [dup_yes (l := l) (a := i) (b := j) (by omega) hi he]
      exact Ev.now _
    · refine evNeg he ?_
      have e : wrap64 ((j : Int) + 1) = ((j + 1 : Nat) : Int) := by rw [w64 (by omega) (by omega)]; omega
      rw [e]
      refine ih (j + 1) (by omega) (fun b h => ?_)
      by_cases hbj : b = j
      · subst hbj
        exact he
      · exact hb b (by omega)
theorem tw0 (l : List S41) (hl : l.length ≤ 16777216) : ∀ d i : Nat, i + d = l.length → (∀ a b : Nat, b < a → a < i → (rd_T41 l a).f0 ≠ (rd_T41 l b).f0) → Ev (fun k => halberdref16_twice.l0 k l i) (dupB (kindsOf l)) := by
  intro d
  induction d with
  | zero =>
    intro i hi H
    refine Ev.step (fun k => rfl) ?_
    simp only [halberdref16_twice.l0]
    refine evNeg (by omega) ?_
    rw [dup_no (fun a b h1 h2 => H a b h1 (by omega))]
    exact Ev.now _
  | succ d ih =>
    intro i hi H
    refine Ev.step (fun k => rfl) ?_
    simp only [halberdref16_twice.l0]
    refine evPos (by omega) ?_
    exact tw1 l hl i (by omega) H (fun h => ih (i + 1) (by omega) h) i 0 (by omega) (fun b hb => by omega)
theorem twice_any (l : List S41) (hl : l.length ≤ 16777216) : Ev (fun k => halberdref16_twice.f k l) (dupB (kindsOf l)) := tw0 l hl l.length 0 (by omega) (fun a b _ h => by omega)
theorem rget_loop (s : ByteArray) (hs : s.size ≤ 16777216) : ∀ (d : Nat) (p : Int) (acc : List S41), 0 ≤ p → p ≤ s.size → (s.size : Int) - p ≤ d → 4 * (acc.length : Int) ≤ p →
    Ev (fun k => halberdref16_Exts.l0 k s acc p) (fin acc (exL s (d + 1) p)) := by
  have last : ∀ acc : List S41, acc.length ≤ 16777216 → Ev (fun k => (halberdref16_twice.f k acc).bind fun t => if t = true then some (([] : List S41), (1601 : Int)) else some (acc, 0)) (fin acc (some [])) := by
    intro acc ha
    refine Ev.bind (twice_any acc ha) ?_
    simp only [fin, List.append_nil]
    by_cases hu : dupB (kindsOf acc) = true
    · exact evPos hu (by rw [if_pos hu]; exact Ev.now _)
    · exact evNeg hu (by rw [if_neg hu]; exact Ev.now _)
  intro d
  induction d with
  | zero =>
    intro p acc h0 h1 hd hl
    refine Ev.step (fun k => rfl) ?_
    simp only [halberdref16_Exts.l0]
    rw [exL]
    have hn : ¬ p < s.size := by omega
    refine evNeg hn ?_
    rw [if_neg hn]
    exact last acc (by omega)
  | succ d ih =>
    intro p acc h0 h1 hd hl
    refine Ev.step (fun k => rfl) ?_
    simp only [halberdref16_Exts.l0]
    rw [exL]
    by_cases hlt : p < s.size
    · refine evPos hlt ?_
      rw [if_pos hlt]
      refine Ev.bind (rnum_any s p 2 (by omega) (by omega)) ?_
      refine Ev.bind (rvec_ok (s := s) (a := (numOf s p 2).2.1) (n := 2) (by omega) (by omega) (by omega)) ?_
      by_cases hn : (numOf s p 2).2.2 = 0
      · refine evPos hn ?_
        rw [if_pos hn]
        obtain ⟨e, hp2⟩ := num_to hn
        rw [e]
        by_cases hv : (vecOf s (p + 2) 2).2.2 = 0
        · refine evPos hv ?_
          rw [if_pos hv, fin_cons]
          obtain ⟨b1, b2, b3, _⟩ := vec_bd (by omega) hv
          have key := ih (vecOf s (p + 2) 2).2.1 (acc ++ [⟨nv s p 2, (vecOf s (p + 2) 2).1⟩]) (by omega) b2 (by omega) (by simp only [List.length_append, List.length_singleton]; omega)
          exact evPos (by omega) key
        · refine evNeg hv ?_
          rw [if_neg hv]
          exact Ev.now _
      · refine evNeg hn ?_
        rw [if_neg hn]
        exact Ev.now _
    · refine evNeg hlt ?_
      rw [if_neg hlt]
      exact last acc (by omega)
theorem rget_any (s : ByteArray) (hs : s.size ≤ 16777216) : Ev (fun k => halberdref16_Exts.f k s) (getOf s) := rget_loop s hs s.size 0 [] (by omega) (by omega) (by omega) (by simp)
theorem v_any (t : ByteArray) (ht : t.size ≤ 65535) : Ev (fun k => halberdref1_V.f k t 2) (strOfNums (beL 2 t.size) ++ t) := by
  refine Ev.congr (f := fun k => (halberdref1_Be.f k (t.size : Int) 2).bind fun u => if u.size + t.size ≤ 9223372036854775807 then some (u ++ t) else none) (fun k => by unfold halberdref1_V.f; rfl) ?_
  refine Ev.bind (be_ok t.size 2 (by omega) (by omega) (by omega)) ?_
  exact evPos (by rw [strOf_size, beL_length]; omega) (Ev.now _)
theorem rput_loop : ∀ (r pre : List S41), (pre ++ r).length ≤ 16777216 → (encs pre).size ≤ 65539 * pre.length →
    Ev (fun k => halberdref16_PutExts.l0 k (pre ++ r) (encs pre) pre.length) (putL pre r)
  | [], pre, hl, he => by
    refine Ev.step (fun k => rfl) ?_
    simp only [halberdref16_PutExts.l0, List.append_nil, putL]
    refine evNeg (by omega) ?_
    refine Ev.bind (twice_any pre (by simpa using hl)) ?_
    by_cases hu : dupB (kindsOf pre) = true
    · exact evPos hu (by rw [if_pos hu]; exact Ev.now _)
    · exact evNeg hu (by rw [if_neg hu]; exact Ev.now _)
  | x :: r, pre, hl, he => by
    have hl2 : pre.length + r.length + 1 ≤ 16777216 := by simpa [Nat.add_assoc] using hl
    refine Ev.step (fun k => rfl) ?_
    simp only [halberdref16_PutExts.l0, putL, rd_mid]
    refine evPos (by simp; omega) (evPos (by omega) ?_)
    have no : Ev (fun k => halberdref16_PutExts.j1 k (pre ++ x :: r) (encs pre) (pre.length : Int) true) ((⟨#[]⟩ : ByteArray), 1600) := by
      refine Ev.step (fun k => rfl) ?_
      simp only [halberdref16_PutExts.j1]
      exact evPos trivial (Ev.now _)
    by_cases h1 : x.f0 < 0
    · rw [if_neg (fun h => by have := h.1; omega)]
      exact evPos h1 no
    · refine evNeg h1 ?_
      by_cases h2 : x.f0 > 65535
      · rw [if_neg (fun h => by have := h.2.1; omega)]
        exact evPos h2 no
      · refine evNeg h2 ?_
        by_cases h3 : (x.f1.size : Int) > 65535
        · rw [if_neg (fun h => by have := h.2.2; omega), decide_eq_true h3]
          exact no
        · have ho : okE x := ⟨by omega, by omega, by omega⟩
          rw [if_pos ho, decide_eq_false h3]
          have hE := encE_len x
          refine Ev.step (fun k => rfl) ?_
          simp only [halberdref16_PutExts.j1, rd_mid]
          refine evNeg (by simp) (evPos (by omega) (evPos (by simp; omega) ?_))
          refine Ev.bind (be_ok x.f0 2 (by omega) (by omega) (by omega)) ?_
          refine evPos (by rw [strOf_size, beL_length]; omega) (Ev.bind (ev_const rfl) ?_)
          refine Ev.bind (v_any x.f1 ho.2.2) ?_
          refine evPos (by rw [ByteArray.size_append, ByteArray.size_append, strOf_size, strOf_size, beL_length, beL_length]; have := ho.2.2; omega) ?_
          have key := rput_loop r (pre ++ [x]) (by simpa using hl) (by rw [encs_snoc, ByteArray.size_append, List.length_append, List.length_singleton]; have := ho.2.2; omega)
          rw [encs_snoc, List.append_assoc, List.singleton_append] at key
          have e1 : wrap64 ((pre.length : Int) + 1) = ((pre ++ [x]).length : Int) := by
            rw [w64 (by omega) (by omega), List.length_append, List.length_singleton]; omega
          rw [e1, ByteArray.append_assoc]
          exact key
theorem rput_any (l : List S41) (hl : l.length ≤ 16777216) : Ev (fun k => halberdref16_PutExts.f k l) (putL [] l) := rput_loop l [] hl (by simp [encs, ByteArray.size])
theorem spoil_loop : ∀ (d : Nat) (l : List S41) (i : Nat), l.length ≤ 16777216 → i + d = l.length → ∃ r, Ev (fun k => halberdlaw0_SpoilExts.l0 k l i) r
  | 0, l, i, hl, hi => by
    refine ⟨l, Ev.step (fun k => rfl) ?_⟩
    simp only [halberdlaw0_SpoilExts.l0]
    exact evNeg (by omega) (Ev.now _)
  | d + 1, l, i, hl, hi => by
    obtain ⟨r, hr⟩ := spoil_loop d (l.set (i : Int).toNat (⟨Go.bits .xor .i64 ((rd_T41 l i).f0) 90, (rd_T41 l i).f1⟩ : S41)) (i + 1) (by simpa using hl) (by simp; omega)
    refine ⟨r, Ev.step (fun k => rfl) ?_⟩
    simp only [halberdlaw0_SpoilExts.l0]
    refine evPos (by omega) (evPos (by omega) ?_)
    have e : wrap64 ((i : Int) + 1) = ((i + 1 : Nat) : Int) := by rw [w64 (by omega) (by omega)]; omega
    rw [e]
    exact hr
theorem lend_any (l : List S41) (hl : l.length ≤ 16777216) : halberdlaw0_LendExts.f l = some l := by
  unfold halberdlaw0_LendExts.f halberdlaw0_CopyExts.f
  simp only [Option.bind_some, List.nil_append]
  rw [if_pos (by simp; omega)]
  simp only [Option.bind_some]
  rw [if_pos (by simp; omega), if_pos (by omega), if_pos (by simp; omega), Int.toNat_natCast, List.take_left' rfl]
theorem kept_any (l : List S41) (hl : l.length ≤ 16777216) : Ev (fun k => halberdlaw0_KeptExts2.f k l l) true := by
  refine Ev.congr (f := fun k => (halberdlaw0_SameExts.f k l l).bind fun t => if t = true then some true else some false) (fun k => ?_) ?_
  · unfold halberdlaw0_KeptExts2.f
    rw [w64 (a := (l.length : Int) + 2) (by omega) (by omega), if_pos (by omega), if_pos (by simp)]
    simp only [Option.bind_some]
    have e : ((l.length : Int) + 2).toNat = l.length + 2 := by omega
    rw [e, List.take_of_length_le (by simp)]
    congr 1
    funext t
    have r0 : rd_T41 (l ++ [(⟨77777, (⟨#[]⟩ : ByteArray)⟩ : S41), (⟨77777, (⟨#[]⟩ : ByteArray)⟩ : S41)]) (l.length : Int) = ⟨77777, ⟨#[]⟩⟩ := by
      simp [rd_T41, List.getD_eq_getElem?_getD]
    have r1 : rd_T41 (l ++ [(⟨77777, (⟨#[]⟩ : ByteArray)⟩ : S41), (⟨77777, (⟨#[]⟩ : ByteArray)⟩ : S41)]) ((l.length : Int) + 1) = ⟨77777, ⟨#[]⟩⟩ := by
      have e2 : ((l.length : Int) + 1).toNat = l.length + 1 := by omega
      simp [rd_T41, List.getD_eq_getElem?_getD, e2]
    have hlen : (l ++ [(⟨77777, (⟨#[]⟩ : ByteArray)⟩ : S41), (⟨77777, (⟨#[]⟩ : ByteArray)⟩ : S41)]).length = l.length + 2 := by simp
    rw [w64 (a := (l.length : Int) + 1) (by omega) (by omega), r0, r1, hlen]
    have c1 : (l.length : Int) < ((l.length + 2 : Nat) : Int) := by omega
    have c2 : (0 : Int) ≤ (l.length : Int) + 1 := by omega
    have c3 : (l.length : Int) + 1 < ((l.length + 2 : Nat) : Int) := by omega
    have c4 : (0 : Int) ≤ (l.length : Int) := by omega
    cases t with
    | false => simp
    | true =>
      rw [if_pos rfl, if_pos c4, if_pos c1, if_pos c2, if_pos c3]
      simp
  · exact Ev.bind (same_self l hl) (evPos rfl (Ev.now _))
/-- The given statement's pure form, below a bound. -/
theorem Exts (s : ByteArray) (l : List S41) (hs : s.size ≤ 1048576) (hl : (l.map fun x => x.f1.size + 4).sum ≤ 4194304) : ∃ k, halberdlaw16_Exts2.f k s l = some true := by
  have h4 := weigh_len l
  obtain ⟨K1, k1⟩ := get_any s (by omega)
  obtain ⟨K2, k2⟩ := rget_any s (by omega)
  obtain ⟨K3, k3⟩ := put_any l (by omega) (fun x hx => by have := weigh_mem hx; omega)
  obtain ⟨K4, k4⟩ := rput_any l (by omega)
  have hg : (getOf s).1.length ≤ 16777216 := by
    by_cases h0 : (getOf s).2 = 0
    · obtain ⟨e1, _, _⟩ := getOf_is h0
      have := encL_len (getOf s).1
      rw [← e1, bytesOf_length] at this
      omega
    · rw [getOf_no h0]; simp
  obtain ⟨K5, k5⟩ := same_self (getOf s).1 hg
  obtain ⟨K6, k6⟩ := kept_any l (by omega)
  obtain ⟨sp, K7, k7⟩ := spoil_loop (getOf s).1.length (getOf s).1 0 hg (by omega)
  have k7' : ∀ k, K7 ≤ k → halberdlaw0_SpoilExts.f k (getOf s).1 = some sp := k7
  refine ⟨K1 + K2 + K3 + K4 + K5 + K6 + K7 + 1, ?_⟩
  unfold halberdlaw16_Exts2.f
  refine bindE (k1 _ (by omega)) ?_
  refine bindE (k2 _ (by omega)) ?_
  refine bindE (lend_any l (by omega)) ?_
  refine bindE (k3 _ (by omega)) ?_
  refine bindE (k4 _ (by omega)) ?_
  refine bindE (k5 _ (by omega)) ?_
  rw [if_pos rfl, num_f, Option.bind_some, if_pos rfl, if_pos rfl, num_f, Option.bind_some, if_pos rfl]
  refine bindE (k6 _ (by omega)) ?_
  simp only [halberdlaw16_Exts.j0]
  rw [if_neg (by simp)]
  refine bindE (k7' _ (by omega)) ?_
  refine bindE (k1 _ (by omega)) ?_
  refine bindE (k5 _ (by omega)) ?_
  rw [if_pos rfl, aw]
  rfl

end Go.Proofs.Ytlkebjkpmiehcaa.Pure
