/- Proved: numbers of one to four bytes, written one behind the other, are read back as they were (halberdlaw1.WireRows answers true at every input). Conditions: none beside the given statement's own. -/
import Derived.Test.YtggnmnpmhknjgaaYx1
import Derived.Test.YtggnmnpmhknjgaaYx6
import Derived.Test.YtggnmnpmhknjgaaYx7
import Derived.Test.YtggnmnpmhknjgaaYx8
import Derived.Test.YtggnmnpmhknjgaaYPureLib
namespace Go.Proofs.Ytggnmnpmhknjgaa.Pure
open Go.RowKit Go.Proofs.Ytggnmnpmhknjgaa.Y Go.Proofs.YtggnmnpmhknjgaaW.PrintWords Go.Proofs.YtggnmnpmhknjgaaW.PrintLast Go.Proofs.YtggnmnpmhknjgaaW.PrintMore
set_option linter.unusedVariables false
set_option linter.unusedSimpArgs false

theorem number_loopB (s : ByteArray) (a : Int) (n : Nat) (ha : 0 ≤ a) (hn : n ≤ 4) (h : a + n ≤ s.size) (hs : s.size ≤ 9000000000000000000) :
    ∀ d j : Nat, j + d = n → Ev (fun k => wire_number.l0 k s a n (nv s a j) n j) (nv s a n, a + n, 0) := by
  intro d
  induction d with
  | zero =>
    intro j hj
    obtain rfl : j = n := by omega
    refine Ev.step (f := fun _ => some (nv s a j, a + (j : Int), 0)) (fun k => ?_) (Ev.now _)
    simp only [wire_number.l0]
    rw [if_neg (by omega), w64 (a := a + (j : Int)) (by omega) (by omega)]
  | succ d ih =>
    intro j hj
    refine Ev.step (f := fun k => wire_number.l0 k s a n (nv s a (j + 1)) n ((j + 1 : Nat) : Int)) (fun k => ?_) (ih (j + 1) (by omega))
    simp only [wire_number.l0]
    have b := bt_range s (a + (j : Int))
    have v := nv_bd4 s a j (by omega)
    rw [if_pos (by omega), w64 (a := a + (j : Int)) (by omega) (by omega), if_pos (by omega), if_pos (by omega), or_byte v.1 v.2 b.1 b.2, w64 (a := (j : Int) + 1) (by omega) (by omega)]
    rfl
theorem number_okB {s : ByteArray} {a : Int} {n : Nat} (ha : 0 ≤ a) (hn : n ≤ 4) (h : a + n ≤ s.size) (hs : s.size ≤ 9000000000000000000) :
    Ev (fun k => wire_number.f k s a n) (nv s a n, a + n, 0) := by
  refine Ev.congr (f := fun k => wire_number.j0 k s a n false) (fun k => ?_) ?_
  · unfold wire_number.f
    rw [if_neg (by omega), if_neg (by omega), w64 (by omega) (by omega)]
    congr 1
    exact decide_eq_false (by omega)
  · refine Ev.step (f := fun k => wire_number.l0 k s a n 0 n 0) (fun k => ?_) (number_loopB s a n ha hn h hs n 0 (by omega))
    simp only [wire_number.j0]
    rfl
def wid (i : Nat) : Nat := 1 + i % 4
theorem wid_bd (i : Nat) : 1 ≤ wid i ∧ wid i ≤ 4 := by unfold wid; omega
theorem and_3 (x : Int) : Go.bits .and .i64 x 3 = x % 4 := and_mask x 2 (by decide)
theorem wid_w {i : Nat} (h : i ≤ 140737488351232) : wrap64 (1 + Go.bits .and .i64 (i : Int) 3) = wid i := by
  rw [and_3, w64 (by omega) (by omega)]
  unfold wid
  omega
theorem wid_8 {m : Nat} (h1 : 1 ≤ m) (h4 : m ≤ 4) : (0 : Int) ≤ wrap64 (8 * (m : Int)) ∧ wrap64 (shl .i64 1 (wrap64 (8 * (m : Int))) - 1) = 256 ^ m - 1 ∧ (∀ x : Int, Go.bits .and .i64 x (256 ^ m - 1) = x % 256 ^ m) ∧ (0 : Int) < 256 ^ m ∧ (256 : Int) ^ m ≤ 4294967296 := by
  have : m = 1 ∨ m = 2 ∨ m = 3 ∨ m = 4 := by omega
  rcases this with rfl | rfl | rfl | rfl
  · exact ⟨by unfold wrap64; omega, by simp [shl, wrap64, IntKind.bits, IntKind.wrap_i64], fun x => and_mask x 8 (by decide), by decide, by decide⟩
  · exact ⟨by unfold wrap64; omega, by simp [shl, wrap64, IntKind.bits, IntKind.wrap_i64], fun x => and_mask x 16 (by decide), by decide, by decide⟩
  · exact ⟨by unfold wrap64; omega, by simp [shl, wrap64, IntKind.bits, IntKind.wrap_i64], fun x => and_mask x 24 (by decide), by decide, by decide⟩
  · exact ⟨by unfold wrap64; omega, by simp [shl, wrap64, IntKind.bits, IntKind.wrap_i64], fun x => and_mask x 32 (by decide), by decide, by decide⟩
theorem rd_mid (pre xs : List Int) (x : Int) : rd (pre ++ x :: xs) (pre.length : Int) = x := by simp [rd]
def piece (x : Int) (i : Nat) : List Int := beL (wid i) (x % 256 ^ wid i)
def pieces : List Int → Nat → List Int
  | [], _ => []
  | x :: xs, i => if i < 40 then piece x i ++ pieces xs (i + 1) else []
theorem pieces_len : ∀ (xs : List Int) (i : Nat), (pieces xs i).length ≤ (40 - i) * 4
  | [], i => by simp [pieces]
  | x :: xs, i => by
    have h2 := pieces_len xs (i + 1)
    have hw := wid_bd i
    unfold pieces
    split
    · rw [List.length_append, piece, beL_length]; omega
    · simp
theorem last_byte (m : Nat) (h : 1 ≤ m) (y : Int) : bt (strOfNums (beL m y)) ((m : Int) - 1) = y % 256 := by
  obtain ⟨n, rfl⟩ : ∃ n, m = n + 1 := ⟨m - 1, by omega⟩
  have hn : (((n + 1 : Nat) : Int) - 1).toNat = n := by omega
  rw [bt_get, bytesOf_strOf (beL_byte _ _), hn, beL]
  have e := beL_length n (y / 256)
  rw [List.getD_eq_getElem?_getD, List.getElem?_append_right (by omega), e, Nat.sub_self]
  rfl
theorem mod_mod (m : Nat) (h : 1 ≤ m) (x : Int) : x % 256 ^ m % 256 = x % 256 := by
  obtain ⟨n, rfl⟩ : ∃ n, m = n + 1 := ⟨m - 1, by omega⟩
  exact Int.emod_emod_of_dvd x ⟨256 ^ n, by rw [Int.pow_succ, Int.mul_comm]⟩
theorem rows_write (l : List Int) (hl : l.length * 8 ≤ 140737488351232) (s : ByteArray) : ∀ (xs pre : List Int) (x5 : ByteArray), l = pre ++ xs → x5.size ≤ 4 * pre.length → pre.length ≤ 40 →
    (∀ all, bytesOf all = bytesOf x5 ++ pieces xs pre.length → Ev (fun k => halberdlaw1_WireRows.l1 k l s all 0 0) true) → Ev (fun k => halberdlaw1_WireRows.l0 k l s x5 (pre.length : Int)) true := by
  intro xs
  induction xs with
  | nil =>
    intro pre x5 he h5 hp K
    refine Ev.step (f := fun k => halberdlaw1_WireRows.j1 k l s x5 (pre.length : Int) false) (fun k => ?_) ?_
    · simp only [halberdlaw1_WireRows.l0]
      rw [if_neg (by rw [he]; simp)]
    · refine Ev.step (f := fun k => halberdlaw1_WireRows.l1 k l s x5 0 0) (fun k => ?_) (K x5 (by simp [pieces]))
      simp only [halberdlaw1_WireRows.j1]
      rw [if_neg (by simp)]
  | cons x xs ih =>
    intro pre x5 he h5 hp K
    have hlen : (pre.length : Int) < (l.length : Int) := by rw [he]; simp; omega
    by_cases h40 : pre.length < 40
    · have hw := wid_bd pre.length
      obtain ⟨q1, q2, q3, q4, q5⟩ := wid_8 hw.1 hw.2
      have hm0 := Int.emod_nonneg x (b := 256 ^ wid pre.length) (by omega)
      have hm1 := Int.emod_lt_of_pos x (b := 256 ^ wid pre.length) q4
      have hput := put_ok (x % 256 ^ wid pre.length) (wid pre.length) hw.1 hw.2 hm0
      unfold putOf at hput
      rw [if_pos hm1] at hput
      have zz : (strOfNums (beL (wid pre.length) (x % 256 ^ wid pre.length))).size = wid pre.length := by rw [strOf_size, beL_length]
      refine Ev.step (f := fun k => halberdlaw1_WireRows.j1 k l s x5 (pre.length : Int) true) (fun k => ?_) ?_
      · simp only [halberdlaw1_WireRows.l0]
        rw [if_pos hlen]
        congr 1
        exact decide_eq_true (by omega)
      · have i1 := ih (pre ++ [x]) (x5 ++ strOfNums (beL (wid pre.length) (x % 256 ^ wid pre.length))) (by rw [he]; simp) (by rw [ByteArray.size_append, zz]; simp; omega) (by simp; omega) (fun all ha => K all (by
          rw [ha, bytesOf_app, bytesOf_strOf (beL_byte _ _)]
          rw [show pieces (x :: xs) pre.length = piece x pre.length ++ pieces xs (pre.length + 1) by simp only [pieces]; rw [if_pos h40]]
          simp [piece]))
        refine Ev.step (f := fun k => halberdlaw1_WireRows.l0 k l s (x5 ++ strOfNums (beL (wid pre.length) (x % 256 ^ wid pre.length))) (((pre ++ [x]).length : Nat) : Int)) (fun k => ?_) i1
        simp only [halberdlaw1_WireRows.j1]
        have r0 : rd l (pre.length : Int) = x := by rw [he, rd_mid]
        rw [if_pos trivial, if_pos (show (0 : Int) ≤ (pre.length : Int) by omega), if_pos hlen, wid_w (by omega), if_pos q1, q2, r0, q3]
        refine bindE hput ?_
        refine bindE (num_f _) ?_
        have w1 : wrap64 ((wid pre.length : Int) - 1) = (wid pre.length : Int) - 1 := w64 (by omega) (by omega)
        rw [if_pos rfl, if_pos (by rw [zz]), w1, if_pos (by omega), if_pos (by rw [zz]; omega), last_byte _ hw.1, mod_mod _ hw.1, if_pos rfl, if_pos (by rw [zz]; omega), w64 (by omega) (by omega)]
        simp
    · refine Ev.step (f := fun k => halberdlaw1_WireRows.j1 k l s x5 (pre.length : Int) false) (fun k => ?_) ?_
      · simp only [halberdlaw1_WireRows.l0]
        rw [if_pos hlen]
        congr 1
        exact decide_eq_false (by omega)
      · refine Ev.step (f := fun k => halberdlaw1_WireRows.l1 k l s x5 0 0) (fun k => ?_) (K x5 (by simp only [pieces]; rw [if_neg h40]; simp))
        simp only [halberdlaw1_WireRows.j1]
        rw [if_neg (by simp)]
theorem num_at {s : ByteArray} {p n : Nat} (h : p + n ≤ s.size) : numOf s p n = (nv s p n, (p : Int) + n, 0) := by
  unfold numOf
  rw [if_neg (by omega)]
theorem rows_read (l : List Int) (hl : l.length * 8 ≤ 140737488351232) (s all : ByteArray) (hs : s.size ≤ 140737488351232) (ha : all.size ≤ 1000) : ∀ (xs pre : List Int) (p : Nat), l = pre ++ xs → pre.length ≤ 40 →
    From all p (pieces xs pre.length) → Ev (fun k => halberdlaw1_WireRows.l1 k l s all (p : Int) (pre.length : Int)) true := by
  have ends : ∀ (pre : List Int) (p : Nat), From all p [] → Ev (fun k => halberdlaw1_WireRows.j3 k l s all (p : Int) (pre.length : Int) false) true := by
    intro pre p h
    have hz := h.len
    simp only [List.length_nil] at hz
    have z1 : (⟨#[122]⟩ : ByteArray).size = 1 := rfl
    have zz : ((all ++ s) ++ (⟨#[122]⟩ : ByteArray)).size = all.size + s.size + 1 := by rw [ByteArray.size_append, ByteArray.size_append, z1]
    have hb : bytesOf (⟨#[122]⟩ : ByteArray) = [122] := rfl
    have hU := number_okB (s := (all ++ s) ++ (⟨#[122]⟩ : ByteArray)) (a := ((all.size + s.size : Nat) : Int)) (n := 1) (by omega) (by omega) (by rw [zz]; omega) (by rw [zz]; omega)
    have e1 : nv ((all ++ s) ++ (⟨#[122]⟩ : ByteArray)) ((all.size + s.size : Nat) : Int) 1 = 122 := by
      have hn : (((all.size + s.size : Nat) : Int) + ((0 : Nat) : Int)).toNat = all.size + s.size := by omega
      simp only [nv]
      rw [bt_get, hn, bytesOf_app, hb, List.getD_eq_getElem?_getD, List.getElem?_append_right (by rw [bytesOf_length, ByteArray.size_append]; omega), bytesOf_length, ByteArray.size_append, Nat.sub_self]
      rfl
    rw [e1] at hU
    have hk : Ev (fun k => wire_U8.f k ((all ++ s) ++ (⟨#[122]⟩ : ByteArray)) ((all.size + s.size : Nat) : Int)) (122, ((all.size + s.size : Nat) : Int) + 1, 0) := by
      refine Ev.congr (f := fun k => (wire_number.f k _ _ ((1 : Nat) : Int)).bind _) (fun k => by unfold wire_U8.f; rfl) ?_
      exact Ev.bind hU (Ev.now _)
    refine Ev.step (f := fun k => (wire_U8.f k ((all ++ s) ++ (⟨#[122]⟩ : ByteArray)) (wrap64 ((all.size : Int) + (s.size : Int)))).bind _) (fun k => by
      simp only [halberdlaw1_WireRows.j3]
      rw [if_neg (by simp), if_pos (by omega)]
      refine bindE rfl ?_
      rw [if_pos (by rw [ByteArray.size_append]; omega)]) ?_
    rw [w64 (by omega) (by omega)]
    rw [show ((all.size + s.size : Nat) : Int) = (all.size : Int) + (s.size : Int) by omega] at hk
    refine Ev.bind hk ?_
    refine ev_const ?_
    rw [if_pos (by omega), if_pos rfl, w64 (by omega) (by omega), if_pos rfl]
    exact bindE (num_f _) rfl
  intro xs
  induction xs with
  | nil =>
    intro pre p he hp h
    refine Ev.step (f := fun k => halberdlaw1_WireRows.j3 k l s all (p : Int) (pre.length : Int) false) (fun k => ?_) (ends pre p (by simpa [pieces] using h))
    simp only [halberdlaw1_WireRows.l1]
    rw [if_neg (by rw [he]; simp)]
  | cons x xs ih =>
    intro pre p he hp h
    have hlen : (pre.length : Int) < (l.length : Int) := by rw [he]; simp; omega
    by_cases h40 : pre.length < 40
    · have hw := wid_bd pre.length
      obtain ⟨q1, q2, q3, q4, q5⟩ := wid_8 hw.1 hw.2
      have h' : From all p (beL (wid pre.length) (x % 256 ^ wid pre.length) ++ pieces xs (pre.length + 1)) := by
        simp only [pieces] at h
        rw [if_pos h40] at h
        exact h
      have hz := h'.len
      simp only [List.length_append, beL_length] at hz
      obtain ⟨e1, h1⟩ := h'.number
      rw [Int.emod_emod] at e1
      have i1 := ih (pre ++ [x]) (p + wid pre.length) (by rw [he]; simp) (by simp; omega) (by simpa using h1)
      have r0 : rd l (pre.length : Int) = x := by rw [he, rd_mid]
      have hW := wid_w (i := pre.length) (by omega)
      refine Ev.step (f := fun k => halberdlaw1_WireRows.j3 k l s all (p : Int) (pre.length : Int) true) (fun k => ?_) ?_
      · simp only [halberdlaw1_WireRows.l1]
        rw [if_pos hlen]
        congr 1
        exact decide_eq_true (by omega)
      generalize wid pre.length = m at *
      have hm : m = 1 ∨ m = 2 ∨ m = 3 ∨ m = 4 := by omega
      rcases hm with rfl | rfl | rfl | rfl
      · refine Ev.step (f := fun k => (wire_U8.f k all (p : Int)).bind _) (fun k => by
          simp only [halberdlaw1_WireRows.j3]
          rw [if_pos trivial, hW, if_pos (show ((1 : Nat) : Int) = 1 by decide)]) ?_
        have hk := U8_any all (p : Int) (by omega)
        rw [num_at (p := p) (n := 1) (by omega), e1] at hk
        refine Ev.bind hk ?_
        refine Ev.congr (f := fun k => halberdlaw1_WireRows.l1 k l s all ((p + 1 : Nat) : Int) (((pre ++ [x]).length : Nat) : Int)) (fun k => ?_) i1
        refine bindE (num_f _) ?_
        rw [if_pos (show (0 : Int) ≤ (pre.length : Int) by omega), if_pos hlen, if_pos q1, q2, q3, r0, if_pos rfl, w64 (a := (p : Int) + ((1 : Nat) : Int)) (by omega) (by omega), if_pos (by simp), if_pos rfl, w64 (by omega) (by omega)]
        simp
      · refine Ev.step (f := fun k => (wire_U16.f k all (p : Int)).bind _) (fun k => by
          simp only [halberdlaw1_WireRows.j3]
          rw [if_pos trivial, hW, if_neg (show ¬ ((2 : Nat) : Int) = 1 by decide), if_pos (show ((2 : Nat) : Int) = 2 by decide)]) ?_
        have hk := U16_any all (p : Int) (by omega)
        rw [num_at (p := p) (n := 2) (by omega), e1] at hk
        refine Ev.bind hk ?_
        refine Ev.congr (f := fun k => halberdlaw1_WireRows.l1 k l s all ((p + 2 : Nat) : Int) (((pre ++ [x]).length : Nat) : Int)) (fun k => ?_) i1
        refine bindE (num_f _) ?_
        rw [if_pos (show (0 : Int) ≤ (pre.length : Int) by omega), if_pos hlen, if_pos q1, q2, q3, r0, if_pos rfl, w64 (a := (p : Int) + ((2 : Nat) : Int)) (by omega) (by omega), if_pos (by simp), if_pos rfl, w64 (by omega) (by omega)]
        simp
      · refine Ev.step (f := fun k => (wire_U24.f k all (p : Int)).bind _) (fun k => by
          simp only [halberdlaw1_WireRows.j3]
          rw [if_pos trivial, hW, if_neg (show ¬ ((3 : Nat) : Int) = 1 by decide), if_neg (show ¬ ((3 : Nat) : Int) = 2 by decide), if_pos (show ((3 : Nat) : Int) = 3 by decide)]) ?_
        have hk := U24_any all (p : Int) (by omega)
        rw [num_at (p := p) (n := 3) (by omega), e1] at hk
        refine Ev.bind hk ?_
        refine Ev.congr (f := fun k => halberdlaw1_WireRows.l1 k l s all ((p + 3 : Nat) : Int) (((pre ++ [x]).length : Nat) : Int)) (fun k => ?_) i1
        refine bindE (num_f _) ?_
        rw [if_pos (show (0 : Int) ≤ (pre.length : Int) by omega), if_pos hlen, if_pos q1, q2, q3, r0, if_pos rfl, w64 (a := (p : Int) + ((3 : Nat) : Int)) (by omega) (by omega), if_pos (by simp), if_pos rfl, w64 (by omega) (by omega)]
        simp
      · refine Ev.step (f := fun k => (wire_U32.f k all (p : Int)).bind _) (fun k => by
          simp only [halberdlaw1_WireRows.j3]
          rw [if_pos trivial, hW, if_neg (show ¬ ((4 : Nat) : Int) = 1 by decide), if_neg (show ¬ ((4 : Nat) : Int) = 2 by decide), if_neg (show ¬ ((4 : Nat) : Int) = 3 by decide)]) ?_
        have hk := U32_any all (p : Int) (by omega)
        rw [num_at (p := p) (n := 4) (by omega), e1] at hk
        refine Ev.bind hk ?_
        refine Ev.congr (f := fun k => halberdlaw1_WireRows.l1 k l s all ((p + 4 : Nat) : Int) (((pre ++ [x]).length : Nat) : Int)) (fun k => ?_) i1
        refine bindE (num_f _) ?_
        rw [if_pos (show (0 : Int) ≤ (pre.length : Int) by omega), if_pos hlen, if_pos q1, q2, q3, r0, if_pos rfl, w64 (a := (p : Int) + ((4 : Nat) : Int)) (by omega) (by omega), if_pos (by simp), if_pos rfl, w64 (by omega) (by omega)]
        simp
    · refine Ev.step (f := fun k => halberdlaw1_WireRows.j3 k l s all (p : Int) (pre.length : Int) false) (fun k => ?_) (ends pre p (by simpa [pieces, h40] using h))
      simp only [halberdlaw1_WireRows.l1]
      rw [if_pos hlen]
      congr 1
      exact decide_eq_false (by omega)
/-- The given statement's pure form. -/
theorem WireRows : halberdlaw1_WireRows.Pure := by
  intro l s _ hl _ hs
  have key : Ev (fun k => halberdlaw1_WireRows.l0 k l s (⟨#[]⟩ : ByteArray) 0) true := by
    refine rows_write l hl s l [] (⟨#[]⟩ : ByteArray) rfl (show (0 : Nat) ≤ _ by omega) (by simp) ?_
    intro all ha
    have h1 := congrArg List.length ha
    have h2 := pieces_len l 0
    have h3 : bytesOf (⟨#[]⟩ : ByteArray) = [] := rfl
    rw [h3, List.nil_append, bytesOf_length] at h1
    refine rows_read l hl s all hs (by simp only [List.length_nil] at h1; omega) l [] 0 rfl (by simp) ⟨by omega, ?_⟩
    rw [ha, h3]
    rfl
  obtain ⟨k, hk⟩ := key.rounds
  refine ⟨k, ?_⟩
  unfold halberdlaw1_WireRows.f
  refine bindE aw ?_
  rw [if_pos rfl]
  exact hk

end Go.Proofs.Ytggnmnpmhknjgaa.Pure
