/- Proved: numbers and vectors that wire wrote, one behind the other, are read back by wire as they were (halberdlaw1.WireBack answers true at every input). Conditions: none beside the given statement's own. -/
import Derived.Test.YtggnmnpmhknjgaaXx11
import Derived.Test.YtggnmnpmhknjgaaXx14
import Derived.Test.YtggnmnpmhknjgaaXx15
import Derived.Test.YtggnmnpmhknjgaaXx17
import Derived.Test.YtggnmnpmhknjgaaXx6
import Derived.Test.YtggnmnpmhknjgaaPureLib
namespace Go.Proofs.Ytggnmnpmhknjgaa.Pure
open Go.RowKit Go.Proofs.Ytggnmnpmhknjgaa.X Go.Proofs.YtggnmnpmhknjgaaW.PrintWords Go.Proofs.YtggnmnpmhknjgaaW.PrintLast Go.Proofs.YtggnmnpmhknjgaaW.PrintMore
set_option linter.unusedVariables false
set_option linter.unusedSimpArgs false

theorem and_32 (x : Int) : Go.bits .and .i64 x 4294967295 = x % 4294967296 := and_mask x 32 (by decide)
theorem and_24 (x : Int) : Go.bits .and .i64 x 16777215 = x % 16777216 := and_mask x 24 (by decide)
def chunk (t : ByteArray) (x : Int) (i : Nat) : List Int := beL 4 (x % 4294967296) ++ (beL 3 (x % 16777216) ++ (beL (1 + i % 3) t.size ++ bytesOf t))
def chunks (t : ByteArray) : List Int → Nat → List Int
  | [], _ => []
  | x :: xs, i => if i < 30 then chunk t x i ++ chunks t xs (i + 1) else []
theorem chunk_len (t : ByteArray) (x : Int) (i : Nat) (ht : t.size ≤ 255) : (chunk t x i).length ≤ 265 := by
  simp only [chunk, List.length_append, beL_length, bytesOf_length]
  omega
theorem chunks_len (t : ByteArray) (ht : t.size ≤ 255) : ∀ (xs : List Int) (i : Nat), (chunks t xs i).length ≤ (30 - i) * 265
  | [], i => by simp [chunks]
  | x :: xs, i => by
    have h1 := chunk_len t x i ht
    have h2 := chunks_len t ht xs (i + 1)
    unfold chunks
    split
    · rw [List.length_append]; omega
    · simp
theorem rd_mid (pre xs : List Int) (x : Int) : rd (pre ++ x :: xs) (pre.length : Int) = x := by simp [rd]
theorem sizeW (i : Nat) (h : i ≤ 140737488351232) : wrap64 (1 + Int.tmod (i : Int) 3) = ((1 + i % 3 : Nat) : Int) := by
  rw [Int.tmod_eq_emod_of_nonneg (by omega)]
  unfold wrap64
  omega
theorem put4 (x : Int) : wire_Put.f (x % 4294967296) 4 = some (strOfNums (beL 4 (x % 4294967296)), 0) := by
  have h := put_ok (x % 4294967296) 4 (by omega) (by omega) (by omega)
  unfold putOf at h
  rw [if_pos (by omega)] at h
  exact h
theorem put3 (x : Int) : wire_Put.f (x % 16777216) 3 = some (strOfNums (beL 3 (x % 16777216)), 0) := by
  have h := put_ok (x % 16777216) 3 (by omega) (by omega) (by omega)
  unfold putOf at h
  rw [if_pos (by omega)] at h
  exact h
theorem back_write (l : List Int) (hl : l.length * 8 ≤ 140737488351232) (t : ByteArray) (ht : t.size ≤ 255) : ∀ (xs pre : List Int) (x6 : ByteArray), l = pre ++ xs → x6.size ≤ 255 + 265 * pre.length → pre.length ≤ 30 →
    (∀ all, bytesOf all = bytesOf x6 ++ chunks t xs pre.length → Ev (fun k => halberdlaw1_WireBack.l1 k l t all (t.size : Int) 0) true) → Ev (fun k => halberdlaw1_WireBack.l0 k l t x6 (pre.length : Int)) true
  | [], pre, x6, he, h6, hp, K => by
    refine Ev.step (f := fun k => halberdlaw1_WireBack.j2 k l t x6 (pre.length : Int) false) (fun k => ?_) ?_
    · simp only [halberdlaw1_WireBack.l0]
      rw [if_neg (by rw [he]; simp)]
    · refine Ev.step (f := fun k => halberdlaw1_WireBack.l1 k l t x6 (t.size : Int) 0) (fun k => ?_) (K x6 (by simp [chunks]))
      simp only [halberdlaw1_WireBack.j2]
      rw [if_neg (by simp)]
  | x :: xs, pre, x6, he, h6, hp, K => by
    have hlen : (pre.length : Int) < (l.length : Int) := by rw [he]; simp; omega
    by_cases h30 : pre.length < 30
    · refine Ev.step (f := fun k => halberdlaw1_WireBack.j2 k l t x6 (pre.length : Int) true) (fun k => ?_) ?_
      · simp only [halberdlaw1_WireBack.l0]
        rw [if_pos hlen]
        congr 1
        exact decide_eq_true (by omega)
      · have ih := back_write l hl t ht xs (pre ++ [x]) (((x6 ++ strOfNums (beL 4 (x % 4294967296))) ++ strOfNums (beL 3 (x % 16777216))) ++ (strOfNums (beL (1 + pre.length % 3) t.size) ++ t)) (by rw [he]; simp)
          (by simp only [ByteArray.size_append, strOf_size, beL_length, List.length_append, List.length_singleton]; omega) (by simp; omega)
          (fun all ha => K all (by
            rw [ha]
            simp only [bytesOf_app, bytesOf_strOf (beL_byte _ _), List.length_append, List.length_singleton]
            rw [show chunks t (x :: xs) pre.length = chunk t x pre.length ++ chunks t xs (pre.length + 1) by simp only [chunks]; rw [if_pos h30]]
            simp [chunk]))
        refine Ev.step (f := fun k => halberdlaw1_WireBack.l0 k l t (((x6 ++ strOfNums (beL 4 (x % 4294967296))) ++ strOfNums (beL 3 (x % 16777216))) ++ (strOfNums (beL (1 + pre.length % 3) t.size) ++ t)) (((pre ++ [x]).length : Nat) : Int)) (fun k => ?_) ih
        simp only [halberdlaw1_WireBack.j2]
        rw [if_pos trivial, if_pos (by omega), if_pos hlen, he, rd_mid, and_32, and_24, sizeW _ (by omega)]
        refine bindE (put4 x) ?_
        refine bindE (put3 x) ?_
        refine bindE (putT t (1 + pre.length % 3) (by omega) (by omega) ht) ?_
        refine bindE (num_f _) ?_
        rw [if_pos rfl]
        refine bindE (num_f _) ?_
        rw [if_pos rfl]
        refine bindE (num_f _) ?_
        rw [if_pos rfl, if_pos (by rw [strOf_size, beL_length]; rfl), if_pos (by rw [strOf_size, beL_length]; rfl)]
        have z4 : (strOfNums (beL 4 (x % 4294967296))).size = 4 := by rw [strOf_size, beL_length]
        have z3 : (strOfNums (beL 3 (x % 16777216))).size = 3 := by rw [strOf_size, beL_length]
        have z1 : (strOfNums (beL (1 + pre.length % 3) t.size)).size = 1 + pre.length % 3 := by rw [strOf_size, beL_length]
        rw [if_pos (by simp only [z4]; omega), if_pos (by simp only [ByteArray.size_append, z4, z3]; omega), if_pos (by simp only [ByteArray.size_append, z4, z3, z1]; omega)]
        rw [w64 (by omega) (by omega)]
        simp
    · refine Ev.step (f := fun k => halberdlaw1_WireBack.j2 k l t x6 (pre.length : Int) false) (fun k => ?_) ?_
      · simp only [halberdlaw1_WireBack.l0]
        rw [if_pos hlen]
        congr 1
        exact decide_eq_false (by omega)
      · refine Ev.step (f := fun k => halberdlaw1_WireBack.l1 k l t x6 (t.size : Int) 0) (fun k => ?_) (K x6 (by simp only [chunks]; rw [if_neg h30]; simp))
        simp only [halberdlaw1_WireBack.j2]
        rw [if_neg (by simp)]
theorem u32_at {s : ByteArray} {p : Nat} (h : p + 4 ≤ s.size) (hs : s.size ≤ 140737488351232) : Ev (fun k => wire_U32.f k s (p : Int)) (nv s p 4, p + 4, 0) := by
  have h1 := U32_any s p hs
  unfold numOf at h1
  rw [if_neg (by omega)] at h1
  exact h1
theorem u24_at {s : ByteArray} {p : Nat} (h : p + 3 ≤ s.size) (hs : s.size ≤ 140737488351232) : Ev (fun k => wire_U24.f k s (p : Int)) (nv s p 3, p + 3, 0) := by
  have h1 := U24_any s p hs
  unfold numOf at h1
  rw [if_neg (by omega)] at h1
  exact h1
theorem back_read (l : List Int) (hl : l.length * 8 ≤ 140737488351232) (t : ByteArray) (ht : t.size ≤ 255) (all : ByteArray) (hs : all.size ≤ 140737488351232) : ∀ (xs pre : List Int) (p : Nat), l = pre ++ xs → pre.length ≤ 30 →
    From all p (chunks t xs pre.length) → Ev (fun k => halberdlaw1_WireBack.l1 k l t all (p : Int) (pre.length : Int)) true := by
  have ends : ∀ (pre : List Int) (p : Nat), From all p [] → Ev (fun k => halberdlaw1_WireBack.j4 k l t all (p : Int) (pre.length : Int) false) true := by
    intro pre p h
    have hz := h.len
    simp only [List.length_nil] at hz
    have hu := U8_any all p hs
    unfold numOf at hu
    rw [if_pos (by omega)] at hu
    refine Ev.step (f := fun k => (wire_U8.f k all (p : Int)).bind _) (fun k => by simp only [halberdlaw1_WireBack.j4]; rw [if_neg (by simp)]) ?_
    refine Ev.bind hu (ev_const ?_)
    rw [if_pos (by omega)]
    rfl
  intro xs
  induction xs with
  | nil =>
    intro pre p he hp h
    refine Ev.step (f := fun k => halberdlaw1_WireBack.j4 k l t all (p : Int) (pre.length : Int) false) (fun k => ?_) (ends pre p h)
    simp only [halberdlaw1_WireBack.l1]
    rw [if_neg (by rw [he]; simp)]
  | cons x xs ih =>
    intro pre p he hp h
    have hlen : (pre.length : Int) < (l.length : Int) := by rw [he]; simp; omega
    by_cases h30 : pre.length < 30
    · refine Ev.step (f := fun k => halberdlaw1_WireBack.j4 k l t all (p : Int) (pre.length : Int) true) (fun k => ?_) ?_
      · simp only [halberdlaw1_WireBack.l1]
        rw [if_pos hlen]
        congr 1
        exact decide_eq_true (by omega)
      · rw [show chunks t (x :: xs) pre.length = chunk t x pre.length ++ chunks t xs (pre.length + 1) by simp only [chunks]; rw [if_pos h30]] at h
        unfold chunk at h
        simp only [List.append_assoc] at h
        have hz := h.len
        simp only [List.length_append, beL_length] at hz
        obtain ⟨e1, h1⟩ := h.number
        obtain ⟨e2, h2⟩ := h1.number
        obtain ⟨hv, h3⟩ := vec_at (by omega) (by omega) ht hs h2
        have i1 := ih (pre ++ [x]) _ (by rw [he]; simp) (by simp; omega) (by simpa using h3)
        have n1 : nv all p 4 = x % 4294967296 := by rw [e1]; omega
        have n2 : nv all (p + 4 : Nat) 3 = x % 16777216 := by rw [e2]; omega
        refine Ev.step (f := fun k => (wire_U32.f k all (p : Int)).bind fun b1 => (wire_U24.f k all b1.2.1).bind _) (fun k => by simp only [halberdlaw1_WireBack.j4]; rw [if_pos trivial]) ?_
        refine Ev.bind (u32_at (by omega) hs) ?_
        have c1 : (p : Int) + 4 = ((p + 4 : Nat) : Int) := by omega
        simp only [c1]
        refine Ev.bind (u24_at (by omega) hs) ?_
        have c2 : ((p + 4 : Nat) : Int) + 3 = ((p + 4 + 3 : Nat) : Int) := by omega
        simp only [c2]
        rw [sizeW _ (by omega)]
        refine Ev.bind hv ?_
        refine Ev.congr (f := fun k => halberdlaw1_WireBack.l1 k l t all ((p + 4 + 3 + (1 + pre.length % 3) + t.size : Nat) : Int) (((pre ++ [x]).length : Nat) : Int)) (fun k => ?_) i1
        rw [if_pos (by omega), if_pos hlen]
        have r0 : rd l (pre.length : Int) = x := by rw [he, rd_mid]
        rw [r0, and_32, and_24, if_pos n1, if_pos n2, if_pos rfl]
        refine bindE (num_f _) ?_
        rw [if_pos rfl]
        refine bindE (num_f _) ?_
        rw [if_pos rfl]
        refine bindE (num_f _) ?_
        rw [if_pos rfl, w64 (by omega) (by omega)]
        simp
    · refine Ev.step (f := fun k => halberdlaw1_WireBack.j4 k l t all (p : Int) (pre.length : Int) false) (fun k => ?_) (ends pre p (by simpa [chunks, h30] using h))
      simp only [halberdlaw1_WireBack.l1]
      rw [if_pos hlen]
      congr 1
      exact decide_eq_false (by omega)
/-- The given statement's pure form. -/
theorem WireBack : halberdlaw1_WireBack.Pure := by
  intro l s _ hl _ hs
  have key : ∀ t : ByteArray, t.size ≤ 255 → Ev (fun k => halberdlaw1_WireBack.j0 k l t) true := by
    intro t ht
    refine Ev.step (f := fun k => halberdlaw1_WireBack.l0 k l t t 0) (fun k => by simp only [halberdlaw1_WireBack.j0]) ?_
    refine back_write l hl t ht l [] t rfl (by simp; omega) (by simp) ?_
    intro all ha
    have hz : all.size ≤ 255 + 30 * 265 := by
      have h1 := congrArg List.length ha
      have h2 := chunks_len t ht l 0
      simp only [List.length_append, bytesOf_length, List.length_nil] at h1
      omega
    refine back_read l hl t ht all (by omega) l [] t.size rfl (by simp) ⟨by have h1 := congrArg List.length ha; simp only [List.length_append, bytesOf_length] at h1; omega, ?_⟩
    rw [ha, List.drop_left' (bytesOf_length t)]
  unfold halberdlaw1_WireBack.f
  by_cases h : (s.size : Int) > 255
  · have hx : (s.extract 0 255).size ≤ 255 := by rw [ByteArray.size_extract]; omega
    obtain ⟨k, hk⟩ := (key _ hx).rounds
    refine ⟨k, ?_⟩
    refine bindE aw ?_
    rw [if_pos rfl, if_pos h, if_pos (by omega), if_pos (by omega)]
    exact hk
  · obtain ⟨k, hk⟩ := (key s (by omega)).rounds
    refine ⟨k, ?_⟩
    refine bindE aw ?_
    rw [if_pos rfl, if_neg h]
    exact hk

end Go.Proofs.Ytggnmnpmhknjgaa.Pure
