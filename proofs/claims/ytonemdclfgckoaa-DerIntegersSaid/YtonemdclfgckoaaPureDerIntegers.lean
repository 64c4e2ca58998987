/- Proved: an integer is written in its shortest form, whatever zeros stand ahead (halberdlaw13.DerIntegers answers true at every input). Conditions: none beside the given statement's own. -/
import Derived.Test.YtonemdclfgckoaaXx20
import Derived.Test.YtonemdclfgckoaaXx25
import Derived.Test.YtonemdclfgckoaaXx4
import Derived.Test.YtonemdclfgckoaaPureInt
namespace Go.Proofs.Ytonemdclfgckoaa.Pure
open Go.RowKit Go.Proofs.Ytonemdclfgckoaa.X Go.Proofs.YtonemdclfgckoaaW.PrintWords Go.Proofs.YtonemdclfgckoaaW.PrintLast Go.Proofs.YtonemdclfgckoaaW.PrintMore
set_option linter.unusedVariables false
set_option linter.unusedSimpArgs false

theorem aw : halberdlaw13_awake.f = some true := rfl
theorem and_15 (x : Int) : Go.bits .and .i64 x 15 = x % 16 := and_mask x 4 (by decide)
theorem strip_zeros (l : List Int) : ∀ n : Nat, strip (List.replicate n 0 ++ l) = strip l
  | 0 => rfl
  | n + 1 => by
    rw [List.replicate_succ, List.cons_append]
    simp only [strip]
    rw [if_pos trivial]
    exact strip_zeros l n
theorem strip_cont (l : List Int) : strip (cont l) = strip l := by
  have hne : ∀ (m : List Int) (x : Int) (r : List Int), strip m = x :: r → x ≠ 0 := by
    intro m
    induction m with
    | nil => intro x r h; simp [strip] at h
    | cons y m ih =>
      intro x r h
      simp only [strip] at h
      by_cases hy : y = 0
      · rw [if_pos hy] at h; exact ih x r h
      · rw [if_neg hy] at h
        rw [← (List.cons.inj h).1]
        exact hy
  unfold cont
  cases e : strip l with
  | nil => rfl
  | cons x r =>
    have hx := hne l x r e
    simp only []
    split
    · simp only [strip]
      rw [if_pos trivial, if_neg hx]
    · simp only [strip]
      rw [if_neg hx]
theorem int_read1 (v : ByteArray) (t : Int) (d : ByteArray) (hd0 : d.size ≤ 64) (hB : bytesOf v = cont (bytesOf d)) (w : ByteArray) (hw : bytesOf w = strip (bytesOf d)) : ∀ (l : List Int) (s : ByteArray), bytesOf s = l → s.size ≤ 64 → strip l = strip (bytesOf d) →
    Ev (fun k => halberdlaw13_DerIntegers.l1 k s w t v) true := by
  have fin : ∀ s : ByteArray, bytesOf s = strip (bytesOf d) → (if w.toList = s.toList then (if 0 < (v.size : Int) then (if (bt v 0) < 128 then (if (v.size : Int) = 1 then (some true) else (if (bt v 0) = 0 then (if 1 < (v.size : Int) then (some (decide ((bt v 1) > 127))) else (none)) else (some true))) else (some false)) else (none)) else (some false)) = some true := by
    intro s hs
    have hws : w = s := bytesOf_inj (by rw [hw, hs])
    have hl := cont_len (bytesOf d)
    have hv : v.size = (cont (bytesOf d)).length := by rw [← hB, bytesOf_length]
    rw [if_pos (by rw [hws]), if_pos (by omega)]
    unfold cont at hB hv
    cases e : strip (bytesOf d) with
    | nil =>
      rw [e] at hB hv
      simp only [] at hB hv
      rw [bt_head hB, if_pos (by decide), if_pos (by rw [hv]; rfl)]
    | cons x r =>
      rw [e] at hB hv
      simp only [] at hB hv
      by_cases hx : x ≥ 128
      · rw [if_pos hx] at hB hv
        have h1 : bt v 1 = x := by rw [bt_get, hB]; rfl
        rw [bt_head hB, if_pos (by decide), if_neg (by rw [hv]; simp only [List.length_cons]; omega), if_pos rfl, if_pos (by rw [hv]; simp only [List.length_cons]; omega), h1]
        congr 1
        exact decide_eq_true (by omega)
      · rw [if_neg hx] at hB hv
        have h0 : x ≠ 0 := by
          intro h0
          have hh := strip_cont (bytesOf d)
          unfold cont at hh
          rw [e] at hh
          simp only [] at hh
          rw [if_neg hx] at hh
          simp only [strip] at hh
          rw [if_pos h0] at hh
          have q1 := strip_len r
          have q2 := congrArg List.length hh
          simp only [List.length_cons] at q2
          omega
        rw [bt_head hB, if_pos (by omega)]
        split
        all_goals first | rfl | rw [if_neg h0]
  intro l
  induction l with
  | nil =>
    intro s h hs he
    have hz : s.size = 0 := by rw [← bytesOf_length, h]; rfl
    refine Ev.step (f := fun _ => some true) (fun k => ?_) (Ev.now _)
    simp only [halberdlaw13_DerIntegers.l1]
    rw [if_neg (by omega)]
    exact fin s (by rw [h, ← he]; rfl)
  | cons x r ih =>
    intro s h hs he
    have hx := bt_head h
    obtain ⟨ht, hz⟩ := bytes_tail h
    by_cases h0 : x = 0
    · refine Ev.step (f := fun k => halberdlaw13_DerIntegers.l1 k (s.extract 1 s.size) w t v) (fun k => by
        simp only [halberdlaw13_DerIntegers.l1]
        rw [if_pos (by omega), hx, if_pos h0, if_pos (by omega)]) ?_
      exact ih _ ht (by rw [ByteArray.size_extract]; omega) (by rw [← he]; simp only [strip]; rw [if_pos h0])
    · refine Ev.step (f := fun _ => some true) (fun k => ?_) (Ev.now _)
      simp only [halberdlaw13_DerIntegers.l1]
      rw [if_pos (by omega), hx, if_neg h0]
      exact fin s (by rw [h, ← he]; simp only [strip]; rw [if_neg h0])
theorem int_read0 (v : ByteArray) (t : Int) (d : ByteArray) (hd0 : d.size ≤ 64) (hB : bytesOf v = cont (bytesOf d)) : ∀ (l : List Int) (s : ByteArray), bytesOf s = l → s.size ≤ 100 → strip l = strip (bytesOf d) →
    Ev (fun k => halberdlaw13_DerIntegers.l0 k d s t v) true := by
  intro l
  induction l with
  | nil =>
    intro s h hs he
    have hz : s.size = 0 := by rw [← bytesOf_length, h]; rfl
    refine Ev.step (f := fun k => halberdlaw13_DerIntegers.j3 k d s t v) (fun k => by
      simp only [halberdlaw13_DerIntegers.l0]
      rw [if_neg (by omega)]) ?_
    refine Ev.step (f := fun k => halberdlaw13_DerIntegers.l1 k d s t v) (fun k => by simp only [halberdlaw13_DerIntegers.j3]) ?_
    exact int_read1 v t d hd0 hB s (by rw [h, ← he]; rfl) _ d rfl hd0 rfl
  | cons x r ih =>
    intro s h hs he
    have hx := bt_head h
    obtain ⟨ht, hz⟩ := bytes_tail h
    by_cases h0 : x = 0
    · refine Ev.step (f := fun k => halberdlaw13_DerIntegers.l0 k d (s.extract 1 s.size) t v) (fun k => by
        simp only [halberdlaw13_DerIntegers.l0]
        rw [if_pos (by omega), hx, if_pos h0, if_pos (by omega)]) ?_
      exact ih _ ht (by rw [ByteArray.size_extract]; omega) (by rw [← he]; simp only [strip]; rw [if_pos h0])
    · refine Ev.step (f := fun k => halberdlaw13_DerIntegers.j3 k d s t v) (fun k => by
        simp only [halberdlaw13_DerIntegers.l0]
        rw [if_pos (by omega), hx, if_neg h0]) ?_
      refine Ev.step (f := fun k => halberdlaw13_DerIntegers.l1 k d s t v) (fun k => by simp only [halberdlaw13_DerIntegers.j3]) ?_
      exact int_read1 v t d hd0 hB s (by rw [h, ← he]; simp only [strip]; rw [if_neg h0]) _ d rfl hd0 rfl
theorem int_zeros (n : Nat) : Byte (List.replicate n 0) := by
  intro x hx
  have := List.eq_of_mem_replicate hx
  omega
set_option maxHeartbeats 4000000 in
theorem int_j0 (b : Int) (s : ByteArray) (hs : s.size ≤ 40) : Ev (fun k => halberdlaw13_DerIntegers.j0 k b s) true := by
  obtain ⟨n, hn, hn1⟩ : ∃ n : Nat, b % 16 = n ∧ n < 16 := ⟨(b % 16).toNat, by omega, by omega⟩
  have nn : ((n : Int)).toNat = n := by omega
  have n65 : (65 + (n : Int)).toNat = 65 + n := by omega
  have hl := cont_len (bytesOf s)
  rw [bytesOf_length] at hl
  have hT : isTag 2 := ⟨by decide, by decide, by decide⟩
  have hdl := hd_len 2 (cont (bytesOf s)).length
  have h1 := integer_ok (s := s) (by omega)
  have hzb : bytesOf (strOfNums (List.replicate n 0) ++ s) = List.replicate n 0 ++ bytesOf s := by rw [bytesOf_app, bytesOf_strOf (int_zeros n)]
  have h2 := integer_ok (s := strOfNums (List.replicate n 0) ++ s) (by rw [ByteArray.size_append, strOf_size, List.length_replicate]; omega)
  rw [hzb, cont_strip (strip_zeros (bytesOf s) n)] at h2
  have h3 := integer_long (s := strOfNums (List.replicate (65 + n) 0)) (by rw [strOf_size, List.length_replicate]; omega)
  have hcb := cont_byte (bytesOf_byte s)
  have hB : Byte (hd 2 (cont (bytesOf s)).length ++ cont (bytesOf s)) := by
    intro x hx
    rcases List.mem_append.mp hx with hx | hx
    · exact hd_byte (by omega) x hx
    · exact hcb x hx
  obtain ⟨X, hX⟩ : ∃ X, X = strOfNums (hd 2 (cont (bytesOf s)).length ++ cont (bytesOf s)) := ⟨_, rfl⟩
  obtain ⟨V, hV⟩ : ∃ V, V = strOfNums (cont (bytesOf s)) := ⟨_, rfl⟩
  have vb : bytesOf V = cont (bytesOf s) := by rw [hV]; exact bytesOf_strOf hcb
  have vs : V.size = (cont (bytesOf s)).length := by rw [hV, strOf_size]
  have xs : X.size = (hd 2 (cont (bytesOf s)).length).length + (cont (bytesOf s)).length := by rw [hX, strOf_size, List.length_append]
  have f4 := From.start X
  rw [hX, bytesOf_strOf hB, ← hX] at f4
  have h4 := get_ok f4 (by omega)
  have e4 := getL_put (t := 2) (b := cont (bytesOf s)) (m := []) hT (by omega)
  rw [List.append_nil] at e4
  rw [e4] at h4
  simp only [getRes] at h4
  rw [← hV] at h4
  rw [← hX] at h1 h2
  have h5 := int_read0 V 2 s (by omega) vb _ V rfl (by omega) (by rw [vb]; exact strip_cont _)
  have h6 : Ev (fun k => halberdlaw13_DerIntegers.j1 k s (V.toList == ([] : List UInt8)) 2 V) true := by
    refine Ev.step (f := fun k => halberdlaw13_DerIntegers.l0 k s V 2 V) (fun k => ?_) h5
    simp only [halberdlaw13_DerIntegers.j1]
    rw [if_neg (by have := toList_cons (s := V) (by omega); simpa using this)]
  refine Ev.step (f := fun k => (der_Integer.f k s).bind _) (fun k => by simp only [halberdlaw13_DerIntegers.j0, and_15, hn, nn]; rfl) ?_
  refine Ev.bind h1 ?_
  refine evPos (by omega) ?_
  refine evPos (by omega) ?_
  refine evPos (by rw [strOf_size, List.length_replicate]; omega) ?_
  refine Ev.bind h2 ?_
  rw [w64 (a := 65 + (n : Int)) (by omega) (by omega), n65]
  refine evPos (by omega) ?_
  refine evPos (by omega) ?_
  refine Ev.bind h3 ?_
  refine Ev.bind h4 ?_
  refine Ev.congr (f := fun k => halberdlaw13_DerIntegers.j1 k s (V.toList == ([] : List UInt8)) 2 V) (fun k => ?_) h6
  refine bindE (num_f _) ?_
  rw [if_pos rfl]
  refine bindE (num_f _) ?_
  rw [if_pos rfl, if_pos rfl]
  refine bindE (num_f _) ?_
  rw [if_pos rfl]
  refine bindE (num_f _) ?_
  rw [if_pos rfl, if_pos (by show ((0 + _ : Nat) : Int) = X.size; omega), if_pos rfl]
/-- The given statement's pure form. -/
theorem DerIntegers : halberdlaw13_DerIntegers.Pure := by
  intro s b hs _
  unfold halberdlaw13_DerIntegers.f
  by_cases h : (s.size : Int) > 40
  · obtain ⟨k, hk⟩ := (int_j0 b (s.extract 0 40) (by rw [ByteArray.size_extract]; omega)).rounds
    refine ⟨k, ?_⟩
    refine bindE aw ?_
    rw [if_pos rfl, if_pos h, if_pos (by omega), if_pos (by omega)]
    exact hk
  · obtain ⟨k, hk⟩ := (int_j0 b s (by omega)).rounds
    refine ⟨k, ?_⟩
    refine bindE aw ?_
    rw [if_pos rfl, if_neg h]
    exact hk

end Go.Proofs.Ytonemdclfgckoaa.Pure
