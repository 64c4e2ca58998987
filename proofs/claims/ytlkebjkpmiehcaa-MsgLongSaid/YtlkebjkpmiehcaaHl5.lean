/- Words, contracts and lemmas that the claim needs, in the order in which they build. Conditions: each lemma's own. -/
import Derived.OrdersHeld
import Derived.Test.YtlkebjkpmiehcaaHl4
section
namespace Go.Proofs.Ytlkebjkpmiehcaa.X
open Go.RowKit Go.Proofs.YtlkebjkpmiehcaaW.PrintWords Go.Proofs.YtlkebjkpmiehcaaW.PrintLast Go.Proofs.YtlkebjkpmiehcaaW.PrintMore
attribute [local go_sem] max2_int min2_int max_two min_two max_three min_three max_four min_four   
set_option linter.unusedVariables false
set_option linter.unusedSimpArgs false
def halberdlaw17_vec.f (a0 : ByteArray) (a1 : Int) : Option (ByteArray) := (some (([((a0.size : Int) / 65536) % 256, ((a0.size : Int) / 256) % 256, ((a0.size : Int)) % 256] : List Int) : List Int)).bind fun y250 => (if 0 ≤ (wrap64 (3 - a1)) then (if (wrap64 (3 - a1)) ≤ ((strOfNums y250).size : Int) then (if ((strOfNums y250).extract ((wrap64 (3 - a1)) : Int).toNat (strOfNums y250).size).size + a0.size ≤ 9223372036854775807 then (some (((strOfNums y250).extract ((wrap64 (3 - a1)) : Int).toNat (strOfNums y250).size) ++ a0)) else (none)) else (none)) else (none))
set_option maxHeartbeats 8000000 in
set_option maxRecDepth 100000 in
theorem halberdlaw17_vec.calls (a0 : ByteArray) (a1 : Int) (r : ByteArray) (w : World) (h : halberdlaw17_vec.f a0 a1 = some r) :
    Calls Try.prog 29 #[.string a0, .int .i64 a1] w fun e w' => e = .returned (.string r) ∧ Below w.heap.size w w' := by
  have HB := Aside0.mk (Below.refl w.heap.size w)
  have H : ((some (([((a0.size : Int) / 65536) % 256, ((a0.size : Int) / 256) % 256, ((a0.size : Int)) % 256] : List Int) : List Int)).bind fun y250 => (if 0 ≤ (wrap64 (3 - a1)) then (if (wrap64 (3 - a1)) ≤ ((strOfNums y250).size : Int) then (if ((strOfNums y250).extract ((wrap64 (3 - a1)) : Int).toNat (strOfNums y250).size).size + a0.size ≤ 9223372036854775807 then (some (((strOfNums y250).extract ((wrap64 (3 - a1)) : Int).toNat (strOfNums y250).size) ++ a0)) else (none)) else (none)) else (none))) = some r := h
  clear h
  obtain ⟨y250, hy250⟩ : ∃ y_ : List Int, y_ = (([((a0.size : Int) / 65536) % 256, ((a0.size : Int) / 256) % 256, ((a0.size : Int)) % 256] : List Int)) := ⟨_, rfl⟩
  replace H : (if 0 ≤ (wrap64 (3 - a1)) then (if (wrap64 (3 - a1)) ≤ ((strOfNums y250).size : Int) then (if ((strOfNums y250).extract ((wrap64 (3 - a1)) : Int).toNat (strOfNums y250).size).size + a0.size ≤ 9223372036854775807 then (some (((strOfNums y250).extract ((wrap64 (3 - a1)) : Int).toNat (strOfNums y250).size) ++ a0)) else (none)) else (none)) else (none)) = some r := by first | (rw [hy250]; with_reducible exact H) | (have H2_ := (Option.bind_some _ _).symm.trans H; rw [hy250]; with_reducible exact H2_) | (have H2_ := (Option.bind_some _ _).symm.trans H; with_reducible exact H2_) | with_reducible exact H | (rw [hy250]; exact H) | exact H
  have Ny250 := Aside0.mk hy250
  clear hy250
  obtain ⟨ji3, hji3⟩ : ∃ j_ : Int, (wrap64 (3 - a1)) = j_ := ⟨_, rfl⟩
  replace H : (if 0 ≤ (ji3) then (if (ji3) ≤ ((strOfNums y250).size : Int) then (if ((strOfNums y250).extract ((ji3) : Int).toNat (strOfNums y250).size).size + a0.size ≤ 9223372036854775807 then (some (((strOfNums y250).extract ((ji3) : Int).toNat (strOfNums y250).size) ++ a0)) else (none)) else (none)) else (none)) = some r := by first | (rw [hji3] at H; exact H) | (simp only [hji3] at H ⊢; exact H)
  have hji3w : (IntKind.i64.wrap (3 - a1)) = ji3 := (i64_w _).trans hji3
  by_cases c4 : 0 ≤ (ji3)
  · rw [if_pos c4] at H
    have c4b0 := eq_true c4
    have c4b1 : decide (0 ≤ (ji3)) = true := decide_eq_true c4
    clear c4
    by_cases c5 : (ji3) ≤ ((strOfNums y250).size : Int)
    · rw [if_pos c5] at H
      have c5b0 := eq_true c5
      have c5b1 : decide ((ji3) ≤ ((strOfNums y250).size : Int)) = true := decide_eq_true c5
      clear c5
      by_cases c6 : ((strOfNums y250).extract ((ji3) : Int).toNat (strOfNums y250).size).size + a0.size ≤ 9223372036854775807
      · rw [if_pos c6] at H
        have c6b0 := eq_true c6
        have c6b1 : decide (((strOfNums y250).extract ((ji3) : Int).toNat (strOfNums y250).size).size + a0.size ≤ 9223372036854775807) = true := decide_eq_true c6
        try have c6b2 : (9223372036854775807 < ((strOfNums y250).extract ((ji3) : Int).toNat (strOfNums y250).size).size + a0.size) = False := eq_false (Nat.not_lt.2 c6)
        obtain ⟨ys253, hys253⟩ : ∃ y_ : ByteArray, y_ = (((strOfNums y250).extract ((ji3) : Int).toNat (strOfNums y250).size) ++ a0) := ⟨_, rfl⟩
        replace H : (some ys253) = some r := by first | (rw [hys253]; with_reducible exact H) | (have H2_ := (Option.bind_some _ _).symm.trans H; rw [hys253]; with_reducible exact H2_) | (have H2_ := (Option.bind_some _ _).symm.trans H; with_reducible exact H2_) | with_reducible exact H | (rw [hys253]; exact H) | exact H
        have Nys253 := Aside0.mk hys253
        clear hys253
        have Sys253 := Nys253.out.symm
        obtain rfl := Option.some.inj H
        go_enter Try.func29, Try.ntmps29
        go_wp2_with (first | ((with_reducible refine gate_dst (N := 16) rfl ?_); refine Kd.R_lit (Kd.int .u8) _ 5 ?hg (N := 16) ?hd (xs := ([((a0.size : Int) / 65536) % 256, ((a0.size : Int) / 256) % 256, ((a0.size : Int)) % 256] : List Int)) (inner := [.int .u8 (((a0.size : Int) / 65536) % 256), .int .u8 (((a0.size : Int) / 256) % 256), .int .u8 (((a0.size : Int)) % 256)]) (ok := fun _ => True) (okp := fun _ => True) ?hr ?hp (fun _ hk => hk) trivial (Below.refl _ _) (Nat.le_refl _) (by simp) ?_; (case hd => rfl); (case hg => rfl); (case hr => first | (go_simp; done) | (go_simp; rfl)); (case hp => exact (Reps.one (show Kd.M (Kd.int .u8) _ _ _ (((a0.size : Int) / 65536) % 256) [.int .u8 (((a0.size : Int) / 65536) % 256)] from rfl) (Reps.one (show Kd.M (Kd.int .u8) _ _ _ (((a0.size : Int) / 256) % 256) [.int .u8 (((a0.size : Int) / 256) % 256)] from rfl) (Reps.one (show Kd.M (Kd.int .u8) _ _ _ (((a0.size : Int)) % 256) [.int .u8 (((a0.size : Int)) % 256)] from rfl) (Reps.none _ _))))); intro v251 w7 ho8 hb hg_ hnew_; clear hg_ hnew_; (first | rw [← Ny250.out] at ho8 | (simp only [Int.reduceToNat] at ho8; rw [← Ny250.out] at ho8)); have n0_ := Aside0.mk (Kd.R_lower ho8 (below_size (by repeat (first | (with_reducible first | exact HB.out | apply below_alloc | apply pw_below_drewN | apply below_drew1) | exact HB.out)))); have n1_ := Aside0.mk (below_step (by repeat (first | (with_reducible first | exact HB.out | apply below_alloc | apply pw_below_drewN | apply below_drew1) | exact HB.out)) hb); clear HB; have HO252 := n0_; have HB := n1_; clear n0_ n1_; clear hb ho8; have hcv9 := own_string (P := Try.prog) Try.underlying39 Try.underlying5 Try.underlying9 (Kd.own_of_R HO252.out)))
        go_ret
        exact ⟨by first | rfl | (simp [errW_none, errW_some] <;> rfl) | (simp only [← hji3]; first | rfl | (simp [errW_none, errW_some] <;> rfl)) | (simp [*, errW_none, errW_some] <;> rfl), by repeat (first | (with_reducible first | exact HB.out | apply below_alloc | apply pw_below_drewN | apply below_drew1) | exact HB.out)⟩
      · rw [if_neg c6] at H
        exact absurd H (by simp)
    · rw [if_neg c5] at H
      exact absurd H (by simp)
  · rw [if_neg c4] at H
    exact absurd H (by simp)
def halberdlaw17_made.f (a0 : Int) (a1 : ByteArray) : Option (ByteArray) := (some (([(a0) % 256] : List Int) : List Int)).bind fun y254 => ((halberdlaw17_vec.f a1 3).bind fun t257 => (if (strOfNums y254).size + t257.size ≤ 9223372036854775807 then (some ((strOfNums y254) ++ t257)) else (none)))
def halberdlaw17_made.T1 : Bool × List (List Nat × List Nat) := (true, [([], []), ([0], [0]), ([1], [1]), ([2], [2]), ([], []), ([4], [4]), ([3, 5], [3, 5]), ([6, 5, 0, 1, 2, 3, 4, 5, 6], [6])])
def halberdlaw17_made.B1 : List Nat := [0, 1, 3, 7, 0, 16, 63, 127]
theorem halberdlaw17_made.tab1 : rtab .any (opsOf Try.f28 1) = halberdlaw17_made.T1 := by kernel_rfl
theorem halberdlaw17_made.bits1 : waitsOk halberdlaw17_made.T1.2 halberdlaw17_made.B1 = true := by kernel_rfl
set_option maxHeartbeats 8000000 in
set_option maxRecDepth 100000 in
theorem halberdlaw17_made.calls (a0 : Int) (a1 : ByteArray) (r : ByteArray) (w : World) (h : halberdlaw17_made.f a0 a1 = some r) :
    Calls Try.prog 28 #[.int .i64 a0, .string a1] w fun e w' => e = .returned (.string r) ∧ Below w.heap.size w w' := by
  have HB := Aside0.mk (Below.refl w.heap.size w)
  have H : ((some (([(a0) % 256] : List Int) : List Int)).bind fun y254 => ((halberdlaw17_vec.f a1 3).bind fun t257 => (if (strOfNums y254).size + t257.size ≤ 9223372036854775807 then (some ((strOfNums y254) ++ t257)) else (none)))) = some r := h
  clear h
  obtain ⟨y254, hy254⟩ : ∃ y_ : List Int, y_ = (([(a0) % 256] : List Int)) := ⟨_, rfl⟩
  replace H : ((halberdlaw17_vec.f a1 3).bind fun t257 => (if (strOfNums y254).size + t257.size ≤ 9223372036854775807 then (some ((strOfNums y254) ++ t257)) else (none))) = some r := by first | (rw [hy254]; with_reducible exact H) | (have H2_ := (Option.bind_some _ _).symm.trans H; rw [hy254]; with_reducible exact H2_) | (have H2_ := (Option.bind_some _ _).symm.trans H; with_reducible exact H2_) | with_reducible exact H | (rw [hy254]; exact H) | exact H
  have Ny254 := Aside0.mk hy254
  clear hy254
  replace H := Option.bind_eq_some_iff.mp H
  obtain ⟨t257, A30, H⟩ := H
  replace H : (if (strOfNums y254).size + t257.size ≤ 9223372036854775807 then (some ((strOfNums y254) ++ t257)) else (none)) = some r := H
  have A3 := Aside0.mk A30
  clear A30
  by_cases c4 : (strOfNums y254).size + t257.size ≤ 9223372036854775807
  · rw [if_pos c4] at H
    have c4b0 := eq_true c4
    have c4b1 : decide ((strOfNums y254).size + t257.size ≤ 9223372036854775807) = true := decide_eq_true c4
    try have c4b2 : (9223372036854775807 < (strOfNums y254).size + t257.size) = False := eq_false (Nat.not_lt.2 c4)
    obtain ⟨ys258, hys258⟩ : ∃ y_ : ByteArray, y_ = ((strOfNums y254) ++ t257) := ⟨_, rfl⟩
    replace H : (some ys258) = some r := by first | (rw [hys258]; with_reducible exact H) | (have H2_ := (Option.bind_some _ _).symm.trans H; rw [hys258]; with_reducible exact H2_) | (have H2_ := (Option.bind_some _ _).symm.trans H; with_reducible exact H2_) | with_reducible exact H | (rw [hys258]; exact H) | exact H
    have Nys258 := Aside0.mk hys258
    clear hys258
    have Sys258 := Nys258.out.symm
    obtain rfl := Option.some.inj H
    go_enter Try.func28, Try.ntmps28
    try go_wp2
    have n0_ := Aside0.mk (below_drew1 HB.out)
    clear HB
    have HB := n0_
    clear n0_
    refine start_ (n := 8) (S := fun w' => True) (ds := []) #[false, false, false, false, false, false, false, false] (by kernel_rfl) rfl rfl trivial (fun hHeld => ?_); refine with_tabW halberdlaw17_made.tab1 halberdlaw17_made.bits1 (fun HT_ HW_ => ?_)
    generalize w.drew = w5 at HB hHeld ⊢
    refine pure_ (i := 0) (N := some 5) (v := ?_) (a' := ?_) #[true, false, false, false, false, false, false, false] rfl rfl (any_of HT_.out (by kernel_rfl)) (fun _ _ _ h => h) (Or.inl ⟨by rfl, ?_⟩) ?_ ?_
    rotate_left
    · intro w'
      go_simp
      with_reducible rfl
    rotate_left
    · simp only [Act.put, List.setIfInBounds_toArray, List.set_cons_zero, List.set_cons_succ, i64_w, i32_w]
      rfl
    refine pure_ (i := 1) (N := some 6) (v := ?_) (a' := ?_) #[true, true, false, false, false, false, false, false] rfl rfl (any_of HT_.out (by kernel_rfl)) (fun _ _ _ h => h) (Or.inl ⟨by rfl, ?_⟩) ?_ ?_
    rotate_left
    · intro w'
      go_simp
      with_reducible rfl
    rotate_left
    · simp only [Act.put, List.setIfInBounds_toArray, List.set_cons_zero, List.set_cons_succ, i64_w, i32_w]
      rfl
    refine pure_ (i := 4) (N := some 9) (v := ?_) (a' := ?_) #[true, true, false, false, true, false, false, false] rfl rfl (any_of HT_.out (by kernel_rfl)) (fun _ _ _ h => h) (Or.inl ⟨by rfl, ?_⟩) ?_ ?_
    rotate_left
    · intro w'
      go_simp
      with_reducible rfl
    rotate_left
    · simp only [Act.put, List.setIfInBounds_toArray, List.set_cons_zero, List.set_cons_succ, i64_w, i32_w]
      rfl
    refine join_ (σ := Value) 2 #[true, true, true, true, true, true, false, false] (fun s_ => [(7, s_), (8, .string (strOfNums y254)), (10, .string t257)]) (fun s_ w' => (Kd.R (Kd.int .u8) 5 w' w.heap.size (fun _ => True) s_ y254) ∧ (Below w.heap.size w w')) ?_ ?_
    rotate_left
    · intro hCont
      refine two_ (i := 2) (j := 5) (Ni := some 7) (Nj := some 10) #[true, true, true, false, true, false, false, false] #[true, true, false, false, true, true, false, false] rfl rfl rfl rfl (two_of HT_.out (by kernel_rfl)) (by decide) (by decide) (fun K hK => ?_) (fun K hK => ?_)
      · skip
        refine Kd.R_lit_step (Kd.int .u8) _ 5 ?hg (N := 7) ?hd (xs := ([(a0) % 256] : List Int)) (inner := [.int .u8 ((a0) % 256)]) (ok := fun _ => True) (okp := fun _ => True) ?hr ?hp (fun _ hk => hk) trivial (Below.refl _ _) (Nat.le_refl _) (by simp) ?_; (case hd => rfl); (case hg => rfl); (case hr => first | (go_simp; done) | (go_simp; rfl)); (case hp => exact (Reps.one (show Kd.M (Kd.int .u8) _ _ _ ((a0) % 256) [.int .u8 ((a0) % 256)] from rfl) (Reps.none _ _)))
        intro v255 w6 ho7 hb hg_ hnew_
        clear hg_ hnew_
        (first | rw [← Ny254.out] at ho7 | (simp only [Int.reduceToNat] at ho7; rw [← Ny254.out] at ho7))
        have n0_ := Aside0.mk (Kd.R_lower ho7 (below_size (by repeat (first | (with_reducible first | exact HB.out | apply below_alloc | apply pw_below_drewN | apply below_drew1) | exact HB.out))))
        have n1_ := Aside0.mk (below_step (by repeat (first | (with_reducible first | exact HB.out | apply below_alloc | apply pw_below_drewN | apply below_drew1) | exact HB.out)) hb)
        clear HB
        have HO256 := n0_
        have HB := n1_
        clear n0_ n1_
        clear hb ho7
        refine hK.out _ _ trivial (fun hHeld => ?_)
        clear hK K
        refine norm_ (a' := ?_) ?_ ?_
        rotate_left
        · show Act.put _ (some 7) _ = _
          simp only [Act.put, List.setIfInBounds_toArray, List.set_cons_zero, List.set_cons_succ, i64_w, i32_w]
          rfl
        refine two_ (i := 3) (j := 5) (Ni := some 8) (Nj := some 10) #[true, true, true, true, true, false, false, false] #[true, true, true, false, true, true, false, false] rfl rfl rfl rfl (two_of HT_.out (by kernel_rfl)) (by decide) (by decide) (fun K hK => ?_) (fun K hK => ?_)
        · skip
          have hcv8 := own_string (P := Try.prog) Try.underlying39 Try.underlying5 Try.underlying9 (Kd.own_of_R HO256.out)
          refine value_ (w1 := ?_) (v := ?_) (by rfl) rfl ?_ ?_
          rotate_left 2
          · go_simp
            constructor
            · rfl
            · rfl
          clear hcv8
          refine hK.out _ _ trivial (fun hHeld => ?_)
          clear hK K
          refine norm_ (a' := ?_) ?_ ?_
          rotate_left
          · show Act.put _ (some 8) _ = _
            simp only [Act.put, List.setIfInBounds_toArray, List.set_cons_zero, List.set_cons_succ, i64_w, i32_w]
            rfl
          refine one_ (i := 5) (N := some 10) #[true, true, true, true, true, true, false, false] rfl rfl (one_of HT_.out (by kernel_rfl)) (by decide) (fun K hK => ?_)
          refine goes_ Try.func29 (by kernel_rfl) rfl #[.string a1, .int .i64 3] (by rfl) rfl rfl (by (try simp only [List.map_toArray, List.map_cons, List.map_nil]); first | done | rfl | (simp only [List.length_drop, List.length_take]; rfl)) ?_
          with_reducible refine (halberdlaw17_vec.calls a1 3 t257 _ A3.out).mono ?_
          rintro e w9 ⟨rfl, hb⟩
          refine ⟨_, rfl, ?_⟩
          have n0_ := Aside0.mk (Kd.R_below (by (with_reducible repeat (first | apply Kd.R_alloc | apply Kd.R_drewN | apply Kd.R_drew)); exact HO256.out) hb)
          have n1_ := Aside0.mk (below_step (by repeat (first | (with_reducible first | exact HB.out | apply below_alloc | apply pw_below_drewN | apply below_drew1) | exact HB.out)) hb)
          clear HO256
          clear HB
          have HO256 := n0_
          have HB := n1_
          clear n0_ n1_
          (try clear hb)
          (try clear hb2)
          (try clear hk)
          (try clear hi)
          refine hK.out _ _ trivial (fun hHeld => ?_)
          clear hK K
          refine norm_ (a' := ?_) ?_ ?_
          rotate_left
          · show Act.put _ (some 10) _ = _
            simp only [Act.put, List.setIfInBounds_toArray, List.set_cons_zero, List.set_cons_succ, i64_w, i32_w]
            rfl
          exact norm_ (by simp only [putAll, Act.put, List.setIfInBounds_toArray, List.set_cons_zero, List.set_cons_succ]) (hCont (v255) _ ⟨(by (with_reducible repeat (first | apply Kd.R_alloc | apply Kd.R_drewN | apply Kd.R_drew)); exact HO256.out), (by repeat (first | (with_reducible first | exact HB.out | apply below_alloc | apply pw_below_drewN | apply below_drew1) | exact HB.out))⟩)
        · skip
          refine goes_ Try.func29 (by kernel_rfl) rfl #[.string a1, .int .i64 3] (by rfl) rfl rfl (by (try simp only [List.map_toArray, List.map_cons, List.map_nil]); first | done | rfl | (simp only [List.length_drop, List.length_take]; rfl)) ?_
          with_reducible refine (halberdlaw17_vec.calls a1 3 t257 _ A3.out).mono ?_
          rintro e w8 ⟨rfl, hb⟩
          refine ⟨_, rfl, ?_⟩
          have n0_ := Aside0.mk (Kd.R_below (by (with_reducible repeat (first | apply Kd.R_alloc | apply Kd.R_drewN | apply Kd.R_drew)); exact HO256.out) hb)
          have n1_ := Aside0.mk (below_step (by repeat (first | (with_reducible first | exact HB.out | apply below_alloc | apply pw_below_drewN | apply below_drew1) | exact HB.out)) hb)
          clear HO256
          clear HB
          have HO256 := n0_
          have HB := n1_
          clear n0_ n1_
          (try clear hb)
          (try clear hb2)
          (try clear hk)
          (try clear hi)
          refine hK.out _ _ trivial (fun hHeld => ?_)
          clear hK K
          refine norm_ (a' := ?_) ?_ ?_
          rotate_left
          · show Act.put _ (some 10) _ = _
            simp only [Act.put, List.setIfInBounds_toArray, List.set_cons_zero, List.set_cons_succ, i64_w, i32_w]
            rfl
          refine one_ (i := 3) (N := some 8) #[true, true, true, true, true, true, false, false] rfl rfl (one_of HT_.out (by kernel_rfl)) (by decide) (fun K hK => ?_)
          have hcv9 := own_string (P := Try.prog) Try.underlying39 Try.underlying5 Try.underlying9 (Kd.own_of_R HO256.out)
          refine value_ (w1 := ?_) (v := ?_) (by rfl) rfl ?_ ?_
          rotate_left 2
          · go_simp
            constructor
            · rfl
            · rfl
          clear hcv9
          refine hK.out _ _ trivial (fun hHeld => ?_)
          clear hK K
          refine norm_ (a' := ?_) ?_ ?_
          rotate_left
          · show Act.put _ (some 8) _ = _
            simp only [Act.put, List.setIfInBounds_toArray, List.set_cons_zero, List.set_cons_succ, i64_w, i32_w]
            rfl
          exact norm_ (by simp only [putAll, Act.put, List.setIfInBounds_toArray, List.set_cons_zero, List.set_cons_succ]) (hCont (v255) _ ⟨(by (with_reducible repeat (first | apply Kd.R_alloc | apply Kd.R_drewN | apply Kd.R_drew)); exact HO256.out), (by repeat (first | (with_reducible first | exact HB.out | apply below_alloc | apply pw_below_drewN | apply below_drew1) | exact HB.out))⟩)
      · skip
        refine goes_ Try.func29 (by kernel_rfl) rfl #[.string a1, .int .i64 3] (by rfl) rfl rfl (by (try simp only [List.map_toArray, List.map_cons, List.map_nil]); first | done | rfl | (simp only [List.length_drop, List.length_take]; rfl)) ?_
        with_reducible refine (halberdlaw17_vec.calls a1 3 t257 _ A3.out).mono ?_
        rintro e w6 ⟨rfl, hb⟩
        refine ⟨_, rfl, ?_⟩
        have n0_ := Aside0.mk (below_step (by repeat (first | (with_reducible first | exact HB.out | apply below_alloc | apply pw_below_drewN | apply below_drew1) | exact HB.out)) hb)
        clear HB
        have HB := n0_
        clear n0_
        (try clear hb)
        (try clear hb2)
        (try clear hk)
        (try clear hi)
        refine hK.out _ _ trivial (fun hHeld => ?_)
        clear hK K
        refine norm_ (a' := ?_) ?_ ?_
        rotate_left
        · show Act.put _ (some 10) _ = _
          simp only [Act.put, List.setIfInBounds_toArray, List.set_cons_zero, List.set_cons_succ, i64_w, i32_w]
          rfl
        refine one_ (i := 2) (N := some 7) #[true, true, true, false, true, true, false, false] rfl rfl (one_of HT_.out (by kernel_rfl)) (by decide) (fun K hK => ?_)
        refine Kd.R_lit_step (Kd.int .u8) _ 5 ?hg (N := 7) ?hd (xs := ([(a0) % 256] : List Int)) (inner := [.int .u8 ((a0) % 256)]) (ok := fun _ => True) (okp := fun _ => True) ?hr ?hp (fun _ hk => hk) trivial (Below.refl _ _) (Nat.le_refl _) (by simp) ?_; (case hd => rfl); (case hg => rfl); (case hr => first | (go_simp; done) | (go_simp; rfl)); (case hp => exact (Reps.one (show Kd.M (Kd.int .u8) _ _ _ ((a0) % 256) [.int .u8 ((a0) % 256)] from rfl) (Reps.none _ _)))
        intro v255 w7 ho8 hb hg_ hnew_
        clear hg_ hnew_
        (first | rw [← Ny254.out] at ho8 | (simp only [Int.reduceToNat] at ho8; rw [← Ny254.out] at ho8))
        have n0_ := Aside0.mk (Kd.R_lower ho8 (below_size (by repeat (first | (with_reducible first | exact HB.out | apply below_alloc | apply pw_below_drewN | apply below_drew1) | exact HB.out))))
        have n1_ := Aside0.mk (below_step (by repeat (first | (with_reducible first | exact HB.out | apply below_alloc | apply pw_below_drewN | apply below_drew1) | exact HB.out)) hb)
        clear HB
        have HO256 := n0_
        have HB := n1_
        clear n0_ n1_
        clear hb ho8
        refine hK.out _ _ trivial (fun hHeld => ?_)
        clear hK K
        refine norm_ (a' := ?_) ?_ ?_
        rotate_left
        · show Act.put _ (some 7) _ = _
          simp only [Act.put, List.setIfInBounds_toArray, List.set_cons_zero, List.set_cons_succ, i64_w, i32_w]
          rfl
        refine one_ (i := 3) (N := some 8) #[true, true, true, true, true, true, false, false] rfl rfl (one_of HT_.out (by kernel_rfl)) (by decide) (fun K hK => ?_)
        have hcv9 := own_string (P := Try.prog) Try.underlying39 Try.underlying5 Try.underlying9 (Kd.own_of_R HO256.out)
        refine value_ (w1 := ?_) (v := ?_) (by rfl) rfl ?_ ?_
        rotate_left 2
        · go_simp
          constructor
          · rfl
          · rfl
        clear hcv9
        refine hK.out _ _ trivial (fun hHeld => ?_)
        clear hK K
        refine norm_ (a' := ?_) ?_ ?_
        rotate_left
        · show Act.put _ (some 8) _ = _
          simp only [Act.put, List.setIfInBounds_toArray, List.set_cons_zero, List.set_cons_succ, i64_w, i32_w]
          rfl
        exact norm_ (by simp only [putAll, Act.put, List.setIfInBounds_toArray, List.set_cons_zero, List.set_cons_succ]) (hCont (v255) _ ⟨(by (with_reducible repeat (first | apply Kd.R_alloc | apply Kd.R_drewN | apply Kd.R_drew)); exact HO256.out), (by repeat (first | (with_reducible first | exact HB.out | apply below_alloc | apply pw_below_drewN | apply below_drew1) | exact HB.out))⟩)
    rintro v255 w10 ⟨h0_, h1_⟩
    have n0_ : Aside0 (Kd.R (Kd.int .u8) 5 w10 w.heap.size (fun _ => True) v255 y254) := ⟨h0_⟩
    have n1_ : Aside0 (Below w.heap.size w w10) := ⟨h1_⟩
    clear HB
    clear h0_ h1_
    have HO256 := n0_
    have HB := n1_
    clear n0_ n1_
    have hHeld := trivial
    refine norm_ (a' := ?_) ?_ ?_
    rotate_left
    · simp only [putAll, Act.put, List.setIfInBounds_toArray, List.set_cons_zero, List.set_cons_succ]
      rfl
    refine pure_ (i := 6) (N := some 11) (v := ?_) (a' := ?_) #[true, true, true, true, true, true, true, false] rfl rfl (any_of HT_.out (by kernel_rfl)) (fun _ _ _ h => h) (Or.inl ⟨by rfl, ?_⟩) ?_ ?_
    rotate_left
    · intro w'
      go_simp
      with_reducible rfl
    rotate_left
    · simp only [Act.put, List.setIfInBounds_toArray, List.set_cons_zero, List.set_cons_succ, i64_w, i32_w]
      rfl
    refine pure_ (i := 7) (N := some 4) (v := ?_) (a' := ?_) #[true, true, true, true, true, true, true, true] rfl rfl (any_of HT_.out (by kernel_rfl)) (fun _ _ _ h => h) (Or.inl ⟨by rfl, ?_⟩) ?_ ?_
    rotate_left
    · intro w'
      go_simp
      with_reducible rfl
    rotate_left
    · simp only [Act.put, List.setIfInBounds_toArray, List.set_cons_zero, List.set_cons_succ, i64_w, i32_w]
      rfl
    refine done_ (done_of HT_.out (by kernel_rfl)) ?_
    try go_wp2
    go_ret
    exact ⟨by first | rfl | (simp [errW_none, errW_some] <;> rfl) | (simp [*, errW_none, errW_some] <;> rfl), by repeat (first | (with_reducible first | exact HB.out | apply below_alloc | apply pw_below_drewN | apply below_drew1) | exact HB.out)⟩
  · rw [if_neg c4] at H
    exact absurd H (by simp)
end Go.Proofs.Ytlkebjkpmiehcaa.X
end
section
namespace Go.Proofs.Ytlkebjkpmiehcaa.Ms
open Go.RowKit Go.Proofs.YtlkebjkpmiehcaaW.PrintWords Go.Proofs.YtlkebjkpmiehcaaW.PrintLast Go.Proofs.YtlkebjkpmiehcaaW.PrintMore Go.Proofs.Ytlkebjkpmiehcaa.X
open Go.Proofs.Ytlkebjkpmiehcaa.Pure (nv numOf vecOf nv_bd From beL beL_length bytesOf_app bytesOf_strOf beL_byte bytesOf_inj strOf_size putVecOf putVec_ok bytes_ok bt_get)
set_option linter.unusedVariables false
set_option linter.unusedSimpArgs false
theorem xe_putVec : wire_PutVec.f = E.wire_PutVec.f := by kernel_rfl
theorem xe_bytes : wire_Bytes.f = E.wire_Bytes.f := by kernel_rfl
theorem pw {n : Nat} (h3 : n ≤ 3) (x : Int) (h : x < 256 ^ n) : x < 16777216 := by
  have : n = 0 ∨ n = 1 ∨ n = 2 ∨ n = 3 := by omega
  rcases this with rfl | rfl | rfl | rfl <;> simp at h <;> omega
theorem vec_from {s t : ByteArray} {p n : Nat} {m : List Int} (h : From s p (beL n t.size ++ (bytesOf t ++ m))) (ht : (t.size : Int) < 256 ^ n) :
    vecOf s p n = (t, ((p + n + t.size : Nat) : Int), 0) ∧ From s (p + n + t.size) m := by
  obtain ⟨h1, h2⟩ := h.number
  obtain ⟨h3, h4⟩ := h2.text
  have hl := h.len
  have hl4 := h4.len
  rw [List.length_append, beL_length, List.length_append, bytesOf_length] at hl
  have hv : nv s p n = t.size := by rw [h1]; exact Int.emod_eq_of_lt (by omega) ht
  refine ⟨?_, h4⟩
  unfold vecOf
  rw [hv, if_neg (by omega), if_neg (by omega)]
  have e1 : ((p : Int) + (n : Int)).toNat = p + n := by omega
  have e2 : ((p : Int) + (n : Int) + (t.size : Int)).toNat = p + n + t.size := by omega
  rw [e1, e2, h3]
  congr 1
theorem num_from {s : ByteArray} {p n : Nat} {x : Int} {m : List Int} (h : From s p (beL n x ++ m)) (h0 : 0 ≤ x) (hx : x < 256 ^ n) :
    numOf s p n = (x, ((p + n : Nat) : Int), 0) ∧ From s (p + n) m := by
  obtain ⟨h1, h2⟩ := h.number
  have hl := h.len
  rw [List.length_append, beL_length] at hl
  refine ⟨?_, h2⟩
  unfold numOf
  rw [h1, if_neg (by omega), Int.emod_eq_of_lt h0 hx]
  congr 1
theorem rvec {s t : ByteArray} {p n : Nat} {m : List Int} {tw la : Bool} (lo hi : Int) (h : From s p (beL n t.size ++ (bytesOf t ++ m))) (ht : (t.size : Int) < 256 ^ n) (h1 : lo ≤ t.size) (h2 : (t.size : Int) ≤ hi) :
    (Rp.mk s p 0 tw la).vecV n lo hi = t ∧ (Rp.mk s p 0 tw la).vecR n lo hi = ⟨s, ((p + n + t.size : Nat) : Int), 0, tw, la⟩ ∧ From s (p + n + t.size) m := by
  obtain ⟨e, hf⟩ := vec_from h ht
  have hc : (Rp.mk s p 0 tw la).vecC n lo hi = 0 := by
    unfold Rp.vecC
    show needed 0 (vecOk (vecOf s p n).1 (vecOf s p n).2.2 lo hi) = 0
    rw [e]
    unfold vecOk
    simp [h1, h2, needed]
  refine ⟨?_, ?_, hf⟩
  · unfold Rp.vecV
    rw [hc]
    show sel 0 (vecOf s p n).1 _ = t
    rw [e]
    exact sel_pos rfl
  · unfold Rp.vecR
    rw [hc]
    show Rp.mk s (sel 0 (vecOf s p n).2.1 _) 0 tw la = _
    rw [e, sel_pos rfl]
theorem rin {s t : ByteArray} {p n : Nat} {m : List Int} {tw la : Bool} (h : From s p (beL n t.size ++ (bytesOf t ++ m))) (ht : (t.size : Int) < 256 ^ n) (h3 : n ≤ 3) :
    (Rp.mk s p 0 tw la).inR n = ⟨t, 0, 0, tw, false⟩ ∧ (Rp.mk s p 0 tw la).outR n = ⟨s, ((p + n + t.size : Nat) : Int), 0, tw, la⟩ ∧ From s (p + n + t.size) m := by
  have hb := pw h3 _ ht
  obtain ⟨e1, e2, hf⟩ := rvec (tw := tw) (la := la) 0 16777216 h ht (by omega) (by omega)
  refine ⟨?_, e2, hf⟩
  have hc : (Rp.mk s p 0 tw la).vecC n 0 16777216 = 0 := congrArg Rp.c e2
  unfold Rp.inR
  rw [e1, hc]
def V (n : Nat) (s : ByteArray) : ByteArray := strOfNums (beL n s.size) ++ s
theorem V_size (n : Nat) (s : ByteArray) : (V n s).size = n + s.size := by
  unfold V
  rw [ByteArray.size_append, strOf_size, beL_length]
theorem V_bytes (n : Nat) (s : ByteArray) : bytesOf (V n s) = beL n s.size ++ bytesOf s := by
  unfold V
  rw [bytesOf_app, bytesOf_strOf (beL_byte _ _)]
theorem vec3 (s : ByteArray) (hs : s.size ≤ 140737488351232) : halberdlaw17_vec.f s 3 = some (V 3 s) := by
  unfold halberdlaw17_vec.f
  simp only [Option.bind_some]
  have e0 : wrap64 (3 - 3) = 0 := by unfold wrap64; omega
  have e1 : ([((s.size : Int) / 65536) % 256, ((s.size : Int) / 256) % 256, ((s.size : Int)) % 256] : List Int) = beL 3 s.size := by
    simp [beL, Int.ediv_ediv]
  rw [e0, e1, if_pos (by omega), if_pos (by omega)]
  have e2 : (strOfNums (beL 3 (s.size : Int))).extract (0 : Int).toNat (strOfNums (beL 3 (s.size : Int))).size = strOfNums (beL 3 s.size) := by
    apply ByteArray.ext
    simp
  rw [e2, strOf_size, beL_length, if_pos (by omega)]
  rfl
def framedV (k : Int) (u : ByteArray) : ByteArray := strOfNums [k % 256] ++ V 3 u
theorem made_ok (k : Int) (u : ByteArray) (hu : u.size ≤ 140737488351232) : halberdlaw17_made.f k u = some (framedV k u) := by
  unfold halberdlaw17_made.f
  rw [vec3 u hu]
  simp only [Option.bind_some]
  rw [V_size, if_pos (by rw [strOf_size]; simp only [List.length_cons, List.length_nil]; omega)]
  rfl
theorem framedV_size (k : Int) (u : ByteArray) : (framedV k u).size = u.size + 4 := by
  unfold framedV
  rw [ByteArray.size_append, V_size, strOf_size]
  simp only [List.length_cons, List.length_nil]
  omega
theorem framedV_bytes (k : Int) (u : ByteArray) : bytesOf (framedV k u) = (k % 256) :: (beL 3 u.size ++ bytesOf u) := by
  unfold framedV
  have hb : 0 ≤ k % 256 ∧ k % 256 ≤ 255 := by omega
  rw [bytesOf_app, V_bytes, bytesOf_strOf (by intro x hx; rw [List.mem_singleton] at hx; rw [hx]; exact hb)]
  rfl
theorem framed_eq (k : Int) (u : ByteArray) : framed k u = framedV k u := by
  unfold framed framedV V be3
  rw [xe_bytes, show E.wire_Bytes.f (u.size : Int) 3 = some (strOfNums (beL 3 u.size)) from bytes_ok u.size 3 (by omega) (by omega), ByteArray.append_assoc]
  rfl
theorem pv_ok (v : ByteArray) (n : Nat) (h0 : 1 ≤ n) (h1 : n ≤ 3) (hv : (v.size : Int) < 256 ^ n) : pv v n = (V n v, 0) := by
  have := pw h1 _ hv
  unfold pv
  rw [xe_putVec, putVec_ok v n h0 h1 (by omega)]
  unfold putVecOf
  rw [if_pos hv]
  rfl
theorem head_ok {k : Int} {u : ByteArray} (hu : u.size ≤ 65532) : headed (framedV k u) = true ∧ getR (framedV k u) = ⟨u, 0, 0, false, false⟩ ∧ bt (framedV k u) 0 = k % 256 := by
  have hz := framedV_size k u
  have h0 := From.start (framedV k u)
  rw [framedV_bytes] at h0
  have h1 : From (framedV k u) 1 (beL 3 u.size ++ bytesOf u) := From.skip (l := [k % 256]) h0
  have h1' : From (framedV k u) 1 (beL 3 u.size ++ (bytesOf u ++ [])) := by rwa [List.append_nil]
  obtain ⟨e, h4⟩ := num_from h1 (by omega) (by omega)
  obtain ⟨h5, _⟩ := (Go.Proofs.Ytlkebjkpmiehcaa.Pure.From.text (s := framedV k u) (t := u) (p := 4) (m := []) (by rw [List.append_nil]; exact h4))
  refine ⟨?_, ?_, ?_⟩
  · unfold headed
    have e' : numOf (framedV k u) 1 3 = ((u.size : Int), ((1 + 3 : Nat) : Int), 0) := e
    rw [e', hz]
    rw [decide_eq_true (show ((u.size + 4 : Nat) : Int) ≤ 65536 by omega)]
    simp only [beq_self_eq_true, Bool.true_and, Bool.and_true, beq_iff_eq]
    omega
  · unfold getR
    rw [hz, Nat.add_comm u.size 4, h5]
  · rw [bt_get, framedV_bytes]
    rfl
theorem head_long {k : Int} {u : ByteArray} (hu : 65532 < u.size) : headed (framedV k u) = false := by
  have hz := framedV_size k u
  unfold headed
  rw [hz, decide_eq_false (by omega), Bool.and_false]
def longC (Z : ByteArray) : ByteArray := V 3 Z ++ ⟨#[0, 0]⟩
def longB (Z : ByteArray) : ByteArray := (⟨#[0]⟩ : ByteArray) ++ V 3 (longC Z)
def longM (Z : ByteArray) : Mv := { zeroM with f0 := 11, f14 := [Z] }
theorem longC_size (Z : ByteArray) : (longC Z).size = Z.size + 5 := by
  unfold longC
  rw [ByteArray.size_append, V_size]
  show 3 + Z.size + 2 = _
  omega
theorem longB_size (Z : ByteArray) : (longB Z).size = Z.size + 9 := by
  unfold longB
  rw [ByteArray.size_append, V_size, longC_size]
  show 1 + (3 + (Z.size + 5)) = _
  omega
theorem longC_bytes (Z : ByteArray) : bytesOf (longC Z) = beL 3 Z.size ++ (bytesOf Z ++ (beL 2 (⟨#[]⟩ : ByteArray).size ++ (bytesOf (⟨#[]⟩ : ByteArray) ++ []))) := by
  unfold longC
  rw [bytesOf_app, V_bytes, List.append_assoc]
  rfl
theorem longB_bytes (Z : ByteArray) : bytesOf (longB Z) = beL 1 (⟨#[]⟩ : ByteArray).size ++ (bytesOf (⟨#[]⟩ : ByteArray) ++ (beL 3 (longC Z).size ++ (bytesOf (longC Z) ++ []))) := by
  unfold longB
  rw [bytesOf_app, V_bytes, List.append_nil]
  rfl
theorem getOf_nil : (Go.Proofs.Ytlkebjkpmiehcaa.Pure.getOf ⟨#[]⟩).2 = 0 := by decide +kernel
theorem nil_empty : (⟨#[]⟩ : ByteArray).toList.isEmpty = true := by decide +kernel
theorem known11 : knownB 11 = true := by decide +kernel
theorem long_cer {Z : ByteArray} (h1 : 1 ≤ Z.size) (h2 : Z.size ≤ 65523) : rAll oneCer (longC Z).size ⟨longC Z, 0, 0, false, false⟩ = ([Z], ⟨longC Z, ((longC Z).size : Int), 0, false, false⟩) := by
  have hz := longC_size Z
  have h0 := From.start (longC Z)
  rw [longC_bytes] at h0
  obtain ⟨e1, e2, f1⟩ := rvec (tw := false) (la := false) 1 16777216 h0 (by omega) (by omega) (by omega)
  obtain ⟨e3, e4, f2⟩ := rvec (tw := false) (la := false) 0 65536 f1 (by decide) (by decide) (by decide)
  have hb : Rp.barR ⟨longC Z, ((0 + 3 + Z.size : Nat) : Int), 0, false, false⟩ = ⟨longC Z, ((longC Z).size : Int), 0, false, false⟩ := by
    have e3' : (Rp.mk (longC Z) ((0 + 3 + Z.size : Nat) : Int) 0 false false).vecV 2 0 65536 = ⟨#[]⟩ := e3
    have e4' : (Rp.mk (longC Z) ((0 + 3 + Z.size : Nat) : Int) 0 false false).vecR 2 0 65536 = _ := e4
    unfold Rp.barR Rp.barE
    rw [e3', getOf_nil, e4']
    simp only [show ¬ (0 : Int) = 1601 from by decide, show ¬ (0 : Int) = 1600 from by decide, if_false]
    congr 1
    show ((0 + 3 + Z.size + 2 + 0 : Nat) : Int) = _
    omega
  have hV : Rp.cerV ⟨longC Z, 0, 0, false, false⟩ = Z := e1
  have hR : Rp.cerR ⟨longC Z, 0, 0, false, false⟩ = ⟨longC Z, ((longC Z).size : Int), 0, false, false⟩ := by
    unfold Rp.cerR
    have e2' : (Rp.mk (longC Z) 0 0 false false).vecR 3 1 16777216 = _ := e2
    rw [e2', hb]
  have hend : ∀ k, rAll oneCer k ⟨longC Z, ((longC Z).size : Int), 0, false, false⟩ = ([], ⟨longC Z, ((longC Z).size : Int), 0, false, false⟩) := by
    intro k
    cases k with
    | zero => rfl
    | succ k =>
      unfold rAll
      rw [if_neg]
      unfold Rp.more
      simp
  obtain ⟨n, hn⟩ : ∃ n, (longC Z).size = n + 1 := ⟨Z.size + 4, by omega⟩
  have hm : Rp.more ⟨longC Z, 0, 0, false, false⟩ = true := by
    unfold Rp.more
    rw [decide_eq_true (show (0 : Int) < ((longC Z).size : Int) by omega)]
    rfl
  conv => lhs; rw [hn]
  unfold rAll
  rw [if_pos hm]
  show ((Rp.cerV ⟨longC Z, 0, 0, false, false⟩) :: (rAll oneCer n (Rp.cerR ⟨longC Z, 0, 0, false, false⟩)).1, (rAll oneCer n (Rp.cerR ⟨longC Z, 0, 0, false, false⟩)).2) = _
  rw [hV, hR, hend]
theorem long_body {Z : ByteArray} (h1 : 1 ≤ Z.size) (h2 : Z.size ≤ 65523) :
    bodyP ⟨longB Z, 0, 0, false, false⟩ { zeroM with f0 := 11 } = (longM Z, ⟨longB Z, ((longB Z).size : Int), 0, false, false⟩) := by
  have hz := longB_size Z
  have hzc := longC_size Z
  have h0 := From.start (longB Z)
  rw [longB_bytes] at h0
  obtain ⟨e1, e2, f1⟩ := rvec (tw := false) (la := false) 0 255 h0 (by decide) (by decide) (by decide)
  have hce : Rp.ceR ⟨longB Z, 0, 0, false, false⟩ = ⟨longB Z, ((1 : Nat) : Int), 0, false, false⟩ := by
    unfold Rp.ceR
    have e1' : (Rp.mk (longB Z) 0 0 false false).vecV 1 0 255 = ⟨#[]⟩ := e1
    have e2' : (Rp.mk (longB Z) 0 0 false false).vecR 1 0 255 = _ := e2
    rw [e1', e2', nil_empty]
    rfl
  have f1' : From (longB Z) 1 (beL 3 (longC Z).size ++ (bytesOf (longC Z) ++ [])) := f1
  obtain ⟨e3, e4, f2⟩ := rin (tw := false) (la := false) f1' (by omega) (by omega)
  have hV : Rp.ceV ⟨longB Z, 0, 0, false, false⟩ = [Z] := by
    unfold Rp.ceV allV
    rw [hce]
    have e3' : (Rp.mk (longB Z) ((1 : Nat) : Int) 0 false false).inR 3 = _ := e3
    rw [e3']
    show (rAll oneCer (longC Z).size ⟨longC Z, 0, 0, false, false⟩).1 = _
    rw [long_cer h1 h2]
  have hN : Rp.ceN ⟨longB Z, 0, 0, false, false⟩ = ⟨longB Z, ((longB Z).size : Int), 0, false, false⟩ := by
    unfold Rp.ceN allR
    rw [hce]
    have e3' : (Rp.mk (longB Z) ((1 : Nat) : Int) 0 false false).inR 3 = _ := e3
    have e4' : (Rp.mk (longB Z) ((1 : Nat) : Int) 0 false false).outR 3 = _ := e4
    rw [e3', e4']
    show Rp.back _ (rAll oneCer (longC Z).size ⟨longC Z, 0, 0, false, false⟩).2 = _
    rw [long_cer h1 h2]
    unfold Rp.back
    congr 1
    show ((1 + 3 + (longC Z).size : Nat) : Int) = _
    omega
  show ({ zeroM with f0 := 11, f14 := Rp.ceV ⟨longB Z, 0, 0, false, false⟩ }, Rp.ceN ⟨longB Z, 0, 0, false, false⟩) = _
  rw [hV, hN]
  rfl
theorem long_get {Z : ByteArray} (h1 : 1 ≤ Z.size) (h2 : Z.size ≤ 65523) : getM (framedV 11 (longB Z)) = (longM Z, 0) := by
  have hz := longB_size Z
  obtain ⟨e1, e2, e3⟩ := head_ok (k := 11) (u := longB Z) (by omega)
  have e3' : bt (framedV 11 (longB Z)) 0 = 11 := e3
  have hB : getB (framedV 11 (longB Z)) = (longM Z, ⟨longB Z, ((longB Z).size : Int), 0, false, false⟩) := by
    unfold getB
    rw [e2, e3', long_body h1 h2]
  have hd : Rp.done ⟨longB Z, ((longB Z).size : Int), 0, false, false⟩ = ⟨longB Z, ((longB Z).size : Int), 0, false, false⟩ := by
    unfold Rp.done Rp.need
    simp [needed]
  have hF : getF (framedV 11 (longB Z)) = ⟨longB Z, ((longB Z).size : Int), 0, false, false⟩ := by
    unfold getF
    rw [hB, hd]
    rfl
  unfold getM
  rw [framedV_size, if_neg (by omega), e3', known11, if_neg (by decide), e1, if_neg (by decide), hF, hB]
  rfl
theorem long_not {Z : ByteArray} (h2 : 65523 < Z.size) : getM (framedV 11 (longB Z)) = (zeroM, 1700) := by
  have hz := longB_size Z
  have e1 := head_long (k := 11) (u := longB Z) (by omega)
  have hs := framedV_size 11 (longB Z)
  have e3' : bt (framedV 11 (longB Z)) 0 = 11 := by
    rw [bt_get, framedV_bytes]
    rfl
  unfold getM
  rw [hs, if_neg (by omega), e3', known11, if_neg (by decide), e1, if_pos rfl]
def hdL (A : Option Addr) (c : Nat) : Hd := { hd0 with A14 := A, c14 := c }
theorem empty_app (s : ByteArray) : ByteArray.empty ++ s = s := ByteArray.empty_append
theorem pv3' (v : ByteArray) (hv : v.size < 16777216) : pv v 3 = (V 3 v, 0) := pv_ok v 3 (by omega) (by omega) (by omega)
theorem pv2' : pv ⟨#[]⟩ 2 = (⟨#[0, 0]⟩, 0) := by decide +kernel
theorem pv1' : pv ⟨#[]⟩ 1 = (⟨#[0]⟩, 0) := by decide +kernel
theorem long_unused (Z : ByteArray) : (longM Z).unused = { zeroM with f0 := 11 } := rfl
theorem long_texts (Z : ByteArray) : (longM Z).unused.texts ≤ 9223372036854775807 := by rw [long_unused]; decide
theorem long_lists (Z : ByteArray) : (longM Z).unused.lists ≤ 9223372036854775807 := by rw [long_unused]; decide
theorem long_cert {Z : ByteArray} (h1 : 1 ≤ Z.size) (h2 : Z.size ≤ 70000) : certW [Z] = (longC Z, false) := by
  show certStep (ByteArray.empty, false) Z = _
  unfold certStep
  rw [pv3' Z (by omega), pv2', empty_app]
  have e1 : vecOk Z 0 1 16777216 = true := by unfold vecOk; simp; omega
  have e2 : vecOk ⟨#[]⟩ 0 0 0 = true := by decide
  simp only [e1, e2]
  rfl
theorem long_reads {w : World} {A : Option Addr} {c : Nat} {Z : ByteArray} (hr : Kd.C Kd.string w A 1 [Z]) (hc : 1 ≤ c) : Reads w (longM Z) (hdL A c) := by
  have e {α : Type} (d : Kd α) (A : Option Addr) : Kd.C d w A 0 [] := ⟨rfl, by omega, fun h => absurd h (by omega)⟩
  constructor <;> first | exact hr | exact hc | exact e _ _ | exact Nat.zero_le _
theorem long_bodies {w : World} {A : Option Addr} {c : Nat} {Z : ByteArray} (h1 : 1 ≤ Z.size) (h2 : Z.size ≤ 70000) (hr : Kd.C Kd.string w A 1 [Z]) (hc : 1 ≤ c) : Bodies (longM Z) (hdL A c) w (longB Z) false := by
  intro w1 lo g gm ha
  have hz := longC_size Z
  have h := body11 lo g gm _ w w1 ha rfl A c [Z] rfl hr hc (by unfold csz; simp; omega)
  rw [long_cert h1 h2, pv1', empty_app] at h
  have e3 : pv (longC Z, false).1 3 = (V 3 (longC Z), 0) := pv3' (longC Z) (by omega)
  rw [e3] at h
  have e1 : vecOk (longC Z) 0 0 16777216 = true := by unfold vecOk; simp; omega
  have e2 : vecOk ⟨#[]⟩ 0 0 0 = true := by decide
  simp only [e1, e2] at h
  exact h
theorem long_put {w : World} {A : Option Addr} {c : Nat} {Z : ByteArray} (h1 : 1 ≤ Z.size) (h2 : Z.size ≤ 65523) (hr : Kd.C Kd.string w A 1 [Z]) (hc : 1 ≤ c) :
    Calls Try.prog 23 #[.agg (cells (longM Z) (hdL A c))] w fun ex w' => ex = .returned (.tuple #[.string (framedV 11 (longB Z)), .int .i64 0]) ∧ Below w.heap.size w w' := by
  have hz := longB_size Z
  have h := put_ok (longM Z) (hdL A c) (longB Z) w rfl (long_reads hr hc) (long_texts Z) (long_lists Z) (long_bodies h1 (by omega) hr hc) rfl (by omega)
  rw [framed_eq] at h
  exact h
theorem long_nput {w : World} {A : Option Addr} {c : Nat} {Z : ByteArray} (h2 : 65523 < Z.size) (h3 : Z.size ≤ 70000) (hr : Kd.C Kd.string w A 1 [Z]) (hc : 1 ≤ c) :
    Calls Try.prog 23 #[.agg (cells (longM Z) (hdL A c))] w fun ex w' => ex = .returned (.tuple #[.string ⟨#[]⟩, .int .i64 1700]) ∧ Below w.heap.size w w' := by
  have hz := longB_size Z
  exact put_long (longM Z) (hdL A c) (longB Z) w rfl (long_reads hr hc) (long_texts Z) (long_lists Z) (long_bodies (by omega) h3 hr hc) rfl (by omega)
end Go.Proofs.Ytlkebjkpmiehcaa.Ms
end
section
namespace Go.Proofs.Ytlkebjkpmiehcaa.Iv
open Go Go.RowKit Go.Proofs.YtlkebjkpmiehcaaW.PrintWords
set_option linter.unusedVariables false
section
variable {P : Program} {ops : Array Oper} {Q : Exit → Act → World → Prop}
def dstOf (ops : Array Oper) (i : Nat) : Option Tmp := (ops[i]?).bind (·.dst)
def distinctB (ops : Array Oper) : Bool := (List.range ops.size).all fun i => (List.range ops.size).all fun j => i == j || (dstOf ops i).isNone || dstOf ops i != dstOf ops j
def backB (ops : Array Oper) : Bool := (List.range ops.size).all fun i => match ops[i]? with
  | some o => o.guard.isNone && o.after.all fun e => !Region.binds .any e || decide (e.on < i)
  | none => true
def fitsB (ops : Array Oper) (n : Nat) : Bool := (List.range ops.size).all fun i => match dstOf ops i with
  | some d => decide (d < n)
  | none => true
def needs (ops : Array Oper) (i j : Nat) : Bool := match ops[i]? with
  | some o => o.after.any fun e => Region.binds .any e && e.on == j
  | none => false
structure RInv (ops : Array Oper) (p : Nat → Value → World → Prop) (a0 : Act) (w0 : World) (listed : Array Bool) (a : Act) (w : World) : Prop where
  sz : listed.size = ops.size
  df : a.defers = a0.defers
  ts : a.tmps.size = a0.tmps.size
  below : Below w0.heap.size w0 w
  vals : ∃ vals : Nat → Value, ∀ j, j < ops.size → listed.getD j false = true → p j (vals j) w ∧ ∀ d, dstOf ops j = some d → a.tmps[d]? = some (vals j)
  free : ∀ t, (∀ j, j < ops.size → dstOf ops j ≠ some t) → a.tmps[t]? = a0.tmps[t]?
def Ob (P : Program) (ops : Array Oper) (Q : Exit → Act → World → Prop) (p : Nat → Value → World → Prop) (a0 : Act) (w0 : World) (i : Nat) : Prop :=
  ∀ oi, ops[i]? = some oi → ∀ (a : Act) (w : World) (vals : Nat → Value), Below w0.heap.size w0 w →
    (∀ j, needs ops i j = true → p j (vals j) w ∧ ∀ d, dstOf ops j = some d → a.tmps[d]? = some (vals j)) →
    (∀ t, (∀ j, j < ops.size → dstOf ops j ≠ some t) → a.tmps[t]? = a0.tmps[t]?) →
    ∀ K : Act → World → Prop, (∀ v w', p i v w' → Below w.heap.size w w' → K (a.put oi.dst v) w') → oi.wp P a w K Q
theorem put_get {a : Act} {d t : Nat} {v : Value} : (a.put (some d) v).tmps[t]? = if d = t then (if d < a.tmps.size then some v else none) else a.tmps[t]? := by
  show (a.tmps.setIfInBounds d v)[t]? = _
  by_cases h : d = t
  · subst h
    rw [if_pos rfl, Array.getElem?_setIfInBounds_self]
  · rw [if_neg h, Array.getElem?_setIfInBounds_ne h]
theorem RInv.step {p : Nat → Value → World → Prop} {a0 : Act} {w0 : World} {listed : Array Bool} {a : Act} {w : World} {i : Nat}
    (hd : distinctB ops = true) (hb : backB ops = true) (hf : fitsB ops a0.tmps.size = true)
    (hs : ∀ i v w w', p i v w → Below w.heap.size w w' → p i v w') (ob : Ob P ops Q p a0 w0 i)
    (h : RInv ops p a0 w0 listed a w) (hi : i ∈ Region.ready .any ops listed) : wpOp P ops Q i (fun a' w' => RInv ops p a0 w0 (listed.setIfInBounds i true) a' w') a w := by
  obtain ⟨hun, oi, hoi, hall⟩ := mem_ready.1 hi
  have hlt : i < ops.size := (Array.getElem?_eq_some_iff.1 hoi).1
  obtain ⟨vals, hv⟩ := h.vals
  have hg : oi.guard = none := by
    have := List.all_eq_true.1 hb i (List.mem_range.2 hlt)
    simp only [hoi, Bool.and_eq_true, Option.isNone_iff_eq_none] at this
    exact this.1
  unfold wpOp
  rw [hoi]
  show if Region.wanted oi (yielded ops a.tmps) = true then _ else _
  rw [if_pos (by unfold Region.wanted; rw [hg])]
  refine .inl (ob oi hoi a w vals h.below ?_ h.free _ ?_)
  · intro j hj
    unfold needs at hj
    rw [hoi] at hj
    obtain ⟨e, he, h1⟩ := Array.any_eq_true'.1 hj
    simp only [Bool.and_eq_true, beq_iff_eq] at h1
    have hl := hall e he h1.1
    rw [h1.2] at hl
    have hjl : j < ops.size := by
      rcases Nat.lt_or_ge j listed.size with h' | h'
      · rw [← h.sz]; exact h'
      · simp [Array.getElem?_eq_none h'] at hl
    exact hv j hjl hl
  · intro v w' hp hbl
    have hds : dstOf ops i = oi.dst := by unfold dstOf; rw [hoi]; rfl
    have hne : ∀ j d, j < ops.size → j ≠ i → oi.dst = some d → dstOf ops j ≠ some d := by
      intro j d hj hji hdd e
      have h1 := List.all_eq_true.1 (List.all_eq_true.1 hd i (List.mem_range.2 hlt)) j (List.mem_range.2 hj)
      rw [hds, hdd, e] at h1
      simp only [Bool.or_eq_true, beq_iff_eq, Option.isNone_some, bne_self_eq_false, or_false, Bool.false_eq_true] at h1
      exact hji h1.symm
    have hfit : ∀ d, oi.dst = some d → d < a.tmps.size := by
      intro d hdd
      have h1 := List.all_eq_true.1 hf i (List.mem_range.2 hlt)
      rw [hds, hdd] at h1
      rw [h.ts]
      exact of_decide_eq_true h1
    refine ⟨by rw [Array.size_setIfInBounds]; exact h.sz, ?_, ?_, h.below.trans (hbl.mono h.below.size), ⟨fun j => if j = i then v else vals j, ?_⟩, ?_⟩
    · cases hdd : oi.dst with
      | none => exact h.df
      | some d => exact h.df
    · cases hdd : oi.dst with
      | none => exact h.ts
      | some d => show (a.tmps.setIfInBounds d v).size = _; rw [Array.size_setIfInBounds]; exact h.ts
    · intro j hj hl
      by_cases hji : j = i
      · subst hji
        dsimp only
        rw [if_pos rfl]
        refine ⟨hp, fun d hdd => ?_⟩
        rw [hds] at hdd
        rw [hdd, put_get, if_pos rfl, if_pos (hfit d hdd)]
      · dsimp only
        rw [if_neg hji]
        rw [getD_set_ne false (fun e => hji e.symm)] at hl
        obtain ⟨h1, h2⟩ := hv j hj hl
        refine ⟨hs _ _ _ _ h1 hbl, fun d hdd => ?_⟩
        cases hdi : oi.dst with
        | none => exact h2 d hdd
        | some d' =>
          rw [put_get, if_neg (fun e => hne j d' hj hji hdi (by rw [e]; exact hdd))]
          exact h2 d hdd
    · intro t ht
      cases hdi : oi.dst with
      | none => exact h.free t ht
      | some d' =>
        rw [put_get, if_neg (fun e => ht i hlt (by rw [hds, hdi, e]))]
        exact h.free t ht
def setT (ops : Array Oper) (vals : Nat → Value) (t : Array Value) (i : Nat) : Array Value := match dstOf ops i with
  | some d => t.setIfInBounds d (vals i)
  | none => t
end
inductive PK where
  | val (u : Value)
  | row (xs : List Int)
  | texts (xs : List ByteArray)
def PK.holds : PK → Value → World → Prop
  | .val u, v, _ => v = u
  | .row xs, v, w => Kd.R (Kd.int .u8) 5 w 0 (fun _ => True) v xs
  | .texts xs, v, w => Kd.R Kd.string 9 w 0 (fun _ => True) v xs
end Go.Proofs.Ytlkebjkpmiehcaa.Iv
end
section
namespace Go.Proofs.Ytlkebjkpmiehcaa.X
open Go.RowKit Go.Proofs.YtlkebjkpmiehcaaW.PrintWords Go.Proofs.YtlkebjkpmiehcaaW.PrintLast Go.Proofs.YtlkebjkpmiehcaaW.PrintMore
attribute [local go_sem] max2_int min2_int max_two min_two max_three min_three max_four min_four   
set_option linter.unusedVariables false
set_option linter.unusedSimpArgs false
def halberdlaw17_hello.f (a0 : ByteArray) (a1 : ByteArray) (a2 : ByteArray) (a3 : ByteArray) (a4 : ByteArray) : Option (ByteArray) := if 32 ≤ 281474976710656 then ((some (List.replicate 32 0 : List Int)).bind fun y259 => (if a0.size + (strOfNums y259).size ≤ 9223372036854775807 then ((some (a0 ++ (strOfNums y259) : ByteArray)).bind fun ys262 => ((halberdlaw17_vec.f a1 1).bind fun t263 => (if ys262.size + t263.size ≤ 9223372036854775807 then ((some (ys262 ++ t263 : ByteArray)).bind fun ys264 => ((halberdlaw17_vec.f a2 2).bind fun t265 => (if ys264.size + t265.size ≤ 9223372036854775807 then ((some (ys264 ++ t265 : ByteArray)).bind fun ys266 => ((halberdlaw17_vec.f a3 1).bind fun t267 => (if ys266.size + t267.size ≤ 9223372036854775807 then ((some (ys266 ++ t267 : ByteArray)).bind fun ys268 => ((halberdlaw17_vec.f a4 2).bind fun t269 => (if ys268.size + t269.size ≤ 9223372036854775807 then ((halberdlaw17_made.f 1 (ys268 ++ t269)).bind fun t271 => (some t271)) else (none)))) else (none)))) else (none)))) else (none)))) else (none))) else (none)
def halberdlaw17_hello.T1 : Bool × List (List Nat × List Nat) := (true, [([], []), ([], []), ([1], [1]), ([0, 2], [0, 2]), ([], []), ([4], [4]), ([3, 5], [3, 5]), ([], []), ([7, 5], [7]), ([6, 8], [6, 8]), ([], []), ([10, 8], [10]), ([9, 11], [9, 11]), ([], []), ([13, 11], [13]), ([12, 14], [12, 14]), ([15, 14], [15]), ([16, 16, 0, 1, 2, 3, 4, 5, 6, 7, 8, 9, 10, 11, 12, 13, 14, 15, 16], [16])])
def halberdlaw17_hello.B1 : List Nat := [0, 0, 2, 7, 0, 16, 63, 0, 176, 511, 0, 1456, 4095, 0, 11696, 32767, 65535, 131071]
theorem halberdlaw17_hello.tab1 : rtab .any (opsOf Try.f26 1) = halberdlaw17_hello.T1 := by kernel_rfl
theorem halberdlaw17_hello.bits1 : waitsOk halberdlaw17_hello.T1.2 halberdlaw17_hello.B1 = true := by kernel_rfl
set_option maxHeartbeats 8000000 in
set_option maxRecDepth 100000 in
theorem halberdlaw17_hello.calls (a0 : ByteArray) (a1 : ByteArray) (a2 : ByteArray) (a3 : ByteArray) (a4 : ByteArray) (r : ByteArray) (w : World) (h : halberdlaw17_hello.f a0 a1 a2 a3 a4 = some r) :
    Calls Try.prog 26 #[.string a0, .string a1, .string a2, .string a3, .string a4] w fun e w' => e = .returned (.string r) ∧ Below w.heap.size w w' := by
  have HB := Aside0.mk (Below.refl w.heap.size w)
  have H : (if 32 ≤ 281474976710656 then ((some (List.replicate 32 0 : List Int)).bind fun y259 => (if a0.size + (strOfNums y259).size ≤ 9223372036854775807 then ((some (a0 ++ (strOfNums y259) : ByteArray)).bind fun ys262 => ((halberdlaw17_vec.f a1 1).bind fun t263 => (if ys262.size + t263.size ≤ 9223372036854775807 then ((some (ys262 ++ t263 : ByteArray)).bind fun ys264 => ((halberdlaw17_vec.f a2 2).bind fun t265 => (if ys264.size + t265.size ≤ 9223372036854775807 then ((some (ys264 ++ t265 : ByteArray)).bind fun ys266 => ((halberdlaw17_vec.f a3 1).bind fun t267 => (if ys266.size + t267.size ≤ 9223372036854775807 then ((some (ys266 ++ t267 : ByteArray)).bind fun ys268 => ((halberdlaw17_vec.f a4 2).bind fun t269 => (if ys268.size + t269.size ≤ 9223372036854775807 then ((halberdlaw17_made.f 1 (ys268 ++ t269)).bind fun t271 => (some t271)) else (none)))) else (none)))) else (none)))) else (none)))) else (none))) else (none)) = some r := h
  clear h
  by_cases c6 : 32 ≤ 281474976710656
  · rw [if_pos c6] at H
    have c6b0 := eq_true c6
    have c6b1 : decide (32 ≤ 281474976710656) = true := decide_eq_true c6
    clear c6
    obtain ⟨y259, hy259⟩ : ∃ y_ : List Int, y_ = (List.replicate 32 0) := ⟨_, rfl⟩
    replace H : (if a0.size + (strOfNums y259).size ≤ 9223372036854775807 then ((some (a0 ++ (strOfNums y259) : ByteArray)).bind fun ys262 => ((halberdlaw17_vec.f a1 1).bind fun t263 => (if ys262.size + t263.size ≤ 9223372036854775807 then ((some (ys262 ++ t263 : ByteArray)).bind fun ys264 => ((halberdlaw17_vec.f a2 2).bind fun t265 => (if ys264.size + t265.size ≤ 9223372036854775807 then ((some (ys264 ++ t265 : ByteArray)).bind fun ys266 => ((halberdlaw17_vec.f a3 1).bind fun t267 => (if ys266.size + t267.size ≤ 9223372036854775807 then ((some (ys266 ++ t267 : ByteArray)).bind fun ys268 => ((halberdlaw17_vec.f a4 2).bind fun t269 => (if ys268.size + t269.size ≤ 9223372036854775807 then ((halberdlaw17_made.f 1 (ys268 ++ t269)).bind fun t271 => (some t271)) else (none)))) else (none)))) else (none)))) else (none)))) else (none)) = some r := by first | (rw [hy259]; with_reducible exact H) | (have H2_ := (Option.bind_some _ _).symm.trans H; rw [hy259]; with_reducible exact H2_) | (have H2_ := (Option.bind_some _ _).symm.trans H; with_reducible exact H2_) | with_reducible exact H | (rw [hy259]; exact H) | exact H
    have Ny259 := Aside0.mk hy259
    clear hy259
    by_cases c7 : a0.size + (strOfNums y259).size ≤ 9223372036854775807
    · rw [if_pos c7] at H
      have c7b0 := eq_true c7
      have c7b1 : decide (a0.size + (strOfNums y259).size ≤ 9223372036854775807) = true := decide_eq_true c7
      try have c7b2 : (9223372036854775807 < a0.size + (strOfNums y259).size) = False := eq_false (Nat.not_lt.2 c7)
      obtain ⟨ys262, hys262⟩ : ∃ y_ : ByteArray, y_ = (a0 ++ (strOfNums y259)) := ⟨_, rfl⟩
      replace H : ((halberdlaw17_vec.f a1 1).bind fun t263 => (if ys262.size + t263.size ≤ 9223372036854775807 then ((some (ys262 ++ t263 : ByteArray)).bind fun ys264 => ((halberdlaw17_vec.f a2 2).bind fun t265 => (if ys264.size + t265.size ≤ 9223372036854775807 then ((some (ys264 ++ t265 : ByteArray)).bind fun ys266 => ((halberdlaw17_vec.f a3 1).bind fun t267 => (if ys266.size + t267.size ≤ 9223372036854775807 then ((some (ys266 ++ t267 : ByteArray)).bind fun ys268 => ((halberdlaw17_vec.f a4 2).bind fun t269 => (if ys268.size + t269.size ≤ 9223372036854775807 then ((halberdlaw17_made.f 1 (ys268 ++ t269)).bind fun t271 => (some t271)) else (none)))) else (none)))) else (none)))) else (none))) = some r := by first | (rw [hys262]; with_reducible exact H) | (have H2_ := (Option.bind_some _ _).symm.trans H; rw [hys262]; with_reducible exact H2_) | (have H2_ := (Option.bind_some _ _).symm.trans H; with_reducible exact H2_) | with_reducible exact H | (rw [hys262]; exact H) | exact H
      have Nys262 := Aside0.mk hys262
      clear hys262
      have Sys262 := Nys262.out.symm
      replace H := Option.bind_eq_some_iff.mp H
      obtain ⟨t263, A80, H⟩ := H
      replace H : (if ys262.size + t263.size ≤ 9223372036854775807 then ((some (ys262 ++ t263 : ByteArray)).bind fun ys264 => ((halberdlaw17_vec.f a2 2).bind fun t265 => (if ys264.size + t265.size ≤ 9223372036854775807 then ((some (ys264 ++ t265 : ByteArray)).bind fun ys266 => ((halberdlaw17_vec.f a3 1).bind fun t267 => (if ys266.size + t267.size ≤ 9223372036854775807 then ((some (ys266 ++ t267 : ByteArray)).bind fun ys268 => ((halberdlaw17_vec.f a4 2).bind fun t269 => (if ys268.size + t269.size ≤ 9223372036854775807 then ((halberdlaw17_made.f 1 (ys268 ++ t269)).bind fun t271 => (some t271)) else (none)))) else (none)))) else (none)))) else (none)) = some r := H
      have A8 := Aside0.mk A80
      clear A80
      by_cases c9 : ys262.size + t263.size ≤ 9223372036854775807
      · rw [if_pos c9] at H
        have c9b0 := eq_true c9
        have c9b1 : decide (ys262.size + t263.size ≤ 9223372036854775807) = true := decide_eq_true c9
        try have c9b2 : (9223372036854775807 < ys262.size + t263.size) = False := eq_false (Nat.not_lt.2 c9)
        obtain ⟨ys264, hys264⟩ : ∃ y_ : ByteArray, y_ = (ys262 ++ t263) := ⟨_, rfl⟩
        replace H : ((halberdlaw17_vec.f a2 2).bind fun t265 => (if ys264.size + t265.size ≤ 9223372036854775807 then ((some (ys264 ++ t265 : ByteArray)).bind fun ys266 => ((halberdlaw17_vec.f a3 1).bind fun t267 => (if ys266.size + t267.size ≤ 9223372036854775807 then ((some (ys266 ++ t267 : ByteArray)).bind fun ys268 => ((halberdlaw17_vec.f a4 2).bind fun t269 => (if ys268.size + t269.size ≤ 9223372036854775807 then ((halberdlaw17_made.f 1 (ys268 ++ t269)).bind fun t271 => (some t271)) else (none)))) else (none)))) else (none))) = some r := by first | (rw [hys264]; with_reducible exact H) | (have H2_ := (Option.bind_some _ _).symm.trans H; rw [hys264]; with_reducible exact H2_) | (have H2_ := (Option.bind_some _ _).symm.trans H; with_reducible exact H2_) | with_reducible exact H | (rw [hys264]; exact H) | exact H
        have Nys264 := Aside0.mk hys264
        clear hys264
        have Sys264 := Nys264.out.symm
        replace H := Option.bind_eq_some_iff.mp H
        obtain ⟨t265, A100, H⟩ := H
        replace H : (if ys264.size + t265.size ≤ 9223372036854775807 then ((some (ys264 ++ t265 : ByteArray)).bind fun ys266 => ((halberdlaw17_vec.f a3 1).bind fun t267 => (if ys266.size + t267.size ≤ 9223372036854775807 then ((some (ys266 ++ t267 : ByteArray)).bind fun ys268 => ((halberdlaw17_vec.f a4 2).bind fun t269 => (if ys268.size + t269.size ≤ 9223372036854775807 then ((halberdlaw17_made.f 1 (ys268 ++ t269)).bind fun t271 => (some t271)) else (none)))) else (none)))) else (none)) = some r := H
        have A10 := Aside0.mk A100
        clear A100
        by_cases c11 : ys264.size + t265.size ≤ 9223372036854775807
        · rw [if_pos c11] at H
          have c11b0 := eq_true c11
          have c11b1 : decide (ys264.size + t265.size ≤ 9223372036854775807) = true := decide_eq_true c11
          try have c11b2 : (9223372036854775807 < ys264.size + t265.size) = False := eq_false (Nat.not_lt.2 c11)
          obtain ⟨ys266, hys266⟩ : ∃ y_ : ByteArray, y_ = (ys264 ++ t265) := ⟨_, rfl⟩
          replace H : ((halberdlaw17_vec.f a3 1).bind fun t267 => (if ys266.size + t267.size ≤ 9223372036854775807 then ((some (ys266 ++ t267 : ByteArray)).bind fun ys268 => ((halberdlaw17_vec.f a4 2).bind fun t269 => (if ys268.size + t269.size ≤ 9223372036854775807 then ((halberdlaw17_made.f 1 (ys268 ++ t269)).bind fun t271 => (some t271)) else (none)))) else (none))) = some r := by first | (rw [hys266]; with_reducible exact H) | (have H2_ := (Option.bind_some _ _).symm.trans H; rw [hys266]; with_reducible exact H2_) | (have H2_ := (Option.bind_some _ _).symm.trans H; with_reducible exact H2_) | with_reducible exact H | (rw [hys266]; exact H) | exact H
          have Nys266 := Aside0.mk hys266
          clear hys266
          have Sys266 := Nys266.out.symm
          replace H := Option.bind_eq_some_iff.mp H
          obtain ⟨t267, A120, H⟩ := H
          replace H : (if ys266.size + t267.size ≤ 9223372036854775807 then ((some (ys266 ++ t267 : ByteArray)).bind fun ys268 => ((halberdlaw17_vec.f a4 2).bind fun t269 => (if ys268.size + t269.size ≤ 9223372036854775807 then ((halberdlaw17_made.f 1 (ys268 ++ t269)).bind fun t271 => (some t271)) else (none)))) else (none)) = some r := H
          have A12 := Aside0.mk A120
          clear A120
          by_cases c13 : ys266.size + t267.size ≤ 9223372036854775807
          · rw [if_pos c13] at H
            have c13b0 := eq_true c13
            have c13b1 : decide (ys266.size + t267.size ≤ 9223372036854775807) = true := decide_eq_true c13
            try have c13b2 : (9223372036854775807 < ys266.size + t267.size) = False := eq_false (Nat.not_lt.2 c13)
            obtain ⟨ys268, hys268⟩ : ∃ y_ : ByteArray, y_ = (ys266 ++ t267) := ⟨_, rfl⟩
            replace H : ((halberdlaw17_vec.f a4 2).bind fun t269 => (if ys268.size + t269.size ≤ 9223372036854775807 then ((halberdlaw17_made.f 1 (ys268 ++ t269)).bind fun t271 => (some t271)) else (none))) = some r := by first | (rw [hys268]; with_reducible exact H) | (have H2_ := (Option.bind_some _ _).symm.trans H; rw [hys268]; with_reducible exact H2_) | (have H2_ := (Option.bind_some _ _).symm.trans H; with_reducible exact H2_) | with_reducible exact H | (rw [hys268]; exact H) | exact H
            have Nys268 := Aside0.mk hys268
            clear hys268
            have Sys268 := Nys268.out.symm
            replace H := Option.bind_eq_some_iff.mp H
            obtain ⟨t269, A140, H⟩ := H
            replace H : (if ys268.size + t269.size ≤ 9223372036854775807 then ((halberdlaw17_made.f 1 (ys268 ++ t269)).bind fun t271 => (some t271)) else (none)) = some r := H
            have A14 := Aside0.mk A140
            clear A140
            by_cases c15 : ys268.size + t269.size ≤ 9223372036854775807
            · rw [if_pos c15] at H
              have c15b0 := eq_true c15
              have c15b1 : decide (ys268.size + t269.size ≤ 9223372036854775807) = true := decide_eq_true c15
              try have c15b2 : (9223372036854775807 < ys268.size + t269.size) = False := eq_false (Nat.not_lt.2 c15)
              obtain ⟨ys270, hys270⟩ : ∃ y_ : ByteArray, y_ = (ys268 ++ t269) := ⟨_, rfl⟩
              replace H : ((halberdlaw17_made.f 1 ys270).bind fun t271 => (some t271)) = some r := by first | (rw [hys270]; with_reducible exact H) | (have H2_ := (Option.bind_some _ _).symm.trans H; rw [hys270]; with_reducible exact H2_) | (have H2_ := (Option.bind_some _ _).symm.trans H; with_reducible exact H2_) | with_reducible exact H | (rw [hys270]; exact H) | exact H
              have Nys270 := Aside0.mk hys270
              clear hys270
              have Sys270 := Nys270.out.symm
              replace H := Option.bind_eq_some_iff.mp H
              obtain ⟨t271, A160, H⟩ := H
              replace H : (some t271) = some r := H
              have A16 := Aside0.mk A160
              clear A160
              obtain rfl := Option.some.inj H
              go_enter Try.func26, Try.ntmps26
              try go_wp2
              have n0_ := Aside0.mk (below_drew1 HB.out)
              clear HB
              have HB := n0_
              clear n0_
              refine start_ (n := 18) (S := fun w' => True) (ds := []) #[false, false, false, false, false, false, false, false, false, false, false, false, false, false, false, false, false, false] (by kernel_rfl) rfl rfl trivial (fun hHeld => ?_); refine with_tabW halberdlaw17_hello.tab1 halberdlaw17_hello.bits1 (fun HT_ HW_ => ?_)
              generalize w.drew = w17 at HB hHeld ⊢
              refine pure_ (i := 0) (N := some 11) (v := ?_) (a' := ?_) #[true, false, false, false, false, false, false, false, false, false, false, false, false, false, false, false, false, false] rfl rfl (any_of HT_.out (by kernel_rfl)) (fun _ _ _ h => h) (Or.inl ⟨by rfl, ?_⟩) ?_ ?_
              rotate_left
              · intro w'
                go_simp
                with_reducible rfl
              rotate_left
              · simp only [Act.put, List.setIfInBounds_toArray, List.set_cons_zero, List.set_cons_succ, i64_w, i32_w]
                rfl
              refine pure_ (i := 4) (N := some 15) (v := ?_) (a' := ?_) #[true, false, false, false, true, false, false, false, false, false, false, false, false, false, false, false, false, false] rfl rfl (any_of HT_.out (by kernel_rfl)) (fun _ _ _ h => h) (Or.inl ⟨by rfl, ?_⟩) ?_ ?_
              rotate_left
              · intro w'
                go_simp
                with_reducible rfl
              rotate_left
              · simp only [Act.put, List.setIfInBounds_toArray, List.set_cons_zero, List.set_cons_succ, i64_w, i32_w]
                rfl
              refine pure_ (i := 7) (N := some 18) (v := ?_) (a' := ?_) #[true, false, false, false, true, false, false, true, false, false, false, false, false, false, false, false, false, false] rfl rfl (any_of HT_.out (by kernel_rfl)) (fun _ _ _ h => h) (Or.inl ⟨by rfl, ?_⟩) ?_ ?_
              rotate_left
              · intro w'
                go_simp
                with_reducible rfl
              rotate_left
              · simp only [Act.put, List.setIfInBounds_toArray, List.set_cons_zero, List.set_cons_succ, i64_w, i32_w]
                rfl
              refine pure_ (i := 10) (N := some 21) (v := ?_) (a' := ?_) #[true, false, false, false, true, false, false, true, false, false, true, false, false, false, false, false, false, false] rfl rfl (any_of HT_.out (by kernel_rfl)) (fun _ _ _ h => h) (Or.inl ⟨by rfl, ?_⟩) ?_ ?_
              rotate_left
              · intro w'
                go_simp
                with_reducible rfl
              rotate_left
              · simp only [Act.put, List.setIfInBounds_toArray, List.set_cons_zero, List.set_cons_succ, i64_w, i32_w]
                rfl
              refine pure_ (i := 13) (N := some 24) (v := ?_) (a' := ?_) #[true, false, false, false, true, false, false, true, false, false, true, false, false, true, false, false, false, false] rfl rfl (any_of HT_.out (by kernel_rfl)) (fun _ _ _ h => h) (Or.inl ⟨by rfl, ?_⟩) ?_ ?_
              rotate_left
              · intro w'
                go_simp
                with_reducible rfl
              rotate_left
              · simp only [Act.put, List.setIfInBounds_toArray, List.set_cons_zero, List.set_cons_succ, i64_w, i32_w]
                rfl
              refine join_ (σ := Value) 3 #[true, true, true, true, true, true, true, true, true, true, true, true, true, true, true, false, false, false] (fun s_ => [(12, s_), (13, .string (strOfNums y259)), (16, .string t263), (19, .string t265), (22, .string t267), (25, .string t269), (14, .string ys262), (17, .string ys264), (20, .string ys266), (23, .string ys268)]) (fun s_ w' => (Kd.R (Kd.int .u8) 5 w' w.heap.size (fun _ => True) s_ y259) ∧ (Below w.heap.size w w')) ?_ ?_
              rotate_left
              · intro hJ1_2_5_8_11_14
                refine join_ (σ := Value) 4 #[true, true, true, true, true, true, true, true, true, true, true, true, true, true, false, false, false, false] (fun s_ => [(12, s_), (13, .string (strOfNums y259)), (16, .string t263), (19, .string t265), (22, .string t267), (14, .string ys262), (17, .string ys264), (20, .string ys266), (23, .string ys268)]) (fun s_ w' => (Kd.R (Kd.int .u8) 5 w' w.heap.size (fun _ => True) s_ y259) ∧ (Below w.heap.size w w')) ?_ ?_
                rotate_left
                · intro hJ1_2_5_8_11
                  refine join_ (σ := Value) 8 #[true, true, false, false, true, true, false, true, true, false, true, true, false, true, true, false, false, false] (fun s_ => [(12, s_), (16, .string t263), (19, .string t265), (22, .string t267), (25, .string t269)]) (fun s_ w' => (Kd.R (Kd.int .u8) 5 w' w.heap.size (fun _ => True) s_ y259) ∧ (Below w.heap.size w w')) ?_ ?_
                  rotate_left
                  · intro hJ1_5_8_11_14
                    refine join_ (σ := Value) 6 #[true, true, true, true, true, true, true, true, true, true, true, false, false, true, false, false, false, false] (fun s_ => [(12, s_), (13, .string (strOfNums y259)), (16, .string t263), (19, .string t265), (14, .string ys262), (17, .string ys264), (20, .string ys266)]) (fun s_ w' => (Kd.R (Kd.int .u8) 5 w' w.heap.size (fun _ => True) s_ y259) ∧ (Below w.heap.size w w')) ?_ ?_
                    rotate_left
                    · intro hJ1_2_5_8
                      refine join_ (σ := Value) 9 #[true, true, false, false, true, true, false, true, true, false, true, true, false, true, false, false, false, false] (fun s_ => [(12, s_), (16, .string t263), (19, .string t265), (22, .string t267)]) (fun s_ w' => (Kd.R (Kd.int .u8) 5 w' w.heap.size (fun _ => True) s_ y259) ∧ (Below w.heap.size w w')) ?_ ?_
                      rotate_left
                      · intro hJ1_5_8_11
                        refine join_ (σ := Unit) 9 #[true, false, false, false, true, true, false, true, true, false, true, true, false, true, true, false, false, false] (fun s_ => [(16, .string t263), (19, .string t265), (22, .string t267), (25, .string t269)]) (fun s_ w' => (Below w.heap.size w w')) ?_ ?_
                        rotate_left
                        · intro hJ5_8_11_14
                          refine join_ (σ := Value) 8 #[true, true, true, true, true, true, true, true, false, false, true, false, false, true, false, false, false, false] (fun s_ => [(12, s_), (13, .string (strOfNums y259)), (16, .string t263), (14, .string ys262), (17, .string ys264)]) (fun s_ w' => (Kd.R (Kd.int .u8) 5 w' w.heap.size (fun _ => True) s_ y259) ∧ (Below w.heap.size w w')) ?_ ?_
                          rotate_left
                          · intro hJ1_2_5
                            refine join_ (σ := Value) 10 #[true, true, false, false, true, true, false, true, true, false, true, false, false, true, false, false, false, false] (fun s_ => [(12, s_), (16, .string t263), (19, .string t265)]) (fun s_ w' => (Kd.R (Kd.int .u8) 5 w' w.heap.size (fun _ => True) s_ y259) ∧ (Below w.heap.size w w')) ?_ ?_
                            rotate_left
                            · intro hJ1_5_8
                              refine join_ (σ := Unit) 10 #[true, false, false, false, true, true, false, true, true, false, true, true, false, true, false, false, false, false] (fun s_ => [(16, .string t263), (19, .string t265), (22, .string t267)]) (fun s_ w' => (Below w.heap.size w w')) ?_ ?_
                              rotate_left
                              · intro hJ5_8_11
                                refine join_ (σ := Value) 10 #[true, true, true, true, true, false, false, true, false, false, true, false, false, true, false, false, false, false] (fun s_ => [(12, s_), (13, .string (strOfNums y259)), (14, .string ys262)]) (fun s_ w' => (Kd.R (Kd.int .u8) 5 w' w.heap.size (fun _ => True) s_ y259) ∧ (Below w.heap.size w w')) ?_ ?_
                                rotate_left
                                · intro hJ1_2
                                  refine join_ (σ := Value) 11 #[true, true, false, false, true, true, false, true, false, false, true, false, false, true, false, false, false, false] (fun s_ => [(12, s_), (16, .string t263)]) (fun s_ w' => (Kd.R (Kd.int .u8) 5 w' w.heap.size (fun _ => True) s_ y259) ∧ (Below w.heap.size w w')) ?_ ?_
                                  rotate_left
                                  · intro hJ1_5
                                    refine join_ (σ := Unit) 11 #[true, false, false, false, true, true, false, true, true, false, true, false, false, true, false, false, false, false] (fun s_ => [(16, .string t263), (19, .string t265)]) (fun s_ w' => (Below w.heap.size w w')) ?_ ?_
                                    rotate_left
                                    · intro hJ5_8
                                      refine join_ (σ := Value) 12 #[true, true, false, false, true, false, false, true, false, false, true, false, false, true, false, false, false, false] (fun s_ => [(12, s_)]) (fun s_ w' => (Kd.R (Kd.int .u8) 5 w' w.heap.size (fun _ => True) s_ y259) ∧ (Below w.heap.size w w')) ?_ ?_
                                      rotate_left
                                      · intro hJ1
                                        refine join_ (σ := Unit) 12 #[true, false, false, false, true, true, false, true, false, false, true, false, false, true, false, false, false, false] (fun s_ => [(16, .string t263)]) (fun s_ w' => (Below w.heap.size w w')) ?_ ?_
                                        rotate_left
                                        · intro hJ5
                                          refine two_ (i := 1) (j := 5) (Ni := some 12) (Nj := some 16) #[true, true, false, false, true, false, false, true, false, false, true, false, false, true, false, false, false, false] #[true, false, false, false, true, true, false, true, false, false, true, false, false, true, false, false, false, false] rfl rfl rfl rfl (two_of HT_.out (by kernel_rfl)) (by decide) (by decide) (fun K hK => ?_) (fun K hK => ?_)
                                          · skip
                                            refine Kd.R_make_step (Kd.int .u8) _ 5 (by rfl) (N := 12) rfl 39 _ _ rfl 32 rfl rfl Try.underlying39 (.int .u8 0) 1 info5 rfl (by decide) (by omega) 0 (ok := fun _ => True) (okp := fun _ => True) rfl (fun _ hk => hk) trivial (by omega) (by omega) (Below.refl _ _) (Nat.le_refl _) ?_
                                            intro v260 w18 ho19 hb hg_ hnew_
                                            clear hg_ hnew_
                                            (first | rw [← Ny259.out] at ho19 | (simp only [Int.reduceToNat] at ho19; rw [← Ny259.out] at ho19))
                                            have n0_ := Aside0.mk (Kd.R_lower ho19 (below_size (by repeat (first | (with_reducible first | exact HB.out | apply below_alloc | apply pw_below_drewN | apply below_drew1) | exact HB.out))))
                                            have n1_ := Aside0.mk (below_step (by repeat (first | (with_reducible first | exact HB.out | apply below_alloc | apply pw_below_drewN | apply below_drew1) | exact HB.out)) hb)
                                            clear HB
                                            have HO261 := n0_
                                            have HB := n1_
                                            clear n0_ n1_
                                            clear hb ho19
                                            refine hK.out _ _ trivial (fun hHeld => ?_)
                                            clear hK K
                                            refine norm_ (a' := ?_) ?_ ?_
                                            rotate_left
                                            · show Act.put _ (some 12) _ = _
                                              simp only [Act.put, List.setIfInBounds_toArray, List.set_cons_zero, List.set_cons_succ, i64_w, i32_w]
                                              rfl
                                            exact norm_ (by first | (simp only [putAll, Act.put, List.setIfInBounds_toArray, List.set_cons_zero, List.set_cons_succ]; done) | (simp only [putAll, Act.put, List.setIfInBounds_toArray, List.set_cons_zero, List.set_cons_succ]; rfl)) (hJ1 (v260) _ ⟨(by (with_reducible repeat (first | apply Kd.R_alloc | apply Kd.R_drewN | apply Kd.R_drew)); exact HO261.out), (by repeat (first | (with_reducible first | exact HB.out | apply below_alloc | apply pw_below_drewN | apply below_drew1) | exact HB.out))⟩)
                                          · skip
                                            refine goes_ Try.func29 (by kernel_rfl) rfl #[.string a1, .int .i64 1] (by rfl) rfl rfl (by (try simp only [List.map_toArray, List.map_cons, List.map_nil]); first | done | rfl | (simp only [List.length_drop, List.length_take]; rfl)) ?_
                                            with_reducible refine (halberdlaw17_vec.calls a1 1 t263 _ A8.out).mono ?_
                                            rintro e w18 ⟨rfl, hb⟩
                                            refine ⟨_, rfl, ?_⟩
                                            have n0_ := Aside0.mk (below_step (by repeat (first | (with_reducible first | exact HB.out | apply below_alloc | apply pw_below_drewN | apply below_drew1) | exact HB.out)) hb)
                                            clear HB
                                            have HB := n0_
                                            clear n0_
                                            (try clear hb)
                                            (try clear hb2)
                                            (try clear hk)
                                            (try clear hi)
                                            refine hK.out _ _ trivial (fun hHeld => ?_)
                                            clear hK K
                                            refine norm_ (a' := ?_) ?_ ?_
                                            rotate_left
                                            · show Act.put _ (some 16) _ = _
                                              simp only [Act.put, List.setIfInBounds_toArray, List.set_cons_zero, List.set_cons_succ, i64_w, i32_w]
                                              rfl
                                            exact norm_ (by first | (simp only [putAll, Act.put, List.setIfInBounds_toArray, List.set_cons_zero, List.set_cons_succ]; done) | (simp only [putAll, Act.put, List.setIfInBounds_toArray, List.set_cons_zero, List.set_cons_succ]; rfl)) (hJ5 () _ (by repeat (first | (with_reducible first | exact HB.out | apply below_alloc | apply pw_below_drewN | apply below_drew1) | exact HB.out)))
                                        · skip
                                          rintro _ w19 h0_
                                          have n0_ : Aside0 (Below w.heap.size w w19) := ⟨h0_⟩
                                          clear HB
                                          clear h0_
                                          have HB := n0_
                                          clear n0_
                                          have hHeld := trivial
                                          refine norm_ (a' := ?_) ?_ ?_
                                          rotate_left
                                          · simp only [putAll, Act.put, List.setIfInBounds_toArray, List.set_cons_zero, List.set_cons_succ]
                                            rfl
                                          refine two_ (i := 1) (j := 8) (Ni := some 12) (Nj := some 19) #[true, true, false, false, true, true, false, true, false, false, true, false, false, true, false, false, false, false] #[true, false, false, false, true, true, false, true, true, false, true, false, false, true, false, false, false, false] rfl rfl rfl rfl (two_of HT_.out (by kernel_rfl)) (by decide) (by decide) (fun K hK => ?_) (fun K hK => ?_)
                                          · skip
                                            refine Kd.R_make_step (Kd.int .u8) _ 5 (by rfl) (N := 12) rfl 39 _ _ rfl 32 rfl rfl Try.underlying39 (.int .u8 0) 1 info5 rfl (by decide) (by omega) 0 (ok := fun _ => True) (okp := fun _ => True) rfl (fun _ hk => hk) trivial (by omega) (by omega) (Below.refl _ _) (Nat.le_refl _) ?_
                                            intro v260 w20 ho21 hb hg_ hnew_
                                            clear hg_ hnew_
                                            (first | rw [← Ny259.out] at ho21 | (simp only [Int.reduceToNat] at ho21; rw [← Ny259.out] at ho21))
                                            have n0_ := Aside0.mk (Kd.R_lower ho21 (below_size (by repeat (first | (with_reducible first | exact HB.out | apply below_alloc | apply pw_below_drewN | apply below_drew1) | exact HB.out))))
                                            have n1_ := Aside0.mk (below_step (by repeat (first | (with_reducible first | exact HB.out | apply below_alloc | apply pw_below_drewN | apply below_drew1) | exact HB.out)) hb)
                                            clear HB
                                            have HO261 := n0_
                                            have HB := n1_
                                            clear n0_ n1_
                                            clear hb ho21
                                            refine hK.out _ _ trivial (fun hHeld => ?_)
                                            clear hK K
                                            refine norm_ (a' := ?_) ?_ ?_
                                            rotate_left
                                            · show Act.put _ (some 12) _ = _
                                              simp only [Act.put, List.setIfInBounds_toArray, List.set_cons_zero, List.set_cons_succ, i64_w, i32_w]
                                              rfl
                                            exact norm_ (by first | (simp only [putAll, Act.put, List.setIfInBounds_toArray, List.set_cons_zero, List.set_cons_succ]; done) | (simp only [putAll, Act.put, List.setIfInBounds_toArray, List.set_cons_zero, List.set_cons_succ]; rfl)) (hJ1_5 (v260) _ ⟨(by (with_reducible repeat (first | apply Kd.R_alloc | apply Kd.R_drewN | apply Kd.R_drew)); exact HO261.out), (by repeat (first | (with_reducible first | exact HB.out | apply below_alloc | apply pw_below_drewN | apply below_drew1) | exact HB.out))⟩)
                                          · skip
                                            refine goes_ Try.func29 (by kernel_rfl) rfl #[.string a2, .int .i64 2] (by rfl) rfl rfl (by (try simp only [List.map_toArray, List.map_cons, List.map_nil]); first | done | rfl | (simp only [List.length_drop, List.length_take]; rfl)) ?_
                                            with_reducible refine (halberdlaw17_vec.calls a2 2 t265 _ A10.out).mono ?_
                                            rintro e w20 ⟨rfl, hb⟩
                                            refine ⟨_, rfl, ?_⟩
                                            have n0_ := Aside0.mk (below_step (by repeat (first | (with_reducible first | exact HB.out | apply below_alloc | apply pw_below_drewN | apply below_drew1) | exact HB.out)) hb)
                                            clear HB
                                            have HB := n0_
                                            clear n0_
                                            (try clear hb)
                                            (try clear hb2)
                                            (try clear hk)
                                            (try clear hi)
                                            refine hK.out _ _ trivial (fun hHeld => ?_)
                                            clear hK K
                                            refine norm_ (a' := ?_) ?_ ?_
                                            rotate_left
                                            · show Act.put _ (some 19) _ = _
                                              simp only [Act.put, List.setIfInBounds_toArray, List.set_cons_zero, List.set_cons_succ, i64_w, i32_w]
                                              rfl
                                            exact norm_ (by first | (simp only [putAll, Act.put, List.setIfInBounds_toArray, List.set_cons_zero, List.set_cons_succ]; done) | (simp only [putAll, Act.put, List.setIfInBounds_toArray, List.set_cons_zero, List.set_cons_succ]; rfl)) (hJ5_8 () _ (by repeat (first | (with_reducible first | exact HB.out | apply below_alloc | apply pw_below_drewN | apply below_drew1) | exact HB.out)))
                                      · skip
                                        rintro v260 w20 ⟨h0_, h1_⟩
                                        have n0_ : Aside0 (Kd.R (Kd.int .u8) 5 w20 w.heap.size (fun _ => True) v260 y259) := ⟨h0_⟩
                                        have n1_ : Aside0 (Below w.heap.size w w20) := ⟨h1_⟩
                                        clear HB
                                        clear h0_ h1_
                                        have HO261 := n0_
                                        have HB := n1_
                                        clear n0_ n1_
                                        have hHeld := trivial
                                        refine norm_ (a' := ?_) ?_ ?_
                                        rotate_left
                                        · simp only [putAll, Act.put, List.setIfInBounds_toArray, List.set_cons_zero, List.set_cons_succ]
                                          rfl
                                        refine two_ (i := 2) (j := 5) (Ni := some 13) (Nj := some 16) #[true, true, true, false, true, false, false, true, false, false, true, false, false, true, false, false, false, false] #[true, true, false, false, true, true, false, true, false, false, true, false, false, true, false, false, false, false] rfl rfl rfl rfl (two_of HT_.out (by kernel_rfl)) (by decide) (by decide) (fun K hK => ?_) (fun K hK => ?_)
                                        · skip
                                          have hcv21 := own_string (P := Try.prog) Try.underlying39 Try.underlying5 Try.underlying9 (Kd.own_of_R HO261.out)
                                          refine value_ (w1 := ?_) (v := ?_) (by rfl) rfl ?_ ?_
                                          rotate_left 2
                                          · go_simp
                                            constructor
                                            · rfl
                                            · rfl
                                          clear hcv21
                                          refine hK.out _ _ trivial (fun hHeld => ?_)
                                          clear hK K
                                          refine norm_ (a' := ?_) ?_ ?_
                                          rotate_left
                                          · show Act.put _ (some 13) _ = _
                                            simp only [Act.put, List.setIfInBounds_toArray, List.set_cons_zero, List.set_cons_succ, i64_w, i32_w]
                                            rfl
                                          refine pure_ (i := 3) (N := some 14) (v := ?_) (a' := ?_) #[true, true, true, true, true, false, false, true, false, false, true, false, false, true, false, false, false, false] rfl rfl (any_of HT_.out (by kernel_rfl)) (fun _ _ _ h => h) (Or.inl ⟨by rfl, ?_⟩) ?_ ?_
                                          rotate_left
                                          · intro w'
                                            go_simp
                                            with_reducible rfl
                                          rotate_left
                                          · simp only [Act.put, List.setIfInBounds_toArray, List.set_cons_zero, List.set_cons_succ, i64_w, i32_w]
                                            rfl
                                          exact norm_ (by first | (simp only [putAll, Act.put, List.setIfInBounds_toArray, List.set_cons_zero, List.set_cons_succ]; done) | (simp only [putAll, Act.put, List.setIfInBounds_toArray, List.set_cons_zero, List.set_cons_succ]; rfl)) (hJ1_2 (v260) _ ⟨(by (with_reducible repeat (first | apply Kd.R_alloc | apply Kd.R_drewN | apply Kd.R_drew)); exact HO261.out), (by repeat (first | (with_reducible first | exact HB.out | apply below_alloc | apply pw_below_drewN | apply below_drew1) | exact HB.out))⟩)
                                        · skip
                                          refine goes_ Try.func29 (by kernel_rfl) rfl #[.string a1, .int .i64 1] (by rfl) rfl rfl (by (try simp only [List.map_toArray, List.map_cons, List.map_nil]); first | done | rfl | (simp only [List.length_drop, List.length_take]; rfl)) ?_
                                          with_reducible refine (halberdlaw17_vec.calls a1 1 t263 _ A8.out).mono ?_
                                          rintro e w21 ⟨rfl, hb⟩
                                          refine ⟨_, rfl, ?_⟩
                                          have n0_ := Aside0.mk (Kd.R_below (by (with_reducible repeat (first | apply Kd.R_alloc | apply Kd.R_drewN | apply Kd.R_drew)); exact HO261.out) hb)
                                          have n1_ := Aside0.mk (below_step (by repeat (first | (with_reducible first | exact HB.out | apply below_alloc | apply pw_below_drewN | apply below_drew1) | exact HB.out)) hb)
                                          clear HO261
                                          clear HB
                                          have HO261 := n0_
                                          have HB := n1_
                                          clear n0_ n1_
                                          (try clear hb)
                                          (try clear hb2)
                                          (try clear hk)
                                          (try clear hi)
                                          refine hK.out _ _ trivial (fun hHeld => ?_)
                                          clear hK K
                                          refine norm_ (a' := ?_) ?_ ?_
                                          rotate_left
                                          · show Act.put _ (some 16) _ = _
                                            simp only [Act.put, List.setIfInBounds_toArray, List.set_cons_zero, List.set_cons_succ, i64_w, i32_w]
                                            rfl
                                          exact norm_ (by first | (simp only [putAll, Act.put, List.setIfInBounds_toArray, List.set_cons_zero, List.set_cons_succ]; done) | (simp only [putAll, Act.put, List.setIfInBounds_toArray, List.set_cons_zero, List.set_cons_succ]; rfl)) (hJ1_5 (v260) _ ⟨(by (with_reducible repeat (first | apply Kd.R_alloc | apply Kd.R_drewN | apply Kd.R_drew)); exact HO261.out), (by repeat (first | (with_reducible first | exact HB.out | apply below_alloc | apply pw_below_drewN | apply below_drew1) | exact HB.out))⟩)
                                    · skip
                                      rintro _ w20 h0_
                                      have n0_ : Aside0 (Below w.heap.size w w20) := ⟨h0_⟩
                                      clear HB
                                      clear h0_
                                      have HB := n0_
                                      clear n0_
                                      have hHeld := trivial
                                      refine norm_ (a' := ?_) ?_ ?_
                                      rotate_left
                                      · simp only [putAll, Act.put, List.setIfInBounds_toArray, List.set_cons_zero, List.set_cons_succ]
                                        rfl
                                      refine two_ (i := 1) (j := 11) (Ni := some 12) (Nj := some 22) #[true, true, false, false, true, true, false, true, true, false, true, false, false, true, false, false, false, false] #[true, false, false, false, true, true, false, true, true, false, true, true, false, true, false, false, false, false] rfl rfl rfl rfl (two_of HT_.out (by kernel_rfl)) (by decide) (by decide) (fun K hK => ?_) (fun K hK => ?_)
                                      · skip
                                        refine Kd.R_make_step (Kd.int .u8) _ 5 (by rfl) (N := 12) rfl 39 _ _ rfl 32 rfl rfl Try.underlying39 (.int .u8 0) 1 info5 rfl (by decide) (by omega) 0 (ok := fun _ => True) (okp := fun _ => True) rfl (fun _ hk => hk) trivial (by omega) (by omega) (Below.refl _ _) (Nat.le_refl _) ?_
                                        intro v260 w21 ho22 hb hg_ hnew_
                                        clear hg_ hnew_
                                        (first | rw [← Ny259.out] at ho22 | (simp only [Int.reduceToNat] at ho22; rw [← Ny259.out] at ho22))
                                        have n0_ := Aside0.mk (Kd.R_lower ho22 (below_size (by repeat (first | (with_reducible first | exact HB.out | apply below_alloc | apply pw_below_drewN | apply below_drew1) | exact HB.out))))
                                        have n1_ := Aside0.mk (below_step (by repeat (first | (with_reducible first | exact HB.out | apply below_alloc | apply pw_below_drewN | apply below_drew1) | exact HB.out)) hb)
                                        clear HB
                                        have HO261 := n0_
                                        have HB := n1_
                                        clear n0_ n1_
                                        clear hb ho22
                                        refine hK.out _ _ trivial (fun hHeld => ?_)
                                        clear hK K
                                        refine norm_ (a' := ?_) ?_ ?_
                                        rotate_left
                                        · show Act.put _ (some 12) _ = _
                                          simp only [Act.put, List.setIfInBounds_toArray, List.set_cons_zero, List.set_cons_succ, i64_w, i32_w]
                                          rfl
                                        exact norm_ (by first | (simp only [putAll, Act.put, List.setIfInBounds_toArray, List.set_cons_zero, List.set_cons_succ]; done) | (simp only [putAll, Act.put, List.setIfInBounds_toArray, List.set_cons_zero, List.set_cons_succ]; rfl)) (hJ1_5_8 (v260) _ ⟨(by (with_reducible repeat (first | apply Kd.R_alloc | apply Kd.R_drewN | apply Kd.R_drew)); exact HO261.out), (by repeat (first | (with_reducible first | exact HB.out | apply below_alloc | apply pw_below_drewN | apply below_drew1) | exact HB.out))⟩)
                                      · skip
                                        refine goes_ Try.func29 (by kernel_rfl) rfl #[.string a3, .int .i64 1] (by rfl) rfl rfl (by (try simp only [List.map_toArray, List.map_cons, List.map_nil]); first | done | rfl | (simp only [List.length_drop, List.length_take]; rfl)) ?_
                                        with_reducible refine (halberdlaw17_vec.calls a3 1 t267 _ A12.out).mono ?_
                                        rintro e w21 ⟨rfl, hb⟩
                                        refine ⟨_, rfl, ?_⟩
                                        have n0_ := Aside0.mk (below_step (by repeat (first | (with_reducible first | exact HB.out | apply below_alloc | apply pw_below_drewN | apply below_drew1) | exact HB.out)) hb)
                                        clear HB
                                        have HB := n0_
                                        clear n0_
                                        (try clear hb)
                                        (try clear hb2)
                                        (try clear hk)
                                        (try clear hi)
                                        refine hK.out _ _ trivial (fun hHeld => ?_)
                                        clear hK K
                                        refine norm_ (a' := ?_) ?_ ?_
                                        rotate_left
                                        · show Act.put _ (some 22) _ = _
                                          simp only [Act.put, List.setIfInBounds_toArray, List.set_cons_zero, List.set_cons_succ, i64_w, i32_w]
                                          rfl
                                        exact norm_ (by first | (simp only [putAll, Act.put, List.setIfInBounds_toArray, List.set_cons_zero, List.set_cons_succ]; done) | (simp only [putAll, Act.put, List.setIfInBounds_toArray, List.set_cons_zero, List.set_cons_succ]; rfl)) (hJ5_8_11 () _ (by repeat (first | (with_reducible first | exact HB.out | apply below_alloc | apply pw_below_drewN | apply below_drew1) | exact HB.out)))
                                  · skip
                                    rintro v260 w21 ⟨h0_, h1_⟩
                                    have n0_ : Aside0 (Kd.R (Kd.int .u8) 5 w21 w.heap.size (fun _ => True) v260 y259) := ⟨h0_⟩
                                    have n1_ : Aside0 (Below w.heap.size w w21) := ⟨h1_⟩
                                    clear HB
                                    clear h0_ h1_
                                    have HO261 := n0_
                                    have HB := n1_
                                    clear n0_ n1_
                                    have hHeld := trivial
                                    refine norm_ (a' := ?_) ?_ ?_
                                    rotate_left
                                    · simp only [putAll, Act.put, List.setIfInBounds_toArray, List.set_cons_zero, List.set_cons_succ]
                                      rfl
                                    refine two_ (i := 2) (j := 8) (Ni := some 13) (Nj := some 19) #[true, true, true, false, true, true, false, true, false, false, true, false, false, true, false, false, false, false] #[true, true, false, false, true, true, false, true, true, false, true, false, false, true, false, false, false, false] rfl rfl rfl rfl (two_of HT_.out (by kernel_rfl)) (by decide) (by decide) (fun K hK => ?_) (fun K hK => ?_)
                                    · skip
                                      have hcv22 := own_string (P := Try.prog) Try.underlying39 Try.underlying5 Try.underlying9 (Kd.own_of_R HO261.out)
                                      refine value_ (w1 := ?_) (v := ?_) (by rfl) rfl ?_ ?_
                                      rotate_left 2
                                      · go_simp
                                        constructor
                                        · rfl
                                        · rfl
                                      clear hcv22
                                      refine hK.out _ _ trivial (fun hHeld => ?_)
                                      clear hK K
                                      refine norm_ (a' := ?_) ?_ ?_
                                      rotate_left
                                      · show Act.put _ (some 13) _ = _
                                        simp only [Act.put, List.setIfInBounds_toArray, List.set_cons_zero, List.set_cons_succ, i64_w, i32_w]
                                        rfl
                                      refine pure_ (i := 3) (N := some 14) (v := ?_) (a' := ?_) #[true, true, true, true, true, true, false, true, false, false, true, false, false, true, false, false, false, false] rfl rfl (any_of HT_.out (by kernel_rfl)) (fun _ _ _ h => h) (Or.inl ⟨by rfl, ?_⟩) ?_ ?_
                                      rotate_left
                                      · intro w'
                                        go_simp
                                        with_reducible rfl
                                      rotate_left
                                      · simp only [Act.put, List.setIfInBounds_toArray, List.set_cons_zero, List.set_cons_succ, i64_w, i32_w]
                                        rfl
                                      refine pure_ (i := 6) (N := some 17) (v := ?_) (a' := ?_) #[true, true, true, true, true, true, true, true, false, false, true, false, false, true, false, false, false, false] rfl rfl (any_of HT_.out (by kernel_rfl)) (fun _ _ _ h => h) (Or.inl ⟨by rfl, ?_⟩) ?_ ?_
                                      rotate_left
                                      · intro w'
                                        go_simp
                                        with_reducible rfl
                                      rotate_left
                                      · simp only [Act.put, List.setIfInBounds_toArray, List.set_cons_zero, List.set_cons_succ, i64_w, i32_w]
                                        rfl
                                      exact norm_ (by first | (simp only [putAll, Act.put, List.setIfInBounds_toArray, List.set_cons_zero, List.set_cons_succ]; done) | (simp only [putAll, Act.put, List.setIfInBounds_toArray, List.set_cons_zero, List.set_cons_succ]; rfl)) (hJ1_2_5 (v260) _ ⟨(by (with_reducible repeat (first | apply Kd.R_alloc | apply Kd.R_drewN | apply Kd.R_drew)); exact HO261.out), (by repeat (first | (with_reducible first | exact HB.out | apply below_alloc | apply pw_below_drewN | apply below_drew1) | exact HB.out))⟩)
                                    · skip
                                      refine goes_ Try.func29 (by kernel_rfl) rfl #[.string a2, .int .i64 2] (by rfl) rfl rfl (by (try simp only [List.map_toArray, List.map_cons, List.map_nil]); first | done | rfl | (simp only [List.length_drop, List.length_take]; rfl)) ?_
                                      with_reducible refine (halberdlaw17_vec.calls a2 2 t265 _ A10.out).mono ?_
                                      rintro e w22 ⟨rfl, hb⟩
                                      refine ⟨_, rfl, ?_⟩
                                      have n0_ := Aside0.mk (Kd.R_below (by (with_reducible repeat (first | apply Kd.R_alloc | apply Kd.R_drewN | apply Kd.R_drew)); exact HO261.out) hb)
                                      have n1_ := Aside0.mk (below_step (by repeat (first | (with_reducible first | exact HB.out | apply below_alloc | apply pw_below_drewN | apply below_drew1) | exact HB.out)) hb)
                                      clear HO261
                                      clear HB
                                      have HO261 := n0_
                                      have HB := n1_
                                      clear n0_ n1_
                                      (try clear hb)
                                      (try clear hb2)
                                      (try clear hk)
                                      (try clear hi)
                                      refine hK.out _ _ trivial (fun hHeld => ?_)
                                      clear hK K
                                      refine norm_ (a' := ?_) ?_ ?_
                                      rotate_left
                                      · show Act.put _ (some 19) _ = _
                                        simp only [Act.put, List.setIfInBounds_toArray, List.set_cons_zero, List.set_cons_succ, i64_w, i32_w]
                                        rfl
                                      exact norm_ (by first | (simp only [putAll, Act.put, List.setIfInBounds_toArray, List.set_cons_zero, List.set_cons_succ]; done) | (simp only [putAll, Act.put, List.setIfInBounds_toArray, List.set_cons_zero, List.set_cons_succ]; rfl)) (hJ1_5_8 (v260) _ ⟨(by (with_reducible repeat (first | apply Kd.R_alloc | apply Kd.R_drewN | apply Kd.R_drew)); exact HO261.out), (by repeat (first | (with_reducible first | exact HB.out | apply below_alloc | apply pw_below_drewN | apply below_drew1) | exact HB.out))⟩)
                                · skip
                                  rintro v260 w21 ⟨h0_, h1_⟩
                                  have n0_ : Aside0 (Kd.R (Kd.int .u8) 5 w21 w.heap.size (fun _ => True) v260 y259) := ⟨h0_⟩
                                  have n1_ : Aside0 (Below w.heap.size w w21) := ⟨h1_⟩
                                  clear HB
                                  clear h0_ h1_
                                  have HO261 := n0_
                                  have HB := n1_
                                  clear n0_ n1_
                                  have hHeld := trivial
                                  refine norm_ (a' := ?_) ?_ ?_
                                  rotate_left
                                  · simp only [putAll, Act.put, List.setIfInBounds_toArray, List.set_cons_zero, List.set_cons_succ]
                                    rfl
                                  refine one_ (i := 5) (N := some 16) #[true, true, true, true, true, true, false, true, false, false, true, false, false, true, false, false, false, false] rfl rfl (one_of HT_.out (by kernel_rfl)) (by decide) (fun K hK => ?_)
                                  refine goes_ Try.func29 (by kernel_rfl) rfl #[.string a1, .int .i64 1] (by rfl) rfl rfl (by (try simp only [List.map_toArray, List.map_cons, List.map_nil]); first | done | rfl | (simp only [List.length_drop, List.length_take]; rfl)) ?_
                                  with_reducible refine (halberdlaw17_vec.calls a1 1 t263 _ A8.out).mono ?_
                                  rintro e w22 ⟨rfl, hb⟩
                                  refine ⟨_, rfl, ?_⟩
                                  have n0_ := Aside0.mk (Kd.R_below (by (with_reducible repeat (first | apply Kd.R_alloc | apply Kd.R_drewN | apply Kd.R_drew)); exact HO261.out) hb)
                                  have n1_ := Aside0.mk (below_step (by repeat (first | (with_reducible first | exact HB.out | apply below_alloc | apply pw_below_drewN | apply below_drew1) | exact HB.out)) hb)
                                  clear HO261
                                  clear HB
                                  have HO261 := n0_
                                  have HB := n1_
                                  clear n0_ n1_
                                  (try clear hb)
                                  (try clear hb2)
                                  (try clear hk)
                                  (try clear hi)
                                  refine hK.out _ _ trivial (fun hHeld => ?_)
                                  clear hK K
                                  refine norm_ (a' := ?_) ?_ ?_
                                  rotate_left
                                  · show Act.put _ (some 16) _ = _
                                    simp only [Act.put, List.setIfInBounds_toArray, List.set_cons_zero, List.set_cons_succ, i64_w, i32_w]
                                    rfl
                                  refine pure_ (i := 6) (N := some 17) (v := ?_) (a' := ?_) #[true, true, true, true, true, true, true, true, false, false, true, false, false, true, false, false, false, false] rfl rfl (any_of HT_.out (by kernel_rfl)) (fun _ _ _ h => h) (Or.inl ⟨by rfl, ?_⟩) ?_ ?_
                                  rotate_left
                                  · intro w'
                                    go_simp
                                    with_reducible rfl
                                  rotate_left
                                  · simp only [Act.put, List.setIfInBounds_toArray, List.set_cons_zero, List.set_cons_succ, i64_w, i32_w]
                                    rfl
                                  exact norm_ (by first | (simp only [putAll, Act.put, List.setIfInBounds_toArray, List.set_cons_zero, List.set_cons_succ]; done) | (simp only [putAll, Act.put, List.setIfInBounds_toArray, List.set_cons_zero, List.set_cons_succ]; rfl)) (hJ1_2_5 (v260) _ ⟨(by (with_reducible repeat (first | apply Kd.R_alloc | apply Kd.R_drewN | apply Kd.R_drew)); exact HO261.out), (by repeat (first | (with_reducible first | exact HB.out | apply below_alloc | apply pw_below_drewN | apply below_drew1) | exact HB.out))⟩)
                              · skip
                                rintro _ w21 h0_
                                have n0_ : Aside0 (Below w.heap.size w w21) := ⟨h0_⟩
                                clear HB
                                clear h0_
                                have HB := n0_
                                clear n0_
                                have hHeld := trivial
                                refine norm_ (a' := ?_) ?_ ?_
                                rotate_left
                                · simp only [putAll, Act.put, List.setIfInBounds_toArray, List.set_cons_zero, List.set_cons_succ]
                                  rfl
                                refine two_ (i := 1) (j := 14) (Ni := some 12) (Nj := some 25) #[true, true, false, false, true, true, false, true, true, false, true, true, false, true, false, false, false, false] #[true, false, false, false, true, true, false, true, true, false, true, true, false, true, true, false, false, false] rfl rfl rfl rfl (two_of HT_.out (by kernel_rfl)) (by decide) (by decide) (fun K hK => ?_) (fun K hK => ?_)
                                · skip
                                  refine Kd.R_make_step (Kd.int .u8) _ 5 (by rfl) (N := 12) rfl 39 _ _ rfl 32 rfl rfl Try.underlying39 (.int .u8 0) 1 info5 rfl (by decide) (by omega) 0 (ok := fun _ => True) (okp := fun _ => True) rfl (fun _ hk => hk) trivial (by omega) (by omega) (Below.refl _ _) (Nat.le_refl _) ?_
                                  intro v260 w22 ho23 hb hg_ hnew_
                                  clear hg_ hnew_
                                  (first | rw [← Ny259.out] at ho23 | (simp only [Int.reduceToNat] at ho23; rw [← Ny259.out] at ho23))
                                  have n0_ := Aside0.mk (Kd.R_lower ho23 (below_size (by repeat (first | (with_reducible first | exact HB.out | apply below_alloc | apply pw_below_drewN | apply below_drew1) | exact HB.out))))
                                  have n1_ := Aside0.mk (below_step (by repeat (first | (with_reducible first | exact HB.out | apply below_alloc | apply pw_below_drewN | apply below_drew1) | exact HB.out)) hb)
                                  clear HB
                                  have HO261 := n0_
                                  have HB := n1_
                                  clear n0_ n1_
                                  clear hb ho23
                                  refine hK.out _ _ trivial (fun hHeld => ?_)
                                  clear hK K
                                  refine norm_ (a' := ?_) ?_ ?_
                                  rotate_left
                                  · show Act.put _ (some 12) _ = _
                                    simp only [Act.put, List.setIfInBounds_toArray, List.set_cons_zero, List.set_cons_succ, i64_w, i32_w]
                                    rfl
                                  exact norm_ (by first | (simp only [putAll, Act.put, List.setIfInBounds_toArray, List.set_cons_zero, List.set_cons_succ]; done) | (simp only [putAll, Act.put, List.setIfInBounds_toArray, List.set_cons_zero, List.set_cons_succ]; rfl)) (hJ1_5_8_11 (v260) _ ⟨(by (with_reducible repeat (first | apply Kd.R_alloc | apply Kd.R_drewN | apply Kd.R_drew)); exact HO261.out), (by repeat (first | (with_reducible first | exact HB.out | apply below_alloc | apply pw_below_drewN | apply below_drew1) | exact HB.out))⟩)
                                · skip
                                  refine goes_ Try.func29 (by kernel_rfl) rfl #[.string a4, .int .i64 2] (by rfl) rfl rfl (by (try simp only [List.map_toArray, List.map_cons, List.map_nil]); first | done | rfl | (simp only [List.length_drop, List.length_take]; rfl)) ?_
                                  with_reducible refine (halberdlaw17_vec.calls a4 2 t269 _ A14.out).mono ?_
                                  rintro e w22 ⟨rfl, hb⟩
                                  refine ⟨_, rfl, ?_⟩
                                  have n0_ := Aside0.mk (below_step (by repeat (first | (with_reducible first | exact HB.out | apply below_alloc | apply pw_below_drewN | apply below_drew1) | exact HB.out)) hb)
                                  clear HB
                                  have HB := n0_
                                  clear n0_
                                  (try clear hb)
                                  (try clear hb2)
                                  (try clear hk)
                                  (try clear hi)
                                  refine hK.out _ _ trivial (fun hHeld => ?_)
                                  clear hK K
                                  refine norm_ (a' := ?_) ?_ ?_
                                  rotate_left
                                  · show Act.put _ (some 25) _ = _
                                    simp only [Act.put, List.setIfInBounds_toArray, List.set_cons_zero, List.set_cons_succ, i64_w, i32_w]
                                    rfl
                                  exact norm_ (by first | (simp only [putAll, Act.put, List.setIfInBounds_toArray, List.set_cons_zero, List.set_cons_succ]; done) | (simp only [putAll, Act.put, List.setIfInBounds_toArray, List.set_cons_zero, List.set_cons_succ]; rfl)) (hJ5_8_11_14 () _ (by repeat (first | (with_reducible first | exact HB.out | apply below_alloc | apply pw_below_drewN | apply below_drew1) | exact HB.out)))
                            · skip
                              rintro v260 w22 ⟨h0_, h1_⟩
                              have n0_ : Aside0 (Kd.R (Kd.int .u8) 5 w22 w.heap.size (fun _ => True) v260 y259) := ⟨h0_⟩
                              have n1_ : Aside0 (Below w.heap.size w w22) := ⟨h1_⟩
                              clear HB
                              clear h0_ h1_
                              have HO261 := n0_
                              have HB := n1_
                              clear n0_ n1_
                              have hHeld := trivial
                              refine norm_ (a' := ?_) ?_ ?_
                              rotate_left
                              · simp only [putAll, Act.put, List.setIfInBounds_toArray, List.set_cons_zero, List.set_cons_succ]
                                rfl
                              refine two_ (i := 2) (j := 11) (Ni := some 13) (Nj := some 22) #[true, true, true, false, true, true, false, true, true, false, true, false, false, true, false, false, false, false] #[true, true, false, false, true, true, false, true, true, false, true, true, false, true, false, false, false, false] rfl rfl rfl rfl (two_of HT_.out (by kernel_rfl)) (by decide) (by decide) (fun K hK => ?_) (fun K hK => ?_)
                              · skip
                                have hcv23 := own_string (P := Try.prog) Try.underlying39 Try.underlying5 Try.underlying9 (Kd.own_of_R HO261.out)
                                refine value_ (w1 := ?_) (v := ?_) (by rfl) rfl ?_ ?_
                                rotate_left 2
                                · go_simp
                                  constructor
                                  · rfl
                                  · rfl
                                clear hcv23
                                refine hK.out _ _ trivial (fun hHeld => ?_)
                                clear hK K
                                refine norm_ (a' := ?_) ?_ ?_
                                rotate_left
                                · show Act.put _ (some 13) _ = _
                                  simp only [Act.put, List.setIfInBounds_toArray, List.set_cons_zero, List.set_cons_succ, i64_w, i32_w]
                                  rfl
                                refine pure_ (i := 3) (N := some 14) (v := ?_) (a' := ?_) #[true, true, true, true, true, true, false, true, true, false, true, false, false, true, false, false, false, false] rfl rfl (any_of HT_.out (by kernel_rfl)) (fun _ _ _ h => h) (Or.inl ⟨by rfl, ?_⟩) ?_ ?_
                                rotate_left
                                · intro w'
                                  go_simp
                                  with_reducible rfl
                                rotate_left
                                · simp only [Act.put, List.setIfInBounds_toArray, List.set_cons_zero, List.set_cons_succ, i64_w, i32_w]
                                  rfl
                                refine pure_ (i := 6) (N := some 17) (v := ?_) (a' := ?_) #[true, true, true, true, true, true, true, true, true, false, true, false, false, true, false, false, false, false] rfl rfl (any_of HT_.out (by kernel_rfl)) (fun _ _ _ h => h) (Or.inl ⟨by rfl, ?_⟩) ?_ ?_
                                rotate_left
                                · intro w'
                                  go_simp
                                  with_reducible rfl
                                rotate_left
                                · simp only [Act.put, List.setIfInBounds_toArray, List.set_cons_zero, List.set_cons_succ, i64_w, i32_w]
                                  rfl
                                refine pure_ (i := 9) (N := some 20) (v := ?_) (a' := ?_) #[true, true, true, true, true, true, true, true, true, true, true, false, false, true, false, false, false, false] rfl rfl (any_of HT_.out (by kernel_rfl)) (fun _ _ _ h => h) (Or.inl ⟨by rfl, ?_⟩) ?_ ?_
                                rotate_left
                                · intro w'
                                  go_simp
                                  with_reducible rfl
                                rotate_left
                                · simp only [Act.put, List.setIfInBounds_toArray, List.set_cons_zero, List.set_cons_succ, i64_w, i32_w]
                                  rfl
                                exact norm_ (by first | (simp only [putAll, Act.put, List.setIfInBounds_toArray, List.set_cons_zero, List.set_cons_succ]; done) | (simp only [putAll, Act.put, List.setIfInBounds_toArray, List.set_cons_zero, List.set_cons_succ]; rfl)) (hJ1_2_5_8 (v260) _ ⟨(by (with_reducible repeat (first | apply Kd.R_alloc | apply Kd.R_drewN | apply Kd.R_drew)); exact HO261.out), (by repeat (first | (with_reducible first | exact HB.out | apply below_alloc | apply pw_below_drewN | apply below_drew1) | exact HB.out))⟩)
                              · skip
                                refine goes_ Try.func29 (by kernel_rfl) rfl #[.string a3, .int .i64 1] (by rfl) rfl rfl (by (try simp only [List.map_toArray, List.map_cons, List.map_nil]); first | done | rfl | (simp only [List.length_drop, List.length_take]; rfl)) ?_
                                with_reducible refine (halberdlaw17_vec.calls a3 1 t267 _ A12.out).mono ?_
                                rintro e w23 ⟨rfl, hb⟩
                                refine ⟨_, rfl, ?_⟩
                                have n0_ := Aside0.mk (Kd.R_below (by (with_reducible repeat (first | apply Kd.R_alloc | apply Kd.R_drewN | apply Kd.R_drew)); exact HO261.out) hb)
                                have n1_ := Aside0.mk (below_step (by repeat (first | (with_reducible first | exact HB.out | apply below_alloc | apply pw_below_drewN | apply below_drew1) | exact HB.out)) hb)
                                clear HO261
                                clear HB
                                have HO261 := n0_
                                have HB := n1_
                                clear n0_ n1_
                                (try clear hb)
                                (try clear hb2)
                                (try clear hk)
                                (try clear hi)
                                refine hK.out _ _ trivial (fun hHeld => ?_)
                                clear hK K
                                refine norm_ (a' := ?_) ?_ ?_
                                rotate_left
                                · show Act.put _ (some 22) _ = _
                                  simp only [Act.put, List.setIfInBounds_toArray, List.set_cons_zero, List.set_cons_succ, i64_w, i32_w]
                                  rfl
                                exact norm_ (by first | (simp only [putAll, Act.put, List.setIfInBounds_toArray, List.set_cons_zero, List.set_cons_succ]; done) | (simp only [putAll, Act.put, List.setIfInBounds_toArray, List.set_cons_zero, List.set_cons_succ]; rfl)) (hJ1_5_8_11 (v260) _ ⟨(by (with_reducible repeat (first | apply Kd.R_alloc | apply Kd.R_drewN | apply Kd.R_drew)); exact HO261.out), (by repeat (first | (with_reducible first | exact HB.out | apply below_alloc | apply pw_below_drewN | apply below_drew1) | exact HB.out))⟩)
                          · skip
                            rintro v260 w22 ⟨h0_, h1_⟩
                            have n0_ : Aside0 (Kd.R (Kd.int .u8) 5 w22 w.heap.size (fun _ => True) v260 y259) := ⟨h0_⟩
                            have n1_ : Aside0 (Below w.heap.size w w22) := ⟨h1_⟩
                            clear HB
                            clear h0_ h1_
                            have HO261 := n0_
                            have HB := n1_
                            clear n0_ n1_
                            have hHeld := trivial
                            refine norm_ (a' := ?_) ?_ ?_
                            rotate_left
                            · simp only [putAll, Act.put, List.setIfInBounds_toArray, List.set_cons_zero, List.set_cons_succ]
                              rfl
                            refine one_ (i := 8) (N := some 19) #[true, true, true, true, true, true, true, true, true, false, true, false, false, true, false, false, false, false] rfl rfl (one_of HT_.out (by kernel_rfl)) (by decide) (fun K hK => ?_)
                            refine goes_ Try.func29 (by kernel_rfl) rfl #[.string a2, .int .i64 2] (by rfl) rfl rfl (by (try simp only [List.map_toArray, List.map_cons, List.map_nil]); first | done | rfl | (simp only [List.length_drop, List.length_take]; rfl)) ?_
                            with_reducible refine (halberdlaw17_vec.calls a2 2 t265 _ A10.out).mono ?_
                            rintro e w23 ⟨rfl, hb⟩
                            refine ⟨_, rfl, ?_⟩
                            have n0_ := Aside0.mk (Kd.R_below (by (with_reducible repeat (first | apply Kd.R_alloc | apply Kd.R_drewN | apply Kd.R_drew)); exact HO261.out) hb)
                            have n1_ := Aside0.mk (below_step (by repeat (first | (with_reducible first | exact HB.out | apply below_alloc | apply pw_below_drewN | apply below_drew1) | exact HB.out)) hb)
                            clear HO261
                            clear HB
                            have HO261 := n0_
                            have HB := n1_
                            clear n0_ n1_
                            (try clear hb)
                            (try clear hb2)
                            (try clear hk)
                            (try clear hi)
                            refine hK.out _ _ trivial (fun hHeld => ?_)
                            clear hK K
                            refine norm_ (a' := ?_) ?_ ?_
                            rotate_left
                            · show Act.put _ (some 19) _ = _
                              simp only [Act.put, List.setIfInBounds_toArray, List.set_cons_zero, List.set_cons_succ, i64_w, i32_w]
                              rfl
                            refine pure_ (i := 9) (N := some 20) (v := ?_) (a' := ?_) #[true, true, true, true, true, true, true, true, true, true, true, false, false, true, false, false, false, false] rfl rfl (any_of HT_.out (by kernel_rfl)) (fun _ _ _ h => h) (Or.inl ⟨by rfl, ?_⟩) ?_ ?_
                            rotate_left
                            · intro w'
                              go_simp
                              with_reducible rfl
                            rotate_left
                            · simp only [Act.put, List.setIfInBounds_toArray, List.set_cons_zero, List.set_cons_succ, i64_w, i32_w]
                              rfl
                            exact norm_ (by first | (simp only [putAll, Act.put, List.setIfInBounds_toArray, List.set_cons_zero, List.set_cons_succ]; done) | (simp only [putAll, Act.put, List.setIfInBounds_toArray, List.set_cons_zero, List.set_cons_succ]; rfl)) (hJ1_2_5_8 (v260) _ ⟨(by (with_reducible repeat (first | apply Kd.R_alloc | apply Kd.R_drewN | apply Kd.R_drew)); exact HO261.out), (by repeat (first | (with_reducible first | exact HB.out | apply below_alloc | apply pw_below_drewN | apply below_drew1) | exact HB.out))⟩)
                        · skip
                          rintro _ w22 h0_
                          have n0_ : Aside0 (Below w.heap.size w w22) := ⟨h0_⟩
                          clear HB
                          clear h0_
                          have HB := n0_
                          clear n0_
                          have hHeld := trivial
                          refine norm_ (a' := ?_) ?_ ?_
                          rotate_left
                          · simp only [putAll, Act.put, List.setIfInBounds_toArray, List.set_cons_zero, List.set_cons_succ]
                            rfl
                          refine one_ (i := 1) (N := some 12) #[true, true, false, false, true, true, false, true, true, false, true, true, false, true, true, false, false, false] rfl rfl (one_of HT_.out (by kernel_rfl)) (by decide) (fun K hK => ?_)
                          refine Kd.R_make_step (Kd.int .u8) _ 5 (by rfl) (N := 12) rfl 39 _ _ rfl 32 rfl rfl Try.underlying39 (.int .u8 0) 1 info5 rfl (by decide) (by omega) 0 (ok := fun _ => True) (okp := fun _ => True) rfl (fun _ hk => hk) trivial (by omega) (by omega) (Below.refl _ _) (Nat.le_refl _) ?_
                          intro v260 w23 ho24 hb hg_ hnew_
                          clear hg_ hnew_
                          (first | rw [← Ny259.out] at ho24 | (simp only [Int.reduceToNat] at ho24; rw [← Ny259.out] at ho24))
                          have n0_ := Aside0.mk (Kd.R_lower ho24 (below_size (by repeat (first | (with_reducible first | exact HB.out | apply below_alloc | apply pw_below_drewN | apply below_drew1) | exact HB.out))))
                          have n1_ := Aside0.mk (below_step (by repeat (first | (with_reducible first | exact HB.out | apply below_alloc | apply pw_below_drewN | apply below_drew1) | exact HB.out)) hb)
                          clear HB
                          have HO261 := n0_
                          have HB := n1_
                          clear n0_ n1_
                          clear hb ho24
                          refine hK.out _ _ trivial (fun hHeld => ?_)
                          clear hK K
                          refine norm_ (a' := ?_) ?_ ?_
                          rotate_left
                          · show Act.put _ (some 12) _ = _
                            simp only [Act.put, List.setIfInBounds_toArray, List.set_cons_zero, List.set_cons_succ, i64_w, i32_w]
                            rfl
                          exact norm_ (by first | (simp only [putAll, Act.put, List.setIfInBounds_toArray, List.set_cons_zero, List.set_cons_succ]; done) | (simp only [putAll, Act.put, List.setIfInBounds_toArray, List.set_cons_zero, List.set_cons_succ]; rfl)) (hJ1_5_8_11_14 (v260) _ ⟨(by (with_reducible repeat (first | apply Kd.R_alloc | apply Kd.R_drewN | apply Kd.R_drew)); exact HO261.out), (by repeat (first | (with_reducible first | exact HB.out | apply below_alloc | apply pw_below_drewN | apply below_drew1) | exact HB.out))⟩)
                      · skip
                        rintro v260 w23 ⟨h0_, h1_⟩
                        have n0_ : Aside0 (Kd.R (Kd.int .u8) 5 w23 w.heap.size (fun _ => True) v260 y259) := ⟨h0_⟩
                        have n1_ : Aside0 (Below w.heap.size w w23) := ⟨h1_⟩
                        clear HB
                        clear h0_ h1_
                        have HO261 := n0_
                        have HB := n1_
                        clear n0_ n1_
                        have hHeld := trivial
                        refine norm_ (a' := ?_) ?_ ?_
                        rotate_left
                        · simp only [putAll, Act.put, List.setIfInBounds_toArray, List.set_cons_zero, List.set_cons_succ]
                          rfl
                        refine two_ (i := 2) (j := 14) (Ni := some 13) (Nj := some 25) #[true, true, true, false, true, true, false, true, true, false, true, true, false, true, false, false, false, false] #[true, true, false, false, true, true, false, true, true, false, true, true, false, true, true, false, false, false] rfl rfl rfl rfl (two_of HT_.out (by kernel_rfl)) (by decide) (by decide) (fun K hK => ?_) (fun K hK => ?_)
                        · skip
                          have hcv24 := own_string (P := Try.prog) Try.underlying39 Try.underlying5 Try.underlying9 (Kd.own_of_R HO261.out)
                          refine value_ (w1 := ?_) (v := ?_) (by rfl) rfl ?_ ?_
                          rotate_left 2
                          · go_simp
                            constructor
                            · rfl
                            · rfl
                          clear hcv24
                          refine hK.out _ _ trivial (fun hHeld => ?_)
                          clear hK K
                          refine norm_ (a' := ?_) ?_ ?_
                          rotate_left
                          · show Act.put _ (some 13) _ = _
                            simp only [Act.put, List.setIfInBounds_toArray, List.set_cons_zero, List.set_cons_succ, i64_w, i32_w]
                            rfl
                          refine pure_ (i := 3) (N := some 14) (v := ?_) (a' := ?_) #[true, true, true, true, true, true, false, true, true, false, true, true, false, true, false, false, false, false] rfl rfl (any_of HT_.out (by kernel_rfl)) (fun _ _ _ h => h) (Or.inl ⟨by rfl, ?_⟩) ?_ ?_
                          rotate_left
                          · intro w'
                            go_simp
                            with_reducible rfl
                          rotate_left
                          · simp only [Act.put, List.setIfInBounds_toArray, List.set_cons_zero, List.set_cons_succ, i64_w, i32_w]
                            rfl
                          refine pure_ (i := 6) (N := some 17) (v := ?_) (a' := ?_) #[true, true, true, true, true, true, true, true, true, false, true, true, false, true, false, false, false, false] rfl rfl (any_of HT_.out (by kernel_rfl)) (fun _ _ _ h => h) (Or.inl ⟨by rfl, ?_⟩) ?_ ?_
                          rotate_left
                          · intro w'
                            go_simp
                            with_reducible rfl
                          rotate_left
                          · simp only [Act.put, List.setIfInBounds_toArray, List.set_cons_zero, List.set_cons_succ, i64_w, i32_w]
                            rfl
                          refine pure_ (i := 9) (N := some 20) (v := ?_) (a' := ?_) #[true, true, true, true, true, true, true, true, true, true, true, true, false, true, false, false, false, false] rfl rfl (any_of HT_.out (by kernel_rfl)) (fun _ _ _ h => h) (Or.inl ⟨by rfl, ?_⟩) ?_ ?_
                          rotate_left
                          · intro w'
                            go_simp
                            with_reducible rfl
                          rotate_left
                          · simp only [Act.put, List.setIfInBounds_toArray, List.set_cons_zero, List.set_cons_succ, i64_w, i32_w]
                            rfl
                          refine pure_ (i := 12) (N := some 23) (v := ?_) (a' := ?_) #[true, true, true, true, true, true, true, true, true, true, true, true, true, true, false, false, false, false] rfl rfl (any_of HT_.out (by kernel_rfl)) (fun _ _ _ h => h) (Or.inl ⟨by rfl, ?_⟩) ?_ ?_
                          rotate_left
                          · intro w'
                            go_simp
                            with_reducible rfl
                          rotate_left
                          · simp only [Act.put, List.setIfInBounds_toArray, List.set_cons_zero, List.set_cons_succ, i64_w, i32_w]
                            rfl
                          exact norm_ (by first | (simp only [putAll, Act.put, List.setIfInBounds_toArray, List.set_cons_zero, List.set_cons_succ]; done) | (simp only [putAll, Act.put, List.setIfInBounds_toArray, List.set_cons_zero, List.set_cons_succ]; rfl)) (hJ1_2_5_8_11 (v260) _ ⟨(by (with_reducible repeat (first | apply Kd.R_alloc | apply Kd.R_drewN | apply Kd.R_drew)); exact HO261.out), (by repeat (first | (with_reducible first | exact HB.out | apply below_alloc | apply pw_below_drewN | apply below_drew1) | exact HB.out))⟩)
                        · skip
                          refine goes_ Try.func29 (by kernel_rfl) rfl #[.string a4, .int .i64 2] (by rfl) rfl rfl (by (try simp only [List.map_toArray, List.map_cons, List.map_nil]); first | done | rfl | (simp only [List.length_drop, List.length_take]; rfl)) ?_
                          with_reducible refine (halberdlaw17_vec.calls a4 2 t269 _ A14.out).mono ?_
                          rintro e w24 ⟨rfl, hb⟩
                          refine ⟨_, rfl, ?_⟩
                          have n0_ := Aside0.mk (Kd.R_below (by (with_reducible repeat (first | apply Kd.R_alloc | apply Kd.R_drewN | apply Kd.R_drew)); exact HO261.out) hb)
                          have n1_ := Aside0.mk (below_step (by repeat (first | (with_reducible first | exact HB.out | apply below_alloc | apply pw_below_drewN | apply below_drew1) | exact HB.out)) hb)
                          clear HO261
                          clear HB
                          have HO261 := n0_
                          have HB := n1_
                          clear n0_ n1_
                          (try clear hb)
                          (try clear hb2)
                          (try clear hk)
                          (try clear hi)
                          refine hK.out _ _ trivial (fun hHeld => ?_)
                          clear hK K
                          refine norm_ (a' := ?_) ?_ ?_
                          rotate_left
                          · show Act.put _ (some 25) _ = _
                            simp only [Act.put, List.setIfInBounds_toArray, List.set_cons_zero, List.set_cons_succ, i64_w, i32_w]
                            rfl
                          exact norm_ (by first | (simp only [putAll, Act.put, List.setIfInBounds_toArray, List.set_cons_zero, List.set_cons_succ]; done) | (simp only [putAll, Act.put, List.setIfInBounds_toArray, List.set_cons_zero, List.set_cons_succ]; rfl)) (hJ1_5_8_11_14 (v260) _ ⟨(by (with_reducible repeat (first | apply Kd.R_alloc | apply Kd.R_drewN | apply Kd.R_drew)); exact HO261.out), (by repeat (first | (with_reducible first | exact HB.out | apply below_alloc | apply pw_below_drewN | apply below_drew1) | exact HB.out))⟩)
                    · skip
                      rintro v260 w23 ⟨h0_, h1_⟩
                      have n0_ : Aside0 (Kd.R (Kd.int .u8) 5 w23 w.heap.size (fun _ => True) v260 y259) := ⟨h0_⟩
                      have n1_ : Aside0 (Below w.heap.size w w23) := ⟨h1_⟩
                      clear HB
                      clear h0_ h1_
                      have HO261 := n0_
                      have HB := n1_
                      clear n0_ n1_
                      have hHeld := trivial
                      refine norm_ (a' := ?_) ?_ ?_
                      rotate_left
                      · simp only [putAll, Act.put, List.setIfInBounds_toArray, List.set_cons_zero, List.set_cons_succ]
                        rfl
                      refine one_ (i := 11) (N := some 22) #[true, true, true, true, true, true, true, true, true, true, true, true, false, true, false, false, false, false] rfl rfl (one_of HT_.out (by kernel_rfl)) (by decide) (fun K hK => ?_)
                      refine goes_ Try.func29 (by kernel_rfl) rfl #[.string a3, .int .i64 1] (by rfl) rfl rfl (by (try simp only [List.map_toArray, List.map_cons, List.map_nil]); first | done | rfl | (simp only [List.length_drop, List.length_take]; rfl)) ?_
                      with_reducible refine (halberdlaw17_vec.calls a3 1 t267 _ A12.out).mono ?_
                      rintro e w24 ⟨rfl, hb⟩
                      refine ⟨_, rfl, ?_⟩
                      have n0_ := Aside0.mk (Kd.R_below (by (with_reducible repeat (first | apply Kd.R_alloc | apply Kd.R_drewN | apply Kd.R_drew)); exact HO261.out) hb)
                      have n1_ := Aside0.mk (below_step (by repeat (first | (with_reducible first | exact HB.out | apply below_alloc | apply pw_below_drewN | apply below_drew1) | exact HB.out)) hb)
                      clear HO261
                      clear HB
                      have HO261 := n0_
                      have HB := n1_
                      clear n0_ n1_
                      (try clear hb)
                      (try clear hb2)
                      (try clear hk)
                      (try clear hi)
                      refine hK.out _ _ trivial (fun hHeld => ?_)
                      clear hK K
                      refine norm_ (a' := ?_) ?_ ?_
                      rotate_left
                      · show Act.put _ (some 22) _ = _
                        simp only [Act.put, List.setIfInBounds_toArray, List.set_cons_zero, List.set_cons_succ, i64_w, i32_w]
                        rfl
                      refine pure_ (i := 12) (N := some 23) (v := ?_) (a' := ?_) #[true, true, true, true, true, true, true, true, true, true, true, true, true, true, false, false, false, false] rfl rfl (any_of HT_.out (by kernel_rfl)) (fun _ _ _ h => h) (Or.inl ⟨by rfl, ?_⟩) ?_ ?_
                      rotate_left
                      · intro w'
                        go_simp
                        with_reducible rfl
                      rotate_left
                      · simp only [Act.put, List.setIfInBounds_toArray, List.set_cons_zero, List.set_cons_succ, i64_w, i32_w]
                        rfl
                      exact norm_ (by first | (simp only [putAll, Act.put, List.setIfInBounds_toArray, List.set_cons_zero, List.set_cons_succ]; done) | (simp only [putAll, Act.put, List.setIfInBounds_toArray, List.set_cons_zero, List.set_cons_succ]; rfl)) (hJ1_2_5_8_11 (v260) _ ⟨(by (with_reducible repeat (first | apply Kd.R_alloc | apply Kd.R_drewN | apply Kd.R_drew)); exact HO261.out), (by repeat (first | (with_reducible first | exact HB.out | apply below_alloc | apply pw_below_drewN | apply below_drew1) | exact HB.out))⟩)
                  · skip
                    rintro v260 w24 ⟨h0_, h1_⟩
                    have n0_ : Aside0 (Kd.R (Kd.int .u8) 5 w24 w.heap.size (fun _ => True) v260 y259) := ⟨h0_⟩
                    have n1_ : Aside0 (Below w.heap.size w w24) := ⟨h1_⟩
                    clear HB
                    clear h0_ h1_
                    have HO261 := n0_
                    have HB := n1_
                    clear n0_ n1_
                    have hHeld := trivial
                    refine norm_ (a' := ?_) ?_ ?_
                    rotate_left
                    · simp only [putAll, Act.put, List.setIfInBounds_toArray, List.set_cons_zero, List.set_cons_succ]
                      rfl
                    refine one_ (i := 2) (N := some 13) #[true, true, true, false, true, true, false, true, true, false, true, true, false, true, true, false, false, false] rfl rfl (one_of HT_.out (by kernel_rfl)) (by decide) (fun K hK => ?_)
                    have hcv25 := own_string (P := Try.prog) Try.underlying39 Try.underlying5 Try.underlying9 (Kd.own_of_R HO261.out)
                    refine value_ (w1 := ?_) (v := ?_) (by rfl) rfl ?_ ?_
                    rotate_left 2
                    · go_simp
                      constructor
                      · rfl
                      · rfl
                    clear hcv25
                    refine hK.out _ _ trivial (fun hHeld => ?_)
                    clear hK K
                    refine norm_ (a' := ?_) ?_ ?_
                    rotate_left
                    · show Act.put _ (some 13) _ = _
                      simp only [Act.put, List.setIfInBounds_toArray, List.set_cons_zero, List.set_cons_succ, i64_w, i32_w]
                      rfl
                    refine pure_ (i := 3) (N := some 14) (v := ?_) (a' := ?_) #[true, true, true, true, true, true, false, true, true, false, true, true, false, true, true, false, false, false] rfl rfl (any_of HT_.out (by kernel_rfl)) (fun _ _ _ h => h) (Or.inl ⟨by rfl, ?_⟩) ?_ ?_
                    rotate_left
                    · intro w'
                      go_simp
                      with_reducible rfl
                    rotate_left
                    · simp only [Act.put, List.setIfInBounds_toArray, List.set_cons_zero, List.set_cons_succ, i64_w, i32_w]
                      rfl
                    refine pure_ (i := 6) (N := some 17) (v := ?_) (a' := ?_) #[true, true, true, true, true, true, true, true, true, false, true, true, false, true, true, false, false, false] rfl rfl (any_of HT_.out (by kernel_rfl)) (fun _ _ _ h => h) (Or.inl ⟨by rfl, ?_⟩) ?_ ?_
                    rotate_left
                    · intro w'
                      go_simp
                      with_reducible rfl
                    rotate_left
                    · simp only [Act.put, List.setIfInBounds_toArray, List.set_cons_zero, List.set_cons_succ, i64_w, i32_w]
                      rfl
                    refine pure_ (i := 9) (N := some 20) (v := ?_) (a' := ?_) #[true, true, true, true, true, true, true, true, true, true, true, true, false, true, true, false, false, false] rfl rfl (any_of HT_.out (by kernel_rfl)) (fun _ _ _ h => h) (Or.inl ⟨by rfl, ?_⟩) ?_ ?_
                    rotate_left
                    · intro w'
                      go_simp
                      with_reducible rfl
                    rotate_left
                    · simp only [Act.put, List.setIfInBounds_toArray, List.set_cons_zero, List.set_cons_succ, i64_w, i32_w]
                      rfl
                    refine pure_ (i := 12) (N := some 23) (v := ?_) (a' := ?_) #[true, true, true, true, true, true, true, true, true, true, true, true, true, true, true, false, false, false] rfl rfl (any_of HT_.out (by kernel_rfl)) (fun _ _ _ h => h) (Or.inl ⟨by rfl, ?_⟩) ?_ ?_
                    rotate_left
                    · intro w'
                      go_simp
                      with_reducible rfl
                    rotate_left
                    · simp only [Act.put, List.setIfInBounds_toArray, List.set_cons_zero, List.set_cons_succ, i64_w, i32_w]
                      rfl
                    exact norm_ (by first | (simp only [putAll, Act.put, List.setIfInBounds_toArray, List.set_cons_zero, List.set_cons_succ]; done) | (simp only [putAll, Act.put, List.setIfInBounds_toArray, List.set_cons_zero, List.set_cons_succ]; rfl)) (hJ1_2_5_8_11_14 (v260) _ ⟨(by (with_reducible repeat (first | apply Kd.R_alloc | apply Kd.R_drewN | apply Kd.R_drew)); exact HO261.out), (by repeat (first | (with_reducible first | exact HB.out | apply below_alloc | apply pw_below_drewN | apply below_drew1) | exact HB.out))⟩)
                · skip
                  rintro v260 w24 ⟨h0_, h1_⟩
                  have n0_ : Aside0 (Kd.R (Kd.int .u8) 5 w24 w.heap.size (fun _ => True) v260 y259) := ⟨h0_⟩
                  have n1_ : Aside0 (Below w.heap.size w w24) := ⟨h1_⟩
                  clear HB
                  clear h0_ h1_
                  have HO261 := n0_
                  have HB := n1_
                  clear n0_ n1_
                  have hHeld := trivial
                  refine norm_ (a' := ?_) ?_ ?_
                  rotate_left
                  · simp only [putAll, Act.put, List.setIfInBounds_toArray, List.set_cons_zero, List.set_cons_succ]
                    rfl
                  refine one_ (i := 14) (N := some 25) #[true, true, true, true, true, true, true, true, true, true, true, true, true, true, true, false, false, false] rfl rfl (one_of HT_.out (by kernel_rfl)) (by decide) (fun K hK => ?_)
                  refine goes_ Try.func29 (by kernel_rfl) rfl #[.string a4, .int .i64 2] (by rfl) rfl rfl (by (try simp only [List.map_toArray, List.map_cons, List.map_nil]); first | done | rfl | (simp only [List.length_drop, List.length_take]; rfl)) ?_
                  with_reducible refine (halberdlaw17_vec.calls a4 2 t269 _ A14.out).mono ?_
                  rintro e w25 ⟨rfl, hb⟩
                  refine ⟨_, rfl, ?_⟩
                  have n0_ := Aside0.mk (Kd.R_below (by (with_reducible repeat (first | apply Kd.R_alloc | apply Kd.R_drewN | apply Kd.R_drew)); exact HO261.out) hb)
                  have n1_ := Aside0.mk (below_step (by repeat (first | (with_reducible first | exact HB.out | apply below_alloc | apply pw_below_drewN | apply below_drew1) | exact HB.out)) hb)
                  clear HO261
                  clear HB
                  have HO261 := n0_
                  have HB := n1_
                  clear n0_ n1_
                  (try clear hb)
                  (try clear hb2)
                  (try clear hk)
                  (try clear hi)
                  refine hK.out _ _ trivial (fun hHeld => ?_)
                  clear hK K
                  refine norm_ (a' := ?_) ?_ ?_
                  rotate_left
                  · show Act.put _ (some 25) _ = _
                    simp only [Act.put, List.setIfInBounds_toArray, List.set_cons_zero, List.set_cons_succ, i64_w, i32_w]
                    rfl
                  exact norm_ (by first | (simp only [putAll, Act.put, List.setIfInBounds_toArray, List.set_cons_zero, List.set_cons_succ]; done) | (simp only [putAll, Act.put, List.setIfInBounds_toArray, List.set_cons_zero, List.set_cons_succ]; rfl)) (hJ1_2_5_8_11_14 (v260) _ ⟨(by (with_reducible repeat (first | apply Kd.R_alloc | apply Kd.R_drewN | apply Kd.R_drew)); exact HO261.out), (by repeat (first | (with_reducible first | exact HB.out | apply below_alloc | apply pw_below_drewN | apply below_drew1) | exact HB.out))⟩)
              rintro v260 w25 ⟨h0_, h1_⟩
              have n0_ : Aside0 (Kd.R (Kd.int .u8) 5 w25 w.heap.size (fun _ => True) v260 y259) := ⟨h0_⟩
              have n1_ : Aside0 (Below w.heap.size w w25) := ⟨h1_⟩
              clear HB
              clear h0_ h1_
              have HO261 := n0_
              have HB := n1_
              clear n0_ n1_
              have hHeld := trivial
              refine norm_ (a' := ?_) ?_ ?_
              rotate_left
              · simp only [putAll, Act.put, List.setIfInBounds_toArray, List.set_cons_zero, List.set_cons_succ]
                rfl
              refine pure_ (i := 15) (N := some 26) (v := ?_) (a' := ?_) #[true, true, true, true, true, true, true, true, true, true, true, true, true, true, true, true, false, false] rfl rfl (any_of HT_.out (by kernel_rfl)) (fun _ _ _ h => h) (Or.inl ⟨by rfl, ?_⟩) ?_ ?_
              rotate_left
              · intro w'
                go_simp
                with_reducible rfl
              rotate_left
              · simp only [Act.put, List.setIfInBounds_toArray, List.set_cons_zero, List.set_cons_succ, i64_w, i32_w]
                rfl
              refine one_ (i := 16) (N := some 27) #[true, true, true, true, true, true, true, true, true, true, true, true, true, true, true, true, true, false] rfl rfl (one_of HT_.out (by kernel_rfl)) (by decide) (fun K hK => ?_)
              refine goes_ Try.func28 (by kernel_rfl) rfl #[.int .i64 1, .string ys270] (by rfl) rfl rfl (by (try simp only [List.map_toArray, List.map_cons, List.map_nil]); first | done | rfl | (simp only [List.length_drop, List.length_take]; rfl)) ?_
              with_reducible refine (halberdlaw17_made.calls 1 ys270 t271 _ A16.out).mono ?_
              rintro e w26 ⟨rfl, hb⟩
              refine ⟨_, rfl, ?_⟩
              have n0_ := Aside0.mk (Kd.R_below (by (with_reducible repeat (first | apply Kd.R_alloc | apply Kd.R_drewN | apply Kd.R_drew)); exact HO261.out) hb)
              have n1_ := Aside0.mk (below_step (by repeat (first | (with_reducible first | exact HB.out | apply below_alloc | apply pw_below_drewN | apply below_drew1) | exact HB.out)) hb)
              clear HO261
              clear HB
              have HO261 := n0_
              have HB := n1_
              clear n0_ n1_
              (try clear hb)
              (try clear hb2)
              (try clear hk)
              (try clear hi)
              refine hK.out _ _ trivial (fun hHeld => ?_)
              clear hK K
              refine norm_ (a' := ?_) ?_ ?_
              rotate_left
              · show Act.put _ (some 27) _ = _
                simp only [Act.put, List.setIfInBounds_toArray, List.set_cons_zero, List.set_cons_succ, i64_w, i32_w]
                rfl
              refine pure_ (i := 17) (N := some 10) (v := ?_) (a' := ?_) #[true, true, true, true, true, true, true, true, true, true, true, true, true, true, true, true, true, true] rfl rfl (any_of HT_.out (by kernel_rfl)) (fun _ _ _ h => h) (Or.inl ⟨by rfl, ?_⟩) ?_ ?_
              rotate_left
              · intro w'
                go_simp
                with_reducible rfl
              rotate_left
              · simp only [Act.put, List.setIfInBounds_toArray, List.set_cons_zero, List.set_cons_succ, i64_w, i32_w]
                rfl
              refine done_ (done_of HT_.out (by kernel_rfl)) ?_
              try go_wp2
              go_ret
              exact ⟨by first | rfl | (simp [errW_none, errW_some] <;> rfl) | (simp [*, errW_none, errW_some] <;> rfl), by repeat (first | (with_reducible first | exact HB.out | apply below_alloc | apply pw_below_drewN | apply below_drew1) | exact HB.out)⟩
            · rw [if_neg c15] at H
              exact absurd H (by simp)
          · rw [if_neg c13] at H
            exact absurd H (by simp)
        · rw [if_neg c11] at H
          exact absurd H (by simp)
      · rw [if_neg c9] at H
        exact absurd H (by simp)
    · rw [if_neg c7] at H
      exact absurd H (by simp)
  · rw [if_neg c6] at H
    exact absurd H (by simp)
end Go.Proofs.Ytlkebjkpmiehcaa.X
end
section
namespace Go.Proofs.Ytlkebjkpmiehcaa.Ms
open Go.RowKit Go.Proofs.YtlkebjkpmiehcaaW.PrintWords Go.Proofs.YtlkebjkpmiehcaaW.PrintLast Go.Proofs.YtlkebjkpmiehcaaW.PrintMore Go.Proofs.Ytlkebjkpmiehcaa.X Go.Proofs.Ytlkebjkpmiehcaa.Iv
set_option linter.unusedVariables false
set_option linter.unusedSimpArgs false
theorem toNat_ofInt64 (x : Int) : (BitVec.ofInt 64 x).toNat = (x % 18446744073709551616).toNat := by
  rw [BitVec.toNat_ofInt]
  have : ((2 ^ 64 : Nat) : Int) = 18446744073709551616 := rfl
  rw [this]
theorem and_mask (x : Int) (i : Nat) (hi : i ≤ 62) : Go.bits .and .i64 x ((2 ^ i - 1 : Nat) : Int) = x % ((2 ^ i : Nat) : Int) := by
  have hp : 0 < 2 ^ i := Nat.two_pow_pos i
  have hq : 2 ^ i ≤ 4611686018427387904 := by
    have : (4611686018427387904 : Nat) = 2 ^ 62 := by decide
    rw [this]; exact Nat.pow_le_pow_right (by decide) hi
  have hd : ((2 ^ i : Nat) : Int) ∣ 18446744073709551616 := by
    have h1 : (2 ^ i : Nat) ∣ 2 ^ 64 := Nat.pow_dvd_pow 2 (by omega)
    have h2 : ((2 ^ 64 : Nat) : Int) = 18446744073709551616 := rfl
    rw [← h2]
    exact Int.natCast_dvd_natCast.mpr h1
  have e2 : (BitVec.ofInt 64 x &&& BitVec.ofInt 64 ((2 ^ i - 1 : Nat) : Int)).toNat = (x % 18446744073709551616).toNat % 2 ^ i := by
    have hm : 2 ^ i - 1 < 2 ^ 64 := by
      have : (2 : Nat) ^ 64 = 18446744073709551616 := by decide
      omega
    rw [BitVec.toNat_and, BitVec.ofInt_natCast, BitVec.toNat_ofNat, Nat.mod_eq_of_lt hm, toNat_ofInt64, Nat.and_two_pow_sub_one_eq_mod]
  have e0 : Go.bits .and .i64 x ((2 ^ i - 1 : Nat) : Int) = IntKind.i64.wrap (((BitVec.ofInt 64 x &&& BitVec.ofInt 64 ((2 ^ i - 1 : Nat) : Int)).toNat : Nat) : Int) := rfl
  rw [e0, e2]
  generalize 2 ^ i = m at *
  have hb := Int.emod_nonneg x (b := (m : Int)) (by omega)
  have hl := Int.emod_lt_of_pos x (b := (m : Int)) (by omega)
  have hn := Int.emod_nonneg x (b := 18446744073709551616) (by decide)
  have hz := Int.emod_emod_of_dvd x hd
  rw [Int.natCast_emod, Int.toNat_of_nonneg hn, hz, Go.Proofs.Ytlkebjkpmiehcaa.Pure.wraps_i64 _ hb (by omega)]
theorem and_7 (x : Int) : Go.bits .and .i64 x 7 = x % 8 := and_mask x 3 (by decide)
theorem ob_cat {oi : Oper} {a : Act} {w : World} {x y : Operand} {s t : ByteArray} (ho : oi.op = .binOp .add 9 x y 9) (hx : a.eval x = .string s) (hy : a.eval y = .string t) (hz : s.size + t.size ≤ 9223372036854775807) : (execOp a.eval oi).run Try.prog w = .ok (.value (.string (s ++ t))) w := by
  have c1 := eq_true hz
  have c2 : (9223372036854775807 < s.size + t.size) = False := eq_false (Nat.not_lt.2 hz)
  unfold execOp
  simp only [ho, hx, hy]
  first | (go_simp; done) | (go_simp; rfl)
end Go.Proofs.Ytlkebjkpmiehcaa.Ms
end
section
namespace Go.Proofs.Ytlkebjkpmiehcaa.Ms
open Go.RowKit Go.Proofs.YtlkebjkpmiehcaaW.PrintWords Go.Proofs.YtlkebjkpmiehcaaW.PrintLast Go.Proofs.YtlkebjkpmiehcaaW.PrintMore Go.Proofs.Ytlkebjkpmiehcaa.X Go.Proofs.Ytlkebjkpmiehcaa.Iv
set_option linter.unusedVariables false
set_option linter.unusedSimpArgs false
section
variable {ops : Array Oper} {rest : List Oper} {o : Oper} {a : Act} {Q : Exit → Act → World → Prop} {w : World}
theorem ldA {ty : TypeId} {x : Operand} (hgd : o.guard = none) (ho : o.op = .load ty x) {p : Addr} (hx : a.eval x = .pointer (some p))
    {d : TypeDesc} (hu : Try.prog.underlying ty = some d) (hd : (match d with | .struct _ | .array _ _ => true | _ => false) = false) {v : Value} (hc : w.cell? p = some v) (H : wpList Try.prog ops Q rest (a.put o.dst v) w) : wpList Try.prog ops Q (o :: rest) a w := by
  refine Kd.event_run hgd ?_ H
  unfold execOp
  simp [ho, hx, Instr.loadAt, Instr.sureAddr, Sem.run_bind, loadVar, isAgg_no hu hd, load, Sem.run, hc]
theorem catV (s t u : ByteArray) (hu : s ++ t = u) (hz : s.size + t.size ≤ 9223372036854775807) {x y : Operand} (hgd : o.guard = none) (ho : o.op = .binOp .add 9 x y 9) (hx : a.eval x = .string s) (hy : a.eval y = .string t)
    (H : wpList Try.prog ops Q rest (a.put o.dst (.string u)) w) : wpList Try.prog ops Q (o :: rest) a w := by
  rw [← hu] at H
  exact Kd.event_run hgd (ob_cat ho hx hy hz) H
theorem eqS {oi : Oper} {a : Act} {w : World} {x y : Operand} {s : ByteArray} (ho : oi.op = .binOp .eql 9 x y 9) (hx : a.eval x = .string s) (hy : a.eval y = .string s) : (execOp a.eval oi).run Try.prog w = .ok (.value (.bool true)) w := by
  unfold execOp
  simp only [ho, hx, hy]
  go_simp
end
set_option maxRecDepth 100000 in
set_option maxHeartbeats 8000000 in
theorem long_yes (x y : Int) (k : Nat) (w : World) (hy : Go.bits .and .i64 x 7 = y) (hk : (k : Int) = 65520 + y) (hk0 : 65520 ≤ k) (hk1 : k ≤ 65527) (hc : k ≤ 65523) : Calls Try.prog 10 #[.int .i64 x] w fun ex w' => ex = .returned (.bool true) ∧ Below w.heap.size w w' := by
  have HB := Aside0.mk (Below.refl w.heap.size w)
  have hz1 : IntKind.i64.wrap (65520 + y) = (k : Int) := by rw [← hk]; exact IntWalk.i64_in _ (by omega)
  have hz2 : IntKind.i64.wrap ((k : Int) + 13) = (k : Int) + 13 := IntWalk.i64_in _ (by omega)
  have hp1 : decide ((k : Int) + 13 ≤ 65536) = true := decide_eq_true (by omega)
  obtain ⟨Z, hZ⟩ : ∃ Z, strOfNums (List.replicate (k : Int).toNat 0) = Z := ⟨_, rfl⟩
  have hs : Z.size = k := by rw [← hZ, Go.Proofs.Ytlkebjkpmiehcaa.Pure.strOf_size, List.length_replicate, Int.toNat_natCast]
  have hsz : (Z.size : Int) = (k : Int) := by rw [hs]
  have h1 : 1 ≤ Z.size := by omega
  have h2 : Z.size ≤ 65523 := by omega
  have h3 : Z.size ≤ 70000 := by omega
  have hn1 := nil_empty
  have HZ := Aside0.mk hZ
  have KS := Aside0.mk hs
  have K1 := Aside0.mk h1
  have K2 := Aside0.mk h2
  have K3 := Aside0.mk h3
  have hzc := longC_size Z
  have hzb := longB_size Z
  have HVC := Aside0.mk (show Z.size ≤ 140737488351232 from by omega)
  have HVL := Aside0.mk (show (longC Z).size ≤ 140737488351232 from by omega)
  have HVB := Aside0.mk (show (longB Z).size ≤ 140737488351232 from by omega)
  have HC1 := Aside0.mk (show (V 3 Z).size + (⟨#[0, 0]⟩ : ByteArray).size ≤ 9223372036854775807 from by rw [V_size]; show 3 + Z.size + 2 ≤ _; omega)
  have HC2 := Aside0.mk (show (⟨#[0]⟩ : ByteArray).size + (V 3 (longC Z)).size ≤ 9223372036854775807 from by rw [V_size]; show 1 + (3 + (longC Z).size) ≤ _; omega)
  have HR := Aside0.mk (show Z.size ≤ 70000 from by omega)
  have HI0 := Aside0.mk hk0
  have HI1 := Aside0.mk hk1
  have hS0 := long_get h1 h2
  have hSz := framedV_size 11 (longB Z)
  obtain ⟨S, hS⟩ : ∃ S, framedV 11 (longB Z) = S := ⟨_, rfl⟩
  rw [hS] at hS0 hSz
  have GS := Aside0.mk hS0
  have FS := Aside0.mk hS
  have ZS := Aside0.mk (show S.size ≤ 140737488351232 from by omega)
  clear hs h1 h2 h3 hzc hzb hk hk0 hk1 hc hZ hS0 hS hSz
  go_enter Try.func10, Try.ntmps10
  go_wp2_with (first
    | (go_at_call 22; (with_reducible refine (awake_c _).mono ?_); rintro e_ w_ ⟨rfl, b_⟩; have n0_ := Aside0.mk (below_step HB.out b_); clear HB; have HB := n0_; clear n0_; clear b_)
    | ((with_reducible refine gate_dst (N := 17) rfl ?_); refine Kd.R_make (Kd.int .u8) _ 5 rfl (N := 17) rfl 39 _ _ rfl (k : Int) rfl rfl Try.underlying39 (.int .u8 0) 1 info5 rfl (by decide) (by omega) 0 (ok := fun _ => True) (okp := fun _ => True) rfl (fun _ hk => hk) trivial (by omega) (by have := HI1.out; omega) (Below.refl _ _) (Nat.le_refl _) ?_; intro v17 w17 ho hb hg_ hn_; clear hg_ hn_; have hcv := own_string (P := Try.prog) Try.underlying39 Try.underlying5 Try.underlying9 (Kd.own_of_R ho); rw [HZ.out] at hcv; clear ho; have n0_ := Aside0.mk (below_step HB.out hb); clear HB; have HB := n0_; clear n0_; clear hb)
    | ((with_reducible refine gate_dst (N := 19) rfl ?_); refine Kd.R_lit Kd.string _ 9 ?hg (N := 19) ?hd (xs := [Z]) (inner := [.string Z]) (ok := fun _ => True) (okp := fun _ => True) ?hr ?hp (fun _ hk => hk) trivial (Below.refl _ _) (Nat.le_refl _) (by show 1 ≤ _; omega) ?_; (case hd => rfl); (case hg => rfl); (case hr => show _ = Result.ok (Next.value (Value.slice _ 1 1)) _; first | (go_simp; done) | (go_simp; rfl)); (case hp => exact (Reps.one (show Kd.M Kd.string _ _ _ Z [.string Z] from rfl) (Reps.none _ _))); intro v9 w9 ho9 hb9 hg9 hn9; clear hg9 hn9; obtain ⟨A9, c9, h9, hl9, C9⟩ := Kd.R_reads ho9; subst h9; have HCZ := Aside0.mk C9; have HLZ := Aside0.mk hl9; have n0_ := Aside0.mk (below_step HB.out hb9); clear HB; have HB := n0_; clear n0_; clear ho9 hb9 C9 hl9)
    | ((with_reducible refine gate_callee (f := 23) rfl ?_); refine goesL_ (some 21) rfl rfl Try.func23 (by kernel_rfl) rfl #[.agg (cells (longM Z) (hdL A9 c9))] rfl (by (try simp only [List.map_toArray, List.map_cons, List.map_nil]); first | done | rfl) ?_; (with_reducible refine (long_put K1.out K2.out HCZ.out HLZ.out).mono ?_); rintro e_ w_ ⟨rfl, b_⟩; refine ⟨_, rfl, ?_⟩; rw [FS.out]; have n0_ := Aside0.mk (below_step HB.out b_); clear HB; have HB := n0_; clear n0_; clear b_)
    | ((with_reducible refine gate_dst (N := 28) rfl ?_); refine Kd.R_make (Kd.int .u8) _ 5 rfl (N := 28) rfl 39 _ _ rfl (k : Int) rfl rfl Try.underlying39 (.int .u8 0) 1 info5 rfl (by decide) (by omega) 0 (ok := fun _ => True) (okp := fun _ => True) rfl (fun _ hk => hk) trivial (by omega) (by have := HI1.out; omega) (Below.refl _ _) (Nat.le_refl _) ?_; intro v28 w28 ho hb hg_ hn_; clear hg_ hn_; have hcv := own_string (P := Try.prog) Try.underlying39 Try.underlying5 Try.underlying9 (Kd.own_of_R ho); rw [HZ.out] at hcv; clear ho; have n0_ := Aside0.mk (below_step HB.out hb); clear HB; have HB := n0_; clear n0_; clear hb)
    | ((with_reducible refine gate_callee (f := 29) rfl ?_); refine goesL_ (some 30) rfl rfl Try.func29 (by kernel_rfl) rfl #[.string Z, .int .i64 3] rfl (by (try simp only [List.map_toArray, List.map_cons, List.map_nil]); first | done | rfl) ?_; (with_reducible refine (halberdlaw17_vec.calls Z 3 (V 3 Z) _ (vec3 Z HVC.out)).mono ?_); rintro e_ w_ ⟨rfl, b_⟩; refine ⟨_, rfl, ?_⟩; have n0_ := Aside0.mk (below_step HB.out b_); clear HB; have HB := n0_; clear n0_; clear b_)
    | ((with_reducible refine gate_dst (N := 31) rfl ?_); refine catV (V 3 Z) ⟨#[0, 0]⟩ (longC Z) rfl HC1.out rfl rfl rfl rfl ?_)
    | ((with_reducible refine gate_callee (f := 29) rfl ?_); refine goesL_ (some 32) rfl rfl Try.func29 (by kernel_rfl) rfl #[.string (longC Z), .int .i64 3] rfl (by (try simp only [List.map_toArray, List.map_cons, List.map_nil]); first | done | rfl) ?_; (with_reducible refine (halberdlaw17_vec.calls (longC Z) 3 (V 3 (longC Z)) _ (vec3 (longC Z) HVL.out)).mono ?_); rintro e_ w_ ⟨rfl, b_⟩; refine ⟨_, rfl, ?_⟩; have n0_ := Aside0.mk (below_step HB.out b_); clear HB; have HB := n0_; clear n0_; clear b_)
    | ((with_reducible refine gate_dst (N := 33) rfl ?_); refine catV ⟨#[0]⟩ (V 3 (longC Z)) (longB Z) rfl HC2.out rfl rfl rfl rfl ?_)
    | ((with_reducible refine gate_callee (f := 28) rfl ?_); refine goesL_ (some 34) rfl rfl Try.func28 (by kernel_rfl) rfl #[.int .i64 11, .string (longB Z)] rfl (by (try simp only [List.map_toArray, List.map_cons, List.map_nil]); first | done | rfl) ?_; (with_reducible refine (halberdlaw17_made.calls 11 (longB Z) (framedV 11 (longB Z)) _ (made_ok 11 (longB Z) HVB.out)).mono ?_); rintro e_ w_ ⟨rfl, b_⟩; refine ⟨_, rfl, ?_⟩; rw [FS.out]; have n0_ := Aside0.mk (below_step HB.out b_); clear HB; have HB := n0_; clear n0_; clear b_)
    | ((with_reducible refine gate_callee (f := 24) rfl ?_); refine goesL_ (some 37) rfl rfl Try.func24 (by kernel_rfl) rfl #[.string S] rfl (by (try simp only [List.map_toArray, List.map_cons, List.map_nil]); first | done | rfl) ?_; (with_reducible refine (get_m S (longM Z) _ ZS.out GS.out).mono ?_); rintro e_ w_ ⟨hm, rfl, r_, b_⟩; refine ⟨_, rfl, ?_⟩; have n0_ := Aside0.mk (below_step HB.out b_); clear HB; have HB := n0_; clear n0_; obtain ⟨A3, c3, A5, c5, A6, c6, A7, c7, A8, c8, A9', c9', A10, c10, A11, c11, A13, c13, A14, c14⟩ := hm; have HC := Aside0.mk r_.r14; clear b_ r_)
    | ((with_reducible refine gate_dst (N := 8) rfl ?_); refine alloc49' rfl rfl ?_; intro g8 eg w_ h2 b2; have HZ8 := Aside0.mk h2; have HE8 := Aside0.mk (show w.heap.size ≤ g8 from by have := HB.out.size; omega); have HE9 := Aside0.mk (Nat.le_of_eq eg.symm); have HBG := Aside0.mk b2; have n0_ := Aside0.mk (below_step HB.out b2); clear HB; have HB := n0_; clear n0_; clear h2 b2 eg)
    | ((with_reducible refine gate_store (p := 8) rfl ?_); refine stRowN (cs := cells (longM Z) ⟨A3, c3, A5, c5, A6, c6, A7, c7, A8, c8, A9', c9', A10, c10, A11, c11, A13, c13, A14, c14⟩) sz49 rfl rfl rfl rfl HZ8.out rfl rfl (cells_one _ _) ?_; intro w_ h3 b3 k3; have HX := Aside0.mk h3; have n0_ := Aside0.mk (HB.out.trans (b3 _ HE8.out)); clear HB; have HB := n0_; clear n0_; have n1_ := Aside0.mk (Kd.C_below HC.out (HBG.out.trans (b3 _ HE9.out))); clear HC; have HC := n1_; clear n1_; clear h3 b3 k3)
    | (go_at_call 18; (with_reducible refine (halberdlaw0_Num.calls _ _ _ (num_f _)).mono ?_); rintro ex_ wx_ ⟨rfl, d_⟩; have n0_ := Aside0.mk (below_step HB.out d_.below); clear HB; have HB := n0_; clear n0_; have n1_ := Aside0.mk ((d_.below.block g8 (blk_lt HX.out)).trans HX.out); clear HX; have HX := n1_; clear n1_; have n1_ := Aside0.mk (Kd.C_below HC.out d_.below); clear HC; have HC := n1_; clear n1_; clear d_)
    | ((with_reducible refine gate_dst (N := 50) rfl ?_); refine gate_guard rfl ?_; refine Kd.event_run rfl (eqS rfl rfl rfl) ?_)
    | ((with_reducible refine gate_dst (N := 77) rfl ?_); refine gate_guard rfl ?_; refine ld (v := .slice A14 1 c14) rfl rfl rfl HX.out Try.underlying47 rfl rfl ?_)
    | ((with_reducible refine gate_dst (N := 83) rfl ?_); refine gate_guard rfl ?_; refine ld (v := .slice A14 1 c14) rfl rfl rfl HX.out Try.underlying47 rfl rfl ?_; obtain ⟨ad, e0, hx0⟩ := Kd.at_string HC.out 0 (by omega) (by show (0 : Int) < ((1 : Nat) : Int); omega); cases e0; (have e3_ : ad.add (Int.toNat 0) = ad := by simp [Addr.add]); (rw [e3_] at hx0; have HAD := Aside0.mk (show _ = some (Value.string Z) from hx0); clear hx0 e3_))
    | ((with_reducible refine gate_dst (N := 85) rfl ?_); refine gate_guard rfl ?_; refine ldA (v := .string Z) rfl rfl rfl Try.underlying9 rfl HAD.out ?_))
  go_ret
  exact ⟨by first | rfl | simp, HB.out⟩
set_option maxRecDepth 100000 in
set_option maxHeartbeats 8000000 in
theorem long_no (x y : Int) (k : Nat) (w : World) (hy : Go.bits .and .i64 x 7 = y) (hk : (k : Int) = 65520 + y) (hk0 : 65520 ≤ k) (hk1 : k ≤ 65527) (hc : 65523 < k) : Calls Try.prog 10 #[.int .i64 x] w fun ex w' => ex = .returned (.bool true) ∧ Below w.heap.size w w' := by
  have HB := Aside0.mk (Below.refl w.heap.size w)
  have hz1 : IntKind.i64.wrap (65520 + y) = (k : Int) := by rw [← hk]; exact IntWalk.i64_in _ (by omega)
  have hz2 : IntKind.i64.wrap ((k : Int) + 13) = (k : Int) + 13 := IntWalk.i64_in _ (by omega)
  have hp1 : decide ((k : Int) + 13 ≤ 65536) = false := decide_eq_false (by omega)
  obtain ⟨Z, hZ⟩ : ∃ Z, strOfNums (List.replicate (k : Int).toNat 0) = Z := ⟨_, rfl⟩
  have hs : Z.size = k := by rw [← hZ, Go.Proofs.Ytlkebjkpmiehcaa.Pure.strOf_size, List.length_replicate, Int.toNat_natCast]
  have hsz : (Z.size : Int) = (k : Int) := by rw [hs]
  have h1 : 1 ≤ Z.size := by omega
  have h2 : 65523 < Z.size := by omega
  have h3 : Z.size ≤ 70000 := by omega
  have hn1 := nil_empty
  have HZ := Aside0.mk hZ
  have KS := Aside0.mk hs
  have K1 := Aside0.mk h1
  have K2 := Aside0.mk h2
  have K3 := Aside0.mk h3
  have hzc := longC_size Z
  have hzb := longB_size Z
  have HVC := Aside0.mk (show Z.size ≤ 140737488351232 from by omega)
  have HVL := Aside0.mk (show (longC Z).size ≤ 140737488351232 from by omega)
  have HVB := Aside0.mk (show (longB Z).size ≤ 140737488351232 from by omega)
  have HC1 := Aside0.mk (show (V 3 Z).size + (⟨#[0, 0]⟩ : ByteArray).size ≤ 9223372036854775807 from by rw [V_size]; show 3 + Z.size + 2 ≤ _; omega)
  have HC2 := Aside0.mk (show (⟨#[0]⟩ : ByteArray).size + (V 3 (longC Z)).size ≤ 9223372036854775807 from by rw [V_size]; show 1 + (3 + (longC Z).size) ≤ _; omega)
  have HR := Aside0.mk (show Z.size ≤ 70000 from by omega)
  have HI0 := Aside0.mk hk0
  have HI1 := Aside0.mk hk1
  have hS0 := long_not h2
  have hSz := framedV_size 11 (longB Z)
  obtain ⟨S, hS⟩ : ∃ S, framedV 11 (longB Z) = S := ⟨_, rfl⟩
  rw [hS] at hS0 hSz
  have GS := Aside0.mk hS0
  have FS := Aside0.mk hS
  have ZS := Aside0.mk (show S.size ≤ 140737488351232 from by omega)
  clear hs h1 h2 h3 hzc hzb hk hk0 hk1 hc hZ hS0 hS hSz
  go_enter Try.func10, Try.ntmps10
  go_wp2_with (first
    | (go_at_call 22; (with_reducible refine (awake_c _).mono ?_); rintro e_ w_ ⟨rfl, b_⟩; have n0_ := Aside0.mk (below_step HB.out b_); clear HB; have HB := n0_; clear n0_; clear b_)
    | ((with_reducible refine gate_dst (N := 17) rfl ?_); refine Kd.R_make (Kd.int .u8) _ 5 rfl (N := 17) rfl 39 _ _ rfl (k : Int) rfl rfl Try.underlying39 (.int .u8 0) 1 info5 rfl (by decide) (by omega) 0 (ok := fun _ => True) (okp := fun _ => True) rfl (fun _ hk => hk) trivial (by omega) (by have := HI1.out; omega) (Below.refl _ _) (Nat.le_refl _) ?_; intro v17 w17 ho hb hg_ hn_; clear hg_ hn_; have hcv := own_string (P := Try.prog) Try.underlying39 Try.underlying5 Try.underlying9 (Kd.own_of_R ho); rw [HZ.out] at hcv; clear ho; have n0_ := Aside0.mk (below_step HB.out hb); clear HB; have HB := n0_; clear n0_; clear hb)
    | ((with_reducible refine gate_dst (N := 19) rfl ?_); refine Kd.R_lit Kd.string _ 9 ?hg (N := 19) ?hd (xs := [Z]) (inner := [.string Z]) (ok := fun _ => True) (okp := fun _ => True) ?hr ?hp (fun _ hk => hk) trivial (Below.refl _ _) (Nat.le_refl _) (by show 1 ≤ _; omega) ?_; (case hd => rfl); (case hg => rfl); (case hr => show _ = Result.ok (Next.value (Value.slice _ 1 1)) _; first | (go_simp; done) | (go_simp; rfl)); (case hp => exact (Reps.one (show Kd.M Kd.string _ _ _ Z [.string Z] from rfl) (Reps.none _ _))); intro v9 w9 ho9 hb9 hg9 hn9; clear hg9 hn9; obtain ⟨A9, c9, h9, hl9, C9⟩ := Kd.R_reads ho9; subst h9; have HCZ := Aside0.mk C9; have HLZ := Aside0.mk hl9; have n0_ := Aside0.mk (below_step HB.out hb9); clear HB; have HB := n0_; clear n0_; clear ho9 hb9 C9 hl9)
    | ((with_reducible refine gate_callee (f := 23) rfl ?_); refine goesL_ (some 21) rfl rfl Try.func23 (by kernel_rfl) rfl #[.agg (cells (longM Z) (hdL A9 c9))] rfl (by (try simp only [List.map_toArray, List.map_cons, List.map_nil]); first | done | rfl) ?_; (with_reducible refine (long_nput K2.out K3.out HCZ.out HLZ.out).mono ?_); rintro e_ w_ ⟨rfl, b_⟩; refine ⟨_, rfl, ?_⟩; have n0_ := Aside0.mk (below_step HB.out b_); clear HB; have HB := n0_; clear n0_; clear b_)
    | ((with_reducible refine gate_dst (N := 28) rfl ?_); refine Kd.R_make (Kd.int .u8) _ 5 rfl (N := 28) rfl 39 _ _ rfl (k : Int) rfl rfl Try.underlying39 (.int .u8 0) 1 info5 rfl (by decide) (by omega) 0 (ok := fun _ => True) (okp := fun _ => True) rfl (fun _ hk => hk) trivial (by omega) (by have := HI1.out; omega) (Below.refl _ _) (Nat.le_refl _) ?_; intro v28 w28 ho hb hg_ hn_; clear hg_ hn_; have hcv := own_string (P := Try.prog) Try.underlying39 Try.underlying5 Try.underlying9 (Kd.own_of_R ho); rw [HZ.out] at hcv; clear ho; have n0_ := Aside0.mk (below_step HB.out hb); clear HB; have HB := n0_; clear n0_; clear hb)
    | ((with_reducible refine gate_callee (f := 29) rfl ?_); refine goesL_ (some 30) rfl rfl Try.func29 (by kernel_rfl) rfl #[.string Z, .int .i64 3] rfl (by (try simp only [List.map_toArray, List.map_cons, List.map_nil]); first | done | rfl) ?_; (with_reducible refine (halberdlaw17_vec.calls Z 3 (V 3 Z) _ (vec3 Z HVC.out)).mono ?_); rintro e_ w_ ⟨rfl, b_⟩; refine ⟨_, rfl, ?_⟩; have n0_ := Aside0.mk (below_step HB.out b_); clear HB; have HB := n0_; clear n0_; clear b_)
    | ((with_reducible refine gate_dst (N := 31) rfl ?_); refine catV (V 3 Z) ⟨#[0, 0]⟩ (longC Z) rfl HC1.out rfl rfl rfl rfl ?_)
    | ((with_reducible refine gate_callee (f := 29) rfl ?_); refine goesL_ (some 32) rfl rfl Try.func29 (by kernel_rfl) rfl #[.string (longC Z), .int .i64 3] rfl (by (try simp only [List.map_toArray, List.map_cons, List.map_nil]); first | done | rfl) ?_; (with_reducible refine (halberdlaw17_vec.calls (longC Z) 3 (V 3 (longC Z)) _ (vec3 (longC Z) HVL.out)).mono ?_); rintro e_ w_ ⟨rfl, b_⟩; refine ⟨_, rfl, ?_⟩; have n0_ := Aside0.mk (below_step HB.out b_); clear HB; have HB := n0_; clear n0_; clear b_)
    | ((with_reducible refine gate_dst (N := 33) rfl ?_); refine catV ⟨#[0]⟩ (V 3 (longC Z)) (longB Z) rfl HC2.out rfl rfl rfl rfl ?_)
    | ((with_reducible refine gate_callee (f := 28) rfl ?_); refine goesL_ (some 34) rfl rfl Try.func28 (by kernel_rfl) rfl #[.int .i64 11, .string (longB Z)] rfl (by (try simp only [List.map_toArray, List.map_cons, List.map_nil]); first | done | rfl) ?_; (with_reducible refine (halberdlaw17_made.calls 11 (longB Z) (framedV 11 (longB Z)) _ (made_ok 11 (longB Z) HVB.out)).mono ?_); rintro e_ w_ ⟨rfl, b_⟩; refine ⟨_, rfl, ?_⟩; rw [FS.out]; have n0_ := Aside0.mk (below_step HB.out b_); clear HB; have HB := n0_; clear n0_; clear b_)
    | ((with_reducible refine gate_callee (f := 24) rfl ?_); refine goesL_ (some 37) rfl rfl Try.func24 (by kernel_rfl) rfl #[.string S] rfl (by (try simp only [List.map_toArray, List.map_cons, List.map_nil]); first | done | rfl) ?_; (with_reducible refine (get_e S 1700 _ ZS.out (congrArg Prod.snd GS.out)).mono ?_); rintro e_ w_ ⟨m_, hm, rfl, b_⟩; refine ⟨_, rfl, ?_⟩; have n0_ := Aside0.mk (below_step HB.out b_); clear HB; have HB := n0_; clear n0_; clear b_)
    | ((with_reducible refine gate_dst (N := 8) rfl ?_); refine alloc49' rfl rfl ?_; intro g8 eg w_ h2 b2; have HZ8 := Aside0.mk h2; have HE8 := Aside0.mk (show w.heap.size ≤ g8 from by have := HB.out.size; omega); have HE9 := Aside0.mk (Nat.le_of_eq eg.symm); have n0_ := Aside0.mk (below_step HB.out b2); clear HB; have HB := n0_; clear n0_; clear h2 b2 eg)
    | ((with_reducible refine gate_store (p := 8) rfl ?_); refine stRowN (cs := cells m_ hm) sz49 rfl rfl rfl rfl HZ8.out rfl rfl (cells_one _ _) ?_; intro w_ h3 b3 k3; have HX := Aside0.mk h3; have n0_ := Aside0.mk (HB.out.trans (b3 _ HE8.out)); clear HB; have HB := n0_; clear n0_; clear h3 b3 k3)
    | (go_at_call 18; (with_reducible refine (halberdlaw0_Num.calls _ _ _ (num_f _)).mono ?_); rintro ex_ wx_ ⟨rfl, d_⟩; have n0_ := Aside0.mk (below_step HB.out d_.below); clear HB; have HB := n0_; clear n0_; clear d_))
  go_ret
  exact ⟨by first | rfl | simp, HB.out⟩
set_option maxRecDepth 100000 in
set_option maxHeartbeats 8000000 in
theorem long_c (x : Int) (w : World) : Calls Try.prog 10 #[.int .i64 x] w fun ex w' => ex = .returned (.bool true) ∧ Below w.heap.size w w' := by
  have hyb := and_7 x
  obtain ⟨k, hk⟩ : ∃ k : Nat, (k : Int) = 65520 + Go.bits .and .i64 x 7 := ⟨(65520 + Go.bits .and .i64 x 7).toNat, by omega⟩
  by_cases hc : k ≤ 65523
  · exact long_yes x _ k w rfl hk (by omega) (by omega) hc
  · exact long_no x _ k w rfl hk (by omega) (by omega) (by omega)
end Go.Proofs.Ytlkebjkpmiehcaa.Ms
end
