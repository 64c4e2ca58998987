/- Words, contracts and lemmas that the claim needs, in the order in which they build. Conditions: each lemma's own. -/
import Derived.Test.YtlkebjkpmiehcaaHo4
section
namespace Go.Proofs.Ytlkebjkpmiehcaa.X
open Go.RowKit Go.Proofs.YtlkebjkpmiehcaaW.PrintWords Go.Proofs.YtlkebjkpmiehcaaW.PrintLast Go.Proofs.YtlkebjkpmiehcaaW.PrintMore
attribute [local go_sem] max2_int min2_int max_two min_two max_three min_three max_four min_four   
set_option linter.unusedVariables false
set_option linter.unusedSimpArgs false
def halberdlaw17_hello.f (a0 : ByteArray) (a1 : ByteArray) (a2 : ByteArray) (a3 : ByteArray) (a4 : ByteArray) : Option (ByteArray) := if 32 ≤ 281474976710656 then ((some (List.replicate 32 0 : List Int)).bind fun y259 => (if a0.size + (strOfNums y259).size ≤ 9223372036854775807 then ((some (a0 ++ (strOfNums y259) : ByteArray)).bind fun ys262 => ((halberdlaw17_vec.f a1 1).bind fun t263 => (if ys262.size + t263.size ≤ 9223372036854775807 then ((some (ys262 ++ t263 : ByteArray)).bind fun ys264 => ((halberdlaw17_vec.f a2 2).bind fun t265 => (if ys264.size + t265.size ≤ 9223372036854775807 then ((some (ys264 ++ t265 : ByteArray)).bind fun ys266 => ((halberdlaw17_vec.f a3 1).bind fun t267 => (if ys266.size + t267.size ≤ 9223372036854775807 then ((some (ys266 ++ t267 : ByteArray)).bind fun ys268 => ((halberdlaw17_vec.f a4 2).bind fun t269 => (if ys268.size + t269.size ≤ 9223372036854775807 then ((halberdlaw17_made.f 1 (ys268 ++ t269)).bind fun t271 => (some t271)) else (none)))) else (none)))) else (none)))) else (none)))) else (none))) else (none)
def halberdlaw17_hello.T1 : Bool × List (List Nat × List Nat) := (true, [([], []), ([], []), ([1], [1]), ([0, 2], [0, 2]), ([], []), ([4], [4]), ([3, 5], [3, 5]), ([], []), ([7, 5], [7]), ([6, 8], [6, 8]), ([], []), ([10, 8], [10]), ([9, 11], [9, 11]), ([], []), ([13, 11], [13]), ([12, 14], [12, 14]), ([15, 14], [15]), ([16, 16, 0, 1, 2, 3, 4, 5, 6, 7, 8, 9, 10, 11, 12, 13, 14, 15, 16], [16])])
def halberdlaw17_hello.B1 : List Nat := [0, 0, 2, 7, 0, 16, 63, 0, 176, 511, 0, 1456, 4095, 0, 11696, 32767, 65535, 131071]
theorem halberdlaw17_hello.tab1 : rtab .any (opsOf Try.f26 1) = halberdlaw17_hello.T1 := by kernel_rfl
theorem halberdlaw17_hello.bits1 : waitsOk halberdlaw17_hello.T1.2 halberdlaw17_hello.B1 = true := by kernel_rfl
set_option maxHeartbeats 8000000 in
set_option maxRecDepth 100000 in
theorem halberdlaw17_hello.calls (a0 : ByteArray) (a1 : ByteArray) (a2 : ByteArray) (a3 : ByteArray) (a4 : ByteArray) (r : ByteArray) (w : World) (h : halberdlaw17_hello.f a0 a1 a2 a3 a4 = some r) :
    Calls Try.prog 26 #[.string a0, .string a1, .string a2, .string a3, .string a4] w fun e w' => e = .returned (.string r) ∧ Below w.heap.size w w' := by
  have HB := Aside0.mk (Below.refl w.heap.size w)
  have H : (if 32 ≤ 281474976710656 then ((some (List.replicate 32 0 : List Int)).bind fun y259 => (if a0.size + (strOfNums y259).size ≤ 9223372036854775807 then ((some (a0 ++ (strOfNums y259) : ByteArray)).bind fun ys262 => ((halberdlaw17_vec.f a1 1).bind fun t263 => (if ys262.size + t263.size ≤ 9223372036854775807 then ((some (ys262 ++ t263 : ByteArray)).bind fun ys264 => ((halberdlaw17_vec.f a2 2).bind fun t265 => (if ys264.size + t265.size ≤ 9223372036854775807 then ((some (ys264 ++ t265 : ByteArray)).bind fun ys266 => ((halberdlaw17_vec.f a3 1).bind fun t267 => (if ys266.size + t267.size ≤ 9223372036854775807 then ((some (ys266 ++ t267 : ByteArray)).bind fun ys268 => ((halberdlaw17_vec.f a4 2).bind fun t269 => (if ys268.size + t269.size ≤ 9223372036854775807 then ((halberdlaw17_made.f 1 (ys268 ++ t269)).bind fun t271 => (some t271)) else (none)))) else (none)))) else (none)))) else (none)))) else (none))) else (none)) = some r := h
  clear h
  by_cases c6 : 32 ≤ 281474976710656
  · rw [if_pos c6] at H
    have c6b0 := eq_true c6
    have c6b1 : decide (32 ≤ 281474976710656) = true := decide_eq_true c6
    clear c6
    obtain ⟨y259, hy259⟩ : ∃ y_ : List Int, y_ = (List.replicate 32 0) := ⟨_, rfl⟩
    replace H : (if a0.size + (strOfNums y259).size ≤ 9223372036854775807 then ((some (a0 ++ (strOfNums y259) : ByteArray)).bind fun ys262 => ((halberdlaw17_vec.f a1 1).bind fun t263 => (if ys262.size + t263.size ≤ 9223372036854775807 then ((some (ys262 ++ t263 : ByteArray)).bind fun ys264 => ((halberdlaw17_vec.f a2 2).bind fun t265 => (if ys264.size + t265.size ≤ 9223372036854775807 then ((some (ys264 ++ t265 : ByteArray)).bind fun ys266 => ((halberdlaw17_vec.f a3 1).bind fun t267 => (if ys266.size + t267.size ≤ 9223372036854775807 then ((some (ys266 ++ t267 : ByteArray)).bind fun ys268 => ((halberdlaw17_vec.f a4 2).bind fun t269 => (if ys268.size + t269.size ≤ 9223372036854775807 then ((halberdlaw17_made.f 1 (ys268 ++ t269)).bind fun t271 => (some t271)) else (none)))) else (none)))) else (none)))) else (none)))) else (none)) = some r := by first | (rw [hy259]; with_reducible exact H) | (have H2_ := (Option.bind_some _ _).symm.trans H; rw [hy259]; with_reducible exact H2_) | (have H2_ := (Option.bind_some _ _).symm.trans H; with_reducible exact H2_) | with_reducible exact H | (rw [hy259]; exact H) | exact H
    have Ny259 := Aside0.mk hy259
    clear hy259
    by_cases c7 : a0.size + (strOfNums y259).size ≤ 9223372036854775807
    · rw [if_pos c7] at H
      have c7b0 := eq_true c7
      have c7b1 : decide (a0.size + (strOfNums y259).size ≤ 9223372036854775807) = true := decide_eq_true c7
      try have c7b2 : (9223372036854775807 < a0.size + (strOfNums y259).size) = False := eq_false (Nat.not_lt.2 c7)
      obtain ⟨ys262, hys262⟩ : ∃ y_ : ByteArray, y_ = (a0 ++ (strOfNums y259)) := ⟨_, rfl⟩
      replace H : ((halberdlaw17_vec.f a1 1).bind fun t263 => (if ys262.size + t263.size ≤ 9223372036854775807 then ((some (ys262 ++ t263 : ByteArray)).bind fun ys264 => ((halberdlaw17_vec.f a2 2).bind fun t265 => (if ys264.size + t265.size ≤ 9223372036854775807 then ((some (ys264 ++ t265 : ByteArray)).bind fun ys266 => ((halberdlaw17_vec.f a3 1).bind fun t267 => (if ys266.size + t267.size ≤ 9223372036854775807 then ((some (ys266 ++ t267 : ByteArray)).bind fun ys268 => ((halberdlaw17_vec.f a4 2).bind fun t269 => (if ys268.size + t269.size ≤ 9223372036854775807 then ((halberdlaw17_made.f 1 (ys268 ++ t269)).bind fun t271 => (some t271)) else (none)))) else (none)))) else (none)))) else (none))) = some r := by first | (rw [hys262]; with_reducible exact H) | (have H2_ := (Option.bind_some _ _).symm.trans H; rw [hys262]; with_reducible exact H2_) | (have H2_ := (Option.bind_some _ _).symm.trans H; with_reducible exact H2_) | with_reducible exact H | (rw [hys262]; exact H) | exact H
      have Nys262 := Aside0.mk hys262
      clear hys262
      have Sys262 := Nys262.out.symm
      replace H := Option.bind_eq_some_iff.mp H
      obtain ⟨t263, A80, H⟩ := H
      replace H : (if ys262.size + t263.size ≤ 9223372036854775807 then ((some (ys262 ++ t263 : ByteArray)).bind fun ys264 => ((halberdlaw17_vec.f a2 2).bind fun t265 => (if ys264.size + t265.size ≤ 9223372036854775807 then ((some (ys264 ++ t265 : ByteArray)).bind fun ys266 => ((halberdlaw17_vec.f a3 1).bind fun t267 => (if ys266.size + t267.size ≤ 9223372036854775807 then ((some (ys266 ++ t267 : ByteArray)).bind fun ys268 => ((halberdlaw17_vec.f a4 2).bind fun t269 => (if ys268.size + t269.size ≤ 9223372036854775807 then ((halberdlaw17_made.f 1 (ys268 ++ t269)).bind fun t271 => (some t271)) else (none)))) else (none)))) else (none)))) else (none)) = some r := H
      have A8 := Aside0.mk A80
      clear A80
      by_cases c9 : ys262.size + t263.size ≤ 9223372036854775807
      · rw [if_pos c9] at H
        have c9b0 := eq_true c9
        have c9b1 : decide (ys262.size + t263.size ≤ 9223372036854775807) = true := decide_eq_true c9
        try have c9b2 : (9223372036854775807 < ys262.size + t263.size) = False := eq_false (Nat.not_lt.2 c9)
        obtain ⟨ys264, hys264⟩ : ∃ y_ : ByteArray, y_ = (ys262 ++ t263) := ⟨_, rfl⟩
        replace H : ((halberdlaw17_vec.f a2 2).bind fun t265 => (if ys264.size + t265.size ≤ 9223372036854775807 then ((some (ys264 ++ t265 : ByteArray)).bind fun ys266 => ((halberdlaw17_vec.f a3 1).bind fun t267 => (if ys266.size + t267.size ≤ 9223372036854775807 then ((some (ys266 ++ t267 : ByteArray)).bind fun ys268 => ((halberdlaw17_vec.f a4 2).bind fun t269 => (if ys268.size + t269.size ≤ 9223372036854775807 then ((halberdlaw17_made.f 1 (ys268 ++ t269)).bind fun t271 => (some t271)) else (none)))) else (none)))) else (none))) = some r := by first | (rw [hys264]; with_reducible exact H) | (have H2_ := (Option.bind_some _ _).symm.trans H; rw [hys264]; with_reducible exact H2_) | (have H2_ := (Option.bind_some _ _).symm.trans H; with_reducible exact H2_) | with_reducible exact H | (rw [hys264]; exact H) | exact H
        have Nys264 := Aside0.mk hys264
        clear hys264
        have Sys264 := Nys264.out.symm
        replace H := Option.bind_eq_some_iff.mp H
        obtain ⟨t265, A100, H⟩ := H
        replace H : (if ys264.size + t265.size ≤ 9223372036854775807 then ((some (ys264 ++ t265 : ByteArray)).bind fun ys266 => ((halberdlaw17_vec.f a3 1).bind fun t267 => (if ys266.size + t267.size ≤ 9223372036854775807 then ((some (ys266 ++ t267 : ByteArray)).bind fun ys268 => ((halberdlaw17_vec.f a4 2).bind fun t269 => (if ys268.size + t269.size ≤ 9223372036854775807 then ((halberdlaw17_made.f 1 (ys268 ++ t269)).bind fun t271 => (some t271)) else (none)))) else (none)))) else (none)) = some r := H
        have A10 := Aside0.mk A100
        clear A100
        by_cases c11 : ys264.size + t265.size ≤ 9223372036854775807
        · rw [if_pos c11] at H
          have c11b0 := eq_true c11
          have c11b1 : decide (ys264.size + t265.size ≤ 9223372036854775807) = true := decide_eq_true c11
          try have c11b2 : (9223372036854775807 < ys264.size + t265.size) = False := eq_false (Nat.not_lt.2 c11)
          obtain ⟨ys266, hys266⟩ : ∃ y_ : ByteArray, y_ = (ys264 ++ t265) := ⟨_, rfl⟩
          replace H : ((halberdlaw17_vec.f a3 1).bind fun t267 => (if ys266.size + t267.size ≤ 9223372036854775807 then ((some (ys266 ++ t267 : ByteArray)).bind fun ys268 => ((halberdlaw17_vec.f a4 2).bind fun t269 => (if ys268.size + t269.size ≤ 9223372036854775807 then ((halberdlaw17_made.f 1 (ys268 ++ t269)).bind fun t271 => (some t271)) else (none)))) else (none))) = some r := by first | (rw [hys266]; with_reducible exact H) | (have H2_ := (Option.bind_some _ _).symm.trans H; rw [hys266]; with_reducible exact H2_) | (have H2_ := (Option.bind_some _ _).symm.trans H; with_reducible exact H2_) | with_reducible exact H | (rw [hys266]; exact H) | exact H
          have Nys266 := Aside0.mk hys266
          clear hys266
          have Sys266 := Nys266.out.symm
          replace H := Option.bind_eq_some_iff.mp H
          obtain ⟨t267, A120, H⟩ := H
          replace H : (if ys266.size + t267.size ≤ 9223372036854775807 then ((some (ys266 ++ t267 : ByteArray)).bind fun ys268 => ((halberdlaw17_vec.f a4 2).bind fun t269 => (if ys268.size + t269.size ≤ 9223372036854775807 then ((halberdlaw17_made.f 1 (ys268 ++ t269)).bind fun t271 => (some t271)) else (none)))) else (none)) = some r := H
          have A12 := Aside0.mk A120
          clear A120
          by_cases c13 : ys266.size + t267.size ≤ 9223372036854775807
          · rw [if_pos c13] at H
            have c13b0 := eq_true c13
            have c13b1 : decide (ys266.size + t267.size ≤ 9223372036854775807) = true := decide_eq_true c13
            try have c13b2 : (9223372036854775807 < ys266.size + t267.size) = False := eq_false (Nat.not_lt.2 c13)
            obtain ⟨ys268, hys268⟩ : ∃ y_ : ByteArray, y_ = (ys266 ++ t267) := ⟨_, rfl⟩
            replace H : ((halberdlaw17_vec.f a4 2).bind fun t269 => (if ys268.size + t269.size ≤ 9223372036854775807 then ((halberdlaw17_made.f 1 (ys268 ++ t269)).bind fun t271 => (some t271)) else (none))) = some r := by first | (rw [hys268]; with_reducible exact H) | (have H2_ := (Option.bind_some _ _).symm.trans H; rw [hys268]; with_reducible exact H2_) | (have H2_ := (Option.bind_some _ _).symm.trans H; with_reducible exact H2_) | with_reducible exact H | (rw [hys268]; exact H) | exact H
            have Nys268 := Aside0.mk hys268
            clear hys268
            have Sys268 := Nys268.out.symm
            replace H := Option.bind_eq_some_iff.mp H
            obtain ⟨t269, A140, H⟩ := H
            replace H : (if ys268.size + t269.size ≤ 9223372036854775807 then ((halberdlaw17_made.f 1 (ys268 ++ t269)).bind fun t271 => (some t271)) else (none)) = some r := H
            have A14 := Aside0.mk A140
            clear A140
            by_cases c15 : ys268.size + t269.size ≤ 9223372036854775807
            · rw [if_pos c15] at H
              have c15b0 := eq_true c15
              have c15b1 : decide (ys268.size + t269.size ≤ 9223372036854775807) = true := decide_eq_true c15
              try have c15b2 : (9223372036854775807 < ys268.size + t269.size) = False := eq_false (Nat.not_lt.2 c15)
              obtain ⟨ys270, hys270⟩ : ∃ y_ : ByteArray, y_ = (ys268 ++ t269) := ⟨_, rfl⟩
              replace H : ((halberdlaw17_made.f 1 ys270).bind fun t271 => (some t271)) = some r := by first | (rw [hys270]; with_reducible exact H) | (have H2_ := (Option.bind_some _ _).symm.trans H; rw [hys270]; with_reducible exact H2_) | (have H2_ := (Option.bind_some _ _).symm.trans H; with_reducible exact H2_) | with_reducible exact H | (rw [hys270]; exact H) | exact H
              have Nys270 := Aside0.mk hys270
              clear hys270
              have Sys270 := Nys270.out.symm
              replace H := Option.bind_eq_some_iff.mp H
              obtain ⟨t271, A160, H⟩ := H
              replace H : (some t271) = some r := H
              have A16 := Aside0.mk A160
              clear A160
              obtain rfl := Option.some.inj H
              go_enter Try.func26, Try.ntmps26
              try go_wp2
              have n0_ := Aside0.mk (below_drew1 HB.out)
              clear HB
              have HB := n0_
              clear n0_
              refine start_ (n := 18) (S := fun w' => True) (ds := []) #[false, false, false, false, false, false, false, false, false, false, false, false, false, false, false, false, false, false] (by kernel_rfl) rfl rfl trivial (fun hHeld => ?_); refine with_tabW halberdlaw17_hello.tab1 halberdlaw17_hello.bits1 (fun HT_ HW_ => ?_)
              generalize w.drew = w17 at HB hHeld ⊢
              refine pure_ (i := 0) (N := some 11) (v := ?_) (a' := ?_) #[true, false, false, false, false, false, false, false, false, false, false, false, false, false, false, false, false, false] rfl rfl (any_of HT_.out (by kernel_rfl)) (fun _ _ _ h => h) (Or.inl ⟨by rfl, ?_⟩) ?_ ?_
              rotate_left
              · intro w'
                go_simp
                with_reducible rfl
              rotate_left
              · simp only [Act.put, List.setIfInBounds_toArray, List.set_cons_zero, List.set_cons_succ, i64_w, i32_w]
                rfl
              refine pure_ (i := 4) (N := some 15) (v := ?_) (a' := ?_) #[true, false, false, false, true, false, false, false, false, false, false, false, false, false, false, false, false, false] rfl rfl (any_of HT_.out (by kernel_rfl)) (fun _ _ _ h => h) (Or.inl ⟨by rfl, ?_⟩) ?_ ?_
              rotate_left
              · intro w'
                go_simp
                with_reducible rfl
              rotate_left
              · simp only [Act.put, List.setIfInBounds_toArray, List.set_cons_zero, List.set_cons_succ, i64_w, i32_w]
                rfl
              refine pure_ (i := 7) (N := some 18) (v := ?_) (a' := ?_) #[true, false, false, false, true, false, false, true, false, false, false, false, false, false, false, false, false, false] rfl rfl (any_of HT_.out (by kernel_rfl)) (fun _ _ _ h => h) (Or.inl ⟨by rfl, ?_⟩) ?_ ?_
              rotate_left
              · intro w'
                go_simp
                with_reducible rfl
              rotate_left
              · simp only [Act.put, List.setIfInBounds_toArray, List.set_cons_zero, List.set_cons_succ, i64_w, i32_w]
                rfl
              refine pure_ (i := 10) (N := some 21) (v := ?_) (a' := ?_) #[true, false, false, false, true, false, false, true, false, false, true, false, false, false, false, false, false, false] rfl rfl (any_of HT_.out (by kernel_rfl)) (fun _ _ _ h => h) (Or.inl ⟨by rfl, ?_⟩) ?_ ?_
              rotate_left
              · intro w'
                go_simp
                with_reducible rfl
              rotate_left
              · simp only [Act.put, List.setIfInBounds_toArray, List.set_cons_zero, List.set_cons_succ, i64_w, i32_w]
                rfl
              refine pure_ (i := 13) (N := some 24) (v := ?_) (a' := ?_) #[true, false, false, false, true, false, false, true, false, false, true, false, false, true, false, false, false, false] rfl rfl (any_of HT_.out (by kernel_rfl)) (fun _ _ _ h => h) (Or.inl ⟨by rfl, ?_⟩) ?_ ?_
              rotate_left
              · intro w'
                go_simp
                with_reducible rfl
              rotate_left
              · simp only [Act.put, List.setIfInBounds_toArray, List.set_cons_zero, List.set_cons_succ, i64_w, i32_w]
                rfl
              refine join_ (σ := Value) 3 #[true, true, true, true, true, true, true, true, true, true, true, true, true, true, true, false, false, false] (fun s_ => [(12, s_), (13, .string (strOfNums y259)), (16, .string t263), (19, .string t265), (22, .string t267), (25, .string t269), (14, .string ys262), (17, .string ys264), (20, .string ys266), (23, .string ys268)]) (fun s_ w' => (Kd.R (Kd.int .u8) 5 w' w.heap.size (fun _ => True) s_ y259) ∧ (Below w.heap.size w w')) ?_ ?_
              rotate_left
              · intro hJ1_2_5_8_11_14
                refine join_ (σ := Value) 4 #[true, true, true, true, true, true, true, true, true, true, true, true, true, true, false, false, false, false] (fun s_ => [(12, s_), (13, .string (strOfNums y259)), (16, .string t263), (19, .string t265), (22, .string t267), (14, .string ys262), (17, .string ys264), (20, .string ys266), (23, .string ys268)]) (fun s_ w' => (Kd.R (Kd.int .u8) 5 w' w.heap.size (fun _ => True) s_ y259) ∧ (Below w.heap.size w w')) ?_ ?_
                rotate_left
                · intro hJ1_2_5_8_11
                  refine join_ (σ := Value) 8 #[true, true, false, false, true, true, false, true, true, false, true, true, false, true, true, false, false, false] (fun s_ => [(12, s_), (16, .string t263), (19, .string t265), (22, .string t267), (25, .string t269)]) (fun s_ w' => (Kd.R (Kd.int .u8) 5 w' w.heap.size (fun _ => True) s_ y259) ∧ (Below w.heap.size w w')) ?_ ?_
                  rotate_left
                  · intro hJ1_5_8_11_14
                    refine join_ (σ := Value) 6 #[true, true, true, true, true, true, true, true, true, true, true, false, false, true, false, false, false, false] (fun s_ => [(12, s_), (13, .string (strOfNums y259)), (16, .string t263), (19, .string t265), (14, .string ys262), (17, .string ys264), (20, .string ys266)]) (fun s_ w' => (Kd.R (Kd.int .u8) 5 w' w.heap.size (fun _ => True) s_ y259) ∧ (Below w.heap.size w w')) ?_ ?_
                    rotate_left
                    · intro hJ1_2_5_8
                      refine join_ (σ := Value) 9 #[true, true, false, false, true, true, false, true, true, false, true, true, false, true, false, false, false, false] (fun s_ => [(12, s_), (16, .string t263), (19, .string t265), (22, .string t267)]) (fun s_ w' => (Kd.R (Kd.int .u8) 5 w' w.heap.size (fun _ => True) s_ y259) ∧ (Below w.heap.size w w')) ?_ ?_
                      rotate_left
                      · intro hJ1_5_8_11
                        refine join_ (σ := Unit) 9 #[true, false, false, false, true, true, false, true, true, false, true, true, false, true, true, false, false, false] (fun s_ => [(16, .string t263), (19, .string t265), (22, .string t267), (25, .string t269)]) (fun s_ w' => (Below w.heap.size w w')) ?_ ?_
                        rotate_left
                        · intro hJ5_8_11_14
                          refine join_ (σ := Value) 8 #[true, true, true, true, true, true, true, true, false, false, true, false, false, true, false, false, false, false] (fun s_ => [(12, s_), (13, .string (strOfNums y259)), (16, .string t263), (14, .string ys262), (17, .string ys264)]) (fun s_ w' => (Kd.R (Kd.int .u8) 5 w' w.heap.size (fun _ => True) s_ y259) ∧ (Below w.heap.size w w')) ?_ ?_
                          rotate_left
                          · intro hJ1_2_5
                            refine join_ (σ := Value) 10 #[true, true, false, false, true, true, false, true, true, false, true, false, false, true, false, false, false, false] (fun s_ => [(12, s_), (16, .string t263), (19, .string t265)]) (fun s_ w' => (Kd.R (Kd.int .u8) 5 w' w.heap.size (fun _ => True) s_ y259) ∧ (Below w.heap.size w w')) ?_ ?_
                            rotate_left
                            · intro hJ1_5_8
                              refine join_ (σ := Unit) 10 #[true, false, false, false, true, true, false, true, true, false, true, true, false, true, false, false, false, false] (fun s_ => [(16, .string t263), (19, .string t265), (22, .string t267)]) (fun s_ w' => (Below w.heap.size w w')) ?_ ?_
                              rotate_left
                              · intro hJ5_8_11
                                refine join_ (σ := Value) 10 #[true, true, true, true, true, false, false, true, false, false, true, false, false, true, false, false, false, false] (fun s_ => [(12, s_), (13, .string (strOfNums y259)), (14, .string ys262)]) (fun s_ w' => (Kd.R (Kd.int .u8) 5 w' w.heap.size (fun _ => True) s_ y259) ∧ (Below w.heap.size w w')) ?_ ?_
                                rotate_left
                                · intro hJ1_2
                                  refine join_ (σ := Value) 11 #[true, true, false, false, true, true, false, true, false, false, true, false, false, true, false, false, false, false] (fun s_ => [(12, s_), (16, .string t263)]) (fun s_ w' => (Kd.R (Kd.int .u8) 5 w' w.heap.size (fun _ => True) s_ y259) ∧ (Below w.heap.size w w')) ?_ ?_
                                  rotate_left
                                  · intro hJ1_5
                                    refine join_ (σ := Unit) 11 #[true, false, false, false, true, true, false, true, true, false, true, false, false, true, false, false, false, false] (fun s_ => [(16, .string t263), (19, .string t265)]) (fun s_ w' => (Below w.heap.size w w')) ?_ ?_
                                    rotate_left
                                    · intro hJ5_8
                                      refine join_ (σ := Value) 12 #[true, true, false, false, true, false, false, true, false, false, true, false, false, true, false, false, false, false] (fun s_ => [(12, s_)]) (fun s_ w' => (Kd.R (Kd.int .u8) 5 w' w.heap.size (fun _ => True) s_ y259) ∧ (Below w.heap.size w w')) ?_ ?_
                                      rotate_left
                                      · intro hJ1
                                        refine join_ (σ := Unit) 12 #[true, false, false, false, true, true, false, true, false, false, true, false, false, true, false, false, false, false] (fun s_ => [(16, .string t263)]) (fun s_ w' => (Below w.heap.size w w')) ?_ ?_
                                        rotate_left
                                        · intro hJ5
                                          refine two_ (i := 1) (j := 5) (Ni := some 12) (Nj := some 16) #[true, true, false, false, true, false, false, true, false, false, true, false, false, true, false, false, false, false] #[true, false, false, false, true, true, false, true, false, false, true, false, false, true, false, false, false, false] rfl rfl rfl rfl (two_of HT_.out (by kernel_rfl)) (by decide) (by decide) (fun K hK => ?_) (fun K hK => ?_)
                                          · skip
                                            refine Kd.R_make_step (Kd.int .u8) _ 5 (by rfl) (N := 12) rfl 39 _ _ rfl 32 rfl rfl Try.underlying39 (.int .u8 0) 1 info5 rfl (by decide) (by omega) 0 (ok := fun _ => True) (okp := fun _ => True) rfl (fun _ hk => hk) trivial (by omega) (by omega) (Below.refl _ _) (Nat.le_refl _) ?_
                                            intro v260 w18 ho19 hb hg_ hnew_
                                            clear hg_ hnew_
                                            (first | rw [← Ny259.out] at ho19 | (simp only [Int.reduceToNat] at ho19; rw [← Ny259.out] at ho19))
                                            have n0_ := Aside0.mk (Kd.R_lower ho19 (below_size (by repeat (first | (with_reducible first | exact HB.out | apply below_alloc | apply pw_below_drewN | apply below_drew1) | exact HB.out))))
                                            have n1_ := Aside0.mk (below_step (by repeat (first | (with_reducible first | exact HB.out | apply below_alloc | apply pw_below_drewN | apply below_drew1) | exact HB.out)) hb)
                                            clear HB
                                            have HO261 := n0_
                                            have HB := n1_
                                            clear n0_ n1_
                                            clear hb ho19
                                            refine hK.out _ _ trivial (fun hHeld => ?_)
                                            clear hK K
                                            refine norm_ (a' := ?_) ?_ ?_
                                            rotate_left
                                            · show Act.put _ (some 12) _ = _
                                              simp only [Act.put, List.setIfInBounds_toArray, List.set_cons_zero, List.set_cons_succ, i64_w, i32_w]
                                              rfl
                                            exact norm_ (by first | (simp only [putAll, Act.put, List.setIfInBounds_toArray, List.set_cons_zero, List.set_cons_succ]; done) | (simp only [putAll, Act.put, List.setIfInBounds_toArray, List.set_cons_zero, List.set_cons_succ]; rfl)) (hJ1 (v260) _ ⟨(by (with_reducible repeat (first | apply Kd.R_alloc | apply Kd.R_drewN | apply Kd.R_drew)); exact HO261.out), (by repeat (first | (with_reducible first | exact HB.out | apply below_alloc | apply pw_below_drewN | apply below_drew1) | exact HB.out))⟩)
                                          · skip
                                            refine goes_ Try.func29 (by kernel_rfl) rfl #[.string a1, .int .i64 1] (by rfl) rfl rfl (by (try simp only [List.map_toArray, List.map_cons, List.map_nil]); first | done | rfl | (simp only [List.length_drop, List.length_take]; rfl)) ?_
                                            with_reducible refine (halberdlaw17_vec.calls a1 1 t263 _ A8.out).mono ?_
                                            rintro e w18 ⟨rfl, hb⟩
                                            refine ⟨_, rfl, ?_⟩
                                            have n0_ := Aside0.mk (below_step (by repeat (first | (with_reducible first | exact HB.out | apply below_alloc | apply pw_below_drewN | apply below_drew1) | exact HB.out)) hb)
                                            clear HB
                                            have HB := n0_
                                            clear n0_
                                            (try clear hb)
                                            (try clear hb2)
                                            (try clear hk)
                                            (try clear hi)
                                            refine hK.out _ _ trivial (fun hHeld => ?_)
                                            clear hK K
                                            refine norm_ (a' := ?_) ?_ ?_
                                            rotate_left
                                            · show Act.put _ (some 16) _ = _
                                              simp only [Act.put, List.setIfInBounds_toArray, List.set_cons_zero, List.set_cons_succ, i64_w, i32_w]
                                              rfl
                                            exact norm_ (by first | (simp only [putAll, Act.put, List.setIfInBounds_toArray, List.set_cons_zero, List.set_cons_succ]; done) | (simp only [putAll, Act.put, List.setIfInBounds_toArray, List.set_cons_zero, List.set_cons_succ]; rfl)) (hJ5 () _ (by repeat (first | (with_reducible first | exact HB.out | apply below_alloc | apply pw_below_drewN | apply below_drew1) | exact HB.out)))
                                        · skip
                                          rintro _ w19 h0_
                                          have n0_ : Aside0 (Below w.heap.size w w19) := ⟨h0_⟩
                                          clear HB
                                          clear h0_
                                          have HB := n0_
                                          clear n0_
                                          have hHeld := trivial
                                          refine norm_ (a' := ?_) ?_ ?_
                                          rotate_left
                                          · simp only [putAll, Act.put, List.setIfInBounds_toArray, List.set_cons_zero, List.set_cons_succ]
                                            rfl
                                          refine two_ (i := 1) (j := 8) (Ni := some 12) (Nj := some 19) #[true, true, false, false, true, true, false, true, false, false, true, false, false, true, false, false, false, false] #[true, false, false, false, true, true, false, true, true, false, true, false, false, true, false, false, false, false] rfl rfl rfl rfl (two_of HT_.out (by kernel_rfl)) (by decide) (by decide) (fun K hK => ?_) (fun K hK => ?_)
                                          · skip
                                            refine Kd.R_make_step (Kd.int .u8) _ 5 (by rfl) (N := 12) rfl 39 _ _ rfl 32 rfl rfl Try.underlying39 (.int .u8 0) 1 info5 rfl (by decide) (by omega) 0 (ok := fun _ => True) (okp := fun _ => True) rfl (fun _ hk => hk) trivial (by omega) (by omega) (Below.refl _ _) (Nat.le_refl _) ?_
                                            intro v260 w20 ho21 hb hg_ hnew_
                                            clear hg_ hnew_
                                            (first | rw [← Ny259.out] at ho21 | (simp only [Int.reduceToNat] at ho21; rw [← Ny259.out] at ho21))
                                            have n0_ := Aside0.mk (Kd.R_lower ho21 (below_size (by repeat (first | (with_reducible first | exact HB.out | apply below_alloc | apply pw_below_drewN | apply below_drew1) | exact HB.out))))
                                            have n1_ := Aside0.mk (below_step (by repeat (first | (with_reducible first | exact HB.out | apply below_alloc | apply pw_below_drewN | apply below_drew1) | exact HB.out)) hb)
                                            clear HB
                                            have HO261 := n0_
                                            have HB := n1_
                                            clear n0_ n1_
                                            clear hb ho21
                                            refine hK.out _ _ trivial (fun hHeld => ?_)
                                            clear hK K
                                            refine norm_ (a' := ?_) ?_ ?_
                                            rotate_left
                                            · show Act.put _ (some 12) _ = _
                                              simp only [Act.put, List.setIfInBounds_toArray, List.set_cons_zero, List.set_cons_succ, i64_w, i32_w]
                                              rfl
                                            exact norm_ (by first | (simp only [putAll, Act.put, List.setIfInBounds_toArray, List.set_cons_zero, List.set_cons_succ]; done) | (simp only [putAll, Act.put, List.setIfInBounds_toArray, List.set_cons_zero, List.set_cons_succ]; rfl)) (hJ1_5 (v260) _ ⟨(by (with_reducible repeat (first | apply Kd.R_alloc | apply Kd.R_drewN | apply Kd.R_drew)); exact HO261.out), (by repeat (first | (with_reducible first | exact HB.out | apply below_alloc | apply pw_below_drewN | apply below_drew1) | exact HB.out))⟩)
                                          · skip
                                            refine goes_ Try.func29 (by kernel_rfl) rfl #[.string a2, .int .i64 2] (by rfl) rfl rfl (by (try simp only [List.map_toArray, List.map_cons, List.map_nil]); first | done | rfl | (simp only [List.length_drop, List.length_take]; rfl)) ?_
                                            with_reducible refine (halberdlaw17_vec.calls a2 2 t265 _ A10.out).mono ?_
                                            rintro e w20 ⟨rfl, hb⟩
                                            refine ⟨_, rfl, ?_⟩
                                            have n0_ := Aside0.mk (below_step (by repeat (first | (with_reducible first | exact HB.out | apply below_alloc | apply pw_below_drewN | apply below_drew1) | exact HB.out)) hb)
                                            clear HB
                                            have HB := n0_
                                            clear n0_
                                            (try clear hb)
                                            (try clear hb2)
                                            (try clear hk)
                                            (try clear hi)
                                            refine hK.out _ _ trivial (fun hHeld => ?_)
                                            clear hK K
                                            refine norm_ (a' := ?_) ?_ ?_
                                            rotate_left
                                            · show Act.put _ (some 19) _ = _
                                              simp only [Act.put, List.setIfInBounds_toArray, List.set_cons_zero, List.set_cons_succ, i64_w, i32_w]
                                              rfl
                                            exact norm_ (by first | (simp only [putAll, Act.put, List.setIfInBounds_toArray, List.set_cons_zero, List.set_cons_succ]; done) | (simp only [putAll, Act.put, List.setIfInBounds_toArray, List.set_cons_zero, List.set_cons_succ]; rfl)) (hJ5_8 () _ (by repeat (first | (with_reducible first | exact HB.out | apply below_alloc | apply pw_below_drewN | apply below_drew1) | exact HB.out)))
                                      · skip
                                        rintro v260 w20 ⟨h0_, h1_⟩
                                        have n0_ : Aside0 (Kd.R (Kd.int .u8) 5 w20 w.heap.size (fun _ => True) v260 y259) := ⟨h0_⟩
                                        have n1_ : Aside0 (Below w.heap.size w w20) := ⟨h1_⟩
                                        clear HB
                                        clear h0_ h1_
                                        have HO261 := n0_
                                        have HB := n1_
                                        clear n0_ n1_
                                        have hHeld := trivial
                                        refine norm_ (a' := ?_) ?_ ?_
                                        rotate_left
                                        · simp only [putAll, Act.put, List.setIfInBounds_toArray, List.set_cons_zero, List.set_cons_succ]
                                          rfl
                                        refine two_ (i := 2) (j := 5) (Ni := some 13) (Nj := some 16) #[true, true, true, false, true, false, false, true, false, false, true, false, false, true, false, false, false, false] #[true, true, false, false, true, true, false, true, false, false, true, false, false, true, false, false, false, false] rfl rfl rfl rfl (two_of HT_.out (by kernel_rfl)) (by decide) (by decide) (fun K hK => ?_) (fun K hK => ?_)
                                        · skip
                                          have hcv21 := own_string (P := Try.prog) Try.underlying39 Try.underlying5 Try.underlying9 (Kd.own_of_R HO261.out)
                                          refine value_ (w1 := ?_) (v := ?_) (by rfl) rfl ?_ ?_
                                          rotate_left 2
                                          · go_simp
                                            constructor
                                            · rfl
                                            · rfl
                                          clear hcv21
                                          refine hK.out _ _ trivial (fun hHeld => ?_)
                                          clear hK K
                                          refine norm_ (a' := ?_) ?_ ?_
                                          rotate_left
                                          · show Act.put _ (some 13) _ = _
                                            simp only [Act.put, List.setIfInBounds_toArray, List.set_cons_zero, List.set_cons_succ, i64_w, i32_w]
                                            rfl
                                          refine pure_ (i := 3) (N := some 14) (v := ?_) (a' := ?_) #[true, true, true, true, true, false, false, true, false, false, true, false, false, true, false, false, false, false] rfl rfl (any_of HT_.out (by kernel_rfl)) (fun _ _ _ h => h) (Or.inl ⟨by rfl, ?_⟩) ?_ ?_
                                          rotate_left
                                          · intro w'
                                            go_simp
                                            with_reducible rfl
                                          rotate_left
                                          · simp only [Act.put, List.setIfInBounds_toArray, List.set_cons_zero, List.set_cons_succ, i64_w, i32_w]
                                            rfl
                                          exact norm_ (by first | (simp only [putAll, Act.put, List.setIfInBounds_toArray, List.set_cons_zero, List.set_cons_succ]; done) | (simp only [putAll, Act.put, List.setIfInBounds_toArray, List.set_cons_zero, List.set_cons_succ]; rfl)) (hJ1_2 (v260) _ ⟨(by (with_reducible repeat (first | apply Kd.R_alloc | apply Kd.R_drewN | apply Kd.R_drew)); exact HO261.out), (by repeat (first | (with_reducible first | exact HB.out | apply below_alloc | apply pw_below_drewN | apply below_drew1) | exact HB.out))⟩)
                                        · skip
                                          refine goes_ Try.func29 (by kernel_rfl) rfl #[.string a1, .int .i64 1] (by rfl) rfl rfl (by (try simp only [List.map_toArray, List.map_cons, List.map_nil]); first | done | rfl | (simp only [List.length_drop, List.length_take]; rfl)) ?_
                                          with_reducible refine (halberdlaw17_vec.calls a1 1 t263 _ A8.out).mono ?_
                                          rintro e w21 ⟨rfl, hb⟩
                                          refine ⟨_, rfl, ?_⟩
                                          have n0_ := Aside0.mk (Kd.R_below (by (with_reducible repeat (first | apply Kd.R_alloc | apply Kd.R_drewN | apply Kd.R_drew)); exact HO261.out) hb)
                                          have n1_ := Aside0.mk (below_step (by repeat (first | (with_reducible first | exact HB.out | apply below_alloc | apply pw_below_drewN | apply below_drew1) | exact HB.out)) hb)
                                          clear HO261
                                          clear HB
                                          have HO261 := n0_
                                          have HB := n1_
                                          clear n0_ n1_
                                          (try clear hb)
                                          (try clear hb2)
                                          (try clear hk)
                                          (try clear hi)
                                          refine hK.out _ _ trivial (fun hHeld => ?_)
                                          clear hK K
                                          refine norm_ (a' := ?_) ?_ ?_
                                          rotate_left
                                          · show Act.put _ (some 16) _ = _
                                            simp only [Act.put, List.setIfInBounds_toArray, List.set_cons_zero, List.set_cons_succ, i64_w, i32_w]
                                            rfl
                                          exact norm_ (by first | (simp only [putAll, Act.put, List.setIfInBounds_toArray, List.set_cons_zero, List.set_cons_succ]; done) | (simp only [putAll, Act.put, List.setIfInBounds_toArray, List.set_cons_zero, List.set_cons_succ]; rfl)) (hJ1_5 (v260) _ ⟨(by (with_reducible repeat (first | apply Kd.R_alloc | apply Kd.R_drewN | apply Kd.R_drew)); exact HO261.out), (by repeat (first | (with_reducible first | exact HB.out | apply below_alloc | apply pw_below_drewN | apply below_drew1) | exact HB.out))⟩)
                                    · skip
                                      rintro _ w20 h0_
                                      have n0_ : Aside0 (Below w.heap.size w w20) := ⟨h0_⟩
                                      clear HB
                                      clear h0_
                                      have HB := n0_
                                      clear n0_
                                      have hHeld := trivial
                                      refine norm_ (a' := ?_) ?_ ?_
                                      rotate_left
                                      · simp only [putAll, Act.put, List.setIfInBounds_toArray, List.set_cons_zero, List.set_cons_succ]
                                        rfl
                                      refine two_ (i := 1) (j := 11) (Ni := some 12) (Nj := some 22) #[true, true, false, false, true, true, false, true, true, false, true, false, false, true, false, false, false, false] #[true, false, false, false, true, true, false, true, true, false, true, true, false, true, false, false, false, false] rfl rfl rfl rfl (two_of HT_.out (by kernel_rfl)) (by decide) (by decide) (fun K hK => ?_) (fun K hK => ?_)
                                      · skip
                                        refine Kd.R_make_step (Kd.int .u8) _ 5 (by rfl) (N := 12) rfl 39 _ _ rfl 32 rfl rfl Try.underlying39 (.int .u8 0) 1 info5 rfl (by decide) (by omega) 0 (ok := fun _ => True) (okp := fun _ => True) rfl (fun _ hk => hk) trivial (by omega) (by omega) (Below.refl _ _) (Nat.le_refl _) ?_
                                        intro v260 w21 ho22 hb hg_ hnew_
                                        clear hg_ hnew_
                                        (first | rw [← Ny259.out] at ho22 | (simp only [Int.reduceToNat] at ho22; rw [← Ny259.out] at ho22))
                                        have n0_ := Aside0.mk (Kd.R_lower ho22 (below_size (by repeat (first | (with_reducible first | exact HB.out | apply below_alloc | apply pw_below_drewN | apply below_drew1) | exact HB.out))))
                                        have n1_ := Aside0.mk (below_step (by repeat (first | (with_reducible first | exact HB.out | apply below_alloc | apply pw_below_drewN | apply below_drew1) | exact HB.out)) hb)
                                        clear HB
                                        have HO261 := n0_
                                        have HB := n1_
                                        clear n0_ n1_
                                        clear hb ho22
                                        refine hK.out _ _ trivial (fun hHeld => ?_)
                                        clear hK K
                                        refine norm_ (a' := ?_) ?_ ?_
                                        rotate_left
                                        · show Act.put _ (some 12) _ = _
                                          simp only [Act.put, List.setIfInBounds_toArray, List.set_cons_zero, List.set_cons_succ, i64_w, i32_w]
                                          rfl
                                        exact norm_ (by first | (simp only [putAll, Act.put, List.setIfInBounds_toArray, List.set_cons_zero, List.set_cons_succ]; done) | (simp only [putAll, Act.put, List.setIfInBounds_toArray, List.set_cons_zero, List.set_cons_succ]; rfl)) (hJ1_5_8 (v260) _ ⟨(by (with_reducible repeat (first | apply Kd.R_alloc | apply Kd.R_drewN | apply Kd.R_drew)); exact HO261.out), (by repeat (first | (with_reducible first | exact HB.out | apply below_alloc | apply pw_below_drewN | apply below_drew1) | exact HB.out))⟩)
                                      · skip
                                        refine goes_ Try.func29 (by kernel_rfl) rfl #[.string a3, .int .i64 1] (by rfl) rfl rfl (by (try simp only [List.map_toArray, List.map_cons, List.map_nil]); first | done | rfl | (simp only [List.length_drop, List.length_take]; rfl)) ?_
                                        with_reducible refine (halberdlaw17_vec.calls a3 1 t267 _ A12.out).mono ?_
                                        rintro e w21 ⟨rfl, hb⟩
                                        refine ⟨_, rfl, ?_⟩
                                        have n0_ := Aside0.mk (below_step (by repeat (first | (with_reducible first | exact HB.out | apply below_alloc | apply pw_below_drewN | apply below_drew1) | exact HB.out)) hb)
                                        clear HB
                                        have HB := n0_
                                        clear n0_
                                        (try clear hb)
                                        (try clear hb2)
                                        (try clear hk)
                                        (try clear hi)
                                        refine hK.out _ _ trivial (fun hHeld => ?_)
                                        clear hK K
                                        refine norm_ (a' := ?_) ?_ ?_
                                        rotate_left
                                        · show Act.put _ (some 22) _ = _
                                          simp only [Act.put, List.setIfInBounds_toArray, List.set_cons_zero, List.set_cons_succ, i64_w, i32_w]
                                          rfl
                                        exact norm_ (by first | (simp only [putAll, Act.put, List.setIfInBounds_toArray, List.set_cons_zero, List.set_cons_succ]; done) | (simp only [putAll, Act.put, List.setIfInBounds_toArray, List.set_cons_zero, List.set_cons_succ]; rfl)) (hJ5_8_11 () _ (by repeat (first | (with_reducible first | exact HB.out | apply below_alloc | apply pw_below_drewN | apply below_drew1) | exact HB.out)))
                                  · skip
                                    rintro v260 w21 ⟨h0_, h1_⟩
                                    have n0_ : Aside0 (Kd.R (Kd.int .u8) 5 w21 w.heap.size (fun _ => True) v260 y259) := ⟨h0_⟩
                                    have n1_ : Aside0 (Below w.heap.size w w21) := ⟨h1_⟩
                                    clear HB
                                    clear h0_ h1_
                                    have HO261 := n0_
                                    have HB := n1_
                                    clear n0_ n1_
                                    have hHeld := trivial
                                    refine norm_ (a' := ?_) ?_ ?_
                                    rotate_left
                                    · simp only [putAll, Act.put, List.setIfInBounds_toArray, List.set_cons_zero, List.set_cons_succ]
                                      rfl
                                    refine two_ (i := 2) (j := 8) (Ni := some 13) (Nj := some 19) #[true, true, true, false, true, true, false, true, false, false, true, false, false, true, false, false, false, false] #[true, true, false, false, true, true, false, true, true, false, true, false, false, true, false, false, false, false] rfl rfl rfl rfl (two_of HT_.out (by kernel_rfl)) (by decide) (by decide) (fun K hK => ?_) (fun K hK => ?_)
                                    · skip
                                      have hcv22 := own_string (P := Try.prog) Try.underlying39 Try.underlying5 Try.underlying9 (Kd.own_of_R HO261.out)
                                      refine value_ (w1 := ?_) (v := ?_) (by rfl) rfl ?_ ?_
                                      rotate_left 2
                                      · go_simp
                                        constructor
                                        · rfl
                                        · rfl
                                      clear hcv22
                                      refine hK.out _ _ trivial (fun hHeld => ?_)
                                      clear hK K
                                      refine norm_ (a' := ?_) ?_ ?_
                                      rotate_left
                                      · show Act.put _ (some 13) _ = _
                                        simp only [Act.put, List.setIfInBounds_toArray, List.set_cons_zero, List.set_cons_succ, i64_w, i32_w]
                                        rfl
                                      refine pure_ (i := 3) (N := some 14) (v := ?_) (a' := ?_) #[true, true, true, true, true, true, false, true, false, false, true, false, false, true, false, false, false, false] rfl rfl (any_of HT_.out (by kernel_rfl)) (fun _ _ _ h => h) (Or.inl ⟨by rfl, ?_⟩) ?_ ?_
                                      rotate_left
                                      · intro w'
                                        go_simp
                                        with_reducible rfl
                                      rotate_left
                                      · simp only [Act.put, List.setIfInBounds_toArray, List.set_cons_zero, List.set_cons_succ, i64_w, i32_w]
                                        rfl
                                      refine pure_ (i := 6) (N := some 17) (v := ?_) (a' := ?_) #[true, true, true, true, true, true, true, true, false, false, true, false, false, true, false, false, false, false] rfl rfl (any_of HT_.out (by kernel_rfl)) (fun _ _ _ h => h) (Or.inl ⟨by rfl, ?_⟩) ?_ ?_
                                      rotate_left
                                      · intro w'
                                        go_simp
                                        with_reducible rfl
                                      rotate_left
                                      · simp only [Act.put, List.setIfInBounds_toArray, List.set_cons_zero, List.set_cons_succ, i64_w, i32_w]
                                        rfl
                                      exact norm_ (by first | (simp only [putAll, Act.put, List.setIfInBounds_toArray, List.set_cons_zero, List.set_cons_succ]; done) | (simp only [putAll, Act.put, List.setIfInBounds_toArray, List.set_cons_zero, List.set_cons_succ]; rfl)) (hJ1_2_5 (v260) _ ⟨(by (with_reducible repeat (first | apply Kd.R_alloc | apply Kd.R_drewN | apply Kd.R_drew)); exact HO261.out), (by repeat (first | (with_reducible first | exact HB.out | apply below_alloc | apply pw_below_drewN | apply below_drew1) | exact HB.out))⟩)
                                    · skip
                                      refine goes_ Try.func29 (by kernel_rfl) rfl #[.string a2, .int .i64 2] (by rfl) rfl rfl (by (try simp only [List.map_toArray, List.map_cons, List.map_nil]); first | done | rfl | (simp only [List.length_drop, List.length_take]; rfl)) ?_
                                      with_reducible refine (halberdlaw17_vec.calls a2 2 t265 _ A10.out).mono ?_
                                      rintro e w22 ⟨rfl, hb⟩
                                      refine ⟨_, rfl, ?_⟩
                                      have n0_ := Aside0.mk (Kd.R_below (by (with_reducible repeat (first | apply Kd.R_alloc | apply Kd.R_drewN | apply Kd.R_drew)); exact HO261.out) hb)
                                      have n1_ := Aside0.mk (below_step (by repeat (first | (with_reducible first | exact HB.out | apply below_alloc | apply pw_below_drewN | apply below_drew1) | exact HB.out)) hb)
                                      clear HO261
                                      clear HB
                                      have HO261 := n0_
                                      have HB := n1_
                                      clear n0_ n1_
                                      (try clear hb)
                                      (try clear hb2)
                                      (try clear hk)
                                      (try clear hi)
                                      refine hK.out _ _ trivial (fun hHeld => ?_)
                                      clear hK K
                                      refine norm_ (a' := ?_) ?_ ?_
                                      rotate_left
                                      · show Act.put _ (some 19) _ = _
                                        simp only [Act.put, List.setIfInBounds_toArray, List.set_cons_zero, List.set_cons_succ, i64_w, i32_w]
                                        rfl
                                      exact norm_ (by first | (simp only [putAll, Act.put, List.setIfInBounds_toArray, List.set_cons_zero, List.set_cons_succ]; done) | (simp only [putAll, Act.put, List.setIfInBounds_toArray, List.set_cons_zero, List.set_cons_succ]; rfl)) (hJ1_5_8 (v260) _ ⟨(by (with_reducible repeat (first | apply Kd.R_alloc | apply Kd.R_drewN | apply Kd.R_drew)); exact HO261.out), (by repeat (first | (with_reducible first | exact HB.out | apply below_alloc | apply pw_below_drewN | apply below_drew1) | exact HB.out))⟩)
                                · skip
                                  rintro v260 w21 ⟨h0_, h1_⟩
                                  have n0_ : Aside0 (Kd.R (Kd.int .u8) 5 w21 w.heap.size (fun _ => True) v260 y259) := ⟨h0_⟩
                                  have n1_ : Aside0 (Below w.heap.size w w21) := ⟨h1_⟩
                                  clear HB
                                  clear h0_ h1_
                                  have HO261 := n0_
                                  have HB := n1_
                                  clear n0_ n1_
                                  have hHeld := trivial
                                  refine norm_ (a' := ?_) ?_ ?_
                                  rotate_left
                                  · simp only [putAll, Act.put, List.setIfInBounds_toArray, List.set_cons_zero, List.set_cons_succ]
                                    rfl
                                  refine one_ (i := 5) (N := some 16) #[true, true, true, true, true, true, false, true, false, false, true, false, false, true, false, false, false, false] rfl rfl (one_of HT_.out (by kernel_rfl)) (by decide) (fun K hK => ?_)
                                  refine goes_ Try.func29 (by kernel_rfl) rfl #[.string a1, .int .i64 1] (by rfl) rfl rfl (by (try simp only [List.map_toArray, List.map_cons, List.map_nil]); first | done | rfl | (simp only [List.length_drop, List.length_take]; rfl)) ?_
                                  with_reducible refine (halberdlaw17_vec.calls a1 1 t263 _ A8.out).mono ?_
                                  rintro e w22 ⟨rfl, hb⟩
                                  refine ⟨_, rfl, ?_⟩
                                  have n0_ := Aside0.mk (Kd.R_below (by (with_reducible repeat (first | apply Kd.R_alloc | apply Kd.R_drewN | apply Kd.R_drew)); exact HO261.out) hb)
                                  have n1_ := Aside0.mk (below_step (by repeat (first | (with_reducible first | exact HB.out | apply below_alloc | apply pw_below_drewN | apply below_drew1) | exact HB.out)) hb)
                                  clear HO261
                                  clear HB
                                  have HO261 := n0_
                                  have HB := n1_
                                  clear n0_ n1_
                                  (try clear hb)
                                  (try clear hb2)
                                  (try clear hk)
                                  (try clear hi)
                                  refine hK.out _ _ trivial (fun hHeld => ?_)
                                  clear hK K
                                  refine norm_ (a' := ?_) ?_ ?_
                                  rotate_left
                                  · show Act.put _ (some 16) _ = _
                                    simp only [Act.put, List.setIfInBounds_toArray, List.set_cons_zero, List.set_cons_succ, i64_w, i32_w]
                                    rfl
                                  refine pure_ (i := 6) (N := some 17) (v := ?_) (a' := ?_) #[true, true, true, true, true, true, true, true, false, false, true, false, false, true, false, false, false, false] rfl rfl (any_of HT_.out (by kernel_rfl)) (fun _ _ _ h => h) (Or.inl ⟨by rfl, ?_⟩) ?_ ?_
                                  rotate_left
                                  · intro w'
                                    go_simp
                                    with_reducible rfl
                                  rotate_left
                                  · simp only [Act.put, List.setIfInBounds_toArray, List.set_cons_zero, List.set_cons_succ, i64_w, i32_w]
                                    rfl
                                  exact norm_ (by first | (simp only [putAll, Act.put, List.setIfInBounds_toArray, List.set_cons_zero, List.set_cons_succ]; done) | (simp only [putAll, Act.put, List.setIfInBounds_toArray, List.set_cons_zero, List.set_cons_succ]; rfl)) (hJ1_2_5 (v260) _ ⟨(by (with_reducible repeat (first | apply Kd.R_alloc | apply Kd.R_drewN | apply Kd.R_drew)); exact HO261.out), (by repeat (first | (with_reducible first | exact HB.out | apply below_alloc | apply pw_below_drewN | apply below_drew1) | exact HB.out))⟩)
                              · skip
                                rintro _ w21 h0_
                                have n0_ : Aside0 (Below w.heap.size w w21) := ⟨h0_⟩
                                clear HB
                                clear h0_
                                have HB := n0_
                                clear n0_
                                have hHeld := trivial
                                refine norm_ (a' := ?_) ?_ ?_
                                rotate_left
                                · simp only [putAll, Act.put, List.setIfInBounds_toArray, List.set_cons_zero, List.set_cons_succ]
                                  rfl
                                refine two_ (i := 1) (j := 14) (Ni := some 12) (Nj := some 25) #[true, true, false, false, true, true, false, true, true, false, true, true, false, true, false, false, false, false] #[true, false, false, false, true, true, false, true, true, false, true, true, false, true, true, false, false, false] rfl rfl rfl rfl (two_of HT_.out (by kernel_rfl)) (by decide) (by decide) (fun K hK => ?_) (fun K hK => ?_)
                                · skip
                                  refine Kd.R_make_step (Kd.int .u8) _ 5 (by rfl) (N := 12) rfl 39 _ _ rfl 32 rfl rfl Try.underlying39 (.int .u8 0) 1 info5 rfl (by decide) (by omega) 0 (ok := fun _ => True) (okp := fun _ => True) rfl (fun _ hk => hk) trivial (by omega) (by omega) (Below.refl _ _) (Nat.le_refl _) ?_
                                  intro v260 w22 ho23 hb hg_ hnew_
                                  clear hg_ hnew_
                                  (first | rw [← Ny259.out] at ho23 | (simp only [Int.reduceToNat] at ho23; rw [← Ny259.out] at ho23))
                                  have n0_ := Aside0.mk (Kd.R_lower ho23 (below_size (by repeat (first | (with_reducible first | exact HB.out | apply below_alloc | apply pw_below_drewN | apply below_drew1) | exact HB.out))))
                                  have n1_ := Aside0.mk (below_step (by repeat (first | (with_reducible first | exact HB.out | apply below_alloc | apply pw_below_drewN | apply below_drew1) | exact HB.out)) hb)
                                  clear HB
                                  have HO261 := n0_
                                  have HB := n1_
                                  clear n0_ n1_
                                  clear hb ho23
                                  refine hK.out _ _ trivial (fun hHeld => ?_)
                                  clear hK K
                                  refine norm_ (a' := ?_) ?_ ?_
                                  rotate_left
                                  · show Act.put _ (some 12) _ = _
                                    simp only [Act.put, List.setIfInBounds_toArray, List.set_cons_zero, List.set_cons_succ, i64_w, i32_w]
                                    rfl
                                  exact norm_ (by first | (simp only [putAll, Act.put, List.setIfInBounds_toArray, List.set_cons_zero, List.set_cons_succ]; done) | (simp only [putAll, Act.put, List.setIfInBounds_toArray, List.set_cons_zero, List.set_cons_succ]; rfl)) (hJ1_5_8_11 (v260) _ ⟨(by (with_reducible repeat (first | apply Kd.R_alloc | apply Kd.R_drewN | apply Kd.R_drew)); exact HO261.out), (by repeat (first | (with_reducible first | exact HB.out | apply below_alloc | apply pw_below_drewN | apply below_drew1) | exact HB.out))⟩)
                                · skip
                                  refine goes_ Try.func29 (by kernel_rfl) rfl #[.string a4, .int .i64 2] (by rfl) rfl rfl (by (try simp only [List.map_toArray, List.map_cons, List.map_nil]); first | done | rfl | (simp only [List.length_drop, List.length_take]; rfl)) ?_
                                  with_reducible refine (halberdlaw17_vec.calls a4 2 t269 _ A14.out).mono ?_
                                  rintro e w22 ⟨rfl, hb⟩
                                  refine ⟨_, rfl, ?_⟩
                                  have n0_ := Aside0.mk (below_step (by repeat (first | (with_reducible first | exact HB.out | apply below_alloc | apply pw_below_drewN | apply below_drew1) | exact HB.out)) hb)
                                  clear HB
                                  have HB := n0_
                                  clear n0_
                                  (try clear hb)
                                  (try clear hb2)
                                  (try clear hk)
                                  (try clear hi)
                                  refine hK.out _ _ trivial (fun hHeld => ?_)
                                  clear hK K
                                  refine norm_ (a' := ?_) ?_ ?_
                                  rotate_left
                                  · show Act.put _ (some 25) _ = _
                                    simp only [Act.put, List.setIfInBounds_toArray, List.set_cons_zero, List.set_cons_succ, i64_w, i32_w]
                                    rfl
                                  exact norm_ (by first | (simp only [putAll, Act.put, List.setIfInBounds_toArray, List.set_cons_zero, List.set_cons_succ]; done) | (simp only [putAll, Act.put, List.setIfInBounds_toArray, List.set_cons_zero, List.set_cons_succ]; rfl)) (hJ5_8_11_14 () _ (by repeat (first | (with_reducible first | exact HB.out | apply below_alloc | apply pw_below_drewN | apply below_drew1) | exact HB.out)))
                            · skip
                              rintro v260 w22 ⟨h0_, h1_⟩
                              have n0_ : Aside0 (Kd.R (Kd.int .u8) 5 w22 w.heap.size (fun _ => True) v260 y259) := ⟨h0_⟩
                              have n1_ : Aside0 (Below w.heap.size w w22) := ⟨h1_⟩
                              clear HB
                              clear h0_ h1_
                              have HO261 := n0_
                              have HB := n1_
                              clear n0_ n1_
                              have hHeld := trivial
                              refine norm_ (a' := ?_) ?_ ?_
                              rotate_left
                              · simp only [putAll, Act.put, List.setIfInBounds_toArray, List.set_cons_zero, List.set_cons_succ]
                                rfl
                              refine two_ (i := 2) (j := 11) (Ni := some 13) (Nj := some 22) #[true, true, true, false, true, true, false, true, true, false, true, false, false, true, false, false, false, false] #[true, true, false, false, true, true, false, true, true, false, true, true, false, true, false, false, false, false] rfl rfl rfl rfl (two_of HT_.out (by kernel_rfl)) (by decide) (by decide) (fun K hK => ?_) (fun K hK => ?_)
                              · skip
                                have hcv23 := own_string (P := Try.prog) Try.underlying39 Try.underlying5 Try.underlying9 (Kd.own_of_R HO261.out)
                                refine value_ (w1 := ?_) (v := ?_) (by rfl) rfl ?_ ?_
                                rotate_left 2
                                · go_simp
                                  constructor
                                  · rfl
                                  · rfl
                                clear hcv23
                                refine hK.out _ _ trivial (fun hHeld => ?_)
                                clear hK K
                                refine norm_ (a' := ?_) ?_ ?_
                                rotate_left
                                · show Act.put _ (some 13) _ = _
                                  simp only [Act.put, List.setIfInBounds_toArray, List.set_cons_zero, List.set_cons_succ, i64_w, i32_w]
                                  rfl
                                refine pure_ (i := 3) (N := some 14) (v := ?_) (a' := ?_) #[true, true, true, true, true, true, false, true, true, false, true, false, false, true, false, false, false, false] rfl rfl (any_of HT_.out (by kernel_rfl)) (fun _ _ _ h => h) (Or.inl ⟨by rfl, ?_⟩) ?_ ?_
                                rotate_left
                                · intro w'
                                  go_simp
                                  with_reducible rfl
                                rotate_left
                                · simp only [Act.put, List.setIfInBounds_toArray, List.set_cons_zero, List.set_cons_succ, i64_w, i32_w]
                                  rfl
                                refine pure_ (i := 6) (N := some 17) (v := ?_) (a' := ?_) #[true, true, true, true, true, true, true, true, true, false, true, false, false, true, false, false, false, false] rfl rfl (any_of HT_.out (by kernel_rfl)) (fun _ _ _ h => h) (Or.inl ⟨by rfl, ?_⟩) ?_ ?_
                                rotate_left
                                · intro w'
                                  go_simp
                                  with_reducible rfl
                                rotate_left
                                · simp only [Act.put, List.setIfInBounds_toArray, List.set_cons_zero, List.set_cons_succ, i64_w, i32_w]
                                  rfl
                                refine pure_ (i := 9) (N := some 20) (v := ?_) (a' := ?_) #[true, true, true, true, true, true, true, true, true, true, true, false, false, true, false, false, false, false] rfl rfl (any_of HT_.out (by kernel_rfl)) (fun _ _ _ h => h) (Or.inl ⟨by rfl, ?_⟩) ?_ ?_
                                rotate_left
                                · intro w'
                                  go_simp
                                  with_reducible rfl
                                rotate_left
                                · simp only [Act.put, List.setIfInBounds_toArray, List.set_cons_zero, List.set_cons_succ, i64_w, i32_w]
                                  rfl
                                exact norm_ (by first | (simp only [putAll, Act.put, List.setIfInBounds_toArray, List.set_cons_zero, List.set_cons_succ]; done) | (simp only [putAll, Act.put, List.setIfInBounds_toArray, List.set_cons_zero, List.set_cons_succ]; rfl)) (hJ1_2_5_8 (v260) _ ⟨(by (with_reducible repeat (first | apply Kd.R_alloc | apply Kd.R_drewN | apply Kd.R_drew)); exact HO261.out), (by repeat (first | (with_reducible first | exact HB.out | apply below_alloc | apply pw_below_drewN | apply below_drew1) | exact HB.out))⟩)
                              · skip
                                refine goes_ Try.func29 (by kernel_rfl) rfl #[.string a3, .int .i64 1] (by rfl) rfl rfl (by (try simp only [List.map_toArray, List.map_cons, List.map_nil]); first | done | rfl | (simp only [List.length_drop, List.length_take]; rfl)) ?_
                                with_reducible refine (halberdlaw17_vec.calls a3 1 t267 _ A12.out).mono ?_
                                rintro e w23 ⟨rfl, hb⟩
                                refine ⟨_, rfl, ?_⟩
                                have n0_ := Aside0.mk (Kd.R_below (by (with_reducible repeat (first | apply Kd.R_alloc | apply Kd.R_drewN | apply Kd.R_drew)); exact HO261.out) hb)
                                have n1_ := Aside0.mk (below_step (by repeat (first | (with_reducible first | exact HB.out | apply below_alloc | apply pw_below_drewN | apply below_drew1) | exact HB.out)) hb)
                                clear HO261
                                clear HB
                                have HO261 := n0_
                                have HB := n1_
                                clear n0_ n1_
                                (try clear hb)
                                (try clear hb2)
                                (try clear hk)
                                (try clear hi)
                                refine hK.out _ _ trivial (fun hHeld => ?_)
                                clear hK K
                                refine norm_ (a' := ?_) ?_ ?_
                                rotate_left
                                · show Act.put _ (some 22) _ = _
                                  simp only [Act.put, List.setIfInBounds_toArray, List.set_cons_zero, List.set_cons_succ, i64_w, i32_w]
                                  rfl
                                exact norm_ (by first | (simp only [putAll, Act.put, List.setIfInBounds_toArray, List.set_cons_zero, List.set_cons_succ]; done) | (simp only [putAll, Act.put, List.setIfInBounds_toArray, List.set_cons_zero, List.set_cons_succ]; rfl)) (hJ1_5_8_11 (v260) _ ⟨(by (with_reducible repeat (first | apply Kd.R_alloc | apply Kd.R_drewN | apply Kd.R_drew)); exact HO261.out), (by repeat (first | (with_reducible first | exact HB.out | apply below_alloc | apply pw_below_drewN | apply below_drew1) | exact HB.out))⟩)
                          · skip
                            rintro v260 w22 ⟨h0_, h1_⟩
                            have n0_ : Aside0 (Kd.R (Kd.int .u8) 5 w22 w.heap.size (fun _ => True) v260 y259) := ⟨h0_⟩
                            have n1_ : Aside0 (Below w.heap.size w w22) := ⟨h1_⟩
                            clear HB
                            clear h0_ h1_
                            have HO261 := n0_
                            have HB := n1_
                            clear n0_ n1_
                            have hHeld := trivial
                            refine norm_ (a' := ?_) ?_ ?_
                            rotate_left
                            · simp only [putAll, Act.put, List.setIfInBounds_toArray, List.set_cons_zero, List.set_cons_succ]
                              rfl
                            refine one_ (i := 8) (N := some 19) #[true, true, true, true, true, true, true, true, true, false, true, false, false, true, false, false, false, false] rfl rfl (one_of HT_.out (by kernel_rfl)) (by decide) (fun K hK => ?_)
                            refine goes_ Try.func29 (by kernel_rfl) rfl #[.string a2, .int .i64 2] (by rfl) rfl rfl (by (try simp only [List.map_toArray, List.map_cons, List.map_nil]); first | done | rfl | (simp only [List.length_drop, List.length_take]; rfl)) ?_
                            with_reducible refine (halberdlaw17_vec.calls a2 2 t265 _ A10.out).mono ?_
                            rintro e w23 ⟨rfl, hb⟩
                            refine ⟨_, rfl, ?_⟩
                            have n0_ := Aside0.mk (Kd.R_below (by (with_reducible repeat (first | apply Kd.R_alloc | apply Kd.R_drewN | apply Kd.R_drew)); exact HO261.out) hb)
                            have n1_ := Aside0.mk (below_step (by repeat (first | (with_reducible first | exact HB.out | apply below_alloc | apply pw_below_drewN | apply below_drew1) | exact HB.out)) hb)
                            clear HO261
                            clear HB
                            have HO261 := n0_
                            have HB := n1_
                            clear n0_ n1_
                            (try clear hb)
                            (try clear hb2)
                            (try clear hk)
                            (try clear hi)
                            refine hK.out _ _ trivial (fun hHeld => ?_)
                            clear hK K
                            refine norm_ (a' := ?_) ?_ ?_
                            rotate_left
                            · show Act.put _ (some 19) _ = _
                              simp only [Act.put, List.setIfInBounds_toArray, List.set_cons_zero, List.set_cons_succ, i64_w, i32_w]
                              rfl
                            refine pure_ (i := 9) (N := some 20) (v := ?_) (a' := ?_) #[true, true, true, true, true, true, true, true, true, true, true, false, false, true, false, false, false, false] rfl rfl (any_of HT_.out (by kernel_rfl)) (fun _ _ _ h => h) (Or.inl ⟨by rfl, ?_⟩) ?_ ?_
                            rotate_left
                            · intro w'
                              go_simp
                              with_reducible rfl
                            rotate_left
                            · simp only [Act.put, List.setIfInBounds_toArray, List.set_cons_zero, List.set_cons_succ, i64_w, i32_w]
                              rfl
                            exact norm_ (by first | (simp only [putAll, Act.put, List.setIfInBounds_toArray, List.set_cons_zero, List.set_cons_succ]; done) | (simp only [putAll, Act.put, List.setIfInBounds_toArray, List.set_cons_zero, List.set_cons_succ]; rfl)) (hJ1_2_5_8 (v260) _ ⟨(by (with_reducible repeat (first | apply Kd.R_alloc | apply Kd.R_drewN | apply Kd.R_drew)); exact HO261.out), (by repeat (first | (with_reducible first | exact HB.out | apply below_alloc | apply pw_below_drewN | apply below_drew1) | exact HB.out))⟩)
                        · skip
                          rintro _ w22 h0_
                          have n0_ : Aside0 (Below w.heap.size w w22) := ⟨h0_⟩
                          clear HB
                          clear h0_
                          have HB := n0_
                          clear n0_
                          have hHeld := trivial
                          refine norm_ (a' := ?_) ?_ ?_
                          rotate_left
                          · simp only [putAll, Act.put, List.setIfInBounds_toArray, List.set_cons_zero, List.set_cons_succ]
                            rfl
                          refine one_ (i := 1) (N := some 12) #[true, true, false, false, true, true, false, true, true, false, true, true, false, true, true, false, false, false] rfl rfl (one_of HT_.out (by kernel_rfl)) (by decide) (fun K hK => ?_)
                          refine Kd.R_make_step (Kd.int .u8) _ 5 (by rfl) (N := 12) rfl 39 _ _ rfl 32 rfl rfl Try.underlying39 (.int .u8 0) 1 info5 rfl (by decide) (by omega) 0 (ok := fun _ => True) (okp := fun _ => True) rfl (fun _ hk => hk) trivial (by omega) (by omega) (Below.refl _ _) (Nat.le_refl _) ?_
                          intro v260 w23 ho24 hb hg_ hnew_
                          clear hg_ hnew_
                          (first | rw [← Ny259.out] at ho24 | (simp only [Int.reduceToNat] at ho24; rw [← Ny259.out] at ho24))
                          have n0_ := Aside0.mk (Kd.R_lower ho24 (below_size (by repeat (first | (with_reducible first | exact HB.out | apply below_alloc | apply pw_below_drewN | apply below_drew1) | exact HB.out))))
                          have n1_ := Aside0.mk (below_step (by repeat (first | (with_reducible first | exact HB.out | apply below_alloc | apply pw_below_drewN | apply below_drew1) | exact HB.out)) hb)
                          clear HB
                          have HO261 := n0_
                          have HB := n1_
                          clear n0_ n1_
                          clear hb ho24
                          refine hK.out _ _ trivial (fun hHeld => ?_)
                          clear hK K
                          refine norm_ (a' := ?_) ?_ ?_
                          rotate_left
                          · show Act.put _ (some 12) _ = _
                            simp only [Act.put, List.setIfInBounds_toArray, List.set_cons_zero, List.set_cons_succ, i64_w, i32_w]
                            rfl
                          exact norm_ (by first | (simp only [putAll, Act.put, List.setIfInBounds_toArray, List.set_cons_zero, List.set_cons_succ]; done) | (simp only [putAll, Act.put, List.setIfInBounds_toArray, List.set_cons_zero, List.set_cons_succ]; rfl)) (hJ1_5_8_11_14 (v260) _ ⟨(by (with_reducible repeat (first | apply Kd.R_alloc | apply Kd.R_drewN | apply Kd.R_drew)); exact HO261.out), (by repeat (first | (with_reducible first | exact HB.out | apply below_alloc | apply pw_below_drewN | apply below_drew1) | exact HB.out))⟩)
                      · skip
                        rintro v260 w23 ⟨h0_, h1_⟩
                        have n0_ : Aside0 (Kd.R (Kd.int .u8) 5 w23 w.heap.size (fun _ => True) v260 y259) := ⟨h0_⟩
                        have n1_ : Aside0 (Below w.heap.size w w23) := ⟨h1_⟩
                        clear HB
                        clear h0_ h1_
                        have HO261 := n0_
                        have HB := n1_
                        clear n0_ n1_
                        have hHeld := trivial
                        refine norm_ (a' := ?_) ?_ ?_
                        rotate_left
                        · simp only [putAll, Act.put, List.setIfInBounds_toArray, List.set_cons_zero, List.set_cons_succ]
                          rfl
                        refine two_ (i := 2) (j := 14) (Ni := some 13) (Nj := some 25) #[true, true, true, false, true, true, false, true, true, false, true, true, false, true, false, false, false, false] #[true, true, false, false, true, true, false, true, true, false, true, true, false, true, true, false, false, false] rfl rfl rfl rfl (two_of HT_.out (by kernel_rfl)) (by decide) (by decide) (fun K hK => ?_) (fun K hK => ?_)
                        · skip
                          have hcv24 := own_string (P := Try.prog) Try.underlying39 Try.underlying5 Try.underlying9 (Kd.own_of_R HO261.out)
                          refine value_ (w1 := ?_) (v := ?_) (by rfl) rfl ?_ ?_
                          rotate_left 2
                          · go_simp
                            constructor
                            · rfl
                            · rfl
                          clear hcv24
                          refine hK.out _ _ trivial (fun hHeld => ?_)
                          clear hK K
                          refine norm_ (a' := ?_) ?_ ?_
                          rotate_left
                          · show Act.put _ (some 13) _ = _
                            simp only [Act.put, List.setIfInBounds_toArray, List.set_cons_zero, List.set_cons_succ, i64_w, i32_w]
                            rfl
                          refine pure_ (i := 3) (N := some 14) (v := ?_) (a' := ?_) #[true, true, true, true, true, true, false, true, true, false, true, true, false, true, false, false, false, false] rfl rfl (any_of HT_.out (by kernel_rfl)) (fun _ _ _ h => h) (Or.inl ⟨by rfl, ?_⟩) ?_ ?_
                          rotate_left
                          · intro w'
                            go_simp
                            with_reducible rfl
                          rotate_left
                          · simp only [Act.put, List.setIfInBounds_toArray, List.set_cons_zero, List.set_cons_succ, i64_w, i32_w]
                            rfl
                          refine pure_ (i := 6) (N := some 17) (v := ?_) (a' := ?_) #[true, true, true, true, true, true, true, true, true, false, true, true, false, true, false, false, false, false] rfl rfl (any_of HT_.out (by kernel_rfl)) (fun _ _ _ h => h) (Or.inl ⟨by rfl, ?_⟩) ?_ ?_
                          rotate_left
                          · intro w'
                            go_simp
                            with_reducible rfl
                          rotate_left
                          · simp only [Act.put, List.setIfInBounds_toArray, List.set_cons_zero, List.set_cons_succ, i64_w, i32_w]
                            rfl
                          refine pure_ (i := 9) (N := some 20) (v := ?_) (a' := ?_) #[true, true, true, true, true, true, true, true, true, true, true, true, false, true, false, false, false, false] rfl rfl (any_of HT_.out (by kernel_rfl)) (fun _ _ _ h => h) (Or.inl ⟨by rfl, ?_⟩) ?_ ?_
                          rotate_left
                          · intro w'
                            go_simp
                            with_reducible rfl
                          rotate_left
                          · simp only [Act.put, List.setIfInBounds_toArray, List.set_cons_zero, List.set_cons_succ, i64_w, i32_w]
                            rfl
                          refine pure_ (i := 12) (N := some 23) (v := ?_) (a' := ?_) #[true, true, true, true, true, true, true, true, true, true, true, true, true, true, false, false, false, false] rfl rfl (any_of HT_.out (by kernel_rfl)) (fun _ _ _ h => h) (Or.inl ⟨by rfl, ?_⟩) ?_ ?_
                          rotate_left
                          · intro w'
                            go_simp
                            with_reducible rfl
                          rotate_left
                          · simp only [Act.put, List.setIfInBounds_toArray, List.set_cons_zero, List.set_cons_succ, i64_w, i32_w]
                            rfl
                          exact norm_ (by first | (simp only [putAll, Act.put, List.setIfInBounds_toArray, List.set_cons_zero, List.set_cons_succ]; done) | (simp only [putAll, Act.put, List.setIfInBounds_toArray, List.set_cons_zero, List.set_cons_succ]; rfl)) (hJ1_2_5_8_11 (v260) _ ⟨(by (with_reducible repeat (first | apply Kd.R_alloc | apply Kd.R_drewN | apply Kd.R_drew)); exact HO261.out), (by repeat (first | (with_reducible first | exact HB.out | apply below_alloc | apply pw_below_drewN | apply below_drew1) | exact HB.out))⟩)
                        · skip
                          refine goes_ Try.func29 (by kernel_rfl) rfl #[.string a4, .int .i64 2] (by rfl) rfl rfl (by (try simp only [List.map_toArray, List.map_cons, List.map_nil]); first | done | rfl | (simp only [List.length_drop, List.length_take]; rfl)) ?_
                          with_reducible refine (halberdlaw17_vec.calls a4 2 t269 _ A14.out).mono ?_
                          rintro e w24 ⟨rfl, hb⟩
                          refine ⟨_, rfl, ?_⟩
                          have n0_ := Aside0.mk (Kd.R_below (by (with_reducible repeat (first | apply Kd.R_alloc | apply Kd.R_drewN | apply Kd.R_drew)); exact HO261.out) hb)
                          have n1_ := Aside0.mk (below_step (by repeat (first | (with_reducible first | exact HB.out | apply below_alloc | apply pw_below_drewN | apply below_drew1) | exact HB.out)) hb)
                          clear HO261
                          clear HB
                          have HO261 := n0_
                          have HB := n1_
                          clear n0_ n1_
                          (try clear hb)
                          (try clear hb2)
                          (try clear hk)
                          (try clear hi)
                          refine hK.out _ _ trivial (fun hHeld => ?_)
                          clear hK K
                          refine norm_ (a' := ?_) ?_ ?_
                          rotate_left
                          · show Act.put _ (some 25) _ = _
                            simp only [Act.put, List.setIfInBounds_toArray, List.set_cons_zero, List.set_cons_succ, i64_w, i32_w]
                            rfl
                          exact norm_ (by first | (simp only [putAll, Act.put, List.setIfInBounds_toArray, List.set_cons_zero, List.set_cons_succ]; done) | (simp only [putAll, Act.put, List.setIfInBounds_toArray, List.set_cons_zero, List.set_cons_succ]; rfl)) (hJ1_5_8_11_14 (v260) _ ⟨(by (with_reducible repeat (first | apply Kd.R_alloc | apply Kd.R_drewN | apply Kd.R_drew)); exact HO261.out), (by repeat (first | (with_reducible first | exact HB.out | apply below_alloc | apply pw_below_drewN | apply below_drew1) | exact HB.out))⟩)
                    · skip
                      rintro v260 w23 ⟨h0_, h1_⟩
                      have n0_ : Aside0 (Kd.R (Kd.int .u8) 5 w23 w.heap.size (fun _ => True) v260 y259) := ⟨h0_⟩
                      have n1_ : Aside0 (Below w.heap.size w w23) := ⟨h1_⟩
                      clear HB
                      clear h0_ h1_
                      have HO261 := n0_
                      have HB := n1_
                      clear n0_ n1_
                      have hHeld := trivial
                      refine norm_ (a' := ?_) ?_ ?_
                      rotate_left
                      · simp only [putAll, Act.put, List.setIfInBounds_toArray, List.set_cons_zero, List.set_cons_succ]
                        rfl
                      refine one_ (i := 11) (N := some 22) #[true, true, true, true, true, true, true, true, true, true, true, true, false, true, false, false, false, false] rfl rfl (one_of HT_.out (by kernel_rfl)) (by decide) (fun K hK => ?_)
                      refine goes_ Try.func29 (by kernel_rfl) rfl #[.string a3, .int .i64 1] (by rfl) rfl rfl (by (try simp only [List.map_toArray, List.map_cons, List.map_nil]); first | done | rfl | (simp only [List.length_drop, List.length_take]; rfl)) ?_
                      with_reducible refine (halberdlaw17_vec.calls a3 1 t267 _ A12.out).mono ?_
                      rintro e w24 ⟨rfl, hb⟩
                      refine ⟨_, rfl, ?_⟩
                      have n0_ := Aside0.mk (Kd.R_below (by (with_reducible repeat (first | apply Kd.R_alloc | apply Kd.R_drewN | apply Kd.R_drew)); exact HO261.out) hb)
                      have n1_ := Aside0.mk (below_step (by repeat (first | (with_reducible first | exact HB.out | apply below_alloc | apply pw_below_drewN | apply below_drew1) | exact HB.out)) hb)
                      clear HO261
                      clear HB
                      have HO261 := n0_
                      have HB := n1_
                      clear n0_ n1_
                      (try clear hb)
                      (try clear hb2)
                      (try clear hk)
                      (try clear hi)
                      refine hK.out _ _ trivial (fun hHeld => ?_)
                      clear hK K
                      refine norm_ (a' := ?_) ?_ ?_
                      rotate_left
                      · show Act.put _ (some 22) _ = _
                        simp only [Act.put, List.setIfInBounds_toArray, List.set_cons_zero, List.set_cons_succ, i64_w, i32_w]
                        rfl
                      refine pure_ (i := 12) (N := some 23) (v := ?_) (a' := ?_) #[true, true, true, true, true, true, true, true, true, true, true, true, true, true, false, false, false, false] rfl rfl (any_of HT_.out (by kernel_rfl)) (fun _ _ _ h => h) (Or.inl ⟨by rfl, ?_⟩) ?_ ?_
                      rotate_left
                      · intro w'
                        go_simp
                        with_reducible rfl
                      rotate_left
                      · simp only [Act.put, List.setIfInBounds_toArray, List.set_cons_zero, List.set_cons_succ, i64_w, i32_w]
                        rfl
                      exact norm_ (by first | (simp only [putAll, Act.put, List.setIfInBounds_toArray, List.set_cons_zero, List.set_cons_succ]; done) | (simp only [putAll, Act.put, List.setIfInBounds_toArray, List.set_cons_zero, List.set_cons_succ]; rfl)) (hJ1_2_5_8_11 (v260) _ ⟨(by (with_reducible repeat (first | apply Kd.R_alloc | apply Kd.R_drewN | apply Kd.R_drew)); exact HO261.out), (by repeat (first | (with_reducible first | exact HB.out | apply below_alloc | apply pw_below_drewN | apply below_drew1) | exact HB.out))⟩)
                  · skip
                    rintro v260 w24 ⟨h0_, h1_⟩
                    have n0_ : Aside0 (Kd.R (Kd.int .u8) 5 w24 w.heap.size (fun _ => True) v260 y259) := ⟨h0_⟩
                    have n1_ : Aside0 (Below w.heap.size w w24) := ⟨h1_⟩
                    clear HB
                    clear h0_ h1_
                    have HO261 := n0_
                    have HB := n1_
                    clear n0_ n1_
                    have hHeld := trivial
                    refine norm_ (a' := ?_) ?_ ?_
                    rotate_left
                    · simp only [putAll, Act.put, List.setIfInBounds_toArray, List.set_cons_zero, List.set_cons_succ]
                      rfl
                    refine one_ (i := 2) (N := some 13) #[true, true, true, false, true, true, false, true, true, false, true, true, false, true, true, false, false, false] rfl rfl (one_of HT_.out (by kernel_rfl)) (by decide) (fun K hK => ?_)
                    have hcv25 := own_string (P := Try.prog) Try.underlying39 Try.underlying5 Try.underlying9 (Kd.own_of_R HO261.out)
                    refine value_ (w1 := ?_) (v := ?_) (by rfl) rfl ?_ ?_
                    rotate_left 2
                    · go_simp
                      constructor
                      · rfl
                      · rfl
                    clear hcv25
                    refine hK.out _ _ trivial (fun hHeld => ?_)
                    clear hK K
                    refine norm_ (a' := ?_) ?_ ?_
                    rotate_left
                    · show Act.put _ (some 13) _ = _
                      simp only [Act.put, List.setIfInBounds_toArray, List.set_cons_zero, List.set_cons_succ, i64_w, i32_w]
                      rfl
                    refine pure_ (i := 3) (N := some 14) (v := ?_) (a' := ?_) #[true, true, true, true, true, true, false, true, true, false, true, true, false, true, true, false, false, false] rfl rfl (any_of HT_.out (by kernel_rfl)) (fun _ _ _ h => h) (Or.inl ⟨by rfl, ?_⟩) ?_ ?_
                    rotate_left
                    · intro w'
                      go_simp
                      with_reducible rfl
                    rotate_left
                    · simp only [Act.put, List.setIfInBounds_toArray, List.set_cons_zero, List.set_cons_succ, i64_w, i32_w]
                      rfl
                    refine pure_ (i := 6) (N := some 17) (v := ?_) (a' := ?_) #[true, true, true, true, true, true, true, true, true, false, true, true, false, true, true, false, false, false] rfl rfl (any_of HT_.out (by kernel_rfl)) (fun _ _ _ h => h) (Or.inl ⟨by rfl, ?_⟩) ?_ ?_
                    rotate_left
                    · intro w'
                      go_simp
                      with_reducible rfl
                    rotate_left
                    · simp only [Act.put, List.setIfInBounds_toArray, List.set_cons_zero, List.set_cons_succ, i64_w, i32_w]
                      rfl
                    refine pure_ (i := 9) (N := some 20) (v := ?_) (a' := ?_) #[true, true, true, true, true, true, true, true, true, true, true, true, false, true, true, false, false, false] rfl rfl (any_of HT_.out (by kernel_rfl)) (fun _ _ _ h => h) (Or.inl ⟨by rfl, ?_⟩) ?_ ?_
                    rotate_left
                    · intro w'
                      go_simp
                      with_reducible rfl
                    rotate_left
                    · simp only [Act.put, List.setIfInBounds_toArray, List.set_cons_zero, List.set_cons_succ, i64_w, i32_w]
                      rfl
                    refine pure_ (i := 12) (N := some 23) (v := ?_) (a' := ?_) #[true, true, true, true, true, true, true, true, true, true, true, true, true, true, true, false, false, false] rfl rfl (any_of HT_.out (by kernel_rfl)) (fun _ _ _ h => h) (Or.inl ⟨by rfl, ?_⟩) ?_ ?_
                    rotate_left
                    · intro w'
                      go_simp
                      with_reducible rfl
                    rotate_left
                    · simp only [Act.put, List.setIfInBounds_toArray, List.set_cons_zero, List.set_cons_succ, i64_w, i32_w]
                      rfl
                    exact norm_ (by first | (simp only [putAll, Act.put, List.setIfInBounds_toArray, List.set_cons_zero, List.set_cons_succ]; done) | (simp only [putAll, Act.put, List.setIfInBounds_toArray, List.set_cons_zero, List.set_cons_succ]; rfl)) (hJ1_2_5_8_11_14 (v260) _ ⟨(by (with_reducible repeat (first | apply Kd.R_alloc | apply Kd.R_drewN | apply Kd.R_drew)); exact HO261.out), (by repeat (first | (with_reducible first | exact HB.out | apply below_alloc | apply pw_below_drewN | apply below_drew1) | exact HB.out))⟩)
                · skip
                  rintro v260 w24 ⟨h0_, h1_⟩
                  have n0_ : Aside0 (Kd.R (Kd.int .u8) 5 w24 w.heap.size (fun _ => True) v260 y259) := ⟨h0_⟩
                  have n1_ : Aside0 (Below w.heap.size w w24) := ⟨h1_⟩
                  clear HB
                  clear h0_ h1_
                  have HO261 := n0_
                  have HB := n1_
                  clear n0_ n1_
                  have hHeld := trivial
                  refine norm_ (a' := ?_) ?_ ?_
                  rotate_left
                  · simp only [putAll, Act.put, List.setIfInBounds_toArray, List.set_cons_zero, List.set_cons_succ]
                    rfl
                  refine one_ (i := 14) (N := some 25) #[true, true, true, true, true, true, true, true, true, true, true, true, true, true, true, false, false, false] rfl rfl (one_of HT_.out (by kernel_rfl)) (by decide) (fun K hK => ?_)
                  refine goes_ Try.func29 (by kernel_rfl) rfl #[.string a4, .int .i64 2] (by rfl) rfl rfl (by (try simp only [List.map_toArray, List.map_cons, List.map_nil]); first | done | rfl | (simp only [List.length_drop, List.length_take]; rfl)) ?_
                  with_reducible refine (halberdlaw17_vec.calls a4 2 t269 _ A14.out).mono ?_
                  rintro e w25 ⟨rfl, hb⟩
                  refine ⟨_, rfl, ?_⟩
                  have n0_ := Aside0.mk (Kd.R_below (by (with_reducible repeat (first | apply Kd.R_alloc | apply Kd.R_drewN | apply Kd.R_drew)); exact HO261.out) hb)
                  have n1_ := Aside0.mk (below_step (by repeat (first | (with_reducible first | exact HB.out | apply below_alloc | apply pw_below_drewN | apply below_drew1) | exact HB.out)) hb)
                  clear HO261
                  clear HB
                  have HO261 := n0_
                  have HB := n1_
                  clear n0_ n1_
                  (try clear hb)
                  (try clear hb2)
                  (try clear hk)
                  (try clear hi)
                  refine hK.out _ _ trivial (fun hHeld => ?_)
                  clear hK K
                  refine norm_ (a' := ?_) ?_ ?_
                  rotate_left
                  · show Act.put _ (some 25) _ = _
                    simp only [Act.put, List.setIfInBounds_toArray, List.set_cons_zero, List.set_cons_succ, i64_w, i32_w]
                    rfl
                  exact norm_ (by first | (simp only [putAll, Act.put, List.setIfInBounds_toArray, List.set_cons_zero, List.set_cons_succ]; done) | (simp only [putAll, Act.put, List.setIfInBounds_toArray, List.set_cons_zero, List.set_cons_succ]; rfl)) (hJ1_2_5_8_11_14 (v260) _ ⟨(by (with_reducible repeat (first | apply Kd.R_alloc | apply Kd.R_drewN | apply Kd.R_drew)); exact HO261.out), (by repeat (first | (with_reducible first | exact HB.out | apply below_alloc | apply pw_below_drewN | apply below_drew1) | exact HB.out))⟩)
              rintro v260 w25 ⟨h0_, h1_⟩
              have n0_ : Aside0 (Kd.R (Kd.int .u8) 5 w25 w.heap.size (fun _ => True) v260 y259) := ⟨h0_⟩
              have n1_ : Aside0 (Below w.heap.size w w25) := ⟨h1_⟩
              clear HB
              clear h0_ h1_
              have HO261 := n0_
              have HB := n1_
              clear n0_ n1_
              have hHeld := trivial
              refine norm_ (a' := ?_) ?_ ?_
              rotate_left
              · simp only [putAll, Act.put, List.setIfInBounds_toArray, List.set_cons_zero, List.set_cons_succ]
                rfl
              refine pure_ (i := 15) (N := some 26) (v := ?_) (a' := ?_) #[true, true, true, true, true, true, true, true, true, true, true, true, true, true, true, true, false, false] rfl rfl (any_of HT_.out (by kernel_rfl)) (fun _ _ _ h => h) (Or.inl ⟨by rfl, ?_⟩) ?_ ?_
              rotate_left
              · intro w'
                go_simp
                with_reducible rfl
              rotate_left
              · simp only [Act.put, List.setIfInBounds_toArray, List.set_cons_zero, List.set_cons_succ, i64_w, i32_w]
                rfl
              refine one_ (i := 16) (N := some 27) #[true, true, true, true, true, true, true, true, true, true, true, true, true, true, true, true, true, false] rfl rfl (one_of HT_.out (by kernel_rfl)) (by decide) (fun K hK => ?_)
              refine goes_ Try.func28 (by kernel_rfl) rfl #[.int .i64 1, .string ys270] (by rfl) rfl rfl (by (try simp only [List.map_toArray, List.map_cons, List.map_nil]); first | done | rfl | (simp only [List.length_drop, List.length_take]; rfl)) ?_
              with_reducible refine (halberdlaw17_made.calls 1 ys270 t271 _ A16.out).mono ?_
              rintro e w26 ⟨rfl, hb⟩
              refine ⟨_, rfl, ?_⟩
              have n0_ := Aside0.mk (Kd.R_below (by (with_reducible repeat (first | apply Kd.R_alloc | apply Kd.R_drewN | apply Kd.R_drew)); exact HO261.out) hb)
              have n1_ := Aside0.mk (below_step (by repeat (first | (with_reducible first | exact HB.out | apply below_alloc | apply pw_below_drewN | apply below_drew1) | exact HB.out)) hb)
              clear HO261
              clear HB
              have HO261 := n0_
              have HB := n1_
              clear n0_ n1_
              (try clear hb)
              (try clear hb2)
              (try clear hk)
              (try clear hi)
              refine hK.out _ _ trivial (fun hHeld => ?_)
              clear hK K
              refine norm_ (a' := ?_) ?_ ?_
              rotate_left
              · show Act.put _ (some 27) _ = _
                simp only [Act.put, List.setIfInBounds_toArray, List.set_cons_zero, List.set_cons_succ, i64_w, i32_w]
                rfl
              refine pure_ (i := 17) (N := some 10) (v := ?_) (a' := ?_) #[true, true, true, true, true, true, true, true, true, true, true, true, true, true, true, true, true, true] rfl rfl (any_of HT_.out (by kernel_rfl)) (fun _ _ _ h => h) (Or.inl ⟨by rfl, ?_⟩) ?_ ?_
              rotate_left
              · intro w'
                go_simp
                with_reducible rfl
              rotate_left
              · simp only [Act.put, List.setIfInBounds_toArray, List.set_cons_zero, List.set_cons_succ, i64_w, i32_w]
                rfl
              refine done_ (done_of HT_.out (by kernel_rfl)) ?_
              try go_wp2
              go_ret
              exact ⟨by first | rfl | (simp [errW_none, errW_some] <;> rfl) | (simp [*, errW_none, errW_some] <;> rfl), by repeat (first | (with_reducible first | exact HB.out | apply below_alloc | apply pw_below_drewN | apply below_drew1) | exact HB.out)⟩
            · rw [if_neg c15] at H
              exact absurd H (by simp)
          · rw [if_neg c13] at H
            exact absurd H (by simp)
        · rw [if_neg c11] at H
          exact absurd H (by simp)
      · rw [if_neg c9] at H
        exact absurd H (by simp)
    · rw [if_neg c7] at H
      exact absurd H (by simp)
  · rw [if_neg c6] at H
    exact absurd H (by simp)
end Go.Proofs.Ytlkebjkpmiehcaa.X
end
section
namespace Go.Proofs.Ytlkebjkpmiehcaa.Ms
open Go.RowKit Go.Proofs.YtlkebjkpmiehcaaW.PrintWords Go.Proofs.YtlkebjkpmiehcaaW.PrintLast Go.Proofs.YtlkebjkpmiehcaaW.PrintMore Go.Proofs.Ytlkebjkpmiehcaa.X Go.Proofs.Ytlkebjkpmiehcaa.Iv
set_option linter.unusedVariables false
set_option linter.unusedSimpArgs false
theorem toNat_ofInt64 (x : Int) : (BitVec.ofInt 64 x).toNat = (x % 18446744073709551616).toNat := by
  rw [BitVec.toNat_ofInt]
  have : ((2 ^ 64 : Nat) : Int) = 18446744073709551616 := rfl
  rw [this]
theorem and_mask (x : Int) (i : Nat) (hi : i ≤ 62) : Go.bits .and .i64 x ((2 ^ i - 1 : Nat) : Int) = x % ((2 ^ i : Nat) : Int) := by
  have hp : 0 < 2 ^ i := Nat.two_pow_pos i
  have hq : 2 ^ i ≤ 4611686018427387904 := by
    have : (4611686018427387904 : Nat) = 2 ^ 62 := by decide
    rw [this]; exact Nat.pow_le_pow_right (by decide) hi
  have hd : ((2 ^ i : Nat) : Int) ∣ 18446744073709551616 := by
    have h1 : (2 ^ i : Nat) ∣ 2 ^ 64 := Nat.pow_dvd_pow 2 (by omega)
    have h2 : ((2 ^ 64 : Nat) : Int) = 18446744073709551616 := rfl
    rw [← h2]
    exact Int.natCast_dvd_natCast.mpr h1
  have e2 : (BitVec.ofInt 64 x &&& BitVec.ofInt 64 ((2 ^ i - 1 : Nat) : Int)).toNat = (x % 18446744073709551616).toNat % 2 ^ i := by
    have hm : 2 ^ i - 1 < 2 ^ 64 := by
      have : (2 : Nat) ^ 64 = 18446744073709551616 := by decide
      omega
    rw [BitVec.toNat_and, BitVec.ofInt_natCast, BitVec.toNat_ofNat, Nat.mod_eq_of_lt hm, toNat_ofInt64, Nat.and_two_pow_sub_one_eq_mod]
  have e0 : Go.bits .and .i64 x ((2 ^ i - 1 : Nat) : Int) = IntKind.i64.wrap (((BitVec.ofInt 64 x &&& BitVec.ofInt 64 ((2 ^ i - 1 : Nat) : Int)).toNat : Nat) : Int) := rfl
  rw [e0, e2]
  generalize 2 ^ i = m at *
  have hb := Int.emod_nonneg x (b := (m : Int)) (by omega)
  have hl := Int.emod_lt_of_pos x (b := (m : Int)) (by omega)
  have hn := Int.emod_nonneg x (b := 18446744073709551616) (by decide)
  have hz := Int.emod_emod_of_dvd x hd
  rw [Int.natCast_emod, Int.toNat_of_nonneg hn, hz, Go.Proofs.Ytlkebjkpmiehcaa.Pure.wraps_i64 _ hb (by omega)]
theorem and_1 (x : Int) : Go.bits .and .i64 x 1 = x % 2 := and_mask x 1 (by decide)
theorem and_127 (x : Int) : Go.bits .and .i64 x 127 = x % 128 := and_mask x 7 (by decide)
theorem some_of {α : Type} {o : Option α} {d : α} (h : o.isSome = true) : o = some (o.getD d) := by
  cases o with
  | none => cases h
  | some x => rfl
theorem ob_cat {oi : Oper} {a : Act} {w : World} {x y : Operand} {s t : ByteArray} (ho : oi.op = .binOp .add 9 x y 9) (hx : a.eval x = .string s) (hy : a.eval y = .string t) (hz : s.size + t.size ≤ 9223372036854775807) : (execOp a.eval oi).run Try.prog w = .ok (.value (.string (s ++ t))) w := by
  have c1 := eq_true hz
  have c2 : (9223372036854775807 < s.size + t.size) = False := eq_false (Nat.not_lt.2 hz)
  unfold execOp
  simp only [ho, hx, hy]
  first | (go_simp; done) | (go_simp; rfl)
theorem ob_conv {oi : Oper} {a : Act} {w : World} {x : Operand} {v : Value} {s : ByteArray} (ho : oi.op = .convert 39 9 x) (hx : a.eval x = v) (hc : (convert 39 9 v).run Try.prog w = .ok (.string s) w) : (execOp a.eval oi).run Try.prog w = .ok (.value (.string s)) w := by
  unfold execOp
  simp only [ho, hx]
  rw [Sem.run_bind, hc]
  rfl
theorem ob_and {oi : Oper} {a : Act} {w : World} {x y : Operand} {m n : Int} (ho : oi.op = .binOp .and 3 x y 3) (hx : a.eval x = .int .i64 m) (hy : a.eval y = .int .i64 n) : (execOp a.eval oi).run Try.prog w = .ok (.value (.int .i64 (Go.bits .and .i64 m n))) w := by
  unfold execOp
  simp only [ho, hx, hy]
  first | (go_simp; done) | (go_simp; rfl)
theorem ob_addi {oi : Oper} {a : Act} {w : World} {x y : Operand} {m n : Int} (ho : oi.op = .binOp .add 3 x y 3) (hx : a.eval x = .int .i64 m) (hy : a.eval y = .int .i64 n) : (execOp a.eval oi).run Try.prog w = .ok (.value (.int .i64 (IntKind.i64.wrap (m + n)))) w := by
  unfold execOp
  simp only [ho, hx, hy]
  first | (go_simp; done) | (go_simp; rfl) | (simp only [i64_w]; go_simp; rfl)
theorem ob_cvt {oi : Oper} {a : Act} {w : World} {x : Operand} {n : Int} (ho : oi.op = .convert 3 5 x) (hx : a.eval x = .int .i64 n) : (execOp a.eval oi).run Try.prog w = .ok (.value (.int .u8 (IntKind.u8.wrap n))) w := by
  unfold execOp
  simp only [ho, hx]
  first | (go_simp; done) | (go_simp; rfl)
end Go.Proofs.Ytlkebjkpmiehcaa.Ms
end
section
namespace Go.Proofs.Ytlkebjkpmiehcaa.Ms
open Go.RowKit Go.Proofs.YtlkebjkpmiehcaaW.PrintWords Go.Proofs.YtlkebjkpmiehcaaW.PrintLast Go.Proofs.YtlkebjkpmiehcaaW.PrintMore Go.Proofs.Ytlkebjkpmiehcaa.X Go.Proofs.Ytlkebjkpmiehcaa.Iv
set_option linter.unusedVariables false
set_option linter.unusedSimpArgs false
def h8_2 : ByteArray := (⟨#[3, 3]⟩ : ByteArray) ++ (strOfNums [0, 0, 0, 0, 0, 0, 0, 0, 0, 0, 0, 0, 0, 0, 0, 0, 0, 0, 0, 0, 0, 0, 0, 0, 0, 0, 0, 0, 0, 0, 0, 0])
theorem h8_2z : ((⟨#[3, 3]⟩ : ByteArray)).size + ((strOfNums [0, 0, 0, 0, 0, 0, 0, 0, 0, 0, 0, 0, 0, 0, 0, 0, 0, 0, 0, 0, 0, 0, 0, 0, 0, 0, 0, 0, 0, 0, 0, 0])).size ≤ 9223372036854775807 := by decide +kernel
def h8_3 : ByteArray := h8_2 ++ (⟨#[0, 19, 1, 0, 0, 0]⟩ : ByteArray)
theorem h8_3z : (h8_2).size + ((⟨#[0, 19, 1, 0, 0, 0]⟩ : ByteArray)).size ≤ 9223372036854775807 := by decide +kernel
def h8_4 : ByteArray := (halberdlaw17_made.f 2 h8_3).getD ⟨#[]⟩
theorem h8_4s : halberdlaw17_made.f 2 h8_3 = some h8_4 := some_of (by decide +kernel)
def h8_7 : ByteArray := (⟨#[3, 3]⟩ : ByteArray) ++ (strOfNums [0, 0, 0, 0, 0, 0, 0, 0, 0, 0, 0, 0, 0, 0, 0, 0, 0, 0, 0, 0, 0, 0, 0, 0, 0, 0, 0, 0, 0, 0, 0, 0])
theorem h8_7z : ((⟨#[3, 3]⟩ : ByteArray)).size + ((strOfNums [0, 0, 0, 0, 0, 0, 0, 0, 0, 0, 0, 0, 0, 0, 0, 0, 0, 0, 0, 0, 0, 0, 0, 0, 0, 0, 0, 0, 0, 0, 0, 0])).size ≤ 9223372036854775807 := by decide +kernel
def h8_8 : ByteArray := h8_7 ++ (⟨#[0, 19, 1, 1, 0, 0]⟩ : ByteArray)
theorem h8_8z : (h8_7).size + ((⟨#[0, 19, 1, 1, 0, 0]⟩ : ByteArray)).size ≤ 9223372036854775807 := by decide +kernel
def h8_9 : ByteArray := (halberdlaw17_made.f 2 h8_8).getD ⟨#[]⟩
theorem h8_9s : halberdlaw17_made.f 2 h8_8 = some h8_9 := some_of (by decide +kernel)
def h8_11 : ByteArray := (⟨#[3, 2]⟩ : ByteArray) ++ (strOfNums [0, 0, 0, 0, 0, 0, 0, 0, 0, 0, 0, 0, 0, 0, 0, 0, 0, 0, 0, 0, 0, 0, 0, 0, 0, 0, 0, 0, 0, 0, 0, 0])
theorem h8_11z : ((⟨#[3, 2]⟩ : ByteArray)).size + ((strOfNums [0, 0, 0, 0, 0, 0, 0, 0, 0, 0, 0, 0, 0, 0, 0, 0, 0, 0, 0, 0, 0, 0, 0, 0, 0, 0, 0, 0, 0, 0, 0, 0])).size ≤ 9223372036854775807 := by decide +kernel
def h8_12 : ByteArray := h8_11 ++ (⟨#[0, 19, 1, 0, 0, 0]⟩ : ByteArray)
theorem h8_12z : (h8_11).size + ((⟨#[0, 19, 1, 0, 0, 0]⟩ : ByteArray)).size ≤ 9223372036854775807 := by decide +kernel
def h8_13 : ByteArray := (halberdlaw17_made.f 2 h8_12).getD ⟨#[]⟩
theorem h8_13s : halberdlaw17_made.f 2 h8_12 = some h8_13 := some_of (by decide +kernel)
def h8_16 : ByteArray := (⟨#[3, 3]⟩ : ByteArray) ++ (strOfNums [0, 0, 0, 0, 0, 0, 0, 0, 0, 0, 0, 0, 0, 0, 0, 0, 0, 0, 0, 0, 0, 0, 0, 0, 0, 0, 0, 0, 0, 0, 0, 0])
theorem h8_16z : ((⟨#[3, 3]⟩ : ByteArray)).size + ((strOfNums [0, 0, 0, 0, 0, 0, 0, 0, 0, 0, 0, 0, 0, 0, 0, 0, 0, 0, 0, 0, 0, 0, 0, 0, 0, 0, 0, 0, 0, 0, 0, 0])).size ≤ 9223372036854775807 := by decide +kernel
def h8_17 : ByteArray := h8_16 ++ (⟨#[0, 19, 1, 0]⟩ : ByteArray)
theorem h8_17z : (h8_16).size + ((⟨#[0, 19, 1, 0]⟩ : ByteArray)).size ≤ 9223372036854775807 := by decide +kernel
def h8_19 : ByteArray := (halberdlaw17_vec.f (⟨#[0, 51, 0, 5, 0, 29, 0, 1, 107]⟩ : ByteArray) 2).getD ⟨#[]⟩
theorem h8_19s : halberdlaw17_vec.f (⟨#[0, 51, 0, 5, 0, 29, 0, 1, 107]⟩ : ByteArray) 2 = some h8_19 := some_of (by decide +kernel)
def h8_20 : ByteArray := h8_17 ++ h8_19
theorem h8_20z : (h8_17).size + (h8_19).size ≤ 9223372036854775807 := by decide +kernel
def h8_21 : ByteArray := (halberdlaw17_made.f 2 h8_20).getD ⟨#[]⟩
theorem h8_21s : halberdlaw17_made.f 2 h8_20 = some h8_21 := some_of (by decide +kernel)
def h8_24 : ByteArray := (⟨#[3, 3]⟩ : ByteArray) ++ (strOfNums [0, 0, 0, 0, 0, 0, 0, 0, 0, 0, 0, 0, 0, 0, 0, 0, 0, 0, 0, 0, 0, 0, 0, 0, 0, 0, 0, 0, 0, 0, 0, 0])
theorem h8_24z : ((⟨#[3, 3]⟩ : ByteArray)).size + ((strOfNums [0, 0, 0, 0, 0, 0, 0, 0, 0, 0, 0, 0, 0, 0, 0, 0, 0, 0, 0, 0, 0, 0, 0, 0, 0, 0, 0, 0, 0, 0, 0, 0])).size ≤ 9223372036854775807 := by decide +kernel
def h8_25 : ByteArray := h8_24 ++ (⟨#[0, 19, 1, 0]⟩ : ByteArray)
theorem h8_25z : (h8_24).size + ((⟨#[0, 19, 1, 0]⟩ : ByteArray)).size ≤ 9223372036854775807 := by decide +kernel
def h8_28 : ByteArray := (⟨#[0, 51, 0, 5, 0, 29, 0, 1, 107]⟩ : ByteArray) ++ (⟨#[0, 51, 0, 5, 0, 29, 0, 1, 107]⟩ : ByteArray)
theorem h8_28z : ((⟨#[0, 51, 0, 5, 0, 29, 0, 1, 107]⟩ : ByteArray)).size + ((⟨#[0, 51, 0, 5, 0, 29, 0, 1, 107]⟩ : ByteArray)).size ≤ 9223372036854775807 := by decide +kernel
def h8_29 : ByteArray := (halberdlaw17_vec.f h8_28 2).getD ⟨#[]⟩
theorem h8_29s : halberdlaw17_vec.f h8_28 2 = some h8_29 := some_of (by decide +kernel)
def h8_30 : ByteArray := h8_25 ++ h8_29
theorem h8_30z : (h8_25).size + (h8_29).size ≤ 9223372036854775807 := by decide +kernel
def h8_31 : ByteArray := (halberdlaw17_made.f 2 h8_30).getD ⟨#[]⟩
theorem h8_31s : halberdlaw17_made.f 2 h8_30 = some h8_31 := some_of (by decide +kernel)
def h8_34 : ByteArray := (⟨#[3, 3]⟩ : ByteArray) ++ (strOfNums [0, 0, 0, 0, 0, 0, 0, 0, 0, 0, 0, 0, 0, 0, 0, 0, 0, 0, 0, 0, 0, 0, 0, 0, 0, 0, 0, 0, 0, 0, 0, 0])
theorem h8_34z : ((⟨#[3, 3]⟩ : ByteArray)).size + ((strOfNums [0, 0, 0, 0, 0, 0, 0, 0, 0, 0, 0, 0, 0, 0, 0, 0, 0, 0, 0, 0, 0, 0, 0, 0, 0, 0, 0, 0, 0, 0, 0, 0])).size ≤ 9223372036854775807 := by decide +kernel
def h8_35 : ByteArray := h8_34 ++ (⟨#[0, 19, 1, 0]⟩ : ByteArray)
theorem h8_35z : (h8_34).size + ((⟨#[0, 19, 1, 0]⟩ : ByteArray)).size ≤ 9223372036854775807 := by decide +kernel
def h8_36 : ByteArray := (halberdlaw17_vec.f (⟨#[0, 43, 0, 1, 3]⟩ : ByteArray) 2).getD ⟨#[]⟩
theorem h8_36s : halberdlaw17_vec.f (⟨#[0, 43, 0, 1, 3]⟩ : ByteArray) 2 = some h8_36 := some_of (by decide +kernel)
def h8_37 : ByteArray := h8_35 ++ h8_36
theorem h8_37z : (h8_35).size + (h8_36).size ≤ 9223372036854775807 := by decide +kernel
def h8_38 : ByteArray := (halberdlaw17_made.f 2 h8_37).getD ⟨#[]⟩
theorem h8_38s : halberdlaw17_made.f 2 h8_37 = some h8_38 := some_of (by decide +kernel)
def h8_39 : ByteArray := (halberdlaw17_made.f 8 (⟨#[0, 0]⟩ : ByteArray)).getD ⟨#[]⟩
theorem h8_39s : halberdlaw17_made.f 8 (⟨#[0, 0]⟩ : ByteArray) = some h8_39 := some_of (by decide +kernel)
def h8_40 : ByteArray := (halberdlaw17_made.f 8 (⟨#[]⟩ : ByteArray)).getD ⟨#[]⟩
theorem h8_40s : halberdlaw17_made.f 8 (⟨#[]⟩ : ByteArray) = some h8_40 := some_of (by decide +kernel)
def h8_41 : ByteArray := (halberdlaw17_made.f 8 (⟨#[0, 4, 0, 5, 0, 0]⟩ : ByteArray)).getD ⟨#[]⟩
theorem h8_41s : halberdlaw17_made.f 8 (⟨#[0, 4, 0, 5, 0, 0]⟩ : ByteArray) = some h8_41 := some_of (by decide +kernel)
def h8_42 : ByteArray := (halberdlaw17_made.f 11 (⟨#[0, 0, 0, 0]⟩ : ByteArray)).getD ⟨#[]⟩
theorem h8_42s : halberdlaw17_made.f 11 (⟨#[0, 0, 0, 0]⟩ : ByteArray) = some h8_42 := some_of (by decide +kernel)
def h8_43 : ByteArray := (halberdlaw17_made.f 11 (⟨#[1, 97, 0, 0, 0]⟩ : ByteArray)).getD ⟨#[]⟩
theorem h8_43s : halberdlaw17_made.f 11 (⟨#[1, 97, 0, 0, 0]⟩ : ByteArray) = some h8_43 := some_of (by decide +kernel)
def h8_44 : ByteArray := (halberdlaw17_made.f 11 (⟨#[0, 0, 0, 5, 0, 0, 0, 0, 0]⟩ : ByteArray)).getD ⟨#[]⟩
theorem h8_44s : halberdlaw17_made.f 11 (⟨#[0, 0, 0, 5, 0, 0, 0, 0, 0]⟩ : ByteArray) = some h8_44 := some_of (by decide +kernel)
def h8_45 : ByteArray := (halberdlaw17_vec.f (⟨#[0, 0, 1, 99, 0, 0]⟩ : ByteArray) 3).getD ⟨#[]⟩
theorem h8_45s : halberdlaw17_vec.f (⟨#[0, 0, 1, 99, 0, 0]⟩ : ByteArray) 3 = some h8_45 := some_of (by decide +kernel)
def h8_46 : ByteArray := (⟨#[0]⟩ : ByteArray) ++ h8_45
theorem h8_46z : ((⟨#[0]⟩ : ByteArray)).size + (h8_45).size ≤ 9223372036854775807 := by decide +kernel
def h8_47 : ByteArray := (halberdlaw17_made.f 11 h8_46).getD ⟨#[]⟩
theorem h8_47s : halberdlaw17_made.f 11 h8_46 = some h8_47 := some_of (by decide +kernel)
def h8_48 : ByteArray := (halberdlaw17_vec.f (⟨#[0, 0, 1, 99, 0, 1, 0]⟩ : ByteArray) 3).getD ⟨#[]⟩
theorem h8_48s : halberdlaw17_vec.f (⟨#[0, 0, 1, 99, 0, 1, 0]⟩ : ByteArray) 3 = some h8_48 := some_of (by decide +kernel)
def h8_49 : ByteArray := (⟨#[0]⟩ : ByteArray) ++ h8_48
theorem h8_49z : ((⟨#[0]⟩ : ByteArray)).size + (h8_48).size ≤ 9223372036854775807 := by decide +kernel
def h8_50 : ByteArray := (halberdlaw17_made.f 11 h8_49).getD ⟨#[]⟩
theorem h8_50s : halberdlaw17_made.f 11 h8_49 = some h8_50 := some_of (by decide +kernel)
def h8_51 : ByteArray := (halberdlaw17_made.f 15 (⟨#[4, 3, 0, 0]⟩ : ByteArray)).getD ⟨#[]⟩
theorem h8_51s : halberdlaw17_made.f 15 (⟨#[4, 3, 0, 0]⟩ : ByteArray) = some h8_51 := some_of (by decide +kernel)
def h8_52 : ByteArray := (halberdlaw17_made.f 15 (⟨#[4, 3, 0, 1]⟩ : ByteArray)).getD ⟨#[]⟩
theorem h8_52s : halberdlaw17_made.f 15 (⟨#[4, 3, 0, 1]⟩ : ByteArray) = some h8_52 := some_of (by decide +kernel)
def h8_54 : ByteArray := (halberdlaw17_made.f 20 (strOfNums [0, 0, 0, 0, 0, 0, 0, 0, 0, 0, 0, 0, 0, 0, 0, 0, 0, 0, 0, 0, 0, 0, 0, 0, 0, 0, 0, 0, 0, 0, 0, 0])).getD ⟨#[]⟩
theorem h8_54s : halberdlaw17_made.f 20 (strOfNums [0, 0, 0, 0, 0, 0, 0, 0, 0, 0, 0, 0, 0, 0, 0, 0, 0, 0, 0, 0, 0, 0, 0, 0, 0, 0, 0, 0, 0, 0, 0, 0]) = some h8_54 := some_of (by decide +kernel)
def h8_56 : ByteArray := (strOfNums [0, 0, 0, 0, 0, 0, 0, 0, 0, 0, 0, 0, 0, 0, 0, 0, 0, 0, 0, 0, 0, 0, 0, 0, 0, 0, 0, 0, 0, 0, 0, 0]) ++ (⟨#[97]⟩ : ByteArray)
theorem h8_56z : ((strOfNums [0, 0, 0, 0, 0, 0, 0, 0, 0, 0, 0, 0, 0, 0, 0, 0, 0, 0, 0, 0, 0, 0, 0, 0, 0, 0, 0, 0, 0, 0, 0, 0])).size + ((⟨#[97]⟩ : ByteArray)).size ≤ 9223372036854775807 := by decide +kernel
def h8_57 : ByteArray := (halberdlaw17_made.f 20 h8_56).getD ⟨#[]⟩
theorem h8_57s : halberdlaw17_made.f 20 h8_56 = some h8_57 := some_of (by decide +kernel)
def h8_58 : ByteArray := (halberdlaw17_made.f 20 (⟨#[]⟩ : ByteArray)).getD ⟨#[]⟩
theorem h8_58s : halberdlaw17_made.f 20 (⟨#[]⟩ : ByteArray) = some h8_58 := some_of (by decide +kernel)
def h8_60 : ByteArray := strOfNums ([0, 0, 0, 0, 0, 0, 0, 0] : List Int)
def h8_61 : ByteArray := h8_60 ++ (⟨#[0, 0, 1, 116, 0, 0]⟩ : ByteArray)
theorem h8_61z : (h8_60).size + ((⟨#[0, 0, 1, 116, 0, 0]⟩ : ByteArray)).size ≤ 9223372036854775807 := by decide +kernel
def h8_62 : ByteArray := (halberdlaw17_made.f 4 h8_61).getD ⟨#[]⟩
theorem h8_62s : halberdlaw17_made.f 4 h8_61 = some h8_62 := some_of (by decide +kernel)
def h8_64 : ByteArray := strOfNums ([0, 0, 0, 0, 0, 0, 0, 0] : List Int)
def h8_65 : ByteArray := h8_64 ++ (⟨#[0, 0, 0, 0, 0]⟩ : ByteArray)
theorem h8_65z : (h8_64).size + ((⟨#[0, 0, 0, 0, 0]⟩ : ByteArray)).size ≤ 9223372036854775807 := by decide +kernel
def h8_66 : ByteArray := (halberdlaw17_made.f 4 h8_65).getD ⟨#[]⟩
theorem h8_66s : halberdlaw17_made.f 4 h8_65 = some h8_66 := some_of (by decide +kernel)
def h8_71 (y : Int) : ByteArray := strOfNums ([y] : List Int)
def h8_72 (y : Int) : ByteArray := (halberdlaw17_made.f 24 (h8_71 y)).getD ⟨#[]⟩
theorem h8_72s (y : Int) (h0 : 0 ≤ y) (h1 : y < 2) : halberdlaw17_made.f 24 (h8_71 y) = some (h8_72 y) := by
  have key : ∀ n : Nat, n < 2 → (halberdlaw17_made.f 24 (h8_71 (n : Int))).isSome = true := by decide +kernel
  obtain ⟨n, rfl⟩ := Int.eq_ofNat_of_zero_le h0
  exact some_of (key n (by omega))
def h8_78 (z : Int) : ByteArray := strOfNums ([(2 + z)] : List Int)
def h8_79 (z : Int) : ByteArray := (halberdlaw17_made.f 24 (h8_78 z)).getD ⟨#[]⟩
theorem h8_79s (z : Int) (h0 : 0 ≤ z) (h1 : z < 128) : halberdlaw17_made.f 24 (h8_78 z) = some (h8_79 z) := by
  have key : ∀ n : Nat, n < 128 → (halberdlaw17_made.f 24 (h8_78 (n : Int))).isSome = true := by decide +kernel
  obtain ⟨n, rfl⟩ := Int.eq_ofNat_of_zero_le h0
  exact some_of (key n (by omega))
def h8_80 : ByteArray := (halberdlaw17_made.f 24 (⟨#[]⟩ : ByteArray)).getD ⟨#[]⟩
theorem h8_80s : halberdlaw17_made.f 24 (⟨#[]⟩ : ByteArray) = some h8_80 := some_of (by decide +kernel)
def h8_81 : ByteArray := (halberdlaw17_made.f 24 (⟨#[0, 0]⟩ : ByteArray)).getD ⟨#[]⟩
theorem h8_81s : halberdlaw17_made.f 24 (⟨#[0, 0]⟩ : ByteArray) = some h8_81 := some_of (by decide +kernel)
def h8_83 : ByteArray := strOfNums ([3, 0, 0, 0] : List Int)
def h8_L (y : Int) (z : Int) : List ByteArray := [h8_4, h8_9, h8_13, h8_21, h8_31, h8_38, h8_39, h8_40, h8_41, h8_42, h8_43, h8_44, h8_47, h8_50, h8_51, h8_52, h8_54, h8_57, h8_58, h8_62, h8_66, (h8_72 y), (h8_79 z), h8_80, h8_81, (⟨#[24, 0, 0, 2, 0]⟩ : ByteArray), (⟨#[]⟩ : ByteArray), (⟨#[24]⟩ : ByteArray), h8_83]
def h8_P (x : Int) (y : Int) (z : Int) : List PK := [(PK.val (.string (⟨#[3, 3]⟩ : ByteArray))), (PK.val (.string (strOfNums [0, 0, 0, 0, 0, 0, 0, 0, 0, 0, 0, 0, 0, 0, 0, 0, 0, 0, 0, 0, 0, 0, 0, 0, 0, 0, 0, 0, 0, 0, 0, 0]))), (PK.val (.string h8_2)), (PK.val (.string h8_3)), (PK.val (.string h8_4)), (PK.val (.string (⟨#[3, 3]⟩ : ByteArray))), (PK.val (.string (strOfNums [0, 0, 0, 0, 0, 0, 0, 0, 0, 0, 0, 0, 0, 0, 0, 0, 0, 0, 0, 0, 0, 0, 0, 0, 0, 0, 0, 0, 0, 0, 0, 0]))), (PK.val (.string h8_7)), (PK.val (.string h8_8)), (PK.val (.string h8_9)), (PK.val (.string (strOfNums [0, 0, 0, 0, 0, 0, 0, 0, 0, 0, 0, 0, 0, 0, 0, 0, 0, 0, 0, 0, 0, 0, 0, 0, 0, 0, 0, 0, 0, 0, 0, 0]))), (PK.val (.string h8_11)), (PK.val (.string h8_12)), (PK.val (.string h8_13)), (PK.val (.string (⟨#[3, 3]⟩ : ByteArray))), (PK.val (.string (strOfNums [0, 0, 0, 0, 0, 0, 0, 0, 0, 0, 0, 0, 0, 0, 0, 0, 0, 0, 0, 0, 0, 0, 0, 0, 0, 0, 0, 0, 0, 0, 0, 0]))), (PK.val (.string h8_16)), (PK.val (.string h8_17)), (PK.val (.string (⟨#[0, 51, 0, 5, 0, 29, 0, 1, 107]⟩ : ByteArray))), (PK.val (.string h8_19)), (PK.val (.string h8_20)), (PK.val (.string h8_21)), (PK.val (.string (⟨#[3, 3]⟩ : ByteArray))), (PK.val (.string (strOfNums [0, 0, 0, 0, 0, 0, 0, 0, 0, 0, 0, 0, 0, 0, 0, 0, 0, 0, 0, 0, 0, 0, 0, 0, 0, 0, 0, 0, 0, 0, 0, 0]))), (PK.val (.string h8_24)), (PK.val (.string h8_25)), (PK.val (.string (⟨#[0, 51, 0, 5, 0, 29, 0, 1, 107]⟩ : ByteArray))), (PK.val (.string (⟨#[0, 51, 0, 5, 0, 29, 0, 1, 107]⟩ : ByteArray))), (PK.val (.string h8_28)), (PK.val (.string h8_29)), (PK.val (.string h8_30)), (PK.val (.string h8_31)), (PK.val (.string (⟨#[3, 3]⟩ : ByteArray))), (PK.val (.string (strOfNums [0, 0, 0, 0, 0, 0, 0, 0, 0, 0, 0, 0, 0, 0, 0, 0, 0, 0, 0, 0, 0, 0, 0, 0, 0, 0, 0, 0, 0, 0, 0, 0]))), (PK.val (.string h8_34)), (PK.val (.string h8_35)), (PK.val (.string h8_36)), (PK.val (.string h8_37)), (PK.val (.string h8_38)), (PK.val (.string h8_39)), (PK.val (.string h8_40)), (PK.val (.string h8_41)), (PK.val (.string h8_42)), (PK.val (.string h8_43)), (PK.val (.string h8_44)), (PK.val (.string h8_45)), (PK.val (.string h8_46)), (PK.val (.string h8_47)), (PK.val (.string h8_48)), (PK.val (.string h8_49)), (PK.val (.string h8_50)), (PK.val (.string h8_51)), (PK.val (.string h8_52)), (PK.val (.string (strOfNums [0, 0, 0, 0, 0, 0, 0, 0, 0, 0, 0, 0, 0, 0, 0, 0, 0, 0, 0, 0, 0, 0, 0, 0, 0, 0, 0, 0, 0, 0, 0, 0]))), (PK.val (.string h8_54)), (PK.val (.string (strOfNums [0, 0, 0, 0, 0, 0, 0, 0, 0, 0, 0, 0, 0, 0, 0, 0, 0, 0, 0, 0, 0, 0, 0, 0, 0, 0, 0, 0, 0, 0, 0, 0]))), (PK.val (.string h8_56)), (PK.val (.string h8_57)), (PK.val (.string h8_58)), (PK.row ([0, 0, 0, 0, 0, 0, 0, 0] : List Int)), (PK.val (.string h8_60)), (PK.val (.string h8_61)), (PK.val (.string h8_62)), (PK.row ([0, 0, 0, 0, 0, 0, 0, 0] : List Int)), (PK.val (.string h8_64)), (PK.val (.string h8_65)), (PK.val (.string h8_66)), (PK.val (.int .i64 x)), (PK.val (.int .i64 y)), (PK.val (.int .u8 y)), (PK.row ([y] : List Int)), (PK.val (.string (h8_71 y))), (PK.val (.string (h8_72 y))), (PK.val (.int .i64 x)), (PK.val (.int .i64 z)), (PK.val (.int .i64 (2 + z))), (PK.val (.int .u8 (2 + z))), (PK.row ([(2 + z)] : List Int)), (PK.val (.string (h8_78 z))), (PK.val (.string (h8_79 z))), (PK.val (.string h8_80)), (PK.val (.string h8_81)), (PK.row ([3, 0, 0, 0] : List Int)), (PK.val (.string h8_83)), (PK.texts (h8_L y z)), (PK.texts (h8_L y z))]
def h8_W : List Int := [0, 1702, 1702, 0, 1702, 1700, 0, 1700, 0, 0, 1702, 1700, 0, 1700, 0, 1700, 0, 1700, 1700, 0, 1700, 0, 1702, 1700, 1700, 1700, 1701, 1700, 1701]
theorem h8_ok0 : (getM h8_4).2 = 0 ∧ ByteArray.size h8_4 ≤ 65536 := by decide +kernel
theorem h8_ok1 : (getM h8_9).2 = 1702 ∧ ByteArray.size h8_9 ≤ 65536 := by decide +kernel
theorem h8_ok2 : (getM h8_13).2 = 1702 ∧ ByteArray.size h8_13 ≤ 65536 := by decide +kernel
theorem h8_ok3 : (getM h8_21).2 = 0 ∧ ByteArray.size h8_21 ≤ 65536 := by decide +kernel
theorem h8_ok4 : (getM h8_31).2 = 1702 ∧ ByteArray.size h8_31 ≤ 65536 := by decide +kernel
theorem h8_ok5 : (getM h8_38).2 = 1700 ∧ ByteArray.size h8_38 ≤ 65536 := by decide +kernel
theorem h8_ok6 : (getM h8_39).2 = 0 ∧ ByteArray.size h8_39 ≤ 65536 := by decide +kernel
theorem h8_ok7 : (getM h8_40).2 = 1700 ∧ ByteArray.size h8_40 ≤ 65536 := by decide +kernel
theorem h8_ok8 : (getM h8_41).2 = 0 ∧ ByteArray.size h8_41 ≤ 65536 := by decide +kernel
theorem h8_ok9 : (getM h8_42).2 = 0 ∧ ByteArray.size h8_42 ≤ 65536 := by decide +kernel
theorem h8_ok10 : (getM h8_43).2 = 1702 ∧ ByteArray.size h8_43 ≤ 65536 := by decide +kernel
theorem h8_ok11 : (getM h8_44).2 = 1700 ∧ ByteArray.size h8_44 ≤ 65536 := by decide +kernel
theorem h8_ok12 : (getM h8_47).2 = 0 ∧ ByteArray.size h8_47 ≤ 65536 := by decide +kernel
theorem h8_ok13 : (getM h8_50).2 = 1700 ∧ ByteArray.size h8_50 ≤ 65536 := by decide +kernel
theorem h8_ok14 : (getM h8_51).2 = 0 ∧ ByteArray.size h8_51 ≤ 65536 := by decide +kernel
theorem h8_ok15 : (getM h8_52).2 = 1700 ∧ ByteArray.size h8_52 ≤ 65536 := by decide +kernel
theorem h8_ok16 : (getM h8_54).2 = 0 ∧ ByteArray.size h8_54 ≤ 65536 := by decide +kernel
theorem h8_ok17 : (getM h8_57).2 = 1700 ∧ ByteArray.size h8_57 ≤ 65536 := by decide +kernel
theorem h8_ok18 : (getM h8_58).2 = 1700 ∧ ByteArray.size h8_58 ≤ 65536 := by decide +kernel
theorem h8_ok19 : (getM h8_62).2 = 0 ∧ ByteArray.size h8_62 ≤ 65536 := by decide +kernel
theorem h8_ok20 : (getM h8_66).2 = 1700 ∧ ByteArray.size h8_66 ≤ 65536 := by decide +kernel
theorem h8_ok21 (y : Int) (h0 : 0 ≤ y) (h1 : y < 2) : (getM (h8_72 y)).2 = 0 ∧ ByteArray.size (h8_72 y) ≤ 65536 := by
  have key : ∀ n : Nat, n < 2 → (getM (h8_72 (n : Int))).2 = 0 ∧ ByteArray.size (h8_72 (n : Int)) ≤ 65536 := by decide +kernel
  obtain ⟨n, rfl⟩ := Int.eq_ofNat_of_zero_le h0
  exact key n (by omega)
theorem h8_ok22 (z : Int) (h0 : 0 ≤ z) (h1 : z < 128) : (getM (h8_79 z)).2 = 1702 ∧ ByteArray.size (h8_79 z) ≤ 65536 := by
  have key : ∀ n : Nat, n < 128 → (getM (h8_79 (n : Int))).2 = 1702 ∧ ByteArray.size (h8_79 (n : Int)) ≤ 65536 := by decide +kernel
  obtain ⟨n, rfl⟩ := Int.eq_ofNat_of_zero_le h0
  exact key n (by omega)
theorem h8_ok23 : (getM h8_80).2 = 1700 ∧ ByteArray.size h8_80 ≤ 65536 := by decide +kernel
theorem h8_ok24 : (getM h8_81).2 = 1700 ∧ ByteArray.size h8_81 ≤ 65536 := by decide +kernel
theorem h8_ok25 : (getM (⟨#[24, 0, 0, 2, 0]⟩ : ByteArray)).2 = 1700 ∧ ByteArray.size (⟨#[24, 0, 0, 2, 0]⟩ : ByteArray) ≤ 65536 := by decide +kernel
theorem h8_ok26 : (getM (⟨#[]⟩ : ByteArray)).2 = 1701 ∧ ByteArray.size (⟨#[]⟩ : ByteArray) ≤ 65536 := by decide +kernel
theorem h8_ok27 : (getM (⟨#[24]⟩ : ByteArray)).2 = 1700 ∧ ByteArray.size (⟨#[24]⟩ : ByteArray) ≤ 65536 := by decide +kernel
theorem h8_ok28 : (getM h8_83).2 = 1701 ∧ ByteArray.size h8_83 ≤ 65536 := by decide +kernel
theorem h8_ok (y : Int) (z : Int) (hy0 : 0 ≤ y) (hy1 : y < 2) (hz0 : 0 ≤ z) (hz1 : z < 128) : ∀ k, k < 29 → (getM ((h8_L y z).getD k ⟨#[]⟩)).2 = h8_W.getD k 0 ∧ ByteArray.size ((h8_L y z).getD k ⟨#[]⟩) ≤ 65536 := (lt_succ (n := 28) (lt_succ (n := 27) (lt_succ (n := 26) (lt_succ (n := 25) (lt_succ (n := 24) (lt_succ (n := 23) (lt_succ (n := 22) (lt_succ (n := 21) (lt_succ (n := 20) (lt_succ (n := 19) (lt_succ (n := 18) (lt_succ (n := 17) (lt_succ (n := 16) (lt_succ (n := 15) (lt_succ (n := 14) (lt_succ (n := 13) (lt_succ (n := 12) (lt_succ (n := 11) (lt_succ (n := 10) (lt_succ (n := 9) (lt_succ (n := 8) (lt_succ (n := 7) (lt_succ (n := 6) (lt_succ (n := 5) (lt_succ (n := 4) (lt_succ (n := 3) (lt_succ (n := 2) (lt_succ (n := 1) (lt_succ (n := 0) lt_zero (by simp only [h8_L, h8_W, List.getD_cons_succ, List.getD_cons_zero]; exact h8_ok0)) (by simp only [h8_L, h8_W, List.getD_cons_succ, List.getD_cons_zero]; exact h8_ok1)) (by simp only [h8_L, h8_W, List.getD_cons_succ, List.getD_cons_zero]; exact h8_ok2)) (by simp only [h8_L, h8_W, List.getD_cons_succ, List.getD_cons_zero]; exact h8_ok3)) (by simp only [h8_L, h8_W, List.getD_cons_succ, List.getD_cons_zero]; exact h8_ok4)) (by simp only [h8_L, h8_W, List.getD_cons_succ, List.getD_cons_zero]; exact h8_ok5)) (by simp only [h8_L, h8_W, List.getD_cons_succ, List.getD_cons_zero]; exact h8_ok6)) (by simp only [h8_L, h8_W, List.getD_cons_succ, List.getD_cons_zero]; exact h8_ok7)) (by simp only [h8_L, h8_W, List.getD_cons_succ, List.getD_cons_zero]; exact h8_ok8)) (by simp only [h8_L, h8_W, List.getD_cons_succ, List.getD_cons_zero]; exact h8_ok9)) (by simp only [h8_L, h8_W, List.getD_cons_succ, List.getD_cons_zero]; exact h8_ok10)) (by simp only [h8_L, h8_W, List.getD_cons_succ, List.getD_cons_zero]; exact h8_ok11)) (by simp only [h8_L, h8_W, List.getD_cons_succ, List.getD_cons_zero]; exact h8_ok12)) (by simp only [h8_L, h8_W, List.getD_cons_succ, List.getD_cons_zero]; exact h8_ok13)) (by simp only [h8_L, h8_W, List.getD_cons_succ, List.getD_cons_zero]; exact h8_ok14)) (by simp only [h8_L, h8_W, List.getD_cons_succ, List.getD_cons_zero]; exact h8_ok15)) (by simp only [h8_L, h8_W, List.getD_cons_succ, List.getD_cons_zero]; exact h8_ok16)) (by simp only [h8_L, h8_W, List.getD_cons_succ, List.getD_cons_zero]; exact h8_ok17)) (by simp only [h8_L, h8_W, List.getD_cons_succ, List.getD_cons_zero]; exact h8_ok18)) (by simp only [h8_L, h8_W, List.getD_cons_succ, List.getD_cons_zero]; exact h8_ok19)) (by simp only [h8_L, h8_W, List.getD_cons_succ, List.getD_cons_zero]; exact h8_ok20)) (by simp only [h8_L, h8_W, List.getD_cons_succ, List.getD_cons_zero]; exact (h8_ok21 y hy0 hy1))) (by simp only [h8_L, h8_W, List.getD_cons_succ, List.getD_cons_zero]; exact (h8_ok22 z hz0 hz1))) (by simp only [h8_L, h8_W, List.getD_cons_succ, List.getD_cons_zero]; exact h8_ok23)) (by simp only [h8_L, h8_W, List.getD_cons_succ, List.getD_cons_zero]; exact h8_ok24)) (by simp only [h8_L, h8_W, List.getD_cons_succ, List.getD_cons_zero]; exact h8_ok25)) (by simp only [h8_L, h8_W, List.getD_cons_succ, List.getD_cons_zero]; exact h8_ok26)) (by simp only [h8_L, h8_W, List.getD_cons_succ, List.getD_cons_zero]; exact h8_ok27)) (by simp only [h8_L, h8_W, List.getD_cons_succ, List.getD_cons_zero]; exact h8_ok28))
set_option maxRecDepth 100000 in
set_option maxHeartbeats 8000000 in
theorem others_c (which x : Int) (w : World) : Calls Try.prog 8 #[.int .i64 which, .int .i64 x] w fun ex w' => ex = .returned (.bool true) ∧ Below w.heap.size w w' := by
  have HB := Aside0.mk (Below.refl w.heap.size w)
  obtain ⟨y, hy⟩ : ∃ y, Go.bits .and .i64 x 1 = y := ⟨_, rfl⟩
  have hyb := and_1 x
  rw [hy] at hyb
  have hy0 : 0 ≤ y := by omega
  have hy1 : y < 2 := by omega
  have Hy := Aside0.mk hy
  clear hy hyb
  obtain ⟨z, hz⟩ : ∃ z, Go.bits .and .i64 x 127 = z := ⟨_, rfl⟩
  have hzb := and_127 x
  rw [hz] at hzb
  have hz0 : 0 ≤ z := by omega
  have hz1 : z < 128 := by omega
  have Hz := Aside0.mk hz
  clear hz hzb
  obtain ⟨u, hu⟩ : ∃ u, IntKind.u64.wrap which = u := ⟨_, rfl⟩
  have hu0 : 0 ≤ u := by rw [← hu, Go.IntKind.wrap_u64]; exact Int.emod_nonneg _ (by decide)
  obtain ⟨k, hk⟩ : ∃ k, u % 29 = k := ⟨_, rfl⟩
  have hk0 : 0 ≤ k := by omega
  have hk1 : k < 29 := by omega
  have HU := Aside0.mk hu
  have HKK := Aside0.mk hk
  clear hu hk
  go_enter Try.func8, Try.ntmps8
  go_wp2_with (first
    | (go_at_call 22; (with_reducible refine (awake_c _).mono ?_); rintro e_ w_ ⟨rfl, b_⟩; have n0_ := Aside0.mk (below_step HB.out b_); clear HB; have HB := n0_; clear n0_ b_)
    | ((with_reducible refine gate_dst (N := 13) rfl ?_); refine Kd.R_make (Kd.int .u8) _ 5 rfl (N := 13) rfl 39 _ _ rfl 32 rfl rfl Try.underlying39 (.int .u8 0) 1 info5 rfl (by decide) (by omega) 0 (ok := fun _ => True) (okp := fun _ => True) rfl (fun _ hk => hk) trivial (by omega) (by decide) (Below.refl _ _) (Nat.le_refl _) ?_; intro v1 w1 ho hb hg_ hn_; clear hg_ hn_; have hcv := own_string (P := Try.prog) Try.underlying39 Try.underlying5 Try.underlying9 (Kd.own_of_R ho); have n0_ := Aside0.mk (below_step HB.out hb); clear HB; have HB := n0_; clear n0_ hb))
  clear ho hcv
  refine region_inv (pOf (h8_P x y z)) (by kernel_rfl) (by kernel_rfl) (by kernel_rfl) (by kernel_rfl) (pOf_stable _) ?_ ?_
  · refine (lt_succ (n := 85) (lt_succ (n := 84) (lt_succ (n := 83) (lt_succ (n := 82) (lt_succ (n := 81) (lt_succ (n := 80) (lt_succ (n := 79) (lt_succ (n := 78) (lt_succ (n := 77) (lt_succ (n := 76) (lt_succ (n := 75) (lt_succ (n := 74) (lt_succ (n := 73) (lt_succ (n := 72) (lt_succ (n := 71) (lt_succ (n := 70) (lt_succ (n := 69) (lt_succ (n := 68) (lt_succ (n := 67) (lt_succ (n := 66) (lt_succ (n := 65) (lt_succ (n := 64) (lt_succ (n := 63) (lt_succ (n := 62) (lt_succ (n := 61) (lt_succ (n := 60) (lt_succ (n := 59) (lt_succ (n := 58) (lt_succ (n := 57) (lt_succ (n := 56) (lt_succ (n := 55) (lt_succ (n := 54) (lt_succ (n := 53) (lt_succ (n := 52) (lt_succ (n := 51) (lt_succ (n := 50) (lt_succ (n := 49) (lt_succ (n := 48) (lt_succ (n := 47) (lt_succ (n := 46) (lt_succ (n := 45) (lt_succ (n := 44) (lt_succ (n := 43) (lt_succ (n := 42) (lt_succ (n := 41) (lt_succ (n := 40) (lt_succ (n := 39) (lt_succ (n := 38) (lt_succ (n := 37) (lt_succ (n := 36) (lt_succ (n := 35) (lt_succ (n := 34) (lt_succ (n := 33) (lt_succ (n := 32) (lt_succ (n := 31) (lt_succ (n := 30) (lt_succ (n := 29) (lt_succ (n := 28) (lt_succ (n := 27) (lt_succ (n := 26) (lt_succ (n := 25) (lt_succ (n := 24) (lt_succ (n := 23) (lt_succ (n := 22) (lt_succ (n := 21) (lt_succ (n := 20) (lt_succ (n := 19) (lt_succ (n := 18) (lt_succ (n := 17) (lt_succ (n := 16) (lt_succ (n := 15) (lt_succ (n := 14) (lt_succ (n := 13) (lt_succ (n := 12) (lt_succ (n := 11) (lt_succ (n := 10) (lt_succ (n := 9) (lt_succ (n := 8) (lt_succ (n := 7) (lt_succ (n := 6) (lt_succ (n := 5) (lt_succ (n := 4) (lt_succ (n := 3) (lt_succ (n := 2) (lt_succ (n := 1) (lt_succ (n := 0) lt_zero ?o0) ?o1) ?o2) ?o3) ?o4) ?o5) ?o6) ?o7) ?o8) ?o9) ?o10) ?o11) ?o12) ?o13) ?o14) ?o15) ?o16) ?o17) ?o18) ?o19) ?o20) ?o21) ?o22) ?o23) ?o24) ?o25) ?o26) ?o27) ?o28) ?o29) ?o30) ?o31) ?o32) ?o33) ?o34) ?o35) ?o36) ?o37) ?o38) ?o39) ?o40) ?o41) ?o42) ?o43) ?o44) ?o45) ?o46) ?o47) ?o48) ?o49) ?o50) ?o51) ?o52) ?o53) ?o54) ?o55) ?o56) ?o57) ?o58) ?o59) ?o60) ?o61) ?o62) ?o63) ?o64) ?o65) ?o66) ?o67) ?o68) ?o69) ?o70) ?o71) ?o72) ?o73) ?o74) ?o75) ?o76) ?o77) ?o78) ?o79) ?o80) ?o81) ?o82) ?o83) ?o84) ?o85)
    case o0 =>
      intro oi hoi a w vals hb hd hf K hK
      obtain rfl := Option.some.inj hoi
      have e6 : a.tmps[6]? = some (.string (⟨#[3, 3]⟩ : ByteArray)) := (hf 6 (free_of (by kernel_rfl))).trans rfl
      exact ob_move (.inl rfl) (ev e6) (hK _ _ rfl (Below.refl _ _))
    case o1 =>
      intro oi hoi a w vals hb hd hf K hK
      obtain rfl := Option.some.inj hoi
      have e5 : a.tmps[5]? = some (.string (strOfNums [0, 0, 0, 0, 0, 0, 0, 0, 0, 0, 0, 0, 0, 0, 0, 0, 0, 0, 0, 0, 0, 0, 0, 0, 0, 0, 0, 0, 0, 0, 0, 0])) := (hf 5 (free_of (by kernel_rfl))).trans rfl
      exact ob_move (.inl rfl) (ev e5) (hK _ _ rfl (Below.refl _ _))
    case o2 =>
      intro oi hoi a w vals hb hd hf K hK
      obtain rfl := Option.some.inj hoi
      have e15 : a.tmps[15]? = some (.string (⟨#[3, 3]⟩ : ByteArray)) := by
        obtain ⟨h1, h2⟩ := hd 0 (by kernel_rfl)
        have h3 : vals 0 = .string (⟨#[3, 3]⟩ : ByteArray) := h1
        rw [← h3]
        exact h2 15 rfl
      have e16 : a.tmps[16]? = some (.string (strOfNums [0, 0, 0, 0, 0, 0, 0, 0, 0, 0, 0, 0, 0, 0, 0, 0, 0, 0, 0, 0, 0, 0, 0, 0, 0, 0, 0, 0, 0, 0, 0, 0])) := by
        obtain ⟨h1, h2⟩ := hd 1 (by kernel_rfl)
        have h3 : vals 1 = .string (strOfNums [0, 0, 0, 0, 0, 0, 0, 0, 0, 0, 0, 0, 0, 0, 0, 0, 0, 0, 0, 0, 0, 0, 0, 0, 0, 0, 0, 0, 0, 0, 0, 0]) := h1
        rw [← h3]
        exact h2 16 rfl
      refine ob_run (v := .string h8_2) (w' := w) ?_ (hK _ _ rfl (Below.refl _ _))
      exact ob_cat rfl (ev e15) (ev e16) h8_2z
    case o3 =>
      intro oi hoi a w vals hb hd hf K hK
      obtain rfl := Option.some.inj hoi
      have e17 : a.tmps[17]? = some (.string h8_2) := by
        obtain ⟨h1, h2⟩ := hd 2 (by kernel_rfl)
        have h3 : vals 2 = .string h8_2 := h1
        rw [← h3]
        exact h2 17 rfl
      refine ob_run (v := .string h8_3) (w' := w) ?_ (hK _ _ rfl (Below.refl _ _))
      exact ob_cat rfl (ev e17) rfl h8_3z
    case o4 =>
      intro oi hoi a w vals hb hd hf K hK
      obtain rfl := Option.some.inj hoi
      have e18 : a.tmps[18]? = some (.string h8_3) := by
        obtain ⟨h1, h2⟩ := hd 3 (by kernel_rfl)
        have h3 : vals 3 = .string h8_3 := h1
        rw [← h3]
        exact h2 18 rfl
      refine ob_call (f := 28) Try.func28 (by kernel_rfl) rfl #[.int .i64 2, .string h8_3] rfl (by simp only [List.map_toArray, List.map_cons, List.map_nil, ev e18]; rfl) ?_
      refine (halberdlaw17_made.calls _ _ _ _ h8_4s).mono ?_
      rintro e_ w_ ⟨rfl, b_⟩
      exact ⟨_, rfl, hK _ _ rfl b_⟩
    case o5 =>
      intro oi hoi a w vals hb hd hf K hK
      obtain rfl := Option.some.inj hoi
      have e6 : a.tmps[6]? = some (.string (⟨#[3, 3]⟩ : ByteArray)) := (hf 6 (free_of (by kernel_rfl))).trans rfl
      exact ob_move (.inl rfl) (ev e6) (hK _ _ rfl (Below.refl _ _))
    case o6 =>
      intro oi hoi a w vals hb hd hf K hK
      obtain rfl := Option.some.inj hoi
      have e5 : a.tmps[5]? = some (.string (strOfNums [0, 0, 0, 0, 0, 0, 0, 0, 0, 0, 0, 0, 0, 0, 0, 0, 0, 0, 0, 0, 0, 0, 0, 0, 0, 0, 0, 0, 0, 0, 0, 0])) := (hf 5 (free_of (by kernel_rfl))).trans rfl
      exact ob_move (.inl rfl) (ev e5) (hK _ _ rfl (Below.refl _ _))
    case o7 =>
      intro oi hoi a w vals hb hd hf K hK
      obtain rfl := Option.some.inj hoi
      have e20 : a.tmps[20]? = some (.string (⟨#[3, 3]⟩ : ByteArray)) := by
        obtain ⟨h1, h2⟩ := hd 5 (by kernel_rfl)
        have h3 : vals 5 = .string (⟨#[3, 3]⟩ : ByteArray) := h1
        rw [← h3]
        exact h2 20 rfl
      have e21 : a.tmps[21]? = some (.string (strOfNums [0, 0, 0, 0, 0, 0, 0, 0, 0, 0, 0, 0, 0, 0, 0, 0, 0, 0, 0, 0, 0, 0, 0, 0, 0, 0, 0, 0, 0, 0, 0, 0])) := by
        obtain ⟨h1, h2⟩ := hd 6 (by kernel_rfl)
        have h3 : vals 6 = .string (strOfNums [0, 0, 0, 0, 0, 0, 0, 0, 0, 0, 0, 0, 0, 0, 0, 0, 0, 0, 0, 0, 0, 0, 0, 0, 0, 0, 0, 0, 0, 0, 0, 0]) := h1
        rw [← h3]
        exact h2 21 rfl
      refine ob_run (v := .string h8_7) (w' := w) ?_ (hK _ _ rfl (Below.refl _ _))
      exact ob_cat rfl (ev e20) (ev e21) h8_7z
    case o8 =>
      intro oi hoi a w vals hb hd hf K hK
      obtain rfl := Option.some.inj hoi
      have e22 : a.tmps[22]? = some (.string h8_7) := by
        obtain ⟨h1, h2⟩ := hd 7 (by kernel_rfl)
        have h3 : vals 7 = .string h8_7 := h1
        rw [← h3]
        exact h2 22 rfl
      refine ob_run (v := .string h8_8) (w' := w) ?_ (hK _ _ rfl (Below.refl _ _))
      exact ob_cat rfl (ev e22) rfl h8_8z
    case o9 =>
      intro oi hoi a w vals hb hd hf K hK
      obtain rfl := Option.some.inj hoi
      have e23 : a.tmps[23]? = some (.string h8_8) := by
        obtain ⟨h1, h2⟩ := hd 8 (by kernel_rfl)
        have h3 : vals 8 = .string h8_8 := h1
        rw [← h3]
        exact h2 23 rfl
      refine ob_call (f := 28) Try.func28 (by kernel_rfl) rfl #[.int .i64 2, .string h8_8] rfl (by simp only [List.map_toArray, List.map_cons, List.map_nil, ev e23]; rfl) ?_
      refine (halberdlaw17_made.calls _ _ _ _ h8_9s).mono ?_
      rintro e_ w_ ⟨rfl, b_⟩
      exact ⟨_, rfl, hK _ _ rfl b_⟩
    case o10 =>
      intro oi hoi a w vals hb hd hf K hK
      obtain rfl := Option.some.inj hoi
      have e5 : a.tmps[5]? = some (.string (strOfNums [0, 0, 0, 0, 0, 0, 0, 0, 0, 0, 0, 0, 0, 0, 0, 0, 0, 0, 0, 0, 0, 0, 0, 0, 0, 0, 0, 0, 0, 0, 0, 0])) := (hf 5 (free_of (by kernel_rfl))).trans rfl
      exact ob_move (.inl rfl) (ev e5) (hK _ _ rfl (Below.refl _ _))
    case o11 =>
      intro oi hoi a w vals hb hd hf K hK
      obtain rfl := Option.some.inj hoi
      have e25 : a.tmps[25]? = some (.string (strOfNums [0, 0, 0, 0, 0, 0, 0, 0, 0, 0, 0, 0, 0, 0, 0, 0, 0, 0, 0, 0, 0, 0, 0, 0, 0, 0, 0, 0, 0, 0, 0, 0])) := by
        obtain ⟨h1, h2⟩ := hd 10 (by kernel_rfl)
        have h3 : vals 10 = .string (strOfNums [0, 0, 0, 0, 0, 0, 0, 0, 0, 0, 0, 0, 0, 0, 0, 0, 0, 0, 0, 0, 0, 0, 0, 0, 0, 0, 0, 0, 0, 0, 0, 0]) := h1
        rw [← h3]
        exact h2 25 rfl
      refine ob_run (v := .string h8_11) (w' := w) ?_ (hK _ _ rfl (Below.refl _ _))
      exact ob_cat rfl rfl (ev e25) h8_11z
    case o12 =>
      intro oi hoi a w vals hb hd hf K hK
      obtain rfl := Option.some.inj hoi
      have e26 : a.tmps[26]? = some (.string h8_11) := by
        obtain ⟨h1, h2⟩ := hd 11 (by kernel_rfl)
        have h3 : vals 11 = .string h8_11 := h1
        rw [← h3]
        exact h2 26 rfl
      refine ob_run (v := .string h8_12) (w' := w) ?_ (hK _ _ rfl (Below.refl _ _))
      exact ob_cat rfl (ev e26) rfl h8_12z
    case o13 =>
      intro oi hoi a w vals hb hd hf K hK
      obtain rfl := Option.some.inj hoi
      have e27 : a.tmps[27]? = some (.string h8_12) := by
        obtain ⟨h1, h2⟩ := hd 12 (by kernel_rfl)
        have h3 : vals 12 = .string h8_12 := h1
        rw [← h3]
        exact h2 27 rfl
      refine ob_call (f := 28) Try.func28 (by kernel_rfl) rfl #[.int .i64 2, .string h8_12] rfl (by simp only [List.map_toArray, List.map_cons, List.map_nil, ev e27]; rfl) ?_
      refine (halberdlaw17_made.calls _ _ _ _ h8_13s).mono ?_
      rintro e_ w_ ⟨rfl, b_⟩
      exact ⟨_, rfl, hK _ _ rfl b_⟩
    case o14 =>
      intro oi hoi a w vals hb hd hf K hK
      obtain rfl := Option.some.inj hoi
      have e6 : a.tmps[6]? = some (.string (⟨#[3, 3]⟩ : ByteArray)) := (hf 6 (free_of (by kernel_rfl))).trans rfl
      exact ob_move (.inl rfl) (ev e6) (hK _ _ rfl (Below.refl _ _))
    case o15 =>
      intro oi hoi a w vals hb hd hf K hK
      obtain rfl := Option.some.inj hoi
      have e5 : a.tmps[5]? = some (.string (strOfNums [0, 0, 0, 0, 0, 0, 0, 0, 0, 0, 0, 0, 0, 0, 0, 0, 0, 0, 0, 0, 0, 0, 0, 0, 0, 0, 0, 0, 0, 0, 0, 0])) := (hf 5 (free_of (by kernel_rfl))).trans rfl
      exact ob_move (.inl rfl) (ev e5) (hK _ _ rfl (Below.refl _ _))
    case o16 =>
      intro oi hoi a w vals hb hd hf K hK
      obtain rfl := Option.some.inj hoi
      have e29 : a.tmps[29]? = some (.string (⟨#[3, 3]⟩ : ByteArray)) := by
        obtain ⟨h1, h2⟩ := hd 14 (by kernel_rfl)
        have h3 : vals 14 = .string (⟨#[3, 3]⟩ : ByteArray) := h1
        rw [← h3]
        exact h2 29 rfl
      have e30 : a.tmps[30]? = some (.string (strOfNums [0, 0, 0, 0, 0, 0, 0, 0, 0, 0, 0, 0, 0, 0, 0, 0, 0, 0, 0, 0, 0, 0, 0, 0, 0, 0, 0, 0, 0, 0, 0, 0])) := by
        obtain ⟨h1, h2⟩ := hd 15 (by kernel_rfl)
        have h3 : vals 15 = .string (strOfNums [0, 0, 0, 0, 0, 0, 0, 0, 0, 0, 0, 0, 0, 0, 0, 0, 0, 0, 0, 0, 0, 0, 0, 0, 0, 0, 0, 0, 0, 0, 0, 0]) := h1
        rw [← h3]
        exact h2 30 rfl
      refine ob_run (v := .string h8_16) (w' := w) ?_ (hK _ _ rfl (Below.refl _ _))
      exact ob_cat rfl (ev e29) (ev e30) h8_16z
    case o17 =>
      intro oi hoi a w vals hb hd hf K hK
      obtain rfl := Option.some.inj hoi
      have e31 : a.tmps[31]? = some (.string h8_16) := by
        obtain ⟨h1, h2⟩ := hd 16 (by kernel_rfl)
        have h3 : vals 16 = .string h8_16 := h1
        rw [← h3]
        exact h2 31 rfl
      refine ob_run (v := .string h8_17) (w' := w) ?_ (hK _ _ rfl (Below.refl _ _))
      exact ob_cat rfl (ev e31) rfl h8_17z
    case o18 =>
      intro oi hoi a w vals hb hd hf K hK
      obtain rfl := Option.some.inj hoi
      have e7 : a.tmps[7]? = some (.string (⟨#[0, 51, 0, 5, 0, 29, 0, 1, 107]⟩ : ByteArray)) := (hf 7 (free_of (by kernel_rfl))).trans rfl
      exact ob_move (.inl rfl) (ev e7) (hK _ _ rfl (Below.refl _ _))
    case o19 =>
      intro oi hoi a w vals hb hd hf K hK
      obtain rfl := Option.some.inj hoi
      have e33 : a.tmps[33]? = some (.string (⟨#[0, 51, 0, 5, 0, 29, 0, 1, 107]⟩ : ByteArray)) := by
        obtain ⟨h1, h2⟩ := hd 18 (by kernel_rfl)
        have h3 : vals 18 = .string (⟨#[0, 51, 0, 5, 0, 29, 0, 1, 107]⟩ : ByteArray) := h1
        rw [← h3]
        exact h2 33 rfl
      refine ob_call (f := 29) Try.func29 (by kernel_rfl) rfl #[.string (⟨#[0, 51, 0, 5, 0, 29, 0, 1, 107]⟩ : ByteArray), .int .i64 2] rfl (by simp only [List.map_toArray, List.map_cons, List.map_nil, ev e33]; rfl) ?_
      refine (halberdlaw17_vec.calls _ _ _ _ h8_19s).mono ?_
      rintro e_ w_ ⟨rfl, b_⟩
      exact ⟨_, rfl, hK _ _ rfl b_⟩
    case o20 =>
      intro oi hoi a w vals hb hd hf K hK
      obtain rfl := Option.some.inj hoi
      have e32 : a.tmps[32]? = some (.string h8_17) := by
        obtain ⟨h1, h2⟩ := hd 17 (by kernel_rfl)
        have h3 : vals 17 = .string h8_17 := h1
        rw [← h3]
        exact h2 32 rfl
      have e34 : a.tmps[34]? = some (.string h8_19) := by
        obtain ⟨h1, h2⟩ := hd 19 (by kernel_rfl)
        have h3 : vals 19 = .string h8_19 := h1
        rw [← h3]
        exact h2 34 rfl
      refine ob_run (v := .string h8_20) (w' := w) ?_ (hK _ _ rfl (Below.refl _ _))
      exact ob_cat rfl (ev e32) (ev e34) h8_20z
    case o21 =>
      intro oi hoi a w vals hb hd hf K hK
      obtain rfl := Option.some.inj hoi
      have e35 : a.tmps[35]? = some (.string h8_20) := by
        obtain ⟨h1, h2⟩ := hd 20 (by kernel_rfl)
        have h3 : vals 20 = .string h8_20 := h1
        rw [← h3]
        exact h2 35 rfl
      refine ob_call (f := 28) Try.func28 (by kernel_rfl) rfl #[.int .i64 2, .string h8_20] rfl (by simp only [List.map_toArray, List.map_cons, List.map_nil, ev e35]; rfl) ?_
      refine (halberdlaw17_made.calls _ _ _ _ h8_21s).mono ?_
      rintro e_ w_ ⟨rfl, b_⟩
      exact ⟨_, rfl, hK _ _ rfl b_⟩
    case o22 =>
      intro oi hoi a w vals hb hd hf K hK
      obtain rfl := Option.some.inj hoi
      have e6 : a.tmps[6]? = some (.string (⟨#[3, 3]⟩ : ByteArray)) := (hf 6 (free_of (by kernel_rfl))).trans rfl
      exact ob_move (.inl rfl) (ev e6) (hK _ _ rfl (Below.refl _ _))
    case o23 =>
      intro oi hoi a w vals hb hd hf K hK
      obtain rfl := Option.some.inj hoi
      have e5 : a.tmps[5]? = some (.string (strOfNums [0, 0, 0, 0, 0, 0, 0, 0, 0, 0, 0, 0, 0, 0, 0, 0, 0, 0, 0, 0, 0, 0, 0, 0, 0, 0, 0, 0, 0, 0, 0, 0])) := (hf 5 (free_of (by kernel_rfl))).trans rfl
      exact ob_move (.inl rfl) (ev e5) (hK _ _ rfl (Below.refl _ _))
    case o24 =>
      intro oi hoi a w vals hb hd hf K hK
      obtain rfl := Option.some.inj hoi
      have e37 : a.tmps[37]? = some (.string (⟨#[3, 3]⟩ : ByteArray)) := by
        obtain ⟨h1, h2⟩ := hd 22 (by kernel_rfl)
        have h3 : vals 22 = .string (⟨#[3, 3]⟩ : ByteArray) := h1
        rw [← h3]
        exact h2 37 rfl
      have e38 : a.tmps[38]? = some (.string (strOfNums [0, 0, 0, 0, 0, 0, 0, 0, 0, 0, 0, 0, 0, 0, 0, 0, 0, 0, 0, 0, 0, 0, 0, 0, 0, 0, 0, 0, 0, 0, 0, 0])) := by
        obtain ⟨h1, h2⟩ := hd 23 (by kernel_rfl)
        have h3 : vals 23 = .string (strOfNums [0, 0, 0, 0, 0, 0, 0, 0, 0, 0, 0, 0, 0, 0, 0, 0, 0, 0, 0, 0, 0, 0, 0, 0, 0, 0, 0, 0, 0, 0, 0, 0]) := h1
        rw [← h3]
        exact h2 38 rfl
      refine ob_run (v := .string h8_24) (w' := w) ?_ (hK _ _ rfl (Below.refl _ _))
      exact ob_cat rfl (ev e37) (ev e38) h8_24z
    case o25 =>
      intro oi hoi a w vals hb hd hf K hK
      obtain rfl := Option.some.inj hoi
      have e39 : a.tmps[39]? = some (.string h8_24) := by
        obtain ⟨h1, h2⟩ := hd 24 (by kernel_rfl)
        have h3 : vals 24 = .string h8_24 := h1
        rw [← h3]
        exact h2 39 rfl
      refine ob_run (v := .string h8_25) (w' := w) ?_ (hK _ _ rfl (Below.refl _ _))
      exact ob_cat rfl (ev e39) rfl h8_25z
    case o26 =>
      intro oi hoi a w vals hb hd hf K hK
      obtain rfl := Option.some.inj hoi
      have e7 : a.tmps[7]? = some (.string (⟨#[0, 51, 0, 5, 0, 29, 0, 1, 107]⟩ : ByteArray)) := (hf 7 (free_of (by kernel_rfl))).trans rfl
      exact ob_move (.inl rfl) (ev e7) (hK _ _ rfl (Below.refl _ _))
    case o27 =>
      intro oi hoi a w vals hb hd hf K hK
      obtain rfl := Option.some.inj hoi
      have e7 : a.tmps[7]? = some (.string (⟨#[0, 51, 0, 5, 0, 29, 0, 1, 107]⟩ : ByteArray)) := (hf 7 (free_of (by kernel_rfl))).trans rfl
      exact ob_move (.inl rfl) (ev e7) (hK _ _ rfl (Below.refl _ _))
    case o28 =>
      intro oi hoi a w vals hb hd hf K hK
      obtain rfl := Option.some.inj hoi
      have e41 : a.tmps[41]? = some (.string (⟨#[0, 51, 0, 5, 0, 29, 0, 1, 107]⟩ : ByteArray)) := by
        obtain ⟨h1, h2⟩ := hd 26 (by kernel_rfl)
        have h3 : vals 26 = .string (⟨#[0, 51, 0, 5, 0, 29, 0, 1, 107]⟩ : ByteArray) := h1
        rw [← h3]
        exact h2 41 rfl
      have e42 : a.tmps[42]? = some (.string (⟨#[0, 51, 0, 5, 0, 29, 0, 1, 107]⟩ : ByteArray)) := by
        obtain ⟨h1, h2⟩ := hd 27 (by kernel_rfl)
        have h3 : vals 27 = .string (⟨#[0, 51, 0, 5, 0, 29, 0, 1, 107]⟩ : ByteArray) := h1
        rw [← h3]
        exact h2 42 rfl
      refine ob_run (v := .string h8_28) (w' := w) ?_ (hK _ _ rfl (Below.refl _ _))
      exact ob_cat rfl (ev e41) (ev e42) h8_28z
    case o29 =>
      intro oi hoi a w vals hb hd hf K hK
      obtain rfl := Option.some.inj hoi
      have e43 : a.tmps[43]? = some (.string h8_28) := by
        obtain ⟨h1, h2⟩ := hd 28 (by kernel_rfl)
        have h3 : vals 28 = .string h8_28 := h1
        rw [← h3]
        exact h2 43 rfl
      refine ob_call (f := 29) Try.func29 (by kernel_rfl) rfl #[.string h8_28, .int .i64 2] rfl (by simp only [List.map_toArray, List.map_cons, List.map_nil, ev e43]; rfl) ?_
      refine (halberdlaw17_vec.calls _ _ _ _ h8_29s).mono ?_
      rintro e_ w_ ⟨rfl, b_⟩
      exact ⟨_, rfl, hK _ _ rfl b_⟩
    case o30 =>
      intro oi hoi a w vals hb hd hf K hK
      obtain rfl := Option.some.inj hoi
      have e40 : a.tmps[40]? = some (.string h8_25) := by
        obtain ⟨h1, h2⟩ := hd 25 (by kernel_rfl)
        have h3 : vals 25 = .string h8_25 := h1
        rw [← h3]
        exact h2 40 rfl
      have e44 : a.tmps[44]? = some (.string h8_29) := by
        obtain ⟨h1, h2⟩ := hd 29 (by kernel_rfl)
        have h3 : vals 29 = .string h8_29 := h1
        rw [← h3]
        exact h2 44 rfl
      refine ob_run (v := .string h8_30) (w' := w) ?_ (hK _ _ rfl (Below.refl _ _))
      exact ob_cat rfl (ev e40) (ev e44) h8_30z
    case o31 =>
      intro oi hoi a w vals hb hd hf K hK
      obtain rfl := Option.some.inj hoi
      have e45 : a.tmps[45]? = some (.string h8_30) := by
        obtain ⟨h1, h2⟩ := hd 30 (by kernel_rfl)
        have h3 : vals 30 = .string h8_30 := h1
        rw [← h3]
        exact h2 45 rfl
      refine ob_call (f := 28) Try.func28 (by kernel_rfl) rfl #[.int .i64 2, .string h8_30] rfl (by simp only [List.map_toArray, List.map_cons, List.map_nil, ev e45]; rfl) ?_
      refine (halberdlaw17_made.calls _ _ _ _ h8_31s).mono ?_
      rintro e_ w_ ⟨rfl, b_⟩
      exact ⟨_, rfl, hK _ _ rfl b_⟩
    case o32 =>
      intro oi hoi a w vals hb hd hf K hK
      obtain rfl := Option.some.inj hoi
      have e6 : a.tmps[6]? = some (.string (⟨#[3, 3]⟩ : ByteArray)) := (hf 6 (free_of (by kernel_rfl))).trans rfl
      exact ob_move (.inl rfl) (ev e6) (hK _ _ rfl (Below.refl _ _))
    case o33 =>
      intro oi hoi a w vals hb hd hf K hK
      obtain rfl := Option.some.inj hoi
      have e5 : a.tmps[5]? = some (.string (strOfNums [0, 0, 0, 0, 0, 0, 0, 0, 0, 0, 0, 0, 0, 0, 0, 0, 0, 0, 0, 0, 0, 0, 0, 0, 0, 0, 0, 0, 0, 0, 0, 0])) := (hf 5 (free_of (by kernel_rfl))).trans rfl
      exact ob_move (.inl rfl) (ev e5) (hK _ _ rfl (Below.refl _ _))
    case o34 =>
      intro oi hoi a w vals hb hd hf K hK
      obtain rfl := Option.some.inj hoi
      have e47 : a.tmps[47]? = some (.string (⟨#[3, 3]⟩ : ByteArray)) := by
        obtain ⟨h1, h2⟩ := hd 32 (by kernel_rfl)
        have h3 : vals 32 = .string (⟨#[3, 3]⟩ : ByteArray) := h1
        rw [← h3]
        exact h2 47 rfl
      have e48 : a.tmps[48]? = some (.string (strOfNums [0, 0, 0, 0, 0, 0, 0, 0, 0, 0, 0, 0, 0, 0, 0, 0, 0, 0, 0, 0, 0, 0, 0, 0, 0, 0, 0, 0, 0, 0, 0, 0])) := by
        obtain ⟨h1, h2⟩ := hd 33 (by kernel_rfl)
        have h3 : vals 33 = .string (strOfNums [0, 0, 0, 0, 0, 0, 0, 0, 0, 0, 0, 0, 0, 0, 0, 0, 0, 0, 0, 0, 0, 0, 0, 0, 0, 0, 0, 0, 0, 0, 0, 0]) := h1
        rw [← h3]
        exact h2 48 rfl
      refine ob_run (v := .string h8_34) (w' := w) ?_ (hK _ _ rfl (Below.refl _ _))
      exact ob_cat rfl (ev e47) (ev e48) h8_34z
    case o35 =>
      intro oi hoi a w vals hb hd hf K hK
      obtain rfl := Option.some.inj hoi
      have e49 : a.tmps[49]? = some (.string h8_34) := by
        obtain ⟨h1, h2⟩ := hd 34 (by kernel_rfl)
        have h3 : vals 34 = .string h8_34 := h1
        rw [← h3]
        exact h2 49 rfl
      refine ob_run (v := .string h8_35) (w' := w) ?_ (hK _ _ rfl (Below.refl _ _))
      exact ob_cat rfl (ev e49) rfl h8_35z
    case o36 =>
      intro oi hoi a w vals hb hd hf K hK
      obtain rfl := Option.some.inj hoi
      refine ob_call (f := 29) Try.func29 (by kernel_rfl) rfl #[.string (⟨#[0, 43, 0, 1, 3]⟩ : ByteArray), .int .i64 2] rfl (by simp only [List.map_toArray, List.map_cons, List.map_nil]; rfl) ?_
      refine (halberdlaw17_vec.calls _ _ _ _ h8_36s).mono ?_
      rintro e_ w_ ⟨rfl, b_⟩
      exact ⟨_, rfl, hK _ _ rfl b_⟩
    case o37 =>
      intro oi hoi a w vals hb hd hf K hK
      obtain rfl := Option.some.inj hoi
      have e50 : a.tmps[50]? = some (.string h8_35) := by
        obtain ⟨h1, h2⟩ := hd 35 (by kernel_rfl)
        have h3 : vals 35 = .string h8_35 := h1
        rw [← h3]
        exact h2 50 rfl
      have e51 : a.tmps[51]? = some (.string h8_36) := by
        obtain ⟨h1, h2⟩ := hd 36 (by kernel_rfl)
        have h3 : vals 36 = .string h8_36 := h1
        rw [← h3]
        exact h2 51 rfl
      refine ob_run (v := .string h8_37) (w' := w) ?_ (hK _ _ rfl (Below.refl _ _))
      exact ob_cat rfl (ev e50) (ev e51) h8_37z
    case o38 =>
      intro oi hoi a w vals hb hd hf K hK
      obtain rfl := Option.some.inj hoi
      have e52 : a.tmps[52]? = some (.string h8_37) := by
        obtain ⟨h1, h2⟩ := hd 37 (by kernel_rfl)
        have h3 : vals 37 = .string h8_37 := h1
        rw [← h3]
        exact h2 52 rfl
      refine ob_call (f := 28) Try.func28 (by kernel_rfl) rfl #[.int .i64 2, .string h8_37] rfl (by simp only [List.map_toArray, List.map_cons, List.map_nil, ev e52]; rfl) ?_
      refine (halberdlaw17_made.calls _ _ _ _ h8_38s).mono ?_
      rintro e_ w_ ⟨rfl, b_⟩
      exact ⟨_, rfl, hK _ _ rfl b_⟩
    case o39 =>
      intro oi hoi a w vals hb hd hf K hK
      obtain rfl := Option.some.inj hoi
      refine ob_call (f := 28) Try.func28 (by kernel_rfl) rfl #[.int .i64 8, .string (⟨#[0, 0]⟩ : ByteArray)] rfl (by simp only [List.map_toArray, List.map_cons, List.map_nil]; rfl) ?_
      refine (halberdlaw17_made.calls _ _ _ _ h8_39s).mono ?_
      rintro e_ w_ ⟨rfl, b_⟩
      exact ⟨_, rfl, hK _ _ rfl b_⟩
    case o40 =>
      intro oi hoi a w vals hb hd hf K hK
      obtain rfl := Option.some.inj hoi
      refine ob_call (f := 28) Try.func28 (by kernel_rfl) rfl #[.int .i64 8, .string (⟨#[]⟩ : ByteArray)] rfl (by simp only [List.map_toArray, List.map_cons, List.map_nil]; rfl) ?_
      refine (halberdlaw17_made.calls _ _ _ _ h8_40s).mono ?_
      rintro e_ w_ ⟨rfl, b_⟩
      exact ⟨_, rfl, hK _ _ rfl b_⟩
    case o41 =>
      intro oi hoi a w vals hb hd hf K hK
      obtain rfl := Option.some.inj hoi
      refine ob_call (f := 28) Try.func28 (by kernel_rfl) rfl #[.int .i64 8, .string (⟨#[0, 4, 0, 5, 0, 0]⟩ : ByteArray)] rfl (by simp only [List.map_toArray, List.map_cons, List.map_nil]; rfl) ?_
      refine (halberdlaw17_made.calls _ _ _ _ h8_41s).mono ?_
      rintro e_ w_ ⟨rfl, b_⟩
      exact ⟨_, rfl, hK _ _ rfl b_⟩
    case o42 =>
      intro oi hoi a w vals hb hd hf K hK
      obtain rfl := Option.some.inj hoi
      refine ob_call (f := 28) Try.func28 (by kernel_rfl) rfl #[.int .i64 11, .string (⟨#[0, 0, 0, 0]⟩ : ByteArray)] rfl (by simp only [List.map_toArray, List.map_cons, List.map_nil]; rfl) ?_
      refine (halberdlaw17_made.calls _ _ _ _ h8_42s).mono ?_
      rintro e_ w_ ⟨rfl, b_⟩
      exact ⟨_, rfl, hK _ _ rfl b_⟩
    case o43 =>
      intro oi hoi a w vals hb hd hf K hK
      obtain rfl := Option.some.inj hoi
      refine ob_call (f := 28) Try.func28 (by kernel_rfl) rfl #[.int .i64 11, .string (⟨#[1, 97, 0, 0, 0]⟩ : ByteArray)] rfl (by simp only [List.map_toArray, List.map_cons, List.map_nil]; rfl) ?_
      refine (halberdlaw17_made.calls _ _ _ _ h8_43s).mono ?_
      rintro e_ w_ ⟨rfl, b_⟩
      exact ⟨_, rfl, hK _ _ rfl b_⟩
    case o44 =>
      intro oi hoi a w vals hb hd hf K hK
      obtain rfl := Option.some.inj hoi
      refine ob_call (f := 28) Try.func28 (by kernel_rfl) rfl #[.int .i64 11, .string (⟨#[0, 0, 0, 5, 0, 0, 0, 0, 0]⟩ : ByteArray)] rfl (by simp only [List.map_toArray, List.map_cons, List.map_nil]; rfl) ?_
      refine (halberdlaw17_made.calls _ _ _ _ h8_44s).mono ?_
      rintro e_ w_ ⟨rfl, b_⟩
      exact ⟨_, rfl, hK _ _ rfl b_⟩
    case o45 =>
      intro oi hoi a w vals hb hd hf K hK
      obtain rfl := Option.some.inj hoi
      refine ob_call (f := 29) Try.func29 (by kernel_rfl) rfl #[.string (⟨#[0, 0, 1, 99, 0, 0]⟩ : ByteArray), .int .i64 3] rfl (by simp only [List.map_toArray, List.map_cons, List.map_nil]; rfl) ?_
      refine (halberdlaw17_vec.calls _ _ _ _ h8_45s).mono ?_
      rintro e_ w_ ⟨rfl, b_⟩
      exact ⟨_, rfl, hK _ _ rfl b_⟩
    case o46 =>
      intro oi hoi a w vals hb hd hf K hK
      obtain rfl := Option.some.inj hoi
      have e60 : a.tmps[60]? = some (.string h8_45) := by
        obtain ⟨h1, h2⟩ := hd 45 (by kernel_rfl)
        have h3 : vals 45 = .string h8_45 := h1
        rw [← h3]
        exact h2 60 rfl
      refine ob_run (v := .string h8_46) (w' := w) ?_ (hK _ _ rfl (Below.refl _ _))
      exact ob_cat rfl rfl (ev e60) h8_46z
    case o47 =>
      intro oi hoi a w vals hb hd hf K hK
      obtain rfl := Option.some.inj hoi
      have e61 : a.tmps[61]? = some (.string h8_46) := by
        obtain ⟨h1, h2⟩ := hd 46 (by kernel_rfl)
        have h3 : vals 46 = .string h8_46 := h1
        rw [← h3]
        exact h2 61 rfl
      refine ob_call (f := 28) Try.func28 (by kernel_rfl) rfl #[.int .i64 11, .string h8_46] rfl (by simp only [List.map_toArray, List.map_cons, List.map_nil, ev e61]; rfl) ?_
      refine (halberdlaw17_made.calls _ _ _ _ h8_47s).mono ?_
      rintro e_ w_ ⟨rfl, b_⟩
      exact ⟨_, rfl, hK _ _ rfl b_⟩
    case o48 =>
      intro oi hoi a w vals hb hd hf K hK
      obtain rfl := Option.some.inj hoi
      refine ob_call (f := 29) Try.func29 (by kernel_rfl) rfl #[.string (⟨#[0, 0, 1, 99, 0, 1, 0]⟩ : ByteArray), .int .i64 3] rfl (by simp only [List.map_toArray, List.map_cons, List.map_nil]; rfl) ?_
      refine (halberdlaw17_vec.calls _ _ _ _ h8_48s).mono ?_
      rintro e_ w_ ⟨rfl, b_⟩
      exact ⟨_, rfl, hK _ _ rfl b_⟩
    case o49 =>
      intro oi hoi a w vals hb hd hf K hK
      obtain rfl := Option.some.inj hoi
      have e63 : a.tmps[63]? = some (.string h8_48) := by
        obtain ⟨h1, h2⟩ := hd 48 (by kernel_rfl)
        have h3 : vals 48 = .string h8_48 := h1
        rw [← h3]
        exact h2 63 rfl
      refine ob_run (v := .string h8_49) (w' := w) ?_ (hK _ _ rfl (Below.refl _ _))
      exact ob_cat rfl rfl (ev e63) h8_49z
    case o50 =>
      intro oi hoi a w vals hb hd hf K hK
      obtain rfl := Option.some.inj hoi
      have e64 : a.tmps[64]? = some (.string h8_49) := by
        obtain ⟨h1, h2⟩ := hd 49 (by kernel_rfl)
        have h3 : vals 49 = .string h8_49 := h1
        rw [← h3]
        exact h2 64 rfl
      refine ob_call (f := 28) Try.func28 (by kernel_rfl) rfl #[.int .i64 11, .string h8_49] rfl (by simp only [List.map_toArray, List.map_cons, List.map_nil, ev e64]; rfl) ?_
      refine (halberdlaw17_made.calls _ _ _ _ h8_50s).mono ?_
      rintro e_ w_ ⟨rfl, b_⟩
      exact ⟨_, rfl, hK _ _ rfl b_⟩
    case o51 =>
      intro oi hoi a w vals hb hd hf K hK
      obtain rfl := Option.some.inj hoi
      refine ob_call (f := 28) Try.func28 (by kernel_rfl) rfl #[.int .i64 15, .string (⟨#[4, 3, 0, 0]⟩ : ByteArray)] rfl (by simp only [List.map_toArray, List.map_cons, List.map_nil]; rfl) ?_
      refine (halberdlaw17_made.calls _ _ _ _ h8_51s).mono ?_
      rintro e_ w_ ⟨rfl, b_⟩
      exact ⟨_, rfl, hK _ _ rfl b_⟩
    case o52 =>
      intro oi hoi a w vals hb hd hf K hK
      obtain rfl := Option.some.inj hoi
      refine ob_call (f := 28) Try.func28 (by kernel_rfl) rfl #[.int .i64 15, .string (⟨#[4, 3, 0, 1]⟩ : ByteArray)] rfl (by simp only [List.map_toArray, List.map_cons, List.map_nil]; rfl) ?_
      refine (halberdlaw17_made.calls _ _ _ _ h8_52s).mono ?_
      rintro e_ w_ ⟨rfl, b_⟩
      exact ⟨_, rfl, hK _ _ rfl b_⟩
    case o53 =>
      intro oi hoi a w vals hb hd hf K hK
      obtain rfl := Option.some.inj hoi
      have e5 : a.tmps[5]? = some (.string (strOfNums [0, 0, 0, 0, 0, 0, 0, 0, 0, 0, 0, 0, 0, 0, 0, 0, 0, 0, 0, 0, 0, 0, 0, 0, 0, 0, 0, 0, 0, 0, 0, 0])) := (hf 5 (free_of (by kernel_rfl))).trans rfl
      exact ob_move (.inl rfl) (ev e5) (hK _ _ rfl (Below.refl _ _))
    case o54 =>
      intro oi hoi a w vals hb hd hf K hK
      obtain rfl := Option.some.inj hoi
      have e68 : a.tmps[68]? = some (.string (strOfNums [0, 0, 0, 0, 0, 0, 0, 0, 0, 0, 0, 0, 0, 0, 0, 0, 0, 0, 0, 0, 0, 0, 0, 0, 0, 0, 0, 0, 0, 0, 0, 0])) := by
        obtain ⟨h1, h2⟩ := hd 53 (by kernel_rfl)
        have h3 : vals 53 = .string (strOfNums [0, 0, 0, 0, 0, 0, 0, 0, 0, 0, 0, 0, 0, 0, 0, 0, 0, 0, 0, 0, 0, 0, 0, 0, 0, 0, 0, 0, 0, 0, 0, 0]) := h1
        rw [← h3]
        exact h2 68 rfl
      refine ob_call (f := 28) Try.func28 (by kernel_rfl) rfl #[.int .i64 20, .string (strOfNums [0, 0, 0, 0, 0, 0, 0, 0, 0, 0, 0, 0, 0, 0, 0, 0, 0, 0, 0, 0, 0, 0, 0, 0, 0, 0, 0, 0, 0, 0, 0, 0])] rfl (by simp only [List.map_toArray, List.map_cons, List.map_nil, ev e68]; rfl) ?_
      refine (halberdlaw17_made.calls _ _ _ _ h8_54s).mono ?_
      rintro e_ w_ ⟨rfl, b_⟩
      exact ⟨_, rfl, hK _ _ rfl b_⟩
    case o55 =>
      intro oi hoi a w vals hb hd hf K hK
      obtain rfl := Option.some.inj hoi
      have e5 : a.tmps[5]? = some (.string (strOfNums [0, 0, 0, 0, 0, 0, 0, 0, 0, 0, 0, 0, 0, 0, 0, 0, 0, 0, 0, 0, 0, 0, 0, 0, 0, 0, 0, 0, 0, 0, 0, 0])) := (hf 5 (free_of (by kernel_rfl))).trans rfl
      exact ob_move (.inl rfl) (ev e5) (hK _ _ rfl (Below.refl _ _))
    case o56 =>
      intro oi hoi a w vals hb hd hf K hK
      obtain rfl := Option.some.inj hoi
      have e70 : a.tmps[70]? = some (.string (strOfNums [0, 0, 0, 0, 0, 0, 0, 0, 0, 0, 0, 0, 0, 0, 0, 0, 0, 0, 0, 0, 0, 0, 0, 0, 0, 0, 0, 0, 0, 0, 0, 0])) := by
        obtain ⟨h1, h2⟩ := hd 55 (by kernel_rfl)
        have h3 : vals 55 = .string (strOfNums [0, 0, 0, 0, 0, 0, 0, 0, 0, 0, 0, 0, 0, 0, 0, 0, 0, 0, 0, 0, 0, 0, 0, 0, 0, 0, 0, 0, 0, 0, 0, 0]) := h1
        rw [← h3]
        exact h2 70 rfl
      refine ob_run (v := .string h8_56) (w' := w) ?_ (hK _ _ rfl (Below.refl _ _))
      exact ob_cat rfl (ev e70) rfl h8_56z
    case o57 =>
      intro oi hoi a w vals hb hd hf K hK
      obtain rfl := Option.some.inj hoi
      have e71 : a.tmps[71]? = some (.string h8_56) := by
        obtain ⟨h1, h2⟩ := hd 56 (by kernel_rfl)
        have h3 : vals 56 = .string h8_56 := h1
        rw [← h3]
        exact h2 71 rfl
      refine ob_call (f := 28) Try.func28 (by kernel_rfl) rfl #[.int .i64 20, .string h8_56] rfl (by simp only [List.map_toArray, List.map_cons, List.map_nil, ev e71]; rfl) ?_
      refine (halberdlaw17_made.calls _ _ _ _ h8_57s).mono ?_
      rintro e_ w_ ⟨rfl, b_⟩
      exact ⟨_, rfl, hK _ _ rfl b_⟩
    case o58 =>
      intro oi hoi a w vals hb hd hf K hK
      obtain rfl := Option.some.inj hoi
      refine ob_call (f := 28) Try.func28 (by kernel_rfl) rfl #[.int .i64 20, .string (⟨#[]⟩ : ByteArray)] rfl (by simp only [List.map_toArray, List.map_cons, List.map_nil]; rfl) ?_
      refine (halberdlaw17_made.calls _ _ _ _ h8_58s).mono ?_
      rintro e_ w_ ⟨rfl, b_⟩
      exact ⟨_, rfl, hK _ _ rfl b_⟩
    case o59 =>
      intro oi hoi a w vals hb hd hf K hK
      obtain rfl := Option.some.inj hoi
      refine ob_step (ops := #[]) rfl (Kd.R_make_step (Kd.int .u8) (w0 := w) w.heap.size 5 (by rfl) (N := 74) rfl 39 _ _ rfl 8 rfl rfl Try.underlying39 (.int .u8 0) 1 info5 rfl (by decide) (by omega) 0 (ok := fun _ => True) (okp := fun _ => True) rfl (fun _ hk => hk) trivial (by omega) (by decide) (Below.refl _ _) (Nat.le_refl _) ?_)
      intro v1 w1 ho hb_ hg_ hn_
      exact hK _ _ (Kd.R_lower ho (Nat.zero_le _)) hb_
    case o60 =>
      intro oi hoi a w vals hb hd hf K hK
      obtain rfl := Option.some.inj hoi
      obtain ⟨r74, q74⟩ := hd 59 (by kernel_rfl)
      have e74 := q74 74 rfl
      replace r74 : (PK.row ([0, 0, 0, 0, 0, 0, 0, 0] : List Int)).holds (vals 59) w := r74
      have hc := own_string (P := Try.prog) Try.underlying39 Try.underlying5 Try.underlying9 (Kd.own_of_R (show Kd.R (Kd.int .u8) 5 w 0 (fun _ => True) _ ([0, 0, 0, 0, 0, 0, 0, 0] : List Int) from r74))
      refine ob_run (v := .string h8_60) (w' := w) ?_ (hK _ _ rfl (Below.refl _ _))
      exact ob_conv rfl (ev e74) hc
    case o61 =>
      intro oi hoi a w vals hb hd hf K hK
      obtain rfl := Option.some.inj hoi
      have e75 : a.tmps[75]? = some (.string h8_60) := by
        obtain ⟨h1, h2⟩ := hd 60 (by kernel_rfl)
        have h3 : vals 60 = .string h8_60 := h1
        rw [← h3]
        exact h2 75 rfl
      refine ob_run (v := .string h8_61) (w' := w) ?_ (hK _ _ rfl (Below.refl _ _))
      exact ob_cat rfl (ev e75) rfl h8_61z
    case o62 =>
      intro oi hoi a w vals hb hd hf K hK
      obtain rfl := Option.some.inj hoi
      have e76 : a.tmps[76]? = some (.string h8_61) := by
        obtain ⟨h1, h2⟩ := hd 61 (by kernel_rfl)
        have h3 : vals 61 = .string h8_61 := h1
        rw [← h3]
        exact h2 76 rfl
      refine ob_call (f := 28) Try.func28 (by kernel_rfl) rfl #[.int .i64 4, .string h8_61] rfl (by simp only [List.map_toArray, List.map_cons, List.map_nil, ev e76]; rfl) ?_
      refine (halberdlaw17_made.calls _ _ _ _ h8_62s).mono ?_
      rintro e_ w_ ⟨rfl, b_⟩
      exact ⟨_, rfl, hK _ _ rfl b_⟩
    case o63 =>
      intro oi hoi a w vals hb hd hf K hK
      obtain rfl := Option.some.inj hoi
      refine ob_step (ops := #[]) rfl (Kd.R_make_step (Kd.int .u8) (w0 := w) w.heap.size 5 (by rfl) (N := 78) rfl 39 _ _ rfl 8 rfl rfl Try.underlying39 (.int .u8 0) 1 info5 rfl (by decide) (by omega) 0 (ok := fun _ => True) (okp := fun _ => True) rfl (fun _ hk => hk) trivial (by omega) (by decide) (Below.refl _ _) (Nat.le_refl _) ?_)
      intro v1 w1 ho hb_ hg_ hn_
      exact hK _ _ (Kd.R_lower ho (Nat.zero_le _)) hb_
    case o64 =>
      intro oi hoi a w vals hb hd hf K hK
      obtain rfl := Option.some.inj hoi
      obtain ⟨r78, q78⟩ := hd 63 (by kernel_rfl)
      have e78 := q78 78 rfl
      replace r78 : (PK.row ([0, 0, 0, 0, 0, 0, 0, 0] : List Int)).holds (vals 63) w := r78
      have hc := own_string (P := Try.prog) Try.underlying39 Try.underlying5 Try.underlying9 (Kd.own_of_R (show Kd.R (Kd.int .u8) 5 w 0 (fun _ => True) _ ([0, 0, 0, 0, 0, 0, 0, 0] : List Int) from r78))
      refine ob_run (v := .string h8_64) (w' := w) ?_ (hK _ _ rfl (Below.refl _ _))
      exact ob_conv rfl (ev e78) hc
    case o65 =>
      intro oi hoi a w vals hb hd hf K hK
      obtain rfl := Option.some.inj hoi
      have e79 : a.tmps[79]? = some (.string h8_64) := by
        obtain ⟨h1, h2⟩ := hd 64 (by kernel_rfl)
        have h3 : vals 64 = .string h8_64 := h1
        rw [← h3]
        exact h2 79 rfl
      refine ob_run (v := .string h8_65) (w' := w) ?_ (hK _ _ rfl (Below.refl _ _))
      exact ob_cat rfl (ev e79) rfl h8_65z
    case o66 =>
      intro oi hoi a w vals hb hd hf K hK
      obtain rfl := Option.some.inj hoi
      have e80 : a.tmps[80]? = some (.string h8_65) := by
        obtain ⟨h1, h2⟩ := hd 65 (by kernel_rfl)
        have h3 : vals 65 = .string h8_65 := h1
        rw [← h3]
        exact h2 80 rfl
      refine ob_call (f := 28) Try.func28 (by kernel_rfl) rfl #[.int .i64 4, .string h8_65] rfl (by simp only [List.map_toArray, List.map_cons, List.map_nil, ev e80]; rfl) ?_
      refine (halberdlaw17_made.calls _ _ _ _ h8_66s).mono ?_
      rintro e_ w_ ⟨rfl, b_⟩
      exact ⟨_, rfl, hK _ _ rfl b_⟩
    case o67 =>
      intro oi hoi a w vals hb hd hf K hK
      obtain rfl := Option.some.inj hoi
      have e1 : a.tmps[1]? = some (.int .i64 x) := (hf 1 (free_of (by kernel_rfl))).trans rfl
      exact ob_move (.inl rfl) (ev e1) (hK _ _ rfl (Below.refl _ _))
    case o68 =>
      intro oi hoi a w vals hb hd hf K hK
      obtain rfl := Option.some.inj hoi
      have e82 : a.tmps[82]? = some (.int .i64 x) := by
        obtain ⟨h1, h2⟩ := hd 67 (by kernel_rfl)
        have h3 : vals 67 = .int .i64 x := h1
        rw [← h3]
        exact h2 82 rfl
      refine ob_run (v := .int .i64 y) (w' := w) ?_ (hK _ _ rfl (Below.refl _ _))
      rw [← Hy.out]
      exact ob_and rfl (ev e82) rfl
    case o69 =>
      intro oi hoi a w vals hb hd hf K hK
      obtain rfl := Option.some.inj hoi
      have e83 : a.tmps[83]? = some (.int .i64 y) := by
        obtain ⟨h1, h2⟩ := hd 68 (by kernel_rfl)
        have h3 : vals 68 = .int .i64 y := h1
        rw [← h3]
        exact h2 83 rfl
      have z1 : IntKind.u8.wrap y = y := by simp only [Go.IntKind.wrap_u8]; exact Int.emod_eq_of_lt (by omega) (by omega)
      refine ob_run (v := .int .u8 y) (w' := w) ?_ (hK _ _ rfl (Below.refl _ _))
      refine Eq.trans (ob_cvt (n := y) rfl (ev e83)) ?_
      rw [z1]
    case o70 =>
      intro oi hoi a w vals hb hd hf K hK
      obtain rfl := Option.some.inj hoi
      have e84 : a.tmps[84]? = some (.int .u8 y) := by
        obtain ⟨h1, h2⟩ := hd 69 (by kernel_rfl)
        have h3 : vals 69 = .int .u8 y := h1
        rw [← h3]
        exact h2 84 rfl
      refine ob_step (ops := #[]) rfl (Kd.R_lit_step (Kd.int .u8) (w0 := w) w.heap.size 5 (by rfl) (N := 85) rfl (xs := [y]) (inner := [.int .u8 y]) (ok := fun _ => True) (okp := fun _ => True) ?hr ?hp (fun _ hk => hk) trivial (Below.refl _ _) (Nat.le_refl _) (by simp) ?_)
      (case hr => first | (go_simp; done) | (go_simp; rfl))
      (case hp => exact (Reps.one (show Kd.M (Kd.int .u8) _ _ _ y [.int .u8 y] from rfl) (Reps.none _ _)))
      intro v1 w1 ho hb_ hg_ hn_
      exact hK _ _ (Kd.R_lower ho (Nat.zero_le _)) hb_
    case o71 =>
      intro oi hoi a w vals hb hd hf K hK
      obtain rfl := Option.some.inj hoi
      obtain ⟨r85, q85⟩ := hd 70 (by kernel_rfl)
      have e85 := q85 85 rfl
      replace r85 : (PK.row ([y] : List Int)).holds (vals 70) w := r85
      have hc := own_string (P := Try.prog) Try.underlying39 Try.underlying5 Try.underlying9 (Kd.own_of_R (show Kd.R (Kd.int .u8) 5 w 0 (fun _ => True) _ ([y] : List Int) from r85))
      refine ob_run (v := .string (h8_71 y)) (w' := w) ?_ (hK _ _ rfl (Below.refl _ _))
      exact ob_conv rfl (ev e85) hc
    case o72 =>
      intro oi hoi a w vals hb hd hf K hK
      obtain rfl := Option.some.inj hoi
      have e86 : a.tmps[86]? = some (.string (h8_71 y)) := by
        obtain ⟨h1, h2⟩ := hd 71 (by kernel_rfl)
        have h3 : vals 71 = .string (h8_71 y) := h1
        rw [← h3]
        exact h2 86 rfl
      refine ob_call (f := 28) Try.func28 (by kernel_rfl) rfl #[.int .i64 24, .string (h8_71 y)] rfl (by simp only [List.map_toArray, List.map_cons, List.map_nil, ev e86]; rfl) ?_
      refine (halberdlaw17_made.calls _ _ _ _ (h8_72s y hy0 hy1)).mono ?_
      rintro e_ w_ ⟨rfl, b_⟩
      exact ⟨_, rfl, hK _ _ rfl b_⟩
    case o73 =>
      intro oi hoi a w vals hb hd hf K hK
      obtain rfl := Option.some.inj hoi
      have e1 : a.tmps[1]? = some (.int .i64 x) := (hf 1 (free_of (by kernel_rfl))).trans rfl
      exact ob_move (.inl rfl) (ev e1) (hK _ _ rfl (Below.refl _ _))
    case o74 =>
      intro oi hoi a w vals hb hd hf K hK
      obtain rfl := Option.some.inj hoi
      have e88 : a.tmps[88]? = some (.int .i64 x) := by
        obtain ⟨h1, h2⟩ := hd 73 (by kernel_rfl)
        have h3 : vals 73 = .int .i64 x := h1
        rw [← h3]
        exact h2 88 rfl
      refine ob_run (v := .int .i64 z) (w' := w) ?_ (hK _ _ rfl (Below.refl _ _))
      rw [← Hz.out]
      exact ob_and rfl (ev e88) rfl
    case o75 =>
      intro oi hoi a w vals hb hd hf K hK
      obtain rfl := Option.some.inj hoi
      have e89 : a.tmps[89]? = some (.int .i64 z) := by
        obtain ⟨h1, h2⟩ := hd 74 (by kernel_rfl)
        have h3 : vals 74 = .int .i64 z := h1
        rw [← h3]
        exact h2 89 rfl
      have z1 : IntKind.i64.wrap (2 + z) = (2 + z) := IntWalk.i64_in _ (by omega)
      refine ob_run (v := .int .i64 (2 + z)) (w' := w) ?_ (hK _ _ rfl (Below.refl _ _))
      refine Eq.trans (ob_addi (m := 2) (n := z) rfl rfl (ev e89)) ?_
      rw [z1]
    case o76 =>
      intro oi hoi a w vals hb hd hf K hK
      obtain rfl := Option.some.inj hoi
      have e90 : a.tmps[90]? = some (.int .i64 (2 + z)) := by
        obtain ⟨h1, h2⟩ := hd 75 (by kernel_rfl)
        have h3 : vals 75 = .int .i64 (2 + z) := h1
        rw [← h3]
        exact h2 90 rfl
      have z1 : IntKind.u8.wrap (2 + z) = (2 + z) := by simp only [Go.IntKind.wrap_u8]; exact Int.emod_eq_of_lt (by omega) (by omega)
      refine ob_run (v := .int .u8 (2 + z)) (w' := w) ?_ (hK _ _ rfl (Below.refl _ _))
      refine Eq.trans (ob_cvt (n := (2 + z)) rfl (ev e90)) ?_
      rw [z1]
    case o77 =>
      intro oi hoi a w vals hb hd hf K hK
      obtain rfl := Option.some.inj hoi
      have e91 : a.tmps[91]? = some (.int .u8 (2 + z)) := by
        obtain ⟨h1, h2⟩ := hd 76 (by kernel_rfl)
        have h3 : vals 76 = .int .u8 (2 + z) := h1
        rw [← h3]
        exact h2 91 rfl
      refine ob_step (ops := #[]) rfl (Kd.R_lit_step (Kd.int .u8) (w0 := w) w.heap.size 5 (by rfl) (N := 92) rfl (xs := [(2 + z)]) (inner := [.int .u8 (2 + z)]) (ok := fun _ => True) (okp := fun _ => True) ?hr ?hp (fun _ hk => hk) trivial (Below.refl _ _) (Nat.le_refl _) (by simp) ?_)
      (case hr => first | (go_simp; done) | (go_simp; rfl))
      (case hp => exact (Reps.one (show Kd.M (Kd.int .u8) _ _ _ (2 + z) [.int .u8 (2 + z)] from rfl) (Reps.none _ _)))
      intro v1 w1 ho hb_ hg_ hn_
      exact hK _ _ (Kd.R_lower ho (Nat.zero_le _)) hb_
    case o78 =>
      intro oi hoi a w vals hb hd hf K hK
      obtain rfl := Option.some.inj hoi
      obtain ⟨r92, q92⟩ := hd 77 (by kernel_rfl)
      have e92 := q92 92 rfl
      replace r92 : (PK.row ([(2 + z)] : List Int)).holds (vals 77) w := r92
      have hc := own_string (P := Try.prog) Try.underlying39 Try.underlying5 Try.underlying9 (Kd.own_of_R (show Kd.R (Kd.int .u8) 5 w 0 (fun _ => True) _ ([(2 + z)] : List Int) from r92))
      refine ob_run (v := .string (h8_78 z)) (w' := w) ?_ (hK _ _ rfl (Below.refl _ _))
      exact ob_conv rfl (ev e92) hc
    case o79 =>
      intro oi hoi a w vals hb hd hf K hK
      obtain rfl := Option.some.inj hoi
      have e93 : a.tmps[93]? = some (.string (h8_78 z)) := by
        obtain ⟨h1, h2⟩ := hd 78 (by kernel_rfl)
        have h3 : vals 78 = .string (h8_78 z) := h1
        rw [← h3]
        exact h2 93 rfl
      refine ob_call (f := 28) Try.func28 (by kernel_rfl) rfl #[.int .i64 24, .string (h8_78 z)] rfl (by simp only [List.map_toArray, List.map_cons, List.map_nil, ev e93]; rfl) ?_
      refine (halberdlaw17_made.calls _ _ _ _ (h8_79s z hz0 hz1)).mono ?_
      rintro e_ w_ ⟨rfl, b_⟩
      exact ⟨_, rfl, hK _ _ rfl b_⟩
    case o80 =>
      intro oi hoi a w vals hb hd hf K hK
      obtain rfl := Option.some.inj hoi
      refine ob_call (f := 28) Try.func28 (by kernel_rfl) rfl #[.int .i64 24, .string (⟨#[]⟩ : ByteArray)] rfl (by simp only [List.map_toArray, List.map_cons, List.map_nil]; rfl) ?_
      refine (halberdlaw17_made.calls _ _ _ _ h8_80s).mono ?_
      rintro e_ w_ ⟨rfl, b_⟩
      exact ⟨_, rfl, hK _ _ rfl b_⟩
    case o81 =>
      intro oi hoi a w vals hb hd hf K hK
      obtain rfl := Option.some.inj hoi
      refine ob_call (f := 28) Try.func28 (by kernel_rfl) rfl #[.int .i64 24, .string (⟨#[0, 0]⟩ : ByteArray)] rfl (by simp only [List.map_toArray, List.map_cons, List.map_nil]; rfl) ?_
      refine (halberdlaw17_made.calls _ _ _ _ h8_81s).mono ?_
      rintro e_ w_ ⟨rfl, b_⟩
      exact ⟨_, rfl, hK _ _ rfl b_⟩
    case o82 =>
      intro oi hoi a w vals hb hd hf K hK
      obtain rfl := Option.some.inj hoi
      refine ob_step (ops := #[]) rfl (Kd.R_lit_step (Kd.int .u8) (w0 := w) w.heap.size 5 (by rfl) (N := 97) rfl (xs := [3, 0, 0, 0]) (inner := [.int .u8 3, .int .u8 0, .int .u8 0, .int .u8 0]) (ok := fun _ => True) (okp := fun _ => True) ?hr ?hp (fun _ hk => hk) trivial (Below.refl _ _) (Nat.le_refl _) (by simp) ?_)
      (case hr => first | (go_simp; done) | (go_simp; rfl))
      (case hp => exact (Reps.one (show Kd.M (Kd.int .u8) _ _ _ 3 [.int .u8 3] from rfl) (Reps.one (show Kd.M (Kd.int .u8) _ _ _ 0 [.int .u8 0] from rfl) (Reps.one (show Kd.M (Kd.int .u8) _ _ _ 0 [.int .u8 0] from rfl) (Reps.one (show Kd.M (Kd.int .u8) _ _ _ 0 [.int .u8 0] from rfl) (Reps.none _ _))))))
      intro v1 w1 ho hb_ hg_ hn_
      exact hK _ _ (Kd.R_lower ho (Nat.zero_le _)) hb_
    case o83 =>
      intro oi hoi a w vals hb hd hf K hK
      obtain rfl := Option.some.inj hoi
      obtain ⟨r97, q97⟩ := hd 82 (by kernel_rfl)
      have e97 := q97 97 rfl
      replace r97 : (PK.row ([3, 0, 0, 0] : List Int)).holds (vals 82) w := r97
      have hc := own_string (P := Try.prog) Try.underlying39 Try.underlying5 Try.underlying9 (Kd.own_of_R (show Kd.R (Kd.int .u8) 5 w 0 (fun _ => True) _ ([3, 0, 0, 0] : List Int) from r97))
      refine ob_run (v := .string h8_83) (w' := w) ?_ (hK _ _ rfl (Below.refl _ _))
      exact ob_conv rfl (ev e97) hc
    case o84 =>
      intro oi hoi a w vals hb hd hf K hK
      obtain rfl := Option.some.inj hoi
      have e19 : a.tmps[19]? = some (.string h8_4) := by
        obtain ⟨h1, h2⟩ := hd 4 (by kernel_rfl)
        have h3 : vals 4 = .string h8_4 := h1
        rw [← h3]
        exact h2 19 rfl
      have e24 : a.tmps[24]? = some (.string h8_9) := by
        obtain ⟨h1, h2⟩ := hd 9 (by kernel_rfl)
        have h3 : vals 9 = .string h8_9 := h1
        rw [← h3]
        exact h2 24 rfl
      have e28 : a.tmps[28]? = some (.string h8_13) := by
        obtain ⟨h1, h2⟩ := hd 13 (by kernel_rfl)
        have h3 : vals 13 = .string h8_13 := h1
        rw [← h3]
        exact h2 28 rfl
      have e36 : a.tmps[36]? = some (.string h8_21) := by
        obtain ⟨h1, h2⟩ := hd 21 (by kernel_rfl)
        have h3 : vals 21 = .string h8_21 := h1
        rw [← h3]
        exact h2 36 rfl
      have e46 : a.tmps[46]? = some (.string h8_31) := by
        obtain ⟨h1, h2⟩ := hd 31 (by kernel_rfl)
        have h3 : vals 31 = .string h8_31 := h1
        rw [← h3]
        exact h2 46 rfl
      have e53 : a.tmps[53]? = some (.string h8_38) := by
        obtain ⟨h1, h2⟩ := hd 38 (by kernel_rfl)
        have h3 : vals 38 = .string h8_38 := h1
        rw [← h3]
        exact h2 53 rfl
      have e54 : a.tmps[54]? = some (.string h8_39) := by
        obtain ⟨h1, h2⟩ := hd 39 (by kernel_rfl)
        have h3 : vals 39 = .string h8_39 := h1
        rw [← h3]
        exact h2 54 rfl
      have e55 : a.tmps[55]? = some (.string h8_40) := by
        obtain ⟨h1, h2⟩ := hd 40 (by kernel_rfl)
        have h3 : vals 40 = .string h8_40 := h1
        rw [← h3]
        exact h2 55 rfl
      have e56 : a.tmps[56]? = some (.string h8_41) := by
        obtain ⟨h1, h2⟩ := hd 41 (by kernel_rfl)
        have h3 : vals 41 = .string h8_41 := h1
        rw [← h3]
        exact h2 56 rfl
      have e57 : a.tmps[57]? = some (.string h8_42) := by
        obtain ⟨h1, h2⟩ := hd 42 (by kernel_rfl)
        have h3 : vals 42 = .string h8_42 := h1
        rw [← h3]
        exact h2 57 rfl
      have e58 : a.tmps[58]? = some (.string h8_43) := by
        obtain ⟨h1, h2⟩ := hd 43 (by kernel_rfl)
        have h3 : vals 43 = .string h8_43 := h1
        rw [← h3]
        exact h2 58 rfl
      have e59 : a.tmps[59]? = some (.string h8_44) := by
        obtain ⟨h1, h2⟩ := hd 44 (by kernel_rfl)
        have h3 : vals 44 = .string h8_44 := h1
        rw [← h3]
        exact h2 59 rfl
      have e62 : a.tmps[62]? = some (.string h8_47) := by
        obtain ⟨h1, h2⟩ := hd 47 (by kernel_rfl)
        have h3 : vals 47 = .string h8_47 := h1
        rw [← h3]
        exact h2 62 rfl
      have e65 : a.tmps[65]? = some (.string h8_50) := by
        obtain ⟨h1, h2⟩ := hd 50 (by kernel_rfl)
        have h3 : vals 50 = .string h8_50 := h1
        rw [← h3]
        exact h2 65 rfl
      have e66 : a.tmps[66]? = some (.string h8_51) := by
        obtain ⟨h1, h2⟩ := hd 51 (by kernel_rfl)
        have h3 : vals 51 = .string h8_51 := h1
        rw [← h3]
        exact h2 66 rfl
      have e67 : a.tmps[67]? = some (.string h8_52) := by
        obtain ⟨h1, h2⟩ := hd 52 (by kernel_rfl)
        have h3 : vals 52 = .string h8_52 := h1
        rw [← h3]
        exact h2 67 rfl
      have e69 : a.tmps[69]? = some (.string h8_54) := by
        obtain ⟨h1, h2⟩ := hd 54 (by kernel_rfl)
        have h3 : vals 54 = .string h8_54 := h1
        rw [← h3]
        exact h2 69 rfl
      have e72 : a.tmps[72]? = some (.string h8_57) := by
        obtain ⟨h1, h2⟩ := hd 57 (by kernel_rfl)
        have h3 : vals 57 = .string h8_57 := h1
        rw [← h3]
        exact h2 72 rfl
      have e73 : a.tmps[73]? = some (.string h8_58) := by
        obtain ⟨h1, h2⟩ := hd 58 (by kernel_rfl)
        have h3 : vals 58 = .string h8_58 := h1
        rw [← h3]
        exact h2 73 rfl
      have e77 : a.tmps[77]? = some (.string h8_62) := by
        obtain ⟨h1, h2⟩ := hd 62 (by kernel_rfl)
        have h3 : vals 62 = .string h8_62 := h1
        rw [← h3]
        exact h2 77 rfl
      have e81 : a.tmps[81]? = some (.string h8_66) := by
        obtain ⟨h1, h2⟩ := hd 66 (by kernel_rfl)
        have h3 : vals 66 = .string h8_66 := h1
        rw [← h3]
        exact h2 81 rfl
      have e87 : a.tmps[87]? = some (.string (h8_72 y)) := by
        obtain ⟨h1, h2⟩ := hd 72 (by kernel_rfl)
        have h3 : vals 72 = .string (h8_72 y) := h1
        rw [← h3]
        exact h2 87 rfl
      have e94 : a.tmps[94]? = some (.string (h8_79 z)) := by
        obtain ⟨h1, h2⟩ := hd 79 (by kernel_rfl)
        have h3 : vals 79 = .string (h8_79 z) := h1
        rw [← h3]
        exact h2 94 rfl
      have e95 : a.tmps[95]? = some (.string h8_80) := by
        obtain ⟨h1, h2⟩ := hd 80 (by kernel_rfl)
        have h3 : vals 80 = .string h8_80 := h1
        rw [← h3]
        exact h2 95 rfl
      have e96 : a.tmps[96]? = some (.string h8_81) := by
        obtain ⟨h1, h2⟩ := hd 81 (by kernel_rfl)
        have h3 : vals 81 = .string h8_81 := h1
        rw [← h3]
        exact h2 96 rfl
      have e98 : a.tmps[98]? = some (.string h8_83) := by
        obtain ⟨h1, h2⟩ := hd 83 (by kernel_rfl)
        have h3 : vals 83 = .string h8_83 := h1
        rw [← h3]
        exact h2 98 rfl
      refine ob_step (ops := #[]) rfl (Kd.R_lit_step Kd.string (w0 := w) w.heap.size 9 (by rfl) (N := 99) rfl (xs := (h8_L y z)) (inner := [.string h8_4, .string h8_9, .string h8_13, .string h8_21, .string h8_31, .string h8_38, .string h8_39, .string h8_40, .string h8_41, .string h8_42, .string h8_43, .string h8_44, .string h8_47, .string h8_50, .string h8_51, .string h8_52, .string h8_54, .string h8_57, .string h8_58, .string h8_62, .string h8_66, .string (h8_72 y), .string (h8_79 z), .string h8_80, .string h8_81, .string (⟨#[24, 0, 0, 2, 0]⟩ : ByteArray), .string (⟨#[]⟩ : ByteArray), .string (⟨#[24]⟩ : ByteArray), .string h8_83]) (ok := fun _ => True) (okp := fun _ => True) ?hr ?hp (fun _ hk => hk) trivial (Below.refl _ _) (Nat.le_refl _) (by show 29 ≤ _; omega) ?_)
      (case hr => show _ = Result.ok (Next.value (Value.slice _ 29 29)) _; first | (go_simp; done) | (go_simp; rfl))
      (case hp => exact (Reps.one (show Kd.M Kd.string _ _ _ h8_4 [.string h8_4] from rfl) (Reps.one (show Kd.M Kd.string _ _ _ h8_9 [.string h8_9] from rfl) (Reps.one (show Kd.M Kd.string _ _ _ h8_13 [.string h8_13] from rfl) (Reps.one (show Kd.M Kd.string _ _ _ h8_21 [.string h8_21] from rfl) (Reps.one (show Kd.M Kd.string _ _ _ h8_31 [.string h8_31] from rfl) (Reps.one (show Kd.M Kd.string _ _ _ h8_38 [.string h8_38] from rfl) (Reps.one (show Kd.M Kd.string _ _ _ h8_39 [.string h8_39] from rfl) (Reps.one (show Kd.M Kd.string _ _ _ h8_40 [.string h8_40] from rfl) (Reps.one (show Kd.M Kd.string _ _ _ h8_41 [.string h8_41] from rfl) (Reps.one (show Kd.M Kd.string _ _ _ h8_42 [.string h8_42] from rfl) (Reps.one (show Kd.M Kd.string _ _ _ h8_43 [.string h8_43] from rfl) (Reps.one (show Kd.M Kd.string _ _ _ h8_44 [.string h8_44] from rfl) (Reps.one (show Kd.M Kd.string _ _ _ h8_47 [.string h8_47] from rfl) (Reps.one (show Kd.M Kd.string _ _ _ h8_50 [.string h8_50] from rfl) (Reps.one (show Kd.M Kd.string _ _ _ h8_51 [.string h8_51] from rfl) (Reps.one (show Kd.M Kd.string _ _ _ h8_52 [.string h8_52] from rfl) (Reps.one (show Kd.M Kd.string _ _ _ h8_54 [.string h8_54] from rfl) (Reps.one (show Kd.M Kd.string _ _ _ h8_57 [.string h8_57] from rfl) (Reps.one (show Kd.M Kd.string _ _ _ h8_58 [.string h8_58] from rfl) (Reps.one (show Kd.M Kd.string _ _ _ h8_62 [.string h8_62] from rfl) (Reps.one (show Kd.M Kd.string _ _ _ h8_66 [.string h8_66] from rfl) (Reps.one (show Kd.M Kd.string _ _ _ (h8_72 y) [.string (h8_72 y)] from rfl) (Reps.one (show Kd.M Kd.string _ _ _ (h8_79 z) [.string (h8_79 z)] from rfl) (Reps.one (show Kd.M Kd.string _ _ _ h8_80 [.string h8_80] from rfl) (Reps.one (show Kd.M Kd.string _ _ _ h8_81 [.string h8_81] from rfl) (Reps.one (show Kd.M Kd.string _ _ _ (⟨#[24, 0, 0, 2, 0]⟩ : ByteArray) [.string (⟨#[24, 0, 0, 2, 0]⟩ : ByteArray)] from rfl) (Reps.one (show Kd.M Kd.string _ _ _ (⟨#[]⟩ : ByteArray) [.string (⟨#[]⟩ : ByteArray)] from rfl) (Reps.one (show Kd.M Kd.string _ _ _ (⟨#[24]⟩ : ByteArray) [.string (⟨#[24]⟩ : ByteArray)] from rfl) (Reps.one (show Kd.M Kd.string _ _ _ h8_83 [.string h8_83] from rfl) (Reps.none _ _)))))))))))))))))))))))))))))))
      intro v1 w1 ho hb_ hg_ hn_
      exact hK _ _ (Kd.R_lower ho (Nat.zero_le _)) hb_
    case o85 =>
      intro oi hoi a w vals hb hd hf K hK
      obtain rfl := Option.some.inj hoi
      obtain ⟨r99, q99⟩ := hd 84 (by kernel_rfl)
      have e99 := q99 99 rfl
      replace r99 : (PK.texts (h8_L y z)).holds (vals 84) w := r99
      exact ob_move (.inr rfl) (ev e99) (hK _ _ r99 (Below.refl _ _))
  intro vals w6 hb6 hp
  have HB6 := Aside0.mk (below_step HB.out hb6)
  have hr : Kd.R Kd.string 9 w6 0 (fun _ => True) (vals 85) (h8_L y z) := hp 85 (by decide)
  obtain ⟨A, c, hA⟩ := Kd.R_slice hr
  obtain ⟨A', c', hA', hlc, hC⟩ := Kd.R_reads hr
  clear hp hb6
  refine q_eq (t := #[.int .i64 which, .int .i64 x, undef, undef, .bool false, .string (strOfNums [0, 0, 0, 0, 0, 0, 0, 0, 0, 0, 0, 0, 0, 0, 0, 0, 0, 0, 0, 0, 0, 0, 0, 0, 0, 0, 0, 0, 0, 0, 0, 0]), .string (⟨#[3, 3]⟩ : ByteArray), .string (⟨#[0, 51, 0, 5, 0, 29, 0, 1, 107]⟩ : ByteArray), vals 85, undef, undef, .bool true, .bool false, v1, .string (strOfNums [0, 0, 0, 0, 0, 0, 0, 0, 0, 0, 0, 0, 0, 0, 0, 0, 0, 0, 0, 0, 0, 0, 0, 0, 0, 0, 0, 0, 0, 0, 0, 0]), vals 0, vals 1, vals 2, vals 3, vals 4, vals 5, vals 6, vals 7, vals 8, vals 9, vals 10, vals 11, vals 12, vals 13, vals 14, vals 15, vals 16, vals 17, vals 18, vals 19, vals 20, vals 21, vals 22, vals 23, vals 24, vals 25, vals 26, vals 27, vals 28, vals 29, vals 30, vals 31, vals 32, vals 33, vals 34, vals 35, vals 36, vals 37, vals 38, vals 39, vals 40, vals 41, vals 42, vals 43, vals 44, vals 45, vals 46, vals 47, vals 48, vals 49, vals 50, vals 51, vals 52, vals 53, vals 54, vals 55, vals 56, vals 57, vals 58, vals 59, vals 60, vals 61, vals 62, vals 63, vals 64, vals 65, vals 66, vals 67, vals 68, vals 69, vals 70, vals 71, vals 72, vals 73, vals 74, vals 75, vals 76, vals 77, vals 78, vals 79, vals 80, vals 81, vals 82, vals 83, vals 84, undef, undef, undef, undef, undef, undef, undef, undef, undef, undef, undef, undef, undef, undef, undef]) (by kernel_rfl) ?_
  rw [hA']
  have HC := Aside0.mk hC
  clear hr hC hA hA' A c

  have z1 : IntKind.i64.wrap (u % 29) = u % 29 := IntWalk.i64_in _ (by omega)
  have hmod0 : 0 ≤ u % 29 := by omega
  have hu2 := HU.out
  have hk2 := HKK.out
  go_wp2_with (first
    | ((with_reducible refine gate_dst (N := 100) rfl ?_); refine Kd.R_lit (Kd.int .i64) _ 3 ?hg (N := 100) ?hd (xs := h8_W) (inner := [.int .i64 0, .int .i64 1702, .int .i64 1702, .int .i64 0, .int .i64 1702, .int .i64 1700, .int .i64 0, .int .i64 1700, .int .i64 0, .int .i64 0, .int .i64 1702, .int .i64 1700, .int .i64 0, .int .i64 1700, .int .i64 0, .int .i64 1700, .int .i64 0, .int .i64 1700, .int .i64 1700, .int .i64 0, .int .i64 1700, .int .i64 0, .int .i64 1702, .int .i64 1700, .int .i64 1700, .int .i64 1700, .int .i64 1701, .int .i64 1700, .int .i64 1701]) (ok := fun _ => True) (okp := fun _ => True) ?hr ?hp (fun _ hk => hk) trivial (Below.refl _ _) (Nat.le_refl _) (by show 29 ≤ _; omega) ?_; (case hd => rfl); (case hg => rfl); (case hr => show _ = Result.ok (Next.value (Value.slice _ 29 29)) _; first | (go_simp; done) | (go_simp; rfl)); (case hp => exact (Reps.one (show Kd.M (Kd.int .i64) _ _ _ 0 [.int .i64 0] from rfl) (Reps.one (show Kd.M (Kd.int .i64) _ _ _ 1702 [.int .i64 1702] from rfl) (Reps.one (show Kd.M (Kd.int .i64) _ _ _ 1702 [.int .i64 1702] from rfl) (Reps.one (show Kd.M (Kd.int .i64) _ _ _ 0 [.int .i64 0] from rfl) (Reps.one (show Kd.M (Kd.int .i64) _ _ _ 1702 [.int .i64 1702] from rfl) (Reps.one (show Kd.M (Kd.int .i64) _ _ _ 1700 [.int .i64 1700] from rfl) (Reps.one (show Kd.M (Kd.int .i64) _ _ _ 0 [.int .i64 0] from rfl) (Reps.one (show Kd.M (Kd.int .i64) _ _ _ 1700 [.int .i64 1700] from rfl) (Reps.one (show Kd.M (Kd.int .i64) _ _ _ 0 [.int .i64 0] from rfl) (Reps.one (show Kd.M (Kd.int .i64) _ _ _ 0 [.int .i64 0] from rfl) (Reps.one (show Kd.M (Kd.int .i64) _ _ _ 1702 [.int .i64 1702] from rfl) (Reps.one (show Kd.M (Kd.int .i64) _ _ _ 1700 [.int .i64 1700] from rfl) (Reps.one (show Kd.M (Kd.int .i64) _ _ _ 0 [.int .i64 0] from rfl) (Reps.one (show Kd.M (Kd.int .i64) _ _ _ 1700 [.int .i64 1700] from rfl) (Reps.one (show Kd.M (Kd.int .i64) _ _ _ 0 [.int .i64 0] from rfl) (Reps.one (show Kd.M (Kd.int .i64) _ _ _ 1700 [.int .i64 1700] from rfl) (Reps.one (show Kd.M (Kd.int .i64) _ _ _ 0 [.int .i64 0] from rfl) (Reps.one (show Kd.M (Kd.int .i64) _ _ _ 1700 [.int .i64 1700] from rfl) (Reps.one (show Kd.M (Kd.int .i64) _ _ _ 1700 [.int .i64 1700] from rfl) (Reps.one (show Kd.M (Kd.int .i64) _ _ _ 0 [.int .i64 0] from rfl) (Reps.one (show Kd.M (Kd.int .i64) _ _ _ 1700 [.int .i64 1700] from rfl) (Reps.one (show Kd.M (Kd.int .i64) _ _ _ 0 [.int .i64 0] from rfl) (Reps.one (show Kd.M (Kd.int .i64) _ _ _ 1702 [.int .i64 1702] from rfl) (Reps.one (show Kd.M (Kd.int .i64) _ _ _ 1700 [.int .i64 1700] from rfl) (Reps.one (show Kd.M (Kd.int .i64) _ _ _ 1700 [.int .i64 1700] from rfl) (Reps.one (show Kd.M (Kd.int .i64) _ _ _ 1700 [.int .i64 1700] from rfl) (Reps.one (show Kd.M (Kd.int .i64) _ _ _ 1701 [.int .i64 1701] from rfl) (Reps.one (show Kd.M (Kd.int .i64) _ _ _ 1700 [.int .i64 1700] from rfl) (Reps.one (show Kd.M (Kd.int .i64) _ _ _ 1701 [.int .i64 1701] from rfl) (Reps.none _ _))))))))))))))))))))))))))))))); intro v9 w9 ho9 hb9 hg9 hn9; clear hg9 hn9; obtain ⟨A9, c9, h9, hl9, C9⟩ := Kd.R_reads ho9; subst h9; have HCW := Aside0.mk C9; have n_ := Aside0.mk (Kd.C_below HC.out hb9); clear HC; have HC := n_; clear n_; have n_ := Aside0.mk (below_step HB6.out hb9); clear HB6; have HB6 := n_; clear n_ ho9 hb9 C9))
  clear z1 hmod0 hu2 hk2
  have q0 : k < (((h8_L y z)).length : Int) := by show k < ((29 : Nat) : Int); omega
  have q1 : k < (h8_W.length : Int) := by show k < ((29 : Nat) : Int); omega
  obtain ⟨kn, rfl⟩ := Int.eq_ofNat_of_zero_le hk0
  have hkn : kn < 29 := by omega
  obtain ⟨hok, hsz⟩ := h8_ok y z hy0 hy1 hz0 hz1 kn hkn
  obtain ⟨ad, e0, hx0⟩ := Kd.at_string HC.out (kn : Int) hk0 q0
  cases e0
  obtain ⟨ad2, e0, hx1⟩ := Kd.at_int HCW.out (kn : Int) hk0 q1
  cases e0
  obtain ⟨s0, hs0⟩ : ∃ s0, rdOf ByteArray.empty ((h8_L y z)) (kn : Int) = s0 := ⟨_, rfl⟩
  obtain ⟨n0, hn0⟩ : ∃ n0, rd h8_W (kn : Int) = n0 := ⟨_, rfl⟩
  have hok' : (getM s0).2 = n0 := by rw [← hs0, ← hn0]; exact hok
  have hsz' : s0.size ≤ 65536 := by rw [← hs0]; exact hsz
  have HOK := Aside0.mk hok'
  have HSZ := Aside0.mk hsz'
  have HS0 := Aside0.mk hs0
  have HN0 := Aside0.mk hn0
  have HP0 := Aside0.mk hk0
  have HQ0 := Aside0.mk q0
  have HQ1 := Aside0.mk q1
  have P0 := eq_true hk0
  have Q0 := eq_true q0
  have Q1 := eq_true q1
  clear hok hsz hok' hsz' hs0 hn0 hk0 q0 q1 hx0 hx1 hk1 hkn
  refine start_ (n := 11) (S := fun w' => Below w9.heap.size w9 w') (ds := []) #[false, false, false, false, false, false, false, false, false, false, false] (by kernel_rfl) rfl rfl (Below.refl w9.heap.size w9).drew (fun hHeld => ?_)
  have HS := Aside0.mk (Below.refl w9.heap.size w9).drew
  generalize w9.drew = w10 at HS hHeld ⊢
  refine pure_ (i := 0) (N := (some 105)) (v := ?_) (a' := ?_) #[true, false, false, false, false, false, false, false, false, false, false] rfl rfl (by kernel_rfl) (fun _ _ _ h => h) (Or.inl ⟨by rfl, ?_⟩) ?_ ?_
  rotate_left
  · intro w'
    go_simp
    with_reducible rfl
  rotate_left
  · simp only [Act.put, List.setIfInBounds_toArray, List.set_cons_zero, List.set_cons_succ]
    rfl
  refine pure_ (i := 1) (N := (some 106)) (v := ?_) (a' := ?_) #[true, true, false, false, false, false, false, false, false, false, false] rfl rfl (by kernel_rfl) (fun _ _ _ h => h) (Or.inl ⟨by rfl, ?_⟩) ?_ ?_
  rotate_left
  · intro w'
    go_simp
    with_reducible rfl
  rotate_left
  · simp only [Act.put, List.setIfInBounds_toArray, List.set_cons_zero, List.set_cons_succ]
    rfl
  refine pure_ (i := 2) (N := (some 107)) (v := ?_) (a' := ?_) #[true, true, true, false, false, false, false, false, false, false, false] rfl rfl (by kernel_rfl) (fun _ _ _ h => h) (Or.inl ⟨by rfl, ?_⟩) ?_ ?_
  rotate_left
  · intro w'
    go_simp
    with_reducible rfl
  rotate_left
  · simp only [Act.put, List.setIfInBounds_toArray, List.set_cons_zero, List.set_cons_succ]
    rfl
  refine take_ (i := 3) (N := (some 108)) (v := ?_) (a' := ?_) #[true, true, true, true, false, false, false, false, false, false, false] rfl rfl (by kernel_rfl) (fun _ _ _ h => h) (Or.inl ⟨by rfl, ?_⟩) hHeld ?_ ?_
  rotate_left
  · rintro w' hS
    obtain ⟨ad', e', hx'⟩ := Kd.at_string (Kd.C_below HC.out hS) (kn : Int) HP0.out HQ0.out
    cases e'
    rw [HS0.out, Int.toNat_natCast] at hx'
    go_simp
    with_reducible rfl
  rotate_left
  · simp only [Act.put, List.setIfInBounds_toArray, List.set_cons_zero, List.set_cons_succ]
    rfl
  refine pure_ (i := 5) (N := (some 110)) (v := ?_) (a' := ?_) #[true, true, true, true, false, true, false, false, false, false, false] rfl rfl (by kernel_rfl) (fun _ _ _ h => h) (Or.inl ⟨by rfl, ?_⟩) ?_ ?_
  rotate_left
  · intro w'
    go_simp
    with_reducible rfl
  rotate_left
  · simp only [Act.put, List.setIfInBounds_toArray, List.set_cons_zero, List.set_cons_succ]
    rfl
  refine pure_ (i := 6) (N := (some 111)) (v := ?_) (a' := ?_) #[true, true, true, true, false, true, true, false, false, false, false] rfl rfl (by kernel_rfl) (fun _ _ _ h => h) (Or.inl ⟨by rfl, ?_⟩) ?_ ?_
  rotate_left
  · intro w'
    go_simp
    with_reducible rfl
  rotate_left
  · simp only [Act.put, List.setIfInBounds_toArray, List.set_cons_zero, List.set_cons_succ]
    rfl
  refine pure_ (i := 7) (N := (some 112)) (v := ?_) (a' := ?_) #[true, true, true, true, false, true, true, true, false, false, false] rfl rfl (by kernel_rfl) (fun _ _ _ h => h) (Or.inl ⟨by rfl, ?_⟩) ?_ ?_
  rotate_left
  · intro w'
    go_simp
    with_reducible rfl
  rotate_left
  · simp only [Act.put, List.setIfInBounds_toArray, List.set_cons_zero, List.set_cons_succ]
    rfl
  refine take_ (i := 8) (N := (some 113)) (v := ?_) (a' := ?_) #[true, true, true, true, false, true, true, true, true, false, false] rfl rfl (by kernel_rfl) (fun _ _ _ h => h) (Or.inl ⟨by rfl, ?_⟩) hHeld ?_ ?_
  rotate_left
  · rintro w' hS
    obtain ⟨ad', e', hx'⟩ := Kd.at_int (Kd.C_below HCW.out hS) (kn : Int) HP0.out HQ1.out
    cases e'
    rw [HN0.out, Int.toNat_natCast] at hx'
    go_simp
    with_reducible rfl
  rotate_left
  · simp only [Act.put, List.setIfInBounds_toArray, List.set_cons_zero, List.set_cons_succ]
    rfl
  refine one_ (i := 4) (N := (some 109)) #[true, true, true, true, true, true, true, true, true, false, false] rfl rfl (by kernel_rfl) (by decide) (fun K hK => ?_)
  refine goes_ (f := 27) Try.func27 (by kernel_rfl) rfl #[.string s0] (by rfl) rfl rfl (by (try simp only [List.map_toArray, List.map_cons, List.map_nil]); first | done | rfl) ?_
  refine (got_c s0 _ (Nat.le_trans HSZ.out (by omega))).mono ?_
  rintro e w11 ⟨rfl, b_⟩
  refine ⟨_, rfl, ?_⟩
  have HS2 := Aside0.mk (below_step HS.out b_)
  clear b_
  refine hK.out _ _ (HS2.out) (fun hHeld => ?_)
  clear hK K
  refine norm_ (a' := ?_) ?_ ?_
  rotate_left
  · show Act.put _ (some 109) _ = _
    simp only [Act.put, List.setIfInBounds_toArray, List.set_cons_zero, List.set_cons_succ]
    rfl
  refine pure_ (i := 9) (N := (some 114)) (v := ?_) (a' := ?_) #[true, true, true, true, true, true, true, true, true, true, false] rfl rfl (by kernel_rfl) (fun _ _ _ h => h) (Or.inl ⟨by rfl, ?_⟩) ?_ ?_
  rotate_left
  · intro w'
    go_simp
    with_reducible rfl
  rotate_left
  · simp only [Act.put, List.setIfInBounds_toArray, List.set_cons_zero, List.set_cons_succ]
    rfl
  refine pure_ (i := 10) (N := (some 4)) (v := ?_) (a' := ?_) #[true, true, true, true, true, true, true, true, true, true, true] rfl rfl (by kernel_rfl) (fun _ _ _ h => h) (Or.inl ⟨by rfl, ?_⟩) ?_ ?_
  rotate_left
  · intro w'
    go_simp
    with_reducible rfl
  rotate_left
  · simp only [Act.put, List.setIfInBounds_toArray, List.set_cons_zero, List.set_cons_succ]
    rfl
  refine done_ (by kernel_rfl) ?_
  go_wp2
  go_ret
  exact ⟨by rw [HOK.out]; simp, below_step HB6.out HS2.out⟩
end Go.Proofs.Ytlkebjkpmiehcaa.Ms
end
