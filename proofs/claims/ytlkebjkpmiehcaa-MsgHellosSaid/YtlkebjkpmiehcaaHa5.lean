/- Words, contracts and lemmas that the claim needs, in the order in which they build. Conditions: each lemma's own. -/
import Derived.Test.YtlkebjkpmiehcaaHa4
section
namespace Go.Proofs.Ytlkebjkpmiehcaa.X
open Go.RowKit Go.Proofs.YtlkebjkpmiehcaaW.PrintWords Go.Proofs.YtlkebjkpmiehcaaW.PrintLast Go.Proofs.YtlkebjkpmiehcaaW.PrintMore
attribute [local go_sem] max2_int min2_int max_two min_two max_three min_three max_four min_four   
set_option linter.unusedVariables false
set_option linter.unusedSimpArgs false
def halberdlaw17_hello.f (a0 : ByteArray) (a1 : ByteArray) (a2 : ByteArray) (a3 : ByteArray) (a4 : ByteArray) : Option (ByteArray) := if 32 ≤ 281474976710656 then ((some (List.replicate 32 0 : List Int)).bind fun y259 => (if a0.size + (strOfNums y259).size ≤ 9223372036854775807 then ((some (a0 ++ (strOfNums y259) : ByteArray)).bind fun ys262 => ((halberdlaw17_vec.f a1 1).bind fun t263 => (if ys262.size + t263.size ≤ 9223372036854775807 then ((some (ys262 ++ t263 : ByteArray)).bind fun ys264 => ((halberdlaw17_vec.f a2 2).bind fun t265 => (if ys264.size + t265.size ≤ 9223372036854775807 then ((some (ys264 ++ t265 : ByteArray)).bind fun ys266 => ((halberdlaw17_vec.f a3 1).bind fun t267 => (if ys266.size + t267.size ≤ 9223372036854775807 then ((some (ys266 ++ t267 : ByteArray)).bind fun ys268 => ((halberdlaw17_vec.f a4 2).bind fun t269 => (if ys268.size + t269.size ≤ 9223372036854775807 then ((halberdlaw17_made.f 1 (ys268 ++ t269)).bind fun t271 => (some t271)) else (none)))) else (none)))) else (none)))) else (none)))) else (none))) else (none)
def halberdlaw17_hello.T1 : Bool × List (List Nat × List Nat) := (true, [([], []), ([], []), ([1], [1]), ([0, 2], [0, 2]), ([], []), ([4], [4]), ([3, 5], [3, 5]), ([], []), ([7, 5], [7]), ([6, 8], [6, 8]), ([], []), ([10, 8], [10]), ([9, 11], [9, 11]), ([], []), ([13, 11], [13]), ([12, 14], [12, 14]), ([15, 14], [15]), ([16, 16, 0, 1, 2, 3, 4, 5, 6, 7, 8, 9, 10, 11, 12, 13, 14, 15, 16], [16])])
def halberdlaw17_hello.B1 : List Nat := [0, 0, 2, 7, 0, 16, 63, 0, 176, 511, 0, 1456, 4095, 0, 11696, 32767, 65535, 131071]
theorem halberdlaw17_hello.tab1 : rtab .any (opsOf Try.f26 1) = halberdlaw17_hello.T1 := by kernel_rfl
theorem halberdlaw17_hello.bits1 : waitsOk halberdlaw17_hello.T1.2 halberdlaw17_hello.B1 = true := by kernel_rfl
set_option maxHeartbeats 8000000 in
set_option maxRecDepth 100000 in
theorem halberdlaw17_hello.calls (a0 : ByteArray) (a1 : ByteArray) (a2 : ByteArray) (a3 : ByteArray) (a4 : ByteArray) (r : ByteArray) (w : World) (h : halberdlaw17_hello.f a0 a1 a2 a3 a4 = some r) :
    Calls Try.prog 26 #[.string a0, .string a1, .string a2, .string a3, .string a4] w fun e w' => e = .returned (.string r) ∧ Below w.heap.size w w' := by
  have HB := Aside0.mk (Below.refl w.heap.size w)
  have H : (if 32 ≤ 281474976710656 then ((some (List.replicate 32 0 : List Int)).bind fun y259 => (if a0.size + (strOfNums y259).size ≤ 9223372036854775807 then ((some (a0 ++ (strOfNums y259) : ByteArray)).bind fun ys262 => ((halberdlaw17_vec.f a1 1).bind fun t263 => (if ys262.size + t263.size ≤ 9223372036854775807 then ((some (ys262 ++ t263 : ByteArray)).bind fun ys264 => ((halberdlaw17_vec.f a2 2).bind fun t265 => (if ys264.size + t265.size ≤ 9223372036854775807 then ((some (ys264 ++ t265 : ByteArray)).bind fun ys266 => ((halberdlaw17_vec.f a3 1).bind fun t267 => (if ys266.size + t267.size ≤ 9223372036854775807 then ((some (ys266 ++ t267 : ByteArray)).bind fun ys268 => ((halberdlaw17_vec.f a4 2).bind fun t269 => (if ys268.size + t269.size ≤ 9223372036854775807 then ((halberdlaw17_made.f 1 (ys268 ++ t269)).bind fun t271 => (some t271)) else (none)))) else (none)))) else (none)))) else (none)))) else (none))) else (none)) = some r := h
  clear h
  by_cases c6 : 32 ≤ 281474976710656
  · rw [if_pos c6] at H
    have c6b0 := eq_true c6
    have c6b1 : decide (32 ≤ 281474976710656) = true := decide_eq_true c6
    clear c6
    obtain ⟨y259, hy259⟩ : ∃ y_ : List Int, y_ = (List.replicate 32 0) := ⟨_, rfl⟩
    replace H : (if a0.size + (strOfNums y259).size ≤ 9223372036854775807 then ((some (a0 ++ (strOfNums y259) : ByteArray)).bind fun ys262 => ((halberdlaw17_vec.f a1 1).bind fun t263 => (if ys262.size + t263.size ≤ 9223372036854775807 then ((some (ys262 ++ t263 : ByteArray)).bind fun ys264 => ((halberdlaw17_vec.f a2 2).bind fun t265 => (if ys264.size + t265.size ≤ 9223372036854775807 then ((some (ys264 ++ t265 : ByteArray)).bind fun ys266 => ((halberdlaw17_vec.f a3 1).bind fun t267 => (if ys266.size + t267.size ≤ 9223372036854775807 then ((some (ys266 ++ t267 : ByteArray)).bind fun ys268 => ((halberdlaw17_vec.f a4 2).bind fun t269 => (if ys268.size + t269.size ≤ 9223372036854775807 then ((halberdlaw17_made.f 1 (ys268 ++ t269)).bind fun t271 => (some t271)) else (none)))) else (none)))) else (none)))) else (none)))) else (none)) = some r := by first | (rw [hy259]; with_reducible exact H) | (have H2_ := (Option.bind_some _ _).symm.trans H; rw [hy259]; with_reducible exact H2_) | (have H2_ := (Option.bind_some _ _).symm.trans H; with_reducible exact H2_) | with_reducible exact H | (rw [hy259]; exact H) | exact H
    have Ny259 := Aside0.mk hy259
    clear hy259
    by_cases c7 : a0.size + (strOfNums y259).size ≤ 9223372036854775807
    · rw [if_pos c7] at H
      have c7b0 := eq_true c7
      have c7b1 : decide (a0.size + (strOfNums y259).size ≤ 9223372036854775807) = true := decide_eq_true c7
      try have c7b2 : (9223372036854775807 < a0.size + (strOfNums y259).size) = False := eq_false (Nat.not_lt.2 c7)
      obtain ⟨ys262, hys262⟩ : ∃ y_ : ByteArray, y_ = (a0 ++ (strOfNums y259)) := ⟨_, rfl⟩
      replace H : ((halberdlaw17_vec.f a1 1).bind fun t263 => (if ys262.size + t263.size ≤ 9223372036854775807 then ((some (ys262 ++ t263 : ByteArray)).bind fun ys264 => ((halberdlaw17_vec.f a2 2).bind fun t265 => (if ys264.size + t265.size ≤ 9223372036854775807 then ((some (ys264 ++ t265 : ByteArray)).bind fun ys266 => ((halberdlaw17_vec.f a3 1).bind fun t267 => (if ys266.size + t267.size ≤ 9223372036854775807 then ((some (ys266 ++ t267 : ByteArray)).bind fun ys268 => ((halberdlaw17_vec.f a4 2).bind fun t269 => (if ys268.size + t269.size ≤ 9223372036854775807 then ((halberdlaw17_made.f 1 (ys268 ++ t269)).bind fun t271 => (some t271)) else (none)))) else (none)))) else (none)))) else (none))) = some r := by first | (rw [hys262]; with_reducible exact H) | (have H2_ := (Option.bind_some _ _).symm.trans H; rw [hys262]; with_reducible exact H2_) | (have H2_ := (Option.bind_some _ _).symm.trans H; with_reducible exact H2_) | with_reducible exact H | (rw [hys262]; exact H) | exact H
      have Nys262 := Aside0.mk hys262
      clear hys262
      have Sys262 := Nys262.out.symm
      replace H := Option.bind_eq_some_iff.mp H
      obtain ⟨t263, A80, H⟩ := H
      replace H : (if ys262.size + t263.size ≤ 9223372036854775807 then ((some (ys262 ++ t263 : ByteArray)).bind fun ys264 => ((halberdlaw17_vec.f a2 2).bind fun t265 => (if ys264.size + t265.size ≤ 9223372036854775807 then ((some (ys264 ++ t265 : ByteArray)).bind fun ys266 => ((halberdlaw17_vec.f a3 1).bind fun t267 => (if ys266.size + t267.size ≤ 9223372036854775807 then ((some (ys266 ++ t267 : ByteArray)).bind fun ys268 => ((halberdlaw17_vec.f a4 2).bind fun t269 => (if ys268.size + t269.size ≤ 9223372036854775807 then ((halberdlaw17_made.f 1 (ys268 ++ t269)).bind fun t271 => (some t271)) else (none)))) else (none)))) else (none)))) else (none)) = some r := H
      have A8 := Aside0.mk A80
      clear A80
      by_cases c9 : ys262.size + t263.size ≤ 9223372036854775807
      · rw [if_pos c9] at H
        have c9b0 := eq_true c9
        have c9b1 : decide (ys262.size + t263.size ≤ 9223372036854775807) = true := decide_eq_true c9
        try have c9b2 : (9223372036854775807 < ys262.size + t263.size) = False := eq_false (Nat.not_lt.2 c9)
        obtain ⟨ys264, hys264⟩ : ∃ y_ : ByteArray, y_ = (ys262 ++ t263) := ⟨_, rfl⟩
        replace H : ((halberdlaw17_vec.f a2 2).bind fun t265 => (if ys264.size + t265.size ≤ 9223372036854775807 then ((some (ys264 ++ t265 : ByteArray)).bind fun ys266 => ((halberdlaw17_vec.f a3 1).bind fun t267 => (if ys266.size + t267.size ≤ 9223372036854775807 then ((some (ys266 ++ t267 : ByteArray)).bind fun ys268 => ((halberdlaw17_vec.f a4 2).bind fun t269 => (if ys268.size + t269.size ≤ 9223372036854775807 then ((halberdlaw17_made.f 1 (ys268 ++ t269)).bind fun t271 => (some t271)) else (none)))) else (none)))) else (none))) = some r := by first | (rw [hys264]; with_reducible exact H) | (have H2_ := (Option.bind_some _ _).symm.trans H; rw [hys264]; with_reducible exact H2_) | (have H2_ := (Option.bind_some _ _).symm.trans H; with_reducible exact H2_) | with_reducible exact H | (rw [hys264]; exact H) | exact H
        have Nys264 := Aside0.mk hys264
        clear hys264
        have Sys264 := Nys264.out.symm
        replace H := Option.bind_eq_some_iff.mp H
        obtain ⟨t265, A100, H⟩ := H
        replace H : (if ys264.size + t265.size ≤ 9223372036854775807 then ((some (ys264 ++ t265 : ByteArray)).bind fun ys266 => ((halberdlaw17_vec.f a3 1).bind fun t267 => (if ys266.size + t267.size ≤ 9223372036854775807 then ((some (ys266 ++ t267 : ByteArray)).bind fun ys268 => ((halberdlaw17_vec.f a4 2).bind fun t269 => (if ys268.size + t269.size ≤ 9223372036854775807 then ((halberdlaw17_made.f 1 (ys268 ++ t269)).bind fun t271 => (some t271)) else (none)))) else (none)))) else (none)) = some r := H
        have A10 := Aside0.mk A100
        clear A100
        by_cases c11 : ys264.size + t265.size ≤ 9223372036854775807
        · rw [if_pos c11] at H
          have c11b0 := eq_true c11
          have c11b1 : decide (ys264.size + t265.size ≤ 9223372036854775807) = true := decide_eq_true c11
          try have c11b2 : (9223372036854775807 < ys264.size + t265.size) = False := eq_false (Nat.not_lt.2 c11)
          obtain ⟨ys266, hys266⟩ : ∃ y_ : ByteArray, y_ = (ys264 ++ t265) := ⟨_, rfl⟩
          replace H : ((halberdlaw17_vec.f a3 1).bind fun t267 => (if ys266.size + t267.size ≤ 9223372036854775807 then ((some (ys266 ++ t267 : ByteArray)).bind fun ys268 => ((halberdlaw17_vec.f a4 2).bind fun t269 => (if ys268.size + t269.size ≤ 9223372036854775807 then ((halberdlaw17_made.f 1 (ys268 ++ t269)).bind fun t271 => (some t271)) else (none)))) else (none))) = some r := by first | (rw [hys266]; with_reducible exact H) | (have H2_ := (Option.bind_some _ _).symm.trans H; rw [hys266]; with_reducible exact H2_) | (have H2_ := (Option.bind_some _ _).symm.trans H; with_reducible exact H2_) | with_reducible exact H | (rw [hys266]; exact H) | exact H
          have Nys266 := Aside0.mk hys266
          clear hys266
          have Sys266 := Nys266.out.symm
          replace H := Option.bind_eq_some_iff.mp H
          obtain ⟨t267, A120, H⟩ := H
          replace H : (if ys266.size + t267.size ≤ 9223372036854775807 then ((some (ys266 ++ t267 : ByteArray)).bind fun ys268 => ((halberdlaw17_vec.f a4 2).bind fun t269 => (if ys268.size + t269.size ≤ 9223372036854775807 then ((halberdlaw17_made.f 1 (ys268 ++ t269)).bind fun t271 => (some t271)) else (none)))) else (none)) = some r := H
          have A12 := Aside0.mk A120
          clear A120
          by_cases c13 : ys266.size + t267.size ≤ 9223372036854775807
          · rw [if_pos c13] at H
            have c13b0 := eq_true c13
            have c13b1 : decide (ys266.size + t267.size ≤ 9223372036854775807) = true := decide_eq_true c13
            try have c13b2 : (9223372036854775807 < ys266.size + t267.size) = False := eq_false (Nat.not_lt.2 c13)
            obtain ⟨ys268, hys268⟩ : ∃ y_ : ByteArray, y_ = (ys266 ++ t267) := ⟨_, rfl⟩
            replace H : ((halberdlaw17_vec.f a4 2).bind fun t269 => (if ys268.size + t269.size ≤ 9223372036854775807 then ((halberdlaw17_made.f 1 (ys268 ++ t269)).bind fun t271 => (some t271)) else (none))) = some r := by first | (rw [hys268]; with_reducible exact H) | (have H2_ := (Option.bind_some _ _).symm.trans H; rw [hys268]; with_reducible exact H2_) | (have H2_ := (Option.bind_some _ _).symm.trans H; with_reducible exact H2_) | with_reducible exact H | (rw [hys268]; exact H) | exact H
            have Nys268 := Aside0.mk hys268
            clear hys268
            have Sys268 := Nys268.out.symm
            replace H := Option.bind_eq_some_iff.mp H
            obtain ⟨t269, A140, H⟩ := H
            replace H : (if ys268.size + t269.size ≤ 9223372036854775807 then ((halberdlaw17_made.f 1 (ys268 ++ t269)).bind fun t271 => (some t271)) else (none)) = some r := H
            have A14 := Aside0.mk A140
            clear A140
            by_cases c15 : ys268.size + t269.size ≤ 9223372036854775807
            · rw [if_pos c15] at H
              have c15b0 := eq_true c15
              have c15b1 : decide (ys268.size + t269.size ≤ 9223372036854775807) = true := decide_eq_true c15
              try have c15b2 : (9223372036854775807 < ys268.size + t269.size) = False := eq_false (Nat.not_lt.2 c15)
              obtain ⟨ys270, hys270⟩ : ∃ y_ : ByteArray, y_ = (ys268 ++ t269) := ⟨_, rfl⟩
              replace H : ((halberdlaw17_made.f 1 ys270).bind fun t271 => (some t271)) = some r := by first | (rw [hys270]; with_reducible exact H) | (have H2_ := (Option.bind_some _ _).symm.trans H; rw [hys270]; with_reducible exact H2_) | (have H2_ := (Option.bind_some _ _).symm.trans H; with_reducible exact H2_) | with_reducible exact H | (rw [hys270]; exact H) | exact H
              have Nys270 := Aside0.mk hys270
              clear hys270
              have Sys270 := Nys270.out.symm
              replace H := Option.bind_eq_some_iff.mp H
              obtain ⟨t271, A160, H⟩ := H
              replace H : (some t271) = some r := H
              have A16 := Aside0.mk A160
              clear A160
              obtain rfl := Option.some.inj H
              go_enter Try.func26, Try.ntmps26
              try go_wp2
              have n0_ := Aside0.mk (below_drew1 HB.out)
              clear HB
              have HB := n0_
              clear n0_
              refine start_ (n := 18) (S := fun w' => True) (ds := []) #[false, false, false, false, false, false, false, false, false, false, false, false, false, false, false, false, false, false] (by kernel_rfl) rfl rfl trivial (fun hHeld => ?_); refine with_tabW halberdlaw17_hello.tab1 halberdlaw17_hello.bits1 (fun HT_ HW_ => ?_)
              generalize w.drew = w17 at HB hHeld ⊢
              refine pure_ (i := 0) (N := some 11) (v := ?_) (a' := ?_) #[true, false, false, false, false, false, false, false, false, false, false, false, false, false, false, false, false, false] rfl rfl (any_of HT_.out (by kernel_rfl)) (fun _ _ _ h => h) (Or.inl ⟨by rfl, ?_⟩) ?_ ?_
              rotate_left
              · intro w'
                go_simp
                with_reducible rfl
              rotate_left
              · simp only [Act.put, List.setIfInBounds_toArray, List.set_cons_zero, List.set_cons_succ, i64_w, i32_w]
                rfl
              refine pure_ (i := 4) (N := some 15) (v := ?_) (a' := ?_) #[true, false, false, false, true, false, false, false, false, false, false, false, false, false, false, false, false, false] rfl rfl (any_of HT_.out (by kernel_rfl)) (fun _ _ _ h => h) (Or.inl ⟨by rfl, ?_⟩) ?_ ?_
              rotate_left
              · intro w'
                go_simp
                with_reducible rfl
              rotate_left
              · simp only [Act.put, List.setIfInBounds_toArray, List.set_cons_zero, List.set_cons_succ, i64_w, i32_w]
                rfl
              refine pure_ (i := 7) (N := some 18) (v := ?_) (a' := ?_) #[true, false, false, false, true, false, false, true, false, false, false, false, false, false, false, false, false, false] rfl rfl (any_of HT_.out (by kernel_rfl)) (fun _ _ _ h => h) (Or.inl ⟨by rfl, ?_⟩) ?_ ?_
              rotate_left
              · intro w'
                go_simp
                with_reducible rfl
              rotate_left
              · simp only [Act.put, List.setIfInBounds_toArray, List.set_cons_zero, List.set_cons_succ, i64_w, i32_w]
                rfl
              refine pure_ (i := 10) (N := some 21) (v := ?_) (a' := ?_) #[true, false, false, false, true, false, false, true, false, false, true, false, false, false, false, false, false, false] rfl rfl (any_of HT_.out (by kernel_rfl)) (fun _ _ _ h => h) (Or.inl ⟨by rfl, ?_⟩) ?_ ?_
              rotate_left
              · intro w'
                go_simp
                with_reducible rfl
              rotate_left
              · simp only [Act.put, List.setIfInBounds_toArray, List.set_cons_zero, List.set_cons_succ, i64_w, i32_w]
                rfl
              refine pure_ (i := 13) (N := some 24) (v := ?_) (a' := ?_) #[true, false, false, false, true, false, false, true, false, false, true, false, false, true, false, false, false, false] rfl rfl (any_of HT_.out (by kernel_rfl)) (fun _ _ _ h => h) (Or.inl ⟨by rfl, ?_⟩) ?_ ?_
              rotate_left
              · intro w'
                go_simp
                with_reducible rfl
              rotate_left
              · simp only [Act.put, List.setIfInBounds_toArray, List.set_cons_zero, List.set_cons_succ, i64_w, i32_w]
                rfl
              refine join_ (σ := Value) 3 #[true, true, true, true, true, true, true, true, true, true, true, true, true, true, true, false, false, false] (fun s_ => [(12, s_), (13, .string (strOfNums y259)), (16, .string t263), (19, .string t265), (22, .string t267), (25, .string t269), (14, .string ys262), (17, .string ys264), (20, .string ys266), (23, .string ys268)]) (fun s_ w' => (Kd.R (Kd.int .u8) 5 w' w.heap.size (fun _ => True) s_ y259) ∧ (Below w.heap.size w w')) ?_ ?_
              rotate_left
              · intro hJ1_2_5_8_11_14
                refine join_ (σ := Value) 4 #[true, true, true, true, true, true, true, true, true, true, true, true, true, true, false, false, false, false] (fun s_ => [(12, s_), (13, .string (strOfNums y259)), (16, .string t263), (19, .string t265), (22, .string t267), (14, .string ys262), (17, .string ys264), (20, .string ys266), (23, .string ys268)]) (fun s_ w' => (Kd.R (Kd.int .u8) 5 w' w.heap.size (fun _ => True) s_ y259) ∧ (Below w.heap.size w w')) ?_ ?_
                rotate_left
                · intro hJ1_2_5_8_11
                  refine join_ (σ := Value) 8 #[true, true, false, false, true, true, false, true, true, false, true, true, false, true, true, false, false, false] (fun s_ => [(12, s_), (16, .string t263), (19, .string t265), (22, .string t267), (25, .string t269)]) (fun s_ w' => (Kd.R (Kd.int .u8) 5 w' w.heap.size (fun _ => True) s_ y259) ∧ (Below w.heap.size w w')) ?_ ?_
                  rotate_left
                  · intro hJ1_5_8_11_14
                    refine join_ (σ := Value) 6 #[true, true, true, true, true, true, true, true, true, true, true, false, false, true, false, false, false, false] (fun s_ => [(12, s_), (13, .string (strOfNums y259)), (16, .string t263), (19, .string t265), (14, .string ys262), (17, .string ys264), (20, .string ys266)]) (fun s_ w' => (Kd.R (Kd.int .u8) 5 w' w.heap.size (fun _ => True) s_ y259) ∧ (Below w.heap.size w w')) ?_ ?_
                    rotate_left
                    · intro hJ1_2_5_8
                      refine join_ (σ := Value) 9 #[true, true, false, false, true, true, false, true, true, false, true, true, false, true, false, false, false, false] (fun s_ => [(12, s_), (16, .string t263), (19, .string t265), (22, .string t267)]) (fun s_ w' => (Kd.R (Kd.int .u8) 5 w' w.heap.size (fun _ => True) s_ y259) ∧ (Below w.heap.size w w')) ?_ ?_
                      rotate_left
                      · intro hJ1_5_8_11
                        refine join_ (σ := Unit) 9 #[true, false, false, false, true, true, false, true, true, false, true, true, false, true, true, false, false, false] (fun s_ => [(16, .string t263), (19, .string t265), (22, .string t267), (25, .string t269)]) (fun s_ w' => (Below w.heap.size w w')) ?_ ?_
                        rotate_left
                        · intro hJ5_8_11_14
                          refine join_ (σ := Value) 8 #[true, true, true, true, true, true, true, true, false, false, true, false, false, true, false, false, false, false] (fun s_ => [(12, s_), (13, .string (strOfNums y259)), (16, .string t263), (14, .string ys262), (17, .string ys264)]) (fun s_ w' => (Kd.R (Kd.int .u8) 5 w' w.heap.size (fun _ => True) s_ y259) ∧ (Below w.heap.size w w')) ?_ ?_
                          rotate_left
                          · intro hJ1_2_5
                            refine join_ (σ := Value) 10 #[true, true, false, false, true, true, false, true, true, false, true, false, false, true, false, false, false, false] (fun s_ => [(12, s_), (16, .string t263), (19, .string t265)]) (fun s_ w' => (Kd.R (Kd.int .u8) 5 w' w.heap.size (fun _ => True) s_ y259) ∧ (Below w.heap.size w w')) ?_ ?_
                            rotate_left
                            · intro hJ1_5_8
                              refine join_ (σ := Unit) 10 #[true, false, false, false, true, true, false, true, true, false, true, true, false, true, false, false, false, false] (fun s_ => [(16, .string t263), (19, .string t265), (22, .string t267)]) (fun s_ w' => (Below w.heap.size w w')) ?_ ?_
                              rotate_left
                              · intro hJ5_8_11
                                refine join_ (σ := Value) 10 #[true, true, true, true, true, false, false, true, false, false, true, false, false, true, false, false, false, false] (fun s_ => [(12, s_), (13, .string (strOfNums y259)), (14, .string ys262)]) (fun s_ w' => (Kd.R (Kd.int .u8) 5 w' w.heap.size (fun _ => True) s_ y259) ∧ (Below w.heap.size w w')) ?_ ?_
                                rotate_left
                                · intro hJ1_2
                                  refine join_ (σ := Value) 11 #[true, true, false, false, true, true, false, true, false, false, true, false, false, true, false, false, false, false] (fun s_ => [(12, s_), (16, .string t263)]) (fun s_ w' => (Kd.R (Kd.int .u8) 5 w' w.heap.size (fun _ => True) s_ y259) ∧ (Below w.heap.size w w')) ?_ ?_
                                  rotate_left
                                  · intro hJ1_5
                                    refine join_ (σ := Unit) 11 #[true, false, false, false, true, true, false, true, true, false, true, false, false, true, false, false, false, false] (fun s_ => [(16, .string t263), (19, .string t265)]) (fun s_ w' => (Below w.heap.size w w')) ?_ ?_
                                    rotate_left
                                    · intro hJ5_8
                                      refine join_ (σ := Value) 12 #[true, true, false, false, true, false, false, true, false, false, true, false, false, true, false, false, false, false] (fun s_ => [(12, s_)]) (fun s_ w' => (Kd.R (Kd.int .u8) 5 w' w.heap.size (fun _ => True) s_ y259) ∧ (Below w.heap.size w w')) ?_ ?_
                                      rotate_left
                                      · intro hJ1
                                        refine join_ (σ := Unit) 12 #[true, false, false, false, true, true, false, true, false, false, true, false, false, true, false, false, false, false] (fun s_ => [(16, .string t263)]) (fun s_ w' => (Below w.heap.size w w')) ?_ ?_
                                        rotate_left
                                        · intro hJ5
                                          refine two_ (i := 1) (j := 5) (Ni := some 12) (Nj := some 16) #[true, true, false, false, true, false, false, true, false, false, true, false, false, true, false, false, false, false] #[true, false, false, false, true, true, false, true, false, false, true, false, false, true, false, false, false, false] rfl rfl rfl rfl (two_of HT_.out (by kernel_rfl)) (by decide) (by decide) (fun K hK => ?_) (fun K hK => ?_)
                                          · skip
                                            refine Kd.R_make_step (Kd.int .u8) _ 5 (by rfl) (N := 12) rfl 39 _ _ rfl 32 rfl rfl Try.underlying39 (.int .u8 0) 1 info5 rfl (by decide) (by omega) 0 (ok := fun _ => True) (okp := fun _ => True) rfl (fun _ hk => hk) trivial (by omega) (by omega) (Below.refl _ _) (Nat.le_refl _) ?_
                                            intro v260 w18 ho19 hb hg_ hnew_
                                            clear hg_ hnew_
                                            (first | rw [← Ny259.out] at ho19 | (simp only [Int.reduceToNat] at ho19; rw [← Ny259.out] at ho19))
                                            have n0_ := Aside0.mk (Kd.R_lower ho19 (below_size (by repeat (first | (with_reducible first | exact HB.out | apply below_alloc | apply pw_below_drewN | apply below_drew1) | exact HB.out))))
                                            have n1_ := Aside0.mk (below_step (by repeat (first | (with_reducible first | exact HB.out | apply below_alloc | apply pw_below_drewN | apply below_drew1) | exact HB.out)) hb)
                                            clear HB
                                            have HO261 := n0_
                                            have HB := n1_
                                            clear n0_ n1_
                                            clear hb ho19
                                            refine hK.out _ _ trivial (fun hHeld => ?_)
                                            clear hK K
                                            refine norm_ (a' := ?_) ?_ ?_
                                            rotate_left
                                            · show Act.put _ (some 12) _ = _
                                              simp only [Act.put, List.setIfInBounds_toArray, List.set_cons_zero, List.set_cons_succ, i64_w, i32_w]
                                              rfl
                                            exact norm_ (by first | (simp only [putAll, Act.put, List.setIfInBounds_toArray, List.set_cons_zero, List.set_cons_succ]; done) | (simp only [putAll, Act.put, List.setIfInBounds_toArray, List.set_cons_zero, List.set_cons_succ]; rfl)) (hJ1 (v260) _ ⟨(by (with_reducible repeat (first | apply Kd.R_alloc | apply Kd.R_drewN | apply Kd.R_drew)); exact HO261.out), (by repeat (first | (with_reducible first | exact HB.out | apply below_alloc | apply pw_below_drewN | apply below_drew1) | exact HB.out))⟩)
                                          · skip
                                            refine goes_ Try.func29 (by kernel_rfl) rfl #[.string a1, .int .i64 1] (by rfl) rfl rfl (by (try simp only [List.map_toArray, List.map_cons, List.map_nil]); first | done | rfl | (simp only [List.length_drop, List.length_take]; rfl)) ?_
                                            with_reducible refine (halberdlaw17_vec.calls a1 1 t263 _ A8.out).mono ?_
                                            rintro e w18 ⟨rfl, hb⟩
                                            refine ⟨_, rfl, ?_⟩
                                            have n0_ := Aside0.mk (below_step (by repeat (first | (with_reducible first | exact HB.out | apply below_alloc | apply pw_below_drewN | apply below_drew1) | exact HB.out)) hb)
                                            clear HB
                                            have HB := n0_
                                            clear n0_
                                            (try clear hb)
                                            (try clear hb2)
                                            (try clear hk)
                                            (try clear hi)
                                            refine hK.out _ _ trivial (fun hHeld => ?_)
                                            clear hK K
                                            refine norm_ (a' := ?_) ?_ ?_
                                            rotate_left
                                            · show Act.put _ (some 16) _ = _
                                              simp only [Act.put, List.setIfInBounds_toArray, List.set_cons_zero, List.set_cons_succ, i64_w, i32_w]
                                              rfl
                                            exact norm_ (by first | (simp only [putAll, Act.put, List.setIfInBounds_toArray, List.set_cons_zero, List.set_cons_succ]; done) | (simp only [putAll, Act.put, List.setIfInBounds_toArray, List.set_cons_zero, List.set_cons_succ]; rfl)) (hJ5 () _ (by repeat (first | (with_reducible first | exact HB.out | apply below_alloc | apply pw_below_drewN | apply below_drew1) | exact HB.out)))
                                        · skip
                                          rintro _ w19 h0_
                                          have n0_ : Aside0 (Below w.heap.size w w19) := ⟨h0_⟩
                                          clear HB
                                          clear h0_
                                          have HB := n0_
                                          clear n0_
                                          have hHeld := trivial
                                          refine norm_ (a' := ?_) ?_ ?_
                                          rotate_left
                                          · simp only [putAll, Act.put, List.setIfInBounds_toArray, List.set_cons_zero, List.set_cons_succ]
                                            rfl
                                          refine two_ (i := 1) (j := 8) (Ni := some 12) (Nj := some 19) #[true, true, false, false, true, true, false, true, false, false, true, false, false, true, false, false, false, false] #[true, false, false, false, true, true, false, true, true, false, true, false, false, true, false, false, false, false] rfl rfl rfl rfl (two_of HT_.out (by kernel_rfl)) (by decide) (by decide) (fun K hK => ?_) (fun K hK => ?_)
                                          · skip
                                            refine Kd.R_make_step (Kd.int .u8) _ 5 (by rfl) (N := 12) rfl 39 _ _ rfl 32 rfl rfl Try.underlying39 (.int .u8 0) 1 info5 rfl (by decide) (by omega) 0 (ok := fun _ => True) (okp := fun _ => True) rfl (fun _ hk => hk) trivial (by omega) (by omega) (Below.refl _ _) (Nat.le_refl _) ?_
                                            intro v260 w20 ho21 hb hg_ hnew_
                                            clear hg_ hnew_
                                            (first | rw [← Ny259.out] at ho21 | (simp only [Int.reduceToNat] at ho21; rw [← Ny259.out] at ho21))
                                            have n0_ := Aside0.mk (Kd.R_lower ho21 (below_size (by repeat (first | (with_reducible first | exact HB.out | apply below_alloc | apply pw_below_drewN | apply below_drew1) | exact HB.out))))
                                            have n1_ := Aside0.mk (below_step (by repeat (first | (with_reducible first | exact HB.out | apply below_alloc | apply pw_below_drewN | apply below_drew1) | exact HB.out)) hb)
                                            clear HB
                                            have HO261 := n0_
                                            have HB := n1_
                                            clear n0_ n1_
                                            clear hb ho21
                                            refine hK.out _ _ trivial (fun hHeld => ?_)
                                            clear hK K
                                            refine norm_ (a' := ?_) ?_ ?_
                                            rotate_left
                                            · show Act.put _ (some 12) _ = _
                                              simp only [Act.put, List.setIfInBounds_toArray, List.set_cons_zero, List.set_cons_succ, i64_w, i32_w]
                                              rfl
                                            exact norm_ (by first | (simp only [putAll, Act.put, List.setIfInBounds_toArray, List.set_cons_zero, List.set_cons_succ]; done) | (simp only [putAll, Act.put, List.setIfInBounds_toArray, List.set_cons_zero, List.set_cons_succ]; rfl)) (hJ1_5 (v260) _ ⟨(by (with_reducible repeat (first | apply Kd.R_alloc | apply Kd.R_drewN | apply Kd.R_drew)); exact HO261.out), (by repeat (first | (with_reducible first | exact HB.out | apply below_alloc | apply pw_below_drewN | apply below_drew1) | exact HB.out))⟩)
                                          · skip
                                            refine goes_ Try.func29 (by kernel_rfl) rfl #[.string a2, .int .i64 2] (by rfl) rfl rfl (by (try simp only [List.map_toArray, List.map_cons, List.map_nil]); first | done | rfl | (simp only [List.length_drop, List.length_take]; rfl)) ?_
                                            with_reducible refine (halberdlaw17_vec.calls a2 2 t265 _ A10.out).mono ?_
                                            rintro e w20 ⟨rfl, hb⟩
                                            refine ⟨_, rfl, ?_⟩
                                            have n0_ := Aside0.mk (below_step (by repeat (first | (with_reducible first | exact HB.out | apply below_alloc | apply pw_below_drewN | apply below_drew1) | exact HB.out)) hb)
                                            clear HB
                                            have HB := n0_
                                            clear n0_
                                            (try clear hb)
                                            (try clear hb2)
                                            (try clear hk)
                                            (try clear hi)
                                            refine hK.out _ _ trivial (fun hHeld => ?_)
                                            clear hK K
                                            refine norm_ (a' := ?_) ?_ ?_
                                            rotate_left
                                            · show Act.put _ (some 19) _ = _
                                              simp only [Act.put, List.setIfInBounds_toArray, List.set_cons_zero, List.set_cons_succ, i64_w, i32_w]
                                              rfl
                                            exact norm_ (by first | (simp only [putAll, Act.put, List.setIfInBounds_toArray, List.set_cons_zero, List.set_cons_succ]; done) | (simp only [putAll, Act.put, List.setIfInBounds_toArray, List.set_cons_zero, List.set_cons_succ]; rfl)) (hJ5_8 () _ (by repeat (first | (with_reducible first | exact HB.out | apply below_alloc | apply pw_below_drewN | apply below_drew1) | exact HB.out)))
                                      · skip
                                        rintro v260 w20 ⟨h0_, h1_⟩
                                        have n0_ : Aside0 (Kd.R (Kd.int .u8) 5 w20 w.heap.size (fun _ => True) v260 y259) := ⟨h0_⟩
                                        have n1_ : Aside0 (Below w.heap.size w w20) := ⟨h1_⟩
                                        clear HB
                                        clear h0_ h1_
                                        have HO261 := n0_
                                        have HB := n1_
                                        clear n0_ n1_
                                        have hHeld := trivial
                                        refine norm_ (a' := ?_) ?_ ?_
                                        rotate_left
                                        · simp only [putAll, Act.put, List.setIfInBounds_toArray, List.set_cons_zero, List.set_cons_succ]
                                          rfl
                                        refine two_ (i := 2) (j := 5) (Ni := some 13) (Nj := some 16) #[true, true, true, false, true, false, false, true, false, false, true, false, false, true, false, false, false, false] #[true, true, false, false, true, true, false, true, false, false, true, false, false, true, false, false, false, false] rfl rfl rfl rfl (two_of HT_.out (by kernel_rfl)) (by decide) (by decide) (fun K hK => ?_) (fun K hK => ?_)
                                        · skip
                                          have hcv21 := own_string (P := Try.prog) Try.underlying39 Try.underlying5 Try.underlying9 (Kd.own_of_R HO261.out)
                                          refine value_ (w1 := ?_) (v := ?_) (by rfl) rfl ?_ ?_
                                          rotate_left 2
                                          · go_simp
                                            constructor
                                            · rfl
                                            · rfl
                                          clear hcv21
                                          refine hK.out _ _ trivial (fun hHeld => ?_)
                                          clear hK K
                                          refine norm_ (a' := ?_) ?_ ?_
                                          rotate_left
                                          · show Act.put _ (some 13) _ = _
                                            simp only [Act.put, List.setIfInBounds_toArray, List.set_cons_zero, List.set_cons_succ, i64_w, i32_w]
                                            rfl
                                          refine pure_ (i := 3) (N := some 14) (v := ?_) (a' := ?_) #[true, true, true, true, true, false, false, true, false, false, true, false, false, true, false, false, false, false] rfl rfl (any_of HT_.out (by kernel_rfl)) (fun _ _ _ h => h) (Or.inl ⟨by rfl, ?_⟩) ?_ ?_
                                          rotate_left
                                          · intro w'
                                            go_simp
                                            with_reducible rfl
                                          rotate_left
                                          · simp only [Act.put, List.setIfInBounds_toArray, List.set_cons_zero, List.set_cons_succ, i64_w, i32_w]
                                            rfl
                                          exact norm_ (by first | (simp only [putAll, Act.put, List.setIfInBounds_toArray, List.set_cons_zero, List.set_cons_succ]; done) | (simp only [putAll, Act.put, List.setIfInBounds_toArray, List.set_cons_zero, List.set_cons_succ]; rfl)) (hJ1_2 (v260) _ ⟨(by (with_reducible repeat (first | apply Kd.R_alloc | apply Kd.R_drewN | apply Kd.R_drew)); exact HO261.out), (by repeat (first | (with_reducible first | exact HB.out | apply below_alloc | apply pw_below_drewN | apply below_drew1) | exact HB.out))⟩)
                                        · skip
                                          refine goes_ Try.func29 (by kernel_rfl) rfl #[.string a1, .int .i64 1] (by rfl) rfl rfl (by (try simp only [List.map_toArray, List.map_cons, List.map_nil]); first | done | rfl | (simp only [List.length_drop, List.length_take]; rfl)) ?_
                                          with_reducible refine (halberdlaw17_vec.calls a1 1 t263 _ A8.out).mono ?_
                                          rintro e w21 ⟨rfl, hb⟩
                                          refine ⟨_, rfl, ?_⟩
                                          have n0_ := Aside0.mk (Kd.R_below (by (with_reducible repeat (first | apply Kd.R_alloc | apply Kd.R_drewN | apply Kd.R_drew)); exact HO261.out) hb)
                                          have n1_ := Aside0.mk (below_step (by repeat (first | (with_reducible first | exact HB.out | apply below_alloc | apply pw_below_drewN | apply below_drew1) | exact HB.out)) hb)
                                          clear HO261
                                          clear HB
                                          have HO261 := n0_
                                          have HB := n1_
                                          clear n0_ n1_
                                          (try clear hb)
                                          (try clear hb2)
                                          (try clear hk)
                                          (try clear hi)
                                          refine hK.out _ _ trivial (fun hHeld => ?_)
                                          clear hK K
                                          refine norm_ (a' := ?_) ?_ ?_
                                          rotate_left
                                          · show Act.put _ (some 16) _ = _
                                            simp only [Act.put, List.setIfInBounds_toArray, List.set_cons_zero, List.set_cons_succ, i64_w, i32_w]
                                            rfl
                                          exact norm_ (by first | (simp only [putAll, Act.put, List.setIfInBounds_toArray, List.set_cons_zero, List.set_cons_succ]; done) | (simp only [putAll, Act.put, List.setIfInBounds_toArray, List.set_cons_zero, List.set_cons_succ]; rfl)) (hJ1_5 (v260) _ ⟨(by (with_reducible repeat (first | apply Kd.R_alloc | apply Kd.R_drewN | apply Kd.R_drew)); exact HO261.out), (by repeat (first | (with_reducible first | exact HB.out | apply below_alloc | apply pw_below_drewN | apply below_drew1) | exact HB.out))⟩)
                                    · skip
                                      rintro _ w20 h0_
                                      have n0_ : Aside0 (Below w.heap.size w w20) := ⟨h0_⟩
                                      clear HB
                                      clear h0_
                                      have HB := n0_
                                      clear n0_
                                      have hHeld := trivial
                                      refine norm_ (a' := ?_) ?_ ?_
                                      rotate_left
                                      · simp only [putAll, Act.put, List.setIfInBounds_toArray, List.set_cons_zero, List.set_cons_succ]
                                        rfl
                                      refine two_ (i := 1) (j := 11) (Ni := some 12) (Nj := some 22) #[true, true, false, false, true, true, false, true, true, false, true, false, false, true, false, false, false, false] #[true, false, false, false, true, true, false, true, true, false, true, true, false, true, false, false, false, false] rfl rfl rfl rfl (two_of HT_.out (by kernel_rfl)) (by decide) (by decide) (fun K hK => ?_) (fun K hK => ?_)
                                      · skip
                                        refine Kd.R_make_step (Kd.int .u8) _ 5 (by rfl) (N := 12) rfl 39 _ _ rfl 32 rfl rfl Try.underlying39 (.int .u8 0) 1 info5 rfl (by decide) (by omega) 0 (ok := fun _ => True) (okp := fun _ => True) rfl (fun _ hk => hk) trivial (by omega) (by omega) (Below.refl _ _) (Nat.le_refl _) ?_
                                        intro v260 w21 ho22 hb hg_ hnew_
                                        clear hg_ hnew_
                                        (first | rw [← Ny259.out] at ho22 | (simp only [Int.reduceToNat] at ho22; rw [← Ny259.out] at ho22))
                                        have n0_ := Aside0.mk (Kd.R_lower ho22 (below_size (by repeat (first | (with_reducible first | exact HB.out | apply below_alloc | apply pw_below_drewN | apply below_drew1) | exact HB.out))))
                                        have n1_ := Aside0.mk (below_step (by repeat (first | (with_reducible first | exact HB.out | apply below_alloc | apply pw_below_drewN | apply below_drew1) | exact HB.out)) hb)
                                        clear HB
                                        have HO261 := n0_
                                        have HB := n1_
                                        clear n0_ n1_
                                        clear hb ho22
                                        refine hK.out _ _ trivial (fun hHeld => ?_)
                                        clear hK K
                                        refine norm_ (a' := ?_) ?_ ?_
                                        rotate_left
                                        · show Act.put _ (some 12) _ = _
                                          simp only [Act.put, List.setIfInBounds_toArray, List.set_cons_zero, List.set_cons_succ, i64_w, i32_w]
                                          rfl
                                        exact norm_ (by first | (simp only [putAll, Act.put, List.setIfInBounds_toArray, List.set_cons_zero, List.set_cons_succ]; done) | (simp only [putAll, Act.put, List.setIfInBounds_toArray, List.set_cons_zero, List.set_cons_succ]; rfl)) (hJ1_5_8 (v260) _ ⟨(by (with_reducible repeat (first | apply Kd.R_alloc | apply Kd.R_drewN | apply Kd.R_drew)); exact HO261.out), (by repeat (first | (with_reducible first | exact HB.out | apply below_alloc | apply pw_below_drewN | apply below_drew1) | exact HB.out))⟩)
                                      · skip
                                        refine goes_ Try.func29 (by kernel_rfl) rfl #[.string a3, .int .i64 1] (by rfl) rfl rfl (by (try simp only [List.map_toArray, List.map_cons, List.map_nil]); first | done | rfl | (simp only [List.length_drop, List.length_take]; rfl)) ?_
                                        with_reducible refine (halberdlaw17_vec.calls a3 1 t267 _ A12.out).mono ?_
                                        rintro e w21 ⟨rfl, hb⟩
                                        refine ⟨_, rfl, ?_⟩
                                        have n0_ := Aside0.mk (below_step (by repeat (first | (with_reducible first | exact HB.out | apply below_alloc | apply pw_below_drewN | apply below_drew1) | exact HB.out)) hb)
                                        clear HB
                                        have HB := n0_
                                        clear n0_
                                        (try clear hb)
                                        (try clear hb2)
                                        (try clear hk)
                                        (try clear hi)
                                        refine hK.out _ _ trivial (fun hHeld => ?_)
                                        clear hK K
                                        refine norm_ (a' := ?_) ?_ ?_
                                        rotate_left
                                        · show Act.put _ (some 22) _ = _
                                          simp only [Act.put, List.setIfInBounds_toArray, List.set_cons_zero, List.set_cons_succ, i64_w, i32_w]
                                          rfl
                                        exact norm_ (by first | (simp only [putAll, Act.put, List.setIfInBounds_toArray, List.set_cons_zero, List.set_cons_succ]; done) | (simp only [putAll, Act.put, List.setIfInBounds_toArray, List.set_cons_zero, List.set_cons_succ]; rfl)) (hJ5_8_11 () _ (by repeat (first | (with_reducible first | exact HB.out | apply below_alloc | apply pw_below_drewN | apply below_drew1) | exact HB.out)))
                                  · skip
                                    rintro v260 w21 ⟨h0_, h1_⟩
                                    have n0_ : Aside0 (Kd.R (Kd.int .u8) 5 w21 w.heap.size (fun _ => True) v260 y259) := ⟨h0_⟩
                                    have n1_ : Aside0 (Below w.heap.size w w21) := ⟨h1_⟩
                                    clear HB
                                    clear h0_ h1_
                                    have HO261 := n0_
                                    have HB := n1_
                                    clear n0_ n1_
                                    have hHeld := trivial
                                    refine norm_ (a' := ?_) ?_ ?_
                                    rotate_left
                                    · simp only [putAll, Act.put, List.setIfInBounds_toArray, List.set_cons_zero, List.set_cons_succ]
                                      rfl
                                    refine two_ (i := 2) (j := 8) (Ni := some 13) (Nj := some 19) #[true, true, true, false, true, true, false, true, false, false, true, false, false, true, false, false, false, false] #[true, true, false, false, true, true, false, true, true, false, true, false, false, true, false, false, false, false] rfl rfl rfl rfl (two_of HT_.out (by kernel_rfl)) (by decide) (by decide) (fun K hK => ?_) (fun K hK => ?_)
                                    · skip
                                      have hcv22 := own_string (P := Try.prog) Try.underlying39 Try.underlying5 Try.underlying9 (Kd.own_of_R HO261.out)
                                      refine value_ (w1 := ?_) (v := ?_) (by rfl) rfl ?_ ?_
                                      rotate_left 2
                                      · go_simp
                                        constructor
                                        · rfl
                                        · rfl
                                      clear hcv22
                                      refine hK.out _ _ trivial (fun hHeld => ?_)
                                      clear hK K
                                      refine norm_ (a' := ?_) ?_ ?_
                                      rotate_left
                                      · show Act.put _ (some 13) _ = _
                                        simp only [Act.put, List.setIfInBounds_toArray, List.set_cons_zero, List.set_cons_succ, i64_w, i32_w]
                                        rfl
                                      refine pure_ (i := 3) (N := some 14) (v := ?_) (a' := ?_) #[true, true, true, true, true, true, false, true, false, false, true, false, false, true, false, false, false, false] rfl rfl (any_of HT_.out (by kernel_rfl)) (fun _ _ _ h => h) (Or.inl ⟨by rfl, ?_⟩) ?_ ?_
                                      rotate_left
                                      · intro w'
                                        go_simp
                                        with_reducible rfl
                                      rotate_left
                                      · simp only [Act.put, List.setIfInBounds_toArray, List.set_cons_zero, List.set_cons_succ, i64_w, i32_w]
                                        rfl
                                      refine pure_ (i := 6) (N := some 17) (v := ?_) (a' := ?_) #[true, true, true, true, true, true, true, true, false, false, true, false, false, true, false, false, false, false] rfl rfl (any_of HT_.out (by kernel_rfl)) (fun _ _ _ h => h) (Or.inl ⟨by rfl, ?_⟩) ?_ ?_
                                      rotate_left
                                      · intro w'
                                        go_simp
                                        with_reducible rfl
                                      rotate_left
                                      · simp only [Act.put, List.setIfInBounds_toArray, List.set_cons_zero, List.set_cons_succ, i64_w, i32_w]
                                        rfl
                                      exact norm_ (by first | (simp only [putAll, Act.put, List.setIfInBounds_toArray, List.set_cons_zero, List.set_cons_succ]; done) | (simp only [putAll, Act.put, List.setIfInBounds_toArray, List.set_cons_zero, List.set_cons_succ]; rfl)) (hJ1_2_5 (v260) _ ⟨(by (with_reducible repeat (first | apply Kd.R_alloc | apply Kd.R_drewN | apply Kd.R_drew)); exact HO261.out), (by repeat (first | (with_reducible first | exact HB.out | apply below_alloc | apply pw_below_drewN | apply below_drew1) | exact HB.out))⟩)
                                    · skip
                                      refine goes_ Try.func29 (by kernel_rfl) rfl #[.string a2, .int .i64 2] (by rfl) rfl rfl (by (try simp only [List.map_toArray, List.map_cons, List.map_nil]); first | done | rfl | (simp only [List.length_drop, List.length_take]; rfl)) ?_
                                      with_reducible refine (halberdlaw17_vec.calls a2 2 t265 _ A10.out).mono ?_
                                      rintro e w22 ⟨rfl, hb⟩
                                      refine ⟨_, rfl, ?_⟩
                                      have n0_ := Aside0.mk (Kd.R_below (by (with_reducible repeat (first | apply Kd.R_alloc | apply Kd.R_drewN | apply Kd.R_drew)); exact HO261.out) hb)
                                      have n1_ := Aside0.mk (below_step (by repeat (first | (with_reducible first | exact HB.out | apply below_alloc | apply pw_below_drewN | apply below_drew1) | exact HB.out)) hb)
                                      clear HO261
                                      clear HB
                                      have HO261 := n0_
                                      have HB := n1_
                                      clear n0_ n1_
                                      (try clear hb)
                                      (try clear hb2)
                                      (try clear hk)
                                      (try clear hi)
                                      refine hK.out _ _ trivial (fun hHeld => ?_)
                                      clear hK K
                                      refine norm_ (a' := ?_) ?_ ?_
                                      rotate_left
                                      · show Act.put _ (some 19) _ = _
                                        simp only [Act.put, List.setIfInBounds_toArray, List.set_cons_zero, List.set_cons_succ, i64_w, i32_w]
                                        rfl
                                      exact norm_ (by first | (simp only [putAll, Act.put, List.setIfInBounds_toArray, List.set_cons_zero, List.set_cons_succ]; done) | (simp only [putAll, Act.put, List.setIfInBounds_toArray, List.set_cons_zero, List.set_cons_succ]; rfl)) (hJ1_5_8 (v260) _ ⟨(by (with_reducible repeat (first | apply Kd.R_alloc | apply Kd.R_drewN | apply Kd.R_drew)); exact HO261.out), (by repeat (first | (with_reducible first | exact HB.out | apply below_alloc | apply pw_below_drewN | apply below_drew1) | exact HB.out))⟩)
                                · skip
                                  rintro v260 w21 ⟨h0_, h1_⟩
                                  have n0_ : Aside0 (Kd.R (Kd.int .u8) 5 w21 w.heap.size (fun _ => True) v260 y259) := ⟨h0_⟩
                                  have n1_ : Aside0 (Below w.heap.size w w21) := ⟨h1_⟩
                                  clear HB
                                  clear h0_ h1_
                                  have HO261 := n0_
                                  have HB := n1_
                                  clear n0_ n1_
                                  have hHeld := trivial
                                  refine norm_ (a' := ?_) ?_ ?_
                                  rotate_left
                                  · simp only [putAll, Act.put, List.setIfInBounds_toArray, List.set_cons_zero, List.set_cons_succ]
                                    rfl
                                  refine one_ (i := 5) (N := some 16) #[true, true, true, true, true, true, false, true, false, false, true, false, false, true, false, false, false, false] rfl rfl (one_of HT_.out (by kernel_rfl)) (by decide) (fun K hK => ?_)
                                  refine goes_ Try.func29 (by kernel_rfl) rfl #[.string a1, .int .i64 1] (by rfl) rfl rfl (by (try simp only [List.map_toArray, List.map_cons, List.map_nil]); first | done | rfl | (simp only [List.length_drop, List.length_take]; rfl)) ?_
                                  with_reducible refine (halberdlaw17_vec.calls a1 1 t263 _ A8.out).mono ?_
                                  rintro e w22 ⟨rfl, hb⟩
                                  refine ⟨_, rfl, ?_⟩
                                  have n0_ := Aside0.mk (Kd.R_below (by (with_reducible repeat (first | apply Kd.R_alloc | apply Kd.R_drewN | apply Kd.R_drew)); exact HO261.out) hb)
                                  have n1_ := Aside0.mk (below_step (by repeat (first | (with_reducible first | exact HB.out | apply below_alloc | apply pw_below_drewN | apply below_drew1) | exact HB.out)) hb)
                                  clear HO261
                                  clear HB
                                  have HO261 := n0_
                                  have HB := n1_
                                  clear n0_ n1_
                                  (try clear hb)
                                  (try clear hb2)
                                  (try clear hk)
                                  (try clear hi)
                                  refine hK.out _ _ trivial (fun hHeld => ?_)
                                  clear hK K
                                  refine norm_ (a' := ?_) ?_ ?_
                                  rotate_left
                                  · show Act.put _ (some 16) _ = _
                                    simp only [Act.put, List.setIfInBounds_toArray, List.set_cons_zero, List.set_cons_succ, i64_w, i32_w]
                                    rfl
                                  refine pure_ (i := 6) (N := some 17) (v := ?_) (a' := ?_) #[true, true, true, true, true, true, true, true, false, false, true, false, false, true, false, false, false, false] rfl rfl (any_of HT_.out (by kernel_rfl)) (fun _ _ _ h => h) (Or.inl ⟨by rfl, ?_⟩) ?_ ?_
                                  rotate_left
                                  · intro w'
                                    go_simp
                                    with_reducible rfl
                                  rotate_left
                                  · simp only [Act.put, List.setIfInBounds_toArray, List.set_cons_zero, List.set_cons_succ, i64_w, i32_w]
                                    rfl
                                  exact norm_ (by first | (simp only [putAll, Act.put, List.setIfInBounds_toArray, List.set_cons_zero, List.set_cons_succ]; done) | (simp only [putAll, Act.put, List.setIfInBounds_toArray, List.set_cons_zero, List.set_cons_succ]; rfl)) (hJ1_2_5 (v260) _ ⟨(by (with_reducible repeat (first | apply Kd.R_alloc | apply Kd.R_drewN | apply Kd.R_drew)); exact HO261.out), (by repeat (first | (with_reducible first | exact HB.out | apply below_alloc | apply pw_below_drewN | apply below_drew1) | exact HB.out))⟩)
                              · skip
                                rintro _ w21 h0_
                                have n0_ : Aside0 (Below w.heap.size w w21) := ⟨h0_⟩
                                clear HB
                                clear h0_
                                have HB := n0_
                                clear n0_
                                have hHeld := trivial
                                refine norm_ (a' := ?_) ?_ ?_
                                rotate_left
                                · simp only [putAll, Act.put, List.setIfInBounds_toArray, List.set_cons_zero, List.set_cons_succ]
                                  rfl
                                refine two_ (i := 1) (j := 14) (Ni := some 12) (Nj := some 25) #[true, true, false, false, true, true, false, true, true, false, true, true, false, true, false, false, false, false] #[true, false, false, false, true, true, false, true, true, false, true, true, false, true, true, false, false, false] rfl rfl rfl rfl (two_of HT_.out (by kernel_rfl)) (by decide) (by decide) (fun K hK => ?_) (fun K hK => ?_)
                                · skip
                                  refine Kd.R_make_step (Kd.int .u8) _ 5 (by rfl) (N := 12) rfl 39 _ _ rfl 32 rfl rfl Try.underlying39 (.int .u8 0) 1 info5 rfl (by decide) (by omega) 0 (ok := fun _ => True) (okp := fun _ => True) rfl (fun _ hk => hk) trivial (by omega) (by omega) (Below.refl _ _) (Nat.le_refl _) ?_
                                  intro v260 w22 ho23 hb hg_ hnew_
                                  clear hg_ hnew_
                                  (first | rw [← Ny259.out] at ho23 | (simp only [Int.reduceToNat] at ho23; rw [← Ny259.out] at ho23))
                                  have n0_ := Aside0.mk (Kd.R_lower ho23 (below_size (by repeat (first | (with_reducible first | exact HB.out | apply below_alloc | apply pw_below_drewN | apply below_drew1) | exact HB.out))))
                                  have n1_ := Aside0.mk (below_step (by repeat (first | (with_reducible first | exact HB.out | apply below_alloc | apply pw_below_drewN | apply below_drew1) | exact HB.out)) hb)
                                  clear HB
                                  have HO261 := n0_
                                  have HB := n1_
                                  clear n0_ n1_
                                  clear hb ho23
                                  refine hK.out _ _ trivial (fun hHeld => ?_)
                                  clear hK K
                                  refine norm_ (a' := ?_) ?_ ?_
                                  rotate_left
                                  · show Act.put _ (some 12) _ = _
                                    simp only [Act.put, List.setIfInBounds_toArray, List.set_cons_zero, List.set_cons_succ, i64_w, i32_w]
                                    rfl
                                  exact norm_ (by first | (simp only [putAll, Act.put, List.setIfInBounds_toArray, List.set_cons_zero, List.set_cons_succ]; done) | (simp only [putAll, Act.put, List.setIfInBounds_toArray, List.set_cons_zero, List.set_cons_succ]; rfl)) (hJ1_5_8_11 (v260) _ ⟨(by (with_reducible repeat (first | apply Kd.R_alloc | apply Kd.R_drewN | apply Kd.R_drew)); exact HO261.out), (by repeat (first | (with_reducible first | exact HB.out | apply below_alloc | apply pw_below_drewN | apply below_drew1) | exact HB.out))⟩)
                                · skip
                                  refine goes_ Try.func29 (by kernel_rfl) rfl #[.string a4, .int .i64 2] (by rfl) rfl rfl (by (try simp only [List.map_toArray, List.map_cons, List.map_nil]); first | done | rfl | (simp only [List.length_drop, List.length_take]; rfl)) ?_
                                  with_reducible refine (halberdlaw17_vec.calls a4 2 t269 _ A14.out).mono ?_
                                  rintro e w22 ⟨rfl, hb⟩
                                  refine ⟨_, rfl, ?_⟩
                                  have n0_ := Aside0.mk (below_step (by repeat (first | (with_reducible first | exact HB.out | apply below_alloc | apply pw_below_drewN | apply below_drew1) | exact HB.out)) hb)
                                  clear HB
                                  have HB := n0_
                                  clear n0_
                                  (try clear hb)
                                  (try clear hb2)
                                  (try clear hk)
                                  (try clear hi)
                                  refine hK.out _ _ trivial (fun hHeld => ?_)
                                  clear hK K
                                  refine norm_ (a' := ?_) ?_ ?_
                                  rotate_left
                                  · show Act.put _ (some 25) _ = _
                                    simp only [Act.put, List.setIfInBounds_toArray, List.set_cons_zero, List.set_cons_succ, i64_w, i32_w]
                                    rfl
                                  exact norm_ (by first | (simp only [putAll, Act.put, List.setIfInBounds_toArray, List.set_cons_zero, List.set_cons_succ]; done) | (simp only [putAll, Act.put, List.setIfInBounds_toArray, List.set_cons_zero, List.set_cons_succ]; rfl)) (hJ5_8_11_14 () _ (by repeat (first | (with_reducible first | exact HB.out | apply below_alloc | apply pw_below_drewN | apply below_drew1) | exact HB.out)))
                            · skip
                              rintro v260 w22 ⟨h0_, h1_⟩
                              have n0_ : Aside0 (Kd.R (Kd.int .u8) 5 w22 w.heap.size (fun _ => True) v260 y259) := ⟨h0_⟩
                              have n1_ : Aside0 (Below w.heap.size w w22) := ⟨h1_⟩
                              clear HB
                              clear h0_ h1_
                              have HO261 := n0_
                              have HB := n1_
                              clear n0_ n1_
                              have hHeld := trivial
                              refine norm_ (a' := ?_) ?_ ?_
                              rotate_left
                              · simp only [putAll, Act.put, List.setIfInBounds_toArray, List.set_cons_zero, List.set_cons_succ]
                                rfl
                              refine two_ (i := 2) (j := 11) (Ni := some 13) (Nj := some 22) #[true, true, true, false, true, true, false, true, true, false, true, false, false, true, false, false, false, false] #[true, true, false, false, true, true, false, true, true, false, true, true, false, true, false, false, false, false] rfl rfl rfl rfl (two_of HT_.out (by kernel_rfl)) (by decide) (by decide) (fun K hK => ?_) (fun K hK => ?_)
                              · skip
                                have hcv23 := own_string (P := Try.prog) Try.underlying39 Try.underlying5 Try.underlying9 (Kd.own_of_R HO261.out)
                                refine value_ (w1 := ?_) (v := ?_) (by rfl) rfl ?_ ?_
                                rotate_left 2
                                · go_simp
                                  constructor
                                  · rfl
                                  · rfl
                                clear hcv23
                                refine hK.out _ _ trivial (fun hHeld => ?_)
                                clear hK K
                                refine norm_ (a' := ?_) ?_ ?_
                                rotate_left
                                · show Act.put _ (some 13) _ = _
                                  simp only [Act.put, List.setIfInBounds_toArray, List.set_cons_zero, List.set_cons_succ, i64_w, i32_w]
                                  rfl
                                refine pure_ (i := 3) (N := some 14) (v := ?_) (a' := ?_) #[true, true, true, true, true, true, false, true, true, false, true, false, false, true, false, false, false, false] rfl rfl (any_of HT_.out (by kernel_rfl)) (fun _ _ _ h => h) (Or.inl ⟨by rfl, ?_⟩) ?_ ?_
                                rotate_left
                                · intro w'
                                  go_simp
                                  with_reducible rfl
                                rotate_left
                                · simp only [Act.put, List.setIfInBounds_toArray, List.set_cons_zero, List.set_cons_succ, i64_w, i32_w]
                                  rfl
                                refine pure_ (i := 6) (N := some 17) (v := ?_) (a' := ?_) #[true, true, true, true, true, true, true, true, true, false, true, false, false, true, false, false, false, false] rfl rfl (any_of HT_.out (by kernel_rfl)) (fun _ _ _ h => h) (Or.inl ⟨by rfl, ?_⟩) ?_ ?_
                                rotate_left
                                · intro w'
                                  go_simp
                                  with_reducible rfl
                                rotate_left
                                · simp only [Act.put, List.setIfInBounds_toArray, List.set_cons_zero, List.set_cons_succ, i64_w, i32_w]
                                  rfl
                                refine pure_ (i := 9) (N := some 20) (v := ?_) (a' := ?_) #[true, true, true, true, true, true, true, true, true, true, true, false, false, true, false, false, false, false] rfl rfl (any_of HT_.out (by kernel_rfl)) (fun _ _ _ h => h) (Or.inl ⟨by rfl, ?_⟩) ?_ ?_
                                rotate_left
                                · intro w'
                                  go_simp
                                  with_reducible rfl
                                rotate_left
                                · simp only [Act.put, List.setIfInBounds_toArray, List.set_cons_zero, List.set_cons_succ, i64_w, i32_w]
                                  rfl
                                exact norm_ (by first | (simp only [putAll, Act.put, List.setIfInBounds_toArray, List.set_cons_zero, List.set_cons_succ]; done) | (simp only [putAll, Act.put, List.setIfInBounds_toArray, List.set_cons_zero, List.set_cons_succ]; rfl)) (hJ1_2_5_8 (v260) _ ⟨(by (with_reducible repeat (first | apply Kd.R_alloc | apply Kd.R_drewN | apply Kd.R_drew)); exact HO261.out), (by repeat (first | (with_reducible first | exact HB.out | apply below_alloc | apply pw_below_drewN | apply below_drew1) | exact HB.out))⟩)
                              · skip
                                refine goes_ Try.func29 (by kernel_rfl) rfl #[.string a3, .int .i64 1] (by rfl) rfl rfl (by (try simp only [List.map_toArray, List.map_cons, List.map_nil]); first | done | rfl | (simp only [List.length_drop, List.length_take]; rfl)) ?_
                                with_reducible refine (halberdlaw17_vec.calls a3 1 t267 _ A12.out).mono ?_
                                rintro e w23 ⟨rfl, hb⟩
                                refine ⟨_, rfl, ?_⟩
                                have n0_ := Aside0.mk (Kd.R_below (by (with_reducible repeat (first | apply Kd.R_alloc | apply Kd.R_drewN | apply Kd.R_drew)); exact HO261.out) hb)
                                have n1_ := Aside0.mk (below_step (by repeat (first | (with_reducible first | exact HB.out | apply below_alloc | apply pw_below_drewN | apply below_drew1) | exact HB.out)) hb)
                                clear HO261
                                clear HB
                                have HO261 := n0_
                                have HB := n1_
                                clear n0_ n1_
                                (try clear hb)
                                (try clear hb2)
                                (try clear hk)
                                (try clear hi)
                                refine hK.out _ _ trivial (fun hHeld => ?_)
                                clear hK K
                                refine norm_ (a' := ?_) ?_ ?_
                                rotate_left
                                · show Act.put _ (some 22) _ = _
                                  simp only [Act.put, List.setIfInBounds_toArray, List.set_cons_zero, List.set_cons_succ, i64_w, i32_w]
                                  rfl
                                exact norm_ (by first | (simp only [putAll, Act.put, List.setIfInBounds_toArray, List.set_cons_zero, List.set_cons_succ]; done) | (simp only [putAll, Act.put, List.setIfInBounds_toArray, List.set_cons_zero, List.set_cons_succ]; rfl)) (hJ1_5_8_11 (v260) _ ⟨(by (with_reducible repeat (first | apply Kd.R_alloc | apply Kd.R_drewN | apply Kd.R_drew)); exact HO261.out), (by repeat (first | (with_reducible first | exact HB.out | apply below_alloc | apply pw_below_drewN | apply below_drew1) | exact HB.out))⟩)
                          · skip
                            rintro v260 w22 ⟨h0_, h1_⟩
                            have n0_ : Aside0 (Kd.R (Kd.int .u8) 5 w22 w.heap.size (fun _ => True) v260 y259) := ⟨h0_⟩
                            have n1_ : Aside0 (Below w.heap.size w w22) := ⟨h1_⟩
                            clear HB
                            clear h0_ h1_
                            have HO261 := n0_
                            have HB := n1_
                            clear n0_ n1_
                            have hHeld := trivial
                            refine norm_ (a' := ?_) ?_ ?_
                            rotate_left
                            · simp only [putAll, Act.put, List.setIfInBounds_toArray, List.set_cons_zero, List.set_cons_succ]
                              rfl
                            refine one_ (i := 8) (N := some 19) #[true, true, true, true, true, true, true, true, true, false, true, false, false, true, false, false, false, false] rfl rfl (one_of HT_.out (by kernel_rfl)) (by decide) (fun K hK => ?_)
                            refine goes_ Try.func29 (by kernel_rfl) rfl #[.string a2, .int .i64 2] (by rfl) rfl rfl (by (try simp only [List.map_toArray, List.map_cons, List.map_nil]); first | done | rfl | (simp only [List.length_drop, List.length_take]; rfl)) ?_
                            with_reducible refine (halberdlaw17_vec.calls a2 2 t265 _ A10.out).mono ?_
                            rintro e w23 ⟨rfl, hb⟩
                            refine ⟨_, rfl, ?_⟩
                            have n0_ := Aside0.mk (Kd.R_below (by (with_reducible repeat (first | apply Kd.R_alloc | apply Kd.R_drewN | apply Kd.R_drew)); exact HO261.out) hb)
                            have n1_ := Aside0.mk (below_step (by repeat (first | (with_reducible first | exact HB.out | apply below_alloc | apply pw_below_drewN | apply below_drew1) | exact HB.out)) hb)
                            clear HO261
                            clear HB
                            have HO261 := n0_
                            have HB := n1_
                            clear n0_ n1_
                            (try clear hb)
                            (try clear hb2)
                            (try clear hk)
                            (try clear hi)
                            refine hK.out _ _ trivial (fun hHeld => ?_)
                            clear hK K
                            refine norm_ (a' := ?_) ?_ ?_
                            rotate_left
                            · show Act.put _ (some 19) _ = _
                              simp only [Act.put, List.setIfInBounds_toArray, List.set_cons_zero, List.set_cons_succ, i64_w, i32_w]
                              rfl
                            refine pure_ (i := 9) (N := some 20) (v := ?_) (a' := ?_) #[true, true, true, true, true, true, true, true, true, true, true, false, false, true, false, false, false, false] rfl rfl (any_of HT_.out (by kernel_rfl)) (fun _ _ _ h => h) (Or.inl ⟨by rfl, ?_⟩) ?_ ?_
                            rotate_left
                            · intro w'
                              go_simp
                              with_reducible rfl
                            rotate_left
                            · simp only [Act.put, List.setIfInBounds_toArray, List.set_cons_zero, List.set_cons_succ, i64_w, i32_w]
                              rfl
                            exact norm_ (by first | (simp only [putAll, Act.put, List.setIfInBounds_toArray, List.set_cons_zero, List.set_cons_succ]; done) | (simp only [putAll, Act.put, List.setIfInBounds_toArray, List.set_cons_zero, List.set_cons_succ]; rfl)) (hJ1_2_5_8 (v260) _ ⟨(by (with_reducible repeat (first | apply Kd.R_alloc | apply Kd.R_drewN | apply Kd.R_drew)); exact HO261.out), (by repeat (first | (with_reducible first | exact HB.out | apply below_alloc | apply pw_below_drewN | apply below_drew1) | exact HB.out))⟩)
                        · skip
                          rintro _ w22 h0_
                          have n0_ : Aside0 (Below w.heap.size w w22) := ⟨h0_⟩
                          clear HB
                          clear h0_
                          have HB := n0_
                          clear n0_
                          have hHeld := trivial
                          refine norm_ (a' := ?_) ?_ ?_
                          rotate_left
                          · simp only [putAll, Act.put, List.setIfInBounds_toArray, List.set_cons_zero, List.set_cons_succ]
                            rfl
                          refine one_ (i := 1) (N := some 12) #[true, true, false, false, true, true, false, true, true, false, true, true, false, true, true, false, false, false] rfl rfl (one_of HT_.out (by kernel_rfl)) (by decide) (fun K hK => ?_)
                          refine Kd.R_make_step (Kd.int .u8) _ 5 (by rfl) (N := 12) rfl 39 _ _ rfl 32 rfl rfl Try.underlying39 (.int .u8 0) 1 info5 rfl (by decide) (by omega) 0 (ok := fun _ => True) (okp := fun _ => True) rfl (fun _ hk => hk) trivial (by omega) (by omega) (Below.refl _ _) (Nat.le_refl _) ?_
                          intro v260 w23 ho24 hb hg_ hnew_
                          clear hg_ hnew_
                          (first | rw [← Ny259.out] at ho24 | (simp only [Int.reduceToNat] at ho24; rw [← Ny259.out] at ho24))
                          have n0_ := Aside0.mk (Kd.R_lower ho24 (below_size (by repeat (first | (with_reducible first | exact HB.out | apply below_alloc | apply pw_below_drewN | apply below_drew1) | exact HB.out))))
                          have n1_ := Aside0.mk (below_step (by repeat (first | (with_reducible first | exact HB.out | apply below_alloc | apply pw_below_drewN | apply below_drew1) | exact HB.out)) hb)
                          clear HB
                          have HO261 := n0_
                          have HB := n1_
                          clear n0_ n1_
                          clear hb ho24
                          refine hK.out _ _ trivial (fun hHeld => ?_)
                          clear hK K
                          refine norm_ (a' := ?_) ?_ ?_
                          rotate_left
                          · show Act.put _ (some 12) _ = _
                            simp only [Act.put, List.setIfInBounds_toArray, List.set_cons_zero, List.set_cons_succ, i64_w, i32_w]
                            rfl
                          exact norm_ (by first | (simp only [putAll, Act.put, List.setIfInBounds_toArray, List.set_cons_zero, List.set_cons_succ]; done) | (simp only [putAll, Act.put, List.setIfInBounds_toArray, List.set_cons_zero, List.set_cons_succ]; rfl)) (hJ1_5_8_11_14 (v260) _ ⟨(by (with_reducible repeat (first | apply Kd.R_alloc | apply Kd.R_drewN | apply Kd.R_drew)); exact HO261.out), (by repeat (first | (with_reducible first | exact HB.out | apply below_alloc | apply pw_below_drewN | apply below_drew1) | exact HB.out))⟩)
                      · skip
                        rintro v260 w23 ⟨h0_, h1_⟩
                        have n0_ : Aside0 (Kd.R (Kd.int .u8) 5 w23 w.heap.size (fun _ => True) v260 y259) := ⟨h0_⟩
                        have n1_ : Aside0 (Below w.heap.size w w23) := ⟨h1_⟩
                        clear HB
                        clear h0_ h1_
                        have HO261 := n0_
                        have HB := n1_
                        clear n0_ n1_
                        have hHeld := trivial
                        refine norm_ (a' := ?_) ?_ ?_
                        rotate_left
                        · simp only [putAll, Act.put, List.setIfInBounds_toArray, List.set_cons_zero, List.set_cons_succ]
                          rfl
                        refine two_ (i := 2) (j := 14) (Ni := some 13) (Nj := some 25) #[true, true, true, false, true, true, false, true, true, false, true, true, false, true, false, false, false, false] #[true, true, false, false, true, true, false, true, true, false, true, true, false, true, true, false, false, false] rfl rfl rfl rfl (two_of HT_.out (by kernel_rfl)) (by decide) (by decide) (fun K hK => ?_) (fun K hK => ?_)
                        · skip
                          have hcv24 := own_string (P := Try.prog) Try.underlying39 Try.underlying5 Try.underlying9 (Kd.own_of_R HO261.out)
                          refine value_ (w1 := ?_) (v := ?_) (by rfl) rfl ?_ ?_
                          rotate_left 2
                          · go_simp
                            constructor
                            · rfl
                            · rfl
                          clear hcv24
                          refine hK.out _ _ trivial (fun hHeld => ?_)
                          clear hK K
                          refine norm_ (a' := ?_) ?_ ?_
                          rotate_left
                          · show Act.put _ (some 13) _ = _
                            simp only [Act.put, List.setIfInBounds_toArray, List.set_cons_zero, List.set_cons_succ, i64_w, i32_w]
                            rfl
                          refine pure_ (i := 3) (N := some 14) (v := ?_) (a' := ?_) #[true, true, true, true, true, true, false, true, true, false, true, true, false, true, false, false, false, false] rfl rfl (any_of HT_.out (by kernel_rfl)) (fun _ _ _ h => h) (Or.inl ⟨by rfl, ?_⟩) ?_ ?_
                          rotate_left
                          · intro w'
                            go_simp
                            with_reducible rfl
                          rotate_left
                          · simp only [Act.put, List.setIfInBounds_toArray, List.set_cons_zero, List.set_cons_succ, i64_w, i32_w]
                            rfl
                          refine pure_ (i := 6) (N := some 17) (v := ?_) (a' := ?_) #[true, true, true, true, true, true, true, true, true, false, true, true, false, true, false, false, false, false] rfl rfl (any_of HT_.out (by kernel_rfl)) (fun _ _ _ h => h) (Or.inl ⟨by rfl, ?_⟩) ?_ ?_
                          rotate_left
                          · intro w'
                            go_simp
                            with_reducible rfl
                          rotate_left
                          · simp only [Act.put, List.setIfInBounds_toArray, List.set_cons_zero, List.set_cons_succ, i64_w, i32_w]
                            rfl
                          refine pure_ (i := 9) (N := some 20) (v := ?_) (a' := ?_) #[true, true, true, true, true, true, true, true, true, true, true, true, false, true, false, false, false, false] rfl rfl (any_of HT_.out (by kernel_rfl)) (fun _ _ _ h => h) (Or.inl ⟨by rfl, ?_⟩) ?_ ?_
                          rotate_left
                          · intro w'
                            go_simp
                            with_reducible rfl
                          rotate_left
                          · simp only [Act.put, List.setIfInBounds_toArray, List.set_cons_zero, List.set_cons_succ, i64_w, i32_w]
                            rfl
                          refine pure_ (i := 12) (N := some 23) (v := ?_) (a' := ?_) #[true, true, true, true, true, true, true, true, true, true, true, true, true, true, false, false, false, false] rfl rfl (any_of HT_.out (by kernel_rfl)) (fun _ _ _ h => h) (Or.inl ⟨by rfl, ?_⟩) ?_ ?_
                          rotate_left
                          · intro w'
                            go_simp
                            with_reducible rfl
                          rotate_left
                          · simp only [Act.put, List.setIfInBounds_toArray, List.set_cons_zero, List.set_cons_succ, i64_w, i32_w]
                            rfl
                          exact norm_ (by first | (simp only [putAll, Act.put, List.setIfInBounds_toArray, List.set_cons_zero, List.set_cons_succ]; done) | (simp only [putAll, Act.put, List.setIfInBounds_toArray, List.set_cons_zero, List.set_cons_succ]; rfl)) (hJ1_2_5_8_11 (v260) _ ⟨(by (with_reducible repeat (first | apply Kd.R_alloc | apply Kd.R_drewN | apply Kd.R_drew)); exact HO261.out), (by repeat (first | (with_reducible first | exact HB.out | apply below_alloc | apply pw_below_drewN | apply below_drew1) | exact HB.out))⟩)
                        · skip
                          refine goes_ Try.func29 (by kernel_rfl) rfl #[.string a4, .int .i64 2] (by rfl) rfl rfl (by (try simp only [List.map_toArray, List.map_cons, List.map_nil]); first | done | rfl | (simp only [List.length_drop, List.length_take]; rfl)) ?_
                          with_reducible refine (halberdlaw17_vec.calls a4 2 t269 _ A14.out).mono ?_
                          rintro e w24 ⟨rfl, hb⟩
                          refine ⟨_, rfl, ?_⟩
                          have n0_ := Aside0.mk (Kd.R_below (by (with_reducible repeat (first | apply Kd.R_alloc | apply Kd.R_drewN | apply Kd.R_drew)); exact HO261.out) hb)
                          have n1_ := Aside0.mk (below_step (by repeat (first | (with_reducible first | exact HB.out | apply below_alloc | apply pw_below_drewN | apply below_drew1) | exact HB.out)) hb)
                          clear HO261
                          clear HB
                          have HO261 := n0_
                          have HB := n1_
                          clear n0_ n1_
                          (try clear hb)
                          (try clear hb2)
                          (try clear hk)
                          (try clear hi)
                          refine hK.out _ _ trivial (fun hHeld => ?_)
                          clear hK K
                          refine norm_ (a' := ?_) ?_ ?_
                          rotate_left
                          · show Act.put _ (some 25) _ = _
                            simp only [Act.put, List.setIfInBounds_toArray, List.set_cons_zero, List.set_cons_succ, i64_w, i32_w]
                            rfl
                          exact norm_ (by first | (simp only [putAll, Act.put, List.setIfInBounds_toArray, List.set_cons_zero, List.set_cons_succ]; done) | (simp only [putAll, Act.put, List.setIfInBounds_toArray, List.set_cons_zero, List.set_cons_succ]; rfl)) (hJ1_5_8_11_14 (v260) _ ⟨(by (with_reducible repeat (first | apply Kd.R_alloc | apply Kd.R_drewN | apply Kd.R_drew)); exact HO261.out), (by repeat (first | (with_reducible first | exact HB.out | apply below_alloc | apply pw_below_drewN | apply below_drew1) | exact HB.out))⟩)
                    · skip
                      rintro v260 w23 ⟨h0_, h1_⟩
                      have n0_ : Aside0 (Kd.R (Kd.int .u8) 5 w23 w.heap.size (fun _ => True) v260 y259) := ⟨h0_⟩
                      have n1_ : Aside0 (Below w.heap.size w w23) := ⟨h1_⟩
                      clear HB
                      clear h0_ h1_
                      have HO261 := n0_
                      have HB := n1_
                      clear n0_ n1_
                      have hHeld := trivial
                      refine norm_ (a' := ?_) ?_ ?_
                      rotate_left
                      · simp only [putAll, Act.put, List.setIfInBounds_toArray, List.set_cons_zero, List.set_cons_succ]
                        rfl
                      refine one_ (i := 11) (N := some 22) #[true, true, true, true, true, true, true, true, true, true, true, true, false, true, false, false, false, false] rfl rfl (one_of HT_.out (by kernel_rfl)) (by decide) (fun K hK => ?_)
                      refine goes_ Try.func29 (by kernel_rfl) rfl #[.string a3, .int .i64 1] (by rfl) rfl rfl (by (try simp only [List.map_toArray, List.map_cons, List.map_nil]); first | done | rfl | (simp only [List.length_drop, List.length_take]; rfl)) ?_
                      with_reducible refine (halberdlaw17_vec.calls a3 1 t267 _ A12.out).mono ?_
                      rintro e w24 ⟨rfl, hb⟩
                      refine ⟨_, rfl, ?_⟩
                      have n0_ := Aside0.mk (Kd.R_below (by (with_reducible repeat (first | apply Kd.R_alloc | apply Kd.R_drewN | apply Kd.R_drew)); exact HO261.out) hb)
                      have n1_ := Aside0.mk (below_step (by repeat (first | (with_reducible first | exact HB.out | apply below_alloc | apply pw_below_drewN | apply below_drew1) | exact HB.out)) hb)
                      clear HO261
                      clear HB
                      have HO261 := n0_
                      have HB := n1_
                      clear n0_ n1_
                      (try clear hb)
                      (try clear hb2)
                      (try clear hk)
                      (try clear hi)
                      refine hK.out _ _ trivial (fun hHeld => ?_)
                      clear hK K
                      refine norm_ (a' := ?_) ?_ ?_
                      rotate_left
                      · show Act.put _ (some 22) _ = _
                        simp only [Act.put, List.setIfInBounds_toArray, List.set_cons_zero, List.set_cons_succ, i64_w, i32_w]
                        rfl
                      refine pure_ (i := 12) (N := some 23) (v := ?_) (a' := ?_) #[true, true, true, true, true, true, true, true, true, true, true, true, true, true, false, false, false, false] rfl rfl (any_of HT_.out (by kernel_rfl)) (fun _ _ _ h => h) (Or.inl ⟨by rfl, ?_⟩) ?_ ?_
                      rotate_left
                      · intro w'
                        go_simp
                        with_reducible rfl
                      rotate_left
                      · simp only [Act.put, List.setIfInBounds_toArray, List.set_cons_zero, List.set_cons_succ, i64_w, i32_w]
                        rfl
                      exact norm_ (by first | (simp only [putAll, Act.put, List.setIfInBounds_toArray, List.set_cons_zero, List.set_cons_succ]; done) | (simp only [putAll, Act.put, List.setIfInBounds_toArray, List.set_cons_zero, List.set_cons_succ]; rfl)) (hJ1_2_5_8_11 (v260) _ ⟨(by (with_reducible repeat (first | apply Kd.R_alloc | apply Kd.R_drewN | apply Kd.R_drew)); exact HO261.out), (by repeat (first | (with_reducible first | exact HB.out | apply below_alloc | apply pw_below_drewN | apply below_drew1) | exact HB.out))⟩)
                  · skip
                    rintro v260 w24 ⟨h0_, h1_⟩
                    have n0_ : Aside0 (Kd.R (Kd.int .u8) 5 w24 w.heap.size (fun _ => True) v260 y259) := ⟨h0_⟩
                    have n1_ : Aside0 (Below w.heap.size w w24) := ⟨h1_⟩
                    clear HB
                    clear h0_ h1_
                    have HO261 := n0_
                    have HB := n1_
                    clear n0_ n1_
                    have hHeld := trivial
                    refine norm_ (a' := ?_) ?_ ?_
                    rotate_left
                    · simp only [putAll, Act.put, List.setIfInBounds_toArray, List.set_cons_zero, List.set_cons_succ]
                      rfl
                    refine one_ (i := 2) (N := some 13) #[true, true, true, false, true, true, false, true, true, false, true, true, false, true, true, false, false, false] rfl rfl (one_of HT_.out (by kernel_rfl)) (by decide) (fun K hK => ?_)
                    have hcv25 := own_string (P := Try.prog) Try.underlying39 Try.underlying5 Try.underlying9 (Kd.own_of_R HO261.out)
                    refine value_ (w1 := ?_) (v := ?_) (by rfl) rfl ?_ ?_
                    rotate_left 2
                    · go_simp
                      constructor
                      · rfl
                      · rfl
                    clear hcv25
                    refine hK.out _ _ trivial (fun hHeld => ?_)
                    clear hK K
                    refine norm_ (a' := ?_) ?_ ?_
                    rotate_left
                    · show Act.put _ (some 13) _ = _
                      simp only [Act.put, List.setIfInBounds_toArray, List.set_cons_zero, List.set_cons_succ, i64_w, i32_w]
                      rfl
                    refine pure_ (i := 3) (N := some 14) (v := ?_) (a' := ?_) #[true, true, true, true, true, true, false, true, true, false, true, true, false, true, true, false, false, false] rfl rfl (any_of HT_.out (by kernel_rfl)) (fun _ _ _ h => h) (Or.inl ⟨by rfl, ?_⟩) ?_ ?_
                    rotate_left
                    · intro w'
                      go_simp
                      with_reducible rfl
                    rotate_left
                    · simp only [Act.put, List.setIfInBounds_toArray, List.set_cons_zero, List.set_cons_succ, i64_w, i32_w]
                      rfl
                    refine pure_ (i := 6) (N := some 17) (v := ?_) (a' := ?_) #[true, true, true, true, true, true, true, true, true, false, true, true, false, true, true, false, false, false] rfl rfl (any_of HT_.out (by kernel_rfl)) (fun _ _ _ h => h) (Or.inl ⟨by rfl, ?_⟩) ?_ ?_
                    rotate_left
                    · intro w'
                      go_simp
                      with_reducible rfl
                    rotate_left
                    · simp only [Act.put, List.setIfInBounds_toArray, List.set_cons_zero, List.set_cons_succ, i64_w, i32_w]
                      rfl
                    refine pure_ (i := 9) (N := some 20) (v := ?_) (a' := ?_) #[true, true, true, true, true, true, true, true, true, true, true, true, false, true, true, false, false, false] rfl rfl (any_of HT_.out (by kernel_rfl)) (fun _ _ _ h => h) (Or.inl ⟨by rfl, ?_⟩) ?_ ?_
                    rotate_left
                    · intro w'
                      go_simp
                      with_reducible rfl
                    rotate_left
                    · simp only [Act.put, List.setIfInBounds_toArray, List.set_cons_zero, List.set_cons_succ, i64_w, i32_w]
                      rfl
                    refine pure_ (i := 12) (N := some 23) (v := ?_) (a' := ?_) #[true, true, true, true, true, true, true, true, true, true, true, true, true, true, true, false, false, false] rfl rfl (any_of HT_.out (by kernel_rfl)) (fun _ _ _ h => h) (Or.inl ⟨by rfl, ?_⟩) ?_ ?_
                    rotate_left
                    · intro w'
                      go_simp
                      with_reducible rfl
                    rotate_left
                    · simp only [Act.put, List.setIfInBounds_toArray, List.set_cons_zero, List.set_cons_succ, i64_w, i32_w]
                      rfl
                    exact norm_ (by first | (simp only [putAll, Act.put, List.setIfInBounds_toArray, List.set_cons_zero, List.set_cons_succ]; done) | (simp only [putAll, Act.put, List.setIfInBounds_toArray, List.set_cons_zero, List.set_cons_succ]; rfl)) (hJ1_2_5_8_11_14 (v260) _ ⟨(by (with_reducible repeat (first | apply Kd.R_alloc | apply Kd.R_drewN | apply Kd.R_drew)); exact HO261.out), (by repeat (first | (with_reducible first | exact HB.out | apply below_alloc | apply pw_below_drewN | apply below_drew1) | exact HB.out))⟩)
                · skip
                  rintro v260 w24 ⟨h0_, h1_⟩
                  have n0_ : Aside0 (Kd.R (Kd.int .u8) 5 w24 w.heap.size (fun _ => True) v260 y259) := ⟨h0_⟩
                  have n1_ : Aside0 (Below w.heap.size w w24) := ⟨h1_⟩
                  clear HB
                  clear h0_ h1_
                  have HO261 := n0_
                  have HB := n1_
                  clear n0_ n1_
                  have hHeld := trivial
                  refine norm_ (a' := ?_) ?_ ?_
                  rotate_left
                  · simp only [putAll, Act.put, List.setIfInBounds_toArray, List.set_cons_zero, List.set_cons_succ]
                    rfl
                  refine one_ (i := 14) (N := some 25) #[true, true, true, true, true, true, true, true, true, true, true, true, true, true, true, false, false, false] rfl rfl (one_of HT_.out (by kernel_rfl)) (by decide) (fun K hK => ?_)
                  refine goes_ Try.func29 (by kernel_rfl) rfl #[.string a4, .int .i64 2] (by rfl) rfl rfl (by (try simp only [List.map_toArray, List.map_cons, List.map_nil]); first | done | rfl | (simp only [List.length_drop, List.length_take]; rfl)) ?_
                  with_reducible refine (halberdlaw17_vec.calls a4 2 t269 _ A14.out).mono ?_
                  rintro e w25 ⟨rfl, hb⟩
                  refine ⟨_, rfl, ?_⟩
                  have n0_ := Aside0.mk (Kd.R_below (by (with_reducible repeat (first | apply Kd.R_alloc | apply Kd.R_drewN | apply Kd.R_drew)); exact HO261.out) hb)
                  have n1_ := Aside0.mk (below_step (by repeat (first | (with_reducible first | exact HB.out | apply below_alloc | apply pw_below_drewN | apply below_drew1) | exact HB.out)) hb)
                  clear HO261
                  clear HB
                  have HO261 := n0_
                  have HB := n1_
                  clear n0_ n1_
                  (try clear hb)
                  (try clear hb2)
                  (try clear hk)
                  (try clear hi)
                  refine hK.out _ _ trivial (fun hHeld => ?_)
                  clear hK K
                  refine norm_ (a' := ?_) ?_ ?_
                  rotate_left
                  · show Act.put _ (some 25) _ = _
                    simp only [Act.put, List.setIfInBounds_toArray, List.set_cons_zero, List.set_cons_succ, i64_w, i32_w]
                    rfl
                  exact norm_ (by first | (simp only [putAll, Act.put, List.setIfInBounds_toArray, List.set_cons_zero, List.set_cons_succ]; done) | (simp only [putAll, Act.put, List.setIfInBounds_toArray, List.set_cons_zero, List.set_cons_succ]; rfl)) (hJ1_2_5_8_11_14 (v260) _ ⟨(by (with_reducible repeat (first | apply Kd.R_alloc | apply Kd.R_drewN | apply Kd.R_drew)); exact HO261.out), (by repeat (first | (with_reducible first | exact HB.out | apply below_alloc | apply pw_below_drewN | apply below_drew1) | exact HB.out))⟩)
              rintro v260 w25 ⟨h0_, h1_⟩
              have n0_ : Aside0 (Kd.R (Kd.int .u8) 5 w25 w.heap.size (fun _ => True) v260 y259) := ⟨h0_⟩
              have n1_ : Aside0 (Below w.heap.size w w25) := ⟨h1_⟩
              clear HB
              clear h0_ h1_
              have HO261 := n0_
              have HB := n1_
              clear n0_ n1_
              have hHeld := trivial
              refine norm_ (a' := ?_) ?_ ?_
              rotate_left
              · simp only [putAll, Act.put, List.setIfInBounds_toArray, List.set_cons_zero, List.set_cons_succ]
                rfl
              refine pure_ (i := 15) (N := some 26) (v := ?_) (a' := ?_) #[true, true, true, true, true, true, true, true, true, true, true, true, true, true, true, true, false, false] rfl rfl (any_of HT_.out (by kernel_rfl)) (fun _ _ _ h => h) (Or.inl ⟨by rfl, ?_⟩) ?_ ?_
              rotate_left
              · intro w'
                go_simp
                with_reducible rfl
              rotate_left
              · simp only [Act.put, List.setIfInBounds_toArray, List.set_cons_zero, List.set_cons_succ, i64_w, i32_w]
                rfl
              refine one_ (i := 16) (N := some 27) #[true, true, true, true, true, true, true, true, true, true, true, true, true, true, true, true, true, false] rfl rfl (one_of HT_.out (by kernel_rfl)) (by decide) (fun K hK => ?_)
              refine goes_ Try.func28 (by kernel_rfl) rfl #[.int .i64 1, .string ys270] (by rfl) rfl rfl (by (try simp only [List.map_toArray, List.map_cons, List.map_nil]); first | done | rfl | (simp only [List.length_drop, List.length_take]; rfl)) ?_
              with_reducible refine (halberdlaw17_made.calls 1 ys270 t271 _ A16.out).mono ?_
              rintro e w26 ⟨rfl, hb⟩
              refine ⟨_, rfl, ?_⟩
              have n0_ := Aside0.mk (Kd.R_below (by (with_reducible repeat (first | apply Kd.R_alloc | apply Kd.R_drewN | apply Kd.R_drew)); exact HO261.out) hb)
              have n1_ := Aside0.mk (below_step (by repeat (first | (with_reducible first | exact HB.out | apply below_alloc | apply pw_below_drewN | apply below_drew1) | exact HB.out)) hb)
              clear HO261
              clear HB
              have HO261 := n0_
              have HB := n1_
              clear n0_ n1_
              (try clear hb)
              (try clear hb2)
              (try clear hk)
              (try clear hi)
              refine hK.out _ _ trivial (fun hHeld => ?_)
              clear hK K
              refine norm_ (a' := ?_) ?_ ?_
              rotate_left
              · show Act.put _ (some 27) _ = _
                simp only [Act.put, List.setIfInBounds_toArray, List.set_cons_zero, List.set_cons_succ, i64_w, i32_w]
                rfl
              refine pure_ (i := 17) (N := some 10) (v := ?_) (a' := ?_) #[true, true, true, true, true, true, true, true, true, true, true, true, true, true, true, true, true, true] rfl rfl (any_of HT_.out (by kernel_rfl)) (fun _ _ _ h => h) (Or.inl ⟨by rfl, ?_⟩) ?_ ?_
              rotate_left
              · intro w'
                go_simp
                with_reducible rfl
              rotate_left
              · simp only [Act.put, List.setIfInBounds_toArray, List.set_cons_zero, List.set_cons_succ, i64_w, i32_w]
                rfl
              refine done_ (done_of HT_.out (by kernel_rfl)) ?_
              try go_wp2
              go_ret
              exact ⟨by first | rfl | (simp [errW_none, errW_some] <;> rfl) | (simp [*, errW_none, errW_some] <;> rfl), by repeat (first | (with_reducible first | exact HB.out | apply below_alloc | apply pw_below_drewN | apply below_drew1) | exact HB.out)⟩
            · rw [if_neg c15] at H
              exact absurd H (by simp)
          · rw [if_neg c13] at H
            exact absurd H (by simp)
        · rw [if_neg c11] at H
          exact absurd H (by simp)
      · rw [if_neg c9] at H
        exact absurd H (by simp)
    · rw [if_neg c7] at H
      exact absurd H (by simp)
  · rw [if_neg c6] at H
    exact absurd H (by simp)
end Go.Proofs.Ytlkebjkpmiehcaa.X
end
section
namespace Go.Proofs.Ytlkebjkpmiehcaa.Ms
open Go.RowKit Go.Proofs.YtlkebjkpmiehcaaW.PrintWords Go.Proofs.YtlkebjkpmiehcaaW.PrintLast Go.Proofs.YtlkebjkpmiehcaaW.PrintMore Go.Proofs.Ytlkebjkpmiehcaa.X Go.Proofs.Ytlkebjkpmiehcaa.Iv
set_option linter.unusedVariables false
set_option linter.unusedSimpArgs false
theorem toNat_ofInt64 (x : Int) : (BitVec.ofInt 64 x).toNat = (x % 18446744073709551616).toNat := by
  rw [BitVec.toNat_ofInt]
  have : ((2 ^ 64 : Nat) : Int) = 18446744073709551616 := rfl
  rw [this]
theorem and_mask (x : Int) (i : Nat) (hi : i ≤ 62) : Go.bits .and .i64 x ((2 ^ i - 1 : Nat) : Int) = x % ((2 ^ i : Nat) : Int) := by
  have hp : 0 < 2 ^ i := Nat.two_pow_pos i
  have hq : 2 ^ i ≤ 4611686018427387904 := by
    have : (4611686018427387904 : Nat) = 2 ^ 62 := by decide
    rw [this]; exact Nat.pow_le_pow_right (by decide) hi
  have hd : ((2 ^ i : Nat) : Int) ∣ 18446744073709551616 := by
    have h1 : (2 ^ i : Nat) ∣ 2 ^ 64 := Nat.pow_dvd_pow 2 (by omega)
    have h2 : ((2 ^ 64 : Nat) : Int) = 18446744073709551616 := rfl
    rw [← h2]
    exact Int.natCast_dvd_natCast.mpr h1
  have e2 : (BitVec.ofInt 64 x &&& BitVec.ofInt 64 ((2 ^ i - 1 : Nat) : Int)).toNat = (x % 18446744073709551616).toNat % 2 ^ i := by
    have hm : 2 ^ i - 1 < 2 ^ 64 := by
      have : (2 : Nat) ^ 64 = 18446744073709551616 := by decide
      omega
    rw [BitVec.toNat_and, BitVec.ofInt_natCast, BitVec.toNat_ofNat, Nat.mod_eq_of_lt hm, toNat_ofInt64, Nat.and_two_pow_sub_one_eq_mod]
  have e0 : Go.bits .and .i64 x ((2 ^ i - 1 : Nat) : Int) = IntKind.i64.wrap (((BitVec.ofInt 64 x &&& BitVec.ofInt 64 ((2 ^ i - 1 : Nat) : Int)).toNat : Nat) : Int) := rfl
  rw [e0, e2]
  generalize 2 ^ i = m at *
  have hb := Int.emod_nonneg x (b := (m : Int)) (by omega)
  have hl := Int.emod_lt_of_pos x (b := (m : Int)) (by omega)
  have hn := Int.emod_nonneg x (b := 18446744073709551616) (by decide)
  have hz := Int.emod_emod_of_dvd x hd
  rw [Int.natCast_emod, Int.toNat_of_nonneg hn, hz, Go.Proofs.Ytlkebjkpmiehcaa.Pure.wraps_i64 _ hb (by omega)]
theorem and_7 (x : Int) : Go.bits .and .i64 x 7 = x % 8 := and_mask x 3 (by decide)
theorem some_of {α : Type} {o : Option α} {d : α} (h : o.isSome = true) : o = some (o.getD d) := by
  cases o with
  | none => cases h
  | some x => rfl
theorem ob_cat {oi : Oper} {a : Act} {w : World} {x y : Operand} {s t : ByteArray} (ho : oi.op = .binOp .add 9 x y 9) (hx : a.eval x = .string s) (hy : a.eval y = .string t) (hz : s.size + t.size ≤ 9223372036854775807) : (execOp a.eval oi).run Try.prog w = .ok (.value (.string (s ++ t))) w := by
  have c1 := eq_true hz
  have c2 : (9223372036854775807 < s.size + t.size) = False := eq_false (Nat.not_lt.2 hz)
  unfold execOp
  simp only [ho, hx, hy]
  first | (go_simp; done) | (go_simp; rfl)
theorem ob_conv {oi : Oper} {a : Act} {w : World} {x : Operand} {v : Value} {s : ByteArray} (ho : oi.op = .convert 39 9 x) (hx : a.eval x = v) (hc : (convert 39 9 v).run Try.prog w = .ok (.string s) w) : (execOp a.eval oi).run Try.prog w = .ok (.value (.string s)) w := by
  unfold execOp
  simp only [ho, hx]
  rw [Sem.run_bind, hc]
  rfl
theorem ob_and {oi : Oper} {a : Act} {w : World} {x y : Operand} {m n : Int} (ho : oi.op = .binOp .and 3 x y 3) (hx : a.eval x = .int .i64 m) (hy : a.eval y = .int .i64 n) : (execOp a.eval oi).run Try.prog w = .ok (.value (.int .i64 (Go.bits .and .i64 m n))) w := by
  unfold execOp
  simp only [ho, hx, hy]
  first | (go_simp; done) | (go_simp; rfl)
theorem ob_addi {oi : Oper} {a : Act} {w : World} {x y : Operand} {m n : Int} (ho : oi.op = .binOp .add 3 x y 3) (hx : a.eval x = .int .i64 m) (hy : a.eval y = .int .i64 n) : (execOp a.eval oi).run Try.prog w = .ok (.value (.int .i64 (IntKind.i64.wrap (m + n)))) w := by
  unfold execOp
  simp only [ho, hx, hy]
  first | (go_simp; done) | (go_simp; rfl) | (simp only [i64_w]; go_simp; rfl)
theorem ob_cvt {oi : Oper} {a : Act} {w : World} {x : Operand} {n : Int} (ho : oi.op = .convert 3 5 x) (hx : a.eval x = .int .i64 n) : (execOp a.eval oi).run Try.prog w = .ok (.value (.int .u8 (IntKind.u8.wrap n))) w := by
  unfold execOp
  simp only [ho, hx]
  first | (go_simp; done) | (go_simp; rfl)
def h7_2 : ByteArray := (halberdlaw17_hello.f (⟨#[3, 3]⟩ : ByteArray) (⟨#[]⟩ : ByteArray) (⟨#[19, 1]⟩ : ByteArray) (⟨#[0]⟩ : ByteArray) (⟨#[0, 10, 0, 4, 0, 2, 0, 29]⟩ : ByteArray)).getD ⟨#[]⟩
theorem h7_2s : halberdlaw17_hello.f (⟨#[3, 3]⟩ : ByteArray) (⟨#[]⟩ : ByteArray) (⟨#[19, 1]⟩ : ByteArray) (⟨#[0]⟩ : ByteArray) (⟨#[0, 10, 0, 4, 0, 2, 0, 29]⟩ : ByteArray) = some h7_2 := some_of (by decide +kernel)
def h7_4 : ByteArray := (halberdlaw17_hello.f (⟨#[3, 4]⟩ : ByteArray) (⟨#[]⟩ : ByteArray) (⟨#[19, 1]⟩ : ByteArray) (⟨#[0]⟩ : ByteArray) (⟨#[0, 10, 0, 4, 0, 2, 0, 29]⟩ : ByteArray)).getD ⟨#[]⟩
theorem h7_4s : halberdlaw17_hello.f (⟨#[3, 4]⟩ : ByteArray) (⟨#[]⟩ : ByteArray) (⟨#[19, 1]⟩ : ByteArray) (⟨#[0]⟩ : ByteArray) (⟨#[0, 10, 0, 4, 0, 2, 0, 29]⟩ : ByteArray) = some h7_4 := some_of (by decide +kernel)
def h7_7 : ByteArray := strOfNums ([0, 0, 0, 0, 0, 0, 0, 0, 0, 0, 0, 0, 0, 0, 0, 0, 0, 0, 0, 0, 0, 0, 0, 0, 0, 0, 0, 0, 0, 0, 0, 0, 0] : List Int)
def h7_9 : ByteArray := (halberdlaw17_hello.f (⟨#[3, 3]⟩ : ByteArray) h7_7 (⟨#[19, 1]⟩ : ByteArray) (⟨#[0]⟩ : ByteArray) (⟨#[0, 10, 0, 4, 0, 2, 0, 29]⟩ : ByteArray)).getD ⟨#[]⟩
theorem h7_9s : halberdlaw17_hello.f (⟨#[3, 3]⟩ : ByteArray) h7_7 (⟨#[19, 1]⟩ : ByteArray) (⟨#[0]⟩ : ByteArray) (⟨#[0, 10, 0, 4, 0, 2, 0, 29]⟩ : ByteArray) = some h7_9 := some_of (by decide +kernel)
def h7_12 : ByteArray := (halberdlaw17_hello.f (⟨#[3, 3]⟩ : ByteArray) (⟨#[]⟩ : ByteArray) (⟨#[]⟩ : ByteArray) (⟨#[0]⟩ : ByteArray) (⟨#[0, 10, 0, 4, 0, 2, 0, 29]⟩ : ByteArray)).getD ⟨#[]⟩
theorem h7_12s : halberdlaw17_hello.f (⟨#[3, 3]⟩ : ByteArray) (⟨#[]⟩ : ByteArray) (⟨#[]⟩ : ByteArray) (⟨#[0]⟩ : ByteArray) (⟨#[0, 10, 0, 4, 0, 2, 0, 29]⟩ : ByteArray) = some h7_12 := some_of (by decide +kernel)
def h7_15 : ByteArray := (halberdlaw17_hello.f (⟨#[3, 3]⟩ : ByteArray) (⟨#[]⟩ : ByteArray) (⟨#[19]⟩ : ByteArray) (⟨#[0]⟩ : ByteArray) (⟨#[0, 10, 0, 4, 0, 2, 0, 29]⟩ : ByteArray)).getD ⟨#[]⟩
theorem h7_15s : halberdlaw17_hello.f (⟨#[3, 3]⟩ : ByteArray) (⟨#[]⟩ : ByteArray) (⟨#[19]⟩ : ByteArray) (⟨#[0]⟩ : ByteArray) (⟨#[0, 10, 0, 4, 0, 2, 0, 29]⟩ : ByteArray) = some h7_15 := some_of (by decide +kernel)
def h7_18 : ByteArray := (halberdlaw17_hello.f (⟨#[3, 3]⟩ : ByteArray) (⟨#[]⟩ : ByteArray) (⟨#[19, 1]⟩ : ByteArray) (⟨#[1]⟩ : ByteArray) (⟨#[0, 10, 0, 4, 0, 2, 0, 29]⟩ : ByteArray)).getD ⟨#[]⟩
theorem h7_18s : halberdlaw17_hello.f (⟨#[3, 3]⟩ : ByteArray) (⟨#[]⟩ : ByteArray) (⟨#[19, 1]⟩ : ByteArray) (⟨#[1]⟩ : ByteArray) (⟨#[0, 10, 0, 4, 0, 2, 0, 29]⟩ : ByteArray) = some h7_18 := some_of (by decide +kernel)
def h7_21 : ByteArray := (halberdlaw17_hello.f (⟨#[3, 3]⟩ : ByteArray) (⟨#[]⟩ : ByteArray) (⟨#[19, 1]⟩ : ByteArray) (⟨#[0, 0]⟩ : ByteArray) (⟨#[0, 10, 0, 4, 0, 2, 0, 29]⟩ : ByteArray)).getD ⟨#[]⟩
theorem h7_21s : halberdlaw17_hello.f (⟨#[3, 3]⟩ : ByteArray) (⟨#[]⟩ : ByteArray) (⟨#[19, 1]⟩ : ByteArray) (⟨#[0, 0]⟩ : ByteArray) (⟨#[0, 10, 0, 4, 0, 2, 0, 29]⟩ : ByteArray) = some h7_21 := some_of (by decide +kernel)
def h7_24 : ByteArray := (halberdlaw17_hello.f (⟨#[3, 3]⟩ : ByteArray) (⟨#[]⟩ : ByteArray) (⟨#[19, 1]⟩ : ByteArray) (⟨#[]⟩ : ByteArray) (⟨#[0, 10, 0, 4, 0, 2, 0, 29]⟩ : ByteArray)).getD ⟨#[]⟩
theorem h7_24s : halberdlaw17_hello.f (⟨#[3, 3]⟩ : ByteArray) (⟨#[]⟩ : ByteArray) (⟨#[19, 1]⟩ : ByteArray) (⟨#[]⟩ : ByteArray) (⟨#[0, 10, 0, 4, 0, 2, 0, 29]⟩ : ByteArray) = some h7_24 := some_of (by decide +kernel)
def h7_28 : ByteArray := (⟨#[0, 10, 0, 4, 0, 2, 0, 29]⟩ : ByteArray) ++ (⟨#[0, 10, 0, 4, 0, 2, 0, 29]⟩ : ByteArray)
theorem h7_28z : ((⟨#[0, 10, 0, 4, 0, 2, 0, 29]⟩ : ByteArray)).size + ((⟨#[0, 10, 0, 4, 0, 2, 0, 29]⟩ : ByteArray)).size ≤ 9223372036854775807 := by decide +kernel
def h7_29 : ByteArray := (halberdlaw17_hello.f (⟨#[3, 3]⟩ : ByteArray) (⟨#[]⟩ : ByteArray) (⟨#[19, 1]⟩ : ByteArray) (⟨#[0]⟩ : ByteArray) h7_28).getD ⟨#[]⟩
theorem h7_29s : halberdlaw17_hello.f (⟨#[3, 3]⟩ : ByteArray) (⟨#[]⟩ : ByteArray) (⟨#[19, 1]⟩ : ByteArray) (⟨#[0]⟩ : ByteArray) h7_28 = some h7_29 := some_of (by decide +kernel)
def h7_32 : ByteArray := (⟨#[0, 10, 0, 4, 0, 2, 0, 29]⟩ : ByteArray) ++ (⟨#[0]⟩ : ByteArray)
theorem h7_32z : ((⟨#[0, 10, 0, 4, 0, 2, 0, 29]⟩ : ByteArray)).size + ((⟨#[0]⟩ : ByteArray)).size ≤ 9223372036854775807 := by decide +kernel
def h7_33 : ByteArray := (halberdlaw17_hello.f (⟨#[3, 3]⟩ : ByteArray) (⟨#[]⟩ : ByteArray) (⟨#[19, 1]⟩ : ByteArray) (⟨#[0]⟩ : ByteArray) h7_32).getD ⟨#[]⟩
theorem h7_33s : halberdlaw17_hello.f (⟨#[3, 3]⟩ : ByteArray) (⟨#[]⟩ : ByteArray) (⟨#[19, 1]⟩ : ByteArray) (⟨#[0]⟩ : ByteArray) h7_32 = some h7_33 := some_of (by decide +kernel)
def h7_35 : ByteArray := (halberdlaw17_hello.f (⟨#[3, 3]⟩ : ByteArray) (⟨#[]⟩ : ByteArray) (⟨#[19, 1]⟩ : ByteArray) (⟨#[0]⟩ : ByteArray) (⟨#[0, 10, 0, 2, 0, 0]⟩ : ByteArray)).getD ⟨#[]⟩
theorem h7_35s : halberdlaw17_hello.f (⟨#[3, 3]⟩ : ByteArray) (⟨#[]⟩ : ByteArray) (⟨#[19, 1]⟩ : ByteArray) (⟨#[0]⟩ : ByteArray) (⟨#[0, 10, 0, 2, 0, 0]⟩ : ByteArray) = some h7_35 := some_of (by decide +kernel)
def h7_37 : ByteArray := (halberdlaw17_hello.f (⟨#[3, 3]⟩ : ByteArray) (⟨#[]⟩ : ByteArray) (⟨#[19, 1]⟩ : ByteArray) (⟨#[0]⟩ : ByteArray) (⟨#[0, 10, 0, 3, 0, 1, 0]⟩ : ByteArray)).getD ⟨#[]⟩
theorem h7_37s : halberdlaw17_hello.f (⟨#[3, 3]⟩ : ByteArray) (⟨#[]⟩ : ByteArray) (⟨#[19, 1]⟩ : ByteArray) (⟨#[0]⟩ : ByteArray) (⟨#[0, 10, 0, 3, 0, 1, 0]⟩ : ByteArray) = some h7_37 := some_of (by decide +kernel)
def h7_39 : ByteArray := (halberdlaw17_hello.f (⟨#[3, 3]⟩ : ByteArray) (⟨#[]⟩ : ByteArray) (⟨#[19, 1]⟩ : ByteArray) (⟨#[0]⟩ : ByteArray) (⟨#[0, 10, 0, 5, 0, 2, 0, 29, 0]⟩ : ByteArray)).getD ⟨#[]⟩
theorem h7_39s : halberdlaw17_hello.f (⟨#[3, 3]⟩ : ByteArray) (⟨#[]⟩ : ByteArray) (⟨#[19, 1]⟩ : ByteArray) (⟨#[0]⟩ : ByteArray) (⟨#[0, 10, 0, 5, 0, 2, 0, 29, 0]⟩ : ByteArray) = some h7_39 := some_of (by decide +kernel)
def h7_42 : ByteArray := (halberdlaw17_hello.f (⟨#[3, 3]⟩ : ByteArray) (⟨#[]⟩ : ByteArray) (⟨#[19, 1]⟩ : ByteArray) (⟨#[0]⟩ : ByteArray) ((⟨#[0, 41, 0, 44, 0, 7, 0, 1, 116, 0, 0, 0, 0, 0, 33, 32]⟩ : ByteArray) ++ strOfNums [0, 0, 0, 0, 0, 0, 0, 0, 0, 0, 0, 0, 0, 0, 0, 0, 0, 0, 0, 0, 0, 0, 0, 0, 0, 0, 0, 0, 0, 0, 0, 0])).getD ⟨#[]⟩
theorem h7_42s : halberdlaw17_hello.f (⟨#[3, 3]⟩ : ByteArray) (⟨#[]⟩ : ByteArray) (⟨#[19, 1]⟩ : ByteArray) (⟨#[0]⟩ : ByteArray) ((⟨#[0, 41, 0, 44, 0, 7, 0, 1, 116, 0, 0, 0, 0, 0, 33, 32]⟩ : ByteArray) ++ strOfNums [0, 0, 0, 0, 0, 0, 0, 0, 0, 0, 0, 0, 0, 0, 0, 0, 0, 0, 0, 0, 0, 0, 0, 0, 0, 0, 0, 0, 0, 0, 0, 0]) = some h7_42 := some_of (by decide +kernel)
def h7_46 : ByteArray := ((⟨#[0, 41, 0, 44, 0, 7, 0, 1, 116, 0, 0, 0, 0, 0, 33, 32]⟩ : ByteArray) ++ strOfNums [0, 0, 0, 0, 0, 0, 0, 0, 0, 0, 0, 0, 0, 0, 0, 0, 0, 0, 0, 0, 0, 0, 0, 0, 0, 0, 0, 0, 0, 0, 0, 0]) ++ (⟨#[0, 10, 0, 4, 0, 2, 0, 29]⟩ : ByteArray)
theorem h7_46z : (((⟨#[0, 41, 0, 44, 0, 7, 0, 1, 116, 0, 0, 0, 0, 0, 33, 32]⟩ : ByteArray) ++ strOfNums [0, 0, 0, 0, 0, 0, 0, 0, 0, 0, 0, 0, 0, 0, 0, 0, 0, 0, 0, 0, 0, 0, 0, 0, 0, 0, 0, 0, 0, 0, 0, 0])).size + ((⟨#[0, 10, 0, 4, 0, 2, 0, 29]⟩ : ByteArray)).size ≤ 9223372036854775807 := by decide +kernel
def h7_47 : ByteArray := (halberdlaw17_hello.f (⟨#[3, 3]⟩ : ByteArray) (⟨#[]⟩ : ByteArray) (⟨#[19, 1]⟩ : ByteArray) (⟨#[0]⟩ : ByteArray) h7_46).getD ⟨#[]⟩
theorem h7_47s : halberdlaw17_hello.f (⟨#[3, 3]⟩ : ByteArray) (⟨#[]⟩ : ByteArray) (⟨#[19, 1]⟩ : ByteArray) (⟨#[0]⟩ : ByteArray) h7_46 = some h7_47 := some_of (by decide +kernel)
def h7_51 : ByteArray := (⟨#[0, 10, 0, 4, 0, 2, 0, 29]⟩ : ByteArray) ++ ((⟨#[0, 41, 0, 44, 0, 7, 0, 1, 116, 0, 0, 0, 0, 0, 33, 32]⟩ : ByteArray) ++ strOfNums [0, 0, 0, 0, 0, 0, 0, 0, 0, 0, 0, 0, 0, 0, 0, 0, 0, 0, 0, 0, 0, 0, 0, 0, 0, 0, 0, 0, 0, 0, 0, 0])
theorem h7_51z : ((⟨#[0, 10, 0, 4, 0, 2, 0, 29]⟩ : ByteArray)).size + (((⟨#[0, 41, 0, 44, 0, 7, 0, 1, 116, 0, 0, 0, 0, 0, 33, 32]⟩ : ByteArray) ++ strOfNums [0, 0, 0, 0, 0, 0, 0, 0, 0, 0, 0, 0, 0, 0, 0, 0, 0, 0, 0, 0, 0, 0, 0, 0, 0, 0, 0, 0, 0, 0, 0, 0])).size ≤ 9223372036854775807 := by decide +kernel
def h7_52 : ByteArray := (halberdlaw17_hello.f (⟨#[3, 3]⟩ : ByteArray) (⟨#[]⟩ : ByteArray) (⟨#[19, 1]⟩ : ByteArray) (⟨#[0]⟩ : ByteArray) h7_51).getD ⟨#[]⟩
theorem h7_52s : halberdlaw17_hello.f (⟨#[3, 3]⟩ : ByteArray) (⟨#[]⟩ : ByteArray) (⟨#[19, 1]⟩ : ByteArray) (⟨#[0]⟩ : ByteArray) h7_51 = some h7_52 := some_of (by decide +kernel)
def h7_54 : ByteArray := (halberdlaw17_hello.f (⟨#[3, 3]⟩ : ByteArray) (⟨#[]⟩ : ByteArray) (⟨#[19, 1]⟩ : ByteArray) (⟨#[0]⟩ : ByteArray) (⟨#[0, 0, 0, 5, 0, 3, 0, 0, 0]⟩ : ByteArray)).getD ⟨#[]⟩
theorem h7_54s : halberdlaw17_hello.f (⟨#[3, 3]⟩ : ByteArray) (⟨#[]⟩ : ByteArray) (⟨#[19, 1]⟩ : ByteArray) (⟨#[0]⟩ : ByteArray) (⟨#[0, 0, 0, 5, 0, 3, 0, 0, 0]⟩ : ByteArray) = some h7_54 := some_of (by decide +kernel)
def h7_56 : ByteArray := (halberdlaw17_hello.f (⟨#[3, 3]⟩ : ByteArray) (⟨#[]⟩ : ByteArray) (⟨#[19, 1]⟩ : ByteArray) (⟨#[0]⟩ : ByteArray) (⟨#[0, 0, 0, 6, 0, 4, 1, 0, 1, 97]⟩ : ByteArray)).getD ⟨#[]⟩
theorem h7_56s : halberdlaw17_hello.f (⟨#[3, 3]⟩ : ByteArray) (⟨#[]⟩ : ByteArray) (⟨#[19, 1]⟩ : ByteArray) (⟨#[0]⟩ : ByteArray) (⟨#[0, 0, 0, 6, 0, 4, 1, 0, 1, 97]⟩ : ByteArray) = some h7_56 := some_of (by decide +kernel)
def h7_58 : ByteArray := (halberdlaw17_hello.f (⟨#[3, 3]⟩ : ByteArray) (⟨#[]⟩ : ByteArray) (⟨#[19, 1]⟩ : ByteArray) (⟨#[0]⟩ : ByteArray) (⟨#[0, 51, 0, 6, 0, 4, 0, 29, 0, 0]⟩ : ByteArray)).getD ⟨#[]⟩
theorem h7_58s : halberdlaw17_hello.f (⟨#[3, 3]⟩ : ByteArray) (⟨#[]⟩ : ByteArray) (⟨#[19, 1]⟩ : ByteArray) (⟨#[0]⟩ : ByteArray) (⟨#[0, 51, 0, 6, 0, 4, 0, 29, 0, 0]⟩ : ByteArray) = some h7_58 := some_of (by decide +kernel)
def h7_65 (y : Int) : ByteArray := strOfNums ([(200 + y), 0, 0, 1, 5] : List Int)
def h7_66 (y : Int) : ByteArray := (halberdlaw17_hello.f (⟨#[3, 3]⟩ : ByteArray) (⟨#[]⟩ : ByteArray) (⟨#[19, 1]⟩ : ByteArray) (⟨#[0]⟩ : ByteArray) (h7_65 y)).getD ⟨#[]⟩
theorem h7_66s (y : Int) (h0 : 0 ≤ y) (h1 : y < 8) : halberdlaw17_hello.f (⟨#[3, 3]⟩ : ByteArray) (⟨#[]⟩ : ByteArray) (⟨#[19, 1]⟩ : ByteArray) (⟨#[0]⟩ : ByteArray) (h7_65 y) = some (h7_66 y) := by
  have key : ∀ n : Nat, n < 8 → (halberdlaw17_hello.f (⟨#[3, 3]⟩ : ByteArray) (⟨#[]⟩ : ByteArray) (⟨#[19, 1]⟩ : ByteArray) (⟨#[0]⟩ : ByteArray) (h7_65 (n : Int))).isSome = true := by decide +kernel
  obtain ⟨n, rfl⟩ := Int.eq_ofNat_of_zero_le h0
  exact some_of (key n (by omega))
def h7_L (y : Int) : List ByteArray := [h7_2, h7_4, h7_9, h7_12, h7_15, h7_18, h7_21, h7_24, h7_29, h7_33, h7_35, h7_37, h7_39, h7_42, h7_47, h7_52, h7_54, h7_56, h7_58, (h7_66 y)]
def h7_P (x : Int) (y : Int) : List PK := [(PK.val (.string (⟨#[3, 3]⟩ : ByteArray))), (PK.val (.string (⟨#[0, 10, 0, 4, 0, 2, 0, 29]⟩ : ByteArray))), (PK.val (.string h7_2)), (PK.val (.string (⟨#[0, 10, 0, 4, 0, 2, 0, 29]⟩ : ByteArray))), (PK.val (.string h7_4)), (PK.val (.string (⟨#[3, 3]⟩ : ByteArray))), (PK.row ([0, 0, 0, 0, 0, 0, 0, 0, 0, 0, 0, 0, 0, 0, 0, 0, 0, 0, 0, 0, 0, 0, 0, 0, 0, 0, 0, 0, 0, 0, 0, 0, 0] : List Int)), (PK.val (.string h7_7)), (PK.val (.string (⟨#[0, 10, 0, 4, 0, 2, 0, 29]⟩ : ByteArray))), (PK.val (.string h7_9)), (PK.val (.string (⟨#[3, 3]⟩ : ByteArray))), (PK.val (.string (⟨#[0, 10, 0, 4, 0, 2, 0, 29]⟩ : ByteArray))), (PK.val (.string h7_12)), (PK.val (.string (⟨#[3, 3]⟩ : ByteArray))), (PK.val (.string (⟨#[0, 10, 0, 4, 0, 2, 0, 29]⟩ : ByteArray))), (PK.val (.string h7_15)), (PK.val (.string (⟨#[3, 3]⟩ : ByteArray))), (PK.val (.string (⟨#[0, 10, 0, 4, 0, 2, 0, 29]⟩ : ByteArray))), (PK.val (.string h7_18)), (PK.val (.string (⟨#[3, 3]⟩ : ByteArray))), (PK.val (.string (⟨#[0, 10, 0, 4, 0, 2, 0, 29]⟩ : ByteArray))), (PK.val (.string h7_21)), (PK.val (.string (⟨#[3, 3]⟩ : ByteArray))), (PK.val (.string (⟨#[0, 10, 0, 4, 0, 2, 0, 29]⟩ : ByteArray))), (PK.val (.string h7_24)), (PK.val (.string (⟨#[3, 3]⟩ : ByteArray))), (PK.val (.string (⟨#[0, 10, 0, 4, 0, 2, 0, 29]⟩ : ByteArray))), (PK.val (.string (⟨#[0, 10, 0, 4, 0, 2, 0, 29]⟩ : ByteArray))), (PK.val (.string h7_28)), (PK.val (.string h7_29)), (PK.val (.string (⟨#[3, 3]⟩ : ByteArray))), (PK.val (.string (⟨#[0, 10, 0, 4, 0, 2, 0, 29]⟩ : ByteArray))), (PK.val (.string h7_32)), (PK.val (.string h7_33)), (PK.val (.string (⟨#[3, 3]⟩ : ByteArray))), (PK.val (.string h7_35)), (PK.val (.string (⟨#[3, 3]⟩ : ByteArray))), (PK.val (.string h7_37)), (PK.val (.string (⟨#[3, 3]⟩ : ByteArray))), (PK.val (.string h7_39)), (PK.val (.string (⟨#[3, 3]⟩ : ByteArray))), (PK.val (.string ((⟨#[0, 41, 0, 44, 0, 7, 0, 1, 116, 0, 0, 0, 0, 0, 33, 32]⟩ : ByteArray) ++ strOfNums [0, 0, 0, 0, 0, 0, 0, 0, 0, 0, 0, 0, 0, 0, 0, 0, 0, 0, 0, 0, 0, 0, 0, 0, 0, 0, 0, 0, 0, 0, 0, 0]))), (PK.val (.string h7_42)), (PK.val (.string (⟨#[3, 3]⟩ : ByteArray))), (PK.val (.string ((⟨#[0, 41, 0, 44, 0, 7, 0, 1, 116, 0, 0, 0, 0, 0, 33, 32]⟩ : ByteArray) ++ strOfNums [0, 0, 0, 0, 0, 0, 0, 0, 0, 0, 0, 0, 0, 0, 0, 0, 0, 0, 0, 0, 0, 0, 0, 0, 0, 0, 0, 0, 0, 0, 0, 0]))), (PK.val (.string (⟨#[0, 10, 0, 4, 0, 2, 0, 29]⟩ : ByteArray))), (PK.val (.string h7_46)), (PK.val (.string h7_47)), (PK.val (.string (⟨#[3, 3]⟩ : ByteArray))), (PK.val (.string (⟨#[0, 10, 0, 4, 0, 2, 0, 29]⟩ : ByteArray))), (PK.val (.string ((⟨#[0, 41, 0, 44, 0, 7, 0, 1, 116, 0, 0, 0, 0, 0, 33, 32]⟩ : ByteArray) ++ strOfNums [0, 0, 0, 0, 0, 0, 0, 0, 0, 0, 0, 0, 0, 0, 0, 0, 0, 0, 0, 0, 0, 0, 0, 0, 0, 0, 0, 0, 0, 0, 0, 0]))), (PK.val (.string h7_51)), (PK.val (.string h7_52)), (PK.val (.string (⟨#[3, 3]⟩ : ByteArray))), (PK.val (.string h7_54)), (PK.val (.string (⟨#[3, 3]⟩ : ByteArray))), (PK.val (.string h7_56)), (PK.val (.string (⟨#[3, 3]⟩ : ByteArray))), (PK.val (.string h7_58)), (PK.val (.string (⟨#[3, 3]⟩ : ByteArray))), (PK.val (.int .i64 x)), (PK.val (.int .i64 y)), (PK.val (.int .i64 (200 + y))), (PK.val (.int .u8 (200 + y))), (PK.row ([(200 + y), 0, 0, 1, 5] : List Int)), (PK.val (.string (h7_65 y))), (PK.val (.string (h7_66 y))), (PK.texts (h7_L y)), (PK.texts (h7_L y))]
def h7_W : List Int := [0, 1702, 1700, 1700, 1700, 1702, 1702, 1702, 1702, 1700, 1700, 1700, 1700, 0, 1702, 0, 1700, 1700, 1700, 0]
theorem h7_ok0 : (getM h7_2).2 = 0 ∧ ByteArray.size h7_2 ≤ 65536 := by decide +kernel
theorem h7_ok1 : (getM h7_4).2 = 1702 ∧ ByteArray.size h7_4 ≤ 65536 := by decide +kernel
theorem h7_ok2 : (getM h7_9).2 = 1700 ∧ ByteArray.size h7_9 ≤ 65536 := by decide +kernel
theorem h7_ok3 : (getM h7_12).2 = 1700 ∧ ByteArray.size h7_12 ≤ 65536 := by decide +kernel
theorem h7_ok4 : (getM h7_15).2 = 1700 ∧ ByteArray.size h7_15 ≤ 65536 := by decide +kernel
theorem h7_ok5 : (getM h7_18).2 = 1702 ∧ ByteArray.size h7_18 ≤ 65536 := by decide +kernel
theorem h7_ok6 : (getM h7_21).2 = 1702 ∧ ByteArray.size h7_21 ≤ 65536 := by decide +kernel
theorem h7_ok7 : (getM h7_24).2 = 1702 ∧ ByteArray.size h7_24 ≤ 65536 := by decide +kernel
theorem h7_ok8 : (getM h7_29).2 = 1702 ∧ ByteArray.size h7_29 ≤ 65536 := by decide +kernel
theorem h7_ok9 : (getM h7_33).2 = 1700 ∧ ByteArray.size h7_33 ≤ 65536 := by decide +kernel
theorem h7_ok10 : (getM h7_35).2 = 1700 ∧ ByteArray.size h7_35 ≤ 65536 := by decide +kernel
theorem h7_ok11 : (getM h7_37).2 = 1700 ∧ ByteArray.size h7_37 ≤ 65536 := by decide +kernel
theorem h7_ok12 : (getM h7_39).2 = 1700 ∧ ByteArray.size h7_39 ≤ 65536 := by decide +kernel
theorem h7_ok13 : (getM h7_42).2 = 0 ∧ ByteArray.size h7_42 ≤ 65536 := by decide +kernel
theorem h7_ok14 : (getM h7_47).2 = 1702 ∧ ByteArray.size h7_47 ≤ 65536 := by decide +kernel
theorem h7_ok15 : (getM h7_52).2 = 0 ∧ ByteArray.size h7_52 ≤ 65536 := by decide +kernel
theorem h7_ok16 : (getM h7_54).2 = 1700 ∧ ByteArray.size h7_54 ≤ 65536 := by decide +kernel
theorem h7_ok17 : (getM h7_56).2 = 1700 ∧ ByteArray.size h7_56 ≤ 65536 := by decide +kernel
theorem h7_ok18 : (getM h7_58).2 = 1700 ∧ ByteArray.size h7_58 ≤ 65536 := by decide +kernel
theorem h7_ok19 (y : Int) (h0 : 0 ≤ y) (h1 : y < 8) : (getM (h7_66 y)).2 = 0 ∧ ByteArray.size (h7_66 y) ≤ 65536 := by
  have key : ∀ n : Nat, n < 8 → (getM (h7_66 (n : Int))).2 = 0 ∧ ByteArray.size (h7_66 (n : Int)) ≤ 65536 := by decide +kernel
  obtain ⟨n, rfl⟩ := Int.eq_ofNat_of_zero_le h0
  exact key n (by omega)
theorem h7_ok (y : Int) (hy0 : 0 ≤ y) (hy1 : y < 8) : ∀ k, k < 20 → (getM ((h7_L y).getD k ⟨#[]⟩)).2 = h7_W.getD k 0 ∧ ByteArray.size ((h7_L y).getD k ⟨#[]⟩) ≤ 65536 := (lt_succ (n := 19) (lt_succ (n := 18) (lt_succ (n := 17) (lt_succ (n := 16) (lt_succ (n := 15) (lt_succ (n := 14) (lt_succ (n := 13) (lt_succ (n := 12) (lt_succ (n := 11) (lt_succ (n := 10) (lt_succ (n := 9) (lt_succ (n := 8) (lt_succ (n := 7) (lt_succ (n := 6) (lt_succ (n := 5) (lt_succ (n := 4) (lt_succ (n := 3) (lt_succ (n := 2) (lt_succ (n := 1) (lt_succ (n := 0) lt_zero (by simp only [h7_L, h7_W, List.getD_cons_succ, List.getD_cons_zero]; exact h7_ok0)) (by simp only [h7_L, h7_W, List.getD_cons_succ, List.getD_cons_zero]; exact h7_ok1)) (by simp only [h7_L, h7_W, List.getD_cons_succ, List.getD_cons_zero]; exact h7_ok2)) (by simp only [h7_L, h7_W, List.getD_cons_succ, List.getD_cons_zero]; exact h7_ok3)) (by simp only [h7_L, h7_W, List.getD_cons_succ, List.getD_cons_zero]; exact h7_ok4)) (by simp only [h7_L, h7_W, List.getD_cons_succ, List.getD_cons_zero]; exact h7_ok5)) (by simp only [h7_L, h7_W, List.getD_cons_succ, List.getD_cons_zero]; exact h7_ok6)) (by simp only [h7_L, h7_W, List.getD_cons_succ, List.getD_cons_zero]; exact h7_ok7)) (by simp only [h7_L, h7_W, List.getD_cons_succ, List.getD_cons_zero]; exact h7_ok8)) (by simp only [h7_L, h7_W, List.getD_cons_succ, List.getD_cons_zero]; exact h7_ok9)) (by simp only [h7_L, h7_W, List.getD_cons_succ, List.getD_cons_zero]; exact h7_ok10)) (by simp only [h7_L, h7_W, List.getD_cons_succ, List.getD_cons_zero]; exact h7_ok11)) (by simp only [h7_L, h7_W, List.getD_cons_succ, List.getD_cons_zero]; exact h7_ok12)) (by simp only [h7_L, h7_W, List.getD_cons_succ, List.getD_cons_zero]; exact h7_ok13)) (by simp only [h7_L, h7_W, List.getD_cons_succ, List.getD_cons_zero]; exact h7_ok14)) (by simp only [h7_L, h7_W, List.getD_cons_succ, List.getD_cons_zero]; exact h7_ok15)) (by simp only [h7_L, h7_W, List.getD_cons_succ, List.getD_cons_zero]; exact h7_ok16)) (by simp only [h7_L, h7_W, List.getD_cons_succ, List.getD_cons_zero]; exact h7_ok17)) (by simp only [h7_L, h7_W, List.getD_cons_succ, List.getD_cons_zero]; exact h7_ok18)) (by simp only [h7_L, h7_W, List.getD_cons_succ, List.getD_cons_zero]; exact (h7_ok19 y hy0 hy1)))
set_option maxRecDepth 100000 in
set_option maxHeartbeats 8000000 in
theorem hellos_c (which x : Int) (w : World) : Calls Try.prog 7 #[.int .i64 which, .int .i64 x] w fun ex w' => ex = .returned (.bool true) ∧ Below w.heap.size w w' := by
  have HB := Aside0.mk (Below.refl w.heap.size w)
  obtain ⟨y, hy⟩ : ∃ y, Go.bits .and .i64 x 7 = y := ⟨_, rfl⟩
  have hyb := and_7 x
  rw [hy] at hyb
  have hy0 : 0 ≤ y := by omega
  have hy1 : y < 8 := by omega
  have Hy := Aside0.mk hy
  clear hy hyb
  obtain ⟨u, hu⟩ : ∃ u, IntKind.u64.wrap which = u := ⟨_, rfl⟩
  have hu0 : 0 ≤ u := by rw [← hu, Go.IntKind.wrap_u64]; exact Int.emod_nonneg _ (by decide)
  obtain ⟨k, hk⟩ : ∃ k, u % 20 = k := ⟨_, rfl⟩
  have hk0 : 0 ≤ k := by omega
  have hk1 : k < 20 := by omega
  have HU := Aside0.mk hu
  have HKK := Aside0.mk hk
  clear hu hk
  go_enter Try.func7, Try.ntmps7
  go_wp2_with (first
    | (go_at_call 22; (with_reducible refine (awake_c _).mono ?_); rintro e_ w_ ⟨rfl, b_⟩; have n0_ := Aside0.mk (below_step HB.out b_); clear HB; have HB := n0_; clear n0_ b_)
    | ((with_reducible refine gate_dst (N := 13) rfl ?_); refine Kd.R_make (Kd.int .u8) _ 5 rfl (N := 13) rfl 39 _ _ rfl 32 rfl rfl Try.underlying39 (.int .u8 0) 1 info5 rfl (by decide) (by omega) 0 (ok := fun _ => True) (okp := fun _ => True) rfl (fun _ hk => hk) trivial (by omega) (by decide) (Below.refl _ _) (Nat.le_refl _) ?_; intro v1 w1 ho hb hg_ hn_; clear hg_ hn_; have hcv := own_string (P := Try.prog) Try.underlying39 Try.underlying5 Try.underlying9 (Kd.own_of_R ho); have n0_ := Aside0.mk (below_step HB.out hb); clear HB; have HB := n0_; clear n0_ hb))
  clear ho hcv
  refine region_inv (pOf (h7_P x y)) (by kernel_rfl) (by kernel_rfl) (by kernel_rfl) (by kernel_rfl) (pOf_stable _) ?_ ?_
  · refine (lt_succ (n := 68) (lt_succ (n := 67) (lt_succ (n := 66) (lt_succ (n := 65) (lt_succ (n := 64) (lt_succ (n := 63) (lt_succ (n := 62) (lt_succ (n := 61) (lt_succ (n := 60) (lt_succ (n := 59) (lt_succ (n := 58) (lt_succ (n := 57) (lt_succ (n := 56) (lt_succ (n := 55) (lt_succ (n := 54) (lt_succ (n := 53) (lt_succ (n := 52) (lt_succ (n := 51) (lt_succ (n := 50) (lt_succ (n := 49) (lt_succ (n := 48) (lt_succ (n := 47) (lt_succ (n := 46) (lt_succ (n := 45) (lt_succ (n := 44) (lt_succ (n := 43) (lt_succ (n := 42) (lt_succ (n := 41) (lt_succ (n := 40) (lt_succ (n := 39) (lt_succ (n := 38) (lt_succ (n := 37) (lt_succ (n := 36) (lt_succ (n := 35) (lt_succ (n := 34) (lt_succ (n := 33) (lt_succ (n := 32) (lt_succ (n := 31) (lt_succ (n := 30) (lt_succ (n := 29) (lt_succ (n := 28) (lt_succ (n := 27) (lt_succ (n := 26) (lt_succ (n := 25) (lt_succ (n := 24) (lt_succ (n := 23) (lt_succ (n := 22) (lt_succ (n := 21) (lt_succ (n := 20) (lt_succ (n := 19) (lt_succ (n := 18) (lt_succ (n := 17) (lt_succ (n := 16) (lt_succ (n := 15) (lt_succ (n := 14) (lt_succ (n := 13) (lt_succ (n := 12) (lt_succ (n := 11) (lt_succ (n := 10) (lt_succ (n := 9) (lt_succ (n := 8) (lt_succ (n := 7) (lt_succ (n := 6) (lt_succ (n := 5) (lt_succ (n := 4) (lt_succ (n := 3) (lt_succ (n := 2) (lt_succ (n := 1) (lt_succ (n := 0) lt_zero ?o0) ?o1) ?o2) ?o3) ?o4) ?o5) ?o6) ?o7) ?o8) ?o9) ?o10) ?o11) ?o12) ?o13) ?o14) ?o15) ?o16) ?o17) ?o18) ?o19) ?o20) ?o21) ?o22) ?o23) ?o24) ?o25) ?o26) ?o27) ?o28) ?o29) ?o30) ?o31) ?o32) ?o33) ?o34) ?o35) ?o36) ?o37) ?o38) ?o39) ?o40) ?o41) ?o42) ?o43) ?o44) ?o45) ?o46) ?o47) ?o48) ?o49) ?o50) ?o51) ?o52) ?o53) ?o54) ?o55) ?o56) ?o57) ?o58) ?o59) ?o60) ?o61) ?o62) ?o63) ?o64) ?o65) ?o66) ?o67) ?o68)
    case o0 =>
      intro oi hoi a w vals hb hd hf K hK
      obtain rfl := Option.some.inj hoi
      have e5 : a.tmps[5]? = some (.string (⟨#[3, 3]⟩ : ByteArray)) := (hf 5 (free_of (by kernel_rfl))).trans rfl
      exact ob_move (.inl rfl) (ev e5) (hK _ _ rfl (Below.refl _ _))
    case o1 =>
      intro oi hoi a w vals hb hd hf K hK
      obtain rfl := Option.some.inj hoi
      have e6 : a.tmps[6]? = some (.string (⟨#[0, 10, 0, 4, 0, 2, 0, 29]⟩ : ByteArray)) := (hf 6 (free_of (by kernel_rfl))).trans rfl
      exact ob_move (.inl rfl) (ev e6) (hK _ _ rfl (Below.refl _ _))
    case o2 =>
      intro oi hoi a w vals hb hd hf K hK
      obtain rfl := Option.some.inj hoi
      have e16 : a.tmps[16]? = some (.string (⟨#[3, 3]⟩ : ByteArray)) := by
        obtain ⟨h1, h2⟩ := hd 0 (by kernel_rfl)
        have h3 : vals 0 = .string (⟨#[3, 3]⟩ : ByteArray) := h1
        rw [← h3]
        exact h2 16 rfl
      have e17 : a.tmps[17]? = some (.string (⟨#[0, 10, 0, 4, 0, 2, 0, 29]⟩ : ByteArray)) := by
        obtain ⟨h1, h2⟩ := hd 1 (by kernel_rfl)
        have h3 : vals 1 = .string (⟨#[0, 10, 0, 4, 0, 2, 0, 29]⟩ : ByteArray) := h1
        rw [← h3]
        exact h2 17 rfl
      refine ob_call (f := 26) Try.func26 (by kernel_rfl) rfl #[.string (⟨#[3, 3]⟩ : ByteArray), .string (⟨#[]⟩ : ByteArray), .string (⟨#[19, 1]⟩ : ByteArray), .string (⟨#[0]⟩ : ByteArray), .string (⟨#[0, 10, 0, 4, 0, 2, 0, 29]⟩ : ByteArray)] rfl (by simp only [List.map_toArray, List.map_cons, List.map_nil, ev e16, ev e17]; rfl) ?_
      refine (halberdlaw17_hello.calls _ _ _ _ _ _ _ h7_2s).mono ?_
      rintro e_ w_ ⟨rfl, b_⟩
      exact ⟨_, rfl, hK _ _ rfl b_⟩
    case o3 =>
      intro oi hoi a w vals hb hd hf K hK
      obtain rfl := Option.some.inj hoi
      have e6 : a.tmps[6]? = some (.string (⟨#[0, 10, 0, 4, 0, 2, 0, 29]⟩ : ByteArray)) := (hf 6 (free_of (by kernel_rfl))).trans rfl
      exact ob_move (.inl rfl) (ev e6) (hK _ _ rfl (Below.refl _ _))
    case o4 =>
      intro oi hoi a w vals hb hd hf K hK
      obtain rfl := Option.some.inj hoi
      have e19 : a.tmps[19]? = some (.string (⟨#[0, 10, 0, 4, 0, 2, 0, 29]⟩ : ByteArray)) := by
        obtain ⟨h1, h2⟩ := hd 3 (by kernel_rfl)
        have h3 : vals 3 = .string (⟨#[0, 10, 0, 4, 0, 2, 0, 29]⟩ : ByteArray) := h1
        rw [← h3]
        exact h2 19 rfl
      refine ob_call (f := 26) Try.func26 (by kernel_rfl) rfl #[.string (⟨#[3, 4]⟩ : ByteArray), .string (⟨#[]⟩ : ByteArray), .string (⟨#[19, 1]⟩ : ByteArray), .string (⟨#[0]⟩ : ByteArray), .string (⟨#[0, 10, 0, 4, 0, 2, 0, 29]⟩ : ByteArray)] rfl (by simp only [List.map_toArray, List.map_cons, List.map_nil, ev e19]; rfl) ?_
      refine (halberdlaw17_hello.calls _ _ _ _ _ _ _ h7_4s).mono ?_
      rintro e_ w_ ⟨rfl, b_⟩
      exact ⟨_, rfl, hK _ _ rfl b_⟩
    case o5 =>
      intro oi hoi a w vals hb hd hf K hK
      obtain rfl := Option.some.inj hoi
      have e5 : a.tmps[5]? = some (.string (⟨#[3, 3]⟩ : ByteArray)) := (hf 5 (free_of (by kernel_rfl))).trans rfl
      exact ob_move (.inl rfl) (ev e5) (hK _ _ rfl (Below.refl _ _))
    case o6 =>
      intro oi hoi a w vals hb hd hf K hK
      obtain rfl := Option.some.inj hoi
      refine ob_step (ops := #[]) rfl (Kd.R_make_step (Kd.int .u8) (w0 := w) w.heap.size 5 (by rfl) (N := 22) rfl 39 _ _ rfl 33 rfl rfl Try.underlying39 (.int .u8 0) 1 info5 rfl (by decide) (by omega) 0 (ok := fun _ => True) (okp := fun _ => True) rfl (fun _ hk => hk) trivial (by omega) (by decide) (Below.refl _ _) (Nat.le_refl _) ?_)
      intro v1 w1 ho hb_ hg_ hn_
      exact hK _ _ (Kd.R_lower ho (Nat.zero_le _)) hb_
    case o7 =>
      intro oi hoi a w vals hb hd hf K hK
      obtain rfl := Option.some.inj hoi
      obtain ⟨r22, q22⟩ := hd 6 (by kernel_rfl)
      have e22 := q22 22 rfl
      replace r22 : (PK.row ([0, 0, 0, 0, 0, 0, 0, 0, 0, 0, 0, 0, 0, 0, 0, 0, 0, 0, 0, 0, 0, 0, 0, 0, 0, 0, 0, 0, 0, 0, 0, 0, 0] : List Int)).holds (vals 6) w := r22
      have hc := own_string (P := Try.prog) Try.underlying39 Try.underlying5 Try.underlying9 (Kd.own_of_R (show Kd.R (Kd.int .u8) 5 w 0 (fun _ => True) _ ([0, 0, 0, 0, 0, 0, 0, 0, 0, 0, 0, 0, 0, 0, 0, 0, 0, 0, 0, 0, 0, 0, 0, 0, 0, 0, 0, 0, 0, 0, 0, 0, 0] : List Int) from r22))
      refine ob_run (v := .string h7_7) (w' := w) ?_ (hK _ _ rfl (Below.refl _ _))
      exact ob_conv rfl (ev e22) hc
    case o8 =>
      intro oi hoi a w vals hb hd hf K hK
      obtain rfl := Option.some.inj hoi
      have e6 : a.tmps[6]? = some (.string (⟨#[0, 10, 0, 4, 0, 2, 0, 29]⟩ : ByteArray)) := (hf 6 (free_of (by kernel_rfl))).trans rfl
      exact ob_move (.inl rfl) (ev e6) (hK _ _ rfl (Below.refl _ _))
    case o9 =>
      intro oi hoi a w vals hb hd hf K hK
      obtain rfl := Option.some.inj hoi
      have e21 : a.tmps[21]? = some (.string (⟨#[3, 3]⟩ : ByteArray)) := by
        obtain ⟨h1, h2⟩ := hd 5 (by kernel_rfl)
        have h3 : vals 5 = .string (⟨#[3, 3]⟩ : ByteArray) := h1
        rw [← h3]
        exact h2 21 rfl
      have e23 : a.tmps[23]? = some (.string h7_7) := by
        obtain ⟨h1, h2⟩ := hd 7 (by kernel_rfl)
        have h3 : vals 7 = .string h7_7 := h1
        rw [← h3]
        exact h2 23 rfl
      have e24 : a.tmps[24]? = some (.string (⟨#[0, 10, 0, 4, 0, 2, 0, 29]⟩ : ByteArray)) := by
        obtain ⟨h1, h2⟩ := hd 8 (by kernel_rfl)
        have h3 : vals 8 = .string (⟨#[0, 10, 0, 4, 0, 2, 0, 29]⟩ : ByteArray) := h1
        rw [← h3]
        exact h2 24 rfl
      refine ob_call (f := 26) Try.func26 (by kernel_rfl) rfl #[.string (⟨#[3, 3]⟩ : ByteArray), .string h7_7, .string (⟨#[19, 1]⟩ : ByteArray), .string (⟨#[0]⟩ : ByteArray), .string (⟨#[0, 10, 0, 4, 0, 2, 0, 29]⟩ : ByteArray)] rfl (by simp only [List.map_toArray, List.map_cons, List.map_nil, ev e21, ev e23, ev e24]; rfl) ?_
      refine (halberdlaw17_hello.calls _ _ _ _ _ _ _ h7_9s).mono ?_
      rintro e_ w_ ⟨rfl, b_⟩
      exact ⟨_, rfl, hK _ _ rfl b_⟩
    case o10 =>
      intro oi hoi a w vals hb hd hf K hK
      obtain rfl := Option.some.inj hoi
      have e5 : a.tmps[5]? = some (.string (⟨#[3, 3]⟩ : ByteArray)) := (hf 5 (free_of (by kernel_rfl))).trans rfl
      exact ob_move (.inl rfl) (ev e5) (hK _ _ rfl (Below.refl _ _))
    case o11 =>
      intro oi hoi a w vals hb hd hf K hK
      obtain rfl := Option.some.inj hoi
      have e6 : a.tmps[6]? = some (.string (⟨#[0, 10, 0, 4, 0, 2, 0, 29]⟩ : ByteArray)) := (hf 6 (free_of (by kernel_rfl))).trans rfl
      exact ob_move (.inl rfl) (ev e6) (hK _ _ rfl (Below.refl _ _))
    case o12 =>
      intro oi hoi a w vals hb hd hf K hK
      obtain rfl := Option.some.inj hoi
      have e26 : a.tmps[26]? = some (.string (⟨#[3, 3]⟩ : ByteArray)) := by
        obtain ⟨h1, h2⟩ := hd 10 (by kernel_rfl)
        have h3 : vals 10 = .string (⟨#[3, 3]⟩ : ByteArray) := h1
        rw [← h3]
        exact h2 26 rfl
      have e27 : a.tmps[27]? = some (.string (⟨#[0, 10, 0, 4, 0, 2, 0, 29]⟩ : ByteArray)) := by
        obtain ⟨h1, h2⟩ := hd 11 (by kernel_rfl)
        have h3 : vals 11 = .string (⟨#[0, 10, 0, 4, 0, 2, 0, 29]⟩ : ByteArray) := h1
        rw [← h3]
        exact h2 27 rfl
      refine ob_call (f := 26) Try.func26 (by kernel_rfl) rfl #[.string (⟨#[3, 3]⟩ : ByteArray), .string (⟨#[]⟩ : ByteArray), .string (⟨#[]⟩ : ByteArray), .string (⟨#[0]⟩ : ByteArray), .string (⟨#[0, 10, 0, 4, 0, 2, 0, 29]⟩ : ByteArray)] rfl (by simp only [List.map_toArray, List.map_cons, List.map_nil, ev e26, ev e27]; rfl) ?_
      refine (halberdlaw17_hello.calls _ _ _ _ _ _ _ h7_12s).mono ?_
      rintro e_ w_ ⟨rfl, b_⟩
      exact ⟨_, rfl, hK _ _ rfl b_⟩
    case o13 =>
      intro oi hoi a w vals hb hd hf K hK
      obtain rfl := Option.some.inj hoi
      have e5 : a.tmps[5]? = some (.string (⟨#[3, 3]⟩ : ByteArray)) := (hf 5 (free_of (by kernel_rfl))).trans rfl
      exact ob_move (.inl rfl) (ev e5) (hK _ _ rfl (Below.refl _ _))
    case o14 =>
      intro oi hoi a w vals hb hd hf K hK
      obtain rfl := Option.some.inj hoi
      have e6 : a.tmps[6]? = some (.string (⟨#[0, 10, 0, 4, 0, 2, 0, 29]⟩ : ByteArray)) := (hf 6 (free_of (by kernel_rfl))).trans rfl
      exact ob_move (.inl rfl) (ev e6) (hK _ _ rfl (Below.refl _ _))
    case o15 =>
      intro oi hoi a w vals hb hd hf K hK
      obtain rfl := Option.some.inj hoi
      have e29 : a.tmps[29]? = some (.string (⟨#[3, 3]⟩ : ByteArray)) := by
        obtain ⟨h1, h2⟩ := hd 13 (by kernel_rfl)
        have h3 : vals 13 = .string (⟨#[3, 3]⟩ : ByteArray) := h1
        rw [← h3]
        exact h2 29 rfl
      have e30 : a.tmps[30]? = some (.string (⟨#[0, 10, 0, 4, 0, 2, 0, 29]⟩ : ByteArray)) := by
        obtain ⟨h1, h2⟩ := hd 14 (by kernel_rfl)
        have h3 : vals 14 = .string (⟨#[0, 10, 0, 4, 0, 2, 0, 29]⟩ : ByteArray) := h1
        rw [← h3]
        exact h2 30 rfl
      refine ob_call (f := 26) Try.func26 (by kernel_rfl) rfl #[.string (⟨#[3, 3]⟩ : ByteArray), .string (⟨#[]⟩ : ByteArray), .string (⟨#[19]⟩ : ByteArray), .string (⟨#[0]⟩ : ByteArray), .string (⟨#[0, 10, 0, 4, 0, 2, 0, 29]⟩ : ByteArray)] rfl (by simp only [List.map_toArray, List.map_cons, List.map_nil, ev e29, ev e30]; rfl) ?_
      refine (halberdlaw17_hello.calls _ _ _ _ _ _ _ h7_15s).mono ?_
      rintro e_ w_ ⟨rfl, b_⟩
      exact ⟨_, rfl, hK _ _ rfl b_⟩
    case o16 =>
      intro oi hoi a w vals hb hd hf K hK
      obtain rfl := Option.some.inj hoi
      have e5 : a.tmps[5]? = some (.string (⟨#[3, 3]⟩ : ByteArray)) := (hf 5 (free_of (by kernel_rfl))).trans rfl
      exact ob_move (.inl rfl) (ev e5) (hK _ _ rfl (Below.refl _ _))
    case o17 =>
      intro oi hoi a w vals hb hd hf K hK
      obtain rfl := Option.some.inj hoi
      have e6 : a.tmps[6]? = some (.string (⟨#[0, 10, 0, 4, 0, 2, 0, 29]⟩ : ByteArray)) := (hf 6 (free_of (by kernel_rfl))).trans rfl
      exact ob_move (.inl rfl) (ev e6) (hK _ _ rfl (Below.refl _ _))
    case o18 =>
      intro oi hoi a w vals hb hd hf K hK
      obtain rfl := Option.some.inj hoi
      have e32 : a.tmps[32]? = some (.string (⟨#[3, 3]⟩ : ByteArray)) := by
        obtain ⟨h1, h2⟩ := hd 16 (by kernel_rfl)
        have h3 : vals 16 = .string (⟨#[3, 3]⟩ : ByteArray) := h1
        rw [← h3]
        exact h2 32 rfl
      have e33 : a.tmps[33]? = some (.string (⟨#[0, 10, 0, 4, 0, 2, 0, 29]⟩ : ByteArray)) := by
        obtain ⟨h1, h2⟩ := hd 17 (by kernel_rfl)
        have h3 : vals 17 = .string (⟨#[0, 10, 0, 4, 0, 2, 0, 29]⟩ : ByteArray) := h1
        rw [← h3]
        exact h2 33 rfl
      refine ob_call (f := 26) Try.func26 (by kernel_rfl) rfl #[.string (⟨#[3, 3]⟩ : ByteArray), .string (⟨#[]⟩ : ByteArray), .string (⟨#[19, 1]⟩ : ByteArray), .string (⟨#[1]⟩ : ByteArray), .string (⟨#[0, 10, 0, 4, 0, 2, 0, 29]⟩ : ByteArray)] rfl (by simp only [List.map_toArray, List.map_cons, List.map_nil, ev e32, ev e33]; rfl) ?_
      refine (halberdlaw17_hello.calls _ _ _ _ _ _ _ h7_18s).mono ?_
      rintro e_ w_ ⟨rfl, b_⟩
      exact ⟨_, rfl, hK _ _ rfl b_⟩
    case o19 =>
      intro oi hoi a w vals hb hd hf K hK
      obtain rfl := Option.some.inj hoi
      have e5 : a.tmps[5]? = some (.string (⟨#[3, 3]⟩ : ByteArray)) := (hf 5 (free_of (by kernel_rfl))).trans rfl
      exact ob_move (.inl rfl) (ev e5) (hK _ _ rfl (Below.refl _ _))
    case o20 =>
      intro oi hoi a w vals hb hd hf K hK
      obtain rfl := Option.some.inj hoi
      have e6 : a.tmps[6]? = some (.string (⟨#[0, 10, 0, 4, 0, 2, 0, 29]⟩ : ByteArray)) := (hf 6 (free_of (by kernel_rfl))).trans rfl
      exact ob_move (.inl rfl) (ev e6) (hK _ _ rfl (Below.refl _ _))
    case o21 =>
      intro oi hoi a w vals hb hd hf K hK
      obtain rfl := Option.some.inj hoi
      have e35 : a.tmps[35]? = some (.string (⟨#[3, 3]⟩ : ByteArray)) := by
        obtain ⟨h1, h2⟩ := hd 19 (by kernel_rfl)
        have h3 : vals 19 = .string (⟨#[3, 3]⟩ : ByteArray) := h1
        rw [← h3]
        exact h2 35 rfl
      have e36 : a.tmps[36]? = some (.string (⟨#[0, 10, 0, 4, 0, 2, 0, 29]⟩ : ByteArray)) := by
        obtain ⟨h1, h2⟩ := hd 20 (by kernel_rfl)
        have h3 : vals 20 = .string (⟨#[0, 10, 0, 4, 0, 2, 0, 29]⟩ : ByteArray) := h1
        rw [← h3]
        exact h2 36 rfl
      refine ob_call (f := 26) Try.func26 (by kernel_rfl) rfl #[.string (⟨#[3, 3]⟩ : ByteArray), .string (⟨#[]⟩ : ByteArray), .string (⟨#[19, 1]⟩ : ByteArray), .string (⟨#[0, 0]⟩ : ByteArray), .string (⟨#[0, 10, 0, 4, 0, 2, 0, 29]⟩ : ByteArray)] rfl (by simp only [List.map_toArray, List.map_cons, List.map_nil, ev e35, ev e36]; rfl) ?_
      refine (halberdlaw17_hello.calls _ _ _ _ _ _ _ h7_21s).mono ?_
      rintro e_ w_ ⟨rfl, b_⟩
      exact ⟨_, rfl, hK _ _ rfl b_⟩
    case o22 =>
      intro oi hoi a w vals hb hd hf K hK
      obtain rfl := Option.some.inj hoi
      have e5 : a.tmps[5]? = some (.string (⟨#[3, 3]⟩ : ByteArray)) := (hf 5 (free_of (by kernel_rfl))).trans rfl
      exact ob_move (.inl rfl) (ev e5) (hK _ _ rfl (Below.refl _ _))
    case o23 =>
      intro oi hoi a w vals hb hd hf K hK
      obtain rfl := Option.some.inj hoi
      have e6 : a.tmps[6]? = some (.string (⟨#[0, 10, 0, 4, 0, 2, 0, 29]⟩ : ByteArray)) := (hf 6 (free_of (by kernel_rfl))).trans rfl
      exact ob_move (.inl rfl) (ev e6) (hK _ _ rfl (Below.refl _ _))
    case o24 =>
      intro oi hoi a w vals hb hd hf K hK
      obtain rfl := Option.some.inj hoi
      have e38 : a.tmps[38]? = some (.string (⟨#[3, 3]⟩ : ByteArray)) := by
        obtain ⟨h1, h2⟩ := hd 22 (by kernel_rfl)
        have h3 : vals 22 = .string (⟨#[3, 3]⟩ : ByteArray) := h1
        rw [← h3]
        exact h2 38 rfl
      have e39 : a.tmps[39]? = some (.string (⟨#[0, 10, 0, 4, 0, 2, 0, 29]⟩ : ByteArray)) := by
        obtain ⟨h1, h2⟩ := hd 23 (by kernel_rfl)
        have h3 : vals 23 = .string (⟨#[0, 10, 0, 4, 0, 2, 0, 29]⟩ : ByteArray) := h1
        rw [← h3]
        exact h2 39 rfl
      refine ob_call (f := 26) Try.func26 (by kernel_rfl) rfl #[.string (⟨#[3, 3]⟩ : ByteArray), .string (⟨#[]⟩ : ByteArray), .string (⟨#[19, 1]⟩ : ByteArray), .string (⟨#[]⟩ : ByteArray), .string (⟨#[0, 10, 0, 4, 0, 2, 0, 29]⟩ : ByteArray)] rfl (by simp only [List.map_toArray, List.map_cons, List.map_nil, ev e38, ev e39]; rfl) ?_
      refine (halberdlaw17_hello.calls _ _ _ _ _ _ _ h7_24s).mono ?_
      rintro e_ w_ ⟨rfl, b_⟩
      exact ⟨_, rfl, hK _ _ rfl b_⟩
    case o25 =>
      intro oi hoi a w vals hb hd hf K hK
      obtain rfl := Option.some.inj hoi
      have e5 : a.tmps[5]? = some (.string (⟨#[3, 3]⟩ : ByteArray)) := (hf 5 (free_of (by kernel_rfl))).trans rfl
      exact ob_move (.inl rfl) (ev e5) (hK _ _ rfl (Below.refl _ _))
    case o26 =>
      intro oi hoi a w vals hb hd hf K hK
      obtain rfl := Option.some.inj hoi
      have e6 : a.tmps[6]? = some (.string (⟨#[0, 10, 0, 4, 0, 2, 0, 29]⟩ : ByteArray)) := (hf 6 (free_of (by kernel_rfl))).trans rfl
      exact ob_move (.inl rfl) (ev e6) (hK _ _ rfl (Below.refl _ _))
    case o27 =>
      intro oi hoi a w vals hb hd hf K hK
      obtain rfl := Option.some.inj hoi
      have e6 : a.tmps[6]? = some (.string (⟨#[0, 10, 0, 4, 0, 2, 0, 29]⟩ : ByteArray)) := (hf 6 (free_of (by kernel_rfl))).trans rfl
      exact ob_move (.inl rfl) (ev e6) (hK _ _ rfl (Below.refl _ _))
    case o28 =>
      intro oi hoi a w vals hb hd hf K hK
      obtain rfl := Option.some.inj hoi
      have e42 : a.tmps[42]? = some (.string (⟨#[0, 10, 0, 4, 0, 2, 0, 29]⟩ : ByteArray)) := by
        obtain ⟨h1, h2⟩ := hd 26 (by kernel_rfl)
        have h3 : vals 26 = .string (⟨#[0, 10, 0, 4, 0, 2, 0, 29]⟩ : ByteArray) := h1
        rw [← h3]
        exact h2 42 rfl
      have e43 : a.tmps[43]? = some (.string (⟨#[0, 10, 0, 4, 0, 2, 0, 29]⟩ : ByteArray)) := by
        obtain ⟨h1, h2⟩ := hd 27 (by kernel_rfl)
        have h3 : vals 27 = .string (⟨#[0, 10, 0, 4, 0, 2, 0, 29]⟩ : ByteArray) := h1
        rw [← h3]
        exact h2 43 rfl
      refine ob_run (v := .string h7_28) (w' := w) ?_ (hK _ _ rfl (Below.refl _ _))
      exact ob_cat rfl (ev e42) (ev e43) h7_28z
    case o29 =>
      intro oi hoi a w vals hb hd hf K hK
      obtain rfl := Option.some.inj hoi
      have e41 : a.tmps[41]? = some (.string (⟨#[3, 3]⟩ : ByteArray)) := by
        obtain ⟨h1, h2⟩ := hd 25 (by kernel_rfl)
        have h3 : vals 25 = .string (⟨#[3, 3]⟩ : ByteArray) := h1
        rw [← h3]
        exact h2 41 rfl
      have e44 : a.tmps[44]? = some (.string h7_28) := by
        obtain ⟨h1, h2⟩ := hd 28 (by kernel_rfl)
        have h3 : vals 28 = .string h7_28 := h1
        rw [← h3]
        exact h2 44 rfl
      refine ob_call (f := 26) Try.func26 (by kernel_rfl) rfl #[.string (⟨#[3, 3]⟩ : ByteArray), .string (⟨#[]⟩ : ByteArray), .string (⟨#[19, 1]⟩ : ByteArray), .string (⟨#[0]⟩ : ByteArray), .string h7_28] rfl (by simp only [List.map_toArray, List.map_cons, List.map_nil, ev e41, ev e44]; rfl) ?_
      refine (halberdlaw17_hello.calls _ _ _ _ _ _ _ h7_29s).mono ?_
      rintro e_ w_ ⟨rfl, b_⟩
      exact ⟨_, rfl, hK _ _ rfl b_⟩
    case o30 =>
      intro oi hoi a w vals hb hd hf K hK
      obtain rfl := Option.some.inj hoi
      have e5 : a.tmps[5]? = some (.string (⟨#[3, 3]⟩ : ByteArray)) := (hf 5 (free_of (by kernel_rfl))).trans rfl
      exact ob_move (.inl rfl) (ev e5) (hK _ _ rfl (Below.refl _ _))
    case o31 =>
      intro oi hoi a w vals hb hd hf K hK
      obtain rfl := Option.some.inj hoi
      have e6 : a.tmps[6]? = some (.string (⟨#[0, 10, 0, 4, 0, 2, 0, 29]⟩ : ByteArray)) := (hf 6 (free_of (by kernel_rfl))).trans rfl
      exact ob_move (.inl rfl) (ev e6) (hK _ _ rfl (Below.refl _ _))
    case o32 =>
      intro oi hoi a w vals hb hd hf K hK
      obtain rfl := Option.some.inj hoi
      have e47 : a.tmps[47]? = some (.string (⟨#[0, 10, 0, 4, 0, 2, 0, 29]⟩ : ByteArray)) := by
        obtain ⟨h1, h2⟩ := hd 31 (by kernel_rfl)
        have h3 : vals 31 = .string (⟨#[0, 10, 0, 4, 0, 2, 0, 29]⟩ : ByteArray) := h1
        rw [← h3]
        exact h2 47 rfl
      refine ob_run (v := .string h7_32) (w' := w) ?_ (hK _ _ rfl (Below.refl _ _))
      exact ob_cat rfl (ev e47) rfl h7_32z
    case o33 =>
      intro oi hoi a w vals hb hd hf K hK
      obtain rfl := Option.some.inj hoi
      have e46 : a.tmps[46]? = some (.string (⟨#[3, 3]⟩ : ByteArray)) := by
        obtain ⟨h1, h2⟩ := hd 30 (by kernel_rfl)
        have h3 : vals 30 = .string (⟨#[3, 3]⟩ : ByteArray) := h1
        rw [← h3]
        exact h2 46 rfl
      have e48 : a.tmps[48]? = some (.string h7_32) := by
        obtain ⟨h1, h2⟩ := hd 32 (by kernel_rfl)
        have h3 : vals 32 = .string h7_32 := h1
        rw [← h3]
        exact h2 48 rfl
      refine ob_call (f := 26) Try.func26 (by kernel_rfl) rfl #[.string (⟨#[3, 3]⟩ : ByteArray), .string (⟨#[]⟩ : ByteArray), .string (⟨#[19, 1]⟩ : ByteArray), .string (⟨#[0]⟩ : ByteArray), .string h7_32] rfl (by simp only [List.map_toArray, List.map_cons, List.map_nil, ev e46, ev e48]; rfl) ?_
      refine (halberdlaw17_hello.calls _ _ _ _ _ _ _ h7_33s).mono ?_
      rintro e_ w_ ⟨rfl, b_⟩
      exact ⟨_, rfl, hK _ _ rfl b_⟩
    case o34 =>
      intro oi hoi a w vals hb hd hf K hK
      obtain rfl := Option.some.inj hoi
      have e5 : a.tmps[5]? = some (.string (⟨#[3, 3]⟩ : ByteArray)) := (hf 5 (free_of (by kernel_rfl))).trans rfl
      exact ob_move (.inl rfl) (ev e5) (hK _ _ rfl (Below.refl _ _))
    case o35 =>
      intro oi hoi a w vals hb hd hf K hK
      obtain rfl := Option.some.inj hoi
      have e50 : a.tmps[50]? = some (.string (⟨#[3, 3]⟩ : ByteArray)) := by
        obtain ⟨h1, h2⟩ := hd 34 (by kernel_rfl)
        have h3 : vals 34 = .string (⟨#[3, 3]⟩ : ByteArray) := h1
        rw [← h3]
        exact h2 50 rfl
      refine ob_call (f := 26) Try.func26 (by kernel_rfl) rfl #[.string (⟨#[3, 3]⟩ : ByteArray), .string (⟨#[]⟩ : ByteArray), .string (⟨#[19, 1]⟩ : ByteArray), .string (⟨#[0]⟩ : ByteArray), .string (⟨#[0, 10, 0, 2, 0, 0]⟩ : ByteArray)] rfl (by simp only [List.map_toArray, List.map_cons, List.map_nil, ev e50]; rfl) ?_
      refine (halberdlaw17_hello.calls _ _ _ _ _ _ _ h7_35s).mono ?_
      rintro e_ w_ ⟨rfl, b_⟩
      exact ⟨_, rfl, hK _ _ rfl b_⟩
    case o36 =>
      intro oi hoi a w vals hb hd hf K hK
      obtain rfl := Option.some.inj hoi
      have e5 : a.tmps[5]? = some (.string (⟨#[3, 3]⟩ : ByteArray)) := (hf 5 (free_of (by kernel_rfl))).trans rfl
      exact ob_move (.inl rfl) (ev e5) (hK _ _ rfl (Below.refl _ _))
    case o37 =>
      intro oi hoi a w vals hb hd hf K hK
      obtain rfl := Option.some.inj hoi
      have e52 : a.tmps[52]? = some (.string (⟨#[3, 3]⟩ : ByteArray)) := by
        obtain ⟨h1, h2⟩ := hd 36 (by kernel_rfl)
        have h3 : vals 36 = .string (⟨#[3, 3]⟩ : ByteArray) := h1
        rw [← h3]
        exact h2 52 rfl
      refine ob_call (f := 26) Try.func26 (by kernel_rfl) rfl #[.string (⟨#[3, 3]⟩ : ByteArray), .string (⟨#[]⟩ : ByteArray), .string (⟨#[19, 1]⟩ : ByteArray), .string (⟨#[0]⟩ : ByteArray), .string (⟨#[0, 10, 0, 3, 0, 1, 0]⟩ : ByteArray)] rfl (by simp only [List.map_toArray, List.map_cons, List.map_nil, ev e52]; rfl) ?_
      refine (halberdlaw17_hello.calls _ _ _ _ _ _ _ h7_37s).mono ?_
      rintro e_ w_ ⟨rfl, b_⟩
      exact ⟨_, rfl, hK _ _ rfl b_⟩
    case o38 =>
      intro oi hoi a w vals hb hd hf K hK
      obtain rfl := Option.some.inj hoi
      have e5 : a.tmps[5]? = some (.string (⟨#[3, 3]⟩ : ByteArray)) := (hf 5 (free_of (by kernel_rfl))).trans rfl
      exact ob_move (.inl rfl) (ev e5) (hK _ _ rfl (Below.refl _ _))
    case o39 =>
      intro oi hoi a w vals hb hd hf K hK
      obtain rfl := Option.some.inj hoi
      have e54 : a.tmps[54]? = some (.string (⟨#[3, 3]⟩ : ByteArray)) := by
        obtain ⟨h1, h2⟩ := hd 38 (by kernel_rfl)
        have h3 : vals 38 = .string (⟨#[3, 3]⟩ : ByteArray) := h1
        rw [← h3]
        exact h2 54 rfl
      refine ob_call (f := 26) Try.func26 (by kernel_rfl) rfl #[.string (⟨#[3, 3]⟩ : ByteArray), .string (⟨#[]⟩ : ByteArray), .string (⟨#[19, 1]⟩ : ByteArray), .string (⟨#[0]⟩ : ByteArray), .string (⟨#[0, 10, 0, 5, 0, 2, 0, 29, 0]⟩ : ByteArray)] rfl (by simp only [List.map_toArray, List.map_cons, List.map_nil, ev e54]; rfl) ?_
      refine (halberdlaw17_hello.calls _ _ _ _ _ _ _ h7_39s).mono ?_
      rintro e_ w_ ⟨rfl, b_⟩
      exact ⟨_, rfl, hK _ _ rfl b_⟩
    case o40 =>
      intro oi hoi a w vals hb hd hf K hK
      obtain rfl := Option.some.inj hoi
      have e5 : a.tmps[5]? = some (.string (⟨#[3, 3]⟩ : ByteArray)) := (hf 5 (free_of (by kernel_rfl))).trans rfl
      exact ob_move (.inl rfl) (ev e5) (hK _ _ rfl (Below.refl _ _))
    case o41 =>
      intro oi hoi a w vals hb hd hf K hK
      obtain rfl := Option.some.inj hoi
      have e7 : a.tmps[7]? = some (.string ((⟨#[0, 41, 0, 44, 0, 7, 0, 1, 116, 0, 0, 0, 0, 0, 33, 32]⟩ : ByteArray) ++ strOfNums [0, 0, 0, 0, 0, 0, 0, 0, 0, 0, 0, 0, 0, 0, 0, 0, 0, 0, 0, 0, 0, 0, 0, 0, 0, 0, 0, 0, 0, 0, 0, 0])) := (hf 7 (free_of (by kernel_rfl))).trans rfl
      exact ob_move (.inl rfl) (ev e7) (hK _ _ rfl (Below.refl _ _))
    case o42 =>
      intro oi hoi a w vals hb hd hf K hK
      obtain rfl := Option.some.inj hoi
      have e56 : a.tmps[56]? = some (.string (⟨#[3, 3]⟩ : ByteArray)) := by
        obtain ⟨h1, h2⟩ := hd 40 (by kernel_rfl)
        have h3 : vals 40 = .string (⟨#[3, 3]⟩ : ByteArray) := h1
        rw [← h3]
        exact h2 56 rfl
      have e57 : a.tmps[57]? = some (.string ((⟨#[0, 41, 0, 44, 0, 7, 0, 1, 116, 0, 0, 0, 0, 0, 33, 32]⟩ : ByteArray) ++ strOfNums [0, 0, 0, 0, 0, 0, 0, 0, 0, 0, 0, 0, 0, 0, 0, 0, 0, 0, 0, 0, 0, 0, 0, 0, 0, 0, 0, 0, 0, 0, 0, 0])) := by
        obtain ⟨h1, h2⟩ := hd 41 (by kernel_rfl)
        have h3 : vals 41 = .string ((⟨#[0, 41, 0, 44, 0, 7, 0, 1, 116, 0, 0, 0, 0, 0, 33, 32]⟩ : ByteArray) ++ strOfNums [0, 0, 0, 0, 0, 0, 0, 0, 0, 0, 0, 0, 0, 0, 0, 0, 0, 0, 0, 0, 0, 0, 0, 0, 0, 0, 0, 0, 0, 0, 0, 0]) := h1
        rw [← h3]
        exact h2 57 rfl
      refine ob_call (f := 26) Try.func26 (by kernel_rfl) rfl #[.string (⟨#[3, 3]⟩ : ByteArray), .string (⟨#[]⟩ : ByteArray), .string (⟨#[19, 1]⟩ : ByteArray), .string (⟨#[0]⟩ : ByteArray), .string ((⟨#[0, 41, 0, 44, 0, 7, 0, 1, 116, 0, 0, 0, 0, 0, 33, 32]⟩ : ByteArray) ++ strOfNums [0, 0, 0, 0, 0, 0, 0, 0, 0, 0, 0, 0, 0, 0, 0, 0, 0, 0, 0, 0, 0, 0, 0, 0, 0, 0, 0, 0, 0, 0, 0, 0])] rfl (by simp only [List.map_toArray, List.map_cons, List.map_nil, ev e56, ev e57]; rfl) ?_
      refine (halberdlaw17_hello.calls _ _ _ _ _ _ _ h7_42s).mono ?_
      rintro e_ w_ ⟨rfl, b_⟩
      exact ⟨_, rfl, hK _ _ rfl b_⟩
    case o43 =>
      intro oi hoi a w vals hb hd hf K hK
      obtain rfl := Option.some.inj hoi
      have e5 : a.tmps[5]? = some (.string (⟨#[3, 3]⟩ : ByteArray)) := (hf 5 (free_of (by kernel_rfl))).trans rfl
      exact ob_move (.inl rfl) (ev e5) (hK _ _ rfl (Below.refl _ _))
    case o44 =>
      intro oi hoi a w vals hb hd hf K hK
      obtain rfl := Option.some.inj hoi
      have e7 : a.tmps[7]? = some (.string ((⟨#[0, 41, 0, 44, 0, 7, 0, 1, 116, 0, 0, 0, 0, 0, 33, 32]⟩ : ByteArray) ++ strOfNums [0, 0, 0, 0, 0, 0, 0, 0, 0, 0, 0, 0, 0, 0, 0, 0, 0, 0, 0, 0, 0, 0, 0, 0, 0, 0, 0, 0, 0, 0, 0, 0])) := (hf 7 (free_of (by kernel_rfl))).trans rfl
      exact ob_move (.inl rfl) (ev e7) (hK _ _ rfl (Below.refl _ _))
    case o45 =>
      intro oi hoi a w vals hb hd hf K hK
      obtain rfl := Option.some.inj hoi
      have e6 : a.tmps[6]? = some (.string (⟨#[0, 10, 0, 4, 0, 2, 0, 29]⟩ : ByteArray)) := (hf 6 (free_of (by kernel_rfl))).trans rfl
      exact ob_move (.inl rfl) (ev e6) (hK _ _ rfl (Below.refl _ _))
    case o46 =>
      intro oi hoi a w vals hb hd hf K hK
      obtain rfl := Option.some.inj hoi
      have e60 : a.tmps[60]? = some (.string ((⟨#[0, 41, 0, 44, 0, 7, 0, 1, 116, 0, 0, 0, 0, 0, 33, 32]⟩ : ByteArray) ++ strOfNums [0, 0, 0, 0, 0, 0, 0, 0, 0, 0, 0, 0, 0, 0, 0, 0, 0, 0, 0, 0, 0, 0, 0, 0, 0, 0, 0, 0, 0, 0, 0, 0])) := by
        obtain ⟨h1, h2⟩ := hd 44 (by kernel_rfl)
        have h3 : vals 44 = .string ((⟨#[0, 41, 0, 44, 0, 7, 0, 1, 116, 0, 0, 0, 0, 0, 33, 32]⟩ : ByteArray) ++ strOfNums [0, 0, 0, 0, 0, 0, 0, 0, 0, 0, 0, 0, 0, 0, 0, 0, 0, 0, 0, 0, 0, 0, 0, 0, 0, 0, 0, 0, 0, 0, 0, 0]) := h1
        rw [← h3]
        exact h2 60 rfl
      have e61 : a.tmps[61]? = some (.string (⟨#[0, 10, 0, 4, 0, 2, 0, 29]⟩ : ByteArray)) := by
        obtain ⟨h1, h2⟩ := hd 45 (by kernel_rfl)
        have h3 : vals 45 = .string (⟨#[0, 10, 0, 4, 0, 2, 0, 29]⟩ : ByteArray) := h1
        rw [← h3]
        exact h2 61 rfl
      refine ob_run (v := .string h7_46) (w' := w) ?_ (hK _ _ rfl (Below.refl _ _))
      exact ob_cat rfl (ev e60) (ev e61) h7_46z
    case o47 =>
      intro oi hoi a w vals hb hd hf K hK
      obtain rfl := Option.some.inj hoi
      have e59 : a.tmps[59]? = some (.string (⟨#[3, 3]⟩ : ByteArray)) := by
        obtain ⟨h1, h2⟩ := hd 43 (by kernel_rfl)
        have h3 : vals 43 = .string (⟨#[3, 3]⟩ : ByteArray) := h1
        rw [← h3]
        exact h2 59 rfl
      have e62 : a.tmps[62]? = some (.string h7_46) := by
        obtain ⟨h1, h2⟩ := hd 46 (by kernel_rfl)
        have h3 : vals 46 = .string h7_46 := h1
        rw [← h3]
        exact h2 62 rfl
      refine ob_call (f := 26) Try.func26 (by kernel_rfl) rfl #[.string (⟨#[3, 3]⟩ : ByteArray), .string (⟨#[]⟩ : ByteArray), .string (⟨#[19, 1]⟩ : ByteArray), .string (⟨#[0]⟩ : ByteArray), .string h7_46] rfl (by simp only [List.map_toArray, List.map_cons, List.map_nil, ev e59, ev e62]; rfl) ?_
      refine (halberdlaw17_hello.calls _ _ _ _ _ _ _ h7_47s).mono ?_
      rintro e_ w_ ⟨rfl, b_⟩
      exact ⟨_, rfl, hK _ _ rfl b_⟩
    case o48 =>
      intro oi hoi a w vals hb hd hf K hK
      obtain rfl := Option.some.inj hoi
      have e5 : a.tmps[5]? = some (.string (⟨#[3, 3]⟩ : ByteArray)) := (hf 5 (free_of (by kernel_rfl))).trans rfl
      exact ob_move (.inl rfl) (ev e5) (hK _ _ rfl (Below.refl _ _))
    case o49 =>
      intro oi hoi a w vals hb hd hf K hK
      obtain rfl := Option.some.inj hoi
      have e6 : a.tmps[6]? = some (.string (⟨#[0, 10, 0, 4, 0, 2, 0, 29]⟩ : ByteArray)) := (hf 6 (free_of (by kernel_rfl))).trans rfl
      exact ob_move (.inl rfl) (ev e6) (hK _ _ rfl (Below.refl _ _))
    case o50 =>
      intro oi hoi a w vals hb hd hf K hK
      obtain rfl := Option.some.inj hoi
      have e7 : a.tmps[7]? = some (.string ((⟨#[0, 41, 0, 44, 0, 7, 0, 1, 116, 0, 0, 0, 0, 0, 33, 32]⟩ : ByteArray) ++ strOfNums [0, 0, 0, 0, 0, 0, 0, 0, 0, 0, 0, 0, 0, 0, 0, 0, 0, 0, 0, 0, 0, 0, 0, 0, 0, 0, 0, 0, 0, 0, 0, 0])) := (hf 7 (free_of (by kernel_rfl))).trans rfl
      exact ob_move (.inl rfl) (ev e7) (hK _ _ rfl (Below.refl _ _))
    case o51 =>
      intro oi hoi a w vals hb hd hf K hK
      obtain rfl := Option.some.inj hoi
      have e65 : a.tmps[65]? = some (.string (⟨#[0, 10, 0, 4, 0, 2, 0, 29]⟩ : ByteArray)) := by
        obtain ⟨h1, h2⟩ := hd 49 (by kernel_rfl)
        have h3 : vals 49 = .string (⟨#[0, 10, 0, 4, 0, 2, 0, 29]⟩ : ByteArray) := h1
        rw [← h3]
        exact h2 65 rfl
      have e66 : a.tmps[66]? = some (.string ((⟨#[0, 41, 0, 44, 0, 7, 0, 1, 116, 0, 0, 0, 0, 0, 33, 32]⟩ : ByteArray) ++ strOfNums [0, 0, 0, 0, 0, 0, 0, 0, 0, 0, 0, 0, 0, 0, 0, 0, 0, 0, 0, 0, 0, 0, 0, 0, 0, 0, 0, 0, 0, 0, 0, 0])) := by
        obtain ⟨h1, h2⟩ := hd 50 (by kernel_rfl)
        have h3 : vals 50 = .string ((⟨#[0, 41, 0, 44, 0, 7, 0, 1, 116, 0, 0, 0, 0, 0, 33, 32]⟩ : ByteArray) ++ strOfNums [0, 0, 0, 0, 0, 0, 0, 0, 0, 0, 0, 0, 0, 0, 0, 0, 0, 0, 0, 0, 0, 0, 0, 0, 0, 0, 0, 0, 0, 0, 0, 0]) := h1
        rw [← h3]
        exact h2 66 rfl
      refine ob_run (v := .string h7_51) (w' := w) ?_ (hK _ _ rfl (Below.refl _ _))
      exact ob_cat rfl (ev e65) (ev e66) h7_51z
    case o52 =>
      intro oi hoi a w vals hb hd hf K hK
      obtain rfl := Option.some.inj hoi
      have e64 : a.tmps[64]? = some (.string (⟨#[3, 3]⟩ : ByteArray)) := by
        obtain ⟨h1, h2⟩ := hd 48 (by kernel_rfl)
        have h3 : vals 48 = .string (⟨#[3, 3]⟩ : ByteArray) := h1
        rw [← h3]
        exact h2 64 rfl
      have e67 : a.tmps[67]? = some (.string h7_51) := by
        obtain ⟨h1, h2⟩ := hd 51 (by kernel_rfl)
        have h3 : vals 51 = .string h7_51 := h1
        rw [← h3]
        exact h2 67 rfl
      refine ob_call (f := 26) Try.func26 (by kernel_rfl) rfl #[.string (⟨#[3, 3]⟩ : ByteArray), .string (⟨#[]⟩ : ByteArray), .string (⟨#[19, 1]⟩ : ByteArray), .string (⟨#[0]⟩ : ByteArray), .string h7_51] rfl (by simp only [List.map_toArray, List.map_cons, List.map_nil, ev e64, ev e67]; rfl) ?_
      refine (halberdlaw17_hello.calls _ _ _ _ _ _ _ h7_52s).mono ?_
      rintro e_ w_ ⟨rfl, b_⟩
      exact ⟨_, rfl, hK _ _ rfl b_⟩
    case o53 =>
      intro oi hoi a w vals hb hd hf K hK
      obtain rfl := Option.some.inj hoi
      have e5 : a.tmps[5]? = some (.string (⟨#[3, 3]⟩ : ByteArray)) := (hf 5 (free_of (by kernel_rfl))).trans rfl
      exact ob_move (.inl rfl) (ev e5) (hK _ _ rfl (Below.refl _ _))
    case o54 =>
      intro oi hoi a w vals hb hd hf K hK
      obtain rfl := Option.some.inj hoi
      have e69 : a.tmps[69]? = some (.string (⟨#[3, 3]⟩ : ByteArray)) := by
        obtain ⟨h1, h2⟩ := hd 53 (by kernel_rfl)
        have h3 : vals 53 = .string (⟨#[3, 3]⟩ : ByteArray) := h1
        rw [← h3]
        exact h2 69 rfl
      refine ob_call (f := 26) Try.func26 (by kernel_rfl) rfl #[.string (⟨#[3, 3]⟩ : ByteArray), .string (⟨#[]⟩ : ByteArray), .string (⟨#[19, 1]⟩ : ByteArray), .string (⟨#[0]⟩ : ByteArray), .string (⟨#[0, 0, 0, 5, 0, 3, 0, 0, 0]⟩ : ByteArray)] rfl (by simp only [List.map_toArray, List.map_cons, List.map_nil, ev e69]; rfl) ?_
      refine (halberdlaw17_hello.calls _ _ _ _ _ _ _ h7_54s).mono ?_
      rintro e_ w_ ⟨rfl, b_⟩
      exact ⟨_, rfl, hK _ _ rfl b_⟩
    case o55 =>
      intro oi hoi a w vals hb hd hf K hK
      obtain rfl := Option.some.inj hoi
      have e5 : a.tmps[5]? = some (.string (⟨#[3, 3]⟩ : ByteArray)) := (hf 5 (free_of (by kernel_rfl))).trans rfl
      exact ob_move (.inl rfl) (ev e5) (hK _ _ rfl (Below.refl _ _))
    case o56 =>
      intro oi hoi a w vals hb hd hf K hK
      obtain rfl := Option.some.inj hoi
      have e71 : a.tmps[71]? = some (.string (⟨#[3, 3]⟩ : ByteArray)) := by
        obtain ⟨h1, h2⟩ := hd 55 (by kernel_rfl)
        have h3 : vals 55 = .string (⟨#[3, 3]⟩ : ByteArray) := h1
        rw [← h3]
        exact h2 71 rfl
      refine ob_call (f := 26) Try.func26 (by kernel_rfl) rfl #[.string (⟨#[3, 3]⟩ : ByteArray), .string (⟨#[]⟩ : ByteArray), .string (⟨#[19, 1]⟩ : ByteArray), .string (⟨#[0]⟩ : ByteArray), .string (⟨#[0, 0, 0, 6, 0, 4, 1, 0, 1, 97]⟩ : ByteArray)] rfl (by simp only [List.map_toArray, List.map_cons, List.map_nil, ev e71]; rfl) ?_
      refine (halberdlaw17_hello.calls _ _ _ _ _ _ _ h7_56s).mono ?_
      rintro e_ w_ ⟨rfl, b_⟩
      exact ⟨_, rfl, hK _ _ rfl b_⟩
    case o57 =>
      intro oi hoi a w vals hb hd hf K hK
      obtain rfl := Option.some.inj hoi
      have e5 : a.tmps[5]? = some (.string (⟨#[3, 3]⟩ : ByteArray)) := (hf 5 (free_of (by kernel_rfl))).trans rfl
      exact ob_move (.inl rfl) (ev e5) (hK _ _ rfl (Below.refl _ _))
    case o58 =>
      intro oi hoi a w vals hb hd hf K hK
      obtain rfl := Option.some.inj hoi
      have e73 : a.tmps[73]? = some (.string (⟨#[3, 3]⟩ : ByteArray)) := by
        obtain ⟨h1, h2⟩ := hd 57 (by kernel_rfl)
        have h3 : vals 57 = .string (⟨#[3, 3]⟩ : ByteArray) := h1
        rw [← h3]
        exact h2 73 rfl
      refine ob_call (f := 26) Try.func26 (by kernel_rfl) rfl #[.string (⟨#[3, 3]⟩ : ByteArray), .string (⟨#[]⟩ : ByteArray), .string (⟨#[19, 1]⟩ : ByteArray), .string (⟨#[0]⟩ : ByteArray), .string (⟨#[0, 51, 0, 6, 0, 4, 0, 29, 0, 0]⟩ : ByteArray)] rfl (by simp only [List.map_toArray, List.map_cons, List.map_nil, ev e73]; rfl) ?_
      refine (halberdlaw17_hello.calls _ _ _ _ _ _ _ h7_58s).mono ?_
      rintro e_ w_ ⟨rfl, b_⟩
      exact ⟨_, rfl, hK _ _ rfl b_⟩
    case o59 =>
      intro oi hoi a w vals hb hd hf K hK
      obtain rfl := Option.some.inj hoi
      have e5 : a.tmps[5]? = some (.string (⟨#[3, 3]⟩ : ByteArray)) := (hf 5 (free_of (by kernel_rfl))).trans rfl
      exact ob_move (.inl rfl) (ev e5) (hK _ _ rfl (Below.refl _ _))
    case o60 =>
      intro oi hoi a w vals hb hd hf K hK
      obtain rfl := Option.some.inj hoi
      have e1 : a.tmps[1]? = some (.int .i64 x) := (hf 1 (free_of (by kernel_rfl))).trans rfl
      exact ob_move (.inl rfl) (ev e1) (hK _ _ rfl (Below.refl _ _))
    case o61 =>
      intro oi hoi a w vals hb hd hf K hK
      obtain rfl := Option.some.inj hoi
      have e76 : a.tmps[76]? = some (.int .i64 x) := by
        obtain ⟨h1, h2⟩ := hd 60 (by kernel_rfl)
        have h3 : vals 60 = .int .i64 x := h1
        rw [← h3]
        exact h2 76 rfl
      refine ob_run (v := .int .i64 y) (w' := w) ?_ (hK _ _ rfl (Below.refl _ _))
      rw [← Hy.out]
      exact ob_and rfl (ev e76) rfl
    case o62 =>
      intro oi hoi a w vals hb hd hf K hK
      obtain rfl := Option.some.inj hoi
      have e77 : a.tmps[77]? = some (.int .i64 y) := by
        obtain ⟨h1, h2⟩ := hd 61 (by kernel_rfl)
        have h3 : vals 61 = .int .i64 y := h1
        rw [← h3]
        exact h2 77 rfl
      have z1 : IntKind.i64.wrap (200 + y) = (200 + y) := IntWalk.i64_in _ (by omega)
      refine ob_run (v := .int .i64 (200 + y)) (w' := w) ?_ (hK _ _ rfl (Below.refl _ _))
      refine Eq.trans (ob_addi (m := 200) (n := y) rfl rfl (ev e77)) ?_
      rw [z1]
    case o63 =>
      intro oi hoi a w vals hb hd hf K hK
      obtain rfl := Option.some.inj hoi
      have e78 : a.tmps[78]? = some (.int .i64 (200 + y)) := by
        obtain ⟨h1, h2⟩ := hd 62 (by kernel_rfl)
        have h3 : vals 62 = .int .i64 (200 + y) := h1
        rw [← h3]
        exact h2 78 rfl
      have z1 : IntKind.u8.wrap (200 + y) = (200 + y) := by simp only [Go.IntKind.wrap_u8]; exact Int.emod_eq_of_lt (by omega) (by omega)
      refine ob_run (v := .int .u8 (200 + y)) (w' := w) ?_ (hK _ _ rfl (Below.refl _ _))
      refine Eq.trans (ob_cvt (n := (200 + y)) rfl (ev e78)) ?_
      rw [z1]
    case o64 =>
      intro oi hoi a w vals hb hd hf K hK
      obtain rfl := Option.some.inj hoi
      have e79 : a.tmps[79]? = some (.int .u8 (200 + y)) := by
        obtain ⟨h1, h2⟩ := hd 63 (by kernel_rfl)
        have h3 : vals 63 = .int .u8 (200 + y) := h1
        rw [← h3]
        exact h2 79 rfl
      refine ob_step (ops := #[]) rfl (Kd.R_lit_step (Kd.int .u8) (w0 := w) w.heap.size 5 (by rfl) (N := 80) rfl (xs := [(200 + y), 0, 0, 1, 5]) (inner := [.int .u8 (200 + y), .int .u8 0, .int .u8 0, .int .u8 1, .int .u8 5]) (ok := fun _ => True) (okp := fun _ => True) ?hr ?hp (fun _ hk => hk) trivial (Below.refl _ _) (Nat.le_refl _) (by simp) ?_)
      (case hr => first | (go_simp; done) | (go_simp; rfl))
      (case hp => exact (Reps.one (show Kd.M (Kd.int .u8) _ _ _ (200 + y) [.int .u8 (200 + y)] from rfl) (Reps.one (show Kd.M (Kd.int .u8) _ _ _ 0 [.int .u8 0] from rfl) (Reps.one (show Kd.M (Kd.int .u8) _ _ _ 0 [.int .u8 0] from rfl) (Reps.one (show Kd.M (Kd.int .u8) _ _ _ 1 [.int .u8 1] from rfl) (Reps.one (show Kd.M (Kd.int .u8) _ _ _ 5 [.int .u8 5] from rfl) (Reps.none _ _)))))))
      intro v1 w1 ho hb_ hg_ hn_
      exact hK _ _ (Kd.R_lower ho (Nat.zero_le _)) hb_
    case o65 =>
      intro oi hoi a w vals hb hd hf K hK
      obtain rfl := Option.some.inj hoi
      obtain ⟨r80, q80⟩ := hd 64 (by kernel_rfl)
      have e80 := q80 80 rfl
      replace r80 : (PK.row ([(200 + y), 0, 0, 1, 5] : List Int)).holds (vals 64) w := r80
      have hc := own_string (P := Try.prog) Try.underlying39 Try.underlying5 Try.underlying9 (Kd.own_of_R (show Kd.R (Kd.int .u8) 5 w 0 (fun _ => True) _ ([(200 + y), 0, 0, 1, 5] : List Int) from r80))
      refine ob_run (v := .string (h7_65 y)) (w' := w) ?_ (hK _ _ rfl (Below.refl _ _))
      exact ob_conv rfl (ev e80) hc
    case o66 =>
      intro oi hoi a w vals hb hd hf K hK
      obtain rfl := Option.some.inj hoi
      have e75 : a.tmps[75]? = some (.string (⟨#[3, 3]⟩ : ByteArray)) := by
        obtain ⟨h1, h2⟩ := hd 59 (by kernel_rfl)
        have h3 : vals 59 = .string (⟨#[3, 3]⟩ : ByteArray) := h1
        rw [← h3]
        exact h2 75 rfl
      have e81 : a.tmps[81]? = some (.string (h7_65 y)) := by
        obtain ⟨h1, h2⟩ := hd 65 (by kernel_rfl)
        have h3 : vals 65 = .string (h7_65 y) := h1
        rw [← h3]
        exact h2 81 rfl
      refine ob_call (f := 26) Try.func26 (by kernel_rfl) rfl #[.string (⟨#[3, 3]⟩ : ByteArray), .string (⟨#[]⟩ : ByteArray), .string (⟨#[19, 1]⟩ : ByteArray), .string (⟨#[0]⟩ : ByteArray), .string (h7_65 y)] rfl (by simp only [List.map_toArray, List.map_cons, List.map_nil, ev e75, ev e81]; rfl) ?_
      refine (halberdlaw17_hello.calls _ _ _ _ _ _ _ (h7_66s y hy0 hy1)).mono ?_
      rintro e_ w_ ⟨rfl, b_⟩
      exact ⟨_, rfl, hK _ _ rfl b_⟩
    case o67 =>
      intro oi hoi a w vals hb hd hf K hK
      obtain rfl := Option.some.inj hoi
      have e18 : a.tmps[18]? = some (.string h7_2) := by
        obtain ⟨h1, h2⟩ := hd 2 (by kernel_rfl)
        have h3 : vals 2 = .string h7_2 := h1
        rw [← h3]
        exact h2 18 rfl
      have e20 : a.tmps[20]? = some (.string h7_4) := by
        obtain ⟨h1, h2⟩ := hd 4 (by kernel_rfl)
        have h3 : vals 4 = .string h7_4 := h1
        rw [← h3]
        exact h2 20 rfl
      have e25 : a.tmps[25]? = some (.string h7_9) := by
        obtain ⟨h1, h2⟩ := hd 9 (by kernel_rfl)
        have h3 : vals 9 = .string h7_9 := h1
        rw [← h3]
        exact h2 25 rfl
      have e28 : a.tmps[28]? = some (.string h7_12) := by
        obtain ⟨h1, h2⟩ := hd 12 (by kernel_rfl)
        have h3 : vals 12 = .string h7_12 := h1
        rw [← h3]
        exact h2 28 rfl
      have e31 : a.tmps[31]? = some (.string h7_15) := by
        obtain ⟨h1, h2⟩ := hd 15 (by kernel_rfl)
        have h3 : vals 15 = .string h7_15 := h1
        rw [← h3]
        exact h2 31 rfl
      have e34 : a.tmps[34]? = some (.string h7_18) := by
        obtain ⟨h1, h2⟩ := hd 18 (by kernel_rfl)
        have h3 : vals 18 = .string h7_18 := h1
        rw [← h3]
        exact h2 34 rfl
      have e37 : a.tmps[37]? = some (.string h7_21) := by
        obtain ⟨h1, h2⟩ := hd 21 (by kernel_rfl)
        have h3 : vals 21 = .string h7_21 := h1
        rw [← h3]
        exact h2 37 rfl
      have e40 : a.tmps[40]? = some (.string h7_24) := by
        obtain ⟨h1, h2⟩ := hd 24 (by kernel_rfl)
        have h3 : vals 24 = .string h7_24 := h1
        rw [← h3]
        exact h2 40 rfl
      have e45 : a.tmps[45]? = some (.string h7_29) := by
        obtain ⟨h1, h2⟩ := hd 29 (by kernel_rfl)
        have h3 : vals 29 = .string h7_29 := h1
        rw [← h3]
        exact h2 45 rfl
      have e49 : a.tmps[49]? = some (.string h7_33) := by
        obtain ⟨h1, h2⟩ := hd 33 (by kernel_rfl)
        have h3 : vals 33 = .string h7_33 := h1
        rw [← h3]
        exact h2 49 rfl
      have e51 : a.tmps[51]? = some (.string h7_35) := by
        obtain ⟨h1, h2⟩ := hd 35 (by kernel_rfl)
        have h3 : vals 35 = .string h7_35 := h1
        rw [← h3]
        exact h2 51 rfl
      have e53 : a.tmps[53]? = some (.string h7_37) := by
        obtain ⟨h1, h2⟩ := hd 37 (by kernel_rfl)
        have h3 : vals 37 = .string h7_37 := h1
        rw [← h3]
        exact h2 53 rfl
      have e55 : a.tmps[55]? = some (.string h7_39) := by
        obtain ⟨h1, h2⟩ := hd 39 (by kernel_rfl)
        have h3 : vals 39 = .string h7_39 := h1
        rw [← h3]
        exact h2 55 rfl
      have e58 : a.tmps[58]? = some (.string h7_42) := by
        obtain ⟨h1, h2⟩ := hd 42 (by kernel_rfl)
        have h3 : vals 42 = .string h7_42 := h1
        rw [← h3]
        exact h2 58 rfl
      have e63 : a.tmps[63]? = some (.string h7_47) := by
        obtain ⟨h1, h2⟩ := hd 47 (by kernel_rfl)
        have h3 : vals 47 = .string h7_47 := h1
        rw [← h3]
        exact h2 63 rfl
      have e68 : a.tmps[68]? = some (.string h7_52) := by
        obtain ⟨h1, h2⟩ := hd 52 (by kernel_rfl)
        have h3 : vals 52 = .string h7_52 := h1
        rw [← h3]
        exact h2 68 rfl
      have e70 : a.tmps[70]? = some (.string h7_54) := by
        obtain ⟨h1, h2⟩ := hd 54 (by kernel_rfl)
        have h3 : vals 54 = .string h7_54 := h1
        rw [← h3]
        exact h2 70 rfl
      have e72 : a.tmps[72]? = some (.string h7_56) := by
        obtain ⟨h1, h2⟩ := hd 56 (by kernel_rfl)
        have h3 : vals 56 = .string h7_56 := h1
        rw [← h3]
        exact h2 72 rfl
      have e74 : a.tmps[74]? = some (.string h7_58) := by
        obtain ⟨h1, h2⟩ := hd 58 (by kernel_rfl)
        have h3 : vals 58 = .string h7_58 := h1
        rw [← h3]
        exact h2 74 rfl
      have e82 : a.tmps[82]? = some (.string (h7_66 y)) := by
        obtain ⟨h1, h2⟩ := hd 66 (by kernel_rfl)
        have h3 : vals 66 = .string (h7_66 y) := h1
        rw [← h3]
        exact h2 82 rfl
      refine ob_step (ops := #[]) rfl (Kd.R_lit_step Kd.string (w0 := w) w.heap.size 9 (by rfl) (N := 83) rfl (xs := (h7_L y)) (inner := [.string h7_2, .string h7_4, .string h7_9, .string h7_12, .string h7_15, .string h7_18, .string h7_21, .string h7_24, .string h7_29, .string h7_33, .string h7_35, .string h7_37, .string h7_39, .string h7_42, .string h7_47, .string h7_52, .string h7_54, .string h7_56, .string h7_58, .string (h7_66 y)]) (ok := fun _ => True) (okp := fun _ => True) ?hr ?hp (fun _ hk => hk) trivial (Below.refl _ _) (Nat.le_refl _) (by show 20 ≤ _; omega) ?_)
      (case hr => show _ = Result.ok (Next.value (Value.slice _ 20 20)) _; first | (go_simp; done) | (go_simp; rfl))
      (case hp => exact (Reps.one (show Kd.M Kd.string _ _ _ h7_2 [.string h7_2] from rfl) (Reps.one (show Kd.M Kd.string _ _ _ h7_4 [.string h7_4] from rfl) (Reps.one (show Kd.M Kd.string _ _ _ h7_9 [.string h7_9] from rfl) (Reps.one (show Kd.M Kd.string _ _ _ h7_12 [.string h7_12] from rfl) (Reps.one (show Kd.M Kd.string _ _ _ h7_15 [.string h7_15] from rfl) (Reps.one (show Kd.M Kd.string _ _ _ h7_18 [.string h7_18] from rfl) (Reps.one (show Kd.M Kd.string _ _ _ h7_21 [.string h7_21] from rfl) (Reps.one (show Kd.M Kd.string _ _ _ h7_24 [.string h7_24] from rfl) (Reps.one (show Kd.M Kd.string _ _ _ h7_29 [.string h7_29] from rfl) (Reps.one (show Kd.M Kd.string _ _ _ h7_33 [.string h7_33] from rfl) (Reps.one (show Kd.M Kd.string _ _ _ h7_35 [.string h7_35] from rfl) (Reps.one (show Kd.M Kd.string _ _ _ h7_37 [.string h7_37] from rfl) (Reps.one (show Kd.M Kd.string _ _ _ h7_39 [.string h7_39] from rfl) (Reps.one (show Kd.M Kd.string _ _ _ h7_42 [.string h7_42] from rfl) (Reps.one (show Kd.M Kd.string _ _ _ h7_47 [.string h7_47] from rfl) (Reps.one (show Kd.M Kd.string _ _ _ h7_52 [.string h7_52] from rfl) (Reps.one (show Kd.M Kd.string _ _ _ h7_54 [.string h7_54] from rfl) (Reps.one (show Kd.M Kd.string _ _ _ h7_56 [.string h7_56] from rfl) (Reps.one (show Kd.M Kd.string _ _ _ h7_58 [.string h7_58] from rfl) (Reps.one (show Kd.M Kd.string _ _ _ (h7_66 y) [.string (h7_66 y)] from rfl) (Reps.none _ _))))))))))))))))))))))
      intro v1 w1 ho hb_ hg_ hn_
      exact hK _ _ (Kd.R_lower ho (Nat.zero_le _)) hb_
    case o68 =>
      intro oi hoi a w vals hb hd hf K hK
      obtain rfl := Option.some.inj hoi
      obtain ⟨r83, q83⟩ := hd 67 (by kernel_rfl)
      have e83 := q83 83 rfl
      replace r83 : (PK.texts (h7_L y)).holds (vals 67) w := r83
      exact ob_move (.inr rfl) (ev e83) (hK _ _ r83 (Below.refl _ _))
  intro vals w6 hb6 hp
  have HB6 := Aside0.mk (below_step HB.out hb6)
  have hr : Kd.R Kd.string 9 w6 0 (fun _ => True) (vals 68) (h7_L y) := hp 68 (by decide)
  obtain ⟨A, c, hA⟩ := Kd.R_slice hr
  obtain ⟨A', c', hA', hlc, hC⟩ := Kd.R_reads hr
  clear hp hb6
  refine q_eq (t := #[.int .i64 which, .int .i64 x, undef, undef, .bool false, .string (⟨#[3, 3]⟩ : ByteArray), .string (⟨#[0, 10, 0, 4, 0, 2, 0, 29]⟩ : ByteArray), .string ((⟨#[0, 41, 0, 44, 0, 7, 0, 1, 116, 0, 0, 0, 0, 0, 33, 32]⟩ : ByteArray) ++ strOfNums [0, 0, 0, 0, 0, 0, 0, 0, 0, 0, 0, 0, 0, 0, 0, 0, 0, 0, 0, 0, 0, 0, 0, 0, 0, 0, 0, 0, 0, 0, 0, 0]), vals 68, undef, undef, .bool true, .bool false, v1, .string (strOfNums [0, 0, 0, 0, 0, 0, 0, 0, 0, 0, 0, 0, 0, 0, 0, 0, 0, 0, 0, 0, 0, 0, 0, 0, 0, 0, 0, 0, 0, 0, 0, 0]), .string ((⟨#[0, 41, 0, 44, 0, 7, 0, 1, 116, 0, 0, 0, 0, 0, 33, 32]⟩ : ByteArray) ++ strOfNums [0, 0, 0, 0, 0, 0, 0, 0, 0, 0, 0, 0, 0, 0, 0, 0, 0, 0, 0, 0, 0, 0, 0, 0, 0, 0, 0, 0, 0, 0, 0, 0]), vals 0, vals 1, vals 2, vals 3, vals 4, vals 5, vals 6, vals 7, vals 8, vals 9, vals 10, vals 11, vals 12, vals 13, vals 14, vals 15, vals 16, vals 17, vals 18, vals 19, vals 20, vals 21, vals 22, vals 23, vals 24, vals 25, vals 26, vals 27, vals 28, vals 29, vals 30, vals 31, vals 32, vals 33, vals 34, vals 35, vals 36, vals 37, vals 38, vals 39, vals 40, vals 41, vals 42, vals 43, vals 44, vals 45, vals 46, vals 47, vals 48, vals 49, vals 50, vals 51, vals 52, vals 53, vals 54, vals 55, vals 56, vals 57, vals 58, vals 59, vals 60, vals 61, vals 62, vals 63, vals 64, vals 65, vals 66, vals 67, undef, undef, undef, undef, undef, undef, undef, undef, undef, undef, undef, undef, undef, undef, undef]) (by kernel_rfl) ?_
  rw [hA']
  have HC := Aside0.mk hC
  clear hr hC hA hA' A c

  have z1 : IntKind.i64.wrap (u % 20) = u % 20 := IntWalk.i64_in _ (by omega)
  have hmod0 : 0 ≤ u % 20 := by omega
  have hu2 := HU.out
  have hk2 := HKK.out
  go_wp2_with (first
    | ((with_reducible refine gate_dst (N := 84) rfl ?_); refine Kd.R_lit (Kd.int .i64) _ 3 ?hg (N := 84) ?hd (xs := h7_W) (inner := [.int .i64 0, .int .i64 1702, .int .i64 1700, .int .i64 1700, .int .i64 1700, .int .i64 1702, .int .i64 1702, .int .i64 1702, .int .i64 1702, .int .i64 1700, .int .i64 1700, .int .i64 1700, .int .i64 1700, .int .i64 0, .int .i64 1702, .int .i64 0, .int .i64 1700, .int .i64 1700, .int .i64 1700, .int .i64 0]) (ok := fun _ => True) (okp := fun _ => True) ?hr ?hp (fun _ hk => hk) trivial (Below.refl _ _) (Nat.le_refl _) (by show 20 ≤ _; omega) ?_; (case hd => rfl); (case hg => rfl); (case hr => show _ = Result.ok (Next.value (Value.slice _ 20 20)) _; first | (go_simp; done) | (go_simp; rfl)); (case hp => exact (Reps.one (show Kd.M (Kd.int .i64) _ _ _ 0 [.int .i64 0] from rfl) (Reps.one (show Kd.M (Kd.int .i64) _ _ _ 1702 [.int .i64 1702] from rfl) (Reps.one (show Kd.M (Kd.int .i64) _ _ _ 1700 [.int .i64 1700] from rfl) (Reps.one (show Kd.M (Kd.int .i64) _ _ _ 1700 [.int .i64 1700] from rfl) (Reps.one (show Kd.M (Kd.int .i64) _ _ _ 1700 [.int .i64 1700] from rfl) (Reps.one (show Kd.M (Kd.int .i64) _ _ _ 1702 [.int .i64 1702] from rfl) (Reps.one (show Kd.M (Kd.int .i64) _ _ _ 1702 [.int .i64 1702] from rfl) (Reps.one (show Kd.M (Kd.int .i64) _ _ _ 1702 [.int .i64 1702] from rfl) (Reps.one (show Kd.M (Kd.int .i64) _ _ _ 1702 [.int .i64 1702] from rfl) (Reps.one (show Kd.M (Kd.int .i64) _ _ _ 1700 [.int .i64 1700] from rfl) (Reps.one (show Kd.M (Kd.int .i64) _ _ _ 1700 [.int .i64 1700] from rfl) (Reps.one (show Kd.M (Kd.int .i64) _ _ _ 1700 [.int .i64 1700] from rfl) (Reps.one (show Kd.M (Kd.int .i64) _ _ _ 1700 [.int .i64 1700] from rfl) (Reps.one (show Kd.M (Kd.int .i64) _ _ _ 0 [.int .i64 0] from rfl) (Reps.one (show Kd.M (Kd.int .i64) _ _ _ 1702 [.int .i64 1702] from rfl) (Reps.one (show Kd.M (Kd.int .i64) _ _ _ 0 [.int .i64 0] from rfl) (Reps.one (show Kd.M (Kd.int .i64) _ _ _ 1700 [.int .i64 1700] from rfl) (Reps.one (show Kd.M (Kd.int .i64) _ _ _ 1700 [.int .i64 1700] from rfl) (Reps.one (show Kd.M (Kd.int .i64) _ _ _ 1700 [.int .i64 1700] from rfl) (Reps.one (show Kd.M (Kd.int .i64) _ _ _ 0 [.int .i64 0] from rfl) (Reps.none _ _)))))))))))))))))))))); intro v9 w9 ho9 hb9 hg9 hn9; clear hg9 hn9; obtain ⟨A9, c9, h9, hl9, C9⟩ := Kd.R_reads ho9; subst h9; have HCW := Aside0.mk C9; have n_ := Aside0.mk (Kd.C_below HC.out hb9); clear HC; have HC := n_; clear n_; have n_ := Aside0.mk (below_step HB6.out hb9); clear HB6; have HB6 := n_; clear n_ ho9 hb9 C9))
  clear z1 hmod0 hu2 hk2
  have q0 : k < (((h7_L y)).length : Int) := by show k < ((20 : Nat) : Int); omega
  have q1 : k < (h7_W.length : Int) := by show k < ((20 : Nat) : Int); omega
  obtain ⟨kn, rfl⟩ := Int.eq_ofNat_of_zero_le hk0
  have hkn : kn < 20 := by omega
  obtain ⟨hok, hsz⟩ := h7_ok y hy0 hy1 kn hkn
  obtain ⟨ad, e0, hx0⟩ := Kd.at_string HC.out (kn : Int) hk0 q0
  cases e0
  obtain ⟨ad2, e0, hx1⟩ := Kd.at_int HCW.out (kn : Int) hk0 q1
  cases e0
  obtain ⟨s0, hs0⟩ : ∃ s0, rdOf ByteArray.empty ((h7_L y)) (kn : Int) = s0 := ⟨_, rfl⟩
  obtain ⟨n0, hn0⟩ : ∃ n0, rd h7_W (kn : Int) = n0 := ⟨_, rfl⟩
  have hok' : (getM s0).2 = n0 := by rw [← hs0, ← hn0]; exact hok
  have hsz' : s0.size ≤ 65536 := by rw [← hs0]; exact hsz
  have HOK := Aside0.mk hok'
  have HSZ := Aside0.mk hsz'
  have HS0 := Aside0.mk hs0
  have HN0 := Aside0.mk hn0
  have HP0 := Aside0.mk hk0
  have HQ0 := Aside0.mk q0
  have HQ1 := Aside0.mk q1
  have P0 := eq_true hk0
  have Q0 := eq_true q0
  have Q1 := eq_true q1
  clear hok hsz hok' hsz' hs0 hn0 hk0 q0 q1 hx0 hx1 hk1 hkn
  refine start_ (n := 11) (S := fun w' => Below w9.heap.size w9 w') (ds := []) #[false, false, false, false, false, false, false, false, false, false, false] (by kernel_rfl) rfl rfl (Below.refl w9.heap.size w9).drew (fun hHeld => ?_)
  have HS := Aside0.mk (Below.refl w9.heap.size w9).drew
  generalize w9.drew = w10 at HS hHeld ⊢
  refine pure_ (i := 0) (N := (some 89)) (v := ?_) (a' := ?_) #[true, false, false, false, false, false, false, false, false, false, false] rfl rfl (by kernel_rfl) (fun _ _ _ h => h) (Or.inl ⟨by rfl, ?_⟩) ?_ ?_
  rotate_left
  · intro w'
    go_simp
    with_reducible rfl
  rotate_left
  · simp only [Act.put, List.setIfInBounds_toArray, List.set_cons_zero, List.set_cons_succ]
    rfl
  refine pure_ (i := 1) (N := (some 90)) (v := ?_) (a' := ?_) #[true, true, false, false, false, false, false, false, false, false, false] rfl rfl (by kernel_rfl) (fun _ _ _ h => h) (Or.inl ⟨by rfl, ?_⟩) ?_ ?_
  rotate_left
  · intro w'
    go_simp
    with_reducible rfl
  rotate_left
  · simp only [Act.put, List.setIfInBounds_toArray, List.set_cons_zero, List.set_cons_succ]
    rfl
  refine pure_ (i := 2) (N := (some 91)) (v := ?_) (a' := ?_) #[true, true, true, false, false, false, false, false, false, false, false] rfl rfl (by kernel_rfl) (fun _ _ _ h => h) (Or.inl ⟨by rfl, ?_⟩) ?_ ?_
  rotate_left
  · intro w'
    go_simp
    with_reducible rfl
  rotate_left
  · simp only [Act.put, List.setIfInBounds_toArray, List.set_cons_zero, List.set_cons_succ]
    rfl
  refine take_ (i := 3) (N := (some 92)) (v := ?_) (a' := ?_) #[true, true, true, true, false, false, false, false, false, false, false] rfl rfl (by kernel_rfl) (fun _ _ _ h => h) (Or.inl ⟨by rfl, ?_⟩) hHeld ?_ ?_
  rotate_left
  · rintro w' hS
    obtain ⟨ad', e', hx'⟩ := Kd.at_string (Kd.C_below HC.out hS) (kn : Int) HP0.out HQ0.out
    cases e'
    rw [HS0.out, Int.toNat_natCast] at hx'
    go_simp
    with_reducible rfl
  rotate_left
  · simp only [Act.put, List.setIfInBounds_toArray, List.set_cons_zero, List.set_cons_succ]
    rfl
  refine pure_ (i := 5) (N := (some 94)) (v := ?_) (a' := ?_) #[true, true, true, true, false, true, false, false, false, false, false] rfl rfl (by kernel_rfl) (fun _ _ _ h => h) (Or.inl ⟨by rfl, ?_⟩) ?_ ?_
  rotate_left
  · intro w'
    go_simp
    with_reducible rfl
  rotate_left
  · simp only [Act.put, List.setIfInBounds_toArray, List.set_cons_zero, List.set_cons_succ]
    rfl
  refine pure_ (i := 6) (N := (some 95)) (v := ?_) (a' := ?_) #[true, true, true, true, false, true, true, false, false, false, false] rfl rfl (by kernel_rfl) (fun _ _ _ h => h) (Or.inl ⟨by rfl, ?_⟩) ?_ ?_
  rotate_left
  · intro w'
    go_simp
    with_reducible rfl
  rotate_left
  · simp only [Act.put, List.setIfInBounds_toArray, List.set_cons_zero, List.set_cons_succ]
    rfl
  refine pure_ (i := 7) (N := (some 96)) (v := ?_) (a' := ?_) #[true, true, true, true, false, true, true, true, false, false, false] rfl rfl (by kernel_rfl) (fun _ _ _ h => h) (Or.inl ⟨by rfl, ?_⟩) ?_ ?_
  rotate_left
  · intro w'
    go_simp
    with_reducible rfl
  rotate_left
  · simp only [Act.put, List.setIfInBounds_toArray, List.set_cons_zero, List.set_cons_succ]
    rfl
  refine take_ (i := 8) (N := (some 97)) (v := ?_) (a' := ?_) #[true, true, true, true, false, true, true, true, true, false, false] rfl rfl (by kernel_rfl) (fun _ _ _ h => h) (Or.inl ⟨by rfl, ?_⟩) hHeld ?_ ?_
  rotate_left
  · rintro w' hS
    obtain ⟨ad', e', hx'⟩ := Kd.at_int (Kd.C_below HCW.out hS) (kn : Int) HP0.out HQ1.out
    cases e'
    rw [HN0.out, Int.toNat_natCast] at hx'
    go_simp
    with_reducible rfl
  rotate_left
  · simp only [Act.put, List.setIfInBounds_toArray, List.set_cons_zero, List.set_cons_succ]
    rfl
  refine one_ (i := 4) (N := (some 93)) #[true, true, true, true, true, true, true, true, true, false, false] rfl rfl (by kernel_rfl) (by decide) (fun K hK => ?_)
  refine goes_ (f := 27) Try.func27 (by kernel_rfl) rfl #[.string s0] (by rfl) rfl rfl (by (try simp only [List.map_toArray, List.map_cons, List.map_nil]); first | done | rfl) ?_
  refine (got_c s0 _ (Nat.le_trans HSZ.out (by omega))).mono ?_
  rintro e w11 ⟨rfl, b_⟩
  refine ⟨_, rfl, ?_⟩
  have HS2 := Aside0.mk (below_step HS.out b_)
  clear b_
  refine hK.out _ _ (HS2.out) (fun hHeld => ?_)
  clear hK K
  refine norm_ (a' := ?_) ?_ ?_
  rotate_left
  · show Act.put _ (some 93) _ = _
    simp only [Act.put, List.setIfInBounds_toArray, List.set_cons_zero, List.set_cons_succ]
    rfl
  refine pure_ (i := 9) (N := (some 98)) (v := ?_) (a' := ?_) #[true, true, true, true, true, true, true, true, true, true, false] rfl rfl (by kernel_rfl) (fun _ _ _ h => h) (Or.inl ⟨by rfl, ?_⟩) ?_ ?_
  rotate_left
  · intro w'
    go_simp
    with_reducible rfl
  rotate_left
  · simp only [Act.put, List.setIfInBounds_toArray, List.set_cons_zero, List.set_cons_succ]
    rfl
  refine pure_ (i := 10) (N := (some 4)) (v := ?_) (a' := ?_) #[true, true, true, true, true, true, true, true, true, true, true] rfl rfl (by kernel_rfl) (fun _ _ _ h => h) (Or.inl ⟨by rfl, ?_⟩) ?_ ?_
  rotate_left
  · intro w'
    go_simp
    with_reducible rfl
  rotate_left
  · simp only [Act.put, List.setIfInBounds_toArray, List.set_cons_zero, List.set_cons_succ]
    rfl
  refine done_ (by kernel_rfl) ?_
  go_wp2
  go_ret
  exact ⟨by rw [HOK.out]; simp, below_step HB6.out HS2.out⟩
end Go.Proofs.Ytlkebjkpmiehcaa.Ms
end
