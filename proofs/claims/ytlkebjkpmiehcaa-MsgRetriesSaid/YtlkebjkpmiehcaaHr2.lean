/- Words, contracts and lemmas that the claim needs, in the order in which they build. Conditions: each lemma's own. -/
import Derived.IntWalk
import Derived.Test.YtlkebjkpmiehcaaHr1
section
namespace Go.Proofs.Ytlkebjkpmiehcaa.E
open Go.RowKit Go.Proofs.YtlkebjkpmiehcaaW.PrintWords Go.Proofs.YtlkebjkpmiehcaaW.PrintLast Go.Proofs.YtlkebjkpmiehcaaW.PrintMore
attribute [local go_sem] max2_int min2_int max_two min_two max_three min_three max_four min_four   
set_option linter.unusedVariables false
set_option linter.unusedSimpArgs false
def wire_Bytes.f (a0 : Int) (a1 : Int) : Option (ByteArray) := if a1 = 4 then (if ([] : List Int).length < 140737488355328 then ((some (([] : List Int) ++ [(a0 / 16777216) % 256] : List Int)).bind fun y128 => (if y128.length < 140737488355328 then ((some (y128 ++ [(a0 / 65536) % 256] : List Int)).bind fun y131 => (if y131.length < 140737488355328 then ((some (y131 ++ [(a0 / 256) % 256] : List Int)).bind fun y134 => (if y134.length < 140737488355328 then (some (strOfNums (y134 ++ [(a0) % 256]))) else (none))) else (none))) else (none))) else (none)) else (if a1 = 3 then (if ([] : List Int).length < 140737488355328 then ((some (([] : List Int) ++ [(a0 / 65536) % 256] : List Int)).bind fun y140 => (if y140.length < 140737488355328 then ((some (y140 ++ [(a0 / 256) % 256] : List Int)).bind fun y143 => (if y143.length < 140737488355328 then (some (strOfNums (y143 ++ [(a0) % 256]))) else (none))) else (none))) else (none)) else (if a1 = 2 then (if ([] : List Int).length < 140737488355328 then ((some (([] : List Int) ++ [(a0 / 256) % 256] : List Int)).bind fun y149 => (if y149.length < 140737488355328 then (some (strOfNums (y149 ++ [(a0) % 256]))) else (none))) else (none)) else (if ([] : List Int).length < 140737488355328 then (some (strOfNums (([] : List Int) ++ [(a0) % 256]))) else (none))))
set_option maxHeartbeats 8000000 in
set_option maxRecDepth 100000 in
theorem wire_Bytes.calls (a0 : Int) (a1 : Int) (r : ByteArray) (w : World) (h : wire_Bytes.f a0 a1 = some r) :
    Calls Try.prog 47 #[.int .i64 a0, .int .i64 a1] w fun e w' => e = .returned (.string r) ∧ Below w.heap.size w w' := by
  have HB := Aside0.mk (Below.refl w.heap.size w)
  have H : (if a1 = 4 then (if ([] : List Int).length < 140737488355328 then ((some (([] : List Int) ++ [(a0 / 16777216) % 256] : List Int)).bind fun y128 => (if y128.length < 140737488355328 then ((some (y128 ++ [(a0 / 65536) % 256] : List Int)).bind fun y131 => (if y131.length < 140737488355328 then ((some (y131 ++ [(a0 / 256) % 256] : List Int)).bind fun y134 => (if y134.length < 140737488355328 then (some (strOfNums (y134 ++ [(a0) % 256]))) else (none))) else (none))) else (none))) else (none)) else (if a1 = 3 then (if ([] : List Int).length < 140737488355328 then ((some (([] : List Int) ++ [(a0 / 65536) % 256] : List Int)).bind fun y140 => (if y140.length < 140737488355328 then ((some (y140 ++ [(a0 / 256) % 256] : List Int)).bind fun y143 => (if y143.length < 140737488355328 then (some (strOfNums (y143 ++ [(a0) % 256]))) else (none))) else (none))) else (none)) else (if a1 = 2 then (if ([] : List Int).length < 140737488355328 then ((some (([] : List Int) ++ [(a0 / 256) % 256] : List Int)).bind fun y149 => (if y149.length < 140737488355328 then (some (strOfNums (y149 ++ [(a0) % 256]))) else (none))) else (none)) else (if ([] : List Int).length < 140737488355328 then (some (strOfNums (([] : List Int) ++ [(a0) % 256]))) else (none))))) = some r := h
  clear h
  by_cases c3 : a1 = 4
  · rw [if_pos c3] at H
    have c3b0 : (a1 == 4) = true := beq_iff_eq.mpr c3
    have c3b1 : (a1 != 4) = false := bne_eq_false_iff_eq.mpr c3
    clear c3
    by_cases c4 : ([] : List Int).length < 140737488355328
    · rw [if_pos c4] at H
      have LMc4 := Aside0.mk c4
      clear c4
      obtain ⟨y128, hy128⟩ : ∃ y_ : List Int, y_ = (([] : List Int) ++ [(a0 / 16777216) % 256]) := ⟨_, rfl⟩
      replace H : (if y128.length < 140737488355328 then ((some (y128 ++ [(a0 / 65536) % 256] : List Int)).bind fun y131 => (if y131.length < 140737488355328 then ((some (y131 ++ [(a0 / 256) % 256] : List Int)).bind fun y134 => (if y134.length < 140737488355328 then (some (strOfNums (y134 ++ [(a0) % 256]))) else (none))) else (none))) else (none)) = some r := by first | (rw [hy128]; with_reducible exact H) | (have H2_ := (Option.bind_some _ _).symm.trans H; rw [hy128]; with_reducible exact H2_) | (have H2_ := (Option.bind_some _ _).symm.trans H; with_reducible exact H2_) | with_reducible exact H | (rw [hy128]; exact H) | exact H
      have Ny128 := Aside0.mk hy128
      clear hy128
      by_cases c5 : y128.length < 140737488355328
      · rw [if_pos c5] at H
        have LMc5 := Aside0.mk c5
        clear c5
        obtain ⟨y131, hy131⟩ : ∃ y_ : List Int, y_ = (y128 ++ [(a0 / 65536) % 256]) := ⟨_, rfl⟩
        replace H : (if y131.length < 140737488355328 then ((some (y131 ++ [(a0 / 256) % 256] : List Int)).bind fun y134 => (if y134.length < 140737488355328 then (some (strOfNums (y134 ++ [(a0) % 256]))) else (none))) else (none)) = some r := by first | (rw [hy131]; with_reducible exact H) | (have H2_ := (Option.bind_some _ _).symm.trans H; rw [hy131]; with_reducible exact H2_) | (have H2_ := (Option.bind_some _ _).symm.trans H; with_reducible exact H2_) | with_reducible exact H | (rw [hy131]; exact H) | exact H
        have Ny131 := Aside0.mk hy131
        clear hy131
        by_cases c6 : y131.length < 140737488355328
        · rw [if_pos c6] at H
          have LMc6 := Aside0.mk c6
          clear c6
          obtain ⟨y134, hy134⟩ : ∃ y_ : List Int, y_ = (y131 ++ [(a0 / 256) % 256]) := ⟨_, rfl⟩
          replace H : (if y134.length < 140737488355328 then (some (strOfNums (y134 ++ [(a0) % 256]))) else (none)) = some r := by first | (rw [hy134]; with_reducible exact H) | (have H2_ := (Option.bind_some _ _).symm.trans H; rw [hy134]; with_reducible exact H2_) | (have H2_ := (Option.bind_some _ _).symm.trans H; with_reducible exact H2_) | with_reducible exact H | (rw [hy134]; exact H) | exact H
          have Ny134 := Aside0.mk hy134
          clear hy134
          by_cases c7 : y134.length < 140737488355328
          · rw [if_pos c7] at H
            have LMc7 := Aside0.mk c7
            clear c7
            obtain ⟨y137, hy137⟩ : ∃ y_ : List Int, y_ = (y134 ++ [(a0) % 256]) := ⟨_, rfl⟩
            replace H : (some (strOfNums y137)) = some r := by first | (rw [hy137]; with_reducible exact H) | (have H2_ := (Option.bind_some _ _).symm.trans H; rw [hy137]; with_reducible exact H2_) | (have H2_ := (Option.bind_some _ _).symm.trans H; with_reducible exact H2_) | with_reducible exact H | (rw [hy137]; exact H) | exact H
            have Ny137 := Aside0.mk hy137
            clear hy137
            obtain rfl := Option.some.inj H
            go_enter Try.func47, Try.ntmps47
            go_wp2_with (first | ((with_reducible refine gate_builtin (b := .append) (xs := #[.tmp 13, .tmp 17]) rfl ?_); at_builtin; refine Kd.R_append (Kd.int .u8) (w0 := w) w.heap.size rfl (.tmp 13) (.tmp 17) 39 5 (.int .u8 0) 1 rfl Try.underlying39 info5 rfl (by decide) (by omega) (.slice none 0 0) ([] : List Int) ((a0 / 16777216) % 256) [.int .u8 ((a0 / 16777216) % 256)] (fun _ => True) (fun _ => False) rfl rfl ?aP (fun _ hk => hk.elim) ?aF ?aO ?aB ?aS ?aL ?_; (case aP => exact rfl); (case aB => exact (by repeat (first | (with_reducible first | exact HB.out | apply below_alloc | apply pw_below_drewN | apply below_drew1) | exact HB.out))); (case aF => exact (fun _ _ => trivial)); (case aO => exact ((Kd.R_nil _ _ _ _ (fun _ => True)))); (case aS => exact (below_size (by repeat (first | (with_reducible first | exact HB.out | apply below_alloc | apply pw_below_drewN | apply below_drew1) | exact HB.out)))); (case aL => have := LMc4.out; omega); intro v129 w8 ho hb hg hat; rw [← Ny128.out] at ho; have n0_ := Aside0.mk (hb); have n1_ := Aside0.mk (ho); clear HB; have HB := n0_; have HO130 := n1_; clear n0_ n1_; clear ho hb hg hat) | ((with_reducible refine gate_builtin (b := .append) (xs := #[.tmp 19, .tmp 23]) rfl ?_); at_builtin; refine Kd.R_append (Kd.int .u8) (w0 := w) w.heap.size rfl (.tmp 19) (.tmp 23) 39 5 (.int .u8 0) 1 rfl Try.underlying39 info5 rfl (by decide) (by omega) v129 y128 ((a0 / 65536) % 256) [.int .u8 ((a0 / 65536) % 256)] (fun _ => True) (fun _ => False) rfl rfl ?aP (fun _ hk => hk.elim) ?aF ?aO ?aB ?aS ?aL ?_; (case aP => exact rfl); (case aB => exact (by repeat (first | (with_reducible first | exact HB.out | apply below_alloc | apply pw_below_drewN | apply below_drew1) | exact HB.out))); (case aF => exact (fun _ _ => trivial)); (case aO => exact (by (with_reducible repeat (first | apply Kd.R_alloc | apply Kd.R_drewN | apply Kd.R_drew)); exact HO130.out)); (case aS => exact (below_size (by repeat (first | (with_reducible first | exact HB.out | apply below_alloc | apply pw_below_drewN | apply below_drew1) | exact HB.out)))); (case aL => have := LMc5.out; omega); intro v132 w9 ho hb hg hat; rw [← Ny131.out] at ho; have n0_ := Aside0.mk (hb); have n1_ := Aside0.mk (ho); clear HB; clear HO130; have HB := n0_; have HO133 := n1_; clear n0_ n1_; clear ho hb hg hat) | ((with_reducible refine gate_builtin (b := .append) (xs := #[.tmp 25, .tmp 29]) rfl ?_); at_builtin; refine Kd.R_append (Kd.int .u8) (w0 := w) w.heap.size rfl (.tmp 25) (.tmp 29) 39 5 (.int .u8 0) 1 rfl Try.underlying39 info5 rfl (by decide) (by omega) v132 y131 ((a0 / 256) % 256) [.int .u8 ((a0 / 256) % 256)] (fun _ => True) (fun _ => False) rfl rfl ?aP (fun _ hk => hk.elim) ?aF ?aO ?aB ?aS ?aL ?_; (case aP => exact rfl); (case aB => exact (by repeat (first | (with_reducible first | exact HB.out | apply below_alloc | apply pw_below_drewN | apply below_drew1) | exact HB.out))); (case aF => exact (fun _ _ => trivial)); (case aO => exact (by (with_reducible repeat (first | apply Kd.R_alloc | apply Kd.R_drewN | apply Kd.R_drew)); exact HO133.out)); (case aS => exact (below_size (by repeat (first | (with_reducible first | exact HB.out | apply below_alloc | apply pw_below_drewN | apply below_drew1) | exact HB.out)))); (case aL => have := LMc6.out; omega); intro v135 w10 ho hb hg hat; rw [← Ny134.out] at ho; have n0_ := Aside0.mk (hb); have n1_ := Aside0.mk (ho); clear HB; clear HO133; have HB := n0_; have HO136 := n1_; clear n0_ n1_; clear ho hb hg hat) | ((with_reducible refine gate_builtin (b := .append) (xs := #[.tmp 31, .tmp 34]) rfl ?_); at_builtin; refine Kd.R_append (Kd.int .u8) (w0 := w) w.heap.size rfl (.tmp 31) (.tmp 34) 39 5 (.int .u8 0) 1 rfl Try.underlying39 info5 rfl (by decide) (by omega) v135 y134 ((a0) % 256) [.int .u8 ((a0) % 256)] (fun _ => True) (fun _ => False) rfl rfl ?aP (fun _ hk => hk.elim) ?aF ?aO ?aB ?aS ?aL ?_; (case aP => exact rfl); (case aB => exact (by repeat (first | (with_reducible first | exact HB.out | apply below_alloc | apply pw_below_drewN | apply below_drew1) | exact HB.out))); (case aF => exact (fun _ _ => trivial)); (case aO => exact (by (with_reducible repeat (first | apply Kd.R_alloc | apply Kd.R_drewN | apply Kd.R_drew)); exact HO136.out)); (case aS => exact (below_size (by repeat (first | (with_reducible first | exact HB.out | apply below_alloc | apply pw_below_drewN | apply below_drew1) | exact HB.out)))); (case aL => have := LMc7.out; omega); intro v138 w11 ho hb hg hat; rw [← Ny137.out] at ho; have n0_ := Aside0.mk (hb); have n1_ := Aside0.mk (ho); clear HB; clear HO136; have HB := n0_; have HO139 := n1_; clear n0_ n1_; clear ho hb hg hat; have hcv12 := own_string (P := Try.prog) Try.underlying39 Try.underlying5 Try.underlying9 (Kd.own_of_R HO139.out)))
            go_ret
            exact ⟨by first | rfl | (simp [errW_none, errW_some] <;> rfl) | (simp [*, errW_none, errW_some] <;> rfl), by repeat (first | (with_reducible first | exact HB.out | apply below_alloc | apply pw_below_drewN | apply below_drew1) | exact HB.out)⟩
          · rw [if_neg c7] at H
            exact absurd H (by simp)
        · rw [if_neg c6] at H
          exact absurd H (by simp)
      · rw [if_neg c5] at H
        exact absurd H (by simp)
    · rw [if_neg c4] at H
      exact absurd H (by simp)
  · rw [if_neg c3] at H
    have c3b0 : (a1 == 4) = false := beq_eq_false_iff_ne.mpr c3
    have c3b1 : (a1 != 4) = true := bne_iff_ne.mpr c3
    by_cases c13 : a1 = 3
    · rw [if_pos c13] at H
      have c13b0 : (a1 == 3) = true := beq_iff_eq.mpr c13
      have c13b1 : (a1 != 3) = false := bne_eq_false_iff_eq.mpr c13
      clear c13
      by_cases c14 : ([] : List Int).length < 140737488355328
      · rw [if_pos c14] at H
        have LMc14 := Aside0.mk c14
        clear c14
        obtain ⟨y140, hy140⟩ : ∃ y_ : List Int, y_ = (([] : List Int) ++ [(a0 / 65536) % 256]) := ⟨_, rfl⟩
        replace H : (if y140.length < 140737488355328 then ((some (y140 ++ [(a0 / 256) % 256] : List Int)).bind fun y143 => (if y143.length < 140737488355328 then (some (strOfNums (y143 ++ [(a0) % 256]))) else (none))) else (none)) = some r := by first | (rw [hy140]; with_reducible exact H) | (have H2_ := (Option.bind_some _ _).symm.trans H; rw [hy140]; with_reducible exact H2_) | (have H2_ := (Option.bind_some _ _).symm.trans H; with_reducible exact H2_) | with_reducible exact H | (rw [hy140]; exact H) | exact H
        have Ny140 := Aside0.mk hy140
        clear hy140
        by_cases c15 : y140.length < 140737488355328
        · rw [if_pos c15] at H
          have LMc15 := Aside0.mk c15
          clear c15
          obtain ⟨y143, hy143⟩ : ∃ y_ : List Int, y_ = (y140 ++ [(a0 / 256) % 256]) := ⟨_, rfl⟩
          replace H : (if y143.length < 140737488355328 then (some (strOfNums (y143 ++ [(a0) % 256]))) else (none)) = some r := by first | (rw [hy143]; with_reducible exact H) | (have H2_ := (Option.bind_some _ _).symm.trans H; rw [hy143]; with_reducible exact H2_) | (have H2_ := (Option.bind_some _ _).symm.trans H; with_reducible exact H2_) | with_reducible exact H | (rw [hy143]; exact H) | exact H
          have Ny143 := Aside0.mk hy143
          clear hy143
          by_cases c16 : y143.length < 140737488355328
          · rw [if_pos c16] at H
            have LMc16 := Aside0.mk c16
            clear c16
            obtain ⟨y146, hy146⟩ : ∃ y_ : List Int, y_ = (y143 ++ [(a0) % 256]) := ⟨_, rfl⟩
            replace H : (some (strOfNums y146)) = some r := by first | (rw [hy146]; with_reducible exact H) | (have H2_ := (Option.bind_some _ _).symm.trans H; rw [hy146]; with_reducible exact H2_) | (have H2_ := (Option.bind_some _ _).symm.trans H; with_reducible exact H2_) | with_reducible exact H | (rw [hy146]; exact H) | exact H
            have Ny146 := Aside0.mk hy146
            clear hy146
            obtain rfl := Option.some.inj H
            go_enter Try.func47, Try.ntmps47
            go_wp2_with (first | ((with_reducible refine gate_builtin (b := .append) (xs := #[.tmp 19, .tmp 23]) rfl ?_); at_builtin; refine Kd.R_append (Kd.int .u8) (w0 := w) w.heap.size rfl (.tmp 19) (.tmp 23) 39 5 (.int .u8 0) 1 rfl Try.underlying39 info5 rfl (by decide) (by omega) (.slice none 0 0) ([] : List Int) ((a0 / 65536) % 256) [.int .u8 ((a0 / 65536) % 256)] (fun _ => True) (fun _ => False) rfl rfl ?aP (fun _ hk => hk.elim) ?aF ?aO ?aB ?aS ?aL ?_; (case aP => exact rfl); (case aB => exact (by repeat (first | (with_reducible first | exact HB.out | apply below_alloc | apply pw_below_drewN | apply below_drew1) | exact HB.out))); (case aF => exact (fun _ _ => trivial)); (case aO => exact ((Kd.R_nil _ _ _ _ (fun _ => True)))); (case aS => exact (below_size (by repeat (first | (with_reducible first | exact HB.out | apply below_alloc | apply pw_below_drewN | apply below_drew1) | exact HB.out)))); (case aL => have := LMc14.out; omega); intro v141 w17 ho hb hg hat; rw [← Ny140.out] at ho; have n0_ := Aside0.mk (hb); have n1_ := Aside0.mk (ho); clear HB; have HB := n0_; have HO142 := n1_; clear n0_ n1_; clear ho hb hg hat) | ((with_reducible refine gate_builtin (b := .append) (xs := #[.tmp 25, .tmp 29]) rfl ?_); at_builtin; refine Kd.R_append (Kd.int .u8) (w0 := w) w.heap.size rfl (.tmp 25) (.tmp 29) 39 5 (.int .u8 0) 1 rfl Try.underlying39 info5 rfl (by decide) (by omega) v141 y140 ((a0 / 256) % 256) [.int .u8 ((a0 / 256) % 256)] (fun _ => True) (fun _ => False) rfl rfl ?aP (fun _ hk => hk.elim) ?aF ?aO ?aB ?aS ?aL ?_; (case aP => exact rfl); (case aB => exact (by repeat (first | (with_reducible first | exact HB.out | apply below_alloc | apply pw_below_drewN | apply below_drew1) | exact HB.out))); (case aF => exact (fun _ _ => trivial)); (case aO => exact (by (with_reducible repeat (first | apply Kd.R_alloc | apply Kd.R_drewN | apply Kd.R_drew)); exact HO142.out)); (case aS => exact (below_size (by repeat (first | (with_reducible first | exact HB.out | apply below_alloc | apply pw_below_drewN | apply below_drew1) | exact HB.out)))); (case aL => have := LMc15.out; omega); intro v144 w18 ho hb hg hat; rw [← Ny143.out] at ho; have n0_ := Aside0.mk (hb); have n1_ := Aside0.mk (ho); clear HB; clear HO142; have HB := n0_; have HO145 := n1_; clear n0_ n1_; clear ho hb hg hat) | ((with_reducible refine gate_builtin (b := .append) (xs := #[.tmp 31, .tmp 34]) rfl ?_); at_builtin; refine Kd.R_append (Kd.int .u8) (w0 := w) w.heap.size rfl (.tmp 31) (.tmp 34) 39 5 (.int .u8 0) 1 rfl Try.underlying39 info5 rfl (by decide) (by omega) v144 y143 ((a0) % 256) [.int .u8 ((a0) % 256)] (fun _ => True) (fun _ => False) rfl rfl ?aP (fun _ hk => hk.elim) ?aF ?aO ?aB ?aS ?aL ?_; (case aP => exact rfl); (case aB => exact (by repeat (first | (with_reducible first | exact HB.out | apply below_alloc | apply pw_below_drewN | apply below_drew1) | exact HB.out))); (case aF => exact (fun _ _ => trivial)); (case aO => exact (by (with_reducible repeat (first | apply Kd.R_alloc | apply Kd.R_drewN | apply Kd.R_drew)); exact HO145.out)); (case aS => exact (below_size (by repeat (first | (with_reducible first | exact HB.out | apply below_alloc | apply pw_below_drewN | apply below_drew1) | exact HB.out)))); (case aL => have := LMc16.out; omega); intro v147 w19 ho hb hg hat; rw [← Ny146.out] at ho; have n0_ := Aside0.mk (hb); have n1_ := Aside0.mk (ho); clear HB; clear HO145; have HB := n0_; have HO148 := n1_; clear n0_ n1_; clear ho hb hg hat; have hcv20 := own_string (P := Try.prog) Try.underlying39 Try.underlying5 Try.underlying9 (Kd.own_of_R HO148.out)))
            go_ret
            exact ⟨by first | rfl | (simp [errW_none, errW_some] <;> rfl) | (simp [*, errW_none, errW_some] <;> rfl), by repeat (first | (with_reducible first | exact HB.out | apply below_alloc | apply pw_below_drewN | apply below_drew1) | exact HB.out)⟩
          · rw [if_neg c16] at H
            exact absurd H (by simp)
        · rw [if_neg c15] at H
          exact absurd H (by simp)
      · rw [if_neg c14] at H
        exact absurd H (by simp)
    · rw [if_neg c13] at H
      have c13b0 : (a1 == 3) = false := beq_eq_false_iff_ne.mpr c13
      have c13b1 : (a1 != 3) = true := bne_iff_ne.mpr c13
      by_cases c21 : a1 = 2
      · rw [if_pos c21] at H
        have c21b0 : (a1 == 2) = true := beq_iff_eq.mpr c21
        have c21b1 : (a1 != 2) = false := bne_eq_false_iff_eq.mpr c21
        clear c21
        by_cases c22 : ([] : List Int).length < 140737488355328
        · rw [if_pos c22] at H
          have LMc22 := Aside0.mk c22
          clear c22
          obtain ⟨y149, hy149⟩ : ∃ y_ : List Int, y_ = (([] : List Int) ++ [(a0 / 256) % 256]) := ⟨_, rfl⟩
          replace H : (if y149.length < 140737488355328 then (some (strOfNums (y149 ++ [(a0) % 256]))) else (none)) = some r := by first | (rw [hy149]; with_reducible exact H) | (have H2_ := (Option.bind_some _ _).symm.trans H; rw [hy149]; with_reducible exact H2_) | (have H2_ := (Option.bind_some _ _).symm.trans H; with_reducible exact H2_) | with_reducible exact H | (rw [hy149]; exact H) | exact H
          have Ny149 := Aside0.mk hy149
          clear hy149
          by_cases c23 : y149.length < 140737488355328
          · rw [if_pos c23] at H
            have LMc23 := Aside0.mk c23
            clear c23
            obtain ⟨y152, hy152⟩ : ∃ y_ : List Int, y_ = (y149 ++ [(a0) % 256]) := ⟨_, rfl⟩
            replace H : (some (strOfNums y152)) = some r := by first | (rw [hy152]; with_reducible exact H) | (have H2_ := (Option.bind_some _ _).symm.trans H; rw [hy152]; with_reducible exact H2_) | (have H2_ := (Option.bind_some _ _).symm.trans H; with_reducible exact H2_) | with_reducible exact H | (rw [hy152]; exact H) | exact H
            have Ny152 := Aside0.mk hy152
            clear hy152
            obtain rfl := Option.some.inj H
            go_enter Try.func47, Try.ntmps47
            go_wp2_with (first | ((with_reducible refine gate_builtin (b := .append) (xs := #[.tmp 25, .tmp 29]) rfl ?_); at_builtin; refine Kd.R_append (Kd.int .u8) (w0 := w) w.heap.size rfl (.tmp 25) (.tmp 29) 39 5 (.int .u8 0) 1 rfl Try.underlying39 info5 rfl (by decide) (by omega) (.slice none 0 0) ([] : List Int) ((a0 / 256) % 256) [.int .u8 ((a0 / 256) % 256)] (fun _ => True) (fun _ => False) rfl rfl ?aP (fun _ hk => hk.elim) ?aF ?aO ?aB ?aS ?aL ?_; (case aP => exact rfl); (case aB => exact (by repeat (first | (with_reducible first | exact HB.out | apply below_alloc | apply pw_below_drewN | apply below_drew1) | exact HB.out))); (case aF => exact (fun _ _ => trivial)); (case aO => exact ((Kd.R_nil _ _ _ _ (fun _ => True)))); (case aS => exact (below_size (by repeat (first | (with_reducible first | exact HB.out | apply below_alloc | apply pw_below_drewN | apply below_drew1) | exact HB.out)))); (case aL => have := LMc22.out; omega); intro v150 w24 ho hb hg hat; rw [← Ny149.out] at ho; have n0_ := Aside0.mk (hb); have n1_ := Aside0.mk (ho); clear HB; have HB := n0_; have HO151 := n1_; clear n0_ n1_; clear ho hb hg hat) | ((with_reducible refine gate_builtin (b := .append) (xs := #[.tmp 31, .tmp 34]) rfl ?_); at_builtin; refine Kd.R_append (Kd.int .u8) (w0 := w) w.heap.size rfl (.tmp 31) (.tmp 34) 39 5 (.int .u8 0) 1 rfl Try.underlying39 info5 rfl (by decide) (by omega) v150 y149 ((a0) % 256) [.int .u8 ((a0) % 256)] (fun _ => True) (fun _ => False) rfl rfl ?aP (fun _ hk => hk.elim) ?aF ?aO ?aB ?aS ?aL ?_; (case aP => exact rfl); (case aB => exact (by repeat (first | (with_reducible first | exact HB.out | apply below_alloc | apply pw_below_drewN | apply below_drew1) | exact HB.out))); (case aF => exact (fun _ _ => trivial)); (case aO => exact (by (with_reducible repeat (first | apply Kd.R_alloc | apply Kd.R_drewN | apply Kd.R_drew)); exact HO151.out)); (case aS => exact (below_size (by repeat (first | (with_reducible first | exact HB.out | apply below_alloc | apply pw_below_drewN | apply below_drew1) | exact HB.out)))); (case aL => have := LMc23.out; omega); intro v153 w25 ho hb hg hat; rw [← Ny152.out] at ho; have n0_ := Aside0.mk (hb); have n1_ := Aside0.mk (ho); clear HB; clear HO151; have HB := n0_; have HO154 := n1_; clear n0_ n1_; clear ho hb hg hat; have hcv26 := own_string (P := Try.prog) Try.underlying39 Try.underlying5 Try.underlying9 (Kd.own_of_R HO154.out)))
            go_ret
            exact ⟨by first | rfl | (simp [errW_none, errW_some] <;> rfl) | (simp [*, errW_none, errW_some] <;> rfl), by repeat (first | (with_reducible first | exact HB.out | apply below_alloc | apply pw_below_drewN | apply below_drew1) | exact HB.out)⟩
          · rw [if_neg c23] at H
            exact absurd H (by simp)
        · rw [if_neg c22] at H
          exact absurd H (by simp)
      · rw [if_neg c21] at H
        have c21b0 : (a1 == 2) = false := beq_eq_false_iff_ne.mpr c21
        have c21b1 : (a1 != 2) = true := bne_iff_ne.mpr c21
        by_cases c27 : ([] : List Int).length < 140737488355328
        · rw [if_pos c27] at H
          have LMc27 := Aside0.mk c27
          clear c27
          obtain ⟨y155, hy155⟩ : ∃ y_ : List Int, y_ = (([] : List Int) ++ [(a0) % 256]) := ⟨_, rfl⟩
          replace H : (some (strOfNums y155)) = some r := by first | (rw [hy155]; with_reducible exact H) | (have H2_ := (Option.bind_some _ _).symm.trans H; rw [hy155]; with_reducible exact H2_) | (have H2_ := (Option.bind_some _ _).symm.trans H; with_reducible exact H2_) | with_reducible exact H | (rw [hy155]; exact H) | exact H
          have Ny155 := Aside0.mk hy155
          clear hy155
          obtain rfl := Option.some.inj H
          go_enter Try.func47, Try.ntmps47
          go_wp2_with (first | ((with_reducible refine gate_builtin (b := .append) (xs := #[.tmp 31, .tmp 34]) rfl ?_); at_builtin; refine Kd.R_append (Kd.int .u8) (w0 := w) w.heap.size rfl (.tmp 31) (.tmp 34) 39 5 (.int .u8 0) 1 rfl Try.underlying39 info5 rfl (by decide) (by omega) (.slice none 0 0) ([] : List Int) ((a0) % 256) [.int .u8 ((a0) % 256)] (fun _ => True) (fun _ => False) rfl rfl ?aP (fun _ hk => hk.elim) ?aF ?aO ?aB ?aS ?aL ?_; (case aP => exact rfl); (case aB => exact (by repeat (first | (with_reducible first | exact HB.out | apply below_alloc | apply pw_below_drewN | apply below_drew1) | exact HB.out))); (case aF => exact (fun _ _ => trivial)); (case aO => exact ((Kd.R_nil _ _ _ _ (fun _ => True)))); (case aS => exact (below_size (by repeat (first | (with_reducible first | exact HB.out | apply below_alloc | apply pw_below_drewN | apply below_drew1) | exact HB.out)))); (case aL => have := LMc27.out; omega); intro v156 w28 ho hb hg hat; rw [← Ny155.out] at ho; have n0_ := Aside0.mk (hb); have n1_ := Aside0.mk (ho); clear HB; have HB := n0_; have HO157 := n1_; clear n0_ n1_; clear ho hb hg hat; have hcv29 := own_string (P := Try.prog) Try.underlying39 Try.underlying5 Try.underlying9 (Kd.own_of_R HO157.out)))
          go_ret
          exact ⟨by first | rfl | (simp [errW_none, errW_some] <;> rfl) | (simp [*, errW_none, errW_some] <;> rfl), by repeat (first | (with_reducible first | exact HB.out | apply below_alloc | apply pw_below_drewN | apply below_drew1) | exact HB.out)⟩
        · rw [if_neg c27] at H
          exact absurd H (by simp)
def wire_Put.f (a0 : Int) (a1 : Int) : Option (ByteArray × Int) := if a1 < 1 then (some ((⟨#[]⟩ : ByteArray), 101)) else (if a1 > 4 then (some ((⟨#[]⟩ : ByteArray), 101)) else (if a0 < 0 then (some ((⟨#[]⟩ : ByteArray), 101)) else (if 0 ≤ (wrap64 (8 * a1)) then (if (shr .i64 a0 (wrap64 (8 * a1))) = 0 then ((wire_Bytes.f a0 a1).bind fun t158 => (some (t158, 0))) else (some ((⟨#[]⟩ : ByteArray), 101))) else (none))))
set_option maxHeartbeats 8000000 in
set_option maxRecDepth 100000 in
theorem wire_Put.calls (a0 : Int) (a1 : Int) (r1 : ByteArray) (r2 : Int) (w : World) (h : wire_Put.f a0 a1 = some (r1, r2)) :
    Calls Try.prog 39 #[.int .i64 a0, .int .i64 a1] w fun e w' => e = .returned (.tuple #[.string r1, .int .i64 r2]) ∧ Below w.heap.size w w' := by
  have HB := Aside0.mk (Below.refl w.heap.size w)
  have H : (if a1 < 1 then (some ((⟨#[]⟩ : ByteArray), 101)) else (if a1 > 4 then (some ((⟨#[]⟩ : ByteArray), 101)) else (if a0 < 0 then (some ((⟨#[]⟩ : ByteArray), 101)) else (if 0 ≤ (wrap64 (8 * a1)) then (if (shr .i64 a0 (wrap64 (8 * a1))) = 0 then ((wire_Bytes.f a0 a1).bind fun t158 => (some (t158, 0))) else (some ((⟨#[]⟩ : ByteArray), 101))) else (none))))) = some (r1, r2) := h
  clear h
  by_cases c3 : a1 < 1
  · rw [if_pos c3] at H
    have c3b0 : decide (a1 < 1) = true := decide_eq_true c3
    clear c3
    simp only [Option.some.injEq, Prod.mk.injEq] at H
    obtain ⟨rfl, rfl⟩ := H
    go_enter Try.func39, Try.ntmps39
    go_wp2
    go_ret2
    exact ⟨by first | rfl | (simp [errW_none, errW_some] <;> rfl) | (simp [*, errW_none, errW_some] <;> rfl), by repeat (first | (with_reducible first | exact HB.out | apply below_alloc | apply pw_below_drewN | apply below_drew1) | exact HB.out)⟩
  · rw [if_neg c3] at H
    have c3b0 : decide (a1 < 1) = false := decide_eq_false c3
    clear c3
    by_cases c4 : a1 > 4
    · rw [if_pos c4] at H
      have c4b0 : decide (4 < a1) = true := decide_eq_true c4
      clear c4
      simp only [Option.some.injEq, Prod.mk.injEq] at H
      obtain ⟨rfl, rfl⟩ := H
      go_enter Try.func39, Try.ntmps39
      go_wp2
      go_ret2
      exact ⟨by first | rfl | (simp [errW_none, errW_some] <;> rfl) | (simp [*, errW_none, errW_some] <;> rfl), by repeat (first | (with_reducible first | exact HB.out | apply below_alloc | apply pw_below_drewN | apply below_drew1) | exact HB.out)⟩
    · rw [if_neg c4] at H
      have c4b0 : decide (4 < a1) = false := decide_eq_false c4
      clear c4
      by_cases c5 : a0 < 0
      · rw [if_pos c5] at H
        have c5b0 : decide (a0 < 0) = true := decide_eq_true c5
        clear c5
        simp only [Option.some.injEq, Prod.mk.injEq] at H
        obtain ⟨rfl, rfl⟩ := H
        go_enter Try.func39, Try.ntmps39
        go_wp2
        go_ret2
        exact ⟨by first | rfl | (simp [errW_none, errW_some] <;> rfl) | (simp [*, errW_none, errW_some] <;> rfl), by repeat (first | (with_reducible first | exact HB.out | apply below_alloc | apply pw_below_drewN | apply below_drew1) | exact HB.out)⟩
      · rw [if_neg c5] at H
        have c5b0 : decide (a0 < 0) = false := decide_eq_false c5
        clear c5
        obtain ⟨ji6, hji6⟩ : ∃ j_ : Int, (wrap64 (8 * a1)) = j_ := ⟨_, rfl⟩
        replace H : (if 0 ≤ (ji6) then (if (shr .i64 a0 (ji6)) = 0 then ((wire_Bytes.f a0 a1).bind fun t158 => (some (t158, 0))) else (some ((⟨#[]⟩ : ByteArray), 101))) else (none)) = some (r1, r2) := by first | (rw [hji6] at H; exact H) | (simp only [hji6] at H ⊢; exact H)
        have hji6w : (IntKind.i64.wrap (8 * a1)) = ji6 := (i64_w _).trans hji6
        by_cases c7 : 0 ≤ (ji6)
        · rw [if_pos c7] at H
          have c7b0 := eq_true c7
          have c7b1 : decide (0 ≤ (ji6)) = true := decide_eq_true c7
          clear c7
          obtain ⟨ji8, hji8⟩ : ∃ j_ : Int, (shr .i64 a0 (ji6)) = j_ := ⟨_, rfl⟩
          replace H : (if (ji8) = 0 then ((wire_Bytes.f a0 a1).bind fun t158 => (some (t158, 0))) else (some ((⟨#[]⟩ : ByteArray), 101))) = some (r1, r2) := by first | (rw [hji8] at H; exact H) | (simp only [hji8] at H ⊢; exact H)
          have hji8_ : (a0 / 2 ^ min (ji6).toNat 64) = ji8 := hji8
          have hji8z : (ji6) ≤ 64 → (a0 / 2 ^ (ji6).toNat) = ji8 := shr_small hji8
          by_cases c9 : (ji8) = 0
          · rw [if_pos c9] at H
            have c9b0 : ((ji8) == 0) = true := beq_iff_eq.mpr c9
            have c9b1 : ((ji8) != 0) = false := bne_eq_false_iff_eq.mpr c9
            clear c9
            replace H := Option.bind_eq_some_iff.mp H
            obtain ⟨t158, A100, H⟩ := H
            replace H : (some (t158, 0)) = some (r1, r2) := H
            have A10 := Aside0.mk A100
            clear A100
            simp only [Option.some.injEq, Prod.mk.injEq] at H
            obtain ⟨rfl, rfl⟩ := H
            go_enter Try.func39, Try.ntmps39
            go_wp2_with (first | ((with_reducible refine gate_callee (f := 47) rfl ?_); refine goesL_ (some 25) rfl rfl Try.func47 (by kernel_rfl) rfl #[.int .i64 a0, .int .i64 a1] rfl (by (try simp only [List.map_toArray, List.map_cons, List.map_nil]); first | done | rfl | (simp only [List.length_drop, List.length_take]; rfl)) ?_; (with_reducible refine (wire_Bytes.calls a0 a1 t158 _ A10.out).mono ?_); rintro e w11 ⟨rfl, hb⟩; refine ⟨_, rfl, ?_⟩; have n0_ := Aside0.mk (below_step (by repeat (first | (with_reducible first | exact HB.out | apply below_alloc | apply pw_below_drewN | apply below_drew1) | exact HB.out)) hb); clear HB; have HB := n0_; clear n0_; (try clear hb); (try clear hb2); (try clear hk); (try clear hi)))
            go_ret2
            exact ⟨by first | rfl | (simp [errW_none, errW_some] <;> rfl) | (simp only [← hji6, ← hji8]; first | rfl | (simp [errW_none, errW_some] <;> rfl)) | (simp [*, errW_none, errW_some] <;> rfl), by repeat (first | (with_reducible first | exact HB.out | apply below_alloc | apply pw_below_drewN | apply below_drew1) | exact HB.out)⟩
          · rw [if_neg c9] at H
            have c9b0 : ((ji8) == 0) = false := beq_eq_false_iff_ne.mpr c9
            have c9b1 : ((ji8) != 0) = true := bne_iff_ne.mpr c9
            simp only [Option.some.injEq, Prod.mk.injEq] at H
            obtain ⟨rfl, rfl⟩ := H
            go_enter Try.func39, Try.ntmps39
            go_wp2
            go_ret2
            exact ⟨by first | rfl | (simp [errW_none, errW_some] <;> rfl) | (simp only [← hji6, ← hji8]; first | rfl | (simp [errW_none, errW_some] <;> rfl)) | (simp [*, errW_none, errW_some] <;> rfl), by repeat (first | (with_reducible first | exact HB.out | apply below_alloc | apply pw_below_drewN | apply below_drew1) | exact HB.out)⟩
        · rw [if_neg c7] at H
          exact absurd H (by simp)
end Go.Proofs.Ytlkebjkpmiehcaa.E
end
section
namespace Go.Proofs.Ytlkebjkpmiehcaa.E
open Go.RowKit Go.Proofs.YtlkebjkpmiehcaaW.PrintWords Go.Proofs.YtlkebjkpmiehcaaW.PrintLast Go.Proofs.YtlkebjkpmiehcaaW.PrintMore
attribute [local go_sem] max2_int min2_int max_two min_two max_three min_three max_four min_four   
set_option linter.unusedVariables false
set_option linter.unusedSimpArgs false
def wire_PutVec.f (a0 : ByteArray) (a1 : Int) : Option (ByteArray × Int) := if a1 < 1 then (some ((⟨#[]⟩ : ByteArray), 101)) else (if a1 > 3 then (some ((⟨#[]⟩ : ByteArray), 101)) else (if 0 ≤ (wrap64 (8 * a1)) then (if (shr .i64 (a0.size : Int) (wrap64 (8 * a1))) = 0 then ((wire_Bytes.f (a0.size : Int) a1).bind fun t159 => (if t159.size + a0.size ≤ 9223372036854775807 then (some ((t159 ++ a0), 0)) else (none))) else (some ((⟨#[]⟩ : ByteArray), 101))) else (none)))
set_option maxHeartbeats 8000000 in
set_option maxRecDepth 100000 in
theorem wire_PutVec.calls (a0 : ByteArray) (a1 : Int) (r1 : ByteArray) (r2 : Int) (w : World) (h : wire_PutVec.f a0 a1 = some (r1, r2)) :
    Calls Try.prog 40 #[.string a0, .int .i64 a1] w fun e w' => e = .returned (.tuple #[.string r1, .int .i64 r2]) ∧ Below w.heap.size w w' := by
  have HB := Aside0.mk (Below.refl w.heap.size w)
  have H : (if a1 < 1 then (some ((⟨#[]⟩ : ByteArray), 101)) else (if a1 > 3 then (some ((⟨#[]⟩ : ByteArray), 101)) else (if 0 ≤ (wrap64 (8 * a1)) then (if (shr .i64 (a0.size : Int) (wrap64 (8 * a1))) = 0 then ((wire_Bytes.f (a0.size : Int) a1).bind fun t159 => (if t159.size + a0.size ≤ 9223372036854775807 then (some ((t159 ++ a0), 0)) else (none))) else (some ((⟨#[]⟩ : ByteArray), 101))) else (none)))) = some (r1, r2) := h
  clear h
  by_cases c3 : a1 < 1
  · rw [if_pos c3] at H
    have c3b0 : decide (a1 < 1) = true := decide_eq_true c3
    clear c3
    simp only [Option.some.injEq, Prod.mk.injEq] at H
    obtain ⟨rfl, rfl⟩ := H
    go_enter Try.func40, Try.ntmps40
    go_wp2
    go_ret2
    exact ⟨by first | rfl | (simp [errW_none, errW_some] <;> rfl) | (simp [*, errW_none, errW_some] <;> rfl), by repeat (first | (with_reducible first | exact HB.out | apply below_alloc | apply pw_below_drewN | apply below_drew1) | exact HB.out)⟩
  · rw [if_neg c3] at H
    have c3b0 : decide (a1 < 1) = false := decide_eq_false c3
    clear c3
    by_cases c4 : a1 > 3
    · rw [if_pos c4] at H
      have c4b0 : decide (3 < a1) = true := decide_eq_true c4
      clear c4
      simp only [Option.some.injEq, Prod.mk.injEq] at H
      obtain ⟨rfl, rfl⟩ := H
      go_enter Try.func40, Try.ntmps40
      go_wp2
      go_ret2
      exact ⟨by first | rfl | (simp [errW_none, errW_some] <;> rfl) | (simp [*, errW_none, errW_some] <;> rfl), by repeat (first | (with_reducible first | exact HB.out | apply below_alloc | apply pw_below_drewN | apply below_drew1) | exact HB.out)⟩
    · rw [if_neg c4] at H
      have c4b0 : decide (3 < a1) = false := decide_eq_false c4
      clear c4
      obtain ⟨ji5, hji5⟩ : ∃ j_ : Int, (wrap64 (8 * a1)) = j_ := ⟨_, rfl⟩
      replace H : (if 0 ≤ (ji5) then (if (shr .i64 (a0.size : Int) (ji5)) = 0 then ((wire_Bytes.f (a0.size : Int) a1).bind fun t159 => (if t159.size + a0.size ≤ 9223372036854775807 then (some ((t159 ++ a0), 0)) else (none))) else (some ((⟨#[]⟩ : ByteArray), 101))) else (none)) = some (r1, r2) := by first | (rw [hji5] at H; exact H) | (simp only [hji5] at H ⊢; exact H)
      have hji5w : (IntKind.i64.wrap (8 * a1)) = ji5 := (i64_w _).trans hji5
      by_cases c6 : 0 ≤ (ji5)
      · rw [if_pos c6] at H
        have c6b0 := eq_true c6
        have c6b1 : decide (0 ≤ (ji5)) = true := decide_eq_true c6
        clear c6
        obtain ⟨ji7, hji7⟩ : ∃ j_ : Int, (shr .i64 (a0.size : Int) (ji5)) = j_ := ⟨_, rfl⟩
        replace H : (if (ji7) = 0 then ((wire_Bytes.f (a0.size : Int) a1).bind fun t159 => (if t159.size + a0.size ≤ 9223372036854775807 then (some ((t159 ++ a0), 0)) else (none))) else (some ((⟨#[]⟩ : ByteArray), 101))) = some (r1, r2) := by first | (rw [hji7] at H; exact H) | (simp only [hji7] at H ⊢; exact H)
        have hji7_ : ((a0.size : Int) / 2 ^ min (ji5).toNat 64) = ji7 := hji7
        have hji7z : (ji5) ≤ 64 → ((a0.size : Int) / 2 ^ (ji5).toNat) = ji7 := shr_small hji7
        by_cases c8 : (ji7) = 0
        · rw [if_pos c8] at H
          have c8b0 : ((ji7) == 0) = true := beq_iff_eq.mpr c8
          have c8b1 : ((ji7) != 0) = false := bne_eq_false_iff_eq.mpr c8
          clear c8
          replace H := Option.bind_eq_some_iff.mp H
          obtain ⟨t159, A90, H⟩ := H
          replace H : (if t159.size + a0.size ≤ 9223372036854775807 then (some ((t159 ++ a0), 0)) else (none)) = some (r1, r2) := H
          have A9 := Aside0.mk A90
          clear A90
          by_cases c10 : t159.size + a0.size ≤ 9223372036854775807
          · rw [if_pos c10] at H
            have c10b0 := eq_true c10
            have c10b1 : decide (t159.size + a0.size ≤ 9223372036854775807) = true := decide_eq_true c10
            try have c10b2 : (9223372036854775807 < t159.size + a0.size) = False := eq_false (Nat.not_lt.2 c10)
            obtain ⟨ys160, hys160⟩ : ∃ y_ : ByteArray, y_ = (t159 ++ a0) := ⟨_, rfl⟩
            replace H : (some (ys160, 0)) = some (r1, r2) := by first | (rw [hys160]; with_reducible exact H) | (have H2_ := (Option.bind_some _ _).symm.trans H; rw [hys160]; with_reducible exact H2_) | (have H2_ := (Option.bind_some _ _).symm.trans H; with_reducible exact H2_) | with_reducible exact H | (rw [hys160]; exact H) | exact H
            have Nys160 := Aside0.mk hys160
            clear hys160
            have Sys160 := Nys160.out.symm
            simp only [Option.some.injEq, Prod.mk.injEq] at H
            obtain ⟨rfl, rfl⟩ := H
            go_enter Try.func40, Try.ntmps40
            go_wp2_with (first | ((with_reducible refine gate_callee (f := 47) rfl ?_); refine goesL_ (some 23) rfl rfl Try.func47 (by kernel_rfl) rfl #[.int .i64 (a0.size : Int), .int .i64 a1] rfl (by (try simp only [List.map_toArray, List.map_cons, List.map_nil]); first | done | rfl | (simp only [List.length_drop, List.length_take]; rfl)) ?_; (with_reducible refine (wire_Bytes.calls (a0.size : Int) a1 t159 _ A9.out).mono ?_); rintro e w11 ⟨rfl, hb⟩; refine ⟨_, rfl, ?_⟩; have n0_ := Aside0.mk (below_step (by repeat (first | (with_reducible first | exact HB.out | apply below_alloc | apply pw_below_drewN | apply below_drew1) | exact HB.out)) hb); clear HB; have HB := n0_; clear n0_; (try clear hb); (try clear hb2); (try clear hk); (try clear hi)))
            go_ret2
            exact ⟨by first | rfl | (simp [errW_none, errW_some] <;> rfl) | (simp only [← hji5, ← hji7]; first | rfl | (simp [errW_none, errW_some] <;> rfl)) | (simp [*, errW_none, errW_some] <;> rfl), by repeat (first | (with_reducible first | exact HB.out | apply below_alloc | apply pw_below_drewN | apply below_drew1) | exact HB.out)⟩
          · rw [if_neg c10] at H
            exact absurd H (by simp)
        · rw [if_neg c8] at H
          have c8b0 : ((ji7) == 0) = false := beq_eq_false_iff_ne.mpr c8
          have c8b1 : ((ji7) != 0) = true := bne_iff_ne.mpr c8
          simp only [Option.some.injEq, Prod.mk.injEq] at H
          obtain ⟨rfl, rfl⟩ := H
          go_enter Try.func40, Try.ntmps40
          go_wp2
          go_ret2
          exact ⟨by first | rfl | (simp [errW_none, errW_some] <;> rfl) | (simp only [← hji5, ← hji7]; first | rfl | (simp [errW_none, errW_some] <;> rfl)) | (simp [*, errW_none, errW_some] <;> rfl), by repeat (first | (with_reducible first | exact HB.out | apply below_alloc | apply pw_below_drewN | apply below_drew1) | exact HB.out)⟩
      · rw [if_neg c6] at H
        exact absurd H (by simp)
def ext_Put.l0 : Nat → ByteArray → List Int → Bool → List (S41) → Int → Int → Option (ByteArray × Int)
  | 0, _, _, _, _, _, _ => none
  | k + 1, x4, x5, x6, x14, x15, x16 => if x16 < x15 then (if 0 ≤ x16 then (if x16 < (x14.length : Int) then ((wire_Put.f ((rd_T41 x14 x16).f0) 2).bind fun bt166 => ((wire_PutVec.f ((rd_T41 x14 x16).f1) 2).bind fun bt168 => (if bt166.2 = 0 then (if bt168.2 = 0 then (if x6 = true then (if (Lit.int .i64 ((rd_T41 x14 x16).f0)).wf = true then (if x5.length < 140737488355328 then (if bt166.1.size + bt168.1.size ≤ 9223372036854775807 then ((some (bt166.1 ++ bt168.1 : ByteArray)).bind fun ys173 => (if x4.size + ys173.size ≤ 9223372036854775807 then (ext_Put.l0 k (x4 ++ ys173) (x5 ++ [(rd_T41 x14 x16).f0]) true x14 x15 (wrap64 (x16 + 1))) else (none))) else (none)) else (none)) else (none)) else (if (Lit.int .i64 ((rd_T41 x14 x16).f0)).wf = true then (if x5.length < 140737488355328 then (if bt166.1.size + bt168.1.size ≤ 9223372036854775807 then ((some (bt166.1 ++ bt168.1 : ByteArray)).bind fun ys178 => (if x4.size + ys178.size ≤ 9223372036854775807 then (ext_Put.l0 k (x4 ++ ys178) (x5 ++ [(rd_T41 x14 x16).f0]) (decide (((rd_T41 x14 x16).f0) ∈ x5)) x14 x15 (wrap64 (x16 + 1))) else (none))) else (none)) else (none)) else (none))) else (some ((⟨#[]⟩ : ByteArray), 1600))) else (some ((⟨#[]⟩ : ByteArray), 1600))))) else (none)) else (none)) else (if x6 = true then (some ((⟨#[]⟩ : ByteArray), 1601)) else (some (x4, 0)))
def ext_Put.f (k : Nat) (l0 : List (S41)) : Option (ByteArray × Int) := ext_Put.l0 k (⟨#[]⟩ : ByteArray) (([] : List Int)) false l0 (l0.length : Int) 0
theorem ext_Put.mono_l : ∀ k, (∀ y0 y1 y2 y3 y4 y5, LeO (ext_Put.l0 k y0 y1 y2 y3 y4 y5) (ext_Put.l0 (k + 1) y0 y1 y2 y3 y4 y5))
  | 0 => fun _ _ _ _ _ _ r h => by simp [ext_Put.l0] at h
  | k + 1 => by
    have ih0 := ext_Put.mono_l k
    · intro y0 y1 y2 y3 y4 y5
      unfold ext_Put.l0
      repeat' first
      | (with_reducible exact ih0 _ _ _ _ _ _)
      | (with_reducible exact LeO.refl _)
      | (with_reducible exact LeO.none _)
      | (with_reducible refine LeO.ite ?_ ?_)
      | (with_reducible refine LeO.bind ?_ (fun _ => ?_))
      | exact ih0 _ _ _ _ _ _
      | exact LeO.none _
      | refine LeO.ite ?_ ?_
      | refine LeO.bind ?_ (fun _ => ?_)
theorem ext_Put.mono : ∀ a0 k, LeO (ext_Put.f k a0) (ext_Put.f (k + 1) a0) := by
  intro a0 k
  have ih0 := ext_Put.mono_l k
  unfold ext_Put.f
  repeat' first
      | (with_reducible exact ih0 _ _ _ _ _ _)
      | (with_reducible exact LeO.refl _)
      | (with_reducible exact LeO.none _)
      | (with_reducible refine LeO.ite ?_ ?_)
      | (with_reducible refine LeO.bind ?_ (fun _ => ?_))
      | exact ih0 _ _ _ _ _ _
      | exact LeO.none _
      | refine LeO.ite ?_ ?_
      | refine LeO.bind ?_ (fun _ => ?_)
set_option maxHeartbeats 8000000 in
set_option maxRecDepth 100000 in
theorem ext_Put.calls (k : Nat) (A0 : Option Addr) (c0 : Nat) (l0 : List (S41)) (r1 : ByteArray) (r2 : Int) (w : World) (hr0 : Kd.C k41 w A0 l0.length l0) (hc0 : l0.length ≤ c0) (h : ext_Put.f k l0 = some (r1, r2)) :
    Calls Try.prog 15 #[.slice A0 l0.length c0] w fun e w' => e = .returned (.tuple #[.string r1, .int .i64 r2]) ∧ Below w.heap.size w w' := by
  have hu41 := Try.underlying41
  have HR0 := Aside0.mk hr0
  have HC0 := Aside0.mk hc0
  clear hr0 hc0
  have HB := Aside0.mk (Below.refl w.heap.size w)
  have H : (ext_Put.l0 k (⟨#[]⟩ : ByteArray) (([] : List Int)) false l0 (l0.length : Int) 0) = some (r1, r2) := h
  clear h
  obtain ⟨y161, hy161⟩ : ∃ y_ : List Int, y_ = (([] : List Int)) := ⟨_, rfl⟩
  replace H : (ext_Put.l0 k (⟨#[]⟩ : ByteArray) y161 false l0 (l0.length : Int) 0) = some (r1, r2) := by first | (rw [hy161]; with_reducible exact H) | (have H2_ := (Option.bind_some _ _).symm.trans H; rw [hy161]; with_reducible exact H2_) | (have H2_ := (Option.bind_some _ _).symm.trans H; with_reducible exact H2_) | with_reducible exact H | (rw [hy161]; exact H) | exact H
  have Ny161 := Aside0.mk hy161
  clear hy161
  have H' := Aside0.mk H
  clear H
  go_enter Try.func15, Try.ntmps15
  go_wp2_with (first | ((with_reducible refine gate_dst (N := 13) rfl ?_); refine Kd.Y_make (Kd.int .i64) 3 rfl (N := 13) rfl 68 rfl (ok := fun _ => True) trivial ?_; intro v162 w2 ho3 hb; rw [← Ny161.out] at ho3; have n0_ := Aside0.mk (Kd.Y_lower ho3 (below_size (by repeat (first | (with_reducible first | exact HB.out | apply below_alloc | apply pw_below_drewN | apply below_drew1) | exact HB.out)))); have n1_ := Aside0.mk (below_step (by repeat (first | (with_reducible first | exact HB.out | apply below_alloc | apply pw_below_drewN | apply below_drew1) | exact HB.out)) hb); clear HB; have HO163 := n0_; have HB := n1_; clear n0_ n1_; clear hb ho3))
  go_loopg [4, 6, 16] k (fun kq v4 v6 v16 w' => ∃ (x4_1 : ByteArray) (x5_1 : List Int) (x6_1 : Bool) (x16_1 : Int), v4 = .string x4_1 ∧ v6 = .bool x6_1 ∧ v16 = .int .i64 x16_1 ∧ Aside0 (ext_Put.l0 kq x4_1 x5_1 x6_1 l0 (l0.length : Int) x16_1 = some (r1, r2)) ∧ Aside0 (kq ≤ k) ∧ Aside0 (Kd.Y (Kd.int .i64) 3 w' w.heap.size (fun _ => True) v162 x5_1) ∧ Aside0 (Below w.heap.size w w'))
  case atStart => exact ⟨((⟨#[]⟩ : ByteArray)), (y161), (false), (0), (by first | rfl | (simp; done) | (simp [*]; done)), (by first | rfl | (simp; done) | (simp [*]; done)), (by first | rfl | (simp; done) | (simp [*]; done)), H', ⟨Nat.le_refl _⟩, ⟨by (with_reducible repeat (first | apply Kd.Y_alloc | apply Kd.Y_drewN | apply Kd.Y_drew)); exact HO163.out⟩, ⟨by repeat (first | (with_reducible first | exact HB.out | apply below_alloc | apply pw_below_drewN | apply below_drew1) | exact HB.out)⟩⟩
  case round =>
    clear H'
    try clear c1
    try clear p2
    obtain ⟨x4_1, x5_1, x6_1, x16_1, rfl, rfl, rfl, HA, HK1, HO_5, HB⟩ := hrel
    cases gk with
    | zero => exact absurd HA.out (by simp [ext_Put.l0])
    | succ k1 =>
      have H := HA.out
      clear HA
      simp only [ext_Put.l0] at H
      by_cases c4 : x16_1 < (l0.length : Int)
      · rw [if_pos c4] at H
        have c4b0 : decide (x16_1 < (l0.length : Int)) = true := decide_eq_true c4
        clear c4
        by_cases c5 : 0 ≤ x16_1
        · rw [if_pos c5] at H
          have c5b0 : decide (0 ≤ x16_1) = true := decide_eq_true c5
          clear c5
          by_cases c6 : x16_1 < (l0.length : Int)
          · rw [if_pos c6] at H
            have c6b0 : decide (x16_1 < (l0.length : Int)) = true := decide_eq_true c6
            clear c6
            replace H := Option.bind_eq_some_iff.mp H
            obtain ⟨⟨t166, t167⟩, A70, H⟩ := H
            replace H : ((wire_PutVec.f ((rd_T41 l0 x16_1).f1) 2).bind fun bt168 => (if t167 = 0 then (if bt168.2 = 0 then (if x6_1 = true then (if (Lit.int .i64 ((rd_T41 l0 x16_1).f0)).wf = true then (if x5_1.length < 140737488355328 then (if t166.size + bt168.1.size ≤ 9223372036854775807 then ((some (t166 ++ bt168.1 : ByteArray)).bind fun ys173 => (if x4_1.size + ys173.size ≤ 9223372036854775807 then (ext_Put.l0 k1 (x4_1 ++ ys173) (x5_1 ++ [(rd_T41 l0 x16_1).f0]) true l0 (l0.length : Int) (wrap64 (x16_1 + 1))) else (none))) else (none)) else (none)) else (none)) else (if (Lit.int .i64 ((rd_T41 l0 x16_1).f0)).wf = true then (if x5_1.length < 140737488355328 then (if t166.size + bt168.1.size ≤ 9223372036854775807 then ((some (t166 ++ bt168.1 : ByteArray)).bind fun ys178 => (if x4_1.size + ys178.size ≤ 9223372036854775807 then (ext_Put.l0 k1 (x4_1 ++ ys178) (x5_1 ++ [(rd_T41 l0 x16_1).f0]) (decide (((rd_T41 l0 x16_1).f0) ∈ x5_1)) l0 (l0.length : Int) (wrap64 (x16_1 + 1))) else (none))) else (none)) else (none)) else (none))) else (some ((⟨#[]⟩ : ByteArray), 1600))) else (some ((⟨#[]⟩ : ByteArray), 1600)))) = some (r1, r2) := H
            have A7 := Aside0.mk A70
            clear A70
            replace H := Option.bind_eq_some_iff.mp H
            obtain ⟨⟨t168, t169⟩, A80, H⟩ := H
            replace H : (if t167 = 0 then (if t169 = 0 then (if x6_1 = true then (if (Lit.int .i64 ((rd_T41 l0 x16_1).f0)).wf = true then (if x5_1.length < 140737488355328 then (if t166.size + t168.size ≤ 9223372036854775807 then ((some (t166 ++ t168 : ByteArray)).bind fun ys173 => (if x4_1.size + ys173.size ≤ 9223372036854775807 then (ext_Put.l0 k1 (x4_1 ++ ys173) (x5_1 ++ [(rd_T41 l0 x16_1).f0]) true l0 (l0.length : Int) (wrap64 (x16_1 + 1))) else (none))) else (none)) else (none)) else (none)) else (if (Lit.int .i64 ((rd_T41 l0 x16_1).f0)).wf = true then (if x5_1.length < 140737488355328 then (if t166.size + t168.size ≤ 9223372036854775807 then ((some (t166 ++ t168 : ByteArray)).bind fun ys178 => (if x4_1.size + ys178.size ≤ 9223372036854775807 then (ext_Put.l0 k1 (x4_1 ++ ys178) (x5_1 ++ [(rd_T41 l0 x16_1).f0]) (decide (((rd_T41 l0 x16_1).f0) ∈ x5_1)) l0 (l0.length : Int) (wrap64 (x16_1 + 1))) else (none))) else (none)) else (none)) else (none))) else (some ((⟨#[]⟩ : ByteArray), 1600))) else (some ((⟨#[]⟩ : ByteArray), 1600))) = some (r1, r2) := H
            have A8 := Aside0.mk A80
            clear A80
            by_cases c9 : t167 = 0
            · rw [if_pos c9] at H
              have c9b0 : (t167 == 0) = true := beq_iff_eq.mpr c9
              have c9b1 : (t167 != 0) = false := bne_eq_false_iff_eq.mpr c9
              clear c9
              by_cases c10 : t169 = 0
              · rw [if_pos c10] at H
                have c10b0 : (t169 == 0) = true := beq_iff_eq.mpr c10
                have c10b1 : (t169 != 0) = false := bne_eq_false_iff_eq.mpr c10
                clear c10
                by_cases c11 : x6_1 = true
                · subst c11
                  have H1 : (if (Lit.int .i64 ((rd_T41 l0 x16_1).f0)).wf = true then (if x5_1.length < 140737488355328 then (if t166.size + t168.size ≤ 9223372036854775807 then ((some (t166 ++ t168 : ByteArray)).bind fun ys173 => (if x4_1.size + ys173.size ≤ 9223372036854775807 then (ext_Put.l0 k1 (x4_1 ++ ys173) (x5_1 ++ [(rd_T41 l0 x16_1).f0]) true l0 (l0.length : Int) (wrap64 (x16_1 + 1))) else (none))) else (none)) else (none)) else (none)) = some (r1, r2) := by rw [if_pos rfl] at H; exact H
                  clear H
                  have H := H1
                  clear H1
                  by_cases c12 : (Lit.int .i64 ((rd_T41 l0 x16_1).f0)).wf = true
                  · rw [if_pos c12] at H
                    have LMc12 := Aside0.mk c12
                    clear c12
                    by_cases c13 : x5_1.length < 140737488355328
                    · rw [if_pos c13] at H
                      have LMc13 := Aside0.mk c13
                      clear c13
                      obtain ⟨y170, hy170⟩ : ∃ y_ : List Int, y_ = (x5_1 ++ [(rd_T41 l0 x16_1).f0]) := ⟨_, rfl⟩
                      replace H : (if t166.size + t168.size ≤ 9223372036854775807 then ((some (t166 ++ t168 : ByteArray)).bind fun ys173 => (if x4_1.size + ys173.size ≤ 9223372036854775807 then (ext_Put.l0 k1 (x4_1 ++ ys173) y170 true l0 (l0.length : Int) (wrap64 (x16_1 + 1))) else (none))) else (none)) = some (r1, r2) := by first | (rw [hy170]; with_reducible exact H) | (have H2_ := (Option.bind_some _ _).symm.trans H; rw [hy170]; with_reducible exact H2_) | (have H2_ := (Option.bind_some _ _).symm.trans H; with_reducible exact H2_) | with_reducible exact H | (rw [hy170]; exact H) | exact H
                      have Ny170 := Aside0.mk hy170
                      clear hy170
                      by_cases c14 : t166.size + t168.size ≤ 9223372036854775807
                      · rw [if_pos c14] at H
                        have c14b0 := eq_true c14
                        have c14b1 : decide (t166.size + t168.size ≤ 9223372036854775807) = true := decide_eq_true c14
                        try have c14b2 : (9223372036854775807 < t166.size + t168.size) = False := eq_false (Nat.not_lt.2 c14)
                        obtain ⟨ys173, hys173⟩ : ∃ y_ : ByteArray, y_ = (t166 ++ t168) := ⟨_, rfl⟩
                        replace H : (if x4_1.size + ys173.size ≤ 9223372036854775807 then (ext_Put.l0 k1 (x4_1 ++ ys173) y170 true l0 (l0.length : Int) (wrap64 (x16_1 + 1))) else (none)) = some (r1, r2) := by first | (rw [hys173]; with_reducible exact H) | (have H2_ := (Option.bind_some _ _).symm.trans H; rw [hys173]; with_reducible exact H2_) | (have H2_ := (Option.bind_some _ _).symm.trans H; with_reducible exact H2_) | with_reducible exact H | (rw [hys173]; exact H) | exact H
                        have Nys173 := Aside0.mk hys173
                        clear hys173
                        have Sys173 := Nys173.out.symm
                        by_cases c15 : x4_1.size + ys173.size ≤ 9223372036854775807
                        · rw [if_pos c15] at H
                          have c15b0 := eq_true c15
                          have c15b1 : decide (x4_1.size + ys173.size ≤ 9223372036854775807) = true := decide_eq_true c15
                          try have c15b2 : (9223372036854775807 < x4_1.size + ys173.size) = False := eq_false (Nat.not_lt.2 c15)
                          obtain ⟨ys174, hys174⟩ : ∃ y_ : ByteArray, y_ = (x4_1 ++ ys173) := ⟨_, rfl⟩
                          replace H : (ext_Put.l0 k1 ys174 y170 true l0 (l0.length : Int) (wrap64 (x16_1 + 1))) = some (r1, r2) := by first | (rw [hys174]; with_reducible exact H) | (have H2_ := (Option.bind_some _ _).symm.trans H; rw [hys174]; with_reducible exact H2_) | (have H2_ := (Option.bind_some _ _).symm.trans H; with_reducible exact H2_) | with_reducible exact H | (rw [hys174]; exact H) | exact H
                          have Nys174 := Aside0.mk hys174
                          clear hys174
                          have Sys174 := Nys174.out.symm
                          have H' := Aside0.mk H
                          clear H
                          have p164 : 0 ≤ (x16_1 : Int) := of_decide_eq_true (by first | (with_reducible assumption) | assumption)
                          have q164 : x16_1 < (l0.length : Int) := of_decide_eq_true (by first | (with_reducible assumption) | assumption)
                          obtain ⟨ad164, e164, hx164_0, hx164_1⟩ := at_T41 HR0.out x16_1 p164 q164
                          cases e164
                          replace hx164_0 := (HB.out.cell (World.block_lt_of_cell? w _ hx164_0)).trans hx164_0
                          replace hx164_1 := (HB.out.cell (World.block_lt_of_cell? w _ hx164_1)).trans hx164_1
                          replace p164 := eq_true p164
                          replace q164 := eq_true q164
                          go_wp2_with (first | ((with_reducible refine gate_dst (N := 8) rfl ?_); refine box_event ?hg (N := 8) ?hd (cs := #[.int .i64 0, .string (⟨#[]⟩ : ByteArray)]) (t := 41) ?hr ?_; (case hd => rfl); (case hg => rfl); (case hr => first | (go_simp; done) | (go_simp; rfl)); intro gb165 hg w16 hbox hb; have n0_ := Aside0.mk (Kd.Y_below (by (with_reducible repeat (first | apply Kd.Y_alloc | apply Kd.Y_drewN | apply Kd.Y_drew)); exact HO_5.out) hb); have n1_ := Aside0.mk (below_step (by repeat (first | (with_reducible first | exact HB.out | apply below_alloc | apply pw_below_drewN | apply below_drew1) | exact HB.out)) hb); have n2_ := Aside0.mk (hbox); have n3_ := Aside0.mk ((by rw [hg]; exact (below_size (by repeat (first | (with_reducible first | exact HB.out | apply below_alloc | apply pw_below_drewN | apply below_drew1) | exact HB.out))) : w.heap.size ≤ gb165)); have n4_ := Aside0.mk ((by rw [hg]; exact (below_size (by repeat (first | (with_reducible first | exact HB.out | apply below_alloc | apply pw_below_drewN | apply below_drew1) | exact HB.out))) : w.heap.size ≤ gb165)); clear HO_5; clear HB; have HO_5 := n0_; have HB := n1_; have BK165 := n2_; have GW165 := n3_; have GE165 := n4_; clear n0_ n1_ n2_ n3_ n4_; clear hb hbox hg; have hcz17_0 : w16.cell? ⟨gb165, 0, none⟩ = some (.int .i64 0) := (blk_cell BK165.out 0).trans rfl; have hcz17_1 : w16.cell? ⟨gb165, 1, none⟩ = some (.string (⟨#[]⟩ : ByteArray)) := (blk_cell BK165.out 1).trans rfl; have hfz17_0 := blk_frozen BK165.out 0; have hfz17_1 := blk_frozen BK165.out 1) | ((with_reducible refine gate_callee (f := 39) rfl ?_); refine goesL_ (some 23) rfl rfl Try.func39 (by kernel_rfl) rfl #[.int .i64 ((rd_T41 l0 x16_1).f0), .int .i64 2] rfl (by (try simp only [List.map_toArray, List.map_cons, List.map_nil]); first | done | rfl | (simp only [List.length_drop, List.length_take]; rfl)) ?_; (with_reducible refine (wire_Put.calls ((rd_T41 l0 x16_1).f0) 2 t166 t167 _ A7.out).mono ?_); rintro e w18 ⟨rfl, hb⟩; refine ⟨_, rfl, ?_⟩; have n0_ := Aside0.mk (Kd.Y_below (by (with_reducible repeat (first | apply Kd.Y_alloc | apply Kd.Y_drewN | apply Kd.Y_drew)); exact (Kd.Y_mono (Kd.Y_far (p := ⟨gb165, 1, none⟩) (Kd.Y_far (p := ⟨gb165, 0, none⟩) (Kd.Y_types HO_5.out BK165.out (by decide)) (fun _ hk => hk.2) (.int .i64 ((rd_T41 l0 x16_1).f0))) (fun _ hk => hk.2) (.string ((rd_T41 l0 x16_1).f1))) (fun _ h_ => h_.1))) hb); have n1_ := Aside0.mk (blk_below (g := gb165) (o := .cells #[.int .i64 ((rd_T41 l0 x16_1).f0), .string ((rd_T41 l0 x16_1).f1)] 41 (0, 0)) (by (with_reducible repeat (first | refine blk_drewN ?_ _ | refine blk_drew ?_ | refine blk_alloc ?_ _)); refine blk_put (cs := #[.int .i64 ((rd_T41 l0 x16_1).f0), .string (⟨#[]⟩ : ByteArray)]) ?_ 1 _ rfl; (with_reducible repeat (first | refine blk_drewN ?_ _ | refine blk_drew ?_ | refine blk_alloc ?_ _)); refine blk_put (cs := #[.int .i64 0, .string (⟨#[]⟩ : ByteArray)]) ?_ 0 _ rfl; (with_reducible repeat (first | refine blk_drewN ?_ _ | refine blk_drew ?_ | refine blk_alloc ?_ _)); exact BK165.out) hb); have n2_ := Aside0.mk (below_step (by repeat (first | (with_reducible first | exact HB.out | apply below_alloc | apply pw_below_drewN | apply below_drew1 | refine below_set ?_ GE165.out) | exact HB.out)) hb); clear HO_5; clear BK165; clear HB; have HO_5 := n0_; have BK165 := n1_; have HB := n2_; clear n0_ n1_ n2_; (try clear hb); (try clear hb2); (try clear hk); (try clear hi); have hcz19_0 : w18.cell? ⟨gb165, 0, none⟩ = some (.int .i64 ((rd_T41 l0 x16_1).f0)) := (blk_cell BK165.out 0).trans rfl; have hcz19_1 : w18.cell? ⟨gb165, 1, none⟩ = some (.string ((rd_T41 l0 x16_1).f1)) := (blk_cell BK165.out 1).trans rfl; have hfz19_0 := blk_frozen BK165.out 0; have hfz19_1 := blk_frozen BK165.out 1) | ((with_reducible refine gate_callee (f := 40) rfl ?_); refine goesL_ (some 29) rfl rfl Try.func40 (by kernel_rfl) rfl #[.string ((rd_T41 l0 x16_1).f1), .int .i64 2] rfl (by (try simp only [List.map_toArray, List.map_cons, List.map_nil]); first | done | rfl | (simp only [List.length_drop, List.length_take]; rfl)) ?_; (with_reducible refine (wire_PutVec.calls ((rd_T41 l0 x16_1).f1) 2 t168 t169 _ A8.out).mono ?_); rintro e w20 ⟨rfl, hb⟩; refine ⟨_, rfl, ?_⟩; have n0_ := Aside0.mk (Kd.Y_below (by (with_reducible repeat (first | apply Kd.Y_alloc | apply Kd.Y_drewN | apply Kd.Y_drew)); exact HO_5.out) hb); have n1_ := Aside0.mk (blk_below (g := gb165) (o := .cells #[.int .i64 ((rd_T41 l0 x16_1).f0), .string ((rd_T41 l0 x16_1).f1)] 41 (0, 0)) (by (with_reducible repeat (first | refine blk_drewN ?_ _ | refine blk_drew ?_ | refine blk_alloc ?_ _)); exact BK165.out) hb); have n2_ := Aside0.mk (below_step (by repeat (first | (with_reducible first | exact HB.out | apply below_alloc | apply pw_below_drewN | apply below_drew1 | refine below_set ?_ GE165.out) | exact HB.out)) hb); clear HO_5; clear BK165; clear HB; have HO_5 := n0_; have BK165 := n1_; have HB := n2_; clear n0_ n1_ n2_; (try clear hb); (try clear hb2); (try clear hk); (try clear hi); have hcz21_0 : w20.cell? ⟨gb165, 0, none⟩ = some (.int .i64 ((rd_T41 l0 x16_1).f0)) := (blk_cell BK165.out 0).trans rfl; have hcz21_1 : w20.cell? ⟨gb165, 1, none⟩ = some (.string ((rd_T41 l0 x16_1).f1)) := (blk_cell BK165.out 1).trans rfl; have hfz21_0 := blk_frozen BK165.out 0; have hfz21_1 := blk_frozen BK165.out 1) | (at_mapUpdate; refine Kd.Y_put (Kd.int .i64) (w0 := w) w.heap.size 3 rfl 68 _ _ _ rfl Try.underlying68 Try.underlying3 Try.underlying4 v162 x5_1 ((rd_T41 l0 x16_1).f0) (ok := fun _ => True) rfl rfl rfl LMc12.out (by have := LMc13.out; simp only [maxLen]; omega) ?aO ?aB ?aS ?_; (case aO => exact (by (with_reducible repeat (first | apply Kd.Y_alloc | apply Kd.Y_drewN | apply Kd.Y_drew)); exact HO_5.out)); (case aB => exact (by repeat (first | (with_reducible first | exact HB.out | apply below_alloc | apply pw_below_drewN | apply below_drew1 | refine below_set ?_ GE165.out) | exact HB.out))); (case aS => exact (below_size (by repeat (first | (with_reducible first | exact HB.out | apply below_alloc | apply pw_below_drewN | apply below_drew1 | refine below_set ?_ GE165.out) | exact HB.out)))); intro w22 ho hb hmt; rw [← Ny170.out] at ho; have n0_ := Aside0.mk (blk_map (g := gb165) (o := .cells #[.int .i64 ((rd_T41 l0 x16_1).f0), .string ((rd_T41 l0 x16_1).f1)] 41 (0, 0)) (by (with_reducible repeat (first | refine blk_drewN ?_ _ | refine blk_drew ?_ | refine blk_alloc ?_ _)); exact BK165.out) hmt); have n1_ := Aside0.mk (hb); have n2_ := Aside0.mk (ho); clear BK165; clear HB; clear HO_5; have BK165 := n0_; have HB := n1_; have HO172 := n2_; clear n0_ n1_ n2_; clear ho hb hmt))
                          go_roundg k1
                          case measure => have := HK1.out; omega
                          case rel => exact ⟨(ys174), (y170), (true), (wrap64 (x16_1 + 1)), (by first | rfl | (simp; done) | (simp [*]; done)), (by first | rfl | (simp; done) | (simp [*]; done)), (by first | rfl | (simp; done) | (simp [*]; done)), H', ⟨by have := HK1.out; omega⟩, ⟨by (with_reducible repeat (first | apply Kd.Y_alloc | apply Kd.Y_drewN | apply Kd.Y_drew)); exact HO172.out⟩, ⟨by repeat (first | (with_reducible first | exact HB.out | apply below_alloc | apply pw_below_drewN | apply below_drew1 | refine below_set ?_ GE165.out) | exact HB.out)⟩⟩
                        · rw [if_neg c15] at H
                          exact absurd H (by simp)
                      · rw [if_neg c14] at H
                        exact absurd H (by simp)
                    · rw [if_neg c13] at H
                      exact absurd H (by simp)
                  · rw [if_neg c12] at H
                    exact absurd H (by simp)
                · replace c11 := Bool.eq_false_iff.mpr c11
                  subst c11
                  have H1 : (if (Lit.int .i64 ((rd_T41 l0 x16_1).f0)).wf = true then (if x5_1.length < 140737488355328 then (if t166.size + t168.size ≤ 9223372036854775807 then ((some (t166 ++ t168 : ByteArray)).bind fun ys178 => (if x4_1.size + ys178.size ≤ 9223372036854775807 then (ext_Put.l0 k1 (x4_1 ++ ys178) (x5_1 ++ [(rd_T41 l0 x16_1).f0]) (decide (((rd_T41 l0 x16_1).f0) ∈ x5_1)) l0 (l0.length : Int) (wrap64 (x16_1 + 1))) else (none))) else (none)) else (none)) else (none)) = some (r1, r2) := by rw [if_neg (show ¬ (false = true) by decide)] at H; exact H
                  clear H
                  have H := H1
                  clear H1
                  by_cases c23 : (Lit.int .i64 ((rd_T41 l0 x16_1).f0)).wf = true
                  · rw [if_pos c23] at H
                    have LMc23 := Aside0.mk c23
                    clear c23
                    by_cases c24 : x5_1.length < 140737488355328
                    · rw [if_pos c24] at H
                      have LMc24 := Aside0.mk c24
                      clear c24
                      obtain ⟨y175, hy175⟩ : ∃ y_ : List Int, y_ = (x5_1 ++ [(rd_T41 l0 x16_1).f0]) := ⟨_, rfl⟩
                      replace H : (if t166.size + t168.size ≤ 9223372036854775807 then ((some (t166 ++ t168 : ByteArray)).bind fun ys178 => (if x4_1.size + ys178.size ≤ 9223372036854775807 then (ext_Put.l0 k1 (x4_1 ++ ys178) y175 (decide (((rd_T41 l0 x16_1).f0) ∈ x5_1)) l0 (l0.length : Int) (wrap64 (x16_1 + 1))) else (none))) else (none)) = some (r1, r2) := by first | (rw [hy175]; with_reducible exact H) | (have H2_ := (Option.bind_some _ _).symm.trans H; rw [hy175]; with_reducible exact H2_) | (have H2_ := (Option.bind_some _ _).symm.trans H; with_reducible exact H2_) | with_reducible exact H | (rw [hy175]; exact H) | exact H
                      have Ny175 := Aside0.mk hy175
                      clear hy175
                      by_cases c25 : t166.size + t168.size ≤ 9223372036854775807
                      · rw [if_pos c25] at H
                        have c25b0 := eq_true c25
                        have c25b1 : decide (t166.size + t168.size ≤ 9223372036854775807) = true := decide_eq_true c25
                        try have c25b2 : (9223372036854775807 < t166.size + t168.size) = False := eq_false (Nat.not_lt.2 c25)
                        obtain ⟨ys178, hys178⟩ : ∃ y_ : ByteArray, y_ = (t166 ++ t168) := ⟨_, rfl⟩
                        replace H : (if x4_1.size + ys178.size ≤ 9223372036854775807 then (ext_Put.l0 k1 (x4_1 ++ ys178) y175 (decide (((rd_T41 l0 x16_1).f0) ∈ x5_1)) l0 (l0.length : Int) (wrap64 (x16_1 + 1))) else (none)) = some (r1, r2) := by first | (rw [hys178]; with_reducible exact H) | (have H2_ := (Option.bind_some _ _).symm.trans H; rw [hys178]; with_reducible exact H2_) | (have H2_ := (Option.bind_some _ _).symm.trans H; with_reducible exact H2_) | with_reducible exact H | (rw [hys178]; exact H) | exact H
                        have Nys178 := Aside0.mk hys178
                        clear hys178
                        have Sys178 := Nys178.out.symm
                        by_cases c26 : x4_1.size + ys178.size ≤ 9223372036854775807
                        · rw [if_pos c26] at H
                          have c26b0 := eq_true c26
                          have c26b1 : decide (x4_1.size + ys178.size ≤ 9223372036854775807) = true := decide_eq_true c26
                          try have c26b2 : (9223372036854775807 < x4_1.size + ys178.size) = False := eq_false (Nat.not_lt.2 c26)
                          obtain ⟨ys179, hys179⟩ : ∃ y_ : ByteArray, y_ = (x4_1 ++ ys178) := ⟨_, rfl⟩
                          replace H : (ext_Put.l0 k1 ys179 y175 (decide (((rd_T41 l0 x16_1).f0) ∈ x5_1)) l0 (l0.length : Int) (wrap64 (x16_1 + 1))) = some (r1, r2) := by first | (rw [hys179]; with_reducible exact H) | (have H2_ := (Option.bind_some _ _).symm.trans H; rw [hys179]; with_reducible exact H2_) | (have H2_ := (Option.bind_some _ _).symm.trans H; with_reducible exact H2_) | with_reducible exact H | (rw [hys179]; exact H) | exact H
                          have Nys179 := Aside0.mk hys179
                          clear hys179
                          have Sys179 := Nys179.out.symm
                          have H' := Aside0.mk H
                          clear H
                          have p164 : 0 ≤ (x16_1 : Int) := of_decide_eq_true (by first | (with_reducible assumption) | assumption)
                          have q164 : x16_1 < (l0.length : Int) := of_decide_eq_true (by first | (with_reducible assumption) | assumption)
                          obtain ⟨ad164, e164, hx164_0, hx164_1⟩ := at_T41 HR0.out x16_1 p164 q164
                          cases e164
                          replace hx164_0 := (HB.out.cell (World.block_lt_of_cell? w _ hx164_0)).trans hx164_0
                          replace hx164_1 := (HB.out.cell (World.block_lt_of_cell? w _ hx164_1)).trans hx164_1
                          replace p164 := eq_true p164
                          replace q164 := eq_true q164
                          go_wp2_with (first | ((with_reducible refine gate_dst (N := 8) rfl ?_); refine box_event ?hg (N := 8) ?hd (cs := #[.int .i64 0, .string (⟨#[]⟩ : ByteArray)]) (t := 41) ?hr ?_; (case hd => rfl); (case hg => rfl); (case hr => first | (go_simp; done) | (go_simp; rfl)); intro gb165 hg w27 hbox hb; have n0_ := Aside0.mk (Kd.Y_below (by (with_reducible repeat (first | apply Kd.Y_alloc | apply Kd.Y_drewN | apply Kd.Y_drew)); exact HO_5.out) hb); have n1_ := Aside0.mk (below_step (by repeat (first | (with_reducible first | exact HB.out | apply below_alloc | apply pw_below_drewN | apply below_drew1) | exact HB.out)) hb); have n2_ := Aside0.mk (hbox); have n3_ := Aside0.mk ((by rw [hg]; exact (below_size (by repeat (first | (with_reducible first | exact HB.out | apply below_alloc | apply pw_below_drewN | apply below_drew1) | exact HB.out))) : w.heap.size ≤ gb165)); have n4_ := Aside0.mk ((by rw [hg]; exact (below_size (by repeat (first | (with_reducible first | exact HB.out | apply below_alloc | apply pw_below_drewN | apply below_drew1) | exact HB.out))) : w.heap.size ≤ gb165)); clear HO_5; clear HB; have HO_5 := n0_; have HB := n1_; have BK165 := n2_; have GW165 := n3_; have GE165 := n4_; clear n0_ n1_ n2_ n3_ n4_; clear hb hbox hg; have hcz28_0 : w27.cell? ⟨gb165, 0, none⟩ = some (.int .i64 0) := (blk_cell BK165.out 0).trans rfl; have hcz28_1 : w27.cell? ⟨gb165, 1, none⟩ = some (.string (⟨#[]⟩ : ByteArray)) := (blk_cell BK165.out 1).trans rfl; have hfz28_0 := blk_frozen BK165.out 0; have hfz28_1 := blk_frozen BK165.out 1) | ((with_reducible refine gate_callee (f := 39) rfl ?_); refine goesL_ (some 23) rfl rfl Try.func39 (by kernel_rfl) rfl #[.int .i64 ((rd_T41 l0 x16_1).f0), .int .i64 2] rfl (by (try simp only [List.map_toArray, List.map_cons, List.map_nil]); first | done | rfl | (simp only [List.length_drop, List.length_take]; rfl)) ?_; (with_reducible refine (wire_Put.calls ((rd_T41 l0 x16_1).f0) 2 t166 t167 _ A7.out).mono ?_); rintro e w29 ⟨rfl, hb⟩; refine ⟨_, rfl, ?_⟩; have n0_ := Aside0.mk (Kd.Y_below (by (with_reducible repeat (first | apply Kd.Y_alloc | apply Kd.Y_drewN | apply Kd.Y_drew)); exact (Kd.Y_mono (Kd.Y_far (p := ⟨gb165, 1, none⟩) (Kd.Y_far (p := ⟨gb165, 0, none⟩) (Kd.Y_types HO_5.out BK165.out (by decide)) (fun _ hk => hk.2) (.int .i64 ((rd_T41 l0 x16_1).f0))) (fun _ hk => hk.2) (.string ((rd_T41 l0 x16_1).f1))) (fun _ h_ => h_.1))) hb); have n1_ := Aside0.mk (blk_below (g := gb165) (o := .cells #[.int .i64 ((rd_T41 l0 x16_1).f0), .string ((rd_T41 l0 x16_1).f1)] 41 (0, 0)) (by (with_reducible repeat (first | refine blk_drewN ?_ _ | refine blk_drew ?_ | refine blk_alloc ?_ _)); refine blk_put (cs := #[.int .i64 ((rd_T41 l0 x16_1).f0), .string (⟨#[]⟩ : ByteArray)]) ?_ 1 _ rfl; (with_reducible repeat (first | refine blk_drewN ?_ _ | refine blk_drew ?_ | refine blk_alloc ?_ _)); refine blk_put (cs := #[.int .i64 0, .string (⟨#[]⟩ : ByteArray)]) ?_ 0 _ rfl; (with_reducible repeat (first | refine blk_drewN ?_ _ | refine blk_drew ?_ | refine blk_alloc ?_ _)); exact BK165.out) hb); have n2_ := Aside0.mk (below_step (by repeat (first | (with_reducible first | exact HB.out | apply below_alloc | apply pw_below_drewN | apply below_drew1 | refine below_set ?_ GE165.out) | exact HB.out)) hb); clear HO_5; clear BK165; clear HB; have HO_5 := n0_; have BK165 := n1_; have HB := n2_; clear n0_ n1_ n2_; (try clear hb); (try clear hb2); (try clear hk); (try clear hi); have hcz30_0 : w29.cell? ⟨gb165, 0, none⟩ = some (.int .i64 ((rd_T41 l0 x16_1).f0)) := (blk_cell BK165.out 0).trans rfl; have hcz30_1 : w29.cell? ⟨gb165, 1, none⟩ = some (.string ((rd_T41 l0 x16_1).f1)) := (blk_cell BK165.out 1).trans rfl; have hfz30_0 := blk_frozen BK165.out 0; have hfz30_1 := blk_frozen BK165.out 1) | ((with_reducible refine gate_callee (f := 40) rfl ?_); refine goesL_ (some 29) rfl rfl Try.func40 (by kernel_rfl) rfl #[.string ((rd_T41 l0 x16_1).f1), .int .i64 2] rfl (by (try simp only [List.map_toArray, List.map_cons, List.map_nil]); first | done | rfl | (simp only [List.length_drop, List.length_take]; rfl)) ?_; (with_reducible refine (wire_PutVec.calls ((rd_T41 l0 x16_1).f1) 2 t168 t169 _ A8.out).mono ?_); rintro e w31 ⟨rfl, hb⟩; refine ⟨_, rfl, ?_⟩; have n0_ := Aside0.mk (Kd.Y_below (by (with_reducible repeat (first | apply Kd.Y_alloc | apply Kd.Y_drewN | apply Kd.Y_drew)); exact HO_5.out) hb); have n1_ := Aside0.mk (blk_below (g := gb165) (o := .cells #[.int .i64 ((rd_T41 l0 x16_1).f0), .string ((rd_T41 l0 x16_1).f1)] 41 (0, 0)) (by (with_reducible repeat (first | refine blk_drewN ?_ _ | refine blk_drew ?_ | refine blk_alloc ?_ _)); exact BK165.out) hb); have n2_ := Aside0.mk (below_step (by repeat (first | (with_reducible first | exact HB.out | apply below_alloc | apply pw_below_drewN | apply below_drew1 | refine below_set ?_ GE165.out) | exact HB.out)) hb); clear HO_5; clear BK165; clear HB; have HO_5 := n0_; have BK165 := n1_; have HB := n2_; clear n0_ n1_ n2_; (try clear hb); (try clear hb2); (try clear hk); (try clear hi); have hcz32_0 : w31.cell? ⟨gb165, 0, none⟩ = some (.int .i64 ((rd_T41 l0 x16_1).f0)) := (blk_cell BK165.out 0).trans rfl; have hcz32_1 : w31.cell? ⟨gb165, 1, none⟩ = some (.string ((rd_T41 l0 x16_1).f1)) := (blk_cell BK165.out 1).trans rfl; have hfz32_0 := blk_frozen BK165.out 0; have hfz32_1 := blk_frozen BK165.out 1) | (at_lookup; (try (refine gate_guard (by rfl) ?_; dsimp only)); refine Kd.Y_look (Kd.int .i64) (ok := fun _ => True) (base := w.heap.size) (xs := x5_1) 3 rfl 68 _ _ rfl Try.underlying68 Try.underlying3 Try.underlying4 (Kd.zeroB _) (v := v162) (k := ((rd_T41 l0 x16_1).f0)) rfl rfl LMc23.out ?aO ?_; (case aO => exact (by (with_reducible repeat (first | apply Kd.Y_alloc | apply Kd.Y_drewN | apply Kd.Y_drew)); exact HO_5.out)); intro w33 hb; have n0_ := Aside0.mk (Kd.Y_below (by (with_reducible repeat (first | apply Kd.Y_alloc | apply Kd.Y_drewN | apply Kd.Y_drew)); exact HO_5.out) hb); have n1_ := Aside0.mk (blk_below (g := gb165) (o := .cells #[.int .i64 ((rd_T41 l0 x16_1).f0), .string ((rd_T41 l0 x16_1).f1)] 41 (0, 0)) (by (with_reducible repeat (first | refine blk_drewN ?_ _ | refine blk_drew ?_ | refine blk_alloc ?_ _)); exact BK165.out) hb); have n2_ := Aside0.mk (below_step (by repeat (first | (with_reducible first | exact HB.out | apply below_alloc | apply pw_below_drewN | apply below_drew1 | refine below_set ?_ GE165.out) | exact HB.out)) hb); clear HO_5; clear BK165; clear HB; have HO_5 := n0_; have BK165 := n1_; have HB := n2_; clear n0_ n1_ n2_; clear hb; have hcz34_0 : w33.cell? ⟨gb165, 0, none⟩ = some (.int .i64 ((rd_T41 l0 x16_1).f0)) := (blk_cell BK165.out 0).trans rfl; have hcz34_1 : w33.cell? ⟨gb165, 1, none⟩ = some (.string ((rd_T41 l0 x16_1).f1)) := (blk_cell BK165.out 1).trans rfl; have hfz34_0 := blk_frozen BK165.out 0; have hfz34_1 := blk_frozen BK165.out 1) | (at_mapUpdate; refine Kd.Y_put (Kd.int .i64) (w0 := w) w.heap.size 3 rfl 68 _ _ _ rfl Try.underlying68 Try.underlying3 Try.underlying4 v162 x5_1 ((rd_T41 l0 x16_1).f0) (ok := fun _ => True) rfl rfl rfl LMc23.out (by have := LMc24.out; simp only [maxLen]; omega) ?aO ?aB ?aS ?_; (case aO => exact (by (with_reducible repeat (first | apply Kd.Y_alloc | apply Kd.Y_drewN | apply Kd.Y_drew)); exact HO_5.out)); (case aB => exact (by repeat (first | (with_reducible first | exact HB.out | apply below_alloc | apply pw_below_drewN | apply below_drew1 | refine below_set ?_ GE165.out) | exact HB.out))); (case aS => exact (below_size (by repeat (first | (with_reducible first | exact HB.out | apply below_alloc | apply pw_below_drewN | apply below_drew1 | refine below_set ?_ GE165.out) | exact HB.out)))); intro w35 ho hb hmt; rw [← Ny175.out] at ho; have n0_ := Aside0.mk (blk_map (g := gb165) (o := .cells #[.int .i64 ((rd_T41 l0 x16_1).f0), .string ((rd_T41 l0 x16_1).f1)] 41 (0, 0)) (by (with_reducible repeat (first | refine blk_drewN ?_ _ | refine blk_drew ?_ | refine blk_alloc ?_ _)); exact BK165.out) hmt); have n1_ := Aside0.mk (hb); have n2_ := Aside0.mk (ho); clear BK165; clear HB; clear HO_5; have BK165 := n0_; have HB := n1_; have HO177 := n2_; clear n0_ n1_ n2_; clear ho hb hmt))
                          go_roundg k1
                          case measure => have := HK1.out; omega
                          case rel => exact ⟨(ys179), (y175), (decide (((rd_T41 l0 x16_1).f0) ∈ x5_1)), (wrap64 (x16_1 + 1)), (by first | rfl | (simp; done) | (simp [*]; done)), (by first | rfl | (simp; done) | (simp [*]; done)), (by first | rfl | (simp; done) | (simp [*]; done)), H', ⟨by have := HK1.out; omega⟩, ⟨by (with_reducible repeat (first | apply Kd.Y_alloc | apply Kd.Y_drewN | apply Kd.Y_drew)); exact HO177.out⟩, ⟨by repeat (first | (with_reducible first | exact HB.out | apply below_alloc | apply pw_below_drewN | apply below_drew1 | refine below_set ?_ GE165.out) | exact HB.out)⟩⟩
                        · rw [if_neg c26] at H
                          exact absurd H (by simp)
                      · rw [if_neg c25] at H
                        exact absurd H (by simp)
                    · rw [if_neg c24] at H
                      exact absurd H (by simp)
                  · rw [if_neg c23] at H
                    exact absurd H (by simp)
              · rw [if_neg c10] at H
                have c10b0 : (t169 == 0) = false := beq_eq_false_iff_ne.mpr c10
                have c10b1 : (t169 != 0) = true := bne_iff_ne.mpr c10
                simp only [Option.some.injEq, Prod.mk.injEq] at H
                obtain ⟨rfl, rfl⟩ := H
                have p164 : 0 ≤ (x16_1 : Int) := of_decide_eq_true (by first | (with_reducible assumption) | assumption)
                have q164 : x16_1 < (l0.length : Int) := of_decide_eq_true (by first | (with_reducible assumption) | assumption)
                obtain ⟨ad164, e164, hx164_0, hx164_1⟩ := at_T41 HR0.out x16_1 p164 q164
                cases e164
                replace hx164_0 := (HB.out.cell (World.block_lt_of_cell? w _ hx164_0)).trans hx164_0
                replace hx164_1 := (HB.out.cell (World.block_lt_of_cell? w _ hx164_1)).trans hx164_1
                replace p164 := eq_true p164
                replace q164 := eq_true q164
                go_wp2_with (first | ((with_reducible refine gate_dst (N := 8) rfl ?_); refine box_event ?hg (N := 8) ?hd (cs := #[.int .i64 0, .string (⟨#[]⟩ : ByteArray)]) (t := 41) ?hr ?_; (case hd => rfl); (case hg => rfl); (case hr => first | (go_simp; done) | (go_simp; rfl)); intro gb165 hg w36 hbox hb; have n0_ := Aside0.mk (Kd.Y_below (by (with_reducible repeat (first | apply Kd.Y_alloc | apply Kd.Y_drewN | apply Kd.Y_drew)); exact HO_5.out) hb); have n1_ := Aside0.mk (below_step (by repeat (first | (with_reducible first | exact HB.out | apply below_alloc | apply pw_below_drewN | apply below_drew1) | exact HB.out)) hb); have n2_ := Aside0.mk (hbox); have n3_ := Aside0.mk ((by rw [hg]; exact (below_size (by repeat (first | (with_reducible first | exact HB.out | apply below_alloc | apply pw_below_drewN | apply below_drew1) | exact HB.out))) : w.heap.size ≤ gb165)); have n4_ := Aside0.mk ((by rw [hg]; exact (below_size (by repeat (first | (with_reducible first | exact HB.out | apply below_alloc | apply pw_below_drewN | apply below_drew1) | exact HB.out))) : w.heap.size ≤ gb165)); clear HO_5; clear HB; have HO_5 := n0_; have HB := n1_; have BK165 := n2_; have GW165 := n3_; have GE165 := n4_; clear n0_ n1_ n2_ n3_ n4_; clear hb hbox hg; have hcz37_0 : w36.cell? ⟨gb165, 0, none⟩ = some (.int .i64 0) := (blk_cell BK165.out 0).trans rfl; have hcz37_1 : w36.cell? ⟨gb165, 1, none⟩ = some (.string (⟨#[]⟩ : ByteArray)) := (blk_cell BK165.out 1).trans rfl; have hfz37_0 := blk_frozen BK165.out 0; have hfz37_1 := blk_frozen BK165.out 1) | ((with_reducible refine gate_callee (f := 39) rfl ?_); refine goesL_ (some 23) rfl rfl Try.func39 (by kernel_rfl) rfl #[.int .i64 ((rd_T41 l0 x16_1).f0), .int .i64 2] rfl (by (try simp only [List.map_toArray, List.map_cons, List.map_nil]); first | done | rfl | (simp only [List.length_drop, List.length_take]; rfl)) ?_; (with_reducible refine (wire_Put.calls ((rd_T41 l0 x16_1).f0) 2 t166 t167 _ A7.out).mono ?_); rintro e w38 ⟨rfl, hb⟩; refine ⟨_, rfl, ?_⟩; have n0_ := Aside0.mk (Kd.Y_below (by (with_reducible repeat (first | apply Kd.Y_alloc | apply Kd.Y_drewN | apply Kd.Y_drew)); exact (Kd.Y_mono (Kd.Y_far (p := ⟨gb165, 1, none⟩) (Kd.Y_far (p := ⟨gb165, 0, none⟩) (Kd.Y_types HO_5.out BK165.out (by decide)) (fun _ hk => hk.2) (.int .i64 ((rd_T41 l0 x16_1).f0))) (fun _ hk => hk.2) (.string ((rd_T41 l0 x16_1).f1))) (fun _ h_ => h_.1))) hb); have n1_ := Aside0.mk (blk_below (g := gb165) (o := .cells #[.int .i64 ((rd_T41 l0 x16_1).f0), .string ((rd_T41 l0 x16_1).f1)] 41 (0, 0)) (by (with_reducible repeat (first | refine blk_drewN ?_ _ | refine blk_drew ?_ | refine blk_alloc ?_ _)); refine blk_put (cs := #[.int .i64 ((rd_T41 l0 x16_1).f0), .string (⟨#[]⟩ : ByteArray)]) ?_ 1 _ rfl; (with_reducible repeat (first | refine blk_drewN ?_ _ | refine blk_drew ?_ | refine blk_alloc ?_ _)); refine blk_put (cs := #[.int .i64 0, .string (⟨#[]⟩ : ByteArray)]) ?_ 0 _ rfl; (with_reducible repeat (first | refine blk_drewN ?_ _ | refine blk_drew ?_ | refine blk_alloc ?_ _)); exact BK165.out) hb); have n2_ := Aside0.mk (below_step (by repeat (first | (with_reducible first | exact HB.out | apply below_alloc | apply pw_below_drewN | apply below_drew1 | refine below_set ?_ GE165.out) | exact HB.out)) hb); clear HO_5; clear BK165; clear HB; have HO_5 := n0_; have BK165 := n1_; have HB := n2_; clear n0_ n1_ n2_; (try clear hb); (try clear hb2); (try clear hk); (try clear hi); have hcz39_0 : w38.cell? ⟨gb165, 0, none⟩ = some (.int .i64 ((rd_T41 l0 x16_1).f0)) := (blk_cell BK165.out 0).trans rfl; have hcz39_1 : w38.cell? ⟨gb165, 1, none⟩ = some (.string ((rd_T41 l0 x16_1).f1)) := (blk_cell BK165.out 1).trans rfl; have hfz39_0 := blk_frozen BK165.out 0; have hfz39_1 := blk_frozen BK165.out 1) | ((with_reducible refine gate_callee (f := 40) rfl ?_); refine goesL_ (some 29) rfl rfl Try.func40 (by kernel_rfl) rfl #[.string ((rd_T41 l0 x16_1).f1), .int .i64 2] rfl (by (try simp only [List.map_toArray, List.map_cons, List.map_nil]); first | done | rfl | (simp only [List.length_drop, List.length_take]; rfl)) ?_; (with_reducible refine (wire_PutVec.calls ((rd_T41 l0 x16_1).f1) 2 t168 t169 _ A8.out).mono ?_); rintro e w40 ⟨rfl, hb⟩; refine ⟨_, rfl, ?_⟩; have n0_ := Aside0.mk (Kd.Y_below (by (with_reducible repeat (first | apply Kd.Y_alloc | apply Kd.Y_drewN | apply Kd.Y_drew)); exact HO_5.out) hb); have n1_ := Aside0.mk (blk_below (g := gb165) (o := .cells #[.int .i64 ((rd_T41 l0 x16_1).f0), .string ((rd_T41 l0 x16_1).f1)] 41 (0, 0)) (by (with_reducible repeat (first | refine blk_drewN ?_ _ | refine blk_drew ?_ | refine blk_alloc ?_ _)); exact BK165.out) hb); have n2_ := Aside0.mk (below_step (by repeat (first | (with_reducible first | exact HB.out | apply below_alloc | apply pw_below_drewN | apply below_drew1 | refine below_set ?_ GE165.out) | exact HB.out)) hb); clear HO_5; clear BK165; clear HB; have HO_5 := n0_; have BK165 := n1_; have HB := n2_; clear n0_ n1_ n2_; (try clear hb); (try clear hb2); (try clear hk); (try clear hi)))
                go_ret2
                exact ⟨by first | rfl | (simp [errW_none, errW_some] <;> rfl) | (simp [*, errW_none, errW_some] <;> rfl), by repeat (first | (with_reducible first | exact HB.out | apply below_alloc | apply pw_below_drewN | apply below_drew1 | refine below_set ?_ GE165.out) | exact HB.out)⟩
            · rw [if_neg c9] at H
              have c9b0 : (t167 == 0) = false := beq_eq_false_iff_ne.mpr c9
              have c9b1 : (t167 != 0) = true := bne_iff_ne.mpr c9
              simp only [Option.some.injEq, Prod.mk.injEq] at H
              obtain ⟨rfl, rfl⟩ := H
              have p164 : 0 ≤ (x16_1 : Int) := of_decide_eq_true (by first | (with_reducible assumption) | assumption)
              have q164 : x16_1 < (l0.length : Int) := of_decide_eq_true (by first | (with_reducible assumption) | assumption)
              obtain ⟨ad164, e164, hx164_0, hx164_1⟩ := at_T41 HR0.out x16_1 p164 q164
              cases e164
              replace hx164_0 := (HB.out.cell (World.block_lt_of_cell? w _ hx164_0)).trans hx164_0
              replace hx164_1 := (HB.out.cell (World.block_lt_of_cell? w _ hx164_1)).trans hx164_1
              replace p164 := eq_true p164
              replace q164 := eq_true q164
              go_wp2_with (first | ((with_reducible refine gate_dst (N := 8) rfl ?_); refine box_event ?hg (N := 8) ?hd (cs := #[.int .i64 0, .string (⟨#[]⟩ : ByteArray)]) (t := 41) ?hr ?_; (case hd => rfl); (case hg => rfl); (case hr => first | (go_simp; done) | (go_simp; rfl)); intro gb165 hg w41 hbox hb; have n0_ := Aside0.mk (Kd.Y_below (by (with_reducible repeat (first | apply Kd.Y_alloc | apply Kd.Y_drewN | apply Kd.Y_drew)); exact HO_5.out) hb); have n1_ := Aside0.mk (below_step (by repeat (first | (with_reducible first | exact HB.out | apply below_alloc | apply pw_below_drewN | apply below_drew1) | exact HB.out)) hb); have n2_ := Aside0.mk (hbox); have n3_ := Aside0.mk ((by rw [hg]; exact (below_size (by repeat (first | (with_reducible first | exact HB.out | apply below_alloc | apply pw_below_drewN | apply below_drew1) | exact HB.out))) : w.heap.size ≤ gb165)); have n4_ := Aside0.mk ((by rw [hg]; exact (below_size (by repeat (first | (with_reducible first | exact HB.out | apply below_alloc | apply pw_below_drewN | apply below_drew1) | exact HB.out))) : w.heap.size ≤ gb165)); clear HO_5; clear HB; have HO_5 := n0_; have HB := n1_; have BK165 := n2_; have GW165 := n3_; have GE165 := n4_; clear n0_ n1_ n2_ n3_ n4_; clear hb hbox hg; have hcz42_0 : w41.cell? ⟨gb165, 0, none⟩ = some (.int .i64 0) := (blk_cell BK165.out 0).trans rfl; have hcz42_1 : w41.cell? ⟨gb165, 1, none⟩ = some (.string (⟨#[]⟩ : ByteArray)) := (blk_cell BK165.out 1).trans rfl; have hfz42_0 := blk_frozen BK165.out 0; have hfz42_1 := blk_frozen BK165.out 1) | ((with_reducible refine gate_callee (f := 39) rfl ?_); refine goesL_ (some 23) rfl rfl Try.func39 (by kernel_rfl) rfl #[.int .i64 ((rd_T41 l0 x16_1).f0), .int .i64 2] rfl (by (try simp only [List.map_toArray, List.map_cons, List.map_nil]); first | done | rfl | (simp only [List.length_drop, List.length_take]; rfl)) ?_; (with_reducible refine (wire_Put.calls ((rd_T41 l0 x16_1).f0) 2 t166 t167 _ A7.out).mono ?_); rintro e w43 ⟨rfl, hb⟩; refine ⟨_, rfl, ?_⟩; have n0_ := Aside0.mk (Kd.Y_below (by (with_reducible repeat (first | apply Kd.Y_alloc | apply Kd.Y_drewN | apply Kd.Y_drew)); exact (Kd.Y_mono (Kd.Y_far (p := ⟨gb165, 1, none⟩) (Kd.Y_far (p := ⟨gb165, 0, none⟩) (Kd.Y_types HO_5.out BK165.out (by decide)) (fun _ hk => hk.2) (.int .i64 ((rd_T41 l0 x16_1).f0))) (fun _ hk => hk.2) (.string ((rd_T41 l0 x16_1).f1))) (fun _ h_ => h_.1))) hb); have n1_ := Aside0.mk (blk_below (g := gb165) (o := .cells #[.int .i64 ((rd_T41 l0 x16_1).f0), .string ((rd_T41 l0 x16_1).f1)] 41 (0, 0)) (by (with_reducible repeat (first | refine blk_drewN ?_ _ | refine blk_drew ?_ | refine blk_alloc ?_ _)); refine blk_put (cs := #[.int .i64 ((rd_T41 l0 x16_1).f0), .string (⟨#[]⟩ : ByteArray)]) ?_ 1 _ rfl; (with_reducible repeat (first | refine blk_drewN ?_ _ | refine blk_drew ?_ | refine blk_alloc ?_ _)); refine blk_put (cs := #[.int .i64 0, .string (⟨#[]⟩ : ByteArray)]) ?_ 0 _ rfl; (with_reducible repeat (first | refine blk_drewN ?_ _ | refine blk_drew ?_ | refine blk_alloc ?_ _)); exact BK165.out) hb); have n2_ := Aside0.mk (below_step (by repeat (first | (with_reducible first | exact HB.out | apply below_alloc | apply pw_below_drewN | apply below_drew1 | refine below_set ?_ GE165.out) | exact HB.out)) hb); clear HO_5; clear BK165; clear HB; have HO_5 := n0_; have BK165 := n1_; have HB := n2_; clear n0_ n1_ n2_; (try clear hb); (try clear hb2); (try clear hk); (try clear hi); have hcz44_0 : w43.cell? ⟨gb165, 0, none⟩ = some (.int .i64 ((rd_T41 l0 x16_1).f0)) := (blk_cell BK165.out 0).trans rfl; have hcz44_1 : w43.cell? ⟨gb165, 1, none⟩ = some (.string ((rd_T41 l0 x16_1).f1)) := (blk_cell BK165.out 1).trans rfl; have hfz44_0 := blk_frozen BK165.out 0; have hfz44_1 := blk_frozen BK165.out 1) | ((with_reducible refine gate_callee (f := 40) rfl ?_); refine goesL_ (some 29) rfl rfl Try.func40 (by kernel_rfl) rfl #[.string ((rd_T41 l0 x16_1).f1), .int .i64 2] rfl (by (try simp only [List.map_toArray, List.map_cons, List.map_nil]); first | done | rfl | (simp only [List.length_drop, List.length_take]; rfl)) ?_; (with_reducible refine (wire_PutVec.calls ((rd_T41 l0 x16_1).f1) 2 t168 t169 _ A8.out).mono ?_); rintro e w45 ⟨rfl, hb⟩; refine ⟨_, rfl, ?_⟩; have n0_ := Aside0.mk (Kd.Y_below (by (with_reducible repeat (first | apply Kd.Y_alloc | apply Kd.Y_drewN | apply Kd.Y_drew)); exact HO_5.out) hb); have n1_ := Aside0.mk (blk_below (g := gb165) (o := .cells #[.int .i64 ((rd_T41 l0 x16_1).f0), .string ((rd_T41 l0 x16_1).f1)] 41 (0, 0)) (by (with_reducible repeat (first | refine blk_drewN ?_ _ | refine blk_drew ?_ | refine blk_alloc ?_ _)); exact BK165.out) hb); have n2_ := Aside0.mk (below_step (by repeat (first | (with_reducible first | exact HB.out | apply below_alloc | apply pw_below_drewN | apply below_drew1 | refine below_set ?_ GE165.out) | exact HB.out)) hb); clear HO_5; clear BK165; clear HB; have HO_5 := n0_; have BK165 := n1_; have HB := n2_; clear n0_ n1_ n2_; (try clear hb); (try clear hb2); (try clear hk); (try clear hi)))
              go_ret2
              exact ⟨by first | rfl | (simp [errW_none, errW_some] <;> rfl) | (simp [*, errW_none, errW_some] <;> rfl), by repeat (first | (with_reducible first | exact HB.out | apply below_alloc | apply pw_below_drewN | apply below_drew1 | refine below_set ?_ GE165.out) | exact HB.out)⟩
          · rw [if_neg c6] at H
            exact absurd H (by simp)
        · rw [if_neg c5] at H
          exact absurd H (by simp)
      · rw [if_neg c4] at H
        have c4b0 : decide (x16_1 < (l0.length : Int)) = false := decide_eq_false c4
        clear c4
        by_cases c46 : x6_1 = true
        · subst c46
          have H1 : (some ((⟨#[]⟩ : ByteArray), 1601)) = some (r1, r2) := by rw [if_pos rfl] at H; exact H
          clear H
          have H := H1
          clear H1
          simp only [Option.some.injEq, Prod.mk.injEq] at H
          obtain ⟨rfl, rfl⟩ := H
          go_wp2
          go_ret2
          exact ⟨by first | rfl | (simp [errW_none, errW_some] <;> rfl) | (simp [*, errW_none, errW_some] <;> rfl), by repeat (first | (with_reducible first | exact HB.out | apply below_alloc | apply pw_below_drewN | apply below_drew1) | exact HB.out)⟩
        · replace c46 := Bool.eq_false_iff.mpr c46
          subst c46
          have H1 : (some (x4_1, 0)) = some (r1, r2) := by rw [if_neg (show ¬ (false = true) by decide)] at H; exact H
          clear H
          have H := H1
          clear H1
          simp only [Option.some.injEq, Prod.mk.injEq] at H
          obtain ⟨rfl, rfl⟩ := H
          go_wp2
          go_ret2
          exact ⟨by first | rfl | (simp [errW_none, errW_some] <;> rfl) | (simp [*, errW_none, errW_some] <;> rfl), by repeat (first | (with_reducible first | exact HB.out | apply below_alloc | apply pw_below_drewN | apply below_drew1) | exact HB.out)⟩
def halberdlaw0_Num.f (a0 : Int) : Option (Int) := some a0
set_option maxHeartbeats 8000000 in
set_option maxRecDepth 100000 in
theorem halberdlaw0_Num.calls (a0 : Int) (r : Int) (w : World) (h : halberdlaw0_Num.f a0 = some r) :
    Calls Try.prog 18 #[.int .i64 a0] w fun e w' => e = .returned (.int .i64 r) ∧ Drawn0 w w' := by
  have H : (some a0) = some r := h
  clear h
  obtain rfl := Option.some.inj H
  go_enter Try.func18, Try.ntmps18
  go_wp2
  go_ret
  exact ⟨by first | rfl | (simp; done) | (simp [*]; done), by repeat (first | exact Drawn0.refl _ | apply Drawn0.step)⟩
end Go.Proofs.Ytlkebjkpmiehcaa.E
end
section
namespace Go.Proofs.Ytlkebjkpmiehcaa.Pure
open Go.RowKit Go.Proofs.Ytlkebjkpmiehcaa.E Go.Proofs.YtlkebjkpmiehcaaW.PrintWords Go.Proofs.YtlkebjkpmiehcaaW.PrintLast Go.Proofs.YtlkebjkpmiehcaaW.PrintMore
set_option linter.unusedVariables false
set_option linter.unusedSimpArgs false
theorem w64 {a : Int} (h0 : -9223372036854775808 ≤ a) (h1 : a ≤ 9223372036854775807) : wrap64 a = a := by unfold wrap64; omega
theorem ev_const {α : Type} {x : Option α} {r : α} (h : x = some r) : Ev (fun _ => x) r := ⟨0, fun _ _ => h⟩
theorem wraps_i64 : ∀ n : Int, 0 ≤ n → n < 2 ^ 63 → IntKind.i64.wrap n = n := by
  intro n h0 h1
  simp [IntKind.wrap, IntKind.bits, IntKind.signed]
  omega
def nv (s : ByteArray) (i : Int) : Nat → Int
  | 0 => 0
  | n + 1 => nv s i n * 256 + bt s (i + n)
theorem nv_bd (s : ByteArray) (i : Int) : ∀ n, 0 ≤ nv s i n ∧ nv s i n < 256 ^ n
  | 0 => by simp [nv]
  | n + 1 => by
    have h := nv_bd s i n
    have b := bt_range s (i + n)
    simp only [nv]
    rw [Int.pow_succ]
    omega
theorem nv_bd4 (s : ByteArray) (i : Int) (n : Nat) (h : n ≤ 4) : 0 ≤ nv s i n ∧ nv s i n < 4294967296 := by
  have h1 := nv_bd s i n
  refine ⟨h1.1, Int.lt_of_lt_of_le h1.2 ?_⟩
  have : n = 0 ∨ n = 1 ∨ n = 2 ∨ n = 3 ∨ n = 4 := by omega
  rcases this with rfl | rfl | rfl | rfl | rfl <;> decide
theorem or_byte {x y : Int} (h0 : 0 ≤ x) (h1 : x < 4294967296) (h2 : 0 ≤ y) (h3 : y ≤ 255) : Go.bits .or .i64 (wrap64 (x * 256)) (wrap64 y) = x * 256 + y := by
  rw [w64 (by omega) (by omega), w64 (a := y) (by omega) (by omega)]
  exact Go.bits_join .i64 63 (by decide) wraps_i64 8 (x * 256) y (by omega) (by omega) (by omega) (by omega) (by omega) (by omega)
theorem number_loop (s : ByteArray) (a : Int) (n : Nat) (ha : 0 ≤ a) (hn : n ≤ 4) (h : a + n ≤ s.size) (hs : s.size ≤ 140737488351232) :
    ∀ d j : Nat, j + d = n → Ev (fun k => wire_number.l0 k s a n (nv s a j) n j) (nv s a n, a + n, 0) := by
  intro d
  induction d with
  | zero =>
    intro j hj
    obtain rfl : j = n := by omega
    refine Ev.step (f := fun _ => some (nv s a j, a + (j : Int), 0)) (fun k => ?_) (Ev.now _)
    simp only [wire_number.l0]
    rw [if_neg (by omega), w64 (a := a + (j : Int)) (by omega) (by omega)]
  | succ d ih =>
    intro j hj
    refine Ev.step (f := fun k => wire_number.l0 k s a n (nv s a (j + 1)) n ((j + 1 : Nat) : Int)) (fun k => ?_) (ih (j + 1) (by omega))
    simp only [wire_number.l0]
    have b := bt_range s (a + (j : Int))
    have v := nv_bd4 s a j (by omega)
    rw [if_pos (by omega), w64 (a := a + (j : Int)) (by omega) (by omega), if_pos (by omega), if_pos (by omega), or_byte v.1 v.2 b.1 b.2, w64 (a := (j : Int) + 1) (by omega) (by omega)]
    rfl
def CutAt (s : ByteArray) (a : Int) (n : Int) : Prop := a < 0 ∨ a > s.size ∨ s.size - a < n
theorem number_ok {s : ByteArray} {a : Int} {n : Nat} (ha : 0 ≤ a) (hn : n ≤ 4) (h : a + n ≤ s.size) (hs : s.size ≤ 140737488351232) :
    Ev (fun k => wire_number.f k s a n) (nv s a n, a + n, 0) := by
  refine Ev.congr (f := fun k => wire_number.j0 k s a n false) (fun k => ?_) ?_
  · unfold wire_number.f
    rw [if_neg (by omega), if_neg (by omega), w64 (by omega) (by omega)]
    congr 1
    exact decide_eq_false (by omega)
  · refine Ev.step (f := fun k => wire_number.l0 k s a n 0 n 0) (fun k => ?_) (number_loop s a n ha hn h hs n 0 (by omega))
    simp only [wire_number.j0]
    rfl
theorem number_cut {s : ByteArray} {a : Int} {n : Int} (hc : CutAt s a n) (hs : s.size ≤ 140737488351232) :
    Ev (fun k => wire_number.f k s a n) (0, 0, 100) := by
  have key : Ev (fun k => wire_number.j0 k s a n true) (0, 0, 100) := Ev.step (f := fun _ => some (0, 0, 100)) (fun k => by simp only [wire_number.j0]; rfl) (Ev.now _)
  refine Ev.congr (f := fun k => wire_number.j0 k s a n true) (fun k => ?_) key
  unfold wire_number.f CutAt at *
  by_cases h0 : a < 0
  · rw [if_pos h0]
  · rw [if_neg h0]
    by_cases h1 : a > (s.size : Int)
    · rw [if_pos h1]
    · rw [if_neg h1, w64 (by omega) (by omega)]
      congr 1
      exact decide_eq_true (by omega)
theorem num_f (e : Int) : halberdlaw0_Num.f e = some e := rfl
theorem evPos {α : Type} {c : Prop} [Decidable c] {g f : Nat → Option α} {r : α} (h : c) (k : Ev g r) : Ev (fun n => if c then g n else f n) r := by
  obtain ⟨K, k⟩ := k
  exact ⟨K, fun n hn => by simp only []; rw [if_pos h]; exact k n hn⟩
theorem evNeg {α : Type} {c : Prop} [Decidable c] {g f : Nat → Option α} {r : α} (h : ¬ c) (k : Ev f r) : Ev (fun n => if c then g n else f n) r := by
  obtain ⟨K, k⟩ := k
  exact ⟨K, fun n hn => by simp only []; rw [if_neg h]; exact k n hn⟩
theorem toNat_ofInt64 (x : Int) : (BitVec.ofInt 64 x).toNat = (x % 18446744073709551616).toNat := by
  rw [BitVec.toNat_ofInt]
  have : ((2 ^ 64 : Nat) : Int) = 18446744073709551616 := rfl
  rw [this]
theorem and_mask (x : Int) (i : Nat) (hi : i ≤ 62) : Go.bits .and .i64 x ((2 ^ i - 1 : Nat) : Int) = x % ((2 ^ i : Nat) : Int) := by
  have hp : 0 < 2 ^ i := Nat.two_pow_pos i
  have hq : 2 ^ i ≤ 4611686018427387904 := by
    have : (4611686018427387904 : Nat) = 2 ^ 62 := by decide
    rw [this]; exact Nat.pow_le_pow_right (by decide) hi
  have hd : ((2 ^ i : Nat) : Int) ∣ 18446744073709551616 := by
    have h1 : (2 ^ i : Nat) ∣ 2 ^ 64 := Nat.pow_dvd_pow 2 (by omega)
    have h2 : ((2 ^ 64 : Nat) : Int) = 18446744073709551616 := rfl
    rw [← h2]
    exact Int.natCast_dvd_natCast.mpr h1
  have e2 : (BitVec.ofInt 64 x &&& BitVec.ofInt 64 ((2 ^ i - 1 : Nat) : Int)).toNat = (x % 18446744073709551616).toNat % 2 ^ i := by
    have hm : 2 ^ i - 1 < 2 ^ 64 := by
      have : (2 : Nat) ^ 64 = 18446744073709551616 := by decide
      omega
    rw [BitVec.toNat_and, BitVec.ofInt_natCast, BitVec.toNat_ofNat, Nat.mod_eq_of_lt hm, toNat_ofInt64, Nat.and_two_pow_sub_one_eq_mod]
  have e0 : Go.bits .and .i64 x ((2 ^ i - 1 : Nat) : Int) = IntKind.i64.wrap (((BitVec.ofInt 64 x &&& BitVec.ofInt 64 ((2 ^ i - 1 : Nat) : Int)).toNat : Nat) : Int) := rfl
  rw [e0, e2]
  generalize 2 ^ i = m at *
  have hb := Int.emod_nonneg x (b := (m : Int)) (by omega)
  have hl := Int.emod_lt_of_pos x (b := (m : Int)) (by omega)
  have hn := Int.emod_nonneg x (b := 18446744073709551616) (by decide)
  have hz := Int.emod_emod_of_dvd x hd
  rw [Int.natCast_emod, Int.toNat_of_nonneg hn, hz, wraps_i64 _ hb (by omega)]
def numOf (s : ByteArray) (a : Int) (n : Nat) : Int × Int × Int :=
  if a < 0 ∨ a > s.size ∨ s.size - a < n then (0, 0, 100) else (nv s a n, a + n, 0)
theorem number_any (s : ByteArray) (a : Int) (n : Nat) (hn : n ≤ 4) (hs : s.size ≤ 140737488351232) : Ev (fun k => wire_number.f k s a n) (numOf s a n) := by
  unfold numOf
  by_cases hc : a < 0 ∨ a > s.size ∨ s.size - a < n
  · rw [if_pos hc]; exact number_cut hc hs
  · rw [if_neg hc]; exact number_ok (by omega) hn (by omega) hs
def vecOf (s : ByteArray) (a : Int) (n : Nat) : ByteArray × Int × Int :=
  if a < 0 ∨ a > s.size ∨ s.size - a < n then (⟨#[]⟩, 0, 100)
  else if nv s a n > s.size - (a + n) then (⟨#[]⟩, 0, 100)
  else (s.extract (a + n).toNat (a + n + nv s a n).toNat, a + n + nv s a n, 0)
theorem vec_ok {s : ByteArray} {a : Int} {n : Nat} (h1 : 1 ≤ n) (h3 : n ≤ 3) (hs : s.size ≤ 140737488351232) : Ev (fun k => wire_Vec.f k s a n) (vecOf s a n) := by
  refine Ev.congr (f := fun k => wire_Vec.j0 k s a n false) (fun k => ?_) ?_
  · unfold wire_Vec.f
    rw [if_neg (by omega)]
    congr 1
    exact decide_eq_false (by omega)
  · unfold vecOf
    by_cases hc : a < 0 ∨ a > s.size ∨ s.size - a < n
    · rw [if_pos hc]
      refine Ev.step (f := fun k => (wire_number.f k s a n).bind _) (fun k => by simp only [wire_Vec.j0]; rfl) ?_
      exact Ev.bind (number_cut hc hs) (Ev.now _)
    · rw [if_neg hc]
      refine Ev.step (f := fun k => (wire_number.f k s a n).bind _) (fun k => by simp only [wire_Vec.j0]; rfl) ?_
      have v := nv_bd4 s a n (by omega)
      refine Ev.bind (number_ok (by omega) (by omega) (by omega) hs) (ev_const ?_)
      simp only [if_true]
      rw [w64 (a := (s.size : Int) - (a + n)) (by omega) (by omega), w64 (a := a + n + nv s a n) (by omega) (by omega)]
      by_cases hl : nv s a n > s.size - (a + n)
      · rw [if_pos hl, if_pos hl]
      · rw [if_neg hl, if_neg hl, if_pos (by omega), if_pos (by omega), if_pos (by omega)]
theorem strOf_size (l : List Int) : (strOfNums l).size = l.length := by simp [strOfNums, ByteArray.size]
def beL : Nat → Int → List Int
  | 0, _ => []
  | n + 1, x => beL n (x / 256) ++ [x % 256]
theorem beL_length : ∀ (n : Nat) (x : Int), (beL n x).length = n
  | 0, _ => rfl
  | n + 1, x => by simp [beL, beL_length n]
theorem bytes_ok (x : Int) (n : Nat) (h0 : 1 ≤ n) (h1 : n ≤ 4) : wire_Bytes.f x n = some (strOfNums (beL n x)) := by
  have : n = 1 ∨ n = 2 ∨ n = 3 ∨ n = 4 := by omega
  rcases this with rfl | rfl | rfl | rfl <;> simp [wire_Bytes.f, beL, Int.ediv_ediv]
def putOf (x : Int) (n : Nat) : ByteArray × Int := if x < 256 ^ n then (strOfNums (beL n x), 0) else (⟨#[]⟩, 101)
theorem put_ok (x : Int) (n : Nat) (h0 : 1 ≤ n) (h1 : n ≤ 4) (hx : 0 ≤ x) : wire_Put.f x n = some (putOf x n) := by
  have hb := bytes_ok x n h0 h1
  unfold wire_Put.f putOf
  rw [if_neg (by omega), if_neg (by omega), if_neg (by omega), hb]
  have : n = 1 ∨ n = 2 ∨ n = 3 ∨ n = 4 := by omega
  rcases this with rfl | rfl | rfl | rfl <;> simp only [shr, wrap64, IntKind.bits] <;> simp <;> split <;> split <;> first | rfl | omega
theorem put_no (x n : Int) (h : n < 1 ∨ n > 4 ∨ x < 0) : wire_Put.f x n = some ((⟨#[]⟩ : ByteArray), 101) := by
  unfold wire_Put.f
  by_cases h0 : n < 1
  · rw [if_pos h0]
  · rw [if_neg h0]
    by_cases h1 : n > 4
    · rw [if_pos h1]
    · rw [if_neg h1, if_pos (by omega)]
def putVecOf (s : ByteArray) (n : Nat) : ByteArray × Int := if (s.size : Int) < 256 ^ n then (strOfNums (beL n s.size) ++ s, 0) else (⟨#[]⟩, 101)
theorem putVec_ok (s : ByteArray) (n : Nat) (h0 : 1 ≤ n) (h1 : n ≤ 3) (hs : s.size ≤ 140737488351232) : wire_PutVec.f s n = some (putVecOf s n) := by
  have hb := bytes_ok s.size n h0 (by omega)
  unfold wire_PutVec.f putVecOf
  rw [if_neg (by omega), if_neg (by omega), hb]
  simp only [Option.bind_some]
  rw [strOf_size, beL_length, if_pos (c := n + s.size ≤ 9223372036854775807) (by omega)]
  have : n = 1 ∨ n = 2 ∨ n = 3 := by omega
  rcases this with rfl | rfl | rfl <;> simp only [shr, wrap64, IntKind.bits] <;> simp <;> split <;> split <;> first | rfl | omega
theorem bytesOf_app (a b : ByteArray) : bytesOf (a ++ b) = bytesOf a ++ bytesOf b := by
  unfold bytesOf
  simp
theorem map_toNat_inj : ∀ {l m : List UInt8}, l.map (fun b => (b.toNat : Int)) = m.map (fun b => (b.toNat : Int)) → l = m
  | [], [], _ => rfl
  | [], _ :: _, h => by simp at h
  | _ :: _, [], h => by simp at h
  | x :: l, y :: m, h => by
    simp only [List.map_cons, List.cons.injEq] at h
    obtain ⟨h1, h2⟩ := h
    have h3 : x.toNat = y.toNat := by omega
    rw [UInt8.toNat_inj.mp h3, map_toNat_inj h2]
theorem bytesOf_inj {a b : ByteArray} (h : bytesOf a = bytesOf b) : a = b := by
  have h1 := map_toNat_inj h
  cases a; cases b
  congr 1
  exact Array.toList_inj.mp h1
def Byte (l : List Int) : Prop := ∀ x ∈ l, 0 ≤ x ∧ x ≤ 255
theorem bytesOf_strOf {l : List Int} (h : Byte l) : bytesOf (strOfNums l) = l := by
  unfold bytesOf strOfNums
  simp only [List.map_map]
  refine (List.map_congr_left (g := id) (fun x hx => ?_)).trans (List.map_id l)
  have := h x hx
  simp only [Function.comp, id, UInt8.toNat_ofNat']
  omega
theorem beL_byte : ∀ (n : Nat) (x : Int), Byte (beL n x)
  | 0, x => by intro y hy; simp [beL] at hy
  | n + 1, x => by
    intro y hy
    simp only [beL, List.mem_append, List.mem_singleton] at hy
    rcases hy with hy | rfl
    · exact beL_byte n _ y hy
    · omega
theorem bytesOf_extract (s : ByteArray) (a b : Nat) : bytesOf (s.extract a b) = ((bytesOf s).drop a).take (b - a) := by
  unfold bytesOf
  rw [ByteArray.data_extract]
  simp [List.map_drop, List.map_take, List.extract_eq_take_drop]
def nvL (l : List Int) : Int := l.foldl (fun a b => a * 256 + b) 0
theorem nvL_snoc (l : List Int) (x : Int) : nvL (l ++ [x]) = nvL l * 256 + x := by simp [nvL]
theorem bt_get (s : ByteArray) (i : Int) : bt s i = (bytesOf s).getD i.toNat 0 := (rd_bytesOf s i).symm
theorem nv_list (s : ByteArray) (i : Nat) : ∀ n : Nat, i + n ≤ s.size → nv s i n = nvL (((bytesOf s).drop i).take n)
  | 0, _ => by simp [nv, nvL]
  | n + 1, h => by
    have hl := bytesOf_length s
    have e : ((bytesOf s).drop i).take (n + 1) = ((bytesOf s).drop i).take n ++ [(bytesOf s).getD (i + n) 0] := by
      rw [List.take_succ_eq_append_getElem (by rw [List.length_drop]; omega), List.getElem_drop, List.getD_eq_getElem?_getD, List.getElem?_eq_getElem (by omega)]
      rfl
    rw [e, nvL_snoc, nv, nv_list s i n (by omega), bt_get]
    have : ((i : Int) + (n : Int)).toNat = i + n := by omega
    rw [this]
theorem nvL_beL : ∀ (n : Nat) (x : Int), nvL (beL n x) = x % 256 ^ n
  | 0, x => by simp [beL, nvL]
  | n + 1, x => by
    have hp : (0 : Int) < 256 ^ n := Int.pow_pos (by decide)
    rw [beL, nvL_snoc, nvL_beL n, Int.pow_succ, Int.mul_comm (256 ^ n) 256]
    have h1 := Int.emod_add_mul_ediv x 256
    have h2 := Int.emod_add_mul_ediv (x / 256) (256 ^ n)
    have h3 := Int.emod_add_mul_ediv x (256 * 256 ^ n)
    have h4 : x / (256 * 256 ^ n) = x / 256 / 256 ^ n := by rw [Int.ediv_ediv_of_nonneg (by decide)]
    rw [h4] at h3
    generalize x / 256 / 256 ^ n = q at *
    generalize x / 256 % 256 ^ n = r at *
    generalize x % (256 * 256 ^ n) = z at *
    rw [Int.mul_assoc] at h3
    generalize (256 : Int) ^ n * q = u at *
    omega
def From (s : ByteArray) (p : Nat) (l : List Int) : Prop := p ≤ s.size ∧ (bytesOf s).drop p = l
theorem From.len {s : ByteArray} {p : Nat} {l : List Int} (h : From s p l) : p + l.length = s.size := by
  have := bytesOf_length s
  obtain ⟨h1, rfl⟩ := h
  rw [List.length_drop]
  omega
theorem From.skip {s : ByteArray} {p : Nat} {l m : List Int} (h : From s p (l ++ m)) : From s (p + l.length) m := by
  have hl := h.len
  refine ⟨by rw [List.length_append] at hl; omega, ?_⟩
  rw [← List.drop_drop, h.2, List.drop_left]
theorem From.start (s : ByteArray) : From s 0 (bytesOf s) := ⟨Nat.zero_le _, rfl⟩
theorem From.number {s : ByteArray} {p n : Nat} {x : Int} {m : List Int} (h : From s p (beL n x ++ m)) : nv s p n = x % 256 ^ n ∧ From s (p + n) m := by
  have hl := h.len
  rw [List.length_append, beL_length] at hl
  refine ⟨?_, ?_⟩
  · rw [nv_list s p n (by omega), h.2, List.take_left' (beL_length n x), nvL_beL]
  · have := h.skip
    rwa [beL_length] at this
theorem From.text {s t : ByteArray} {p : Nat} {m : List Int} (h : From s p (bytesOf t ++ m)) : s.extract p (p + t.size) = t ∧ From s (p + t.size) m := by
  refine ⟨bytesOf_inj ?_, ?_⟩
  · rw [bytesOf_extract, h.2, Nat.add_sub_cancel_left, List.take_left' (bytesOf_length t)]
  · have := h.skip
    rwa [bytesOf_length] at this
def dupB (l : List Int) : Bool := decide (¬ l.Nodup)
theorem dupB_snoc (l : List Int) (x : Int) : dupB (l ++ [x]) = (dupB l || decide (x ∈ l)) := by
  unfold dupB
  rw [Bool.eq_iff_iff]
  have h : (l ++ [x]).Nodup ↔ l.Nodup ∧ x ∉ l := by
    rw [List.nodup_append]
    simp only [List.mem_singleton, forall_eq]
    refine ⟨fun ⟨a, _, c⟩ => ⟨a, fun h => c x h rfl⟩, fun ⟨a, c⟩ => ⟨a, List.nodup_cons.mpr ⟨List.not_mem_nil, List.nodup_nil⟩, fun y hy e => c (e ▸ hy)⟩⟩
  simp only [decide_eq_true_eq, Bool.or_eq_true, h]
  by_cases h1 : l.Nodup <;> by_cases h2 : x ∈ l <;> simp [h1, h2]
def kindsOf (l : List S41) : List Int := l.map S41.f0
theorem kinds_snoc (l : List S41) (x : S41) : kindsOf (l ++ [x]) = kindsOf l ++ [x.f0] := by simp [kindsOf]
def fin (acc : List S41) : Option (List S41) → List S41 × Int
  | none => ([], 1600)
  | some l => if dupB (kindsOf (acc ++ l)) = true then ([], 1601) else (acc ++ l, 0)
def exL (s : ByteArray) : Nat → Int → Option (List S41)
  | 0, _ => some []
  | d + 1, p => if p < s.size then
      (if (numOf s p 2).2.2 = 0 then (if (vecOf s (p + 2) 2).2.2 = 0 then (exL s d (vecOf s (p + 2) 2).2.1).map (fun l => ⟨nv s p 2, (vecOf s (p + 2) 2).1⟩ :: l) else none) else none)
      else some []
theorem wfn {x : Int} (h0 : 0 ≤ x) (h1 : x < 4294967296) : (Lit.int .i64 x).wf = true := by
  simp [Lit.wf, IntKind.min, IntKind.max, IntKind.signed, IntKind.bits]
  omega
def getOf (s : ByteArray) : List S41 × Int := fin [] (exL s (s.size + 1) 0)
def okE (x : S41) : Prop := 0 ≤ x.f0 ∧ x.f0 ≤ 65535 ∧ x.f1.size ≤ 65535
instance (x : S41) : Decidable (okE x) := by unfold okE; infer_instance
def encE (x : S41) : ByteArray := strOfNums (beL 2 x.f0) ++ (strOfNums (beL 2 x.f1.size) ++ x.f1)
def encs (l : List S41) : ByteArray := l.foldl (fun a x => a ++ encE x) ⟨#[]⟩
theorem encs_snoc (l : List S41) (x : S41) : encs (l ++ [x]) = encs l ++ encE x := by simp [encs]
theorem encE_size {x : S41} (h : okE x) : (encE x).size ≤ 65539 := by
  have := h.2.2
  unfold encE
  rw [ByteArray.size_append, ByteArray.size_append, strOf_size, strOf_size, beL_length, beL_length]
  omega
def putL (pre : List S41) : List S41 → ByteArray × Int
  | [] => if dupB (kindsOf pre) = true then (⟨#[]⟩, 1601) else (encs pre, 0)
  | x :: r => if okE x then putL (pre ++ [x]) r else (⟨#[]⟩, 1600)
theorem rd_mid (pre r : List S41) (x : S41) : rd_T41 (pre ++ x :: r) (pre.length : Int) = x := by
  simp [rd_T41, List.getD_eq_getElem?_getD]
theorem put2 {x : Int} (h0 : 0 ≤ x) (h1 : x ≤ 65535) : wire_Put.f x 2 = some (strOfNums (beL 2 x), 0) := by
  have h := put_ok x 2 (by omega) (by omega) h0
  unfold putOf at h
  rw [if_pos (by omega)] at h
  exact h
theorem put2_no {x : Int} (h : ¬ (0 ≤ x ∧ x ≤ 65535)) : wire_Put.f x 2 = some ((⟨#[]⟩ : ByteArray), 101) := by
  by_cases h0 : 0 ≤ x
  · have h := put_ok x 2 (by omega) (by omega) h0
    unfold putOf at h
    rw [if_neg (by omega)] at h
    exact h
  · exact put_no x 2 (by omega)
theorem pv2 {t : ByteArray} (ht : t.size ≤ 65535) : wire_PutVec.f t 2 = some (strOfNums (beL 2 t.size) ++ t, 0) := by
  have h := putVec_ok t 2 (by omega) (by omega) (by omega)
  unfold putVecOf at h
  rw [if_pos (by omega)] at h
  exact h
theorem pv2_no {t : ByteArray} (ht : ¬ t.size ≤ 65535) (hs : t.size ≤ 140737488351232) : wire_PutVec.f t 2 = some ((⟨#[]⟩ : ByteArray), 101) := by
  have h := putVec_ok t 2 (by omega) (by omega) hs
  unfold putVecOf at h
  rw [if_neg (by omega)] at h
  exact h
theorem put_loop : ∀ (r pre : List S41), (pre ++ r).length ≤ 16777216 → (∀ x ∈ r, x.f1.size ≤ 140737488351232) → (encs pre).size ≤ 65539 * pre.length →
    Ev (fun k => ext_Put.l0 k (encs pre) (kindsOf pre) (dupB (kindsOf pre)) (pre ++ r) ((pre ++ r).length : Int) pre.length) (putL pre r)
  | [], pre, hl, hb, he => by
    refine Ev.step (fun k => rfl) ?_
    simp only [ext_Put.l0, List.append_nil, putL]
    refine evNeg (by omega) ?_
    by_cases hu : dupB (kindsOf pre) = true
    · exact evPos hu (by rw [if_pos hu]; exact Ev.now _)
    · exact evNeg hu (by rw [if_neg hu]; exact Ev.now _)
  | x :: r, pre, hl, hb, he => by
    have hl2 : pre.length + r.length + 1 ≤ 16777216 := by simpa [Nat.add_assoc] using hl
    refine Ev.step (fun k => rfl) ?_
    simp only [ext_Put.l0, putL, rd_mid]
    refine evPos (by simp; omega) (evPos (by omega) (evPos (by simp; omega) ?_))
    have hx := hb x (by simp)
    by_cases hk : 0 ≤ x.f0 ∧ x.f0 ≤ 65535
    · refine Ev.bind (ev_const (put2 hk.1 hk.2)) ?_
      by_cases hz : x.f1.size ≤ 65535
      · refine Ev.bind (ev_const (pv2 hz)) (evPos rfl (evPos rfl ?_))
        have ho : okE x := ⟨hk.1, hk.2, hz⟩
        rw [if_pos ho]
        have hE := encE_size ho
        have hlen : (kindsOf pre).length = pre.length := by simp [kindsOf]
        have key := put_loop r (pre ++ [x]) (by simpa using hl) (fun y hy => hb y (List.mem_cons_of_mem _ hy)) (by rw [encs_snoc, ByteArray.size_append, List.length_append, List.length_singleton]; omega)
        rw [encs_snoc, kinds_snoc, dupB_snoc, List.append_assoc, List.singleton_append] at key
        have e1 : wrap64 ((pre.length : Int) + 1) = ((pre ++ [x]).length : Int) := by
          rw [w64 (by omega) (by omega), List.length_append, List.length_singleton]; omega
        have hE' : (strOfNums (beL 2 x.f0) ++ (strOfNums (beL 2 x.f1.size) ++ x.f1)).size ≤ 65539 := hE
        have hE2 : (strOfNums (beL 2 x.f0)).size + (strOfNums (beL 2 x.f1.size) ++ x.f1).size ≤ 65539 := by rw [← ByteArray.size_append]; exact hE'
        by_cases hu : dupB (kindsOf pre) = true
        · refine evPos hu (evPos (wfn hk.1 (by omega)) (evPos (by omega) (evPos (by dsimp only; omega) (Ev.bind (ev_const rfl) (evPos (by rw [ByteArray.size_append]; dsimp only; omega) ?_)))))
          rw [e1]
          rw [hu] at key
          exact key
        · refine evNeg hu (evPos (wfn hk.1 (by omega)) (evPos (by omega) (evPos (by dsimp only; omega) (Ev.bind (ev_const rfl) (evPos (by rw [ByteArray.size_append]; dsimp only; omega) ?_)))))
          rw [e1]
          have hu' : dupB (kindsOf pre) = false := by simpa using hu
          rw [hu'] at key
          exact key
      · refine Ev.bind (ev_const (pv2_no hz hx)) (evPos rfl (evNeg (by decide) ?_))
        rw [if_neg (fun h => hz h.2.2)]
        exact Ev.now _
    · rw [if_neg (fun h => hk ⟨h.1, h.2.1⟩)]
      refine Ev.bind (ev_const (put2_no hk)) ?_
      by_cases hz : x.f1.size ≤ 65535
      · exact Ev.bind (ev_const (pv2 hz)) (evNeg (by simp) (Ev.now _))
      · exact Ev.bind (ev_const (pv2_no hz hx)) (evNeg (by simp) (Ev.now _))
theorem put_any (l : List S41) (hl : l.length ≤ 16777216) (hb : ∀ x ∈ l, x.f1.size ≤ 140737488351232) : Ev (fun k => ext_Put.f k l) (putL [] l) := put_loop l [] hl hb (by simp [encs, ByteArray.size])
end Go.Proofs.Ytlkebjkpmiehcaa.Pure
end
section
namespace Go.Proofs.Ytlkebjkpmiehcaa.Ms
open Go.RowKit Go.Proofs.YtlkebjkpmiehcaaW.PrintWords Go.Proofs.YtlkebjkpmiehcaaW.PrintLast Go.Proofs.YtlkebjkpmiehcaaW.PrintMore Go.Proofs.Ytlkebjkpmiehcaa.X
open Go.Proofs.Ytlkebjkpmiehcaa.Pure (nv numOf vecOf nv_bd nv_bd4 number_any vec_ok)
set_option linter.unusedVariables false
theorem xe_number : wire_number.f = E.wire_number.f := by kernel_rfl
theorem xe_vec : wire_Vec.f = E.wire_Vec.f := by kernel_rfl
structure Rp where
  s : ByteArray
  p : Int
  c : Int
  t : Bool
  l : Bool
abbrev RS (W : World) (r f : Nat) (R : Rp) : Prop := Rs W r f R.s R.p R.c R.t R.l
structure Rp.Ok (R : Rp) : Prop where
  lo : 0 ≤ R.p
  hi : R.p ≤ R.s.size
  sz : R.s.size ≤ 65536
def Rp.need (R : Rp) (b : Bool) : Rp := { R with c := needed R.c b }
def Rp.allow (R : Rp) (b : Bool) : Rp := { R with c := allowed R.c b }
def Rp.fail (R : Rp) (e : Int) : Rp := { R with c := bad R.c e }
def Rp.done (R : Rp) : Rp := R.need (R.p == (R.s.size : Int))
def Rp.more (R : Rp) : Bool := R.c == 0 && decide (R.p < (R.s.size : Int))
def Rp.numC (R : Rp) (n : Nat) : Int := needed R.c ((numOf R.s R.p n).2.2 == 0)
def Rp.numV (R : Rp) (n : Nat) : Int := sel (R.numC n) (numOf R.s R.p n).1 0
def Rp.numR (R : Rp) (n : Nat) : Rp := { R with p := sel (R.numC n) (numOf R.s R.p n).2.1 R.p, c := R.numC n }
def Rp.vecC (R : Rp) (n : Nat) (least most : Int) : Int := needed R.c (vecOk (vecOf R.s R.p n).1 (vecOf R.s R.p n).2.2 least most)
def Rp.vecV (R : Rp) (n : Nat) (least most : Int) : ByteArray := sel (R.vecC n least most) (vecOf R.s R.p n).1 ⟨#[]⟩
def Rp.vecR (R : Rp) (n : Nat) (least most : Int) : Rp := { R with p := sel (R.vecC n least most) (vecOf R.s R.p n).2.1 R.p, c := R.vecC n least most }
def Rp.outR (R : Rp) (n : Nat) : Rp := R.vecR n 0 16777216
def Rp.inR (R : Rp) (n : Nat) : Rp := ⟨R.vecV n 0 16777216, 0, R.vecC n 0 16777216, R.t, false⟩
def Rp.back (R I : Rp) : Rp := { R with c := I.c, t := I.t }
def Rp.bytC (R : Rp) (n : Int) : Int := needed R.c (decide (n ≤ (R.s.size : Int) - R.p))
def Rp.bytV (R : Rp) (n : Int) : ByteArray := sel (R.bytC n) (R.s.extract R.p.toNat (R.p + n).toNat) ⟨#[]⟩
def Rp.bytR (R : Rp) (n : Int) : Rp := { R with p := sel (R.bytC n) (R.p + n) R.p, c := R.bytC n }
theorem needed_zero {c : Int} {b : Bool} (h : needed c b = 0) : c = 0 ∧ b = true := by
  unfold needed bad at h
  cases b
  · simp only [Bool.false_eq_true, if_false] at h
    split at h
    · simp at h
    · exact absurd h ‹_›
  · exact ⟨h, rfl⟩
theorem Rp.Ok.need {R : Rp} (h : R.Ok) (b : Bool) : (R.need b).Ok := ⟨h.lo, h.hi, h.sz⟩
theorem Rp.Ok.allow {R : Rp} (h : R.Ok) (b : Bool) : (R.allow b).Ok := ⟨h.lo, h.hi, h.sz⟩
theorem Rp.Ok.fail {R : Rp} (h : R.Ok) (e : Int) : (R.fail e).Ok := ⟨h.lo, h.hi, h.sz⟩
theorem Rp.Ok.done {R : Rp} (h : R.Ok) : R.done.Ok := ⟨h.lo, h.hi, h.sz⟩
theorem Rp.Ok.back {R : Rp} (h : R.Ok) (I : Rp) : (R.back I).Ok := ⟨h.lo, h.hi, h.sz⟩
theorem num_ok {s : ByteArray} {p : Int} {n : Nat} (h0 : 0 ≤ p) (h1 : p ≤ s.size) : (numOf s p n).2.2 = 0 ∧ numOf s p n = (nv s p n, p + n, 0) ∧ p + n ≤ s.size ∨ (numOf s p n) = (0, 0, 100) := by
  unfold numOf
  by_cases hc : p < 0 ∨ p > s.size ∨ s.size - p < n
  · rw [if_pos hc]
    exact .inr rfl
  · rw [if_neg hc]
    exact .inl ⟨rfl, rfl, by omega⟩
theorem Rp.numV_bd (R : Rp) (n : Nat) : 0 ≤ R.numV n ∧ R.numV n < 256 ^ n := by
  have hp : (0 : Int) < 256 ^ n := by exact Int.pow_pos (by decide)
  unfold Rp.numV sel numOf
  repeat' split
  all_goals first | exact nv_bd _ _ _ | exact ⟨by simp, hp⟩
theorem Rp.Ok.numR {R : Rp} (h : R.Ok) (n : Nat) : (R.numR n).Ok := by
  refine ⟨?_, ?_, h.sz⟩ <;> (unfold Rp.numR sel; dsimp only; split)
  all_goals rename_i hc
  all_goals first | exact h.lo | exact h.hi | skip
  all_goals
    have hz := (needed_zero hc).2
    rcases num_ok (s := R.s) (p := R.p) (n := n) h.lo h.hi with ⟨_, h2, h3⟩ | h2
    · rw [h2]
      have := h.lo
      first | exact h3 | (show 0 ≤ R.p + (n : Int); omega)
    · rw [h2] at hz
      exact absurd hz (by decide)
theorem vec_bd' {s : ByteArray} {p : Int} {n : Nat} (h0 : 0 ≤ p) (h : (vecOf s p n).2.2 = 0) : p + n ≤ (vecOf s p n).2.1 ∧ (vecOf s p n).2.1 ≤ s.size ∧ ((vecOf s p n).1.size : Int) = (vecOf s p n).2.1 - (p + n) ∧ nv s p n = (vecOf s p n).1.size := by
  unfold vecOf at h ⊢
  have v := nv_bd s p n
  by_cases hc : p < 0 ∨ p > s.size ∨ s.size - p < n
  · rw [if_pos hc] at h
    simp at h
  · rw [if_neg hc] at h ⊢
    by_cases hl : nv s p n > s.size - (p + n)
    · rw [if_pos hl] at h
      simp at h
    · rw [if_neg hl]
      have e : (s.extract (p + n).toNat (p + n + nv s p n).toNat).size = (nv s p n).toNat := by
        rw [ByteArray.size_extract]
        omega
      simp only [e]
      omega
theorem vecC_zero {R : Rp} {n : Nat} {least most : Int} (h : R.vecC n least most = 0) : R.c = 0 ∧ (vecOf R.s R.p n).2.2 = 0 ∧ least ≤ (vecOf R.s R.p n).1.size ∧ ((vecOf R.s R.p n).1.size : Int) ≤ most := by
  obtain ⟨h1, h2⟩ := needed_zero h
  unfold vecOk at h2
  simp only [Bool.and_eq_true, beq_iff_eq, decide_eq_true_eq] at h2
  exact ⟨h1, h2.1.1, h2.1.2, h2.2⟩
theorem Rp.Ok.vecR {R : Rp} (h : R.Ok) (n : Nat) (least most : Int) : (R.vecR n least most).Ok := by
  refine ⟨?_, ?_, h.sz⟩ <;> (unfold Rp.vecR sel; dsimp only; split)
  all_goals rename_i hc
  all_goals first | exact h.lo | exact h.hi | skip
  all_goals
    obtain ⟨h2, h3, _⟩ := vec_bd' h.lo (vecC_zero hc).2.1
    have := h.lo
    first | exact h3 | omega
theorem Rp.vecV_size {R : Rp} (h : R.Ok) (n : Nat) (least most : Int) : (R.vecV n least most).size ≤ R.s.size := by
  unfold Rp.vecV sel
  split
  · rename_i hc
    have hb := vec_bd' h.lo (vecC_zero hc).2.1
    have := h.lo
    omega
  · exact Nat.zero_le _
theorem Rp.Ok.inR {R : Rp} (h : R.Ok) (n : Nat) : (R.inR n).Ok := ⟨Int.le_refl _, by show (0 : Int) ≤ _; omega, Nat.le_trans (Rp.vecV_size h n 0 16777216) h.sz⟩
theorem Rp.Ok.outR {R : Rp} (h : R.Ok) (n : Nat) : (R.outR n).Ok := h.vecR n 0 16777216
theorem Rp.Ok.bytR {R : Rp} (h : R.Ok) {n : Int} (hn : 0 ≤ n) : (R.bytR n).Ok := by
  have h1 := h.lo
  have h2 := h.hi
  refine ⟨?_, ?_, h.sz⟩ <;> (unfold Rp.bytR sel; dsimp only; split)
  · omega
  · exact h1
  · rename_i hc
    have h3 := of_decide_eq_true (needed_zero hc).2
    omega
  · exact h2
theorem ev_at {α : Type} {f : Nat → Option α} {r : α} (h : Ev f r) : ∃ k, f k = some r := by
  obtain ⟨K, h⟩ := h
  exact ⟨K, h K (Nat.le_refl _)⟩
theorem num_at (n : Nat) (s : ByteArray) (p : Int) (h4 : n ≤ 4) (hs : s.size ≤ 65536) : ∃ k, wire_number.f k s p n = some (numOf s p n) := by
  rw [xe_number]
  exact ev_at (number_any s p n h4 (by omega))
theorem vec_at (n : Nat) (s : ByteArray) (p : Int) (h1 : 1 ≤ n) (h3 : n ≤ 3) (hs : s.size ≤ 65536) : ∃ k, wire_Vec.f k s p n = some (vecOf s p n) := by
  rw [xe_vec]
  exact ev_at (vec_ok h1 h3 (by omega))
section
variable (lo r f : Nat) (R : Rp) (w : World)
theorem u16_c (hl : lo ≤ f) (hl2 : lo ≤ r) (h : RS w r f R) (ho : R.Ok) :
    Calls Try.prog 70 #[.pointer (some ⟨r, 0, none⟩)] w fun ex w' => ex = .returned (.int .i64 (R.numV 2)) ∧ RS w' r f (R.numR 2) ∧ Kf lo r f w w' := by
  obtain ⟨k, hk⟩ := num_at 2 R.s R.p (by omega) ho.sz
  exact u16_calls lo r f R.s R.p R.c R.t R.l w hl hl2 h k _ _ _ (by unfold wire_U16.f; rw [show ((2 : Nat) : Int) = 2 from rfl] at hk; rw [hk]; rfl)
theorem u8_c (hl : lo ≤ f) (hl2 : lo ≤ r) (h : RS w r f R) (ho : R.Ok) :
    Calls Try.prog 75 #[.pointer (some ⟨r, 0, none⟩)] w fun ex w' => ex = .returned (.int .i64 (R.numV 1)) ∧ RS w' r f (R.numR 1) ∧ Kf lo r f w w' := by
  obtain ⟨k, hk⟩ := num_at 1 R.s R.p (by omega) ho.sz
  exact u8_calls lo r f R.s R.p R.c R.t R.l w hl hl2 h k _ _ _ (by unfold wire_U8.f; rw [show ((1 : Nat) : Int) = 1 from rfl] at hk; rw [hk]; rfl)
theorem rvec_c (z : Int) (n : Nat) (hz : z = n) (least most : Int) (h1 : 1 ≤ n) (h3 : n ≤ 3) (hl : lo ≤ f) (hl2 : lo ≤ r) (h : RS w r f R) (ho : R.Ok) :
    Calls Try.prog 71 #[.pointer (some ⟨r, 0, none⟩), .int .i64 z, .int .i64 least, .int .i64 most] w fun ex w' => ex = .returned (.string (R.vecV n least most)) ∧ RS w' r f (R.vecR n least most) ∧ Kf lo r f w w' := by
  subst hz
  obtain ⟨k, hk⟩ := vec_at n R.s R.p h1 h3 ho.sz
  exact rvec_calls lo r f R.s R.p R.c R.t R.l n least most w hl hl2 h k _ _ _ hk _ rfl
theorem rwithin_c (z : Int) (n : Nat) (hz : z = n) (h1 : 1 ≤ n) (h3 : n ≤ 3) (hl : lo ≤ f) (hl2 : lo ≤ r) (h : RS w r f R) (ho : R.Ok) :
    Calls Try.prog 66 #[.pointer (some ⟨r, 0, none⟩), .int .i64 z] w fun ex w' => ∃ r2, ex = .returned (.pointer (some ⟨r2, 0, none⟩)) ∧ w.heap.size ≤ r2 ∧ RS w' r f (R.outR n) ∧ RS w' r2 f (R.inR n) ∧ Kf lo r f w w' := by
  subst hz
  obtain ⟨k, hk⟩ := vec_at n R.s R.p h1 h3 ho.sz
  exact rwithin_calls lo r f R.s R.p R.c R.t R.l n w hl hl2 h k _ _ _ hk _ rfl
theorem allow_c (b : Bool) (hl : lo ≤ f) (h : RS w r f R) :
    Calls Try.prog 76 #[.pointer (some ⟨r, 0, none⟩), .bool b] w fun ex w' => ex = .returned (.tuple #[]) ∧ RS w' r f (R.allow b) ∧ Kf lo r f w w' := allow_calls lo r f R.s R.p R.c R.t R.l b w hl h
theorem fail_c (e : Int) (hl : lo ≤ f) (h : RS w r f R) :
    Calls Try.prog 50 #[.pointer (some ⟨r, 0, none⟩), .int .i64 e] w fun ex w' => ex = .returned (.tuple #[]) ∧ RS w' r f (R.fail e) ∧ Kf lo r f w w' := fail_calls lo r f R.s R.p R.c e R.t R.l w hl h
theorem done_c (hl : lo ≤ f) (h : RS w r f R) :
    Calls Try.prog 77 #[.pointer (some ⟨r, 0, none⟩)] w fun ex w' => ex = .returned (.tuple #[]) ∧ RS w' r f R.done ∧ Kf lo r f w w' := done_calls lo r f R.s R.p R.c R.t R.l w hl h
theorem ok_c (h : RS w r f R) :
    Calls Try.prog 51 #[.pointer (some ⟨r, 0, none⟩)] w fun ex w' => ex = .returned (.bool (R.c == 0)) ∧ w' = w := ok_calls 0 r f R.s R.p R.c R.t R.l w h
theorem more_c (h : RS w r f R) :
    Calls Try.prog 99 #[.pointer (some ⟨r, 0, none⟩)] w fun ex w' => ex = .returned (.bool R.more) ∧ Below w.heap.size w w' := more_calls r f R.s R.p R.c R.t R.l w h
end
end Go.Proofs.Ytlkebjkpmiehcaa.Ms
end
section
namespace Go.Proofs.Ytlkebjkpmiehcaa.Ms
open Go.RowKit Go.Proofs.YtlkebjkpmiehcaaW.PrintWords Go.Proofs.YtlkebjkpmiehcaaW.PrintLast Go.Proofs.YtlkebjkpmiehcaaW.PrintMore Go.Proofs.Ytlkebjkpmiehcaa.X
open Go.Proofs.Ytlkebjkpmiehcaa.Pure (nv numOf vecOf nv_bd nv_bd4 number_any vec_ok)
set_option linter.unusedVariables false
theorem wr64 {x : Int} (h0 : -9223372036854775808 ≤ x) (h1 : x ≤ 9223372036854775807) : IntKind.i64.wrap x = x := IntWalk.i64_in _ (by omega)
set_option maxRecDepth 100000 in
set_option maxHeartbeats 8000000 in
theorem bytes_c (lo r f : Nat) (R : Rp) (w : World) (n : Int) (hn : 0 ≤ n) (hn2 : n ≤ 65536) (hl : lo ≤ f) (hl2 : lo ≤ r) (h : RS w r f R) (ho : R.Ok) :
    Calls Try.prog 73 #[.pointer (some ⟨r, 0, none⟩), .int .i64 n] w fun ex w' => ex = .returned (.string (R.bytV n)) ∧ RS w' r f (R.bytR n) ∧ Kf lo r f w w' := by
  have H := Aside0.mk h
  have HL := Aside0.mk hl
  have HL2 := Aside0.mk hl2
  have HLW := Aside0.mk (show lo ≤ w.heap.size from Nat.le_of_lt (Nat.lt_of_le_of_lt HL.out (blk_lt H.out.ft)))
  obtain ⟨s, q, code, tw, last⟩ := R
  obtain ⟨b1, b2, b3⟩ := ho
  dsimp only at b1 b2 b3
  clear h hl hl2
  obtain ⟨ok, hok⟩ : ∃ ok, decide (n ≤ (s.size : Int) - q) = ok := ⟨_, rfl⟩
  have HOK := Aside0.mk hok
  unfold Rp.bytV Rp.bytR Rp.bytC
  dsimp only
  rw [hok]
  clear hok
  go_enter Try.func73, Try.ntmps73
  go_wp2
  have z1 : IntKind.i64.wrap ((s.size : Int) - q) = (s.size : Int) - q := wr64 (by omega) (by omega)
  refine start_ (n := 14) (S := fun w' => Below w.heap.size w w') (ds := [13]) #[false, false, false, false, false, false, false, false, false, false, false, false, false, false] (by kernel_rfl) rfl rfl (Below.refl w.heap.size w).drew (fun hHeld => ?_)
  have HS := Aside0.mk (Below.refl w.heap.size w).drew
  generalize w.drew = w7 at HS hHeld ⊢
  refine pure_ (i := 0) (N := (some 5)) (v := ?_) (a' := ?_) #[true, false, false, false, false, false, false, false, false, false, false, false, false, false] rfl rfl (by kernel_rfl) (fun _ _ _ h => h) (Or.inl ⟨by rfl, ?_⟩) ?_ ?_
  rotate_left
  · intro w'
    go_simp
    with_reducible rfl
  rotate_left
  · simp only [Act.put, List.setIfInBounds_toArray, List.set_cons_zero, List.set_cons_succ]
    rfl
  refine pure_ (i := 1) (N := (some 6)) (v := ?_) (a' := ?_) #[true, true, false, false, false, false, false, false, false, false, false, false, false, false] rfl rfl (by kernel_rfl) (fun _ _ _ h => h) (Or.inl ⟨by rfl, ?_⟩) ?_ ?_
  rotate_left
  · intro w'
    go_simp
    with_reducible rfl
  rotate_left
  · simp only [Act.put, List.setIfInBounds_toArray, List.set_cons_zero, List.set_cons_succ]
    rfl
  refine pure_ (i := 2) (N := (some 7)) (v := ?_) (a' := ?_) #[true, true, true, false, false, false, false, false, false, false, false, false, false, false] rfl rfl (by kernel_rfl) (fun _ _ _ h => h) (Or.inl ⟨by rfl, ?_⟩) ?_ ?_
  rotate_left
  · intro w'
    go_simp
    with_reducible rfl
  rotate_left
  · simp only [Act.put, List.setIfInBounds_toArray, List.set_cons_zero, List.set_cons_succ]
    rfl
  refine pure_ (i := 3) (N := (some 8)) (v := ?_) (a' := ?_) #[true, true, true, true, false, false, false, false, false, false, false, false, false, false] rfl rfl (by kernel_rfl) (fun _ _ _ h => h) (Or.inl ⟨by rfl, ?_⟩) ?_ ?_
  rotate_left
  · intro w'
    go_simp
    with_reducible rfl
  rotate_left
  · simp only [Act.put, List.setIfInBounds_toArray, List.set_cons_zero, List.set_cons_succ]
    rfl
  refine pure_ (i := 4) (N := (some 9)) (v := ?_) (a' := ?_) #[true, true, true, true, true, false, false, false, false, false, false, false, false, false] rfl rfl (by kernel_rfl) (fun _ _ _ h => h) (Or.inl ⟨by rfl, ?_⟩) ?_ ?_
  rotate_left
  · intro w'
    go_simp
    with_reducible rfl
  rotate_left
  · simp only [Act.put, List.setIfInBounds_toArray, List.set_cons_zero, List.set_cons_succ]
    rfl
  refine take_ (i := 5) (N := (some 10)) (v := ?_) (a' := ?_) #[true, true, true, true, true, true, false, false, false, false, false, false, false, false] rfl rfl (by kernel_rfl) (fun _ _ _ h => h) (Or.inl ⟨by rfl, ?_⟩) hHeld ?_ ?_
  rotate_left
  · rintro w' hS
    have hc := rcell H.out.rd hS
    obtain ⟨hc1, hc2, hc3⟩ := hc
    go_simp
    with_reducible rfl
  rotate_left
  · simp only [Act.put, List.setIfInBounds_toArray, List.set_cons_zero, List.set_cons_succ]
    rfl
  refine pure_ (i := 6) (N := (some 11)) (v := ?_) (a' := ?_) #[true, true, true, true, true, true, true, false, false, false, false, false, false, false] rfl rfl (by kernel_rfl) (fun _ _ _ h => h) (Or.inl ⟨by rfl, ?_⟩) ?_ ?_
  rotate_left
  · intro w'
    go_simp
    with_reducible rfl
  rotate_left
  · simp only [Act.put, List.setIfInBounds_toArray, List.set_cons_zero, List.set_cons_succ]
    rfl
  refine pure_ (i := 7) (N := (some 12)) (v := ?_) (a' := ?_) #[true, true, true, true, true, true, true, true, false, false, false, false, false, false] rfl rfl (by kernel_rfl) (fun _ _ _ h => h) (Or.inl ⟨by rfl, ?_⟩) ?_ ?_
  rotate_left
  · intro w'
    go_simp
    with_reducible rfl
  rotate_left
  · simp only [Act.put, List.setIfInBounds_toArray, List.set_cons_zero, List.set_cons_succ]
    rfl
  refine pure_ (i := 8) (N := (some 13)) (v := ?_) (a' := ?_) #[true, true, true, true, true, true, true, true, true, false, false, false, false, false] rfl rfl (by kernel_rfl) (fun _ _ _ h => h) (Or.inl ⟨by rfl, ?_⟩) ?_ ?_
  rotate_left
  · intro w'
    go_simp
    with_reducible rfl
  rotate_left
  · simp only [Act.put, List.setIfInBounds_toArray, List.set_cons_zero, List.set_cons_succ]
    rfl
  refine pure_ (i := 9) (N := (some 14)) (v := ?_) (a' := ?_) #[true, true, true, true, true, true, true, true, true, true, false, false, false, false] rfl rfl (by kernel_rfl) (fun _ _ _ h => h) (Or.inl ⟨by rfl, ?_⟩) ?_ ?_
  rotate_left
  · intro w'
    go_simp
    with_reducible rfl
  rotate_left
  · simp only [Act.put, List.setIfInBounds_toArray, List.set_cons_zero, List.set_cons_succ]
    rfl
  refine take_ (i := 10) (N := (some 15)) (v := ?_) (a' := ?_) #[true, true, true, true, true, true, true, true, true, true, true, false, false, false] rfl rfl (by kernel_rfl) (fun _ _ _ h => h) (Or.inl ⟨by rfl, ?_⟩) hHeld ?_ ?_
  rotate_left
  · rintro w' hS
    have hc := rcell H.out.rd hS
    obtain ⟨hc1, hc2, hc3⟩ := hc
    go_simp
    with_reducible rfl
  rotate_left
  · simp only [Act.put, List.setIfInBounds_toArray, List.set_cons_zero, List.set_cons_succ]
    rfl
  refine pure_ (i := 11) (N := (some 16)) (v := ?_) (a' := ?_) #[true, true, true, true, true, true, true, true, true, true, true, true, false, false] rfl rfl (by kernel_rfl) (fun _ _ _ h => h) (Or.inl ⟨by rfl, ?_⟩) ?_ ?_
  rotate_left
  · intro w'
    go_simp
    with_reducible rfl
  rotate_left
  · simp only [Act.put, List.setIfInBounds_toArray, List.set_cons_zero, List.set_cons_succ]
    rfl
  refine pure_ (i := 12) (N := (some 17)) (v := ?_) (a' := ?_) #[true, true, true, true, true, true, true, true, true, true, true, true, true, false] rfl rfl (by kernel_rfl) (fun _ _ _ h => h) (Or.inl ⟨by rfl, ?_⟩) ?_ ?_
  rotate_left
  · intro w'
    go_simp
    with_reducible rfl
  rotate_left
  · simp only [Act.put, List.setIfInBounds_toArray, List.set_cons_zero, List.set_cons_succ]
    rfl
  refine last_ (i := 13) (N := (some 18)) #[true, true, true, true, true, true, true, true, true, true, true, true, true, true] rfl rfl (by kernel_rfl) (by decide) (fun K hK => ?_)
  refine goes_ (f := 72) Try.func72 (by kernel_rfl) rfl #[.pointer (some ⟨r, 0, none⟩), .bool (decide (n ≤ (s.size : Int) - q))] (by rfl) rfl rfl (by (try simp only [List.map_toArray, List.map_cons, List.map_nil]); first | done | rfl) ?_
  refine (rneed_calls lo r f s q code tw last (decide (n ≤ (s.size : Int) - q)) _ HL.out (H.out.below HS.out)).mono ?_
  rintro e w8 ⟨rfl, i8, k8⟩
  refine ⟨_, rfl, ?_⟩
  rw [HOK.out] at i8
  have H8 := Aside0.mk i8
  have K8 := Aside0.mk ((Kf.of_below (r := r) (f := f) HLW.out HS.out).trans k8)
  clear i8 k8
  refine hK.out _ _ ?_
  clear hK K
  refine norm_ (a' := ?_) ?_ ?_
  rotate_left
  · show Act.put _ (some 18) _ = _
    simp only [Act.put, List.setIfInBounds_toArray, List.set_cons_zero, List.set_cons_succ]
    rfl
  refine done_ (by kernel_rfl) ?_
  clear z1
  by_cases c : needed code ok = 0
  · have c0 : (needed code ok == 0) = true := beq_iff_eq.mpr c
    have HCc := Aside0.mk c
    have b4 : n ≤ (s.size : Int) - q := of_decide_eq_true (HOK.out.trans (needed_zero c).2)
    clear c
    have zz : IntKind.i64.wrap (q + n) = q + n := wr64 (by omega) (by omega)
    go_wp2_with (first
      | (go_at_call 51; (with_reducible refine (ok_calls lo r f s q _ tw last _ H8.out).mono ?_); rintro e10 w10 ⟨rfl, rfl⟩)
      | ((with_reducible refine gate_dst (N := 25) rfl ?_); refine ld (v := .int .i64 q) rfl rfl rfl H8.out.rd Try.underlying3 rfl rfl ?_)
      | ((with_reducible refine gate_store (p := 29) rfl ?_); refine st (v := .int .i64 (q + n)) rfl rfl rfl H8.out.rd sz3' rfl rfl rfl (by simp) ?_; intro w3 h3 b3 k3; have H3 := Aside0.mk (Rs.mk h3 ((k3.2 f (blk_lt H8.out.ft) (Ne.symm H8.out.ne) (by simp)).trans H8.out.ft)); have K3 := Aside0.mk (K8.out.trans (Kf.of_keep (f := f) (.inl rfl) (b3 _ HL2.out) k3)); clear h3 b3 k3))
    have z2 : IntKind.i64.wrap q = q := wr64 (by omega) (by omega)
    have z3 : q ≤ q + n := by omega
    have z4 : q + n ≤ (s.size : Int) := by omega
    refine start_ (n := 16) (S := fun w' => Below w3.heap.size w3 w') (ds := []) #[false, false, false, false, false, false, false, false, false, false, false, false, false, false, false, false] (by kernel_rfl) rfl rfl (Below.refl w3.heap.size w3).drew (fun hHeld => ?_)
    have HS3 := Aside0.mk (Below.refl w3.heap.size w3).drew
    generalize w3.drew = w5 at HS3 hHeld ⊢
    refine pure_ (i := 0) (N := (some 30)) (v := ?_) (a' := ?_) #[true, false, false, false, false, false, false, false, false, false, false, false, false, false, false, false] rfl rfl (by kernel_rfl) (fun _ _ _ h => h) (Or.inl ⟨by rfl, ?_⟩) ?_ ?_
    rotate_left
    · intro w'
      go_simp
      with_reducible rfl
    rotate_left
    · simp only [Act.put, List.setIfInBounds_toArray, List.set_cons_zero, List.set_cons_succ]
      rfl
    refine pure_ (i := 1) (N := (some 31)) (v := ?_) (a' := ?_) #[true, true, false, false, false, false, false, false, false, false, false, false, false, false, false, false] rfl rfl (by kernel_rfl) (fun _ _ _ h => h) (Or.inl ⟨by rfl, ?_⟩) ?_ ?_
    rotate_left
    · intro w'
      go_simp
      with_reducible rfl
    rotate_left
    · simp only [Act.put, List.setIfInBounds_toArray, List.set_cons_zero, List.set_cons_succ]
      rfl
    refine pure_ (i := 2) (N := (some 32)) (v := ?_) (a' := ?_) #[true, true, true, false, false, false, false, false, false, false, false, false, false, false, false, false] rfl rfl (by kernel_rfl) (fun _ _ _ h => h) (Or.inl ⟨by rfl, ?_⟩) ?_ ?_
    rotate_left
    · intro w'
      go_simp
      with_reducible rfl
    rotate_left
    · simp only [Act.put, List.setIfInBounds_toArray, List.set_cons_zero, List.set_cons_succ]
      rfl
    refine take_ (i := 3) (N := (some 33)) (v := ?_) (a' := ?_) #[true, true, true, true, false, false, false, false, false, false, false, false, false, false, false, false] rfl rfl (by kernel_rfl) (fun _ _ _ h => h) (Or.inl ⟨by rfl, ?_⟩) hHeld ?_ ?_
    rotate_left
    · rintro w' hS
      have hc := rcell H3.out.rd hS
      obtain ⟨hc1, hc2, hc3⟩ := hc
      go_simp
      with_reducible rfl
    rotate_left
    · simp only [Act.put, List.setIfInBounds_toArray, List.set_cons_zero, List.set_cons_succ]
      rfl
    refine pure_ (i := 4) (N := (some 34)) (v := ?_) (a' := ?_) #[true, true, true, true, true, false, false, false, false, false, false, false, false, false, false, false] rfl rfl (by kernel_rfl) (fun _ _ _ h => h) (Or.inl ⟨by rfl, ?_⟩) ?_ ?_
    rotate_left
    · intro w'
      go_simp
      with_reducible rfl
    rotate_left
    · simp only [Act.put, List.setIfInBounds_toArray, List.set_cons_zero, List.set_cons_succ]
      rfl
    refine pure_ (i := 5) (N := (some 35)) (v := ?_) (a' := ?_) #[true, true, true, true, true, true, false, false, false, false, false, false, false, false, false, false] rfl rfl (by kernel_rfl) (fun _ _ _ h => h) (Or.inl ⟨by rfl, ?_⟩) ?_ ?_
    rotate_left
    · intro w'
      go_simp
      with_reducible rfl
    rotate_left
    · simp only [Act.put, List.setIfInBounds_toArray, List.set_cons_zero, List.set_cons_succ]
      rfl
    refine pure_ (i := 6) (N := (some 36)) (v := ?_) (a' := ?_) #[true, true, true, true, true, true, true, false, false, false, false, false, false, false, false, false] rfl rfl (by kernel_rfl) (fun _ _ _ h => h) (Or.inl ⟨by rfl, ?_⟩) ?_ ?_
    rotate_left
    · intro w'
      go_simp
      with_reducible rfl
    rotate_left
    · simp only [Act.put, List.setIfInBounds_toArray, List.set_cons_zero, List.set_cons_succ]
      rfl
    refine take_ (i := 7) (N := (some 37)) (v := ?_) (a' := ?_) #[true, true, true, true, true, true, true, true, false, false, false, false, false, false, false, false] rfl rfl (by kernel_rfl) (fun _ _ _ h => h) (Or.inl ⟨by rfl, ?_⟩) hHeld ?_ ?_
    rotate_left
    · rintro w' hS
      have hc := rcell H3.out.rd hS
      obtain ⟨hc1, hc2, hc3⟩ := hc
      go_simp
      with_reducible rfl
    rotate_left
    · simp only [Act.put, List.setIfInBounds_toArray, List.set_cons_zero, List.set_cons_succ]
      rfl
    refine pure_ (i := 8) (N := (some 38)) (v := ?_) (a' := ?_) #[true, true, true, true, true, true, true, true, true, false, false, false, false, false, false, false] rfl rfl (by kernel_rfl) (fun _ _ _ h => h) (Or.inl ⟨by rfl, ?_⟩) ?_ ?_
    rotate_left
    · intro w'
      go_simp
      with_reducible rfl
    rotate_left
    · simp only [Act.put, List.setIfInBounds_toArray, List.set_cons_zero, List.set_cons_succ]
      rfl
    refine pure_ (i := 9) (N := (some 39)) (v := ?_) (a' := ?_) #[true, true, true, true, true, true, true, true, true, true, false, false, false, false, false, false] rfl rfl (by kernel_rfl) (fun _ _ _ h => h) (Or.inl ⟨by rfl, ?_⟩) ?_ ?_
    rotate_left
    · intro w'
      go_simp
      with_reducible rfl
    rotate_left
    · simp only [Act.put, List.setIfInBounds_toArray, List.set_cons_zero, List.set_cons_succ]
      rfl
    refine pure_ (i := 10) (N := (some 40)) (v := ?_) (a' := ?_) #[true, true, true, true, true, true, true, true, true, true, true, false, false, false, false, false] rfl rfl (by kernel_rfl) (fun _ _ _ h => h) (Or.inl ⟨by rfl, ?_⟩) ?_ ?_
    rotate_left
    · intro w'
      go_simp
      with_reducible rfl
    rotate_left
    · simp only [Act.put, List.setIfInBounds_toArray, List.set_cons_zero, List.set_cons_succ]
      rfl
    refine pure_ (i := 11) (N := (some 41)) (v := ?_) (a' := ?_) #[true, true, true, true, true, true, true, true, true, true, true, true, false, false, false, false] rfl rfl (by kernel_rfl) (fun _ _ _ h => h) (Or.inl ⟨by rfl, ?_⟩) ?_ ?_
    rotate_left
    · intro w'
      go_simp
      with_reducible rfl
    rotate_left
    · simp only [Act.put, List.setIfInBounds_toArray, List.set_cons_zero, List.set_cons_succ]
      rfl
    refine pure_ (i := 12) (N := (some 42)) (v := ?_) (a' := ?_) #[true, true, true, true, true, true, true, true, true, true, true, true, true, false, false, false] rfl rfl (by kernel_rfl) (fun _ _ _ h => h) (Or.inl ⟨by rfl, ?_⟩) ?_ ?_
    rotate_left
    · intro w'
      go_simp
      with_reducible rfl
    rotate_left
    · simp only [Act.put, List.setIfInBounds_toArray, List.set_cons_zero, List.set_cons_succ]
      rfl
    refine take_ (i := 13) (N := (some 43)) (v := ?_) (a' := ?_) #[true, true, true, true, true, true, true, true, true, true, true, true, true, true, false, false] rfl rfl (by kernel_rfl) (fun _ _ _ h => h) (Or.inl ⟨by rfl, ?_⟩) hHeld ?_ ?_
    rotate_left
    · rintro w' hS
      have hc := rcell H3.out.rd hS
      obtain ⟨hc1, hc2, hc3⟩ := hc
      go_simp
      with_reducible rfl
    rotate_left
    · simp only [Act.put, List.setIfInBounds_toArray, List.set_cons_zero, List.set_cons_succ]
      rfl
    refine pure_ (i := 14) (N := (some 44)) (v := ?_) (a' := ?_) #[true, true, true, true, true, true, true, true, true, true, true, true, true, true, true, false] rfl rfl (by kernel_rfl) (fun _ _ _ h => h) (Or.inl ⟨by rfl, ?_⟩) ?_ ?_
    rotate_left
    · intro w'
      have bb := b1
      go_simp
      with_reducible rfl
    rotate_left
    · simp only [Act.put, List.setIfInBounds_toArray, List.set_cons_zero, List.set_cons_succ]
      rfl
    refine pure_ (i := 15) (N := (some 4)) (v := ?_) (a' := ?_) #[true, true, true, true, true, true, true, true, true, true, true, true, true, true, true, true] rfl rfl (by kernel_rfl) (fun _ _ _ h => h) (Or.inl ⟨by rfl, ?_⟩) ?_ ?_
    rotate_left
    · intro w'
      go_simp
      with_reducible rfl
    rotate_left
    · simp only [Act.put, List.setIfInBounds_toArray, List.set_cons_zero, List.set_cons_succ]
      rfl
    refine done_ (by kernel_rfl) ?_
    go_wp2
    go_ret
    exact ⟨by rw [sel_pos HCc.out]; rfl, by rw [sel_pos HCc.out]; exact H3.out.below HS3.out, K3.out.trans (Kf.of_below (Nat.le_trans (show lo ≤ f from HL.out) (Nat.le_of_lt (blk_lt H3.out.ft))) HS3.out)⟩
  · have c0 : (needed code ok == 0) = false := beq_eq_false_iff_ne.mpr c
    have HCc := Aside0.mk c
    clear c
    go_wp2_with (first
      | (go_at_call 51; (with_reducible refine (ok_calls lo r f s q _ tw last _ H8.out).mono ?_); rintro e10 w10 ⟨rfl, rfl⟩))
    go_ret
    exact ⟨by rw [sel_neg HCc.out]; rfl, by rw [sel_neg HCc.out]; exact H8.out, K8.out⟩
theorem RS.sz {W : World} {r f : Nat} {R : Rp} (h : RS W r f R) : r < W.heap.size ∧ f < W.heap.size := ⟨blk_lt h.rd, blk_lt h.ft⟩
theorem RS.wsz {W : World} {r f lo : Nat} {R : Rp} (h : RS W r f R) (hl : lo ≤ f) : lo ≤ W.heap.size := Nat.le_of_lt (Nat.lt_of_le_of_lt hl (blk_lt h.ft))
theorem RS.back {w1 w2 : World} {lo r r2 f : Nat} {P I I' : Rp} (h : RS w1 r f P) (hn : r ≠ r2) (k : Kf lo r2 f w1 w2) (h2 : RS w2 r2 f I') : RS w2 r f (P.back I') := ⟨k.keep r _ h.rd hn h.ne, h2.ft⟩
theorem Kf.inner {lo r r2 f : Nat} {w w1 w2 : World} (h : Kf lo r f w w1) (hn : w.heap.size ≤ r2) (k : Kf lo r2 f w1 w2) : Kf lo r f w w2 :=
  ⟨h.below.trans k.below, fun i o hi hr hf => k.keep i o (h.keep i o hi hr hf) (by have := blk_lt hi; omega) hf⟩
theorem Kf.size {lo r f : Nat} {w w1 : World} (h : Kf lo r f w w1) : w.heap.size ≤ w1.heap.size := h.below.size
def Rp.verR (R : Rp) : Rp := (R.numR 2).allow (R.numV 2 == 771)
theorem Rp.Ok.verR {R : Rp} (h : R.Ok) : R.verR.Ok := (h.numR 2).allow _
set_option maxRecDepth 100000 in
set_option maxHeartbeats 8000000 in
theorem version_c (lo r f : Nat) (R : Rp) (w : World) (hl : lo ≤ f) (hl2 : lo ≤ r) (h : RS w r f R) (ho : R.Ok) :
    Calls Try.prog 93 #[.pointer (some ⟨r, 0, none⟩)] w fun ex w' => ex = .returned (.tuple #[]) ∧ RS w' r f R.verR ∧ Kf lo r f w w' := by
  have H := Aside0.mk h
  have HL := Aside0.mk hl
  have HL2 := Aside0.mk hl2
  have HO := Aside0.mk ho
  clear h hl hl2 ho
  go_enter Try.func93, Try.ntmps93
  go_wp2_with (first
    | (go_at_call 70; (with_reducible refine (u16_c lo r f R _ HL.out HL2.out H.out HO.out).mono ?_); rintro e1 w1 ⟨rfl, i1, k1⟩; have H1 := Aside0.mk i1; have K1 := Aside0.mk k1; clear i1 k1)
    | (go_at_call 76; (with_reducible refine (allow_c lo r f (R.numR 2) _ (R.numV 2 == 771) HL.out H1.out).mono ?_); rintro e2 w2 ⟨rfl, i2, k2⟩; have H2 := Aside0.mk i2; have K2 := Aside0.mk (K1.out.trans k2); clear i2 k2))
  first | go_end0 | ((try simp only [Exit.inBlock, Exit.then]); refine bodyPost_ret (results_none rfl _ _ _) rfl ?_)
  exact ⟨rfl, H2.out, K2.out⟩
def Rp.barE (R : Rp) : Int := (Go.Proofs.Ytlkebjkpmiehcaa.Pure.getOf (R.vecV 2 0 65536)).2
def Rp.setT (R : Rp) : Rp := { R with t := true }
def Rp.barR (R : Rp) : Rp := if R.barE = 1601 then (R.vecR 2 0 65536).setT else if R.barE = 1600 then (R.vecR 2 0 65536).fail 1700 else R.vecR 2 0 65536
theorem Rp.Ok.barR {R : Rp} (h : R.Ok) : R.barR.Ok := by
  unfold Rp.barR
  have h2 := h.vecR 2 0 65536
  split
  · exact ⟨h2.lo, h2.hi, h2.sz⟩
  · split
    · exact h2.fail _
    · exact h2
theorem sz4 : (Try.prog.info? 4).map (·.size) = some 1 := by kernel_rfl
section
variable {ops : Array Oper} {rest : List Oper} {o : Oper} {a : Act} {Q : Exit → Act → World → Prop} {w : World}
theorem wsz66 : (Try.prog.info? 66).map (·.size) = some 2 := by kernel_rfl
theorem zero66 : (Try.prog.info? 66).map (·.zero) = some (some (.agg #[.int .i64 0, .string ⟨#[]⟩])) := by kernel_rfl
theorem allocT {t : TypeId} {zs : Array Value} (hz : (Try.prog.info? t).map (·.zero) = some (some (.agg zs))) (hgd : o.guard = none) (ho : o.op = .alloc t)
    (H : ∀ g, g = w.heap.size → ∀ w1, w1.heap[g]? = some (.cells zs t (0, 0)) → Below w.heap.size w w1 → wpList Try.prog ops Q rest (a.put o.dst (.pointer (some ⟨g, 0, none⟩))) w1) : wpList Try.prog ops Q (o :: rest) a w := by
  refine Kd.event_run hgd ?_ (H _ rfl _ (blk_new w (.cells zs t)) (below_alloc (Below.refl _ _) _))
  obtain ⟨i0, hi, hz⟩ := Option.map_eq_some_iff.1 hz
  unfold execOp
  simp only [ho, Instr.alloc, zeroValue, typeInfo, Sem.run_bind]
  simp [hi, hz]
  rfl
theorem stRow2 {n : TypeId} (hsz : (Try.prog.info? n).map (·.size) = some 2) (hgd : o.guard = none) {p x : Operand} (ho : o.op = .store n p x) {g : Nat} (hp : a.eval p = .pointer (some ⟨g, 0, none⟩))
    {cs zs : Array Value} (hx : a.eval x = .agg cs) {t : TypeId} (h : w.heap[g]? = some (.cells zs t (0, 0))) (hz : zs.size = 2) (hc : cs.size = 2) (h1 : cs.toList.all (·.oneCell') = true)
    (H : ∀ w1, w1.heap[g]? = some (.cells cs t (0, 0)) → (∀ lo, lo ≤ g → Below lo w w1) → KeepBut w w1 g none → wpList Try.prog ops Q rest (a.put o.dst undef) w1) : wpList Try.prog ops Q (o :: rest) a w := by
  refine wpList_plain hgd fun K hK => wp_store_row n p x ho g cs hp hx t zs h (by rw [hc]; exact hsz) (by rw [hz, hc]) (by rw [← Array.all_toList]; exact h1) (hK _ _ (H _ ?_ ?_ ?_))
  · simp [World.setRow, Array.getElem?_modify, h]
  · intro lo hl
    refine ⟨rfl, rfl, rfl, by simp [World.setRow], fun k hk => ?_⟩
    simp only [World.setRow, Array.getElem?_modify]
    rw [if_neg (by omega)]
  · refine ⟨by simp [World.setRow], fun k hk hne _ => ?_⟩
    simp only [World.setRow, Array.getElem?_modify]
    rw [if_neg (Ne.symm hne)]
end
def Rp.shaV (R : Rp) : S66 := ⟨R.numV 2, (R.numR 2).vecV 2 1 65536⟩
def Rp.shaR (R : Rp) : Rp := (R.numR 2).vecR 2 1 65536
def Rp.ideV (R : Rp) : S111 := ⟨R.vecV 2 1 65536, (R.vecR 2 1 65536).numV 4⟩
def Rp.ideR (R : Rp) : Rp := (R.vecR 2 1 65536).numR 4
theorem Rp.Ok.shaR {R : Rp} (h : R.Ok) : R.shaR.Ok := (h.numR 2).vecR _ _ _
theorem Rp.Ok.ideR {R : Rp} (h : R.Ok) : R.ideR.Ok := (h.vecR _ _ _).numR 4
set_option maxRecDepth 100000 in
set_option maxHeartbeats 8000000 in
theorem share_c (lo r f : Nat) (R : Rp) (w : World) (hl : lo ≤ f) (hl2 : lo ≤ r) (h : RS w r f R) (ho : R.Ok) :
    Calls Try.prog 114 #[.pointer (some ⟨r, 0, none⟩)] w fun ex w' => ex = .returned (.agg #[.int .i64 R.shaV.f0, .string R.shaV.f1]) ∧ RS w' r f R.shaR ∧ Kf lo r f w w' := by
  have H := Aside0.mk h
  have HL := Aside0.mk hl
  have HL2 := Aside0.mk hl2
  have HO := Aside0.mk ho
  clear h hl hl2 ho
  go_enter Try.func114, Try.ntmps114
  go_wp2_with (first
    | ((with_reducible refine gate_dst (N := 2) rfl ?_); refine allocT zero66 rfl rfl ?_; intro g eg w0 h0 b0; have HG := Aside0.mk h0; have HE := Aside0.mk eg; have H0 := Aside0.mk (H.out.below b0); have K0 := Aside0.mk (Kf.of_below (r := r) (f := f) (H.out.wsz HL.out) b0); clear h0 b0 eg)
    | (go_at_call 70; (with_reducible refine (u16_c lo r f R _ HL.out HL2.out H0.out HO.out).mono ?_); rintro e1 w1 ⟨rfl, i1, k1⟩; have HG1 := Aside0.mk (k1.keep g _ HG.out (by have := HE.out; have := H.out.sz; omega) (by have := HE.out; have := H.out.sz; omega)); have H1 := Aside0.mk i1; have K1 := Aside0.mk (K0.out.trans k1); clear i1 k1)
    | (go_at_call 71; (with_reducible refine (rvec_c lo r f (R.numR 2) _ 2 2 rfl 1 65536 (by omega) (by omega) HL.out HL2.out H1.out (HO.out.numR 2)).mono ?_); rintro e2 w2 ⟨rfl, i2, k2⟩; have HG2 := Aside0.mk (k2.keep g _ HG1.out (by have := HE.out; have := H.out.sz; omega) (by have := HE.out; have := H.out.sz; omega)); have H2 := Aside0.mk i2; have K2 := Aside0.mk (K1.out.trans k2); clear i2 k2)
    | ((with_reducible refine gate_store (p := 2) rfl ?_); refine stRow2 wsz66 rfl rfl rfl rfl HG2.out rfl rfl rfl ?_; intro w3 h3 b3 k3; have HG3 := Aside0.mk h3; have H3 := Aside0.mk (Rs.mk ((k3.2 r (blk_lt H2.out.rd) (by have := HE.out; have := H.out.sz; omega) (by simp)).trans H2.out.rd) ((k3.2 f (blk_lt H2.out.ft) (by have := HE.out; have := H.out.sz; omega) (by simp)).trans H2.out.ft)); have K3 := Aside0.mk (Kf.mk (K2.out.below.trans (b3 _ (by have := HE.out; have := H.out.wsz HL.out; omega))) (fun i o hi hr hf => (k3.2 i (blk_lt (K2.out.keep i o hi hr hf)) (by have := HE.out; have := blk_lt hi; omega) (by simp)).trans (K2.out.keep i o hi hr hf))); clear h3 b3 k3))
  refine bodyPost_ret (results_cell_row rfl _ _ g 66 _ (0, 0) _ rfl HG3.out Try.underlying66 rfl wsz66) rfl ?_
  exact ⟨rfl, H3.out, K3.out⟩
def Rp.nam1 (R : Rp) : Rp := ((R.inR 2).numR 1).need ((R.inR 2).numV 1 == 0)
def Rp.namV (R : Rp) : ByteArray := R.nam1.vecV 2 1 64
def Rp.namR (R : Rp) : Rp := (R.outR 2).back (R.nam1.vecR 2 1 64).done
theorem Rp.Ok.nam1 {R : Rp} (h : R.Ok) : R.nam1.Ok := ((h.inR 2).numR 1).need _
theorem Rp.Ok.namR {R : Rp} (h : R.Ok) : R.namR.Ok := (h.outR 2).back _
def Rp.cerV (R : Rp) : ByteArray := R.vecV 3 1 16777216
def Rp.cerR (R : Rp) : Rp := (R.vecR 3 1 16777216).barR
def Rp.binV (R : Rp) : ByteArray := R.vecV 1 32 255
def Rp.binR (R : Rp) : Rp := R.vecR 1 32 255
theorem Rp.Ok.cerR {R : Rp} (h : R.Ok) : R.cerR.Ok := (h.vecR _ _ _).barR
theorem Rp.Ok.binR {R : Rp} (h : R.Ok) : R.binR.Ok := h.vecR _ _ _
end Go.Proofs.Ytlkebjkpmiehcaa.Ms
end
section
namespace Go.Proofs.Ytlkebjkpmiehcaa.Ms
open Go.RowKit Go.Proofs.YtlkebjkpmiehcaaW.PrintWords Go.Proofs.YtlkebjkpmiehcaaW.PrintLast Go.Proofs.YtlkebjkpmiehcaaW.PrintMore Go.Proofs.Ytlkebjkpmiehcaa.X
open Go.Proofs.Ytlkebjkpmiehcaa.Pure (nv numOf vecOf nv_bd nv_bd4 number_any vec_ok)
set_option linter.unusedVariables false
def Rp.mu (R : Rp) : Nat := if R.c = 0 then (R.s.size - R.p.toNat) else 0
theorem mu_pos {R : Rp} (h0 : 0 ≤ R.p) (h : R.more = true) : 0 < R.mu := by
  unfold Rp.more at h
  simp only [Bool.and_eq_true, beq_iff_eq, decide_eq_true_eq] at h
  unfold Rp.mu
  rw [if_pos h.1]
  omega
theorem mu_le (R : Rp) : R.mu ≤ R.s.size := by
  unfold Rp.mu
  split <;> omega
theorem mu_lt {R R' : Rp} (h : R.more = true) (hs : R'.s = R.s) (h0 : 0 ≤ R.p) (hp : R'.c = 0 → R.p < R'.p) : R'.mu < R.mu := by
  have hm := mu_pos h0 h
  unfold Rp.more at h
  simp only [Bool.and_eq_true, beq_iff_eq, decide_eq_true_eq] at h
  unfold Rp.mu at hm ⊢
  rw [if_pos h.1, hs] at *
  split
  · have := hp ‹_›
    omega
  · exact hm
structure OneOk {α : Type} (one : Rp → α × Rp) : Prop where
  ok : ∀ R, R.Ok → (one R).2.Ok
  mu : ∀ R, R.Ok → R.more = true → (one R).2.mu < R.mu
  st : ∀ R, R.Ok → (one R).2.c = 0 → R.c = 0
def rAll {α : Type} (one : Rp → α × Rp) : Nat → Rp → List α × Rp
  | 0, R => ([], R)
  | k + 1, R => if R.more = true then ((one R).1 :: (rAll one k (one R).2).1, (rAll one k (one R).2).2) else ([], R)
def allV {α : Type} (one : Rp → α × Rp) (R : Rp) : List α := (rAll one R.s.size R).1
def allR {α : Type} (one : Rp → α × Rp) (R : Rp) : Rp := (rAll one R.s.size R).2
def Rp.lst (R : Rp) (n : Nat) : Rp := (R.inR n).need (decide (0 < (R.inR n).s.size))
def lstV {α : Type} (one : Rp → α × Rp) (R : Rp) (n : Nat) : List α := allV one (R.lst n)
def lstR {α : Type} (one : Rp → α × Rp) (R : Rp) (n : Nat) : Rp := (R.outR n).back (allR one (R.lst n))
theorem rAll_ok {α : Type} {one : Rp → α × Rp} (h : OneOk one) : ∀ (k : Nat) (R : Rp), R.Ok → (rAll one k R).2.Ok
  | 0, _, ho => ho
  | k + 1, R, ho => by
    unfold rAll
    split
    · exact rAll_ok h k _ (h.ok R ho)
    · exact ho
theorem Rp.Ok.allR {α : Type} {one : Rp → α × Rp} (h : OneOk one) {R : Rp} (ho : R.Ok) : (Ms.allR one R).Ok := rAll_ok h _ R ho
theorem Rp.Ok.lst {R : Rp} (ho : R.Ok) (n : Nat) : (R.lst n).Ok := (ho.inR n).need _
theorem Rp.Ok.lstR {α : Type} {one : Rp → α × Rp} {R : Rp} (ho : R.Ok) (n : Nat) : (Ms.lstR one R n).Ok := (ho.outR n).back _
def oneNum (n : Nat) (R : Rp) : Int × Rp := (R.numV n, R.numR n)
def oneSha (R : Rp) : S66 × Rp := (R.shaV, R.shaR)
def oneIde (R : Rp) : S111 × Rp := (R.ideV, R.ideR)
def oneCer (R : Rp) : ByteArray × Rp := (R.cerV, R.cerR)
def oneBin (R : Rp) : ByteArray × Rp := (R.binV, R.binR)
theorem numR_c {R : Rp} {n : Nat} (h : (R.numR n).c = 0) (ho : R.Ok) : R.c = 0 ∧ (R.numR n).p = R.p + n := by
  have hz := needed_zero h
  refine ⟨hz.1, ?_⟩
  show sel (R.numC n) _ _ = _
  rw [sel_pos (show R.numC n = 0 from h)]
  rcases num_ok (s := R.s) (p := R.p) (n := n) ho.lo ho.hi with ⟨_, h2, _⟩ | h2
  · rw [h2]
  · have := hz.2
    rw [h2] at this
    exact absurd this (by decide)
theorem vecR_c {R : Rp} {n : Nat} {least most : Int} (h : (R.vecR n least most).c = 0) (ho : R.Ok) : R.c = 0 ∧ R.p + n ≤ (R.vecR n least most).p := by
  have hz := vecC_zero h
  refine ⟨hz.1, ?_⟩
  show _ ≤ sel (R.vecC n least most) _ _
  rw [sel_pos (show R.vecC n least most = 0 from h)]
  exact (vec_bd' ho.lo hz.2.1).1
theorem oneSha_ok : OneOk oneSha := ⟨fun R h => h.shaR, fun R ho hm => mu_lt hm rfl ho.lo fun hc => by
  have h1 := vecR_c hc (ho.numR 2)
  have h2 := (numR_c h1.1 ho).2
  show R.p < ((R.numR 2).vecR 2 1 65536).p
  omega, fun R ho hc => (numR_c (vecR_c hc (ho.numR 2)).1 ho).1⟩
theorem Kf.over {lo r f B : Nat} {w W w1 : World} (h : Kf lo r f w W) (hb : Below B W w1) (hl : lo ≤ B) (hB : w.heap.size ≤ B) : Kf lo r f w w1 :=
  ⟨h.below.trans (hb.mono hl), fun i o hi hr hf => (hb.block i (Nat.lt_of_lt_of_le (blk_lt hi) hB)).trans (h.keep i o hi hr hf)⟩
theorem RS.over {W w1 : World} {r f B : Nat} {R : Rp} (h : RS W r f R) (hb : Below B W w1) (hr : r < B) (hf : f < B) : RS w1 r f R := ⟨(hb.block r hr).trans h.rd, (hb.block f hf).trans h.ft⟩
theorem len_bd {n m b : Nat} (h : n + m ≤ 65536) (hm : 0 < m) (hb : b ≤ 24) : (n + 1) * b ≤ 140737488355328 := Nat.le_trans (Nat.mul_le_mul_left _ hb) (by omega)
end Go.Proofs.Ytlkebjkpmiehcaa.Ms
end
section
namespace Go.Proofs.Ytlkebjkpmiehcaa.Ms
open Go.RowKit Go.Proofs.YtlkebjkpmiehcaaW.PrintWords Go.Proofs.YtlkebjkpmiehcaaW.PrintLast Go.Proofs.YtlkebjkpmiehcaaW.PrintMore Go.Proofs.Ytlkebjkpmiehcaa.X
set_option linter.unusedVariables false
structure Mv where
  f0 : Int
  f1 : ByteArray
  f2 : ByteArray
  f3 : List Int
  f4 : ByteArray
  f5 : List Int
  f6 : List Int
  f7 : List Int
  f8 : List Int
  f9 : List S66
  f10 : List S111
  f11 : List ByteArray
  f12 : Int
  f13 : List Int
  f14 : List ByteArray
  f15 : Int
  f16 : ByteArray
  f17 : Int
  f18 : Int
  f19 : ByteArray
  f20 : Int
structure Hd where
  A3 : Option Addr
  c3 : Nat
  A5 : Option Addr
  c5 : Nat
  A6 : Option Addr
  c6 : Nat
  A7 : Option Addr
  c7 : Nat
  A8 : Option Addr
  c8 : Nat
  A9 : Option Addr
  c9 : Nat
  A10 : Option Addr
  c10 : Nat
  A11 : Option Addr
  c11 : Nat
  A13 : Option Addr
  c13 : Nat
  A14 : Option Addr
  c14 : Nat
def cells (m : Mv) (h : Hd) : Array Value := #[.int .i64 m.f0, .string m.f1, .string m.f2, .slice h.A3 m.f3.length h.c3, .string m.f4, .slice h.A5 m.f5.length h.c5, .slice h.A6 m.f6.length h.c6, .slice h.A7 m.f7.length h.c7, .slice h.A8 m.f8.length h.c8, .slice h.A9 m.f9.length h.c9, .slice h.A10 m.f10.length h.c10, .slice h.A11 m.f11.length h.c11, .int .i64 m.f12, .slice h.A13 m.f13.length h.c13, .slice h.A14 m.f14.length h.c14, .int .i64 m.f15, .string m.f16, .int .i64 m.f17, .int .i64 m.f18, .string m.f19, .int .i64 m.f20]
structure Reads (w : World) (m : Mv) (h : Hd) : Prop where
  r3 : Kd.C (Kd.int .i64) w h.A3 m.f3.length m.f3
  l3 : m.f3.length ≤ h.c3
  r5 : Kd.C (Kd.int .i64) w h.A5 m.f5.length m.f5
  l5 : m.f5.length ≤ h.c5
  r6 : Kd.C (Kd.int .i64) w h.A6 m.f6.length m.f6
  l6 : m.f6.length ≤ h.c6
  r7 : Kd.C (Kd.int .i64) w h.A7 m.f7.length m.f7
  l7 : m.f7.length ≤ h.c7
  r8 : Kd.C (Kd.int .i64) w h.A8 m.f8.length m.f8
  l8 : m.f8.length ≤ h.c8
  r9 : Kd.C k66 w h.A9 m.f9.length m.f9
  l9 : m.f9.length ≤ h.c9
  r10 : Kd.C k111 w h.A10 m.f10.length m.f10
  l10 : m.f10.length ≤ h.c10
  r11 : Kd.C Kd.string w h.A11 m.f11.length m.f11
  l11 : m.f11.length ≤ h.c11
  r13 : Kd.C (Kd.int .i64) w h.A13 m.f13.length m.f13
  l13 : m.f13.length ≤ h.c13
  r14 : Kd.C Kd.string w h.A14 m.f14.length m.f14
  l14 : m.f14.length ≤ h.c14
theorem Reads.below {w w2 : World} {m : Mv} {h : Hd} (r : Reads w m h) (b : Below w.heap.size w w2) : Reads w2 m h := ⟨Kd.C_below r.r3 b, r.l3, Kd.C_below r.r5 b, r.l5, Kd.C_below r.r6 b, r.l6, Kd.C_below r.r7 b, r.l7, Kd.C_below r.r8 b, r.l8, Kd.C_below r.r9 b, r.l9, Kd.C_below r.r10 b, r.l10, Kd.C_below r.r11 b, r.l11, Kd.C_below r.r13 b, r.l13, Kd.C_below r.r14 b, r.l14⟩
def Mv.unused (m : Mv) : Mv := if m.f0 = 1 then { m with f4 := ByteArray.empty, f7 := [], f8 := [], f10 := [], f11 := [], f1 := ByteArray.empty, f2 := ByteArray.empty, f3 := [], f5 := [], f6 := [], f9 := [] } else if m.f0 = 2 then { m with f12 := 0, f1 := ByteArray.empty, f2 := ByteArray.empty, f3 := [], f5 := [], f6 := [], f9 := [] } else if m.f0 = 11 then { m with f14 := [] } else if m.f0 = 4 then { m with f17 := 0, f18 := 0, f19 := ByteArray.empty, f16 := ByteArray.empty } else if m.f0 = 20 then { m with f16 := ByteArray.empty } else if m.f0 = 15 then { m with f15 := 0, f16 := ByteArray.empty } else if m.f0 = 24 then { m with f20 := 0 } else m
def Hd.unused (m : Mv) (h : Hd) : Hd := if m.f0 = 1 then { h with A7 := none, c7 := 0, A8 := none, c8 := 0, A10 := none, c10 := 0, A11 := none, c11 := 0, A3 := none, c3 := 0, A5 := none, c5 := 0, A6 := none, c6 := 0, A9 := none, c9 := 0 } else if m.f0 = 2 then { h with A3 := none, c3 := 0, A5 := none, c5 := 0, A6 := none, c6 := 0, A9 := none, c9 := 0 } else if m.f0 = 11 then { h with A14 := none, c14 := 0 } else if m.f0 = 4 then h else if m.f0 = 20 then h else if m.f0 = 15 then h else if m.f0 = 24 then h else h
theorem sz3 : (Try.prog.info? 3).map (·.size) = some 1 := by kernel_rfl
theorem sz9 : (Try.prog.info? 9).map (·.size) = some 1 := by kernel_rfl
theorem sz44 : (Try.prog.info? 44).map (·.size) = some 1 := by kernel_rfl
theorem sz45 : (Try.prog.info? 45).map (·.size) = some 1 := by kernel_rfl
theorem sz46 : (Try.prog.info? 46).map (·.size) = some 1 := by kernel_rfl
theorem sz47 : (Try.prog.info? 47).map (·.size) = some 1 := by kernel_rfl
theorem sz49 : (Try.prog.info? 49).map (·.size) = some 21 := by kernel_rfl
theorem C_nil {α : Type} (d : Kd α) (w : World) : Kd.C d w none 0 [] := Kd.C_nil _ _
def zcells : Array Value := #[.int .i64 0, .string ⟨#[]⟩, .string ⟨#[]⟩, .slice none 0 0, .string ⟨#[]⟩, .slice none 0 0, .slice none 0 0, .slice none 0 0, .slice none 0 0, .slice none 0 0, .slice none 0 0, .slice none 0 0, .int .i64 0, .slice none 0 0, .slice none 0 0, .int .i64 0, .string ⟨#[]⟩, .int .i64 0, .int .i64 0, .string ⟨#[]⟩, .int .i64 0]
theorem box49 {ops : Array Oper} {rest : List Oper} {o : Oper} {a : Act} {Q : Exit → Act → World → Prop} {w : World} {x : Operand} (hgd : o.guard = none) (ho : o.op = .box 49 x) {cs : Array Value} (hx : a.eval x = .agg cs)
    (H : ∀ g, g = w.heap.size → ∀ w1, w1.heap[g]? = some (.cells cs 49 (0, 0)) → Below w.heap.size w w1 → wpList Try.prog ops Q rest (a.put o.dst (.pointer (some ⟨g, 0, none⟩))) w1) : wpList Try.prog ops Q (o :: rest) a w := by
  refine Kd.event_run hgd ?_ (H _ rfl _ (blk_new w _) (below_alloc (Below.refl _ _) _))
  unfold execOp
  simp only [ho, hx]
  rfl
theorem zero49 : (Try.prog.info? 49).map (·.zero) = some (some (.agg #[.int .i64 0, .string ⟨#[]⟩, .string ⟨#[]⟩, .slice none 0 0, .string ⟨#[]⟩, .slice none 0 0, .slice none 0 0, .slice none 0 0, .slice none 0 0, .slice none 0 0, .slice none 0 0, .slice none 0 0, .int .i64 0, .slice none 0 0, .slice none 0 0, .int .i64 0, .string ⟨#[]⟩, .int .i64 0, .int .i64 0, .string ⟨#[]⟩, .int .i64 0])) := by kernel_rfl
theorem alloc49 {ops : Array Oper} {rest : List Oper} {o : Oper} {a : Act} {Q : Exit → Act → World → Prop} {w : World} (hgd : o.guard = none) (ho : o.op = .alloc 49)
    (H : ∀ g, g = w.heap.size → ∀ cs, cs.size = 21 → ∀ w1, w1.heap[g]? = some (.cells cs 49 (0, 0)) → Below w.heap.size w w1 → wpList Try.prog ops Q rest (a.put o.dst (.pointer (some ⟨g, 0, none⟩))) w1) : wpList Try.prog ops Q (o :: rest) a w := by
  refine Kd.event_run hgd ?_ (H _ rfl zcells rfl _ (blk_new w (.cells zcells 49)) (below_alloc (Below.refl _ _) _))
  obtain ⟨i0, hi, hz⟩ := Option.map_eq_some_iff.1 zero49
  unfold execOp
  simp only [ho, Instr.alloc, zeroValue, typeInfo, Sem.run_bind]
  simp [hi, hz]
  rfl
def Mv.texts (m : Mv) : Nat := m.f1.size + m.f2.size + m.f4.size + m.f16.size + m.f19.size
def Mv.lists (m : Mv) : Nat := m.f3.length + m.f5.length + m.f6.length + m.f7.length + m.f8.length + m.f9.length + m.f10.length + m.f11.length + m.f13.length + m.f14.length
def Mv.zero (m : Mv) : Bool := m.texts == 0 && m.lists == 0 && m.f12 == 0 && m.f15 == 0 && m.f17 == 0 && m.f18 == 0 && m.f20 == 0
theorem zero_f (m : Mv) (ht : m.texts ≤ 9223372036854775807) (hl : m.lists ≤ 9223372036854775807) : msg_zero.f m.f0 m.f1 m.f2 m.f3 m.f4 m.f5 m.f6 m.f7 m.f8 m.f9 m.f10 m.f11 m.f12 m.f13 m.f14 m.f15 m.f16 m.f17 m.f18 m.f19 m.f20 = some m.zero := by
  unfold Mv.texts at ht
  unfold Mv.lists at hl
  have e (s : ByteArray) : (s.toList = ([] : List UInt8)) ↔ s.size = 0 := by
    rw [ByteArray.toList_eq]
    exact ⟨fun h => by have := congrArg List.length h; simpa using this, fun h => List.eq_nil_of_length_eq_zero (by simpa using h)⟩
  have w64 (x : Int) (h0 : 0 ≤ x) (h1 : x ≤ 9223372036854775807) : wrap64 x = x := (i64_w x).symm.trans (IntWalk.i64_in x (by omega))
  unfold msg_zero.f Mv.zero Mv.texts Mv.lists
  simp only [Option.bind_some, ByteArray.size_append, e]
  rw [if_pos (by omega), if_pos (by omega), if_pos (by omega), if_pos (by omega)]
  simp (disch := omega) only [w64]
  by_cases h1 : m.f1.size + m.f2.size + m.f4.size + m.f16.size + m.f19.size = 0
  · rw [if_pos h1]
    by_cases h2 : m.f3.length + m.f5.length + m.f6.length + m.f7.length + m.f8.length + m.f9.length + m.f10.length + m.f11.length + m.f13.length + m.f14.length = 0
    · rw [if_pos (by omega)]
      by_cases h3 : m.f12 = 0 <;> by_cases h4 : m.f15 = 0 <;> by_cases h5 : m.f17 = 0 <;> by_cases h6 : m.f18 = 0 <;> simp [h1, h2, h3, h4, h5, h6]
    · rw [if_neg (by omega)]
      rw [show ((m.f3.length + m.f5.length + m.f6.length + m.f7.length + m.f8.length + m.f9.length + m.f10.length + m.f11.length + m.f13.length + m.f14.length) == 0) = false from beq_eq_false_iff_ne.mpr h2]
      simp
  · rw [if_neg h1]
    rw [show ((m.f1.size + m.f2.size + m.f4.size + m.f16.size + m.f19.size) == 0) = false from beq_eq_false_iff_ne.mpr h1]
    simp
theorem zero_calls (m : Mv) (h : Hd) (w : World) (rd : Reads w m h) (ht : m.texts ≤ 9223372036854775807) (hl : m.lists ≤ 9223372036854775807) :
    Calls Try.prog 45 #[.agg (cells m h)] w fun e w' => e = .returned (.bool m.zero) ∧ Below w.heap.size w w' :=
  msg_zero.calls m.f0 m.f1 m.f2 h.A3 h.c3 m.f3 m.f4 h.A5 h.c5 m.f5 h.A6 h.c6 m.f6 h.A7 h.c7 m.f7 h.A8 h.c8 m.f8 h.A9 h.c9 m.f9 h.A10 h.c10 m.f10 h.A11 h.c11 m.f11 m.f12 h.A13 h.c13 m.f13 h.A14 h.c14 m.f14 m.f15 m.f16 m.f17 m.f18 m.f19 m.f20 m.zero w rd.r3 rd.l3 rd.r5 rd.l5 rd.r6 rd.l6 rd.r7 rd.l7 rd.r8 rd.l8 rd.r9 rd.l9 rd.r10 rd.l10 rd.r11 rd.l11 rd.r13 rd.l13 rd.r14 rd.l14 (zero_f m ht hl)
def Mv.retry (m : Mv) : Bool := m.f0 == 2 && m.f1.toList == ([207, 33, 173, 116, 229, 154, 97, 17, 190, 29, 140, 2, 30, 101, 184, 145, 194, 162, 17, 22, 122, 187, 140, 94, 7, 158, 9, 226, 200, 168, 51, 156] : List UInt8)
theorem retry_calls (m : Mv) (h : Hd) (w : World) (rd : Reads w m h) :
    Calls Try.prog 30 #[.agg (cells m h)] w fun e w' => e = .returned (.bool m.retry) ∧ Below w.heap.size w w' :=
  msg_Retry.calls m.f0 m.f1 m.f2 h.A3 h.c3 m.f3 m.f4 h.A5 h.c5 m.f5 h.A6 h.c6 m.f6 h.A7 h.c7 m.f7 h.A8 h.c8 m.f8 h.A9 h.c9 m.f9 h.A10 h.c10 m.f10 h.A11 h.c11 m.f11 m.f12 h.A13 h.c13 m.f13 h.A14 h.c14 m.f14 m.f15 m.f16 m.f17 m.f18 m.f19 m.f20 m.retry w rd.r3 rd.l3 rd.r5 rd.l5 rd.r6 rd.l6 rd.r7 rd.l7 rd.r8 rd.l8 rd.r9 rd.l9 rd.r10 rd.l10 rd.r11 rd.l11 rd.r13 rd.l13 rd.r14 rd.l14 (by
    unfold msg_Retry.f Mv.retry
    by_cases h0 : m.f0 = 2 <;> simp [h0])
end Go.Proofs.Ytlkebjkpmiehcaa.Ms
end
section
namespace Go.Proofs.Ytlkebjkpmiehcaa.Ms
open Go.RowKit Go.Proofs.YtlkebjkpmiehcaaW.PrintWords Go.Proofs.YtlkebjkpmiehcaaW.PrintLast Go.Proofs.YtlkebjkpmiehcaaW.PrintMore Go.Proofs.Ytlkebjkpmiehcaa.X
open Go.Proofs.Ytlkebjkpmiehcaa.Pure (nv numOf vecOf nv_bd nv_bd4 number_any vec_ok)
set_option linter.unusedVariables false
structure Mo (ok : Nat → Prop) (w : World) (gm : Nat) (m : Mv) (h : Hd) : Prop where
  box : w.heap[gm]? = some (.cells (cells m h) 49 (0, 0))
  r3 : Kd.R (Kd.int .i64) 3 w 0 ok (.slice h.A3 m.f3.length h.c3) m.f3
  r5 : Kd.R (Kd.int .i64) 3 w 0 ok (.slice h.A5 m.f5.length h.c5) m.f5
  r6 : Kd.R (Kd.int .i64) 3 w 0 ok (.slice h.A6 m.f6.length h.c6) m.f6
  r7 : Kd.R (Kd.int .i64) 3 w 0 ok (.slice h.A7 m.f7.length h.c7) m.f7
  r8 : Kd.R (Kd.int .i64) 3 w 0 ok (.slice h.A8 m.f8.length h.c8) m.f8
  r9 : Kd.R k66 66 w 0 ok (.slice h.A9 m.f9.length h.c9) m.f9
  r10 : Kd.R k111 111 w 0 ok (.slice h.A10 m.f10.length h.c10) m.f10
  r11 : Kd.R Kd.string 9 w 0 ok (.slice h.A11 m.f11.length h.c11) m.f11
  r13 : Kd.R (Kd.int .i64) 3 w 0 ok (.slice h.A13 m.f13.length h.c13) m.f13
  r14 : Kd.R Kd.string 9 w 0 ok (.slice h.A14 m.f14.length h.c14) m.f14
def MO (ok : Nat → Prop) (w : World) (gm : Nat) (m : Mv) : Prop := ∃ h, Mo ok w gm m h
theorem cells_size (m : Mv) (h : Hd) : (cells m h).size = 21 := rfl
theorem R_typed {α : Type} {d : Kd α} {e : Nat} {W W1 : World} {ok : Nat → Prop} {v : Value} {xs : List α} (h : d.R e W 0 ok v xs) (ts : List Nat) (hm : ∀ (k : Nat) (cs : Array Value) (t : TypeId), W.heap[k]? = some (.cells cs t (0, 0)) → t ∉ ts → W1.heap[k]? = some (.cells cs t (0, 0))) (ht : ∀ q, q ∈ e :: d.E → q ∉ ts) : d.R e W1 0 ok v xs :=
  Kd.R_mono (Kd.R_move (Kd.R_bound h) (fun i hi => by
    obtain ⟨_, _, h3, q, hq, cells, hc⟩ := hi
    rw [hc]
    exact hm i _ _ hc (ht q hq))) (fun _ hk => hk.1)
theorem R_fresh {α : Type} {d : Kd α} {e : Nat} {w0 w : World} {ok : Nat → Prop} {v : Value} {xs : List α} (h : d.R e w w0.heap.size (fun _ => True) v xs) (hok : ∀ k, w0.heap.size ≤ k → ok k) : d.R e w 0 ok v xs := Kd.R_lower (Kd.R_mono (Kd.R_bound h) (fun k hk => hok k hk.2.1)) (Nat.zero_le _)
theorem Mo.move {ok : Nat → Prop} {w w1 : World} {gm : Nat} {m : Mv} {h : Hd} (a : Mo ok w gm m h) (hb : w1.heap[gm]? = some (.cells (cells m h) 49 (0, 0))) (ts : List Nat) (hm : ∀ (k : Nat) (cs : Array Value) (t : TypeId), w.heap[k]? = some (.cells cs t (0, 0)) → t ∉ ts → w1.heap[k]? = some (.cells cs t (0, 0))) (h3 : 3 ∉ ts) (h9 : 9 ∉ ts) (h66 : 66 ∉ ts) (h111 : 111 ∉ ts) : Mo ok w1 gm m h :=
  ⟨hb, R_typed a.r3 ts hm (by intro q hq; rw [List.mem_singleton.1 hq]; exact h3), R_typed a.r5 ts hm (by intro q hq; rw [List.mem_singleton.1 hq]; exact h3), R_typed a.r6 ts hm (by intro q hq; rw [List.mem_singleton.1 hq]; exact h3), R_typed a.r7 ts hm (by intro q hq; rw [List.mem_singleton.1 hq]; exact h3), R_typed a.r8 ts hm (by intro q hq; rw [List.mem_singleton.1 hq]; exact h3), R_typed a.r9 ts hm (by intro q hq; rw [List.mem_singleton.1 hq]; exact h66), R_typed a.r10 ts hm (by intro q hq; rw [List.mem_singleton.1 hq]; exact h111), R_typed a.r11 ts hm (by intro q hq; rw [List.mem_singleton.1 hq]; exact h9), R_typed a.r13 ts hm (by intro q hq; rw [List.mem_singleton.1 hq]; exact h3), R_typed a.r14 ts hm (by intro q hq; rw [List.mem_singleton.1 hq]; exact h9)⟩
theorem kf_types {lo r f : Nat} {w w1 : World} {R : Rp} (h : RS w r f R) (k : Kf lo r f w w1) : ∀ (j : Nat) (cs : Array Value) (t : TypeId), w.heap[j]? = some (.cells cs t (0, 0)) → t ∉ [92, 90] → w1.heap[j]? = some (.cells cs t (0, 0)) := fun j cs t hj ht =>
  k.keep j _ hj (blk_ne hj h.rd (by intro e; exact ht (by simp [e]))) (blk_ne hj h.ft (by intro e; exact ht (by simp [e])))
theorem MO.kf {ok : Nat → Prop} {lo r f gm : Nat} {w w1 : World} {m : Mv} {R : Rp} (a : MO ok w gm m) (h : RS w r f R) (k : Kf lo r f w w1) : MO ok w1 gm m := by
  obtain ⟨hd, a⟩ := a
  exact ⟨hd, a.move (kf_types h k gm _ _ a.box (by decide)) _ (kf_types h k) (by decide) (by decide) (by decide) (by decide)⟩
theorem MO.below {ok : Nat → Prop} {gm : Nat} {w w1 : World} {m : Mv} (a : MO ok w gm m) (b : Below w.heap.size w w1) : MO ok w1 gm m := by
  obtain ⟨hd, a⟩ := a
  have hm : ∀ (k : Nat) (cs : Array Value) (t : TypeId), w.heap[k]? = some (.cells cs t (0, 0)) → t ∉ ([] : List Nat) → w1.heap[k]? = some (.cells cs t (0, 0)) := fun k cs t hk _ => (b.block k (blk_lt hk)).trans hk
  exact ⟨hd, a.move (hm gm _ _ a.box (by decide)) _ hm (by decide) (by decide) (by decide) (by decide)⟩
theorem keep_types {ok : Nat → Prop} {gm : Nat} {w w1 : World} {m : Mv} {h : Hd} (a : Mo ok w gm m h) (k : KeepBut w w1 gm none) : ∀ (j : Nat) (cs : Array Value) (t : TypeId), w.heap[j]? = some (.cells cs t (0, 0)) → t ∉ [49] → w1.heap[j]? = some (.cells cs t (0, 0)) := fun j cs t hj ht =>
  (k.2 j (blk_lt hj) (blk_ne hj a.box (by intro e; exact ht (by simp [e]))) (by simp)).trans hj
theorem Mo.s1 {ok : Nat → Prop} {w w1 : World} {gm : Nat} {m : Mv} {hd : Hd} (a : Mo ok w gm m hd) (x : ByteArray) (hb : w1.heap[gm]? = some (.cells ((cells m hd).setIfInBounds 1 (.string x)) 49 (0, 0))) (k : KeepBut w w1 gm none) : MO ok w1 gm { m with f1 := x } := ⟨hd, hb, R_typed a.r3 _ (keep_types a k) (by intro q hq; rw [List.mem_singleton.1 hq]; decide), R_typed a.r5 _ (keep_types a k) (by intro q hq; rw [List.mem_singleton.1 hq]; decide), R_typed a.r6 _ (keep_types a k) (by intro q hq; rw [List.mem_singleton.1 hq]; decide), R_typed a.r7 _ (keep_types a k) (by intro q hq; rw [List.mem_singleton.1 hq]; decide), R_typed a.r8 _ (keep_types a k) (by intro q hq; rw [List.mem_singleton.1 hq]; decide), R_typed a.r9 _ (keep_types a k) (by intro q hq; rw [List.mem_singleton.1 hq]; decide), R_typed a.r10 _ (keep_types a k) (by intro q hq; rw [List.mem_singleton.1 hq]; decide), R_typed a.r11 _ (keep_types a k) (by intro q hq; rw [List.mem_singleton.1 hq]; decide), R_typed a.r13 _ (keep_types a k) (by intro q hq; rw [List.mem_singleton.1 hq]; decide), R_typed a.r14 _ (keep_types a k) (by intro q hq; rw [List.mem_singleton.1 hq]; decide)⟩
theorem Mo.s2 {ok : Nat → Prop} {w w1 : World} {gm : Nat} {m : Mv} {hd : Hd} (a : Mo ok w gm m hd) (x : ByteArray) (hb : w1.heap[gm]? = some (.cells ((cells m hd).setIfInBounds 2 (.string x)) 49 (0, 0))) (k : KeepBut w w1 gm none) : MO ok w1 gm { m with f2 := x } := ⟨hd, hb, R_typed a.r3 _ (keep_types a k) (by intro q hq; rw [List.mem_singleton.1 hq]; decide), R_typed a.r5 _ (keep_types a k) (by intro q hq; rw [List.mem_singleton.1 hq]; decide), R_typed a.r6 _ (keep_types a k) (by intro q hq; rw [List.mem_singleton.1 hq]; decide), R_typed a.r7 _ (keep_types a k) (by intro q hq; rw [List.mem_singleton.1 hq]; decide), R_typed a.r8 _ (keep_types a k) (by intro q hq; rw [List.mem_singleton.1 hq]; decide), R_typed a.r9 _ (keep_types a k) (by intro q hq; rw [List.mem_singleton.1 hq]; decide), R_typed a.r10 _ (keep_types a k) (by intro q hq; rw [List.mem_singleton.1 hq]; decide), R_typed a.r11 _ (keep_types a k) (by intro q hq; rw [List.mem_singleton.1 hq]; decide), R_typed a.r13 _ (keep_types a k) (by intro q hq; rw [List.mem_singleton.1 hq]; decide), R_typed a.r14 _ (keep_types a k) (by intro q hq; rw [List.mem_singleton.1 hq]; decide)⟩
theorem Mo.s4 {ok : Nat → Prop} {w w1 : World} {gm : Nat} {m : Mv} {hd : Hd} (a : Mo ok w gm m hd) (x : ByteArray) (hb : w1.heap[gm]? = some (.cells ((cells m hd).setIfInBounds 4 (.string x)) 49 (0, 0))) (k : KeepBut w w1 gm none) : MO ok w1 gm { m with f4 := x } := ⟨hd, hb, R_typed a.r3 _ (keep_types a k) (by intro q hq; rw [List.mem_singleton.1 hq]; decide), R_typed a.r5 _ (keep_types a k) (by intro q hq; rw [List.mem_singleton.1 hq]; decide), R_typed a.r6 _ (keep_types a k) (by intro q hq; rw [List.mem_singleton.1 hq]; decide), R_typed a.r7 _ (keep_types a k) (by intro q hq; rw [List.mem_singleton.1 hq]; decide), R_typed a.r8 _ (keep_types a k) (by intro q hq; rw [List.mem_singleton.1 hq]; decide), R_typed a.r9 _ (keep_types a k) (by intro q hq; rw [List.mem_singleton.1 hq]; decide), R_typed a.r10 _ (keep_types a k) (by intro q hq; rw [List.mem_singleton.1 hq]; decide), R_typed a.r11 _ (keep_types a k) (by intro q hq; rw [List.mem_singleton.1 hq]; decide), R_typed a.r13 _ (keep_types a k) (by intro q hq; rw [List.mem_singleton.1 hq]; decide), R_typed a.r14 _ (keep_types a k) (by intro q hq; rw [List.mem_singleton.1 hq]; decide)⟩
theorem Mo.s12 {ok : Nat → Prop} {w w1 : World} {gm : Nat} {m : Mv} {hd : Hd} (a : Mo ok w gm m hd) (x : Int) (hb : w1.heap[gm]? = some (.cells ((cells m hd).setIfInBounds 12 (.int .i64 x)) 49 (0, 0))) (k : KeepBut w w1 gm none) : MO ok w1 gm { m with f12 := x } := ⟨hd, hb, R_typed a.r3 _ (keep_types a k) (by intro q hq; rw [List.mem_singleton.1 hq]; decide), R_typed a.r5 _ (keep_types a k) (by intro q hq; rw [List.mem_singleton.1 hq]; decide), R_typed a.r6 _ (keep_types a k) (by intro q hq; rw [List.mem_singleton.1 hq]; decide), R_typed a.r7 _ (keep_types a k) (by intro q hq; rw [List.mem_singleton.1 hq]; decide), R_typed a.r8 _ (keep_types a k) (by intro q hq; rw [List.mem_singleton.1 hq]; decide), R_typed a.r9 _ (keep_types a k) (by intro q hq; rw [List.mem_singleton.1 hq]; decide), R_typed a.r10 _ (keep_types a k) (by intro q hq; rw [List.mem_singleton.1 hq]; decide), R_typed a.r11 _ (keep_types a k) (by intro q hq; rw [List.mem_singleton.1 hq]; decide), R_typed a.r13 _ (keep_types a k) (by intro q hq; rw [List.mem_singleton.1 hq]; decide), R_typed a.r14 _ (keep_types a k) (by intro q hq; rw [List.mem_singleton.1 hq]; decide)⟩
theorem Mo.s20 {ok : Nat → Prop} {w w1 : World} {gm : Nat} {m : Mv} {hd : Hd} (a : Mo ok w gm m hd) (x : Int) (hb : w1.heap[gm]? = some (.cells ((cells m hd).setIfInBounds 20 (.int .i64 x)) 49 (0, 0))) (k : KeepBut w w1 gm none) : MO ok w1 gm { m with f20 := x } := ⟨hd, hb, R_typed a.r3 _ (keep_types a k) (by intro q hq; rw [List.mem_singleton.1 hq]; decide), R_typed a.r5 _ (keep_types a k) (by intro q hq; rw [List.mem_singleton.1 hq]; decide), R_typed a.r6 _ (keep_types a k) (by intro q hq; rw [List.mem_singleton.1 hq]; decide), R_typed a.r7 _ (keep_types a k) (by intro q hq; rw [List.mem_singleton.1 hq]; decide), R_typed a.r8 _ (keep_types a k) (by intro q hq; rw [List.mem_singleton.1 hq]; decide), R_typed a.r9 _ (keep_types a k) (by intro q hq; rw [List.mem_singleton.1 hq]; decide), R_typed a.r10 _ (keep_types a k) (by intro q hq; rw [List.mem_singleton.1 hq]; decide), R_typed a.r11 _ (keep_types a k) (by intro q hq; rw [List.mem_singleton.1 hq]; decide), R_typed a.r13 _ (keep_types a k) (by intro q hq; rw [List.mem_singleton.1 hq]; decide), R_typed a.r14 _ (keep_types a k) (by intro q hq; rw [List.mem_singleton.1 hq]; decide)⟩
theorem Mo.s3 {ok : Nat → Prop} {w w1 : World} {gm : Nat} {m : Mv} {hd : Hd} (a : Mo ok w gm m hd) {v : Value} {x : List Int} (hr : Kd.R (Kd.int .i64) 3 w 0 ok v x) (hb : w1.heap[gm]? = some (.cells ((cells m hd).setIfInBounds 3 v) 49 (0, 0))) (k : KeepBut w w1 gm none) : MO ok w1 gm { m with f3 := x } := by
  obtain ⟨A, c, rfl⟩ := Kd.R_slice hr
  exact ⟨{ hd with A3 := A, c3 := c }, hb, R_typed hr _ (keep_types a k) (by intro q hq; rw [List.mem_singleton.1 hq]; decide), R_typed a.r5 _ (keep_types a k) (by intro q hq; rw [List.mem_singleton.1 hq]; decide), R_typed a.r6 _ (keep_types a k) (by intro q hq; rw [List.mem_singleton.1 hq]; decide), R_typed a.r7 _ (keep_types a k) (by intro q hq; rw [List.mem_singleton.1 hq]; decide), R_typed a.r8 _ (keep_types a k) (by intro q hq; rw [List.mem_singleton.1 hq]; decide), R_typed a.r9 _ (keep_types a k) (by intro q hq; rw [List.mem_singleton.1 hq]; decide), R_typed a.r10 _ (keep_types a k) (by intro q hq; rw [List.mem_singleton.1 hq]; decide), R_typed a.r11 _ (keep_types a k) (by intro q hq; rw [List.mem_singleton.1 hq]; decide), R_typed a.r13 _ (keep_types a k) (by intro q hq; rw [List.mem_singleton.1 hq]; decide), R_typed a.r14 _ (keep_types a k) (by intro q hq; rw [List.mem_singleton.1 hq]; decide)⟩
theorem Mo.s5 {ok : Nat → Prop} {w w1 : World} {gm : Nat} {m : Mv} {hd : Hd} (a : Mo ok w gm m hd) {v : Value} {x : List Int} (hr : Kd.R (Kd.int .i64) 3 w 0 ok v x) (hb : w1.heap[gm]? = some (.cells ((cells m hd).setIfInBounds 5 v) 49 (0, 0))) (k : KeepBut w w1 gm none) : MO ok w1 gm { m with f5 := x } := by
  obtain ⟨A, c, rfl⟩ := Kd.R_slice hr
  exact ⟨{ hd with A5 := A, c5 := c }, hb, R_typed a.r3 _ (keep_types a k) (by intro q hq; rw [List.mem_singleton.1 hq]; decide), R_typed hr _ (keep_types a k) (by intro q hq; rw [List.mem_singleton.1 hq]; decide), R_typed a.r6 _ (keep_types a k) (by intro q hq; rw [List.mem_singleton.1 hq]; decide), R_typed a.r7 _ (keep_types a k) (by intro q hq; rw [List.mem_singleton.1 hq]; decide), R_typed a.r8 _ (keep_types a k) (by intro q hq; rw [List.mem_singleton.1 hq]; decide), R_typed a.r9 _ (keep_types a k) (by intro q hq; rw [List.mem_singleton.1 hq]; decide), R_typed a.r10 _ (keep_types a k) (by intro q hq; rw [List.mem_singleton.1 hq]; decide), R_typed a.r11 _ (keep_types a k) (by intro q hq; rw [List.mem_singleton.1 hq]; decide), R_typed a.r13 _ (keep_types a k) (by intro q hq; rw [List.mem_singleton.1 hq]; decide), R_typed a.r14 _ (keep_types a k) (by intro q hq; rw [List.mem_singleton.1 hq]; decide)⟩
theorem Mo.s6 {ok : Nat → Prop} {w w1 : World} {gm : Nat} {m : Mv} {hd : Hd} (a : Mo ok w gm m hd) {v : Value} {x : List Int} (hr : Kd.R (Kd.int .i64) 3 w 0 ok v x) (hb : w1.heap[gm]? = some (.cells ((cells m hd).setIfInBounds 6 v) 49 (0, 0))) (k : KeepBut w w1 gm none) : MO ok w1 gm { m with f6 := x } := by
  obtain ⟨A, c, rfl⟩ := Kd.R_slice hr
  exact ⟨{ hd with A6 := A, c6 := c }, hb, R_typed a.r3 _ (keep_types a k) (by intro q hq; rw [List.mem_singleton.1 hq]; decide), R_typed a.r5 _ (keep_types a k) (by intro q hq; rw [List.mem_singleton.1 hq]; decide), R_typed hr _ (keep_types a k) (by intro q hq; rw [List.mem_singleton.1 hq]; decide), R_typed a.r7 _ (keep_types a k) (by intro q hq; rw [List.mem_singleton.1 hq]; decide), R_typed a.r8 _ (keep_types a k) (by intro q hq; rw [List.mem_singleton.1 hq]; decide), R_typed a.r9 _ (keep_types a k) (by intro q hq; rw [List.mem_singleton.1 hq]; decide), R_typed a.r10 _ (keep_types a k) (by intro q hq; rw [List.mem_singleton.1 hq]; decide), R_typed a.r11 _ (keep_types a k) (by intro q hq; rw [List.mem_singleton.1 hq]; decide), R_typed a.r13 _ (keep_types a k) (by intro q hq; rw [List.mem_singleton.1 hq]; decide), R_typed a.r14 _ (keep_types a k) (by intro q hq; rw [List.mem_singleton.1 hq]; decide)⟩
theorem Mo.s9 {ok : Nat → Prop} {w w1 : World} {gm : Nat} {m : Mv} {hd : Hd} (a : Mo ok w gm m hd) {v : Value} {x : List S66} (hr : Kd.R k66 66 w 0 ok v x) (hb : w1.heap[gm]? = some (.cells ((cells m hd).setIfInBounds 9 v) 49 (0, 0))) (k : KeepBut w w1 gm none) : MO ok w1 gm { m with f9 := x } := by
  obtain ⟨A, c, rfl⟩ := Kd.R_slice hr
  exact ⟨{ hd with A9 := A, c9 := c }, hb, R_typed a.r3 _ (keep_types a k) (by intro q hq; rw [List.mem_singleton.1 hq]; decide), R_typed a.r5 _ (keep_types a k) (by intro q hq; rw [List.mem_singleton.1 hq]; decide), R_typed a.r6 _ (keep_types a k) (by intro q hq; rw [List.mem_singleton.1 hq]; decide), R_typed a.r7 _ (keep_types a k) (by intro q hq; rw [List.mem_singleton.1 hq]; decide), R_typed a.r8 _ (keep_types a k) (by intro q hq; rw [List.mem_singleton.1 hq]; decide), R_typed hr _ (keep_types a k) (by intro q hq; rw [List.mem_singleton.1 hq]; decide), R_typed a.r10 _ (keep_types a k) (by intro q hq; rw [List.mem_singleton.1 hq]; decide), R_typed a.r11 _ (keep_types a k) (by intro q hq; rw [List.mem_singleton.1 hq]; decide), R_typed a.r13 _ (keep_types a k) (by intro q hq; rw [List.mem_singleton.1 hq]; decide), R_typed a.r14 _ (keep_types a k) (by intro q hq; rw [List.mem_singleton.1 hq]; decide)⟩
theorem Mo.s13 {ok : Nat → Prop} {w w1 : World} {gm : Nat} {m : Mv} {hd : Hd} (a : Mo ok w gm m hd) {v : Value} {x : List Int} (hr : Kd.R (Kd.int .i64) 3 w 0 ok v x) (hb : w1.heap[gm]? = some (.cells ((cells m hd).setIfInBounds 13 v) 49 (0, 0))) (k : KeepBut w w1 gm none) : MO ok w1 gm { m with f13 := x } := by
  obtain ⟨A, c, rfl⟩ := Kd.R_slice hr
  exact ⟨{ hd with A13 := A, c13 := c }, hb, R_typed a.r3 _ (keep_types a k) (by intro q hq; rw [List.mem_singleton.1 hq]; decide), R_typed a.r5 _ (keep_types a k) (by intro q hq; rw [List.mem_singleton.1 hq]; decide), R_typed a.r6 _ (keep_types a k) (by intro q hq; rw [List.mem_singleton.1 hq]; decide), R_typed a.r7 _ (keep_types a k) (by intro q hq; rw [List.mem_singleton.1 hq]; decide), R_typed a.r8 _ (keep_types a k) (by intro q hq; rw [List.mem_singleton.1 hq]; decide), R_typed a.r9 _ (keep_types a k) (by intro q hq; rw [List.mem_singleton.1 hq]; decide), R_typed a.r10 _ (keep_types a k) (by intro q hq; rw [List.mem_singleton.1 hq]; decide), R_typed a.r11 _ (keep_types a k) (by intro q hq; rw [List.mem_singleton.1 hq]; decide), R_typed hr _ (keep_types a k) (by intro q hq; rw [List.mem_singleton.1 hq]; decide), R_typed a.r14 _ (keep_types a k) (by intro q hq; rw [List.mem_singleton.1 hq]; decide)⟩
structure Kg (lo r f g : Nat) (w w' : World) : Prop where
  below : Below lo w w'
  keep : ∀ k o, w.heap[k]? = some o → k ≠ r → k ≠ f → k ≠ g → w'.heap[k]? = some o
theorem Kg.of_kf {lo r f g : Nat} {w w' : World} (k : Kf lo r f w w') : Kg lo r f g w w' := ⟨k.below, fun i o hi hr hf _ => k.keep i o hi hr hf⟩
theorem Kg.trans {lo r f g : Nat} {a b c : World} (h : Kg lo r f g a b) (k : Kg lo r f g b c) : Kg lo r f g a c := ⟨h.below.trans k.below, fun i o hi hr hf hg => k.keep i o (h.keep i o hi hr hf hg) hr hf hg⟩
theorem Kg.of_store {lo r f g : Nat} {w w' : World} (h : Below lo w w') (k : KeepBut w w' g none) : Kg lo r f g w w' := ⟨h, fun i o hi _ _ hg => (k.2 i (blk_lt hi) hg (by simp)).trans hi⟩
theorem Kg.inner {lo r r2 f g : Nat} {w w1 w2 : World} (h : Kg lo r f g w w1) (hn : w.heap.size ≤ r2) (k : Kg lo r2 f g w1 w2) : Kg lo r f g w w2 :=
  ⟨h.below.trans k.below, fun i o hi hr hf hg => k.keep i o (h.keep i o hi hr hf hg) (by have := blk_lt hi; omega) hf hg⟩
theorem RS.store {ok : Nat → Prop} {w w' : World} {r f g : Nat} {R : Rp} {m : Mv} {h : Hd} (a : RS w r f R) (b : Mo ok w g m h) (k : KeepBut w w' g none) : RS w' r f R :=
  ⟨(k.2 r (blk_lt a.rd) (blk_ne a.rd b.box (by decide)) (by simp)).trans a.rd, (k.2 f (blk_lt a.ft) (blk_ne a.ft b.box (by decide)) (by simp)).trans a.ft⟩
theorem sz45' : (Try.prog.info? 45).map (·.size) = some 1 := by kernel_rfl
theorem Rs.store {ok : Nat → Prop} {w w' : World} {r f g : Nat} {s : ByteArray} {p c : Int} {t l : Bool} {m : Mv} {h : Hd} (a : Rs w r f s p c t l) (b : Mo ok w g m h) (k : KeepBut w w' g none) : Rs w' r f s p c t l :=
  ⟨(k.2 r (blk_lt a.rd) (blk_ne a.rd b.box (by decide)) (by simp)).trans a.rd, (k.2 f (blk_lt a.ft) (blk_ne a.ft b.box (by decide)) (by simp)).trans a.ft⟩
theorem Rs.wsz {W : World} {r f lo : Nat} {s : ByteArray} {p c : Int} {t l : Bool} (h : Rs W r f s p c t l) (hl : lo ≤ f) : lo ≤ W.heap.size := Nat.le_of_lt (Nat.lt_of_le_of_lt hl (blk_lt h.ft))
theorem Rs.sz {W : World} {r f : Nat} {s : ByteArray} {p c : Int} {t l : Bool} (h : Rs W r f s p c t l) : r < W.heap.size ∧ f < W.heap.size := ⟨blk_lt h.rd, blk_lt h.ft⟩
def Rp.pskI (R : Rp) : List S111 := lstV oneIde R 2
def Rp.psk1 (R : Rp) : Rp := lstR oneIde R 2
def Rp.pskB (R : Rp) : List ByteArray := allV oneBin (R.psk1.inR 2)
def Rp.psk2 (R : Rp) : Rp := (R.psk1.outR 2).back (allR oneBin (R.psk1.inR 2))
def Rp.pskR (R : Rp) : Rp := (R.psk2.need (R.psk2.p == (R.psk2.s.size : Int))).allow ((R.pskB.length : Int) == (R.pskI.length : Int))
theorem Rp.Ok.psk1 {R : Rp} (h : R.Ok) : R.psk1.Ok := h.lstR 2
theorem Rp.Ok.psk2 {R : Rp} (h : R.Ok) : R.psk2.Ok := (h.psk1.outR 2).back _
theorem Rp.Ok.pskR {R : Rp} (h : R.Ok) : R.pskR.Ok := (h.psk2.need _).allow _
def cli (k : Int) (m : Mv) (B : Rp) : Bool × Mv × Rp :=
  if k = 0 then (true, { m with f4 := B.namV }, B.namR)
  else if k = 10 then (true, { m with f6 := lstV (oneNum 2) B 2 }, lstR (oneNum 2) B 2)
  else if k = 13 then (true, { m with f7 := lstV (oneNum 2) B 2 }, lstR (oneNum 2) B 2)
  else if k = 43 then (true, { m with f5 := lstV (oneNum 2) B 1 }, lstR (oneNum 2) B 1)
  else if k = 45 then (true, { m with f8 := lstV (oneNum 1) B 1 }, lstR (oneNum 1) B 1)
  else if k = 51 then (true, { m with f9 := lstV oneSha B 2 }, lstR oneSha B 2)
  else if k = 41 then (true, { m with f10 := B.pskI, f11 := B.pskB }, B.pskR)
  else (false, m, B)
end Go.Proofs.Ytlkebjkpmiehcaa.Ms
end
section
namespace Go.Proofs.Ytlkebjkpmiehcaa.Ms
open Go.RowKit Go.Proofs.YtlkebjkpmiehcaaW.PrintWords Go.Proofs.YtlkebjkpmiehcaaW.PrintLast Go.Proofs.YtlkebjkpmiehcaaW.PrintMore Go.Proofs.Ytlkebjkpmiehcaa.X
open Go.Proofs.Ytlkebjkpmiehcaa.Pure (nv numOf vecOf nv_bd nv_bd4 number_any vec_ok)
set_option linter.unusedVariables false
section
variable {ops : Array Oper} {rest : List Oper} {oi : Oper} {a : Act} {Q : Exit → Act → World → Prop} {w : World} {K : Act → World → Prop}
theorem stM {ty : TypeId} {p x : Operand} (hw : Region.wanted oi (yielded ops a.tmps) = true) (hN : oi.dst = none) (ho : oi.op = .store ty p x) {g i : Nat} (hp : a.eval p = .pointer (some ⟨g, i, none⟩)) {cs : Array Value} {t : TypeId} (h : w.heap[g]? = some (.cells cs t (0, 0)))
    (hs : (Try.prog.info? ty).map (·.size) = some 1) {v : Value} (hx : a.eval x = v) (hv : v.cells = #[v]) (h1 : v.oneCell' = true) (hi : i < cs.size)
    (H : ∀ w1, w1.heap[g]? = some (.cells (cs.setIfInBounds i v) t (0, 0)) → (∀ lo, lo ≤ g → Below lo w w1) → KeepBut w w1 g none → K a w1) : if Region.wanted oi (yielded ops a.tmps) = true then Oper.wp Try.prog oi a w K Q else K (a.put none undef) w := by
  refine skip_ hw hN ?_ (H (w.setCell ⟨g, i, none⟩ v) (blk_set h i v) (fun lo hl => (keep_store hl i v).1) ((keep_store (Nat.le_refl g) i v).2))
  have hc : w.cell? ⟨g, i, none⟩ = some cs[i] := by rw [blk_cell h i]; exact Array.getElem?_eq_getElem hi
  have hst : (store ⟨g, i, none⟩ v).run Try.prog w = .ok () (w.setCell ⟨g, i, none⟩ v) := by
    rw [run_store _ _ _ _ _ h1]
    simp [hc, blk_frozen h i]
  obtain ⟨i0, hi0, hz⟩ := Option.map_eq_some_iff.1 hs
  unfold execOp
  simp only [ho, hp, hx, Instr.storeAt, Instr.sureAddr, Sem.run_bind, Sem.run_pure, Result.andThen_ok]
  have hsv : (storeVar ty ⟨g, i, none⟩ v).run Try.prog w = .ok () (w.setCell ⟨g, i, none⟩ v) := by
    have ha : (⟨g, i, none⟩ : Addr).add 0 = ⟨g, i, none⟩ := by simp [Addr.add]
    simp [storeVar, sizeOf, typeInfo, hi0, hz, hv, storeCells, ha, hst, Sem.run_bind]
  rw [hsv]
  rfl
theorem Y_exec {d : Kd Int} {m x : Operand} (ho : oi.op = .lookup 68 m x false) {v : Value} {k : Int} {base : Nat} {ok : Nat → Prop} {xs : List Int} (hm : a.eval m = v) (hx : a.eval x = .int .i64 k) (hk : (Lit.int .i64 k).wf = true)
    (HO : Kd.Y d 3 w base ok v xs) : (execOp a.eval oi).run Try.prog w = .ok (.value (.bool (decide (k ∈ xs)))) w := by
  obtain ⟨g, rfl, _, _, hw⟩ := HO
  obtain ⟨u, ps, hrun, hu⟩ := hw.lookup (Go.Maps.int_keyed Try.underlying3) Try.underlying68 (Kd.zeroB w) (plainElem_bool Try.underlying4 false) (Go.Maps.keyOf_int_mk Try.underlying3 hk)
  obtain ⟨b, rfl, hzz⟩ := plainElem_bool_inv Try.underlying4 hu
  rw [Sd_at] at hzz
  have hbb : decide (k ∈ xs) = b := lit_bool (congrArg Prod.fst hzz)
  rw [hbb]
  simp [execOp, ho, hm, hx, hrun, Result.andThen]
end
theorem Y_gen {d : Kd Int} {e : TypeId} {w w1 : World} {base : Nat} {ok : Nat → Prop} {v : Value} {xs : List Int} (h : Kd.Y d e w base ok v xs) (hm : ∀ (k : Nat) (es : Array MapEntry) (c : Nat), w.heap[k]? = some (Obj.map es c) → w1.heap[k]? = some (Obj.map es c)) : Kd.Y d e w1 base ok v xs := by
  obtain ⟨g, rfl, ho, hb, hw⟩ := h
  obtain ⟨es, c, hh, r⟩ := hw
  exact ⟨g, rfl, ho, hb, es, c, hm g es c hh, r⟩
theorem map_ne {w : World} {j r : Nat} {es : Array MapEntry} {c : Nat} {cs : Array Value} {t : TypeId} (h : w.heap[j]? = some (Obj.map es c)) (hr : w.heap[r]? = some (.cells cs t (0, 0))) : j ≠ r := by
  intro e
  subst e
  rw [h] at hr
  cases hr
theorem Mo.reads {ok : Nat → Prop} {w : World} {gm : Nat} {m : Mv} {h : Hd} (a : Mo ok w gm m h) : Reads w m h := ⟨(Kd.R_reads' a.r3).2.2, (Kd.R_reads' a.r3).2.1, (Kd.R_reads' a.r5).2.2, (Kd.R_reads' a.r5).2.1, (Kd.R_reads' a.r6).2.2, (Kd.R_reads' a.r6).2.1, (Kd.R_reads' a.r7).2.2, (Kd.R_reads' a.r7).2.1, (Kd.R_reads' a.r8).2.2, (Kd.R_reads' a.r8).2.1, (Kd.R_reads' a.r9).2.2, (Kd.R_reads' a.r9).2.1, (Kd.R_reads' a.r10).2.2, (Kd.R_reads' a.r10).2.1, (Kd.R_reads' a.r11).2.2, (Kd.R_reads' a.r11).2.1, (Kd.R_reads' a.r13).2.2, (Kd.R_reads' a.r13).2.1, (Kd.R_reads' a.r14).2.2, (Kd.R_reads' a.r14).2.1⟩
def srv (k : Int) (m : Mv) (B : Rp) : Bool × Mv × Rp :=
  if k = 43 then (true, { m with f5 := [B.numV 2] }, B.numR 2)
  else if k = 51 then (if m.retry = true then (true, { m with f6 := [B.numV 2] }, B.numR 2) else (true, { m with f9 := [B.shaV] }, B.shaR))
  else if k = 41 then (if m.retry = true then (false, m, B) else (true, { m with f12 := B.numV 2 + 1 }, B.numR 2))
  else (false, m, B)
theorem srv_ok (k : Int) (m : Mv) {B : Rp} (h : B.Ok) : (srv k m B).2.2.Ok := by
  unfold srv
  repeat' split
  all_goals first | exact h.numR _ | exact h.shaR | exact h
theorem srv_st {k : Int} {m : Mv} {B : Rp} (ho : B.Ok) (hc : (srv k m B).2.2.c = 0) : B.c = 0 := by
  unfold srv at hc
  by_cases e43 : k = 43
  · rw [if_pos e43] at hc
    exact (numR_c hc ho).1
  rw [if_neg e43] at hc
  by_cases e51 : k = 51
  · rw [if_pos e51] at hc
    by_cases hr : m.retry = true
    · rw [if_pos hr] at hc
      exact (numR_c hc ho).1
    · rw [if_neg hr] at hc
      exact oneSha_ok.st B ho hc
  rw [if_neg e51] at hc
  by_cases e41 : k = 41
  · rw [if_pos e41] at hc
    by_cases hr : m.retry = true
    · rw [if_pos hr] at hc
      exact hc
    · rw [if_neg hr] at hc
      exact (numR_c hc ho).1
  rw [if_neg e41] at hc
  exact hc
set_option maxRecDepth 100000 in
set_option maxHeartbeats 8000000 in
theorem srv43 (ok : Nat → Prop) (lo r f gm : Nat) (B : Rp) (m : Mv) (w : World) (hl : lo ≤ f) (hl2 : lo ≤ r) (hg : lo ≤ gm) (h : RS w r f B) (ho : B.Ok) (hm : MO ok w gm m) (hok : ∀ k, w.heap.size ≤ k → ok k) :
    Calls Try.prog 98 #[.pointer (some ⟨gm, 0, none⟩), .int .i64 43, .pointer (some ⟨r, 0, none⟩)] w fun ex w' => ex = .returned (.bool true) ∧ RS w' r f (B.numR 2) ∧ MO ok w' gm { m with f5 := [B.numV 2] } ∧ Kg lo r f gm w w' := by
  have H := Aside0.mk h
  have HL := Aside0.mk hl
  have HL2 := Aside0.mk hl2
  have HG := Aside0.mk hg
  have OKK := Aside0.mk hok
  have HO := Aside0.mk ho
  have HWL := Aside0.mk (h.wsz hl)
  have M := Aside0.mk hm
  have K := Aside0.mk (Kg.of_kf (g := gm) (Kf.refl lo r f w))
  clear h hl hl2 hg ho hm hok
  go_enter Try.func98, Try.ntmps98
  go_wp2_with (first
    | (((with_reducible refine gate_dst (N := 10) rfl ?_); obtain ⟨hd1, hm1⟩ := M.out; refine wpList_load_row rfl 49 _ rfl gm rfl 49 _ (0, 0) _ hm1.box Try.underlying49 rfl sz49 ?_; have HM1 := Aside0.mk hm1; clear hm1))
    | (go_at_call 30; (with_reducible refine (retry_calls m hd1 _ HM1.out.reads).mono ?_); rintro e0 w0 ⟨rfl, b0⟩; have M0 := Aside0.mk (M.out.below b0); have H0 := Aside0.mk (H.out.below b0); have K0 := Aside0.mk (K.out.trans (Kg.of_kf (Kf.of_below (r := r) (f := f) HWL.out b0))); clear b0)
    | (go_at_call 70; (with_reducible refine (u16_c lo r f B _ HL.out HL2.out H0.out HO.out).mono ?_); rintro e1 w1 ⟨rfl, i1, k1⟩; have M1 := Aside0.mk (M0.out.kf H0.out k1); have H1 := Aside0.mk i1; have K1 := Aside0.mk (K0.out.trans (Kg.of_kf k1)); clear i1 k1)
    | ((with_reducible refine gate_dst (N := 18) rfl ?_); refine Kd.R_lit (Kd.int .i64) _ 3 ?hg (N := 18) ?hd (xs := [(B.numV 2)]) (inner := [.int .i64 (B.numV 2)]) (ok := fun _ => True) (okp := fun _ => True) ?hr ?hp (fun _ hk => hk) trivial (Below.refl _ _) (Nat.le_refl _) (by simp) ?_; (case hd => rfl); (case hg => rfl); (case hr => first | (go_simp; done) | (go_simp; rfl)); (case hp => exact (Reps.one (show Kd.M (Kd.int .i64) _ _ _ (B.numV 2) [.int .i64 (B.numV 2)] from rfl) (Reps.none _ _))); intro v2 w2 ho2 hb hg_ hnew_; clear hg_ hnew_; obtain ⟨A2, c2, rfl⟩ := Kd.R_slice ho2; have R2 := Aside0.mk (R_fresh ho2 (fun k hk => OKK.out k (Nat.le_trans K1.out.below.size hk))); have M2 := Aside0.mk (M1.out.below hb); have HWL2 := Aside0.mk (H1.out.wsz HL.out); have H2 := Aside0.mk (H1.out.below hb); have K2 := Aside0.mk (K1.out.trans (Kg.of_kf (Kf.of_below (r := r) (f := f) HWL2.out hb))); clear ho2 hb)
    | ((with_reducible refine gate_store (p := 20) rfl ?_); obtain ⟨hd_, hm_⟩ := M2.out; refine st (v := .slice A2 1 c2) rfl rfl rfl hm_.box sz44 rfl rfl rfl (by rw [cells_size]; omega) ?_; intro w3 h3_ b3_ k3_; have M3 := Aside0.mk (hm_.s5 R2.out h3_ k3_); have H3 := Aside0.mk (H2.out.store hm_ k3_); have K3 := Aside0.mk (K2.out.trans (Kg.of_store (b3_ _ HG.out) k3_)); clear h3_ b3_ k3_ hm_))
  go_ret
  exact ⟨rfl, H3.out, M3.out, K3.out⟩
set_option maxRecDepth 100000 in
set_option maxHeartbeats 8000000 in
theorem srv51r (ok : Nat → Prop) (lo r f gm : Nat) (B : Rp) (m : Mv) (w : World) (hr : m.retry = true) (hl : lo ≤ f) (hl2 : lo ≤ r) (hg : lo ≤ gm) (h : RS w r f B) (ho : B.Ok) (hm : MO ok w gm m) (hok : ∀ k, w.heap.size ≤ k → ok k) :
    Calls Try.prog 98 #[.pointer (some ⟨gm, 0, none⟩), .int .i64 51, .pointer (some ⟨r, 0, none⟩)] w fun ex w' => ex = .returned (.bool true) ∧ RS w' r f (B.numR 2) ∧ MO ok w' gm { m with f6 := [B.numV 2] } ∧ Kg lo r f gm w w' := by
  have H := Aside0.mk h
  have HL := Aside0.mk hl
  have HL2 := Aside0.mk hl2
  have HG := Aside0.mk hg
  have OKK := Aside0.mk hok
  have HO := Aside0.mk ho
  have HWL := Aside0.mk (h.wsz hl)
  have M := Aside0.mk hm
  have K := Aside0.mk (Kg.of_kf (g := gm) (Kf.refl lo r f w))
  clear h hl hl2 hg ho hm hok
  go_enter Try.func98, Try.ntmps98
  go_wp2_with (first
    | (((with_reducible refine gate_dst (N := 10) rfl ?_); obtain ⟨hd1, hm1⟩ := M.out; refine wpList_load_row rfl 49 _ rfl gm rfl 49 _ (0, 0) _ hm1.box Try.underlying49 rfl sz49 ?_; have HM1 := Aside0.mk hm1; clear hm1))
    | (go_at_call 30; (with_reducible refine (retry_calls m hd1 _ HM1.out.reads).mono ?_); rintro e0 w0 ⟨rfl, b0⟩; have M0 := Aside0.mk (M.out.below b0); have H0 := Aside0.mk (H.out.below b0); have K0 := Aside0.mk (K.out.trans (Kg.of_kf (Kf.of_below (r := r) (f := f) HWL.out b0))); clear b0)
    | (go_at_call 70; (with_reducible refine (u16_c lo r f B _ HL.out HL2.out H0.out HO.out).mono ?_); rintro e1 w1 ⟨rfl, i1, k1⟩; have M1 := Aside0.mk (M0.out.kf H0.out k1); have H1 := Aside0.mk i1; have K1 := Aside0.mk (K0.out.trans (Kg.of_kf k1)); clear i1 k1)
    | ((with_reducible refine gate_dst (N := 30) rfl ?_); refine Kd.R_lit (Kd.int .i64) _ 3 ?hg (N := 30) ?hd (xs := [(B.numV 2)]) (inner := [.int .i64 (B.numV 2)]) (ok := fun _ => True) (okp := fun _ => True) ?hr ?hp (fun _ hk => hk) trivial (Below.refl _ _) (Nat.le_refl _) (by simp) ?_; (case hd => rfl); (case hg => rfl); (case hr => first | (go_simp; done) | (go_simp; rfl)); (case hp => exact (Reps.one (show Kd.M (Kd.int .i64) _ _ _ (B.numV 2) [.int .i64 (B.numV 2)] from rfl) (Reps.none _ _))); intro v2 w2 ho2 hb hg_ hnew_; clear hg_ hnew_; obtain ⟨A2, c2, rfl⟩ := Kd.R_slice ho2; have R2 := Aside0.mk (R_fresh ho2 (fun k hk => OKK.out k (Nat.le_trans K1.out.below.size hk))); have M2 := Aside0.mk (M1.out.below hb); have HWL2 := Aside0.mk (H1.out.wsz HL.out); have H2 := Aside0.mk (H1.out.below hb); have K2 := Aside0.mk (K1.out.trans (Kg.of_kf (Kf.of_below (r := r) (f := f) HWL2.out hb))); clear ho2 hb)
    | ((with_reducible refine gate_store (p := 32) rfl ?_); obtain ⟨hd_, hm_⟩ := M2.out; refine st (v := .slice A2 1 c2) rfl rfl rfl hm_.box sz44 rfl rfl rfl (by rw [cells_size]; omega) ?_; intro w3 h3_ b3_ k3_; have M3 := Aside0.mk (hm_.s6 R2.out h3_ k3_); have H3 := Aside0.mk (H2.out.store hm_ k3_); have K3 := Aside0.mk (K2.out.trans (Kg.of_store (b3_ _ HG.out) k3_)); clear h3_ b3_ k3_ hm_))
  go_ret
  exact ⟨rfl, H3.out, M3.out, K3.out⟩
set_option maxRecDepth 100000 in
set_option maxHeartbeats 8000000 in
theorem srv51n (ok : Nat → Prop) (lo r f gm : Nat) (B : Rp) (m : Mv) (w : World) (hr : m.retry = false) (hl : lo ≤ f) (hl2 : lo ≤ r) (hg : lo ≤ gm) (h : RS w r f B) (ho : B.Ok) (hm : MO ok w gm m) (hok : ∀ k, w.heap.size ≤ k → ok k) :
    Calls Try.prog 98 #[.pointer (some ⟨gm, 0, none⟩), .int .i64 51, .pointer (some ⟨r, 0, none⟩)] w fun ex w' => ex = .returned (.bool true) ∧ RS w' r f B.shaR ∧ MO ok w' gm { m with f9 := [B.shaV] } ∧ Kg lo r f gm w w' := by
  have H := Aside0.mk h
  have HL := Aside0.mk hl
  have HL2 := Aside0.mk hl2
  have HG := Aside0.mk hg
  have OKK := Aside0.mk hok
  have HO := Aside0.mk ho
  have HWL := Aside0.mk (h.wsz hl)
  have M := Aside0.mk hm
  have K := Aside0.mk (Kg.of_kf (g := gm) (Kf.refl lo r f w))
  clear h hl hl2 hg ho hm hok
  have hu66 := Try.underlying66
  go_enter Try.func98, Try.ntmps98
  go_wp2_with (first
    | (((with_reducible refine gate_dst (N := 10) rfl ?_); obtain ⟨hd1, hm1⟩ := M.out; refine wpList_load_row rfl 49 _ rfl gm rfl 49 _ (0, 0) _ hm1.box Try.underlying49 rfl sz49 ?_; have HM1 := Aside0.mk hm1; clear hm1))
    | (go_at_call 30; (with_reducible refine (retry_calls m hd1 _ HM1.out.reads).mono ?_); rintro e0 w0 ⟨rfl, b0⟩; have M0 := Aside0.mk (M.out.below b0); have H0 := Aside0.mk (H.out.below b0); have K0 := Aside0.mk (K.out.trans (Kg.of_kf (Kf.of_below (r := r) (f := f) HWL.out b0))); clear b0)
    | (go_at_call 114; (with_reducible refine (share_c lo r f B _ HL.out HL2.out H0.out HO.out).mono ?_); rintro e1 w1 ⟨rfl, i1, k1⟩; have M1 := Aside0.mk (M0.out.kf H0.out k1); have H1 := Aside0.mk i1; have K1 := Aside0.mk (K0.out.trans (Kg.of_kf k1)); clear i1 k1)
    | ((with_reducible refine gate_dst (N := 39) rfl ?_); refine Kd.R_lit k66 _ 66 ?hg (N := 39) ?hd (xs := [B.shaV]) (inner := [.int .i64 B.shaV.f0, .string B.shaV.f1]) (ok := fun _ => True) (okp := fun _ => True) ?hr ?hp (fun _ hk => hk) trivial (Below.refl _ _) (Nat.le_refl _) (by simp) ?_; (case hd => rfl); (case hg => rfl); (case hr => first | (go_simp; done) | (go_simp; rfl)); (case hp => exact (Reps.c2 (show Kd.M k66 _ _ _ B.shaV [.int .i64 B.shaV.f0, .string B.shaV.f1] from k66_mkM _ _ _ B.shaV) (Reps.none _ _))); intro v2 w2 ho2 hb hg_ hnew_; clear hg_ hnew_; obtain ⟨A2, c2, rfl⟩ := Kd.R_slice ho2; have R2 := Aside0.mk (R_fresh ho2 (fun k hk => OKK.out k (Nat.le_trans K1.out.below.size hk))); have M2 := Aside0.mk (M1.out.below hb); have HWL2 := Aside0.mk (H1.out.wsz HL.out); have H2 := Aside0.mk (H1.out.below hb); have K2 := Aside0.mk (K1.out.trans (Kg.of_kf (Kf.of_below (r := r) (f := f) HWL2.out hb))); clear ho2 hb)
    | ((with_reducible refine gate_store (p := 41) rfl ?_); obtain ⟨hd_, hm_⟩ := M2.out; refine st (v := .slice A2 1 c2) rfl rfl rfl hm_.box sz45' rfl rfl rfl (by rw [cells_size]; omega) ?_; intro w3 h3_ b3_ k3_; have M3 := Aside0.mk (hm_.s9 R2.out h3_ k3_); have H3 := Aside0.mk (H2.out.store hm_ k3_); have K3 := Aside0.mk (K2.out.trans (Kg.of_store (b3_ _ HG.out) k3_)); clear h3_ b3_ k3_ hm_))
  go_ret
  exact ⟨rfl, H3.out, M3.out, K3.out⟩
set_option maxRecDepth 100000 in
set_option maxHeartbeats 8000000 in
theorem srv41n (ok : Nat → Prop) (lo r f gm : Nat) (B : Rp) (m : Mv) (w : World) (hr : m.retry = false) (hl : lo ≤ f) (hl2 : lo ≤ r) (hg : lo ≤ gm) (h : RS w r f B) (ho : B.Ok) (hm : MO ok w gm m) (hok : ∀ k, w.heap.size ≤ k → ok k) :
    Calls Try.prog 98 #[.pointer (some ⟨gm, 0, none⟩), .int .i64 41, .pointer (some ⟨r, 0, none⟩)] w fun ex w' => ex = .returned (.bool true) ∧ RS w' r f (B.numR 2) ∧ MO ok w' gm { m with f12 := B.numV 2 + 1 } ∧ Kg lo r f gm w w' := by
  have nb0 := (B.numV_bd 2).1
  have nb1 : B.numV 2 ≤ 65535 := by have := (B.numV_bd 2).2; omega
  have H := Aside0.mk h
  have HL := Aside0.mk hl
  have HL2 := Aside0.mk hl2
  have HG := Aside0.mk hg
  have OKK := Aside0.mk hok
  have HO := Aside0.mk ho
  have HWL := Aside0.mk (h.wsz hl)
  have M := Aside0.mk hm
  have K := Aside0.mk (Kg.of_kf (g := gm) (Kf.refl lo r f w))
  clear h hl hl2 hg ho hm hok
  go_enter Try.func98, Try.ntmps98
  go_wp2_with (first
    | (((with_reducible refine gate_dst (N := 10) rfl ?_); obtain ⟨hd1, hm1⟩ := M.out; refine wpList_load_row rfl 49 _ rfl gm rfl 49 _ (0, 0) _ hm1.box Try.underlying49 rfl sz49 ?_; have HM1 := Aside0.mk hm1; clear hm1))
    | (go_at_call 30; (with_reducible refine (retry_calls m hd1 _ HM1.out.reads).mono ?_); rintro e0 w0 ⟨rfl, b0⟩; have M0 := Aside0.mk (M.out.below b0); have H0 := Aside0.mk (H.out.below b0); have K0 := Aside0.mk (K.out.trans (Kg.of_kf (Kf.of_below (r := r) (f := f) HWL.out b0))); clear b0)
    | (go_at_call 70; (with_reducible refine (u16_c lo r f B _ HL.out HL2.out H0.out HO.out).mono ?_); rintro e1 w1 ⟨rfl, i1, k1⟩; have M1 := Aside0.mk (M0.out.kf H0.out k1); have H1 := Aside0.mk i1; have K1 := Aside0.mk (K0.out.trans (Kg.of_kf k1)); clear i1 k1)
    | ((with_reducible refine gate_store (p := 54) rfl ?_); obtain ⟨hd_, hm_⟩ := M1.out; refine st (v := .int .i64 (B.numV 2 + 1)) rfl rfl rfl hm_.box sz3' rfl rfl rfl (by rw [cells_size]; omega) ?_; intro w3 h3_ b3_ k3_; have M3 := Aside0.mk (hm_.s12 _ h3_ k3_); have H3 := Aside0.mk (H1.out.store hm_ k3_); have K3 := Aside0.mk (K1.out.trans (Kg.of_store (b3_ _ HG.out) k3_)); clear h3_ b3_ k3_ hm_))
  go_ret
  exact ⟨rfl, H3.out, M3.out, K3.out⟩
set_option maxRecDepth 100000 in
set_option maxHeartbeats 8000000 in
theorem srv41r (ok : Nat → Prop) (lo r f gm : Nat) (B : Rp) (m : Mv) (w : World) (hr : m.retry = true) (hl : lo ≤ f) (hl2 : lo ≤ r) (hg : lo ≤ gm) (h : RS w r f B) (ho : B.Ok) (hm : MO ok w gm m) (hok : ∀ k, w.heap.size ≤ k → ok k) :
    Calls Try.prog 98 #[.pointer (some ⟨gm, 0, none⟩), .int .i64 41, .pointer (some ⟨r, 0, none⟩)] w fun ex w' => ex = .returned (.bool false) ∧ RS w' r f B ∧ MO ok w' gm m ∧ Kg lo r f gm w w' := by
  have H := Aside0.mk h
  have HL := Aside0.mk hl
  have HL2 := Aside0.mk hl2
  have HG := Aside0.mk hg
  have OKK := Aside0.mk hok
  have HO := Aside0.mk ho
  have HWL := Aside0.mk (h.wsz hl)
  have M := Aside0.mk hm
  have K := Aside0.mk (Kg.of_kf (g := gm) (Kf.refl lo r f w))
  clear h hl hl2 hg ho hm hok
  go_enter Try.func98, Try.ntmps98
  go_wp2_with (first
    | (((with_reducible refine gate_dst (N := 10) rfl ?_); obtain ⟨hd1, hm1⟩ := M.out; refine wpList_load_row rfl 49 _ rfl gm rfl 49 _ (0, 0) _ hm1.box Try.underlying49 rfl sz49 ?_; have HM1 := Aside0.mk hm1; clear hm1))
    | (go_at_call 30; (with_reducible refine (retry_calls m hd1 _ HM1.out.reads).mono ?_); rintro e0 w0 ⟨rfl, b0⟩; have M0 := Aside0.mk (M.out.below b0); have H0 := Aside0.mk (H.out.below b0); have K0 := Aside0.mk (K.out.trans (Kg.of_kf (Kf.of_below (r := r) (f := f) HWL.out b0))); clear b0))
  go_ret
  exact ⟨rfl, H0.out, M0.out, K0.out⟩
set_option maxRecDepth 100000 in
set_option maxHeartbeats 8000000 in
theorem srvNo (ok : Nat → Prop) (lo r f gm : Nat) (B : Rp) (m : Mv) (w : World) (k : Int) (n43 : (k == 43) = false) (n51 : (k == 51) = false) (n41 : (k == 41) = false) (hl : lo ≤ f) (hl2 : lo ≤ r) (hg : lo ≤ gm) (h : RS w r f B) (ho : B.Ok) (hm : MO ok w gm m) (hok : ∀ k, w.heap.size ≤ k → ok k) :
    Calls Try.prog 98 #[.pointer (some ⟨gm, 0, none⟩), .int .i64 k, .pointer (some ⟨r, 0, none⟩)] w fun ex w' => ex = .returned (.bool false) ∧ RS w' r f B ∧ MO ok w' gm m ∧ Kg lo r f gm w w' := by
  have H := Aside0.mk h
  have HL := Aside0.mk hl
  have HL2 := Aside0.mk hl2
  have HG := Aside0.mk hg
  have OKK := Aside0.mk hok
  have HO := Aside0.mk ho
  have HWL := Aside0.mk (h.wsz hl)
  have M := Aside0.mk hm
  have K := Aside0.mk (Kg.of_kf (g := gm) (Kf.refl lo r f w))
  clear h hl hl2 hg ho hm hok
  go_enter Try.func98, Try.ntmps98
  go_wp2_with (first
    | (((with_reducible refine gate_dst (N := 10) rfl ?_); obtain ⟨hd1, hm1⟩ := M.out; refine wpList_load_row rfl 49 _ rfl gm rfl 49 _ (0, 0) _ hm1.box Try.underlying49 rfl sz49 ?_; have HM1 := Aside0.mk hm1; clear hm1))
    | (go_at_call 30; (with_reducible refine (retry_calls m hd1 _ HM1.out.reads).mono ?_); rintro e0 w0 ⟨rfl, b0⟩; have M0 := Aside0.mk (M.out.below b0); have H0 := Aside0.mk (H.out.below b0); have K0 := Aside0.mk (K.out.trans (Kg.of_kf (Kf.of_below (r := r) (f := f) HWL.out b0))); clear b0))
  go_ret
  exact ⟨rfl, H0.out, M0.out, K0.out⟩
theorem srv_c (ok : Nat → Prop) (lo r f gm : Nat) (B : Rp) (m : Mv) (w : World) (k : Int) (hl : lo ≤ f) (hl2 : lo ≤ r) (hg : lo ≤ gm) (h : RS w r f B) (ho : B.Ok) (hm : MO ok w gm m) (hok : ∀ k, w.heap.size ≤ k → ok k) :
    Calls Try.prog 98 #[.pointer (some ⟨gm, 0, none⟩), .int .i64 k, .pointer (some ⟨r, 0, none⟩)] w fun ex w' => ex = .returned (.bool (srv k m B).1) ∧ RS w' r f (srv k m B).2.2 ∧ MO ok w' gm (srv k m B).2.1 ∧ Kg lo r f gm w w' := by
  unfold srv
  by_cases e43 : k = 43
  · subst e43
    exact srv43 ok lo r f gm B m w hl hl2 hg h ho hm hok
  rw [if_neg e43]
  by_cases e51 : k = 51
  · subst e51
    rw [if_pos rfl]
    by_cases hr : m.retry = true
    · rw [if_pos hr]
      exact srv51r ok lo r f gm B m w hr hl hl2 hg h ho hm hok
    · rw [if_neg hr]
      exact srv51n ok lo r f gm B m w (by simpa using hr) hl hl2 hg h ho hm hok
  rw [if_neg e51]
  by_cases e41 : k = 41
  · subst e41
    rw [if_pos rfl]
    by_cases hr : m.retry = true
    · rw [if_pos hr]
      exact srv41r ok lo r f gm B m w hr hl hl2 hg h ho hm hok
    · rw [if_neg hr]
      exact srv41n ok lo r f gm B m w (by simpa using hr) hl hl2 hg h ho hm hok
  rw [if_neg e41]
  exact srvNo ok lo r f gm B m w k (beq_eq_false_iff_ne.mpr e43) (beq_eq_false_iff_ne.mpr e51) (beq_eq_false_iff_ne.mpr e41) hl hl2 hg h ho hm hok
end Go.Proofs.Ytlkebjkpmiehcaa.Ms
end
section
namespace Go.Proofs.Ytlkebjkpmiehcaa.Ms
open Go.RowKit Go.Proofs.YtlkebjkpmiehcaaW.PrintWords Go.Proofs.YtlkebjkpmiehcaaW.PrintLast Go.Proofs.YtlkebjkpmiehcaaW.PrintMore Go.Proofs.Ytlkebjkpmiehcaa.X
open Go.Proofs.Ytlkebjkpmiehcaa.Pure (nv numOf vecOf nv_bd nv_bd4 number_any vec_ok)
set_option linter.unusedVariables false
def Rp.aft (P B : Rp) (l : Bool) : Rp := { P with c := B.c, t := B.t, l := l }
structure Kh (lo r rb f g : Nat) (w w' : World) : Prop where
  below : Below lo w w'
  keep : ∀ k o, w.heap[k]? = some o → k ≠ r → k ≠ rb → k ≠ f → k ≠ g → w'.heap[k]? = some o
theorem Kh.of_kg {lo r rb f g : Nat} {w w' : World} (k : Kg lo rb f g w w') : Kh lo r rb f g w w' := ⟨k.below, fun i o hi _ hb hf hg => k.keep i o hi hb hf hg⟩
theorem Kh.trans {lo r rb f g : Nat} {a b c : World} (h : Kh lo r rb f g a b) (k : Kh lo r rb f g b c) : Kh lo r rb f g a c := ⟨h.below.trans k.below, fun i o hi hr hb hf hg => k.keep i o (h.keep i o hi hr hb hf hg) hr hb hf hg⟩
theorem Kh.inner {lo r rb f g : Nat} {w w1 w2 : World} (h : Kg lo r f g w w1) (hn : w.heap.size ≤ rb) (k : Kh lo r rb f g w1 w2) : Kg lo r f g w w2 :=
  ⟨h.below.trans k.below, fun i o hi hr hf hg => k.keep i o (h.keep i o hi hr hf hg) hr (by have := blk_lt hi; omega) hf hg⟩
structure TakeC (k : Nat) (cap : Array Value) (lo r f gm : Nat) (w0 : World) (take : Int → Mv → Rp → Bool × Mv × Rp) (lastf : Int → Bool → Bool) : Prop where
  enters : ∀ args w, (callFunc k args).run Try.prog w = .ok (.enter k args) w
  ok : ∀ (kind : Int) (m : Mv) (B : Rp), B.Ok → (take kind m B).2.2.Ok
  st : ∀ (kind : Int) (m : Mv) (B : Rp), B.Ok → (take kind m B).2.2.c = 0 → B.c = 0
  calls : ∀ (ok : Nat → Prop) (kind : Int) (m : Mv) (P B : Rp) (rb : Nat) (W : World), Kg lo r f gm w0 W → w0.heap.size ≤ rb → RS W r f P → RS W rb f B → B.Ok → MO ok W gm m → (∀ j, W.heap.size ≤ j → ok j) →
    Calls Try.prog k (#[.int .i64 kind, .pointer (some ⟨rb, 0, none⟩)] ++ cap) W fun ex W' => ex = .returned (.bool (take kind m B).1) ∧ RS W' rb f (take kind m B).2.2 ∧ MO ok W' gm (take kind m B).2.1 ∧ RS W' r f (P.aft (take kind m B).2.2 (lastf kind P.l)) ∧ Kh lo r rb f gm W W'
def nonT (_ : Int) (m : Mv) (B : Rp) : Bool × Mv × Rp := (false, m, B)
def sameL (_ : Int) (l : Bool) : Bool := l
def pskL (k : Int) (_ : Bool) : Bool := k == 41
set_option maxRecDepth 100000 in
set_option maxHeartbeats 8000000 in
theorem old_box {lo r f gm gb : Nat} {w0 W : World} {v : Value} {t : TypeId} (hk : Kg lo r f gm w0 W) (hb : w0.heap[gb]? = some (.cells #[v] t (0, 0))) (h1 : gb ≠ r) (h2 : gb ≠ f) (h3 : gb ≠ gm) : W.heap[gb]? = some (.cells #[v] t (0, 0)) := hk.keep _ _ hb h1 h2 h3
set_option maxRecDepth 100000 in
set_option maxHeartbeats 8000000 in
theorem srvT_c (lo r f gm gb : Nat) (w0 : World) (hl : lo ≤ f) (hg : lo ≤ gm) (hlw : lo ≤ w0.heap.size) (hb : w0.heap[gb]? = some (.cells #[.pointer (some ⟨gm, 0, none⟩)] 85 (0, 0))) (n1 : gb ≠ r) (n2 : gb ≠ f) (n3 : gb ≠ gm) (hr : r < w0.heap.size) : TakeC 97 #[.pointer (some ⟨gb, 0, none⟩)] lo r f gm w0 srv sameL where
  enters := fun args w => enters_ Try.func97 (by kernel_rfl) rfl args w
  ok := fun k m _ h => srv_ok k m h
  st := fun _ _ _ ho h => srv_st ho h
  calls := by
    intro ok kind m P B rb W hk hn hP hB ho hm hok
    have HX := Aside0.mk (old_box hk hb n1 n2 n3)
    have HNE := Aside0.mk (show r ≠ rb from by omega)
    have HL := Aside0.mk hl
    have HL2 := Aside0.mk (Nat.le_trans hlw hn)
    have HG := Aside0.mk hg
    have H := Aside0.mk hP
    have HB := Aside0.mk hB
    have HO := Aside0.mk ho
    have HM := Aside0.mk hm
    have HK := Aside0.mk hok
    have HRG := Aside0.mk (show r ≠ gm from by
      obtain ⟨_, a⟩ := hm
      exact blk_ne hP.rd a.box (by decide))
    clear hk hn hP hB ho hm hok hl hg hlw hb n1 n2 n3 hr
    show Calls Try.prog 97 #[.int .i64 kind, .pointer (some ⟨rb, 0, none⟩), .pointer (some ⟨gb, 0, none⟩)] W _
    go_enter Try.func97, Try.ntmps97
    go_wp2_with (first
      | ((with_reducible refine gate_dst (N := 6) rfl ?_); refine ld (v := .pointer (some ⟨gm, 0, none⟩)) rfl rfl rfl HX.out Try.underlying85 rfl rfl ?_)
      | (go_at_call 98; (with_reducible refine (srv_c ok lo rb f gm B m _ kind HL.out HL2.out HG.out HB.out HO.out HM.out HK.out).mono ?_); rintro e1 w1 ⟨rfl, i1, m1, k1⟩; have H1 := Aside0.mk i1; have M1 := Aside0.mk m1; have K1 := Aside0.mk k1; clear i1 m1 k1))
    go_ret
    exact ⟨rfl, H1.out, M1.out, ⟨K1.out.keep _ _ H.out.rd HNE.out H.out.ne HRG.out, H1.out.ft⟩, Kh.of_kg K1.out⟩
def Rp.exA (R : Rp) : Rp := R.allow (!R.l)
def Rp.exK (R : Rp) : Int := R.exA.numV 2
def Rp.exB (R : Rp) : Rp := R.exA.numR 2
def Rp.exT (R : Rp) (seen : List Int) : Bool := R.t || decide (R.exK ∈ seen)
def Rp.exI (R : Rp) (seen : List Int) : Rp := { R.exB.inR 2 with t := R.exT seen }
def Rp.exP (R : Rp) (seen : List Int) : Rp := { R.exB.outR 2 with t := R.exT seen }
section
variable (take : Int → Mv → Rp → Bool × Mv × Rp) (lastf : Int → Bool → Bool)
def exX (R : Rp) (seen : List Int) (m : Mv) : Bool × Mv × Rp := take R.exK m (R.exI seen)
def exQ (R : Rp) (seen : List Int) (m : Mv) : Rp := (R.exP seen).aft (exX take R seen m).2.2 (lastf R.exK R.l)
def exN (R : Rp) (seen : List Int) (m : Mv) : Rp := if (exX take R seen m).1 = true then (exQ take lastf R seen m).back (exX take R seen m).2.2.done else exQ take lastf R seen m
def exO (R : Rp) (seen : List Int) (m : Mv) : List Int := if (exX take R seen m).1 = true then [] else if (exQ take lastf R seen m).c = 0 then [R.exK] else []
def exts : Nat → List Int → Mv → Rp → List Int × Mv × Rp
  | 0, _, m, R => ([], m, R)
  | k + 1, seen, m, R => if R.more = true then (exO take lastf R seen m ++ (exts k (seen ++ [R.exK]) (exX take R seen m).2.1 (exN take lastf R seen m)).1, (exts k (seen ++ [R.exK]) (exX take R seen m).2.1 (exN take lastf R seen m)).2) else ([], m, R)
end
theorem Rp.Ok.exA {R : Rp} (h : R.Ok) : R.exA.Ok := h.allow _
theorem Rp.Ok.exB {R : Rp} (h : R.Ok) : R.exB.Ok := h.exA.numR 2
theorem Rp.Ok.exI {R : Rp} (h : R.Ok) (seen : List Int) : (R.exI seen).Ok := ⟨(h.exB.inR 2).lo, (h.exB.inR 2).hi, (h.exB.inR 2).sz⟩
theorem Rp.Ok.exP {R : Rp} (h : R.Ok) (seen : List Int) : (R.exP seen).Ok := ⟨(h.exB.outR 2).lo, (h.exB.outR 2).hi, (h.exB.outR 2).sz⟩
theorem Rp.Ok.aft {R : Rp} (h : R.Ok) (B : Rp) (l : Bool) : (R.aft B l).Ok := ⟨h.lo, h.hi, h.sz⟩
theorem exN_p (take : Int → Mv → Rp → Bool × Mv × Rp) (lastf : Int → Bool → Bool) (R : Rp) (seen : List Int) (m : Mv) : (exN take lastf R seen m).p = (R.exB.outR 2).p ∧ (exN take lastf R seen m).s = R.s := by
  unfold exN
  split <;> exact ⟨rfl, rfl⟩
theorem Rp.Ok.exN {R : Rp} (h : R.Ok) (take : Int → Mv → Rp → Bool × Mv × Rp) (lastf : Int → Bool → Bool) (seen : List Int) (m : Mv) : (exN take lastf R seen m).Ok := by
  obtain ⟨h1, h2⟩ := exN_p take lastf R seen m
  have h3 := h.exB.outR 2
  exact ⟨by rw [h1]; exact h3.lo, by rw [h1, h2]; exact h3.hi, by rw [h2]; exact h.sz⟩
theorem exN_mu {take : Int → Mv → Rp → Bool × Mv × Rp} {lastf : Int → Bool → Bool} (hst : ∀ (kind : Int) (m : Mv) (B : Rp), B.Ok → (take kind m B).2.2.c = 0 → B.c = 0) {R : Rp} (h : R.Ok) (seen : List Int) (m : Mv) (hm : R.more = true) : (exN take lastf R seen m).mu < R.mu := by
  obtain ⟨h1, h2⟩ := exN_p take lastf R seen m
  refine mu_lt hm h2 h.lo fun hc => ?_
  have hx : (exX take R seen m).2.2.c = 0 := by
    unfold Ms.exN at hc
    split at hc
    · exact (needed_zero hc).1
    · exact hc
  have hi : (R.exI seen).c = 0 := hst _ _ _ (h.exI seen) hx
  have ho : (R.exB.outR 2).c = 0 := hi
  have hv := vecR_c ho h.exB
  have hn := numR_c hv.1 h.exA
  rw [h1]
  have e1 : R.exA.p = R.p := rfl
  have e2 : R.exB.p = R.exA.p + 2 := hn.2
  have e3 : R.exB.p + 2 ≤ (R.exB.outR 2).p := hv.2
  omega
theorem wfk {x : Int} (h0 : 0 ≤ x) (h1 : x < 4294967296) : (Lit.int .i64 x).wf = true := by
  simp [Lit.wf, IntKind.min, IntKind.max, IntKind.signed, IntKind.bits]
  omega
theorem exK_bd (R : Rp) : 0 ≤ R.exK ∧ R.exK < 4294967296 := by
  have h := R.exA.numV_bd 2
  unfold Rp.exK
  omega
end Go.Proofs.Ytlkebjkpmiehcaa.Ms
end
