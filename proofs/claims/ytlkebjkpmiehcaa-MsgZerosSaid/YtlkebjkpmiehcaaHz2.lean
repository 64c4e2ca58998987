/- Words, contracts and lemmas that the claim needs, in the order in which they build. Conditions: each lemma's own. -/
import Derived.IntWalk
import Derived.Test.YtlkebjkpmiehcaaHz1
section
namespace Go.Proofs.Ytlkebjkpmiehcaa.E
open Go.RowKit Go.Proofs.YtlkebjkpmiehcaaW.PrintWords Go.Proofs.YtlkebjkpmiehcaaW.PrintLast Go.Proofs.YtlkebjkpmiehcaaW.PrintMore
attribute [local go_sem] max2_int min2_int max_two min_two max_three min_three max_four min_four   
set_option linter.unusedVariables false
set_option linter.unusedSimpArgs false
def ext_Get.l0 : Nat → ByteArray → List (S41) → List Int → Bool → Int → Option ((List (S41)) × Int)
  | 0, _, _, _, _, _ => none
  | k + 1, x0, x4, x5, x6, x7 => if x7 < (x0.size : Int) then ((wire_U16.f k x0 x7).bind fun bt110 => (if bt110.2.2 = 0 then ((wire_Vec.f k x0 bt110.2.1 2).bind fun bt113 => (if bt113.2.2 = 0 then (if x6 = true then (if (Lit.int .i64 bt110.1).wf = true then (if x5.length < 140737488355328 then (if x4.length < 5864062014805 then (ext_Get.l0 k x0 (x4 ++ [(⟨bt110.1, bt113.1⟩ : S41)]) (x5 ++ [bt110.1]) true bt113.2.1) else (none)) else (none)) else (none)) else (if (Lit.int .i64 bt110.1).wf = true then (if x5.length < 140737488355328 then (if x4.length < 5864062014805 then (ext_Get.l0 k x0 (x4 ++ [(⟨bt110.1, bt113.1⟩ : S41)]) (x5 ++ [bt110.1]) (decide (bt110.1 ∈ x5)) bt113.2.1) else (none)) else (none)) else (none))) else (some (([] : List (S41)), 1600)))) else (some (([] : List (S41)), 1600)))) else (if x6 = true then (some (([] : List (S41)), 1601)) else (some (x4, 0)))
def ext_Get.f (k : Nat) (a0 : ByteArray) : Option ((List (S41)) × Int) := ext_Get.l0 k a0 ([] : List (S41)) (([] : List Int)) false 0
theorem ext_Get.mono_l : ∀ k, (∀ y0 y1 y2 y3 y4, LeO (ext_Get.l0 k y0 y1 y2 y3 y4) (ext_Get.l0 (k + 1) y0 y1 y2 y3 y4))
  | 0 => fun _ _ _ _ _ r h => by simp [ext_Get.l0] at h
  | k + 1 => by
    have ih0 := ext_Get.mono_l k
    · intro y0 y1 y2 y3 y4
      unfold ext_Get.l0
      repeat' first
      | (with_reducible exact ih0 _ _ _ _ _)
      | (with_reducible exact wire_U16.mono _ _ _)
      | (with_reducible exact wire_Vec.mono _ _ _ _)
      | (with_reducible exact LeO.refl _)
      | (with_reducible exact LeO.none _)
      | (with_reducible refine LeO.ite ?_ ?_)
      | (with_reducible refine LeO.bind ?_ (fun _ => ?_))
      | exact ih0 _ _ _ _ _
      | exact wire_U16.mono _ _ _
      | exact wire_Vec.mono _ _ _ _
      | exact LeO.none _
      | refine LeO.ite ?_ ?_
      | refine LeO.bind ?_ (fun _ => ?_)
theorem ext_Get.mono : ∀ a0 k, LeO (ext_Get.f k a0) (ext_Get.f (k + 1) a0) := by
  intro a0 k
  have ih0 := ext_Get.mono_l k
  unfold ext_Get.f
  repeat' first
      | (with_reducible exact ih0 _ _ _ _ _)
      | (with_reducible exact wire_U16.mono _ _ _)
      | (with_reducible exact wire_Vec.mono _ _ _ _)
      | (with_reducible exact LeO.refl _)
      | (with_reducible exact LeO.none _)
      | (with_reducible refine LeO.ite ?_ ?_)
      | (with_reducible refine LeO.bind ?_ (fun _ => ?_))
      | exact ih0 _ _ _ _ _
      | exact wire_U16.mono _ _ _
      | exact wire_Vec.mono _ _ _ _
      | exact LeO.none _
      | refine LeO.ite ?_ ?_
      | refine LeO.bind ?_ (fun _ => ?_)
set_option maxHeartbeats 8000000 in
set_option maxRecDepth 100000 in
theorem ext_Get.calls (k : Nat) (a0 : ByteArray) (r1 : List (S41)) (r2 : Int) (w : World) (h : ext_Get.f k a0 = some (r1, r2)) :
    Calls Try.prog 12 #[.string a0] w fun e w' => ∃ v0_ : Value, e = .returned (.tuple #[v0_, .int .i64 r2]) ∧ Kd.R k41 41 w' w.heap.size (fun _ => True) v0_ r1 ∧ Below w.heap.size w w' := by
  have hu41 := Try.underlying41
  have HB := Aside0.mk (Below.refl w.heap.size w)
  have H : (ext_Get.l0 k a0 ([] : List (S41)) (([] : List Int)) false 0) = some (r1, r2) := h
  clear h
  obtain ⟨y107, hy107⟩ : ∃ y_ : List Int, y_ = (([] : List Int)) := ⟨_, rfl⟩
  replace H : (ext_Get.l0 k a0 ([] : List (S41)) y107 false 0) = some (r1, r2) := by first | (rw [hy107]; with_reducible exact H) | (have H2_ := (Option.bind_some _ _).symm.trans H; rw [hy107]; with_reducible exact H2_) | (have H2_ := (Option.bind_some _ _).symm.trans H; with_reducible exact H2_) | with_reducible exact H | (rw [hy107]; exact H) | exact H
  have Ny107 := Aside0.mk hy107
  clear hy107
  have H' := Aside0.mk H
  clear H
  go_enter Try.func12, Try.ntmps12
  go_wp2_with (first | ((with_reducible refine gate_dst (N := 12) rfl ?_); refine Kd.Y_make (Kd.int .i64) 3 rfl (N := 12) rfl 68 rfl (ok := fun _ => True) trivial ?_; intro v108 w2 ho3 hb; rw [← Ny107.out] at ho3; have n0_ := Aside0.mk (Kd.Y_lower ho3 (below_size (by repeat (first | (with_reducible first | exact HB.out | apply below_alloc | apply pw_below_drewN | apply below_drew1) | exact HB.out)))); have n1_ := Aside0.mk (below_step (by repeat (first | (with_reducible first | exact HB.out | apply below_alloc | apply pw_below_drewN | apply below_drew1) | exact HB.out)) hb); clear HB; have HO109 := n0_; have HB := n1_; clear n0_ n1_; clear hb ho3))
  go_loopg [4, 6, 7] k (fun kq v4 v6 v7 w' => ∃ (x4_1 : List (S41)) (x5_1 : List Int) (x6_1 : Bool) (x7_1 : Int), v6 = .bool x6_1 ∧ v7 = .int .i64 x7_1 ∧ Aside0 (ext_Get.l0 kq a0 x4_1 x5_1 x6_1 x7_1 = some (r1, r2)) ∧ Aside0 (kq ≤ k) ∧ Aside0 (Kd.R k41 41 w' w.heap.size (fun _ => True) v4 x4_1) ∧ Aside0 (Kd.Y (Kd.int .i64) 3 w' w.heap.size (fun _ => True) v108 x5_1) ∧ Aside0 (Below w.heap.size w w'))
  case atStart => exact ⟨(([] : List (S41))), (y107), (false), (0), (by first | rfl | (simp; done) | (simp [*]; done)), (by first | rfl | (simp; done) | (simp [*]; done)), H', ⟨Nat.le_refl _⟩, ⟨by first | exact Kd.R_nil _ _ _ _ _ | exact Kd.N_nil _ _ _ _ _ | exact Kd.V_nil _ _ _ _ _ | exact Kd.Q_nil _ _ _ _ _ | exact Kd.S_nil _ _ _ _ _⟩, ⟨by (with_reducible repeat (first | apply Kd.Y_alloc | apply Kd.Y_drewN | apply Kd.Y_drew)); exact HO109.out⟩, ⟨by repeat (first | (with_reducible first | exact HB.out | apply below_alloc | apply pw_below_drewN | apply below_drew1) | exact HB.out)⟩⟩
  case round =>
    clear H'
    try clear c1
    try clear p2
    obtain ⟨x4_1, x5_1, x6_1, x7_1, rfl, rfl, HA, HK1, HO_4, HO_5, HB⟩ := hrel
    cases gk with
    | zero => exact absurd HA.out (by simp [ext_Get.l0])
    | succ k1 =>
      have H := HA.out
      clear HA
      simp only [ext_Get.l0] at H
      by_cases c4 : x7_1 < (a0.size : Int)
      · rw [if_pos c4] at H
        have c4b0 : decide (x7_1 < (a0.size : Int)) = true := decide_eq_true c4
        clear c4
        replace H := Option.bind_eq_some_iff.mp H
        obtain ⟨⟨t110, t111, t112⟩, A50, H⟩ := H
        replace H : (if t112 = 0 then ((wire_Vec.f k1 a0 t111 2).bind fun bt113 => (if bt113.2.2 = 0 then (if x6_1 = true then (if (Lit.int .i64 t110).wf = true then (if x5_1.length < 140737488355328 then (if x4_1.length < 5864062014805 then (ext_Get.l0 k1 a0 (x4_1 ++ [(⟨t110, bt113.1⟩ : S41)]) (x5_1 ++ [t110]) true bt113.2.1) else (none)) else (none)) else (none)) else (if (Lit.int .i64 t110).wf = true then (if x5_1.length < 140737488355328 then (if x4_1.length < 5864062014805 then (ext_Get.l0 k1 a0 (x4_1 ++ [(⟨t110, bt113.1⟩ : S41)]) (x5_1 ++ [t110]) (decide (t110 ∈ x5_1)) bt113.2.1) else (none)) else (none)) else (none))) else (some (([] : List (S41)), 1600)))) else (some (([] : List (S41)), 1600))) = some (r1, r2) := H
        have A5 := Aside0.mk A50
        clear A50
        by_cases c6 : t112 = 0
        · rw [if_pos c6] at H
          have c6b0 : (t112 == 0) = true := beq_iff_eq.mpr c6
          have c6b1 : (t112 != 0) = false := bne_eq_false_iff_eq.mpr c6
          clear c6
          replace H := Option.bind_eq_some_iff.mp H
          obtain ⟨⟨t113, t114, t115⟩, A70, H⟩ := H
          replace H : (if t115 = 0 then (if x6_1 = true then (if (Lit.int .i64 t110).wf = true then (if x5_1.length < 140737488355328 then (if x4_1.length < 5864062014805 then (ext_Get.l0 k1 a0 (x4_1 ++ [(⟨t110, t113⟩ : S41)]) (x5_1 ++ [t110]) true t114) else (none)) else (none)) else (none)) else (if (Lit.int .i64 t110).wf = true then (if x5_1.length < 140737488355328 then (if x4_1.length < 5864062014805 then (ext_Get.l0 k1 a0 (x4_1 ++ [(⟨t110, t113⟩ : S41)]) (x5_1 ++ [t110]) (decide (t110 ∈ x5_1)) t114) else (none)) else (none)) else (none))) else (some (([] : List (S41)), 1600))) = some (r1, r2) := H
          have A7 := Aside0.mk A70
          clear A70
          by_cases c8 : t115 = 0
          · rw [if_pos c8] at H
            have c8b0 : (t115 == 0) = true := beq_iff_eq.mpr c8
            have c8b1 : (t115 != 0) = false := bne_eq_false_iff_eq.mpr c8
            clear c8
            by_cases c9 : x6_1 = true
            · subst c9
              have H1 : (if (Lit.int .i64 t110).wf = true then (if x5_1.length < 140737488355328 then (if x4_1.length < 5864062014805 then (ext_Get.l0 k1 a0 (x4_1 ++ [(⟨t110, t113⟩ : S41)]) (x5_1 ++ [t110]) true t114) else (none)) else (none)) else (none)) = some (r1, r2) := by rw [if_pos rfl] at H; exact H
              clear H
              have H := H1
              clear H1
              by_cases c10 : (Lit.int .i64 t110).wf = true
              · rw [if_pos c10] at H
                have LMc10 := Aside0.mk c10
                clear c10
                by_cases c11 : x5_1.length < 140737488355328
                · rw [if_pos c11] at H
                  have LMc11 := Aside0.mk c11
                  clear c11
                  obtain ⟨y116, hy116⟩ : ∃ y_ : List Int, y_ = (x5_1 ++ [t110]) := ⟨_, rfl⟩
                  replace H : (if x4_1.length < 5864062014805 then (ext_Get.l0 k1 a0 (x4_1 ++ [(⟨t110, t113⟩ : S41)]) y116 true t114) else (none)) = some (r1, r2) := by first | (rw [hy116]; with_reducible exact H) | (have H2_ := (Option.bind_some _ _).symm.trans H; rw [hy116]; with_reducible exact H2_) | (have H2_ := (Option.bind_some _ _).symm.trans H; with_reducible exact H2_) | with_reducible exact H | (rw [hy116]; exact H) | exact H
                  have Ny116 := Aside0.mk hy116
                  clear hy116
                  by_cases c12 : x4_1.length < 5864062014805
                  · rw [if_pos c12] at H
                    have LMc12 := Aside0.mk c12
                    clear c12
                    obtain ⟨y119, hy119⟩ : ∃ y_ : List (S41), y_ = (x4_1 ++ [(⟨t110, t113⟩ : S41)]) := ⟨_, rfl⟩
                    replace H : (ext_Get.l0 k1 a0 y119 y116 true t114) = some (r1, r2) := by first | (rw [hy119]; with_reducible exact H) | (have H2_ := (Option.bind_some _ _).symm.trans H; rw [hy119]; with_reducible exact H2_) | (have H2_ := (Option.bind_some _ _).symm.trans H; with_reducible exact H2_) | with_reducible exact H | (rw [hy119]; exact H) | exact H
                    have Ny119 := Aside0.mk hy119
                    clear hy119
                    have H' := Aside0.mk H
                    clear H
                    go_wp2_with (first | ((with_reducible refine gate_callee (f := 33) rfl ?_); refine goesL_ (some 20) rfl rfl Try.func33 (by kernel_rfl) rfl #[.string a0, .int .i64 x7_1] rfl (by (try simp only [List.map_toArray, List.map_cons, List.map_nil]); first | done | rfl | (simp only [List.length_drop, List.length_take]; rfl)) ?_; (with_reducible refine (wire_U16.calls k1 a0 x7_1 t110 t111 t112 _ A5.out).mono ?_); rintro e w' ⟨rfl, ⟨nd, rfl⟩⟩; refine ⟨_, rfl, ?_⟩) | ((with_reducible refine gate_callee (f := 34) rfl ?_); refine goesL_ (some 29) rfl rfl Try.func34 (by kernel_rfl) rfl #[.string a0, .int .i64 t111, .int .i64 2] rfl (by (try simp only [List.map_toArray, List.map_cons, List.map_nil]); first | done | rfl | (simp only [List.length_drop, List.length_take]; rfl)) ?_; (with_reducible refine (wire_Vec.calls k1 a0 t111 2 t113 t114 t115 _ A7.out).mono ?_); rintro e w' ⟨rfl, ⟨nd, rfl⟩⟩; refine ⟨_, rfl, ?_⟩) | (at_mapUpdate; refine Kd.Y_put (Kd.int .i64) (w0 := w) w.heap.size 3 rfl 68 _ _ _ rfl Try.underlying68 Try.underlying3 Try.underlying4 v108 x5_1 t110 (ok := fun _ => True) rfl rfl rfl LMc10.out (by have := LMc11.out; simp only [maxLen]; omega) ?aO ?aB ?aS ?_; (case aO => exact (by (with_reducible repeat (first | apply Kd.Y_alloc | apply Kd.Y_drewN | apply Kd.Y_drew)); exact HO_5.out)); (case aB => exact (by repeat (first | (with_reducible first | exact HB.out | apply below_alloc | apply pw_below_drewN | apply below_drew1) | exact HB.out))); (case aS => exact (below_size (by repeat (first | (with_reducible first | exact HB.out | apply below_alloc | apply pw_below_drewN | apply below_drew1) | exact HB.out)))); intro w13 ho hb hmt; rw [← Ny116.out] at ho; have n0_ := Aside0.mk (Kd.R_map (by (with_reducible repeat (first | apply Kd.R_alloc | apply Kd.R_drewN | apply Kd.R_drew)); exact HO_4.out) hmt); have n1_ := Aside0.mk (hb); have n2_ := Aside0.mk (ho); clear HO_4; clear HB; clear HO_5; have HO_4 := n0_; have HB := n1_; have HO118 := n2_; clear n0_ n1_ n2_; clear ho hb hmt) | ((with_reducible refine gate_builtin (b := .append) (xs := #[.tmp 43, .tmp 47]) rfl ?_); at_builtin; refine Kd.R_append k41 (w0 := w) w.heap.size rfl (.tmp 43) (.tmp 47) 22 41 (.agg #[(.int .i64 0), (.string ⟨#[]⟩)]) 24 rfl Try.underlying22 info41 rfl (by decide) (by omega) u4 x4_1 (⟨t110, t113⟩ : S41) [.int .i64 t110, .string t113] (fun _ => True) (fun _ => False) rfl rfl ?aP (fun _ hk => hk.elim) ?aF ?aO ?aB ?aS ?aL ?_; (case aP => exact k41_mkM _ _ _ (⟨t110, t113⟩ : S41)); (case aB => exact (by repeat (first | (with_reducible first | exact HB.out | apply below_alloc | apply pw_below_drewN | apply below_drew1) | exact HB.out))); (case aF => exact (fun _ _ => trivial)); (case aO => exact (by (with_reducible repeat (first | apply Kd.R_alloc | apply Kd.R_drewN | apply Kd.R_drew)); exact HO_4.out)); (case aS => exact (below_size (by repeat (first | (with_reducible first | exact HB.out | apply below_alloc | apply pw_below_drewN | apply below_drew1) | exact HB.out)))); (case aL => have := LMc12.out; omega); intro v120 w14 ho hb hg hat; rw [← Ny119.out] at ho; have n0_ := Aside0.mk (Kd.Y_over' (by (with_reducible repeat (first | apply Kd.Y_alloc | apply Kd.Y_drewN | apply Kd.Y_drew)); exact HO118.out) (Kd.R_typed (by (with_reducible repeat (first | apply Kd.R_alloc | apply Kd.R_drewN | apply Kd.R_drew)); exact HO_4.out)) (by decide) hg); have n1_ := Aside0.mk (hb); have n2_ := Aside0.mk (ho); clear HO118; clear HB; clear HO_4; have HO118 := n0_; have HB := n1_; have HO121 := n2_; clear n0_ n1_ n2_; clear ho hb hg hat))
                    go_roundg k1
                    case measure => have := HK1.out; omega
                    case rel => exact ⟨(y119), (y116), (true), (t114), (by first | rfl | (simp; done) | (simp [*]; done)), (by first | rfl | (simp; done) | (simp [*]; done)), H', ⟨by have := HK1.out; omega⟩, ⟨by (with_reducible repeat (first | apply Kd.R_alloc | apply Kd.R_drewN | apply Kd.R_drew)); exact HO121.out⟩, ⟨by (with_reducible repeat (first | apply Kd.Y_alloc | apply Kd.Y_drewN | apply Kd.Y_drew)); exact HO118.out⟩, ⟨by repeat (first | (with_reducible first | exact HB.out | apply below_alloc | apply pw_below_drewN | apply below_drew1) | exact HB.out)⟩⟩
                  · rw [if_neg c12] at H
                    exact absurd H (by simp)
                · rw [if_neg c11] at H
                  exact absurd H (by simp)
              · rw [if_neg c10] at H
                exact absurd H (by simp)
            · replace c9 := Bool.eq_false_iff.mpr c9
              subst c9
              have H1 : (if (Lit.int .i64 t110).wf = true then (if x5_1.length < 140737488355328 then (if x4_1.length < 5864062014805 then (ext_Get.l0 k1 a0 (x4_1 ++ [(⟨t110, t113⟩ : S41)]) (x5_1 ++ [t110]) (decide (t110 ∈ x5_1)) t114) else (none)) else (none)) else (none)) = some (r1, r2) := by rw [if_neg (show ¬ (false = true) by decide)] at H; exact H
              clear H
              have H := H1
              clear H1
              by_cases c15 : (Lit.int .i64 t110).wf = true
              · rw [if_pos c15] at H
                have LMc15 := Aside0.mk c15
                clear c15
                by_cases c16 : x5_1.length < 140737488355328
                · rw [if_pos c16] at H
                  have LMc16 := Aside0.mk c16
                  clear c16
                  obtain ⟨y122, hy122⟩ : ∃ y_ : List Int, y_ = (x5_1 ++ [t110]) := ⟨_, rfl⟩
                  replace H : (if x4_1.length < 5864062014805 then (ext_Get.l0 k1 a0 (x4_1 ++ [(⟨t110, t113⟩ : S41)]) y122 (decide (t110 ∈ x5_1)) t114) else (none)) = some (r1, r2) := by first | (rw [hy122]; with_reducible exact H) | (have H2_ := (Option.bind_some _ _).symm.trans H; rw [hy122]; with_reducible exact H2_) | (have H2_ := (Option.bind_some _ _).symm.trans H; with_reducible exact H2_) | with_reducible exact H | (rw [hy122]; exact H) | exact H
                  have Ny122 := Aside0.mk hy122
                  clear hy122
                  by_cases c17 : x4_1.length < 5864062014805
                  · rw [if_pos c17] at H
                    have LMc17 := Aside0.mk c17
                    clear c17
                    obtain ⟨y125, hy125⟩ : ∃ y_ : List (S41), y_ = (x4_1 ++ [(⟨t110, t113⟩ : S41)]) := ⟨_, rfl⟩
                    replace H : (ext_Get.l0 k1 a0 y125 y122 (decide (t110 ∈ x5_1)) t114) = some (r1, r2) := by first | (rw [hy125]; with_reducible exact H) | (have H2_ := (Option.bind_some _ _).symm.trans H; rw [hy125]; with_reducible exact H2_) | (have H2_ := (Option.bind_some _ _).symm.trans H; with_reducible exact H2_) | with_reducible exact H | (rw [hy125]; exact H) | exact H
                    have Ny125 := Aside0.mk hy125
                    clear hy125
                    have H' := Aside0.mk H
                    clear H
                    go_wp2_with (first | ((with_reducible refine gate_callee (f := 33) rfl ?_); refine goesL_ (some 20) rfl rfl Try.func33 (by kernel_rfl) rfl #[.string a0, .int .i64 x7_1] rfl (by (try simp only [List.map_toArray, List.map_cons, List.map_nil]); first | done | rfl | (simp only [List.length_drop, List.length_take]; rfl)) ?_; (with_reducible refine (wire_U16.calls k1 a0 x7_1 t110 t111 t112 _ A5.out).mono ?_); rintro e w' ⟨rfl, ⟨nd, rfl⟩⟩; refine ⟨_, rfl, ?_⟩) | ((with_reducible refine gate_callee (f := 34) rfl ?_); refine goesL_ (some 29) rfl rfl Try.func34 (by kernel_rfl) rfl #[.string a0, .int .i64 t111, .int .i64 2] rfl (by (try simp only [List.map_toArray, List.map_cons, List.map_nil]); first | done | rfl | (simp only [List.length_drop, List.length_take]; rfl)) ?_; (with_reducible refine (wire_Vec.calls k1 a0 t111 2 t113 t114 t115 _ A7.out).mono ?_); rintro e w' ⟨rfl, ⟨nd, rfl⟩⟩; refine ⟨_, rfl, ?_⟩) | (at_lookup; (try (refine gate_guard (by rfl) ?_; dsimp only)); refine Kd.Y_look (Kd.int .i64) (ok := fun _ => True) (base := w.heap.size) (xs := x5_1) 3 rfl 68 _ _ rfl Try.underlying68 Try.underlying3 Try.underlying4 (Kd.zeroB _) (v := v108) (k := t110) rfl rfl LMc15.out ?aO ?_; (case aO => exact (by (with_reducible repeat (first | apply Kd.Y_alloc | apply Kd.Y_drewN | apply Kd.Y_drew)); exact HO_5.out)); intro w18 hb; have n0_ := Aside0.mk (Kd.R_below (by (with_reducible repeat (first | apply Kd.R_alloc | apply Kd.R_drewN | apply Kd.R_drew)); exact HO_4.out) hb); have n1_ := Aside0.mk (Kd.Y_below (by (with_reducible repeat (first | apply Kd.Y_alloc | apply Kd.Y_drewN | apply Kd.Y_drew)); exact HO_5.out) hb); have n2_ := Aside0.mk (below_step (by repeat (first | (with_reducible first | exact HB.out | apply below_alloc | apply pw_below_drewN | apply below_drew1) | exact HB.out)) hb); clear HO_4; clear HO_5; clear HB; have HO_4 := n0_; have HO_5 := n1_; have HB := n2_; clear n0_ n1_ n2_; clear hb) | (at_mapUpdate; refine Kd.Y_put (Kd.int .i64) (w0 := w) w.heap.size 3 rfl 68 _ _ _ rfl Try.underlying68 Try.underlying3 Try.underlying4 v108 x5_1 t110 (ok := fun _ => True) rfl rfl rfl LMc15.out (by have := LMc16.out; simp only [maxLen]; omega) ?aO ?aB ?aS ?_; (case aO => exact (by (with_reducible repeat (first | apply Kd.Y_alloc | apply Kd.Y_drewN | apply Kd.Y_drew)); exact HO_5.out)); (case aB => exact (by repeat (first | (with_reducible first | exact HB.out | apply below_alloc | apply pw_below_drewN | apply below_drew1) | exact HB.out))); (case aS => exact (below_size (by repeat (first | (with_reducible first | exact HB.out | apply below_alloc | apply pw_below_drewN | apply below_drew1) | exact HB.out)))); intro w19 ho hb hmt; rw [← Ny122.out] at ho; have n0_ := Aside0.mk (Kd.R_map (by (with_reducible repeat (first | apply Kd.R_alloc | apply Kd.R_drewN | apply Kd.R_drew)); exact HO_4.out) hmt); have n1_ := Aside0.mk (hb); have n2_ := Aside0.mk (ho); clear HO_4; clear HB; clear HO_5; have HO_4 := n0_; have HB := n1_; have HO124 := n2_; clear n0_ n1_ n2_; clear ho hb hmt) | ((with_reducible refine gate_builtin (b := .append) (xs := #[.tmp 43, .tmp 47]) rfl ?_); at_builtin; refine Kd.R_append k41 (w0 := w) w.heap.size rfl (.tmp 43) (.tmp 47) 22 41 (.agg #[(.int .i64 0), (.string ⟨#[]⟩)]) 24 rfl Try.underlying22 info41 rfl (by decide) (by omega) u4 x4_1 (⟨t110, t113⟩ : S41) [.int .i64 t110, .string t113] (fun _ => True) (fun _ => False) rfl rfl ?aP (fun _ hk => hk.elim) ?aF ?aO ?aB ?aS ?aL ?_; (case aP => exact k41_mkM _ _ _ (⟨t110, t113⟩ : S41)); (case aB => exact (by repeat (first | (with_reducible first | exact HB.out | apply below_alloc | apply pw_below_drewN | apply below_drew1) | exact HB.out))); (case aF => exact (fun _ _ => trivial)); (case aO => exact (by (with_reducible repeat (first | apply Kd.R_alloc | apply Kd.R_drewN | apply Kd.R_drew)); exact HO_4.out)); (case aS => exact (below_size (by repeat (first | (with_reducible first | exact HB.out | apply below_alloc | apply pw_below_drewN | apply below_drew1) | exact HB.out)))); (case aL => have := LMc17.out; omega); intro v126 w20 ho hb hg hat; rw [← Ny125.out] at ho; have n0_ := Aside0.mk (Kd.Y_over' (by (with_reducible repeat (first | apply Kd.Y_alloc | apply Kd.Y_drewN | apply Kd.Y_drew)); exact HO124.out) (Kd.R_typed (by (with_reducible repeat (first | apply Kd.R_alloc | apply Kd.R_drewN | apply Kd.R_drew)); exact HO_4.out)) (by decide) hg); have n1_ := Aside0.mk (hb); have n2_ := Aside0.mk (ho); clear HO124; clear HB; clear HO_4; have HO124 := n0_; have HB := n1_; have HO127 := n2_; clear n0_ n1_ n2_; clear ho hb hg hat))
                    go_roundg k1
                    case measure => have := HK1.out; omega
                    case rel => exact ⟨(y125), (y122), (decide (t110 ∈ x5_1)), (t114), (by first | rfl | (simp; done) | (simp [*]; done)), (by first | rfl | (simp; done) | (simp [*]; done)), H', ⟨by have := HK1.out; omega⟩, ⟨by (with_reducible repeat (first | apply Kd.R_alloc | apply Kd.R_drewN | apply Kd.R_drew)); exact HO127.out⟩, ⟨by (with_reducible repeat (first | apply Kd.Y_alloc | apply Kd.Y_drewN | apply Kd.Y_drew)); exact HO124.out⟩, ⟨by repeat (first | (with_reducible first | exact HB.out | apply below_alloc | apply pw_below_drewN | apply below_drew1) | exact HB.out)⟩⟩
                  · rw [if_neg c17] at H
                    exact absurd H (by simp)
                · rw [if_neg c16] at H
                  exact absurd H (by simp)
              · rw [if_neg c15] at H
                exact absurd H (by simp)
          · rw [if_neg c8] at H
            have c8b0 : (t115 == 0) = false := beq_eq_false_iff_ne.mpr c8
            have c8b1 : (t115 != 0) = true := bne_iff_ne.mpr c8
            simp only [Option.some.injEq, Prod.mk.injEq] at H
            obtain ⟨rfl, rfl⟩ := H
            go_wp2_with (first | ((with_reducible refine gate_callee (f := 33) rfl ?_); refine goesL_ (some 20) rfl rfl Try.func33 (by kernel_rfl) rfl #[.string a0, .int .i64 x7_1] rfl (by (try simp only [List.map_toArray, List.map_cons, List.map_nil]); first | done | rfl | (simp only [List.length_drop, List.length_take]; rfl)) ?_; (with_reducible refine (wire_U16.calls k1 a0 x7_1 t110 t111 t112 _ A5.out).mono ?_); rintro e w' ⟨rfl, ⟨nd, rfl⟩⟩; refine ⟨_, rfl, ?_⟩) | ((with_reducible refine gate_callee (f := 34) rfl ?_); refine goesL_ (some 29) rfl rfl Try.func34 (by kernel_rfl) rfl #[.string a0, .int .i64 t111, .int .i64 2] rfl (by (try simp only [List.map_toArray, List.map_cons, List.map_nil]); first | done | rfl | (simp only [List.length_drop, List.length_take]; rfl)) ?_; (with_reducible refine (wire_Vec.calls k1 a0 t111 2 t113 t114 t115 _ A7.out).mono ?_); rintro e w' ⟨rfl, ⟨nd, rfl⟩⟩; refine ⟨_, rfl, ?_⟩))
            go_ret2
            exact ⟨_, by first | rfl | (simp [errW_none, errW_some] <;> rfl) | (simp [*, errW_none, errW_some] <;> rfl), by first | exact Kd.R_nil _ _ _ _ _ | exact Kd.N_nil _ _ _ _ _ | exact Kd.V_nil _ _ _ _ _ | exact Kd.Q_nil _ _ _ _ _ | exact Kd.S_nil _ _ _ _ _, by repeat (first | (with_reducible first | exact HB.out | apply below_alloc | apply pw_below_drewN | apply below_drew1) | exact HB.out)⟩
        · rw [if_neg c6] at H
          have c6b0 : (t112 == 0) = false := beq_eq_false_iff_ne.mpr c6
          have c6b1 : (t112 != 0) = true := bne_iff_ne.mpr c6
          simp only [Option.some.injEq, Prod.mk.injEq] at H
          obtain ⟨rfl, rfl⟩ := H
          go_wp2_with (first | ((with_reducible refine gate_callee (f := 33) rfl ?_); refine goesL_ (some 20) rfl rfl Try.func33 (by kernel_rfl) rfl #[.string a0, .int .i64 x7_1] rfl (by (try simp only [List.map_toArray, List.map_cons, List.map_nil]); first | done | rfl | (simp only [List.length_drop, List.length_take]; rfl)) ?_; (with_reducible refine (wire_U16.calls k1 a0 x7_1 t110 t111 t112 _ A5.out).mono ?_); rintro e w' ⟨rfl, ⟨nd, rfl⟩⟩; refine ⟨_, rfl, ?_⟩))
          go_ret2
          exact ⟨_, by first | rfl | (simp [errW_none, errW_some] <;> rfl) | (simp [*, errW_none, errW_some] <;> rfl), by first | exact Kd.R_nil _ _ _ _ _ | exact Kd.N_nil _ _ _ _ _ | exact Kd.V_nil _ _ _ _ _ | exact Kd.Q_nil _ _ _ _ _ | exact Kd.S_nil _ _ _ _ _, by repeat (first | (with_reducible first | exact HB.out | apply below_alloc | apply pw_below_drewN | apply below_drew1) | exact HB.out)⟩
      · rw [if_neg c4] at H
        have c4b0 : decide (x7_1 < (a0.size : Int)) = false := decide_eq_false c4
        clear c4
        by_cases c21 : x6_1 = true
        · subst c21
          have H1 : (some (([] : List (S41)), 1601)) = some (r1, r2) := by rw [if_pos rfl] at H; exact H
          clear H
          have H := H1
          clear H1
          simp only [Option.some.injEq, Prod.mk.injEq] at H
          obtain ⟨rfl, rfl⟩ := H
          go_wp2
          go_ret2
          exact ⟨_, by first | rfl | (simp [errW_none, errW_some] <;> rfl) | (simp [*, errW_none, errW_some] <;> rfl), by first | exact Kd.R_nil _ _ _ _ _ | exact Kd.N_nil _ _ _ _ _ | exact Kd.V_nil _ _ _ _ _ | exact Kd.Q_nil _ _ _ _ _ | exact Kd.S_nil _ _ _ _ _, by repeat (first | (with_reducible first | exact HB.out | apply below_alloc | apply pw_below_drewN | apply below_drew1) | exact HB.out)⟩
        · replace c21 := Bool.eq_false_iff.mpr c21
          subst c21
          have H1 : (some (x4_1, 0)) = some (r1, r2) := by rw [if_neg (show ¬ (false = true) by decide)] at H; exact H
          clear H
          have H := H1
          clear H1
          simp only [Option.some.injEq, Prod.mk.injEq] at H
          obtain ⟨rfl, rfl⟩ := H
          go_wp2
          go_ret2
          exact ⟨_, by first | rfl | (simp [errW_none, errW_some] <;> rfl) | (simp [*, errW_none, errW_some] <;> rfl), by (with_reducible repeat (first | apply Kd.R_alloc | apply Kd.R_drewN | apply Kd.R_drew)); exact HO_4.out, by repeat (first | (with_reducible first | exact HB.out | apply below_alloc | apply pw_below_drewN | apply below_drew1) | exact HB.out)⟩
def wire_Bytes.f (a0 : Int) (a1 : Int) : Option (ByteArray) := if a1 = 4 then (if ([] : List Int).length < 140737488355328 then ((some (([] : List Int) ++ [(a0 / 16777216) % 256] : List Int)).bind fun y128 => (if y128.length < 140737488355328 then ((some (y128 ++ [(a0 / 65536) % 256] : List Int)).bind fun y131 => (if y131.length < 140737488355328 then ((some (y131 ++ [(a0 / 256) % 256] : List Int)).bind fun y134 => (if y134.length < 140737488355328 then (some (strOfNums (y134 ++ [(a0) % 256]))) else (none))) else (none))) else (none))) else (none)) else (if a1 = 3 then (if ([] : List Int).length < 140737488355328 then ((some (([] : List Int) ++ [(a0 / 65536) % 256] : List Int)).bind fun y140 => (if y140.length < 140737488355328 then ((some (y140 ++ [(a0 / 256) % 256] : List Int)).bind fun y143 => (if y143.length < 140737488355328 then (some (strOfNums (y143 ++ [(a0) % 256]))) else (none))) else (none))) else (none)) else (if a1 = 2 then (if ([] : List Int).length < 140737488355328 then ((some (([] : List Int) ++ [(a0 / 256) % 256] : List Int)).bind fun y149 => (if y149.length < 140737488355328 then (some (strOfNums (y149 ++ [(a0) % 256]))) else (none))) else (none)) else (if ([] : List Int).length < 140737488355328 then (some (strOfNums (([] : List Int) ++ [(a0) % 256]))) else (none))))
set_option maxHeartbeats 8000000 in
set_option maxRecDepth 100000 in
theorem wire_Bytes.calls (a0 : Int) (a1 : Int) (r : ByteArray) (w : World) (h : wire_Bytes.f a0 a1 = some r) :
    Calls Try.prog 47 #[.int .i64 a0, .int .i64 a1] w fun e w' => e = .returned (.string r) ∧ Below w.heap.size w w' := by
  have HB := Aside0.mk (Below.refl w.heap.size w)
  have H : (if a1 = 4 then (if ([] : List Int).length < 140737488355328 then ((some (([] : List Int) ++ [(a0 / 16777216) % 256] : List Int)).bind fun y128 => (if y128.length < 140737488355328 then ((some (y128 ++ [(a0 / 65536) % 256] : List Int)).bind fun y131 => (if y131.length < 140737488355328 then ((some (y131 ++ [(a0 / 256) % 256] : List Int)).bind fun y134 => (if y134.length < 140737488355328 then (some (strOfNums (y134 ++ [(a0) % 256]))) else (none))) else (none))) else (none))) else (none)) else (if a1 = 3 then (if ([] : List Int).length < 140737488355328 then ((some (([] : List Int) ++ [(a0 / 65536) % 256] : List Int)).bind fun y140 => (if y140.length < 140737488355328 then ((some (y140 ++ [(a0 / 256) % 256] : List Int)).bind fun y143 => (if y143.length < 140737488355328 then (some (strOfNums (y143 ++ [(a0) % 256]))) else (none))) else (none))) else (none)) else (if a1 = 2 then (if ([] : List Int).length < 140737488355328 then ((some (([] : List Int) ++ [(a0 / 256) % 256] : List Int)).bind fun y149 => (if y149.length < 140737488355328 then (some (strOfNums (y149 ++ [(a0) % 256]))) else (none))) else (none)) else (if ([] : List Int).length < 140737488355328 then (some (strOfNums (([] : List Int) ++ [(a0) % 256]))) else (none))))) = some r := h
  clear h
  by_cases c3 : a1 = 4
  · rw [if_pos c3] at H
    have c3b0 : (a1 == 4) = true := beq_iff_eq.mpr c3
    have c3b1 : (a1 != 4) = false := bne_eq_false_iff_eq.mpr c3
    clear c3
    by_cases c4 : ([] : List Int).length < 140737488355328
    · rw [if_pos c4] at H
      have LMc4 := Aside0.mk c4
      clear c4
      obtain ⟨y128, hy128⟩ : ∃ y_ : List Int, y_ = (([] : List Int) ++ [(a0 / 16777216) % 256]) := ⟨_, rfl⟩
      replace H : (if y128.length < 140737488355328 then ((some (y128 ++ [(a0 / 65536) % 256] : List Int)).bind fun y131 => (if y131.length < 140737488355328 then ((some (y131 ++ [(a0 / 256) % 256] : List Int)).bind fun y134 => (if y134.length < 140737488355328 then (some (strOfNums (y134 ++ [(a0) % 256]))) else (none))) else (none))) else (none)) = some r := by first | (rw [hy128]; with_reducible exact H) | (have H2_ := (Option.bind_some _ _).symm.trans H; rw [hy128]; with_reducible exact H2_) | (have H2_ := (Option.bind_some _ _).symm.trans H; with_reducible exact H2_) | with_reducible exact H | (rw [hy128]; exact H) | exact H
      have Ny128 := Aside0.mk hy128
      clear hy128
      by_cases c5 : y128.length < 140737488355328
      · rw [if_pos c5] at H
        have LMc5 := Aside0.mk c5
        clear c5
        obtain ⟨y131, hy131⟩ : ∃ y_ : List Int, y_ = (y128 ++ [(a0 / 65536) % 256]) := ⟨_, rfl⟩
        replace H : (if y131.length < 140737488355328 then ((some (y131 ++ [(a0 / 256) % 256] : List Int)).bind fun y134 => (if y134.length < 140737488355328 then (some (strOfNums (y134 ++ [(a0) % 256]))) else (none))) else (none)) = some r := by first | (rw [hy131]; with_reducible exact H) | (have H2_ := (Option.bind_some _ _).symm.trans H; rw [hy131]; with_reducible exact H2_) | (have H2_ := (Option.bind_some _ _).symm.trans H; with_reducible exact H2_) | with_reducible exact H | (rw [hy131]; exact H) | exact H
        have Ny131 := Aside0.mk hy131
        clear hy131
        by_cases c6 : y131.length < 140737488355328
        · rw [if_pos c6] at H
          have LMc6 := Aside0.mk c6
          clear c6
          obtain ⟨y134, hy134⟩ : ∃ y_ : List Int, y_ = (y131 ++ [(a0 / 256) % 256]) := ⟨_, rfl⟩
          replace H : (if y134.length < 140737488355328 then (some (strOfNums (y134 ++ [(a0) % 256]))) else (none)) = some r := by first | (rw [hy134]; with_reducible exact H) | (have H2_ := (Option.bind_some _ _).symm.trans H; rw [hy134]; with_reducible exact H2_) | (have H2_ := (Option.bind_some _ _).symm.trans H; with_reducible exact H2_) | with_reducible exact H | (rw [hy134]; exact H) | exact H
          have Ny134 := Aside0.mk hy134
          clear hy134
          by_cases c7 : y134.length < 140737488355328
          · rw [if_pos c7] at H
            have LMc7 := Aside0.mk c7
            clear c7
            obtain ⟨y137, hy137⟩ : ∃ y_ : List Int, y_ = (y134 ++ [(a0) % 256]) := ⟨_, rfl⟩
            replace H : (some (strOfNums y137)) = some r := by first | (rw [hy137]; with_reducible exact H) | (have H2_ := (Option.bind_some _ _).symm.trans H; rw [hy137]; with_reducible exact H2_) | (have H2_ := (Option.bind_some _ _).symm.trans H; with_reducible exact H2_) | with_reducible exact H | (rw [hy137]; exact H) | exact H
            have Ny137 := Aside0.mk hy137
            clear hy137
            obtain rfl := Option.some.inj H
            go_enter Try.func47, Try.ntmps47
            go_wp2_with (first | ((with_reducible refine gate_builtin (b := .append) (xs := #[.tmp 13, .tmp 17]) rfl ?_); at_builtin; refine Kd.R_append (Kd.int .u8) (w0 := w) w.heap.size rfl (.tmp 13) (.tmp 17) 39 5 (.int .u8 0) 1 rfl Try.underlying39 info5 rfl (by decide) (by omega) (.slice none 0 0) ([] : List Int) ((a0 / 16777216) % 256) [.int .u8 ((a0 / 16777216) % 256)] (fun _ => True) (fun _ => False) rfl rfl ?aP (fun _ hk => hk.elim) ?aF ?aO ?aB ?aS ?aL ?_; (case aP => exact rfl); (case aB => exact (by repeat (first | (with_reducible first | exact HB.out | apply below_alloc | apply pw_below_drewN | apply below_drew1) | exact HB.out))); (case aF => exact (fun _ _ => trivial)); (case aO => exact ((Kd.R_nil _ _ _ _ (fun _ => True)))); (case aS => exact (below_size (by repeat (first | (with_reducible first | exact HB.out | apply below_alloc | apply pw_below_drewN | apply below_drew1) | exact HB.out)))); (case aL => have := LMc4.out; omega); intro v129 w8 ho hb hg hat; rw [← Ny128.out] at ho; have n0_ := Aside0.mk (hb); have n1_ := Aside0.mk (ho); clear HB; have HB := n0_; have HO130 := n1_; clear n0_ n1_; clear ho hb hg hat) | ((with_reducible refine gate_builtin (b := .append) (xs := #[.tmp 19, .tmp 23]) rfl ?_); at_builtin; refine Kd.R_append (Kd.int .u8) (w0 := w) w.heap.size rfl (.tmp 19) (.tmp 23) 39 5 (.int .u8 0) 1 rfl Try.underlying39 info5 rfl (by decide) (by omega) v129 y128 ((a0 / 65536) % 256) [.int .u8 ((a0 / 65536) % 256)] (fun _ => True) (fun _ => False) rfl rfl ?aP (fun _ hk => hk.elim) ?aF ?aO ?aB ?aS ?aL ?_; (case aP => exact rfl); (case aB => exact (by repeat (first | (with_reducible first | exact HB.out | apply below_alloc | apply pw_below_drewN | apply below_drew1) | exact HB.out))); (case aF => exact (fun _ _ => trivial)); (case aO => exact (by (with_reducible repeat (first | apply Kd.R_alloc | apply Kd.R_drewN | apply Kd.R_drew)); exact HO130.out)); (case aS => exact (below_size (by repeat (first | (with_reducible first | exact HB.out | apply below_alloc | apply pw_below_drewN | apply below_drew1) | exact HB.out)))); (case aL => have := LMc5.out; omega); intro v132 w9 ho hb hg hat; rw [← Ny131.out] at ho; have n0_ := Aside0.mk (hb); have n1_ := Aside0.mk (ho); clear HB; clear HO130; have HB := n0_; have HO133 := n1_; clear n0_ n1_; clear ho hb hg hat) | ((with_reducible refine gate_builtin (b := .append) (xs := #[.tmp 25, .tmp 29]) rfl ?_); at_builtin; refine Kd.R_append (Kd.int .u8) (w0 := w) w.heap.size rfl (.tmp 25) (.tmp 29) 39 5 (.int .u8 0) 1 rfl Try.underlying39 info5 rfl (by decide) (by omega) v132 y131 ((a0 / 256) % 256) [.int .u8 ((a0 / 256) % 256)] (fun _ => True) (fun _ => False) rfl rfl ?aP (fun _ hk => hk.elim) ?aF ?aO ?aB ?aS ?aL ?_; (case aP => exact rfl); (case aB => exact (by repeat (first | (with_reducible first | exact HB.out | apply below_alloc | apply pw_below_drewN | apply below_drew1) | exact HB.out))); (case aF => exact (fun _ _ => trivial)); (case aO => exact (by (with_reducible repeat (first | apply Kd.R_alloc | apply Kd.R_drewN | apply Kd.R_drew)); exact HO133.out)); (case aS => exact (below_size (by repeat (first | (with_reducible first | exact HB.out | apply below_alloc | apply pw_below_drewN | apply below_drew1) | exact HB.out)))); (case aL => have := LMc6.out; omega); intro v135 w10 ho hb hg hat; rw [← Ny134.out] at ho; have n0_ := Aside0.mk (hb); have n1_ := Aside0.mk (ho); clear HB; clear HO133; have HB := n0_; have HO136 := n1_; clear n0_ n1_; clear ho hb hg hat) | ((with_reducible refine gate_builtin (b := .append) (xs := #[.tmp 31, .tmp 34]) rfl ?_); at_builtin; refine Kd.R_append (Kd.int .u8) (w0 := w) w.heap.size rfl (.tmp 31) (.tmp 34) 39 5 (.int .u8 0) 1 rfl Try.underlying39 info5 rfl (by decide) (by omega) v135 y134 ((a0) % 256) [.int .u8 ((a0) % 256)] (fun _ => True) (fun _ => False) rfl rfl ?aP (fun _ hk => hk.elim) ?aF ?aO ?aB ?aS ?aL ?_; (case aP => exact rfl); (case aB => exact (by repeat (first | (with_reducible first | exact HB.out | apply below_alloc | apply pw_below_drewN | apply below_drew1) | exact HB.out))); (case aF => exact (fun _ _ => trivial)); (case aO => exact (by (with_reducible repeat (first | apply Kd.R_alloc | apply Kd.R_drewN | apply Kd.R_drew)); exact HO136.out)); (case aS => exact (below_size (by repeat (first | (with_reducible first | exact HB.out | apply below_alloc | apply pw_below_drewN | apply below_drew1) | exact HB.out)))); (case aL => have := LMc7.out; omega); intro v138 w11 ho hb hg hat; rw [← Ny137.out] at ho; have n0_ := Aside0.mk (hb); have n1_ := Aside0.mk (ho); clear HB; clear HO136; have HB := n0_; have HO139 := n1_; clear n0_ n1_; clear ho hb hg hat; have hcv12 := own_string (P := Try.prog) Try.underlying39 Try.underlying5 Try.underlying9 (Kd.own_of_R HO139.out)))
            go_ret
            exact ⟨by first | rfl | (simp [errW_none, errW_some] <;> rfl) | (simp [*, errW_none, errW_some] <;> rfl), by repeat (first | (with_reducible first | exact HB.out | apply below_alloc | apply pw_below_drewN | apply below_drew1) | exact HB.out)⟩
          · rw [if_neg c7] at H
            exact absurd H (by simp)
        · rw [if_neg c6] at H
          exact absurd H (by simp)
      · rw [if_neg c5] at H
        exact absurd H (by simp)
    · rw [if_neg c4] at H
      exact absurd H (by simp)
  · rw [if_neg c3] at H
    have c3b0 : (a1 == 4) = false := beq_eq_false_iff_ne.mpr c3
    have c3b1 : (a1 != 4) = true := bne_iff_ne.mpr c3
    by_cases c13 : a1 = 3
    · rw [if_pos c13] at H
      have c13b0 : (a1 == 3) = true := beq_iff_eq.mpr c13
      have c13b1 : (a1 != 3) = false := bne_eq_false_iff_eq.mpr c13
      clear c13
      by_cases c14 : ([] : List Int).length < 140737488355328
      · rw [if_pos c14] at H
        have LMc14 := Aside0.mk c14
        clear c14
        obtain ⟨y140, hy140⟩ : ∃ y_ : List Int, y_ = (([] : List Int) ++ [(a0 / 65536) % 256]) := ⟨_, rfl⟩
        replace H : (if y140.length < 140737488355328 then ((some (y140 ++ [(a0 / 256) % 256] : List Int)).bind fun y143 => (if y143.length < 140737488355328 then (some (strOfNums (y143 ++ [(a0) % 256]))) else (none))) else (none)) = some r := by first | (rw [hy140]; with_reducible exact H) | (have H2_ := (Option.bind_some _ _).symm.trans H; rw [hy140]; with_reducible exact H2_) | (have H2_ := (Option.bind_some _ _).symm.trans H; with_reducible exact H2_) | with_reducible exact H | (rw [hy140]; exact H) | exact H
        have Ny140 := Aside0.mk hy140
        clear hy140
        by_cases c15 : y140.length < 140737488355328
        · rw [if_pos c15] at H
          have LMc15 := Aside0.mk c15
          clear c15
          obtain ⟨y143, hy143⟩ : ∃ y_ : List Int, y_ = (y140 ++ [(a0 / 256) % 256]) := ⟨_, rfl⟩
          replace H : (if y143.length < 140737488355328 then (some (strOfNums (y143 ++ [(a0) % 256]))) else (none)) = some r := by first | (rw [hy143]; with_reducible exact H) | (have H2_ := (Option.bind_some _ _).symm.trans H; rw [hy143]; with_reducible exact H2_) | (have H2_ := (Option.bind_some _ _).symm.trans H; with_reducible exact H2_) | with_reducible exact H | (rw [hy143]; exact H) | exact H
          have Ny143 := Aside0.mk hy143
          clear hy143
          by_cases c16 : y143.length < 140737488355328
          · rw [if_pos c16] at H
            have LMc16 := Aside0.mk c16
            clear c16
            obtain ⟨y146, hy146⟩ : ∃ y_ : List Int, y_ = (y143 ++ [(a0) % 256]) := ⟨_, rfl⟩
            replace H : (some (strOfNums y146)) = some r := by first | (rw [hy146]; with_reducible exact H) | (have H2_ := (Option.bind_some _ _).symm.trans H; rw [hy146]; with_reducible exact H2_) | (have H2_ := (Option.bind_some _ _).symm.trans H; with_reducible exact H2_) | with_reducible exact H | (rw [hy146]; exact H) | exact H
            have Ny146 := Aside0.mk hy146
            clear hy146
            obtain rfl := Option.some.inj H
            go_enter Try.func47, Try.ntmps47
            go_wp2_with (first | ((with_reducible refine gate_builtin (b := .append) (xs := #[.tmp 19, .tmp 23]) rfl ?_); at_builtin; refine Kd.R_append (Kd.int .u8) (w0 := w) w.heap.size rfl (.tmp 19) (.tmp 23) 39 5 (.int .u8 0) 1 rfl Try.underlying39 info5 rfl (by decide) (by omega) (.slice none 0 0) ([] : List Int) ((a0 / 65536) % 256) [.int .u8 ((a0 / 65536) % 256)] (fun _ => True) (fun _ => False) rfl rfl ?aP (fun _ hk => hk.elim) ?aF ?aO ?aB ?aS ?aL ?_; (case aP => exact rfl); (case aB => exact (by repeat (first | (with_reducible first | exact HB.out | apply below_alloc | apply pw_below_drewN | apply below_drew1) | exact HB.out))); (case aF => exact (fun _ _ => trivial)); (case aO => exact ((Kd.R_nil _ _ _ _ (fun _ => True)))); (case aS => exact (below_size (by repeat (first | (with_reducible first | exact HB.out | apply below_alloc | apply pw_below_drewN | apply below_drew1) | exact HB.out)))); (case aL => have := LMc14.out; omega); intro v141 w17 ho hb hg hat; rw [← Ny140.out] at ho; have n0_ := Aside0.mk (hb); have n1_ := Aside0.mk (ho); clear HB; have HB := n0_; have HO142 := n1_; clear n0_ n1_; clear ho hb hg hat) | ((with_reducible refine gate_builtin (b := .append) (xs := #[.tmp 25, .tmp 29]) rfl ?_); at_builtin; refine Kd.R_append (Kd.int .u8) (w0 := w) w.heap.size rfl (.tmp 25) (.tmp 29) 39 5 (.int .u8 0) 1 rfl Try.underlying39 info5 rfl (by decide) (by omega) v141 y140 ((a0 / 256) % 256) [.int .u8 ((a0 / 256) % 256)] (fun _ => True) (fun _ => False) rfl rfl ?aP (fun _ hk => hk.elim) ?aF ?aO ?aB ?aS ?aL ?_; (case aP => exact rfl); (case aB => exact (by repeat (first | (with_reducible first | exact HB.out | apply below_alloc | apply pw_below_drewN | apply below_drew1) | exact HB.out))); (case aF => exact (fun _ _ => trivial)); (case aO => exact (by (with_reducible repeat (first | apply Kd.R_alloc | apply Kd.R_drewN | apply Kd.R_drew)); exact HO142.out)); (case aS => exact (below_size (by repeat (first | (with_reducible first | exact HB.out | apply below_alloc | apply pw_below_drewN | apply below_drew1) | exact HB.out)))); (case aL => have := LMc15.out; omega); intro v144 w18 ho hb hg hat; rw [← Ny143.out] at ho; have n0_ := Aside0.mk (hb); have n1_ := Aside0.mk (ho); clear HB; clear HO142; have HB := n0_; have HO145 := n1_; clear n0_ n1_; clear ho hb hg hat) | ((with_reducible refine gate_builtin (b := .append) (xs := #[.tmp 31, .tmp 34]) rfl ?_); at_builtin; refine Kd.R_append (Kd.int .u8) (w0 := w) w.heap.size rfl (.tmp 31) (.tmp 34) 39 5 (.int .u8 0) 1 rfl Try.underlying39 info5 rfl (by decide) (by omega) v144 y143 ((a0) % 256) [.int .u8 ((a0) % 256)] (fun _ => True) (fun _ => False) rfl rfl ?aP (fun _ hk => hk.elim) ?aF ?aO ?aB ?aS ?aL ?_; (case aP => exact rfl); (case aB => exact (by repeat (first | (with_reducible first | exact HB.out | apply below_alloc | apply pw_below_drewN | apply below_drew1) | exact HB.out))); (case aF => exact (fun _ _ => trivial)); (case aO => exact (by (with_reducible repeat (first | apply Kd.R_alloc | apply Kd.R_drewN | apply Kd.R_drew)); exact HO145.out)); (case aS => exact (below_size (by repeat (first | (with_reducible first | exact HB.out | apply below_alloc | apply pw_below_drewN | apply below_drew1) | exact HB.out)))); (case aL => have := LMc16.out; omega); intro v147 w19 ho hb hg hat; rw [← Ny146.out] at ho; have n0_ := Aside0.mk (hb); have n1_ := Aside0.mk (ho); clear HB; clear HO145; have HB := n0_; have HO148 := n1_; clear n0_ n1_; clear ho hb hg hat; have hcv20 := own_string (P := Try.prog) Try.underlying39 Try.underlying5 Try.underlying9 (Kd.own_of_R HO148.out)))
            go_ret
            exact ⟨by first | rfl | (simp [errW_none, errW_some] <;> rfl) | (simp [*, errW_none, errW_some] <;> rfl), by repeat (first | (with_reducible first | exact HB.out | apply below_alloc | apply pw_below_drewN | apply below_drew1) | exact HB.out)⟩
          · rw [if_neg c16] at H
            exact absurd H (by simp)
        · rw [if_neg c15] at H
          exact absurd H (by simp)
      · rw [if_neg c14] at H
        exact absurd H (by simp)
    · rw [if_neg c13] at H
      have c13b0 : (a1 == 3) = false := beq_eq_false_iff_ne.mpr c13
      have c13b1 : (a1 != 3) = true := bne_iff_ne.mpr c13
      by_cases c21 : a1 = 2
      · rw [if_pos c21] at H
        have c21b0 : (a1 == 2) = true := beq_iff_eq.mpr c21
        have c21b1 : (a1 != 2) = false := bne_eq_false_iff_eq.mpr c21
        clear c21
        by_cases c22 : ([] : List Int).length < 140737488355328
        · rw [if_pos c22] at H
          have LMc22 := Aside0.mk c22
          clear c22
          obtain ⟨y149, hy149⟩ : ∃ y_ : List Int, y_ = (([] : List Int) ++ [(a0 / 256) % 256]) := ⟨_, rfl⟩
          replace H : (if y149.length < 140737488355328 then (some (strOfNums (y149 ++ [(a0) % 256]))) else (none)) = some r := by first | (rw [hy149]; with_reducible exact H) | (have H2_ := (Option.bind_some _ _).symm.trans H; rw [hy149]; with_reducible exact H2_) | (have H2_ := (Option.bind_some _ _).symm.trans H; with_reducible exact H2_) | with_reducible exact H | (rw [hy149]; exact H) | exact H
          have Ny149 := Aside0.mk hy149
          clear hy149
          by_cases c23 : y149.length < 140737488355328
          · rw [if_pos c23] at H
            have LMc23 := Aside0.mk c23
            clear c23
            obtain ⟨y152, hy152⟩ : ∃ y_ : List Int, y_ = (y149 ++ [(a0) % 256]) := ⟨_, rfl⟩
            replace H : (some (strOfNums y152)) = some r := by first | (rw [hy152]; with_reducible exact H) | (have H2_ := (Option.bind_some _ _).symm.trans H; rw [hy152]; with_reducible exact H2_) | (have H2_ := (Option.bind_some _ _).symm.trans H; with_reducible exact H2_) | with_reducible exact H | (rw [hy152]; exact H) | exact H
            have Ny152 := Aside0.mk hy152
            clear hy152
            obtain rfl := Option.some.inj H
            go_enter Try.func47, Try.ntmps47
            go_wp2_with (first | ((with_reducible refine gate_builtin (b := .append) (xs := #[.tmp 25, .tmp 29]) rfl ?_); at_builtin; refine Kd.R_append (Kd.int .u8) (w0 := w) w.heap.size rfl (.tmp 25) (.tmp 29) 39 5 (.int .u8 0) 1 rfl Try.underlying39 info5 rfl (by decide) (by omega) (.slice none 0 0) ([] : List Int) ((a0 / 256) % 256) [.int .u8 ((a0 / 256) % 256)] (fun _ => True) (fun _ => False) rfl rfl ?aP (fun _ hk => hk.elim) ?aF ?aO ?aB ?aS ?aL ?_; (case aP => exact rfl); (case aB => exact (by repeat (first | (with_reducible first | exact HB.out | apply below_alloc | apply pw_below_drewN | apply below_drew1) | exact HB.out))); (case aF => exact (fun _ _ => trivial)); (case aO => exact ((Kd.R_nil _ _ _ _ (fun _ => True)))); (case aS => exact (below_size (by repeat (first | (with_reducible first | exact HB.out | apply below_alloc | apply pw_below_drewN | apply below_drew1) | exact HB.out)))); (case aL => have := LMc22.out; omega); intro v150 w24 ho hb hg hat; rw [← Ny149.out] at ho; have n0_ := Aside0.mk (hb); have n1_ := Aside0.mk (ho); clear HB; have HB := n0_; have HO151 := n1_; clear n0_ n1_; clear ho hb hg hat) | ((with_reducible refine gate_builtin (b := .append) (xs := #[.tmp 31, .tmp 34]) rfl ?_); at_builtin; refine Kd.R_append (Kd.int .u8) (w0 := w) w.heap.size rfl (.tmp 31) (.tmp 34) 39 5 (.int .u8 0) 1 rfl Try.underlying39 info5 rfl (by decide) (by omega) v150 y149 ((a0) % 256) [.int .u8 ((a0) % 256)] (fun _ => True) (fun _ => False) rfl rfl ?aP (fun _ hk => hk.elim) ?aF ?aO ?aB ?aS ?aL ?_; (case aP => exact rfl); (case aB => exact (by repeat (first | (with_reducible first | exact HB.out | apply below_alloc | apply pw_below_drewN | apply below_drew1) | exact HB.out))); (case aF => exact (fun _ _ => trivial)); (case aO => exact (by (with_reducible repeat (first | apply Kd.R_alloc | apply Kd.R_drewN | apply Kd.R_drew)); exact HO151.out)); (case aS => exact (below_size (by repeat (first | (with_reducible first | exact HB.out | apply below_alloc | apply pw_below_drewN | apply below_drew1) | exact HB.out)))); (case aL => have := LMc23.out; omega); intro v153 w25 ho hb hg hat; rw [← Ny152.out] at ho; have n0_ := Aside0.mk (hb); have n1_ := Aside0.mk (ho); clear HB; clear HO151; have HB := n0_; have HO154 := n1_; clear n0_ n1_; clear ho hb hg hat; have hcv26 := own_string (P := Try.prog) Try.underlying39 Try.underlying5 Try.underlying9 (Kd.own_of_R HO154.out)))
            go_ret
            exact ⟨by first | rfl | (simp [errW_none, errW_some] <;> rfl) | (simp [*, errW_none, errW_some] <;> rfl), by repeat (first | (with_reducible first | exact HB.out | apply below_alloc | apply pw_below_drewN | apply below_drew1) | exact HB.out)⟩
          · rw [if_neg c23] at H
            exact absurd H (by simp)
        · rw [if_neg c22] at H
          exact absurd H (by simp)
      · rw [if_neg c21] at H
        have c21b0 : (a1 == 2) = false := beq_eq_false_iff_ne.mpr c21
        have c21b1 : (a1 != 2) = true := bne_iff_ne.mpr c21
        by_cases c27 : ([] : List Int).length < 140737488355328
        · rw [if_pos c27] at H
          have LMc27 := Aside0.mk c27
          clear c27
          obtain ⟨y155, hy155⟩ : ∃ y_ : List Int, y_ = (([] : List Int) ++ [(a0) % 256]) := ⟨_, rfl⟩
          replace H : (some (strOfNums y155)) = some r := by first | (rw [hy155]; with_reducible exact H) | (have H2_ := (Option.bind_some _ _).symm.trans H; rw [hy155]; with_reducible exact H2_) | (have H2_ := (Option.bind_some _ _).symm.trans H; with_reducible exact H2_) | with_reducible exact H | (rw [hy155]; exact H) | exact H
          have Ny155 := Aside0.mk hy155
          clear hy155
          obtain rfl := Option.some.inj H
          go_enter Try.func47, Try.ntmps47
          go_wp2_with (first | ((with_reducible refine gate_builtin (b := .append) (xs := #[.tmp 31, .tmp 34]) rfl ?_); at_builtin; refine Kd.R_append (Kd.int .u8) (w0 := w) w.heap.size rfl (.tmp 31) (.tmp 34) 39 5 (.int .u8 0) 1 rfl Try.underlying39 info5 rfl (by decide) (by omega) (.slice none 0 0) ([] : List Int) ((a0) % 256) [.int .u8 ((a0) % 256)] (fun _ => True) (fun _ => False) rfl rfl ?aP (fun _ hk => hk.elim) ?aF ?aO ?aB ?aS ?aL ?_; (case aP => exact rfl); (case aB => exact (by repeat (first | (with_reducible first | exact HB.out | apply below_alloc | apply pw_below_drewN | apply below_drew1) | exact HB.out))); (case aF => exact (fun _ _ => trivial)); (case aO => exact ((Kd.R_nil _ _ _ _ (fun _ => True)))); (case aS => exact (below_size (by repeat (first | (with_reducible first | exact HB.out | apply below_alloc | apply pw_below_drewN | apply below_drew1) | exact HB.out)))); (case aL => have := LMc27.out; omega); intro v156 w28 ho hb hg hat; rw [← Ny155.out] at ho; have n0_ := Aside0.mk (hb); have n1_ := Aside0.mk (ho); clear HB; have HB := n0_; have HO157 := n1_; clear n0_ n1_; clear ho hb hg hat; have hcv29 := own_string (P := Try.prog) Try.underlying39 Try.underlying5 Try.underlying9 (Kd.own_of_R HO157.out)))
          go_ret
          exact ⟨by first | rfl | (simp [errW_none, errW_some] <;> rfl) | (simp [*, errW_none, errW_some] <;> rfl), by repeat (first | (with_reducible first | exact HB.out | apply below_alloc | apply pw_below_drewN | apply below_drew1) | exact HB.out)⟩
        · rw [if_neg c27] at H
          exact absurd H (by simp)
def wire_Put.f (a0 : Int) (a1 : Int) : Option (ByteArray × Int) := if a1 < 1 then (some ((⟨#[]⟩ : ByteArray), 101)) else (if a1 > 4 then (some ((⟨#[]⟩ : ByteArray), 101)) else (if a0 < 0 then (some ((⟨#[]⟩ : ByteArray), 101)) else (if 0 ≤ (wrap64 (8 * a1)) then (if (shr .i64 a0 (wrap64 (8 * a1))) = 0 then ((wire_Bytes.f a0 a1).bind fun t158 => (some (t158, 0))) else (some ((⟨#[]⟩ : ByteArray), 101))) else (none))))
set_option maxHeartbeats 8000000 in
set_option maxRecDepth 100000 in
theorem wire_Put.calls (a0 : Int) (a1 : Int) (r1 : ByteArray) (r2 : Int) (w : World) (h : wire_Put.f a0 a1 = some (r1, r2)) :
    Calls Try.prog 39 #[.int .i64 a0, .int .i64 a1] w fun e w' => e = .returned (.tuple #[.string r1, .int .i64 r2]) ∧ Below w.heap.size w w' := by
  have HB := Aside0.mk (Below.refl w.heap.size w)
  have H : (if a1 < 1 then (some ((⟨#[]⟩ : ByteArray), 101)) else (if a1 > 4 then (some ((⟨#[]⟩ : ByteArray), 101)) else (if a0 < 0 then (some ((⟨#[]⟩ : ByteArray), 101)) else (if 0 ≤ (wrap64 (8 * a1)) then (if (shr .i64 a0 (wrap64 (8 * a1))) = 0 then ((wire_Bytes.f a0 a1).bind fun t158 => (some (t158, 0))) else (some ((⟨#[]⟩ : ByteArray), 101))) else (none))))) = some (r1, r2) := h
  clear h
  by_cases c3 : a1 < 1
  · rw [if_pos c3] at H
    have c3b0 : decide (a1 < 1) = true := decide_eq_true c3
    clear c3
    simp only [Option.some.injEq, Prod.mk.injEq] at H
    obtain ⟨rfl, rfl⟩ := H
    go_enter Try.func39, Try.ntmps39
    go_wp2
    go_ret2
    exact ⟨by first | rfl | (simp [errW_none, errW_some] <;> rfl) | (simp [*, errW_none, errW_some] <;> rfl), by repeat (first | (with_reducible first | exact HB.out | apply below_alloc | apply pw_below_drewN | apply below_drew1) | exact HB.out)⟩
  · rw [if_neg c3] at H
    have c3b0 : decide (a1 < 1) = false := decide_eq_false c3
    clear c3
    by_cases c4 : a1 > 4
    · rw [if_pos c4] at H
      have c4b0 : decide (4 < a1) = true := decide_eq_true c4
      clear c4
      simp only [Option.some.injEq, Prod.mk.injEq] at H
      obtain ⟨rfl, rfl⟩ := H
      go_enter Try.func39, Try.ntmps39
      go_wp2
      go_ret2
      exact ⟨by first | rfl | (simp [errW_none, errW_some] <;> rfl) | (simp [*, errW_none, errW_some] <;> rfl), by repeat (first | (with_reducible first | exact HB.out | apply below_alloc | apply pw_below_drewN | apply below_drew1) | exact HB.out)⟩
    · rw [if_neg c4] at H
      have c4b0 : decide (4 < a1) = false := decide_eq_false c4
      clear c4
      by_cases c5 : a0 < 0
      · rw [if_pos c5] at H
        have c5b0 : decide (a0 < 0) = true := decide_eq_true c5
        clear c5
        simp only [Option.some.injEq, Prod.mk.injEq] at H
        obtain ⟨rfl, rfl⟩ := H
        go_enter Try.func39, Try.ntmps39
        go_wp2
        go_ret2
        exact ⟨by first | rfl | (simp [errW_none, errW_some] <;> rfl) | (simp [*, errW_none, errW_some] <;> rfl), by repeat (first | (with_reducible first | exact HB.out | apply below_alloc | apply pw_below_drewN | apply below_drew1) | exact HB.out)⟩
      · rw [if_neg c5] at H
        have c5b0 : decide (a0 < 0) = false := decide_eq_false c5
        clear c5
        obtain ⟨ji6, hji6⟩ : ∃ j_ : Int, (wrap64 (8 * a1)) = j_ := ⟨_, rfl⟩
        replace H : (if 0 ≤ (ji6) then (if (shr .i64 a0 (ji6)) = 0 then ((wire_Bytes.f a0 a1).bind fun t158 => (some (t158, 0))) else (some ((⟨#[]⟩ : ByteArray), 101))) else (none)) = some (r1, r2) := by first | (rw [hji6] at H; exact H) | (simp only [hji6] at H ⊢; exact H)
        have hji6w : (IntKind.i64.wrap (8 * a1)) = ji6 := (i64_w _).trans hji6
        by_cases c7 : 0 ≤ (ji6)
        · rw [if_pos c7] at H
          have c7b0 := eq_true c7
          have c7b1 : decide (0 ≤ (ji6)) = true := decide_eq_true c7
          clear c7
          obtain ⟨ji8, hji8⟩ : ∃ j_ : Int, (shr .i64 a0 (ji6)) = j_ := ⟨_, rfl⟩
          replace H : (if (ji8) = 0 then ((wire_Bytes.f a0 a1).bind fun t158 => (some (t158, 0))) else (some ((⟨#[]⟩ : ByteArray), 101))) = some (r1, r2) := by first | (rw [hji8] at H; exact H) | (simp only [hji8] at H ⊢; exact H)
          have hji8_ : (a0 / 2 ^ min (ji6).toNat 64) = ji8 := hji8
          have hji8z : (ji6) ≤ 64 → (a0 / 2 ^ (ji6).toNat) = ji8 := shr_small hji8
          by_cases c9 : (ji8) = 0
          · rw [if_pos c9] at H
            have c9b0 : ((ji8) == 0) = true := beq_iff_eq.mpr c9
            have c9b1 : ((ji8) != 0) = false := bne_eq_false_iff_eq.mpr c9
            clear c9
            replace H := Option.bind_eq_some_iff.mp H
            obtain ⟨t158, A100, H⟩ := H
            replace H : (some (t158, 0)) = some (r1, r2) := H
            have A10 := Aside0.mk A100
            clear A100
            simp only [Option.some.injEq, Prod.mk.injEq] at H
            obtain ⟨rfl, rfl⟩ := H
            go_enter Try.func39, Try.ntmps39
            go_wp2_with (first | ((with_reducible refine gate_callee (f := 47) rfl ?_); refine goesL_ (some 25) rfl rfl Try.func47 (by kernel_rfl) rfl #[.int .i64 a0, .int .i64 a1] rfl (by (try simp only [List.map_toArray, List.map_cons, List.map_nil]); first | done | rfl | (simp only [List.length_drop, List.length_take]; rfl)) ?_; (with_reducible refine (wire_Bytes.calls a0 a1 t158 _ A10.out).mono ?_); rintro e w11 ⟨rfl, hb⟩; refine ⟨_, rfl, ?_⟩; have n0_ := Aside0.mk (below_step (by repeat (first | (with_reducible first | exact HB.out | apply below_alloc | apply pw_below_drewN | apply below_drew1) | exact HB.out)) hb); clear HB; have HB := n0_; clear n0_; (try clear hb); (try clear hb2); (try clear hk); (try clear hi)))
            go_ret2
            exact ⟨by first | rfl | (simp [errW_none, errW_some] <;> rfl) | (simp only [← hji6, ← hji8]; first | rfl | (simp [errW_none, errW_some] <;> rfl)) | (simp [*, errW_none, errW_some] <;> rfl), by repeat (first | (with_reducible first | exact HB.out | apply below_alloc | apply pw_below_drewN | apply below_drew1) | exact HB.out)⟩
          · rw [if_neg c9] at H
            have c9b0 : ((ji8) == 0) = false := beq_eq_false_iff_ne.mpr c9
            have c9b1 : ((ji8) != 0) = true := bne_iff_ne.mpr c9
            simp only [Option.some.injEq, Prod.mk.injEq] at H
            obtain ⟨rfl, rfl⟩ := H
            go_enter Try.func39, Try.ntmps39
            go_wp2
            go_ret2
            exact ⟨by first | rfl | (simp [errW_none, errW_some] <;> rfl) | (simp only [← hji6, ← hji8]; first | rfl | (simp [errW_none, errW_some] <;> rfl)) | (simp [*, errW_none, errW_some] <;> rfl), by repeat (first | (with_reducible first | exact HB.out | apply below_alloc | apply pw_below_drewN | apply below_drew1) | exact HB.out)⟩
        · rw [if_neg c7] at H
          exact absurd H (by simp)
end Go.Proofs.Ytlkebjkpmiehcaa.E
end
section
namespace Go.Proofs.Ytlkebjkpmiehcaa.E
open Go.RowKit Go.Proofs.YtlkebjkpmiehcaaW.PrintWords Go.Proofs.YtlkebjkpmiehcaaW.PrintLast Go.Proofs.YtlkebjkpmiehcaaW.PrintMore
attribute [local go_sem] max2_int min2_int max_two min_two max_three min_three max_four min_four   
set_option linter.unusedVariables false
set_option linter.unusedSimpArgs false
def wire_PutVec.f (a0 : ByteArray) (a1 : Int) : Option (ByteArray × Int) := if a1 < 1 then (some ((⟨#[]⟩ : ByteArray), 101)) else (if a1 > 3 then (some ((⟨#[]⟩ : ByteArray), 101)) else (if 0 ≤ (wrap64 (8 * a1)) then (if (shr .i64 (a0.size : Int) (wrap64 (8 * a1))) = 0 then ((wire_Bytes.f (a0.size : Int) a1).bind fun t159 => (if t159.size + a0.size ≤ 9223372036854775807 then (some ((t159 ++ a0), 0)) else (none))) else (some ((⟨#[]⟩ : ByteArray), 101))) else (none)))
set_option maxHeartbeats 8000000 in
set_option maxRecDepth 100000 in
theorem wire_PutVec.calls (a0 : ByteArray) (a1 : Int) (r1 : ByteArray) (r2 : Int) (w : World) (h : wire_PutVec.f a0 a1 = some (r1, r2)) :
    Calls Try.prog 40 #[.string a0, .int .i64 a1] w fun e w' => e = .returned (.tuple #[.string r1, .int .i64 r2]) ∧ Below w.heap.size w w' := by
  have HB := Aside0.mk (Below.refl w.heap.size w)
  have H : (if a1 < 1 then (some ((⟨#[]⟩ : ByteArray), 101)) else (if a1 > 3 then (some ((⟨#[]⟩ : ByteArray), 101)) else (if 0 ≤ (wrap64 (8 * a1)) then (if (shr .i64 (a0.size : Int) (wrap64 (8 * a1))) = 0 then ((wire_Bytes.f (a0.size : Int) a1).bind fun t159 => (if t159.size + a0.size ≤ 9223372036854775807 then (some ((t159 ++ a0), 0)) else (none))) else (some ((⟨#[]⟩ : ByteArray), 101))) else (none)))) = some (r1, r2) := h
  clear h
  by_cases c3 : a1 < 1
  · rw [if_pos c3] at H
    have c3b0 : decide (a1 < 1) = true := decide_eq_true c3
    clear c3
    simp only [Option.some.injEq, Prod.mk.injEq] at H
    obtain ⟨rfl, rfl⟩ := H
    go_enter Try.func40, Try.ntmps40
    go_wp2
    go_ret2
    exact ⟨by first | rfl | (simp [errW_none, errW_some] <;> rfl) | (simp [*, errW_none, errW_some] <;> rfl), by repeat (first | (with_reducible first | exact HB.out | apply below_alloc | apply pw_below_drewN | apply below_drew1) | exact HB.out)⟩
  · rw [if_neg c3] at H
    have c3b0 : decide (a1 < 1) = false := decide_eq_false c3
    clear c3
    by_cases c4 : a1 > 3
    · rw [if_pos c4] at H
      have c4b0 : decide (3 < a1) = true := decide_eq_true c4
      clear c4
      simp only [Option.some.injEq, Prod.mk.injEq] at H
      obtain ⟨rfl, rfl⟩ := H
      go_enter Try.func40, Try.ntmps40
      go_wp2
      go_ret2
      exact ⟨by first | rfl | (simp [errW_none, errW_some] <;> rfl) | (simp [*, errW_none, errW_some] <;> rfl), by repeat (first | (with_reducible first | exact HB.out | apply below_alloc | apply pw_below_drewN | apply below_drew1) | exact HB.out)⟩
    · rw [if_neg c4] at H
      have c4b0 : decide (3 < a1) = false := decide_eq_false c4
      clear c4
      obtain ⟨ji5, hji5⟩ : ∃ j_ : Int, (wrap64 (8 * a1)) = j_ := ⟨_, rfl⟩
      replace H : (if 0 ≤ (ji5) then (if (shr .i64 (a0.size : Int) (ji5)) = 0 then ((wire_Bytes.f (a0.size : Int) a1).bind fun t159 => (if t159.size + a0.size ≤ 9223372036854775807 then (some ((t159 ++ a0), 0)) else (none))) else (some ((⟨#[]⟩ : ByteArray), 101))) else (none)) = some (r1, r2) := by first | (rw [hji5] at H; exact H) | (simp only [hji5] at H ⊢; exact H)
      have hji5w : (IntKind.i64.wrap (8 * a1)) = ji5 := (i64_w _).trans hji5
      by_cases c6 : 0 ≤ (ji5)
      · rw [if_pos c6] at H
        have c6b0 := eq_true c6
        have c6b1 : decide (0 ≤ (ji5)) = true := decide_eq_true c6
        clear c6
        obtain ⟨ji7, hji7⟩ : ∃ j_ : Int, (shr .i64 (a0.size : Int) (ji5)) = j_ := ⟨_, rfl⟩
        replace H : (if (ji7) = 0 then ((wire_Bytes.f (a0.size : Int) a1).bind fun t159 => (if t159.size + a0.size ≤ 9223372036854775807 then (some ((t159 ++ a0), 0)) else (none))) else (some ((⟨#[]⟩ : ByteArray), 101))) = some (r1, r2) := by first | (rw [hji7] at H; exact H) | (simp only [hji7] at H ⊢; exact H)
        have hji7_ : ((a0.size : Int) / 2 ^ min (ji5).toNat 64) = ji7 := hji7
        have hji7z : (ji5) ≤ 64 → ((a0.size : Int) / 2 ^ (ji5).toNat) = ji7 := shr_small hji7
        by_cases c8 : (ji7) = 0
        · rw [if_pos c8] at H
          have c8b0 : ((ji7) == 0) = true := beq_iff_eq.mpr c8
          have c8b1 : ((ji7) != 0) = false := bne_eq_false_iff_eq.mpr c8
          clear c8
          replace H := Option.bind_eq_some_iff.mp H
          obtain ⟨t159, A90, H⟩ := H
          replace H : (if t159.size + a0.size ≤ 9223372036854775807 then (some ((t159 ++ a0), 0)) else (none)) = some (r1, r2) := H
          have A9 := Aside0.mk A90
          clear A90
          by_cases c10 : t159.size + a0.size ≤ 9223372036854775807
          · rw [if_pos c10] at H
            have c10b0 := eq_true c10
            have c10b1 : decide (t159.size + a0.size ≤ 9223372036854775807) = true := decide_eq_true c10
            try have c10b2 : (9223372036854775807 < t159.size + a0.size) = False := eq_false (Nat.not_lt.2 c10)
            obtain ⟨ys160, hys160⟩ : ∃ y_ : ByteArray, y_ = (t159 ++ a0) := ⟨_, rfl⟩
            replace H : (some (ys160, 0)) = some (r1, r2) := by first | (rw [hys160]; with_reducible exact H) | (have H2_ := (Option.bind_some _ _).symm.trans H; rw [hys160]; with_reducible exact H2_) | (have H2_ := (Option.bind_some _ _).symm.trans H; with_reducible exact H2_) | with_reducible exact H | (rw [hys160]; exact H) | exact H
            have Nys160 := Aside0.mk hys160
            clear hys160
            have Sys160 := Nys160.out.symm
            simp only [Option.some.injEq, Prod.mk.injEq] at H
            obtain ⟨rfl, rfl⟩ := H
            go_enter Try.func40, Try.ntmps40
            go_wp2_with (first | ((with_reducible refine gate_callee (f := 47) rfl ?_); refine goesL_ (some 23) rfl rfl Try.func47 (by kernel_rfl) rfl #[.int .i64 (a0.size : Int), .int .i64 a1] rfl (by (try simp only [List.map_toArray, List.map_cons, List.map_nil]); first | done | rfl | (simp only [List.length_drop, List.length_take]; rfl)) ?_; (with_reducible refine (wire_Bytes.calls (a0.size : Int) a1 t159 _ A9.out).mono ?_); rintro e w11 ⟨rfl, hb⟩; refine ⟨_, rfl, ?_⟩; have n0_ := Aside0.mk (below_step (by repeat (first | (with_reducible first | exact HB.out | apply below_alloc | apply pw_below_drewN | apply below_drew1) | exact HB.out)) hb); clear HB; have HB := n0_; clear n0_; (try clear hb); (try clear hb2); (try clear hk); (try clear hi)))
            go_ret2
            exact ⟨by first | rfl | (simp [errW_none, errW_some] <;> rfl) | (simp only [← hji5, ← hji7]; first | rfl | (simp [errW_none, errW_some] <;> rfl)) | (simp [*, errW_none, errW_some] <;> rfl), by repeat (first | (with_reducible first | exact HB.out | apply below_alloc | apply pw_below_drewN | apply below_drew1) | exact HB.out)⟩
          · rw [if_neg c10] at H
            exact absurd H (by simp)
        · rw [if_neg c8] at H
          have c8b0 : ((ji7) == 0) = false := beq_eq_false_iff_ne.mpr c8
          have c8b1 : ((ji7) != 0) = true := bne_iff_ne.mpr c8
          simp only [Option.some.injEq, Prod.mk.injEq] at H
          obtain ⟨rfl, rfl⟩ := H
          go_enter Try.func40, Try.ntmps40
          go_wp2
          go_ret2
          exact ⟨by first | rfl | (simp [errW_none, errW_some] <;> rfl) | (simp only [← hji5, ← hji7]; first | rfl | (simp [errW_none, errW_some] <;> rfl)) | (simp [*, errW_none, errW_some] <;> rfl), by repeat (first | (with_reducible first | exact HB.out | apply below_alloc | apply pw_below_drewN | apply below_drew1) | exact HB.out)⟩
      · rw [if_neg c6] at H
        exact absurd H (by simp)
def ext_Put.l0 : Nat → ByteArray → List Int → Bool → List (S41) → Int → Int → Option (ByteArray × Int)
  | 0, _, _, _, _, _, _ => none
  | k + 1, x4, x5, x6, x14, x15, x16 => if x16 < x15 then (if 0 ≤ x16 then (if x16 < (x14.length : Int) then ((wire_Put.f ((rd_T41 x14 x16).f0) 2).bind fun bt166 => ((wire_PutVec.f ((rd_T41 x14 x16).f1) 2).bind fun bt168 => (if bt166.2 = 0 then (if bt168.2 = 0 then (if x6 = true then (if (Lit.int .i64 ((rd_T41 x14 x16).f0)).wf = true then (if x5.length < 140737488355328 then (if bt166.1.size + bt168.1.size ≤ 9223372036854775807 then ((some (bt166.1 ++ bt168.1 : ByteArray)).bind fun ys173 => (if x4.size + ys173.size ≤ 9223372036854775807 then (ext_Put.l0 k (x4 ++ ys173) (x5 ++ [(rd_T41 x14 x16).f0]) true x14 x15 (wrap64 (x16 + 1))) else (none))) else (none)) else (none)) else (none)) else (if (Lit.int .i64 ((rd_T41 x14 x16).f0)).wf = true then (if x5.length < 140737488355328 then (if bt166.1.size + bt168.1.size ≤ 9223372036854775807 then ((some (bt166.1 ++ bt168.1 : ByteArray)).bind fun ys178 => (if x4.size + ys178.size ≤ 9223372036854775807 then (ext_Put.l0 k (x4 ++ ys178) (x5 ++ [(rd_T41 x14 x16).f0]) (decide (((rd_T41 x14 x16).f0) ∈ x5)) x14 x15 (wrap64 (x16 + 1))) else (none))) else (none)) else (none)) else (none))) else (some ((⟨#[]⟩ : ByteArray), 1600))) else (some ((⟨#[]⟩ : ByteArray), 1600))))) else (none)) else (none)) else (if x6 = true then (some ((⟨#[]⟩ : ByteArray), 1601)) else (some (x4, 0)))
def ext_Put.f (k : Nat) (l0 : List (S41)) : Option (ByteArray × Int) := ext_Put.l0 k (⟨#[]⟩ : ByteArray) (([] : List Int)) false l0 (l0.length : Int) 0
theorem ext_Put.mono_l : ∀ k, (∀ y0 y1 y2 y3 y4 y5, LeO (ext_Put.l0 k y0 y1 y2 y3 y4 y5) (ext_Put.l0 (k + 1) y0 y1 y2 y3 y4 y5))
  | 0 => fun _ _ _ _ _ _ r h => by simp [ext_Put.l0] at h
  | k + 1 => by
    have ih0 := ext_Put.mono_l k
    · intro y0 y1 y2 y3 y4 y5
      unfold ext_Put.l0
      repeat' first
      | (with_reducible exact ih0 _ _ _ _ _ _)
      | (with_reducible exact LeO.refl _)
      | (with_reducible exact LeO.none _)
      | (with_reducible refine LeO.ite ?_ ?_)
      | (with_reducible refine LeO.bind ?_ (fun _ => ?_))
      | exact ih0 _ _ _ _ _ _
      | exact LeO.none _
      | refine LeO.ite ?_ ?_
      | refine LeO.bind ?_ (fun _ => ?_)
theorem ext_Put.mono : ∀ a0 k, LeO (ext_Put.f k a0) (ext_Put.f (k + 1) a0) := by
  intro a0 k
  have ih0 := ext_Put.mono_l k
  unfold ext_Put.f
  repeat' first
      | (with_reducible exact ih0 _ _ _ _ _ _)
      | (with_reducible exact LeO.refl _)
      | (with_reducible exact LeO.none _)
      | (with_reducible refine LeO.ite ?_ ?_)
      | (with_reducible refine LeO.bind ?_ (fun _ => ?_))
      | exact ih0 _ _ _ _ _ _
      | exact LeO.none _
      | refine LeO.ite ?_ ?_
      | refine LeO.bind ?_ (fun _ => ?_)
set_option maxHeartbeats 8000000 in
set_option maxRecDepth 100000 in
theorem ext_Put.calls (k : Nat) (A0 : Option Addr) (c0 : Nat) (l0 : List (S41)) (r1 : ByteArray) (r2 : Int) (w : World) (hr0 : Kd.C k41 w A0 l0.length l0) (hc0 : l0.length ≤ c0) (h : ext_Put.f k l0 = some (r1, r2)) :
    Calls Try.prog 15 #[.slice A0 l0.length c0] w fun e w' => e = .returned (.tuple #[.string r1, .int .i64 r2]) ∧ Below w.heap.size w w' := by
  have hu41 := Try.underlying41
  have HR0 := Aside0.mk hr0
  have HC0 := Aside0.mk hc0
  clear hr0 hc0
  have HB := Aside0.mk (Below.refl w.heap.size w)
  have H : (ext_Put.l0 k (⟨#[]⟩ : ByteArray) (([] : List Int)) false l0 (l0.length : Int) 0) = some (r1, r2) := h
  clear h
  obtain ⟨y161, hy161⟩ : ∃ y_ : List Int, y_ = (([] : List Int)) := ⟨_, rfl⟩
  replace H : (ext_Put.l0 k (⟨#[]⟩ : ByteArray) y161 false l0 (l0.length : Int) 0) = some (r1, r2) := by first | (rw [hy161]; with_reducible exact H) | (have H2_ := (Option.bind_some _ _).symm.trans H; rw [hy161]; with_reducible exact H2_) | (have H2_ := (Option.bind_some _ _).symm.trans H; with_reducible exact H2_) | with_reducible exact H | (rw [hy161]; exact H) | exact H
  have Ny161 := Aside0.mk hy161
  clear hy161
  have H' := Aside0.mk H
  clear H
  go_enter Try.func15, Try.ntmps15
  go_wp2_with (first | ((with_reducible refine gate_dst (N := 13) rfl ?_); refine Kd.Y_make (Kd.int .i64) 3 rfl (N := 13) rfl 68 rfl (ok := fun _ => True) trivial ?_; intro v162 w2 ho3 hb; rw [← Ny161.out] at ho3; have n0_ := Aside0.mk (Kd.Y_lower ho3 (below_size (by repeat (first | (with_reducible first | exact HB.out | apply below_alloc | apply pw_below_drewN | apply below_drew1) | exact HB.out)))); have n1_ := Aside0.mk (below_step (by repeat (first | (with_reducible first | exact HB.out | apply below_alloc | apply pw_below_drewN | apply below_drew1) | exact HB.out)) hb); clear HB; have HO163 := n0_; have HB := n1_; clear n0_ n1_; clear hb ho3))
  go_loopg [4, 6, 16] k (fun kq v4 v6 v16 w' => ∃ (x4_1 : ByteArray) (x5_1 : List Int) (x6_1 : Bool) (x16_1 : Int), v4 = .string x4_1 ∧ v6 = .bool x6_1 ∧ v16 = .int .i64 x16_1 ∧ Aside0 (ext_Put.l0 kq x4_1 x5_1 x6_1 l0 (l0.length : Int) x16_1 = some (r1, r2)) ∧ Aside0 (kq ≤ k) ∧ Aside0 (Kd.Y (Kd.int .i64) 3 w' w.heap.size (fun _ => True) v162 x5_1) ∧ Aside0 (Below w.heap.size w w'))
  case atStart => exact ⟨((⟨#[]⟩ : ByteArray)), (y161), (false), (0), (by first | rfl | (simp; done) | (simp [*]; done)), (by first | rfl | (simp; done) | (simp [*]; done)), (by first | rfl | (simp; done) | (simp [*]; done)), H', ⟨Nat.le_refl _⟩, ⟨by (with_reducible repeat (first | apply Kd.Y_alloc | apply Kd.Y_drewN | apply Kd.Y_drew)); exact HO163.out⟩, ⟨by repeat (first | (with_reducible first | exact HB.out | apply below_alloc | apply pw_below_drewN | apply below_drew1) | exact HB.out)⟩⟩
  case round =>
    clear H'
    try clear c1
    try clear p2
    obtain ⟨x4_1, x5_1, x6_1, x16_1, rfl, rfl, rfl, HA, HK1, HO_5, HB⟩ := hrel
    cases gk with
    | zero => exact absurd HA.out (by simp [ext_Put.l0])
    | succ k1 =>
      have H := HA.out
      clear HA
      simp only [ext_Put.l0] at H
      by_cases c4 : x16_1 < (l0.length : Int)
      · rw [if_pos c4] at H
        have c4b0 : decide (x16_1 < (l0.length : Int)) = true := decide_eq_true c4
        clear c4
        by_cases c5 : 0 ≤ x16_1
        · rw [if_pos c5] at H
          have c5b0 : decide (0 ≤ x16_1) = true := decide_eq_true c5
          clear c5
          by_cases c6 : x16_1 < (l0.length : Int)
          · rw [if_pos c6] at H
            have c6b0 : decide (x16_1 < (l0.length : Int)) = true := decide_eq_true c6
            clear c6
            replace H := Option.bind_eq_some_iff.mp H
            obtain ⟨⟨t166, t167⟩, A70, H⟩ := H
            replace H : ((wire_PutVec.f ((rd_T41 l0 x16_1).f1) 2).bind fun bt168 => (if t167 = 0 then (if bt168.2 = 0 then (if x6_1 = true then (if (Lit.int .i64 ((rd_T41 l0 x16_1).f0)).wf = true then (if x5_1.length < 140737488355328 then (if t166.size + bt168.1.size ≤ 9223372036854775807 then ((some (t166 ++ bt168.1 : ByteArray)).bind fun ys173 => (if x4_1.size + ys173.size ≤ 9223372036854775807 then (ext_Put.l0 k1 (x4_1 ++ ys173) (x5_1 ++ [(rd_T41 l0 x16_1).f0]) true l0 (l0.length : Int) (wrap64 (x16_1 + 1))) else (none))) else (none)) else (none)) else (none)) else (if (Lit.int .i64 ((rd_T41 l0 x16_1).f0)).wf = true then (if x5_1.length < 140737488355328 then (if t166.size + bt168.1.size ≤ 9223372036854775807 then ((some (t166 ++ bt168.1 : ByteArray)).bind fun ys178 => (if x4_1.size + ys178.size ≤ 9223372036854775807 then (ext_Put.l0 k1 (x4_1 ++ ys178) (x5_1 ++ [(rd_T41 l0 x16_1).f0]) (decide (((rd_T41 l0 x16_1).f0) ∈ x5_1)) l0 (l0.length : Int) (wrap64 (x16_1 + 1))) else (none))) else (none)) else (none)) else (none))) else (some ((⟨#[]⟩ : ByteArray), 1600))) else (some ((⟨#[]⟩ : ByteArray), 1600)))) = some (r1, r2) := H
            have A7 := Aside0.mk A70
            clear A70
            replace H := Option.bind_eq_some_iff.mp H
            obtain ⟨⟨t168, t169⟩, A80, H⟩ := H
            replace H : (if t167 = 0 then (if t169 = 0 then (if x6_1 = true then (if (Lit.int .i64 ((rd_T41 l0 x16_1).f0)).wf = true then (if x5_1.length < 140737488355328 then (if t166.size + t168.size ≤ 9223372036854775807 then ((some (t166 ++ t168 : ByteArray)).bind fun ys173 => (if x4_1.size + ys173.size ≤ 9223372036854775807 then (ext_Put.l0 k1 (x4_1 ++ ys173) (x5_1 ++ [(rd_T41 l0 x16_1).f0]) true l0 (l0.length : Int) (wrap64 (x16_1 + 1))) else (none))) else (none)) else (none)) else (none)) else (if (Lit.int .i64 ((rd_T41 l0 x16_1).f0)).wf = true then (if x5_1.length < 140737488355328 then (if t166.size + t168.size ≤ 9223372036854775807 then ((some (t166 ++ t168 : ByteArray)).bind fun ys178 => (if x4_1.size + ys178.size ≤ 9223372036854775807 then (ext_Put.l0 k1 (x4_1 ++ ys178) (x5_1 ++ [(rd_T41 l0 x16_1).f0]) (decide (((rd_T41 l0 x16_1).f0) ∈ x5_1)) l0 (l0.length : Int) (wrap64 (x16_1 + 1))) else (none))) else (none)) else (none)) else (none))) else (some ((⟨#[]⟩ : ByteArray), 1600))) else (some ((⟨#[]⟩ : ByteArray), 1600))) = some (r1, r2) := H
            have A8 := Aside0.mk A80
            clear A80
            by_cases c9 : t167 = 0
            · rw [if_pos c9] at H
              have c9b0 : (t167 == 0) = true := beq_iff_eq.mpr c9
              have c9b1 : (t167 != 0) = false := bne_eq_false_iff_eq.mpr c9
              clear c9
              by_cases c10 : t169 = 0
              · rw [if_pos c10] at H
                have c10b0 : (t169 == 0) = true := beq_iff_eq.mpr c10
                have c10b1 : (t169 != 0) = false := bne_eq_false_iff_eq.mpr c10
                clear c10
                by_cases c11 : x6_1 = true
                · subst c11
                  have H1 : (if (Lit.int .i64 ((rd_T41 l0 x16_1).f0)).wf = true then (if x5_1.length < 140737488355328 then (if t166.size + t168.size ≤ 9223372036854775807 then ((some (t166 ++ t168 : ByteArray)).bind fun ys173 => (if x4_1.size + ys173.size ≤ 9223372036854775807 then (ext_Put.l0 k1 (x4_1 ++ ys173) (x5_1 ++ [(rd_T41 l0 x16_1).f0]) true l0 (l0.length : Int) (wrap64 (x16_1 + 1))) else (none))) else (none)) else (none)) else (none)) = some (r1, r2) := by rw [if_pos rfl] at H; exact H
                  clear H
                  have H := H1
                  clear H1
                  by_cases c12 : (Lit.int .i64 ((rd_T41 l0 x16_1).f0)).wf = true
                  · rw [if_pos c12] at H
                    have LMc12 := Aside0.mk c12
                    clear c12
                    by_cases c13 : x5_1.length < 140737488355328
                    · rw [if_pos c13] at H
                      have LMc13 := Aside0.mk c13
                      clear c13
                      obtain ⟨y170, hy170⟩ : ∃ y_ : List Int, y_ = (x5_1 ++ [(rd_T41 l0 x16_1).f0]) := ⟨_, rfl⟩
                      replace H : (if t166.size + t168.size ≤ 9223372036854775807 then ((some (t166 ++ t168 : ByteArray)).bind fun ys173 => (if x4_1.size + ys173.size ≤ 9223372036854775807 then (ext_Put.l0 k1 (x4_1 ++ ys173) y170 true l0 (l0.length : Int) (wrap64 (x16_1 + 1))) else (none))) else (none)) = some (r1, r2) := by first | (rw [hy170]; with_reducible exact H) | (have H2_ := (Option.bind_some _ _).symm.trans H; rw [hy170]; with_reducible exact H2_) | (have H2_ := (Option.bind_some _ _).symm.trans H; with_reducible exact H2_) | with_reducible exact H | (rw [hy170]; exact H) | exact H
                      have Ny170 := Aside0.mk hy170
                      clear hy170
                      by_cases c14 : t166.size + t168.size ≤ 9223372036854775807
                      · rw [if_pos c14] at H
                        have c14b0 := eq_true c14
                        have c14b1 : decide (t166.size + t168.size ≤ 9223372036854775807) = true := decide_eq_true c14
                        try have c14b2 : (9223372036854775807 < t166.size + t168.size) = False := eq_false (Nat.not_lt.2 c14)
                        obtain ⟨ys173, hys173⟩ : ∃ y_ : ByteArray, y_ = (t166 ++ t168) := ⟨_, rfl⟩
                        replace H : (if x4_1.size + ys173.size ≤ 9223372036854775807 then (ext_Put.l0 k1 (x4_1 ++ ys173) y170 true l0 (l0.length : Int) (wrap64 (x16_1 + 1))) else (none)) = some (r1, r2) := by first | (rw [hys173]; with_reducible exact H) | (have H2_ := (Option.bind_some _ _).symm.trans H; rw [hys173]; with_reducible exact H2_) | (have H2_ := (Option.bind_some _ _).symm.trans H; with_reducible exact H2_) | with_reducible exact H | (rw [hys173]; exact H) | exact H
                        have Nys173 := Aside0.mk hys173
                        clear hys173
                        have Sys173 := Nys173.out.symm
                        by_cases c15 : x4_1.size + ys173.size ≤ 9223372036854775807
                        · rw [if_pos c15] at H
                          have c15b0 := eq_true c15
                          have c15b1 : decide (x4_1.size + ys173.size ≤ 9223372036854775807) = true := decide_eq_true c15
                          try have c15b2 : (9223372036854775807 < x4_1.size + ys173.size) = False := eq_false (Nat.not_lt.2 c15)
                          obtain ⟨ys174, hys174⟩ : ∃ y_ : ByteArray, y_ = (x4_1 ++ ys173) := ⟨_, rfl⟩
                          replace H : (ext_Put.l0 k1 ys174 y170 true l0 (l0.length : Int) (wrap64 (x16_1 + 1))) = some (r1, r2) := by first | (rw [hys174]; with_reducible exact H) | (have H2_ := (Option.bind_some _ _).symm.trans H; rw [hys174]; with_reducible exact H2_) | (have H2_ := (Option.bind_some _ _).symm.trans H; with_reducible exact H2_) | with_reducible exact H | (rw [hys174]; exact H) | exact H
                          have Nys174 := Aside0.mk hys174
                          clear hys174
                          have Sys174 := Nys174.out.symm
                          have H' := Aside0.mk H
                          clear H
                          have p164 : 0 ≤ (x16_1 : Int) := of_decide_eq_true (by first | (with_reducible assumption) | assumption)
                          have q164 : x16_1 < (l0.length : Int) := of_decide_eq_true (by first | (with_reducible assumption) | assumption)
                          obtain ⟨ad164, e164, hx164_0, hx164_1⟩ := at_T41 HR0.out x16_1 p164 q164
                          cases e164
                          replace hx164_0 := (HB.out.cell (World.block_lt_of_cell? w _ hx164_0)).trans hx164_0
                          replace hx164_1 := (HB.out.cell (World.block_lt_of_cell? w _ hx164_1)).trans hx164_1
                          replace p164 := eq_true p164
                          replace q164 := eq_true q164
                          go_wp2_with (first | ((with_reducible refine gate_dst (N := 8) rfl ?_); refine box_event ?hg (N := 8) ?hd (cs := #[.int .i64 0, .string (⟨#[]⟩ : ByteArray)]) (t := 41) ?hr ?_; (case hd => rfl); (case hg => rfl); (case hr => first | (go_simp; done) | (go_simp; rfl)); intro gb165 hg w16 hbox hb; have n0_ := Aside0.mk (Kd.Y_below (by (with_reducible repeat (first | apply Kd.Y_alloc | apply Kd.Y_drewN | apply Kd.Y_drew)); exact HO_5.out) hb); have n1_ := Aside0.mk (below_step (by repeat (first | (with_reducible first | exact HB.out | apply below_alloc | apply pw_below_drewN | apply below_drew1) | exact HB.out)) hb); have n2_ := Aside0.mk (hbox); have n3_ := Aside0.mk ((by rw [hg]; exact (below_size (by repeat (first | (with_reducible first | exact HB.out | apply below_alloc | apply pw_below_drewN | apply below_drew1) | exact HB.out))) : w.heap.size ≤ gb165)); have n4_ := Aside0.mk ((by rw [hg]; exact (below_size (by repeat (first | (with_reducible first | exact HB.out | apply below_alloc | apply pw_below_drewN | apply below_drew1) | exact HB.out))) : w.heap.size ≤ gb165)); clear HO_5; clear HB; have HO_5 := n0_; have HB := n1_; have BK165 := n2_; have GW165 := n3_; have GE165 := n4_; clear n0_ n1_ n2_ n3_ n4_; clear hb hbox hg; have hcz17_0 : w16.cell? ⟨gb165, 0, none⟩ = some (.int .i64 0) := (blk_cell BK165.out 0).trans rfl; have hcz17_1 : w16.cell? ⟨gb165, 1, none⟩ = some (.string (⟨#[]⟩ : ByteArray)) := (blk_cell BK165.out 1).trans rfl; have hfz17_0 := blk_frozen BK165.out 0; have hfz17_1 := blk_frozen BK165.out 1) | ((with_reducible refine gate_callee (f := 39) rfl ?_); refine goesL_ (some 23) rfl rfl Try.func39 (by kernel_rfl) rfl #[.int .i64 ((rd_T41 l0 x16_1).f0), .int .i64 2] rfl (by (try simp only [List.map_toArray, List.map_cons, List.map_nil]); first | done | rfl | (simp only [List.length_drop, List.length_take]; rfl)) ?_; (with_reducible refine (wire_Put.calls ((rd_T41 l0 x16_1).f0) 2 t166 t167 _ A7.out).mono ?_); rintro e w18 ⟨rfl, hb⟩; refine ⟨_, rfl, ?_⟩; have n0_ := Aside0.mk (Kd.Y_below (by (with_reducible repeat (first | apply Kd.Y_alloc | apply Kd.Y_drewN | apply Kd.Y_drew)); exact (Kd.Y_mono (Kd.Y_far (p := ⟨gb165, 1, none⟩) (Kd.Y_far (p := ⟨gb165, 0, none⟩) (Kd.Y_types HO_5.out BK165.out (by decide)) (fun _ hk => hk.2) (.int .i64 ((rd_T41 l0 x16_1).f0))) (fun _ hk => hk.2) (.string ((rd_T41 l0 x16_1).f1))) (fun _ h_ => h_.1))) hb); have n1_ := Aside0.mk (blk_below (g := gb165) (o := .cells #[.int .i64 ((rd_T41 l0 x16_1).f0), .string ((rd_T41 l0 x16_1).f1)] 41 (0, 0)) (by (with_reducible repeat (first | refine blk_drewN ?_ _ | refine blk_drew ?_ | refine blk_alloc ?_ _)); refine blk_put (cs := #[.int .i64 ((rd_T41 l0 x16_1).f0), .string (⟨#[]⟩ : ByteArray)]) ?_ 1 _ rfl; (with_reducible repeat (first | refine blk_drewN ?_ _ | refine blk_drew ?_ | refine blk_alloc ?_ _)); refine blk_put (cs := #[.int .i64 0, .string (⟨#[]⟩ : ByteArray)]) ?_ 0 _ rfl; (with_reducible repeat (first | refine blk_drewN ?_ _ | refine blk_drew ?_ | refine blk_alloc ?_ _)); exact BK165.out) hb); have n2_ := Aside0.mk (below_step (by repeat (first | (with_reducible first | exact HB.out | apply below_alloc | apply pw_below_drewN | apply below_drew1 | refine below_set ?_ GE165.out) | exact HB.out)) hb); clear HO_5; clear BK165; clear HB; have HO_5 := n0_; have BK165 := n1_; have HB := n2_; clear n0_ n1_ n2_; (try clear hb); (try clear hb2); (try clear hk); (try clear hi); have hcz19_0 : w18.cell? ⟨gb165, 0, none⟩ = some (.int .i64 ((rd_T41 l0 x16_1).f0)) := (blk_cell BK165.out 0).trans rfl; have hcz19_1 : w18.cell? ⟨gb165, 1, none⟩ = some (.string ((rd_T41 l0 x16_1).f1)) := (blk_cell BK165.out 1).trans rfl; have hfz19_0 := blk_frozen BK165.out 0; have hfz19_1 := blk_frozen BK165.out 1) | ((with_reducible refine gate_callee (f := 40) rfl ?_); refine goesL_ (some 29) rfl rfl Try.func40 (by kernel_rfl) rfl #[.string ((rd_T41 l0 x16_1).f1), .int .i64 2] rfl (by (try simp only [List.map_toArray, List.map_cons, List.map_nil]); first | done | rfl | (simp only [List.length_drop, List.length_take]; rfl)) ?_; (with_reducible refine (wire_PutVec.calls ((rd_T41 l0 x16_1).f1) 2 t168 t169 _ A8.out).mono ?_); rintro e w20 ⟨rfl, hb⟩; refine ⟨_, rfl, ?_⟩; have n0_ := Aside0.mk (Kd.Y_below (by (with_reducible repeat (first | apply Kd.Y_alloc | apply Kd.Y_drewN | apply Kd.Y_drew)); exact HO_5.out) hb); have n1_ := Aside0.mk (blk_below (g := gb165) (o := .cells #[.int .i64 ((rd_T41 l0 x16_1).f0), .string ((rd_T41 l0 x16_1).f1)] 41 (0, 0)) (by (with_reducible repeat (first | refine blk_drewN ?_ _ | refine blk_drew ?_ | refine blk_alloc ?_ _)); exact BK165.out) hb); have n2_ := Aside0.mk (below_step (by repeat (first | (with_reducible first | exact HB.out | apply below_alloc | apply pw_below_drewN | apply below_drew1 | refine below_set ?_ GE165.out) | exact HB.out)) hb); clear HO_5; clear BK165; clear HB; have HO_5 := n0_; have BK165 := n1_; have HB := n2_; clear n0_ n1_ n2_; (try clear hb); (try clear hb2); (try clear hk); (try clear hi); have hcz21_0 : w20.cell? ⟨gb165, 0, none⟩ = some (.int .i64 ((rd_T41 l0 x16_1).f0)) := (blk_cell BK165.out 0).trans rfl; have hcz21_1 : w20.cell? ⟨gb165, 1, none⟩ = some (.string ((rd_T41 l0 x16_1).f1)) := (blk_cell BK165.out 1).trans rfl; have hfz21_0 := blk_frozen BK165.out 0; have hfz21_1 := blk_frozen BK165.out 1) | (at_mapUpdate; refine Kd.Y_put (Kd.int .i64) (w0 := w) w.heap.size 3 rfl 68 _ _ _ rfl Try.underlying68 Try.underlying3 Try.underlying4 v162 x5_1 ((rd_T41 l0 x16_1).f0) (ok := fun _ => True) rfl rfl rfl LMc12.out (by have := LMc13.out; simp only [maxLen]; omega) ?aO ?aB ?aS ?_; (case aO => exact (by (with_reducible repeat (first | apply Kd.Y_alloc | apply Kd.Y_drewN | apply Kd.Y_drew)); exact HO_5.out)); (case aB => exact (by repeat (first | (with_reducible first | exact HB.out | apply below_alloc | apply pw_below_drewN | apply below_drew1 | refine below_set ?_ GE165.out) | exact HB.out))); (case aS => exact (below_size (by repeat (first | (with_reducible first | exact HB.out | apply below_alloc | apply pw_below_drewN | apply below_drew1 | refine below_set ?_ GE165.out) | exact HB.out)))); intro w22 ho hb hmt; rw [← Ny170.out] at ho; have n0_ := Aside0.mk (blk_map (g := gb165) (o := .cells #[.int .i64 ((rd_T41 l0 x16_1).f0), .string ((rd_T41 l0 x16_1).f1)] 41 (0, 0)) (by (with_reducible repeat (first | refine blk_drewN ?_ _ | refine blk_drew ?_ | refine blk_alloc ?_ _)); exact BK165.out) hmt); have n1_ := Aside0.mk (hb); have n2_ := Aside0.mk (ho); clear BK165; clear HB; clear HO_5; have BK165 := n0_; have HB := n1_; have HO172 := n2_; clear n0_ n1_ n2_; clear ho hb hmt))
                          go_roundg k1
                          case measure => have := HK1.out; omega
                          case rel => exact ⟨(ys174), (y170), (true), (wrap64 (x16_1 + 1)), (by first | rfl | (simp; done) | (simp [*]; done)), (by first | rfl | (simp; done) | (simp [*]; done)), (by first | rfl | (simp; done) | (simp [*]; done)), H', ⟨by have := HK1.out; omega⟩, ⟨by (with_reducible repeat (first | apply Kd.Y_alloc | apply Kd.Y_drewN | apply Kd.Y_drew)); exact HO172.out⟩, ⟨by repeat (first | (with_reducible first | exact HB.out | apply below_alloc | apply pw_below_drewN | apply below_drew1 | refine below_set ?_ GE165.out) | exact HB.out)⟩⟩
                        · rw [if_neg c15] at H
                          exact absurd H (by simp)
                      · rw [if_neg c14] at H
                        exact absurd H (by simp)
                    · rw [if_neg c13] at H
                      exact absurd H (by simp)
                  · rw [if_neg c12] at H
                    exact absurd H (by simp)
                · replace c11 := Bool.eq_false_iff.mpr c11
                  subst c11
                  have H1 : (if (Lit.int .i64 ((rd_T41 l0 x16_1).f0)).wf = true then (if x5_1.length < 140737488355328 then (if t166.size + t168.size ≤ 9223372036854775807 then ((some (t166 ++ t168 : ByteArray)).bind fun ys178 => (if x4_1.size + ys178.size ≤ 9223372036854775807 then (ext_Put.l0 k1 (x4_1 ++ ys178) (x5_1 ++ [(rd_T41 l0 x16_1).f0]) (decide (((rd_T41 l0 x16_1).f0) ∈ x5_1)) l0 (l0.length : Int) (wrap64 (x16_1 + 1))) else (none))) else (none)) else (none)) else (none)) = some (r1, r2) := by rw [if_neg (show ¬ (false = true) by decide)] at H; exact H
                  clear H
                  have H := H1
                  clear H1
                  by_cases c23 : (Lit.int .i64 ((rd_T41 l0 x16_1).f0)).wf = true
                  · rw [if_pos c23] at H
                    have LMc23 := Aside0.mk c23
                    clear c23
                    by_cases c24 : x5_1.length < 140737488355328
                    · rw [if_pos c24] at H
                      have LMc24 := Aside0.mk c24
                      clear c24
                      obtain ⟨y175, hy175⟩ : ∃ y_ : List Int, y_ = (x5_1 ++ [(rd_T41 l0 x16_1).f0]) := ⟨_, rfl⟩
                      replace H : (if t166.size + t168.size ≤ 9223372036854775807 then ((some (t166 ++ t168 : ByteArray)).bind fun ys178 => (if x4_1.size + ys178.size ≤ 9223372036854775807 then (ext_Put.l0 k1 (x4_1 ++ ys178) y175 (decide (((rd_T41 l0 x16_1).f0) ∈ x5_1)) l0 (l0.length : Int) (wrap64 (x16_1 + 1))) else (none))) else (none)) = some (r1, r2) := by first | (rw [hy175]; with_reducible exact H) | (have H2_ := (Option.bind_some _ _).symm.trans H; rw [hy175]; with_reducible exact H2_) | (have H2_ := (Option.bind_some _ _).symm.trans H; with_reducible exact H2_) | with_reducible exact H | (rw [hy175]; exact H) | exact H
                      have Ny175 := Aside0.mk hy175
                      clear hy175
                      by_cases c25 : t166.size + t168.size ≤ 9223372036854775807
                      · rw [if_pos c25] at H
                        have c25b0 := eq_true c25
                        have c25b1 : decide (t166.size + t168.size ≤ 9223372036854775807) = true := decide_eq_true c25
                        try have c25b2 : (9223372036854775807 < t166.size + t168.size) = False := eq_false (Nat.not_lt.2 c25)
                        obtain ⟨ys178, hys178⟩ : ∃ y_ : ByteArray, y_ = (t166 ++ t168) := ⟨_, rfl⟩
                        replace H : (if x4_1.size + ys178.size ≤ 9223372036854775807 then (ext_Put.l0 k1 (x4_1 ++ ys178) y175 (decide (((rd_T41 l0 x16_1).f0) ∈ x5_1)) l0 (l0.length : Int) (wrap64 (x16_1 + 1))) else (none)) = some (r1, r2) := by first | (rw [hys178]; with_reducible exact H) | (have H2_ := (Option.bind_some _ _).symm.trans H; rw [hys178]; with_reducible exact H2_) | (have H2_ := (Option.bind_some _ _).symm.trans H; with_reducible exact H2_) | with_reducible exact H | (rw [hys178]; exact H) | exact H
                        have Nys178 := Aside0.mk hys178
                        clear hys178
                        have Sys178 := Nys178.out.symm
                        by_cases c26 : x4_1.size + ys178.size ≤ 9223372036854775807
                        · rw [if_pos c26] at H
                          have c26b0 := eq_true c26
                          have c26b1 : decide (x4_1.size + ys178.size ≤ 9223372036854775807) = true := decide_eq_true c26
                          try have c26b2 : (9223372036854775807 < x4_1.size + ys178.size) = False := eq_false (Nat.not_lt.2 c26)
                          obtain ⟨ys179, hys179⟩ : ∃ y_ : ByteArray, y_ = (x4_1 ++ ys178) := ⟨_, rfl⟩
                          replace H : (ext_Put.l0 k1 ys179 y175 (decide (((rd_T41 l0 x16_1).f0) ∈ x5_1)) l0 (l0.length : Int) (wrap64 (x16_1 + 1))) = some (r1, r2) := by first | (rw [hys179]; with_reducible exact H) | (have H2_ := (Option.bind_some _ _).symm.trans H; rw [hys179]; with_reducible exact H2_) | (have H2_ := (Option.bind_some _ _).symm.trans H; with_reducible exact H2_) | with_reducible exact H | (rw [hys179]; exact H) | exact H
                          have Nys179 := Aside0.mk hys179
                          clear hys179
                          have Sys179 := Nys179.out.symm
                          have H' := Aside0.mk H
                          clear H
                          have p164 : 0 ≤ (x16_1 : Int) := of_decide_eq_true (by first | (with_reducible assumption) | assumption)
                          have q164 : x16_1 < (l0.length : Int) := of_decide_eq_true (by first | (with_reducible assumption) | assumption)
                          obtain ⟨ad164, e164, hx164_0, hx164_1⟩ := at_T41 HR0.out x16_1 p164 q164
                          cases e164
                          replace hx164_0 := (HB.out.cell (World.block_lt_of_cell? w _ hx164_0)).trans hx164_0
                          replace hx164_1 := (HB.out.cell (World.block_lt_of_cell? w _ hx164_1)).trans hx164_1
                          replace p164 := eq_true p164
                          replace q164 := eq_true q164
                          go_wp2_with (first | ((with_reducible refine gate_dst (N := 8) rfl ?_); refine box_event ?hg (N := 8) ?hd (cs := #[.int .i64 0, .string (⟨#[]⟩ : ByteArray)]) (t := 41) ?hr ?_; (case hd => rfl); (case hg => rfl); (case hr => first | (go_simp; done) | (go_simp; rfl)); intro gb165 hg w27 hbox hb; have n0_ := Aside0.mk (Kd.Y_below (by (with_reducible repeat (first | apply Kd.Y_alloc | apply Kd.Y_drewN | apply Kd.Y_drew)); exact HO_5.out) hb); have n1_ := Aside0.mk (below_step (by repeat (first | (with_reducible first | exact HB.out | apply below_alloc | apply pw_below_drewN | apply below_drew1) | exact HB.out)) hb); have n2_ := Aside0.mk (hbox); have n3_ := Aside0.mk ((by rw [hg]; exact (below_size (by repeat (first | (with_reducible first | exact HB.out | apply below_alloc | apply pw_below_drewN | apply below_drew1) | exact HB.out))) : w.heap.size ≤ gb165)); have n4_ := Aside0.mk ((by rw [hg]; exact (below_size (by repeat (first | (with_reducible first | exact HB.out | apply below_alloc | apply pw_below_drewN | apply below_drew1) | exact HB.out))) : w.heap.size ≤ gb165)); clear HO_5; clear HB; have HO_5 := n0_; have HB := n1_; have BK165 := n2_; have GW165 := n3_; have GE165 := n4_; clear n0_ n1_ n2_ n3_ n4_; clear hb hbox hg; have hcz28_0 : w27.cell? ⟨gb165, 0, none⟩ = some (.int .i64 0) := (blk_cell BK165.out 0).trans rfl; have hcz28_1 : w27.cell? ⟨gb165, 1, none⟩ = some (.string (⟨#[]⟩ : ByteArray)) := (blk_cell BK165.out 1).trans rfl; have hfz28_0 := blk_frozen BK165.out 0; have hfz28_1 := blk_frozen BK165.out 1) | ((with_reducible refine gate_callee (f := 39) rfl ?_); refine goesL_ (some 23) rfl rfl Try.func39 (by kernel_rfl) rfl #[.int .i64 ((rd_T41 l0 x16_1).f0), .int .i64 2] rfl (by (try simp only [List.map_toArray, List.map_cons, List.map_nil]); first | done | rfl | (simp only [List.length_drop, List.length_take]; rfl)) ?_; (with_reducible refine (wire_Put.calls ((rd_T41 l0 x16_1).f0) 2 t166 t167 _ A7.out).mono ?_); rintro e w29 ⟨rfl, hb⟩; refine ⟨_, rfl, ?_⟩; have n0_ := Aside0.mk (Kd.Y_below (by (with_reducible repeat (first | apply Kd.Y_alloc | apply Kd.Y_drewN | apply Kd.Y_drew)); exact (Kd.Y_mono (Kd.Y_far (p := ⟨gb165, 1, none⟩) (Kd.Y_far (p := ⟨gb165, 0, none⟩) (Kd.Y_types HO_5.out BK165.out (by decide)) (fun _ hk => hk.2) (.int .i64 ((rd_T41 l0 x16_1).f0))) (fun _ hk => hk.2) (.string ((rd_T41 l0 x16_1).f1))) (fun _ h_ => h_.1))) hb); have n1_ := Aside0.mk (blk_below (g := gb165) (o := .cells #[.int .i64 ((rd_T41 l0 x16_1).f0), .string ((rd_T41 l0 x16_1).f1)] 41 (0, 0)) (by (with_reducible repeat (first | refine blk_drewN ?_ _ | refine blk_drew ?_ | refine blk_alloc ?_ _)); refine blk_put (cs := #[.int .i64 ((rd_T41 l0 x16_1).f0), .string (⟨#[]⟩ : ByteArray)]) ?_ 1 _ rfl; (with_reducible repeat (first | refine blk_drewN ?_ _ | refine blk_drew ?_ | refine blk_alloc ?_ _)); refine blk_put (cs := #[.int .i64 0, .string (⟨#[]⟩ : ByteArray)]) ?_ 0 _ rfl; (with_reducible repeat (first | refine blk_drewN ?_ _ | refine blk_drew ?_ | refine blk_alloc ?_ _)); exact BK165.out) hb); have n2_ := Aside0.mk (below_step (by repeat (first | (with_reducible first | exact HB.out | apply below_alloc | apply pw_below_drewN | apply below_drew1 | refine below_set ?_ GE165.out) | exact HB.out)) hb); clear HO_5; clear BK165; clear HB; have HO_5 := n0_; have BK165 := n1_; have HB := n2_; clear n0_ n1_ n2_; (try clear hb); (try clear hb2); (try clear hk); (try clear hi); have hcz30_0 : w29.cell? ⟨gb165, 0, none⟩ = some (.int .i64 ((rd_T41 l0 x16_1).f0)) := (blk_cell BK165.out 0).trans rfl; have hcz30_1 : w29.cell? ⟨gb165, 1, none⟩ = some (.string ((rd_T41 l0 x16_1).f1)) := (blk_cell BK165.out 1).trans rfl; have hfz30_0 := blk_frozen BK165.out 0; have hfz30_1 := blk_frozen BK165.out 1) | ((with_reducible refine gate_callee (f := 40) rfl ?_); refine goesL_ (some 29) rfl rfl Try.func40 (by kernel_rfl) rfl #[.string ((rd_T41 l0 x16_1).f1), .int .i64 2] rfl (by (try simp only [List.map_toArray, List.map_cons, List.map_nil]); first | done | rfl | (simp only [List.length_drop, List.length_take]; rfl)) ?_; (with_reducible refine (wire_PutVec.calls ((rd_T41 l0 x16_1).f1) 2 t168 t169 _ A8.out).mono ?_); rintro e w31 ⟨rfl, hb⟩; refine ⟨_, rfl, ?_⟩; have n0_ := Aside0.mk (Kd.Y_below (by (with_reducible repeat (first | apply Kd.Y_alloc | apply Kd.Y_drewN | apply Kd.Y_drew)); exact HO_5.out) hb); have n1_ := Aside0.mk (blk_below (g := gb165) (o := .cells #[.int .i64 ((rd_T41 l0 x16_1).f0), .string ((rd_T41 l0 x16_1).f1)] 41 (0, 0)) (by (with_reducible repeat (first | refine blk_drewN ?_ _ | refine blk_drew ?_ | refine blk_alloc ?_ _)); exact BK165.out) hb); have n2_ := Aside0.mk (below_step (by repeat (first | (with_reducible first | exact HB.out | apply below_alloc | apply pw_below_drewN | apply below_drew1 | refine below_set ?_ GE165.out) | exact HB.out)) hb); clear HO_5; clear BK165; clear HB; have HO_5 := n0_; have BK165 := n1_; have HB := n2_; clear n0_ n1_ n2_; (try clear hb); (try clear hb2); (try clear hk); (try clear hi); have hcz32_0 : w31.cell? ⟨gb165, 0, none⟩ = some (.int .i64 ((rd_T41 l0 x16_1).f0)) := (blk_cell BK165.out 0).trans rfl; have hcz32_1 : w31.cell? ⟨gb165, 1, none⟩ = some (.string ((rd_T41 l0 x16_1).f1)) := (blk_cell BK165.out 1).trans rfl; have hfz32_0 := blk_frozen BK165.out 0; have hfz32_1 := blk_frozen BK165.out 1) | (at_lookup; (try (refine gate_guard (by rfl) ?_; dsimp only)); refine Kd.Y_look (Kd.int .i64) (ok := fun _ => True) (base := w.heap.size) (xs := x5_1) 3 rfl 68 _ _ rfl Try.underlying68 Try.underlying3 Try.underlying4 (Kd.zeroB _) (v := v162) (k := ((rd_T41 l0 x16_1).f0)) rfl rfl LMc23.out ?aO ?_; (case aO => exact (by (with_reducible repeat (first | apply Kd.Y_alloc | apply Kd.Y_drewN | apply Kd.Y_drew)); exact HO_5.out)); intro w33 hb; have n0_ := Aside0.mk (Kd.Y_below (by (with_reducible repeat (first | apply Kd.Y_alloc | apply Kd.Y_drewN | apply Kd.Y_drew)); exact HO_5.out) hb); have n1_ := Aside0.mk (blk_below (g := gb165) (o := .cells #[.int .i64 ((rd_T41 l0 x16_1).f0), .string ((rd_T41 l0 x16_1).f1)] 41 (0, 0)) (by (with_reducible repeat (first | refine blk_drewN ?_ _ | refine blk_drew ?_ | refine blk_alloc ?_ _)); exact BK165.out) hb); have n2_ := Aside0.mk (below_step (by repeat (first | (with_reducible first | exact HB.out | apply below_alloc | apply pw_below_drewN | apply below_drew1 | refine below_set ?_ GE165.out) | exact HB.out)) hb); clear HO_5; clear BK165; clear HB; have HO_5 := n0_; have BK165 := n1_; have HB := n2_; clear n0_ n1_ n2_; clear hb; have hcz34_0 : w33.cell? ⟨gb165, 0, none⟩ = some (.int .i64 ((rd_T41 l0 x16_1).f0)) := (blk_cell BK165.out 0).trans rfl; have hcz34_1 : w33.cell? ⟨gb165, 1, none⟩ = some (.string ((rd_T41 l0 x16_1).f1)) := (blk_cell BK165.out 1).trans rfl; have hfz34_0 := blk_frozen BK165.out 0; have hfz34_1 := blk_frozen BK165.out 1) | (at_mapUpdate; refine Kd.Y_put (Kd.int .i64) (w0 := w) w.heap.size 3 rfl 68 _ _ _ rfl Try.underlying68 Try.underlying3 Try.underlying4 v162 x5_1 ((rd_T41 l0 x16_1).f0) (ok := fun _ => True) rfl rfl rfl LMc23.out (by have := LMc24.out; simp only [maxLen]; omega) ?aO ?aB ?aS ?_; (case aO => exact (by (with_reducible repeat (first | apply Kd.Y_alloc | apply Kd.Y_drewN | apply Kd.Y_drew)); exact HO_5.out)); (case aB => exact (by repeat (first | (with_reducible first | exact HB.out | apply below_alloc | apply pw_below_drewN | apply below_drew1 | refine below_set ?_ GE165.out) | exact HB.out))); (case aS => exact (below_size (by repeat (first | (with_reducible first | exact HB.out | apply below_alloc | apply pw_below_drewN | apply below_drew1 | refine below_set ?_ GE165.out) | exact HB.out)))); intro w35 ho hb hmt; rw [← Ny175.out] at ho; have n0_ := Aside0.mk (blk_map (g := gb165) (o := .cells #[.int .i64 ((rd_T41 l0 x16_1).f0), .string ((rd_T41 l0 x16_1).f1)] 41 (0, 0)) (by (with_reducible repeat (first | refine blk_drewN ?_ _ | refine blk_drew ?_ | refine blk_alloc ?_ _)); exact BK165.out) hmt); have n1_ := Aside0.mk (hb); have n2_ := Aside0.mk (ho); clear BK165; clear HB; clear HO_5; have BK165 := n0_; have HB := n1_; have HO177 := n2_; clear n0_ n1_ n2_; clear ho hb hmt))
                          go_roundg k1
                          case measure => have := HK1.out; omega
                          case rel => exact ⟨(ys179), (y175), (decide (((rd_T41 l0 x16_1).f0) ∈ x5_1)), (wrap64 (x16_1 + 1)), (by first | rfl | (simp; done) | (simp [*]; done)), (by first | rfl | (simp; done) | (simp [*]; done)), (by first | rfl | (simp; done) | (simp [*]; done)), H', ⟨by have := HK1.out; omega⟩, ⟨by (with_reducible repeat (first | apply Kd.Y_alloc | apply Kd.Y_drewN | apply Kd.Y_drew)); exact HO177.out⟩, ⟨by repeat (first | (with_reducible first | exact HB.out | apply below_alloc | apply pw_below_drewN | apply below_drew1 | refine below_set ?_ GE165.out) | exact HB.out)⟩⟩
                        · rw [if_neg c26] at H
                          exact absurd H (by simp)
                      · rw [if_neg c25] at H
                        exact absurd H (by simp)
                    · rw [if_neg c24] at H
                      exact absurd H (by simp)
                  · rw [if_neg c23] at H
                    exact absurd H (by simp)
              · rw [if_neg c10] at H
                have c10b0 : (t169 == 0) = false := beq_eq_false_iff_ne.mpr c10
                have c10b1 : (t169 != 0) = true := bne_iff_ne.mpr c10
                simp only [Option.some.injEq, Prod.mk.injEq] at H
                obtain ⟨rfl, rfl⟩ := H
                have p164 : 0 ≤ (x16_1 : Int) := of_decide_eq_true (by first | (with_reducible assumption) | assumption)
                have q164 : x16_1 < (l0.length : Int) := of_decide_eq_true (by first | (with_reducible assumption) | assumption)
                obtain ⟨ad164, e164, hx164_0, hx164_1⟩ := at_T41 HR0.out x16_1 p164 q164
                cases e164
                replace hx164_0 := (HB.out.cell (World.block_lt_of_cell? w _ hx164_0)).trans hx164_0
                replace hx164_1 := (HB.out.cell (World.block_lt_of_cell? w _ hx164_1)).trans hx164_1
                replace p164 := eq_true p164
                replace q164 := eq_true q164
                go_wp2_with (first | ((with_reducible refine gate_dst (N := 8) rfl ?_); refine box_event ?hg (N := 8) ?hd (cs := #[.int .i64 0, .string (⟨#[]⟩ : ByteArray)]) (t := 41) ?hr ?_; (case hd => rfl); (case hg => rfl); (case hr => first | (go_simp; done) | (go_simp; rfl)); intro gb165 hg w36 hbox hb; have n0_ := Aside0.mk (Kd.Y_below (by (with_reducible repeat (first | apply Kd.Y_alloc | apply Kd.Y_drewN | apply Kd.Y_drew)); exact HO_5.out) hb); have n1_ := Aside0.mk (below_step (by repeat (first | (with_reducible first | exact HB.out | apply below_alloc | apply pw_below_drewN | apply below_drew1) | exact HB.out)) hb); have n2_ := Aside0.mk (hbox); have n3_ := Aside0.mk ((by rw [hg]; exact (below_size (by repeat (first | (with_reducible first | exact HB.out | apply below_alloc | apply pw_below_drewN | apply below_drew1) | exact HB.out))) : w.heap.size ≤ gb165)); have n4_ := Aside0.mk ((by rw [hg]; exact (below_size (by repeat (first | (with_reducible first | exact HB.out | apply below_alloc | apply pw_below_drewN | apply below_drew1) | exact HB.out))) : w.heap.size ≤ gb165)); clear HO_5; clear HB; have HO_5 := n0_; have HB := n1_; have BK165 := n2_; have GW165 := n3_; have GE165 := n4_; clear n0_ n1_ n2_ n3_ n4_; clear hb hbox hg; have hcz37_0 : w36.cell? ⟨gb165, 0, none⟩ = some (.int .i64 0) := (blk_cell BK165.out 0).trans rfl; have hcz37_1 : w36.cell? ⟨gb165, 1, none⟩ = some (.string (⟨#[]⟩ : ByteArray)) := (blk_cell BK165.out 1).trans rfl; have hfz37_0 := blk_frozen BK165.out 0; have hfz37_1 := blk_frozen BK165.out 1) | ((with_reducible refine gate_callee (f := 39) rfl ?_); refine goesL_ (some 23) rfl rfl Try.func39 (by kernel_rfl) rfl #[.int .i64 ((rd_T41 l0 x16_1).f0), .int .i64 2] rfl (by (try simp only [List.map_toArray, List.map_cons, List.map_nil]); first | done | rfl | (simp only [List.length_drop, List.length_take]; rfl)) ?_; (with_reducible refine (wire_Put.calls ((rd_T41 l0 x16_1).f0) 2 t166 t167 _ A7.out).mono ?_); rintro e w38 ⟨rfl, hb⟩; refine ⟨_, rfl, ?_⟩; have n0_ := Aside0.mk (Kd.Y_below (by (with_reducible repeat (first | apply Kd.Y_alloc | apply Kd.Y_drewN | apply Kd.Y_drew)); exact (Kd.Y_mono (Kd.Y_far (p := ⟨gb165, 1, none⟩) (Kd.Y_far (p := ⟨gb165, 0, none⟩) (Kd.Y_types HO_5.out BK165.out (by decide)) (fun _ hk => hk.2) (.int .i64 ((rd_T41 l0 x16_1).f0))) (fun _ hk => hk.2) (.string ((rd_T41 l0 x16_1).f1))) (fun _ h_ => h_.1))) hb); have n1_ := Aside0.mk (blk_below (g := gb165) (o := .cells #[.int .i64 ((rd_T41 l0 x16_1).f0), .string ((rd_T41 l0 x16_1).f1)] 41 (0, 0)) (by (with_reducible repeat (first | refine blk_drewN ?_ _ | refine blk_drew ?_ | refine blk_alloc ?_ _)); refine blk_put (cs := #[.int .i64 ((rd_T41 l0 x16_1).f0), .string (⟨#[]⟩ : ByteArray)]) ?_ 1 _ rfl; (with_reducible repeat (first | refine blk_drewN ?_ _ | refine blk_drew ?_ | refine blk_alloc ?_ _)); refine blk_put (cs := #[.int .i64 0, .string (⟨#[]⟩ : ByteArray)]) ?_ 0 _ rfl; (with_reducible repeat (first | refine blk_drewN ?_ _ | refine blk_drew ?_ | refine blk_alloc ?_ _)); exact BK165.out) hb); have n2_ := Aside0.mk (below_step (by repeat (first | (with_reducible first | exact HB.out | apply below_alloc | apply pw_below_drewN | apply below_drew1 | refine below_set ?_ GE165.out) | exact HB.out)) hb); clear HO_5; clear BK165; clear HB; have HO_5 := n0_; have BK165 := n1_; have HB := n2_; clear n0_ n1_ n2_; (try clear hb); (try clear hb2); (try clear hk); (try clear hi); have hcz39_0 : w38.cell? ⟨gb165, 0, none⟩ = some (.int .i64 ((rd_T41 l0 x16_1).f0)) := (blk_cell BK165.out 0).trans rfl; have hcz39_1 : w38.cell? ⟨gb165, 1, none⟩ = some (.string ((rd_T41 l0 x16_1).f1)) := (blk_cell BK165.out 1).trans rfl; have hfz39_0 := blk_frozen BK165.out 0; have hfz39_1 := blk_frozen BK165.out 1) | ((with_reducible refine gate_callee (f := 40) rfl ?_); refine goesL_ (some 29) rfl rfl Try.func40 (by kernel_rfl) rfl #[.string ((rd_T41 l0 x16_1).f1), .int .i64 2] rfl (by (try simp only [List.map_toArray, List.map_cons, List.map_nil]); first | done | rfl | (simp only [List.length_drop, List.length_take]; rfl)) ?_; (with_reducible refine (wire_PutVec.calls ((rd_T41 l0 x16_1).f1) 2 t168 t169 _ A8.out).mono ?_); rintro e w40 ⟨rfl, hb⟩; refine ⟨_, rfl, ?_⟩; have n0_ := Aside0.mk (Kd.Y_below (by (with_reducible repeat (first | apply Kd.Y_alloc | apply Kd.Y_drewN | apply Kd.Y_drew)); exact HO_5.out) hb); have n1_ := Aside0.mk (blk_below (g := gb165) (o := .cells #[.int .i64 ((rd_T41 l0 x16_1).f0), .string ((rd_T41 l0 x16_1).f1)] 41 (0, 0)) (by (with_reducible repeat (first | refine blk_drewN ?_ _ | refine blk_drew ?_ | refine blk_alloc ?_ _)); exact BK165.out) hb); have n2_ := Aside0.mk (below_step (by repeat (first | (with_reducible first | exact HB.out | apply below_alloc | apply pw_below_drewN | apply below_drew1 | refine below_set ?_ GE165.out) | exact HB.out)) hb); clear HO_5; clear BK165; clear HB; have HO_5 := n0_; have BK165 := n1_; have HB := n2_; clear n0_ n1_ n2_; (try clear hb); (try clear hb2); (try clear hk); (try clear hi)))
                go_ret2
                exact ⟨by first | rfl | (simp [errW_none, errW_some] <;> rfl) | (simp [*, errW_none, errW_some] <;> rfl), by repeat (first | (with_reducible first | exact HB.out | apply below_alloc | apply pw_below_drewN | apply below_drew1 | refine below_set ?_ GE165.out) | exact HB.out)⟩
            · rw [if_neg c9] at H
              have c9b0 : (t167 == 0) = false := beq_eq_false_iff_ne.mpr c9
              have c9b1 : (t167 != 0) = true := bne_iff_ne.mpr c9
              simp only [Option.some.injEq, Prod.mk.injEq] at H
              obtain ⟨rfl, rfl⟩ := H
              have p164 : 0 ≤ (x16_1 : Int) := of_decide_eq_true (by first | (with_reducible assumption) | assumption)
              have q164 : x16_1 < (l0.length : Int) := of_decide_eq_true (by first | (with_reducible assumption) | assumption)
              obtain ⟨ad164, e164, hx164_0, hx164_1⟩ := at_T41 HR0.out x16_1 p164 q164
              cases e164
              replace hx164_0 := (HB.out.cell (World.block_lt_of_cell? w _ hx164_0)).trans hx164_0
              replace hx164_1 := (HB.out.cell (World.block_lt_of_cell? w _ hx164_1)).trans hx164_1
              replace p164 := eq_true p164
              replace q164 := eq_true q164
              go_wp2_with (first | ((with_reducible refine gate_dst (N := 8) rfl ?_); refine box_event ?hg (N := 8) ?hd (cs := #[.int .i64 0, .string (⟨#[]⟩ : ByteArray)]) (t := 41) ?hr ?_; (case hd => rfl); (case hg => rfl); (case hr => first | (go_simp; done) | (go_simp; rfl)); intro gb165 hg w41 hbox hb; have n0_ := Aside0.mk (Kd.Y_below (by (with_reducible repeat (first | apply Kd.Y_alloc | apply Kd.Y_drewN | apply Kd.Y_drew)); exact HO_5.out) hb); have n1_ := Aside0.mk (below_step (by repeat (first | (with_reducible first | exact HB.out | apply below_alloc | apply pw_below_drewN | apply below_drew1) | exact HB.out)) hb); have n2_ := Aside0.mk (hbox); have n3_ := Aside0.mk ((by rw [hg]; exact (below_size (by repeat (first | (with_reducible first | exact HB.out | apply below_alloc | apply pw_below_drewN | apply below_drew1) | exact HB.out))) : w.heap.size ≤ gb165)); have n4_ := Aside0.mk ((by rw [hg]; exact (below_size (by repeat (first | (with_reducible first | exact HB.out | apply below_alloc | apply pw_below_drewN | apply below_drew1) | exact HB.out))) : w.heap.size ≤ gb165)); clear HO_5; clear HB; have HO_5 := n0_; have HB := n1_; have BK165 := n2_; have GW165 := n3_; have GE165 := n4_; clear n0_ n1_ n2_ n3_ n4_; clear hb hbox hg; have hcz42_0 : w41.cell? ⟨gb165, 0, none⟩ = some (.int .i64 0) := (blk_cell BK165.out 0).trans rfl; have hcz42_1 : w41.cell? ⟨gb165, 1, none⟩ = some (.string (⟨#[]⟩ : ByteArray)) := (blk_cell BK165.out 1).trans rfl; have hfz42_0 := blk_frozen BK165.out 0; have hfz42_1 := blk_frozen BK165.out 1) | ((with_reducible refine gate_callee (f := 39) rfl ?_); refine goesL_ (some 23) rfl rfl Try.func39 (by kernel_rfl) rfl #[.int .i64 ((rd_T41 l0 x16_1).f0), .int .i64 2] rfl (by (try simp only [List.map_toArray, List.map_cons, List.map_nil]); first | done | rfl | (simp only [List.length_drop, List.length_take]; rfl)) ?_; (with_reducible refine (wire_Put.calls ((rd_T41 l0 x16_1).f0) 2 t166 t167 _ A7.out).mono ?_); rintro e w43 ⟨rfl, hb⟩; refine ⟨_, rfl, ?_⟩; have n0_ := Aside0.mk (Kd.Y_below (by (with_reducible repeat (first | apply Kd.Y_alloc | apply Kd.Y_drewN | apply Kd.Y_drew)); exact (Kd.Y_mono (Kd.Y_far (p := ⟨gb165, 1, none⟩) (Kd.Y_far (p := ⟨gb165, 0, none⟩) (Kd.Y_types HO_5.out BK165.out (by decide)) (fun _ hk => hk.2) (.int .i64 ((rd_T41 l0 x16_1).f0))) (fun _ hk => hk.2) (.string ((rd_T41 l0 x16_1).f1))) (fun _ h_ => h_.1))) hb); have n1_ := Aside0.mk (blk_below (g := gb165) (o := .cells #[.int .i64 ((rd_T41 l0 x16_1).f0), .string ((rd_T41 l0 x16_1).f1)] 41 (0, 0)) (by (with_reducible repeat (first | refine blk_drewN ?_ _ | refine blk_drew ?_ | refine blk_alloc ?_ _)); refine blk_put (cs := #[.int .i64 ((rd_T41 l0 x16_1).f0), .string (⟨#[]⟩ : ByteArray)]) ?_ 1 _ rfl; (with_reducible repeat (first | refine blk_drewN ?_ _ | refine blk_drew ?_ | refine blk_alloc ?_ _)); refine blk_put (cs := #[.int .i64 0, .string (⟨#[]⟩ : ByteArray)]) ?_ 0 _ rfl; (with_reducible repeat (first | refine blk_drewN ?_ _ | refine blk_drew ?_ | refine blk_alloc ?_ _)); exact BK165.out) hb); have n2_ := Aside0.mk (below_step (by repeat (first | (with_reducible first | exact HB.out | apply below_alloc | apply pw_below_drewN | apply below_drew1 | refine below_set ?_ GE165.out) | exact HB.out)) hb); clear HO_5; clear BK165; clear HB; have HO_5 := n0_; have BK165 := n1_; have HB := n2_; clear n0_ n1_ n2_; (try clear hb); (try clear hb2); (try clear hk); (try clear hi); have hcz44_0 : w43.cell? ⟨gb165, 0, none⟩ = some (.int .i64 ((rd_T41 l0 x16_1).f0)) := (blk_cell BK165.out 0).trans rfl; have hcz44_1 : w43.cell? ⟨gb165, 1, none⟩ = some (.string ((rd_T41 l0 x16_1).f1)) := (blk_cell BK165.out 1).trans rfl; have hfz44_0 := blk_frozen BK165.out 0; have hfz44_1 := blk_frozen BK165.out 1) | ((with_reducible refine gate_callee (f := 40) rfl ?_); refine goesL_ (some 29) rfl rfl Try.func40 (by kernel_rfl) rfl #[.string ((rd_T41 l0 x16_1).f1), .int .i64 2] rfl (by (try simp only [List.map_toArray, List.map_cons, List.map_nil]); first | done | rfl | (simp only [List.length_drop, List.length_take]; rfl)) ?_; (with_reducible refine (wire_PutVec.calls ((rd_T41 l0 x16_1).f1) 2 t168 t169 _ A8.out).mono ?_); rintro e w45 ⟨rfl, hb⟩; refine ⟨_, rfl, ?_⟩; have n0_ := Aside0.mk (Kd.Y_below (by (with_reducible repeat (first | apply Kd.Y_alloc | apply Kd.Y_drewN | apply Kd.Y_drew)); exact HO_5.out) hb); have n1_ := Aside0.mk (blk_below (g := gb165) (o := .cells #[.int .i64 ((rd_T41 l0 x16_1).f0), .string ((rd_T41 l0 x16_1).f1)] 41 (0, 0)) (by (with_reducible repeat (first | refine blk_drewN ?_ _ | refine blk_drew ?_ | refine blk_alloc ?_ _)); exact BK165.out) hb); have n2_ := Aside0.mk (below_step (by repeat (first | (with_reducible first | exact HB.out | apply below_alloc | apply pw_below_drewN | apply below_drew1 | refine below_set ?_ GE165.out) | exact HB.out)) hb); clear HO_5; clear BK165; clear HB; have HO_5 := n0_; have BK165 := n1_; have HB := n2_; clear n0_ n1_ n2_; (try clear hb); (try clear hb2); (try clear hk); (try clear hi)))
              go_ret2
              exact ⟨by first | rfl | (simp [errW_none, errW_some] <;> rfl) | (simp [*, errW_none, errW_some] <;> rfl), by repeat (first | (with_reducible first | exact HB.out | apply below_alloc | apply pw_below_drewN | apply below_drew1 | refine below_set ?_ GE165.out) | exact HB.out)⟩
          · rw [if_neg c6] at H
            exact absurd H (by simp)
        · rw [if_neg c5] at H
          exact absurd H (by simp)
      · rw [if_neg c4] at H
        have c4b0 : decide (x16_1 < (l0.length : Int)) = false := decide_eq_false c4
        clear c4
        by_cases c46 : x6_1 = true
        · subst c46
          have H1 : (some ((⟨#[]⟩ : ByteArray), 1601)) = some (r1, r2) := by rw [if_pos rfl] at H; exact H
          clear H
          have H := H1
          clear H1
          simp only [Option.some.injEq, Prod.mk.injEq] at H
          obtain ⟨rfl, rfl⟩ := H
          go_wp2
          go_ret2
          exact ⟨by first | rfl | (simp [errW_none, errW_some] <;> rfl) | (simp [*, errW_none, errW_some] <;> rfl), by repeat (first | (with_reducible first | exact HB.out | apply below_alloc | apply pw_below_drewN | apply below_drew1) | exact HB.out)⟩
        · replace c46 := Bool.eq_false_iff.mpr c46
          subst c46
          have H1 : (some (x4_1, 0)) = some (r1, r2) := by rw [if_neg (show ¬ (false = true) by decide)] at H; exact H
          clear H
          have H := H1
          clear H1
          simp only [Option.some.injEq, Prod.mk.injEq] at H
          obtain ⟨rfl, rfl⟩ := H
          go_wp2
          go_ret2
          exact ⟨by first | rfl | (simp [errW_none, errW_some] <;> rfl) | (simp [*, errW_none, errW_some] <;> rfl), by repeat (first | (with_reducible first | exact HB.out | apply below_alloc | apply pw_below_drewN | apply below_drew1) | exact HB.out)⟩
def halberdlaw0_Num.f (a0 : Int) : Option (Int) := some a0
set_option maxHeartbeats 8000000 in
set_option maxRecDepth 100000 in
theorem halberdlaw0_Num.calls (a0 : Int) (r : Int) (w : World) (h : halberdlaw0_Num.f a0 = some r) :
    Calls Try.prog 18 #[.int .i64 a0] w fun e w' => e = .returned (.int .i64 r) ∧ Drawn0 w w' := by
  have H : (some a0) = some r := h
  clear h
  obtain rfl := Option.some.inj H
  go_enter Try.func18, Try.ntmps18
  go_wp2
  go_ret
  exact ⟨by first | rfl | (simp; done) | (simp [*]; done), by repeat (first | exact Drawn0.refl _ | apply Drawn0.step)⟩
end Go.Proofs.Ytlkebjkpmiehcaa.E
end
section
namespace Go.Proofs.Ytlkebjkpmiehcaa.E
open Go.RowKit Go.Proofs.YtlkebjkpmiehcaaW.PrintWords Go.Proofs.YtlkebjkpmiehcaaW.PrintLast Go.Proofs.YtlkebjkpmiehcaaW.PrintMore
attribute [local go_sem] max2_int min2_int max_two min_two max_three min_three max_four min_four   
set_option linter.unusedVariables false
set_option linter.unusedSimpArgs false
def halberdlaw16_awake0.f (k : Nat)  : Option (Bool) := (ext_Put.f k (([(⟨5, (⟨#[97, 98]⟩ : ByteArray)⟩ : S41), (⟨6, (⟨#[]⟩ : ByteArray)⟩ : S41)] : List (S41)))).bind fun bt183 => ((ext_Get.f k bt183.1).bind fun bt185 => (if bt183.1.size + bt183.1.size ≤ 9223372036854775807 then ((ext_Get.f k (bt183.1 ++ bt183.1)).bind fun bt190 => (if bt183.1.size + 1 ≤ 9223372036854775807 then ((ext_Get.f k (bt183.1 ++ (⟨#[120]⟩ : ByteArray))).bind fun bt195 => ((ext_Put.f k (([(⟨(-1), (⟨#[]⟩ : ByteArray)⟩ : S41)] : List (S41)))).bind fun bt202 => (if bt183.1.toList = ([0, 5, 0, 2, 97, 98, 0, 6, 0, 0] : List UInt8) then ((halberdlaw0_Num.f bt183.2).bind fun t204 => (if t204 = 0 then (if (bt185.1.length : Int) = 2 then (if 0 < (bt185.1.length : Int) then (if ((rd_T41 bt185.1 0).f1).toList = ([97, 98] : List UInt8) then ((halberdlaw0_Num.f bt185.2).bind fun t206 => (if t206 = 0 then ((halberdlaw0_Num.f bt190.2).bind fun t207 => (if t207 = 1601 then ((halberdlaw0_Num.f bt195.2).bind fun t208 => (if t208 = 1600 then ((halberdlaw0_Num.f bt202.2).bind fun t209 => (some (t209 == 1600))) else (some false))) else (some false))) else (some false))) else (some false)) else (none)) else (some false)) else (some false))) else (some false)))) else (none))) else (none)))
theorem halberdlaw16_awake0.mono : ∀ k, LeO (halberdlaw16_awake0.f k ) (halberdlaw16_awake0.f (k + 1) ) := by
  intro  k
  unfold halberdlaw16_awake0.f
  repeat' first
      | (with_reducible exact ext_Get.mono _ _)
      | (with_reducible exact ext_Put.mono _ _)
      | (with_reducible exact LeO.refl _)
      | (with_reducible exact LeO.none _)
      | (with_reducible refine LeO.ite ?_ ?_)
      | (with_reducible refine LeO.bind ?_ (fun _ => ?_))
      | exact ext_Get.mono _ _
      | exact ext_Put.mono _ _
      | exact LeO.none _
      | refine LeO.ite ?_ ?_
      | refine LeO.bind ?_ (fun _ => ?_)
set_option maxHeartbeats 8000000 in
set_option maxRecDepth 100000 in
theorem halberdlaw16_awake0.calls (k : Nat)  (r : Bool) (w : World) (h : halberdlaw16_awake0.f k  = some r) (hr : Aside0 (r = true)) :
    Calls Try.prog 21 #[] w fun e w' => e = .returned (.bool r) ∧ Below w.heap.size w w' := by
  have hu41 := Try.underlying41
  have HB := Aside0.mk (Below.refl w.heap.size w)
  have H : ((ext_Put.f k (([(⟨5, (⟨#[97, 98]⟩ : ByteArray)⟩ : S41), (⟨6, (⟨#[]⟩ : ByteArray)⟩ : S41)] : List (S41)))).bind fun bt183 => ((ext_Get.f k bt183.1).bind fun bt185 => (if bt183.1.size + bt183.1.size ≤ 9223372036854775807 then ((ext_Get.f k (bt183.1 ++ bt183.1)).bind fun bt190 => (if bt183.1.size + 1 ≤ 9223372036854775807 then ((ext_Get.f k (bt183.1 ++ (⟨#[120]⟩ : ByteArray))).bind fun bt195 => ((ext_Put.f k (([(⟨(-1), (⟨#[]⟩ : ByteArray)⟩ : S41)] : List (S41)))).bind fun bt202 => (if bt183.1.toList = ([0, 5, 0, 2, 97, 98, 0, 6, 0, 0] : List UInt8) then ((halberdlaw0_Num.f bt183.2).bind fun t204 => (if t204 = 0 then (if (bt185.1.length : Int) = 2 then (if 0 < (bt185.1.length : Int) then (if ((rd_T41 bt185.1 0).f1).toList = ([97, 98] : List UInt8) then ((halberdlaw0_Num.f bt185.2).bind fun t206 => (if t206 = 0 then ((halberdlaw0_Num.f bt190.2).bind fun t207 => (if t207 = 1601 then ((halberdlaw0_Num.f bt195.2).bind fun t208 => (if t208 = 1600 then ((halberdlaw0_Num.f bt202.2).bind fun t209 => (some (t209 == 1600))) else (some false))) else (some false))) else (some false))) else (some false)) else (none)) else (some false)) else (some false))) else (some false)))) else (none))) else (none)))) = some r := h
  clear h
  obtain ⟨y180, hy180⟩ : ∃ y_ : List (S41), y_ = (([(⟨5, (⟨#[97, 98]⟩ : ByteArray)⟩ : S41), (⟨6, (⟨#[]⟩ : ByteArray)⟩ : S41)] : List (S41))) := ⟨_, rfl⟩
  replace H : ((ext_Put.f k y180).bind fun bt183 => ((ext_Get.f k bt183.1).bind fun bt185 => (if bt183.1.size + bt183.1.size ≤ 9223372036854775807 then ((ext_Get.f k (bt183.1 ++ bt183.1)).bind fun bt190 => (if bt183.1.size + 1 ≤ 9223372036854775807 then ((ext_Get.f k (bt183.1 ++ (⟨#[120]⟩ : ByteArray))).bind fun bt195 => ((ext_Put.f k (([(⟨(-1), (⟨#[]⟩ : ByteArray)⟩ : S41)] : List (S41)))).bind fun bt202 => (if bt183.1.toList = ([0, 5, 0, 2, 97, 98, 0, 6, 0, 0] : List UInt8) then ((halberdlaw0_Num.f bt183.2).bind fun t204 => (if t204 = 0 then (if (bt185.1.length : Int) = 2 then (if 0 < (bt185.1.length : Int) then (if ((rd_T41 bt185.1 0).f1).toList = ([97, 98] : List UInt8) then ((halberdlaw0_Num.f bt185.2).bind fun t206 => (if t206 = 0 then ((halberdlaw0_Num.f bt190.2).bind fun t207 => (if t207 = 1601 then ((halberdlaw0_Num.f bt195.2).bind fun t208 => (if t208 = 1600 then ((halberdlaw0_Num.f bt202.2).bind fun t209 => (some (t209 == 1600))) else (some false))) else (some false))) else (some false))) else (some false)) else (none)) else (some false)) else (some false))) else (some false)))) else (none))) else (none)))) = some r := by first | (rw [hy180]; with_reducible exact H) | (have H2_ := (Option.bind_some _ _).symm.trans H; rw [hy180]; with_reducible exact H2_) | (have H2_ := (Option.bind_some _ _).symm.trans H; with_reducible exact H2_) | with_reducible exact H | (rw [hy180]; exact H) | exact H
  have Ny180 := Aside0.mk hy180
  clear hy180
  replace H := Option.bind_eq_some_iff.mp H
  obtain ⟨⟨t183, t184⟩, A10, H⟩ := H
  replace H : ((ext_Get.f k t183).bind fun bt185 => (if t183.size + t183.size ≤ 9223372036854775807 then ((ext_Get.f k (t183 ++ t183)).bind fun bt190 => (if t183.size + 1 ≤ 9223372036854775807 then ((ext_Get.f k (t183 ++ (⟨#[120]⟩ : ByteArray))).bind fun bt195 => ((ext_Put.f k (([(⟨(-1), (⟨#[]⟩ : ByteArray)⟩ : S41)] : List (S41)))).bind fun bt202 => (if t183.toList = ([0, 5, 0, 2, 97, 98, 0, 6, 0, 0] : List UInt8) then ((halberdlaw0_Num.f t184).bind fun t204 => (if t204 = 0 then (if (bt185.1.length : Int) = 2 then (if 0 < (bt185.1.length : Int) then (if ((rd_T41 bt185.1 0).f1).toList = ([97, 98] : List UInt8) then ((halberdlaw0_Num.f bt185.2).bind fun t206 => (if t206 = 0 then ((halberdlaw0_Num.f bt190.2).bind fun t207 => (if t207 = 1601 then ((halberdlaw0_Num.f bt195.2).bind fun t208 => (if t208 = 1600 then ((halberdlaw0_Num.f bt202.2).bind fun t209 => (some (t209 == 1600))) else (some false))) else (some false))) else (some false))) else (some false)) else (none)) else (some false)) else (some false))) else (some false)))) else (none))) else (none))) = some r := H
  have A1 := Aside0.mk A10
  clear A10
  replace H := Option.bind_eq_some_iff.mp H
  obtain ⟨⟨t185, t186⟩, A20, H⟩ := H
  replace H : (if t183.size + t183.size ≤ 9223372036854775807 then ((ext_Get.f k (t183 ++ t183)).bind fun bt190 => (if t183.size + 1 ≤ 9223372036854775807 then ((ext_Get.f k (t183 ++ (⟨#[120]⟩ : ByteArray))).bind fun bt195 => ((ext_Put.f k (([(⟨(-1), (⟨#[]⟩ : ByteArray)⟩ : S41)] : List (S41)))).bind fun bt202 => (if t183.toList = ([0, 5, 0, 2, 97, 98, 0, 6, 0, 0] : List UInt8) then ((halberdlaw0_Num.f t184).bind fun t204 => (if t204 = 0 then (if (t185.length : Int) = 2 then (if 0 < (t185.length : Int) then (if ((rd_T41 t185 0).f1).toList = ([97, 98] : List UInt8) then ((halberdlaw0_Num.f t186).bind fun t206 => (if t206 = 0 then ((halberdlaw0_Num.f bt190.2).bind fun t207 => (if t207 = 1601 then ((halberdlaw0_Num.f bt195.2).bind fun t208 => (if t208 = 1600 then ((halberdlaw0_Num.f bt202.2).bind fun t209 => (some (t209 == 1600))) else (some false))) else (some false))) else (some false))) else (some false)) else (none)) else (some false)) else (some false))) else (some false)))) else (none))) else (none)) = some r := H
  have A2 := Aside0.mk A20
  clear A20
  by_cases c3 : t183.size + t183.size ≤ 9223372036854775807
  · rw [if_pos c3] at H
    have c3b0 := eq_true c3
    have c3b1 : decide (t183.size + t183.size ≤ 9223372036854775807) = true := decide_eq_true c3
    try have c3b2 : (9223372036854775807 < t183.size + t183.size) = False := eq_false (Nat.not_lt.2 c3)
    obtain ⟨ys189, hys189⟩ : ∃ y_ : ByteArray, y_ = (t183 ++ t183) := ⟨_, rfl⟩
    replace H : ((ext_Get.f k ys189).bind fun bt190 => (if t183.size + 1 ≤ 9223372036854775807 then ((ext_Get.f k (t183 ++ (⟨#[120]⟩ : ByteArray))).bind fun bt195 => ((ext_Put.f k (([(⟨(-1), (⟨#[]⟩ : ByteArray)⟩ : S41)] : List (S41)))).bind fun bt202 => (if t183.toList = ([0, 5, 0, 2, 97, 98, 0, 6, 0, 0] : List UInt8) then ((halberdlaw0_Num.f t184).bind fun t204 => (if t204 = 0 then (if (t185.length : Int) = 2 then (if 0 < (t185.length : Int) then (if ((rd_T41 t185 0).f1).toList = ([97, 98] : List UInt8) then ((halberdlaw0_Num.f t186).bind fun t206 => (if t206 = 0 then ((halberdlaw0_Num.f bt190.2).bind fun t207 => (if t207 = 1601 then ((halberdlaw0_Num.f bt195.2).bind fun t208 => (if t208 = 1600 then ((halberdlaw0_Num.f bt202.2).bind fun t209 => (some (t209 == 1600))) else (some false))) else (some false))) else (some false))) else (some false)) else (none)) else (some false)) else (some false))) else (some false)))) else (none))) = some r := by first | (rw [hys189]; with_reducible exact H) | (have H2_ := (Option.bind_some _ _).symm.trans H; rw [hys189]; with_reducible exact H2_) | (have H2_ := (Option.bind_some _ _).symm.trans H; with_reducible exact H2_) | with_reducible exact H | (rw [hys189]; exact H) | exact H
    have Nys189 := Aside0.mk hys189
    clear hys189
    have Sys189 := Nys189.out.symm
    replace H := Option.bind_eq_some_iff.mp H
    obtain ⟨⟨t190, t191⟩, A40, H⟩ := H
    replace H : (if t183.size + 1 ≤ 9223372036854775807 then ((ext_Get.f k (t183 ++ (⟨#[120]⟩ : ByteArray))).bind fun bt195 => ((ext_Put.f k (([(⟨(-1), (⟨#[]⟩ : ByteArray)⟩ : S41)] : List (S41)))).bind fun bt202 => (if t183.toList = ([0, 5, 0, 2, 97, 98, 0, 6, 0, 0] : List UInt8) then ((halberdlaw0_Num.f t184).bind fun t204 => (if t204 = 0 then (if (t185.length : Int) = 2 then (if 0 < (t185.length : Int) then (if ((rd_T41 t185 0).f1).toList = ([97, 98] : List UInt8) then ((halberdlaw0_Num.f t186).bind fun t206 => (if t206 = 0 then ((halberdlaw0_Num.f t191).bind fun t207 => (if t207 = 1601 then ((halberdlaw0_Num.f bt195.2).bind fun t208 => (if t208 = 1600 then ((halberdlaw0_Num.f bt202.2).bind fun t209 => (some (t209 == 1600))) else (some false))) else (some false))) else (some false))) else (some false)) else (none)) else (some false)) else (some false))) else (some false)))) else (none)) = some r := H
    have A4 := Aside0.mk A40
    clear A40
    by_cases c5 : t183.size + 1 ≤ 9223372036854775807
    · rw [if_pos c5] at H
      have c5b0 := eq_true c5
      have c5b1 : decide (t183.size + 1 ≤ 9223372036854775807) = true := decide_eq_true c5
      try have c5b2 : (9223372036854775807 < t183.size + 1) = False := eq_false (Nat.not_lt.2 c5)
      obtain ⟨ys194, hys194⟩ : ∃ y_ : ByteArray, y_ = (t183 ++ (⟨#[120]⟩ : ByteArray)) := ⟨_, rfl⟩
      replace H : ((ext_Get.f k ys194).bind fun bt195 => ((ext_Put.f k (([(⟨(-1), (⟨#[]⟩ : ByteArray)⟩ : S41)] : List (S41)))).bind fun bt202 => (if t183.toList = ([0, 5, 0, 2, 97, 98, 0, 6, 0, 0] : List UInt8) then ((halberdlaw0_Num.f t184).bind fun t204 => (if t204 = 0 then (if (t185.length : Int) = 2 then (if 0 < (t185.length : Int) then (if ((rd_T41 t185 0).f1).toList = ([97, 98] : List UInt8) then ((halberdlaw0_Num.f t186).bind fun t206 => (if t206 = 0 then ((halberdlaw0_Num.f t191).bind fun t207 => (if t207 = 1601 then ((halberdlaw0_Num.f bt195.2).bind fun t208 => (if t208 = 1600 then ((halberdlaw0_Num.f bt202.2).bind fun t209 => (some (t209 == 1600))) else (some false))) else (some false))) else (some false))) else (some false)) else (none)) else (some false)) else (some false))) else (some false)))) = some r := by first | (rw [hys194]; with_reducible exact H) | (have H2_ := (Option.bind_some _ _).symm.trans H; rw [hys194]; with_reducible exact H2_) | (have H2_ := (Option.bind_some _ _).symm.trans H; with_reducible exact H2_) | with_reducible exact H | (rw [hys194]; exact H) | exact H
      have Nys194 := Aside0.mk hys194
      clear hys194
      have Sys194 := Nys194.out.symm
      replace H := Option.bind_eq_some_iff.mp H
      obtain ⟨⟨t195, t196⟩, A60, H⟩ := H
      replace H : ((ext_Put.f k (([(⟨(-1), (⟨#[]⟩ : ByteArray)⟩ : S41)] : List (S41)))).bind fun bt202 => (if t183.toList = ([0, 5, 0, 2, 97, 98, 0, 6, 0, 0] : List UInt8) then ((halberdlaw0_Num.f t184).bind fun t204 => (if t204 = 0 then (if (t185.length : Int) = 2 then (if 0 < (t185.length : Int) then (if ((rd_T41 t185 0).f1).toList = ([97, 98] : List UInt8) then ((halberdlaw0_Num.f t186).bind fun t206 => (if t206 = 0 then ((halberdlaw0_Num.f t191).bind fun t207 => (if t207 = 1601 then ((halberdlaw0_Num.f t196).bind fun t208 => (if t208 = 1600 then ((halberdlaw0_Num.f bt202.2).bind fun t209 => (some (t209 == 1600))) else (some false))) else (some false))) else (some false))) else (some false)) else (none)) else (some false)) else (some false))) else (some false))) = some r := H
      have A6 := Aside0.mk A60
      clear A60
      obtain ⟨y199, hy199⟩ : ∃ y_ : List (S41), y_ = (([(⟨(-1), (⟨#[]⟩ : ByteArray)⟩ : S41)] : List (S41))) := ⟨_, rfl⟩
      replace H : ((ext_Put.f k y199).bind fun bt202 => (if t183.toList = ([0, 5, 0, 2, 97, 98, 0, 6, 0, 0] : List UInt8) then ((halberdlaw0_Num.f t184).bind fun t204 => (if t204 = 0 then (if (t185.length : Int) = 2 then (if 0 < (t185.length : Int) then (if ((rd_T41 t185 0).f1).toList = ([97, 98] : List UInt8) then ((halberdlaw0_Num.f t186).bind fun t206 => (if t206 = 0 then ((halberdlaw0_Num.f t191).bind fun t207 => (if t207 = 1601 then ((halberdlaw0_Num.f t196).bind fun t208 => (if t208 = 1600 then ((halberdlaw0_Num.f bt202.2).bind fun t209 => (some (t209 == 1600))) else (some false))) else (some false))) else (some false))) else (some false)) else (none)) else (some false)) else (some false))) else (some false))) = some r := by first | (rw [hy199]; with_reducible exact H) | (have H2_ := (Option.bind_some _ _).symm.trans H; rw [hy199]; with_reducible exact H2_) | (have H2_ := (Option.bind_some _ _).symm.trans H; with_reducible exact H2_) | with_reducible exact H | (rw [hy199]; exact H) | exact H
      have Ny199 := Aside0.mk hy199
      clear hy199
      replace H := Option.bind_eq_some_iff.mp H
      obtain ⟨⟨t202, t203⟩, A70, H⟩ := H
      replace H : (if t183.toList = ([0, 5, 0, 2, 97, 98, 0, 6, 0, 0] : List UInt8) then ((halberdlaw0_Num.f t184).bind fun t204 => (if t204 = 0 then (if (t185.length : Int) = 2 then (if 0 < (t185.length : Int) then (if ((rd_T41 t185 0).f1).toList = ([97, 98] : List UInt8) then ((halberdlaw0_Num.f t186).bind fun t206 => (if t206 = 0 then ((halberdlaw0_Num.f t191).bind fun t207 => (if t207 = 1601 then ((halberdlaw0_Num.f t196).bind fun t208 => (if t208 = 1600 then ((halberdlaw0_Num.f t203).bind fun t209 => (some (t209 == 1600))) else (some false))) else (some false))) else (some false))) else (some false)) else (none)) else (some false)) else (some false))) else (some false)) = some r := H
      have A7 := Aside0.mk A70
      clear A70
      by_cases c8 : t183.toList = ([0, 5, 0, 2, 97, 98, 0, 6, 0, 0] : List UInt8)
      · rw [if_pos c8] at H
        have c8b0 : (t183.toList == ([0, 5, 0, 2, 97, 98, 0, 6, 0, 0] : List UInt8)) = true := beq_iff_eq.mpr c8
        have c8b1 : (t183.toList != ([0, 5, 0, 2, 97, 98, 0, 6, 0, 0] : List UInt8)) = false := bne_eq_false_iff_eq.mpr c8
        clear c8
        replace H := Option.bind_eq_some_iff.mp H
        obtain ⟨t204, A90, H⟩ := H
        replace H : (if t204 = 0 then (if (t185.length : Int) = 2 then (if 0 < (t185.length : Int) then (if ((rd_T41 t185 0).f1).toList = ([97, 98] : List UInt8) then ((halberdlaw0_Num.f t186).bind fun t206 => (if t206 = 0 then ((halberdlaw0_Num.f t191).bind fun t207 => (if t207 = 1601 then ((halberdlaw0_Num.f t196).bind fun t208 => (if t208 = 1600 then ((halberdlaw0_Num.f t203).bind fun t209 => (some (t209 == 1600))) else (some false))) else (some false))) else (some false))) else (some false)) else (none)) else (some false)) else (some false)) = some r := H
        have A9 := Aside0.mk A90
        clear A90
        by_cases c10 : t204 = 0
        · rw [if_pos c10] at H
          have c10b0 : (t204 == 0) = true := beq_iff_eq.mpr c10
          have c10b1 : (t204 != 0) = false := bne_eq_false_iff_eq.mpr c10
          clear c10
          by_cases c11 : (t185.length : Int) = 2
          · rw [if_pos c11] at H
            have c11b0 : ((t185.length : Int) == 2) = true := beq_iff_eq.mpr c11
            have c11b1 : ((t185.length : Int) != 2) = false := bne_eq_false_iff_eq.mpr c11
            clear c11
            by_cases c12 : 0 < (t185.length : Int)
            · rw [if_pos c12] at H
              have c12b0 : decide (0 < (t185.length : Int)) = true := decide_eq_true c12
              have c12b1 : decide (0 < t185.length) = true := decide_eq_true (by omega)
              clear c12
              by_cases c13 : ((rd_T41 t185 0).f1).toList = ([97, 98] : List UInt8)
              · rw [if_pos c13] at H
                have c13b0 : (((rd_T41 t185 0).f1).toList == ([97, 98] : List UInt8)) = true := beq_iff_eq.mpr c13
                have c13b1 : (((rd_T41 t185 0).f1).toList != ([97, 98] : List UInt8)) = false := bne_eq_false_iff_eq.mpr c13
                clear c13
                replace H := Option.bind_eq_some_iff.mp H
                obtain ⟨t206, A140, H⟩ := H
                replace H : (if t206 = 0 then ((halberdlaw0_Num.f t191).bind fun t207 => (if t207 = 1601 then ((halberdlaw0_Num.f t196).bind fun t208 => (if t208 = 1600 then ((halberdlaw0_Num.f t203).bind fun t209 => (some (t209 == 1600))) else (some false))) else (some false))) else (some false)) = some r := H
                have A14 := Aside0.mk A140
                clear A140
                by_cases c15 : t206 = 0
                · rw [if_pos c15] at H
                  have c15b0 : (t206 == 0) = true := beq_iff_eq.mpr c15
                  have c15b1 : (t206 != 0) = false := bne_eq_false_iff_eq.mpr c15
                  clear c15
                  replace H := Option.bind_eq_some_iff.mp H
                  obtain ⟨t207, A160, H⟩ := H
                  replace H : (if t207 = 1601 then ((halberdlaw0_Num.f t196).bind fun t208 => (if t208 = 1600 then ((halberdlaw0_Num.f t203).bind fun t209 => (some (t209 == 1600))) else (some false))) else (some false)) = some r := H
                  have A16 := Aside0.mk A160
                  clear A160
                  by_cases c17 : t207 = 1601
                  · rw [if_pos c17] at H
                    have c17b0 : (t207 == 1601) = true := beq_iff_eq.mpr c17
                    have c17b1 : (t207 != 1601) = false := bne_eq_false_iff_eq.mpr c17
                    clear c17
                    replace H := Option.bind_eq_some_iff.mp H
                    obtain ⟨t208, A180, H⟩ := H
                    replace H : (if t208 = 1600 then ((halberdlaw0_Num.f t203).bind fun t209 => (some (t209 == 1600))) else (some false)) = some r := H
                    have A18 := Aside0.mk A180
                    clear A180
                    by_cases c19 : t208 = 1600
                    · rw [if_pos c19] at H
                      have c19b0 : (t208 == 1600) = true := beq_iff_eq.mpr c19
                      have c19b1 : (t208 != 1600) = false := bne_eq_false_iff_eq.mpr c19
                      clear c19
                      replace H := Option.bind_eq_some_iff.mp H
                      obtain ⟨t209, A200, H⟩ := H
                      replace H : (some (t209 == 1600)) = some r := H
                      have A20 := Aside0.mk A200
                      clear A200
                      obtain rfl := Option.some.inj H
                      go_enter Try.func21, Try.ntmps21
                      go_wp2_with (first | ((with_reducible refine gate_dst (N := 14) rfl ?_); (try (refine gate_guard (by rfl) ?_; dsimp only)); refine Kd.R_lit k41 _ 41 ?hg (N := 14) ?hd (xs := ([(⟨5, (⟨#[97, 98]⟩ : ByteArray)⟩ : S41), (⟨6, (⟨#[]⟩ : ByteArray)⟩ : S41)] : List (S41))) (inner := [.int .i64 5, .string (⟨#[97, 98]⟩ : ByteArray), .int .i64 6, .string (⟨#[]⟩ : ByteArray)]) (ok := fun _ => True) (okp := fun _ => True) ?hr ?hp (fun _ hk => hk) trivial (Below.refl _ _) (Nat.le_refl _) (by simp) ?_; (case hd => rfl); (case hg => rfl); (case hr => first | (go_simp; done) | (go_simp; rfl)); (case hp => exact (Reps.c2 (show Kd.M k41 _ _ _ (⟨5, (⟨#[97, 98]⟩ : ByteArray)⟩ : S41) [.int .i64 5, .string (⟨#[97, 98]⟩ : ByteArray)] from (k41_mkM _ _ _ (⟨5, (⟨#[97, 98]⟩ : ByteArray)⟩ : S41) )) (Reps.c2 (show Kd.M k41 _ _ _ (⟨6, (⟨#[]⟩ : ByteArray)⟩ : S41) [.int .i64 6, .string (⟨#[]⟩ : ByteArray)] from (k41_mkM _ _ _ (⟨6, (⟨#[]⟩ : ByteArray)⟩ : S41) )) (Reps.none _ _)))); intro v181 w21 ho22 hb hg_ hnew_; clear hg_ hnew_; (first | rw [← Ny180.out] at ho22 | (simp only [Int.reduceToNat] at ho22; rw [← Ny180.out] at ho22)); have n0_ := Aside0.mk (Kd.R_lower ho22 (below_size (by repeat (first | (with_reducible first | exact HB.out | apply below_alloc | apply pw_below_drewN | apply below_drew1) | exact HB.out)))); have n1_ := Aside0.mk (below_step (by repeat (first | (with_reducible first | exact HB.out | apply below_alloc | apply pw_below_drewN | apply below_drew1) | exact HB.out)) hb); clear HB; have HO182 := n0_; have HB := n1_; clear n0_ n1_; clear hb ho22; obtain ⟨Ao23, co23, eo23⟩ := Kd.R_slice HO182.out; subst eo23) | ((with_reducible refine gate_callee (f := 15) rfl ?_); refine goesL_ (some 15) rfl rfl Try.func15 (by kernel_rfl) rfl #[.slice Ao23 y180.length co23] rfl (by (try simp only [List.map_toArray, List.map_cons, List.map_nil]); first | done | rfl | (simp only [List.length_drop, List.length_take]; rfl)) ?_; (with_reducible refine (ext_Put.calls k _ _ y180 t183 t184 _ ?side1 ?side2 A1.out).mono ?_); (case side1 => repeat (first | exact (Kd.R_reads' HO182.out).2.2 | (with_reducible refine Kd.C_alloc ?_ _) | (with_reducible refine Kd.C_drewN ?_ _) | (with_reducible refine Kd.C_drew ?_))); (case side2 => exact (Kd.R_reads' HO182.out).2.1); rintro e w24 ⟨rfl, hb⟩; refine ⟨_, rfl, ?_⟩; have n0_ := Aside0.mk (Kd.R_below (by (with_reducible repeat (first | apply Kd.R_alloc | apply Kd.R_drewN | apply Kd.R_drew)); exact HO182.out) hb); have n1_ := Aside0.mk (below_step (by repeat (first | (with_reducible first | exact HB.out | apply below_alloc | apply pw_below_drewN | apply below_drew1) | exact HB.out)) hb); clear HO182; clear HB; have HO182 := n0_; have HB := n1_; clear n0_ n1_; (try clear hb); (try clear hb2); (try clear hk); (try clear hi)) | ((with_reducible refine gate_callee (f := 12) rfl ?_); refine goesL_ (some 20) rfl rfl Try.func12 (by kernel_rfl) rfl #[.string t183] rfl (by (try simp only [List.map_toArray, List.map_cons, List.map_nil]); first | done | rfl | (simp only [List.length_drop, List.length_take]; rfl)) ?_; (with_reducible refine (ext_Get.calls k t183 t185 t186 _ A2.out).mono ?_); rintro e w25 ⟨v187, rfl, ho0, hb⟩; refine ⟨_, rfl, ?_⟩; have n0_ := Aside0.mk (Kd.R_elder' (by (with_reducible repeat (first | apply Kd.R_alloc | apply Kd.R_drewN | apply Kd.R_drew)); exact HO182.out) (Kd.R_base ho0) hb); have n1_ := Aside0.mk (Kd.R_lower (Kd.R_new' ho0 (Kd.R_lt (by (with_reducible repeat (first | apply Kd.R_alloc | apply Kd.R_drewN | apply Kd.R_drew)); exact HO182.out))) (below_size (by repeat (first | (with_reducible first | exact HB.out | apply below_alloc | apply pw_below_drewN | apply below_drew1) | exact HB.out)))); have n2_ := Aside0.mk (below_step (by repeat (first | (with_reducible first | exact HB.out | apply below_alloc | apply pw_below_drewN | apply below_drew1) | exact HB.out)) hb); clear HO182; clear HB; have HO182 := n0_; have HO188 := n1_; have HB := n2_; clear n0_ n1_ n2_; (try clear hb); (try clear hb2); (try clear hk); (try clear hi); (try clear ho0)) | ((with_reducible refine gate_callee (f := 12) rfl ?_); refine goesL_ (some 27) rfl rfl Try.func12 (by kernel_rfl) rfl #[.string ys189] rfl (by (try simp only [List.map_toArray, List.map_cons, List.map_nil]); first | done | rfl | (simp only [List.length_drop, List.length_take]; rfl)) ?_; (with_reducible refine (ext_Get.calls k ys189 t190 t191 _ A4.out).mono ?_); rintro e w26 ⟨v192, rfl, ho0, hb⟩; refine ⟨_, rfl, ?_⟩; have n0_ := Aside0.mk (Kd.R_elder' (by (with_reducible repeat (first | apply Kd.R_alloc | apply Kd.R_drewN | apply Kd.R_drew)); exact HO182.out) (Kd.R_base ho0) hb); have n1_ := Aside0.mk (Kd.R_elder' (by (with_reducible repeat (first | apply Kd.R_alloc | apply Kd.R_drewN | apply Kd.R_drew)); exact HO188.out) (Kd.R_base ho0) hb); have n2_ := Aside0.mk (Kd.R_lower (Kd.R_new' (Kd.R_new' ho0 (Kd.R_lt (by (with_reducible repeat (first | apply Kd.R_alloc | apply Kd.R_drewN | apply Kd.R_drew)); exact HO182.out))) (Kd.R_lt (by (with_reducible repeat (first | apply Kd.R_alloc | apply Kd.R_drewN | apply Kd.R_drew)); exact HO188.out))) (below_size (by repeat (first | (with_reducible first | exact HB.out | apply below_alloc | apply pw_below_drewN | apply below_drew1) | exact HB.out)))); have n3_ := Aside0.mk (below_step (by repeat (first | (with_reducible first | exact HB.out | apply below_alloc | apply pw_below_drewN | apply below_drew1) | exact HB.out)) hb); clear HO182; clear HO188; clear HB; have HO182 := n0_; have HO188 := n1_; have HO193 := n2_; have HB := n3_; clear n0_ n1_ n2_ n3_; (try clear hb); (try clear hb2); (try clear hk); (try clear hi); (try clear ho0)) | ((with_reducible refine gate_callee (f := 12) rfl ?_); refine goesL_ (some 33) rfl rfl Try.func12 (by kernel_rfl) rfl #[.string ys194] rfl (by (try simp only [List.map_toArray, List.map_cons, List.map_nil]); first | done | rfl | (simp only [List.length_drop, List.length_take]; rfl)) ?_; (with_reducible refine (ext_Get.calls k ys194 t195 t196 _ A6.out).mono ?_); rintro e w27 ⟨v197, rfl, ho0, hb⟩; refine ⟨_, rfl, ?_⟩; have n0_ := Aside0.mk (Kd.R_elder' (by (with_reducible repeat (first | apply Kd.R_alloc | apply Kd.R_drewN | apply Kd.R_drew)); exact HO182.out) (Kd.R_base ho0) hb); have n1_ := Aside0.mk (Kd.R_elder' (by (with_reducible repeat (first | apply Kd.R_alloc | apply Kd.R_drewN | apply Kd.R_drew)); exact HO188.out) (Kd.R_base ho0) hb); have n2_ := Aside0.mk (Kd.R_elder' (by (with_reducible repeat (first | apply Kd.R_alloc | apply Kd.R_drewN | apply Kd.R_drew)); exact HO193.out) (Kd.R_base ho0) hb); have n3_ := Aside0.mk (Kd.R_lower (Kd.R_new' (Kd.R_new' (Kd.R_new' ho0 (Kd.R_lt (by (with_reducible repeat (first | apply Kd.R_alloc | apply Kd.R_drewN | apply Kd.R_drew)); exact HO182.out))) (Kd.R_lt (by (with_reducible repeat (first | apply Kd.R_alloc | apply Kd.R_drewN | apply Kd.R_drew)); exact HO188.out))) (Kd.R_lt (by (with_reducible repeat (first | apply Kd.R_alloc | apply Kd.R_drewN | apply Kd.R_drew)); exact HO193.out))) (below_size (by repeat (first | (with_reducible first | exact HB.out | apply below_alloc | apply pw_below_drewN | apply below_drew1) | exact HB.out)))); have n4_ := Aside0.mk (below_step (by repeat (first | (with_reducible first | exact HB.out | apply below_alloc | apply pw_below_drewN | apply below_drew1) | exact HB.out)) hb); clear HO182; clear HO188; clear HO193; clear HB; have HO182 := n0_; have HO188 := n1_; have HO193 := n2_; have HO198 := n3_; have HB := n4_; clear n0_ n1_ n2_ n3_ n4_; (try clear hb); (try clear hb2); (try clear hk); (try clear hi); (try clear ho0)) | ((with_reducible refine gate_dst (N := 38) rfl ?_); (try (refine gate_guard (by rfl) ?_; dsimp only)); refine Kd.R_lit k41 _ 41 ?hg (N := 38) ?hd (xs := ([(⟨(-1), (⟨#[]⟩ : ByteArray)⟩ : S41)] : List (S41))) (inner := [.int .i64 (-1), .string (⟨#[]⟩ : ByteArray)]) (ok := fun _ => True) (okp := fun _ => True) ?hr ?hp (fun _ hk => hk) trivial (Below.refl _ _) (Nat.le_refl _) (by simp) ?_; (case hd => rfl); (case hg => rfl); (case hr => first | (go_simp; done) | (go_simp; rfl)); (case hp => exact (Reps.c2 (show Kd.M k41 _ _ _ (⟨(-1), (⟨#[]⟩ : ByteArray)⟩ : S41) [.int .i64 (-1), .string (⟨#[]⟩ : ByteArray)] from (k41_mkM _ _ _ (⟨(-1), (⟨#[]⟩ : ByteArray)⟩ : S41) )) (Reps.none _ _))); intro v200 w28 ho29 hb hg_ hnew_; clear hg_ hnew_; (first | rw [← Ny199.out] at ho29 | (simp only [Int.reduceToNat] at ho29; rw [← Ny199.out] at ho29)); have n0_ := Aside0.mk (Kd.R_elder' (by (with_reducible repeat (first | apply Kd.R_alloc | apply Kd.R_drewN | apply Kd.R_drew)); exact HO182.out) (Kd.R_base ho29) hb); have n1_ := Aside0.mk (Kd.R_elder' (by (with_reducible repeat (first | apply Kd.R_alloc | apply Kd.R_drewN | apply Kd.R_drew)); exact HO188.out) (Kd.R_base ho29) hb); have n2_ := Aside0.mk (Kd.R_elder' (by (with_reducible repeat (first | apply Kd.R_alloc | apply Kd.R_drewN | apply Kd.R_drew)); exact HO193.out) (Kd.R_base ho29) hb); have n3_ := Aside0.mk (Kd.R_elder' (by (with_reducible repeat (first | apply Kd.R_alloc | apply Kd.R_drewN | apply Kd.R_drew)); exact HO198.out) (Kd.R_base ho29) hb); have n4_ := Aside0.mk (Kd.R_lower (Kd.R_new' (Kd.R_new' (Kd.R_new' (Kd.R_new' ho29 (Kd.R_lt (by (with_reducible repeat (first | apply Kd.R_alloc | apply Kd.R_drewN | apply Kd.R_drew)); exact HO182.out))) (Kd.R_lt (by (with_reducible repeat (first | apply Kd.R_alloc | apply Kd.R_drewN | apply Kd.R_drew)); exact HO188.out))) (Kd.R_lt (by (with_reducible repeat (first | apply Kd.R_alloc | apply Kd.R_drewN | apply Kd.R_drew)); exact HO193.out))) (Kd.R_lt (by (with_reducible repeat (first | apply Kd.R_alloc | apply Kd.R_drewN | apply Kd.R_drew)); exact HO198.out))) (below_size (by repeat (first | (with_reducible first | exact HB.out | apply below_alloc | apply pw_below_drewN | apply below_drew1) | exact HB.out)))); have n5_ := Aside0.mk (below_step (by repeat (first | (with_reducible first | exact HB.out | apply below_alloc | apply pw_below_drewN | apply below_drew1) | exact HB.out)) hb); clear HO182; clear HO188; clear HO193; clear HO198; clear HB; have HO182 := n0_; have HO188 := n1_; have HO193 := n2_; have HO198 := n3_; have HO201 := n4_; have HB := n5_; clear n0_ n1_ n2_ n3_ n4_ n5_; clear hb ho29; obtain ⟨Ao30, co30, eo30⟩ := Kd.R_slice HO201.out; subst eo30) | ((with_reducible refine gate_callee (f := 15) rfl ?_); refine goesL_ (some 39) rfl rfl Try.func15 (by kernel_rfl) rfl #[.slice Ao30 y199.length co30] rfl (by (try simp only [List.map_toArray, List.map_cons, List.map_nil]); first | done | rfl | (simp only [List.length_drop, List.length_take]; rfl)) ?_; (with_reducible refine (ext_Put.calls k _ _ y199 t202 t203 _ ?side1 ?side2 A7.out).mono ?_); (case side1 => repeat (first | exact (Kd.R_reads' HO201.out).2.2 | (with_reducible refine Kd.C_alloc ?_ _) | (with_reducible refine Kd.C_drewN ?_ _) | (with_reducible refine Kd.C_drew ?_))); (case side2 => exact (Kd.R_reads' HO201.out).2.1); rintro e w31 ⟨rfl, hb⟩; refine ⟨_, rfl, ?_⟩; have n0_ := Aside0.mk (Kd.R_below (by (with_reducible repeat (first | apply Kd.R_alloc | apply Kd.R_drewN | apply Kd.R_drew)); exact HO182.out) hb); have n1_ := Aside0.mk (Kd.R_below (by (with_reducible repeat (first | apply Kd.R_alloc | apply Kd.R_drewN | apply Kd.R_drew)); exact HO188.out) hb); have n2_ := Aside0.mk (Kd.R_below (by (with_reducible repeat (first | apply Kd.R_alloc | apply Kd.R_drewN | apply Kd.R_drew)); exact HO193.out) hb); have n3_ := Aside0.mk (Kd.R_below (by (with_reducible repeat (first | apply Kd.R_alloc | apply Kd.R_drewN | apply Kd.R_drew)); exact HO198.out) hb); have n4_ := Aside0.mk (Kd.R_below (by (with_reducible repeat (first | apply Kd.R_alloc | apply Kd.R_drewN | apply Kd.R_drew)); exact HO201.out) hb); have n5_ := Aside0.mk (below_step (by repeat (first | (with_reducible first | exact HB.out | apply below_alloc | apply pw_below_drewN | apply below_drew1) | exact HB.out)) hb); clear HO182; clear HO188; clear HO193; clear HO198; clear HO201; clear HB; have HO182 := n0_; have HO188 := n1_; have HO193 := n2_; have HO198 := n3_; have HO201 := n4_; have HB := n5_; clear n0_ n1_ n2_ n3_ n4_ n5_; (try clear hb); (try clear hb2); (try clear hk); (try clear hi)) | (go_at_call 18; (with_reducible refine (halberdlaw0_Num.calls t184 t204 _ A9.out).mono ?_); rintro e w' ⟨rfl, ⟨nd, rfl⟩⟩; obtain ⟨Ao32, co32, eo32⟩ := Kd.R_slice HO188.out; subst eo32; have p205 : 0 ≤ (0 : Int) := (by omega); have q205 : 0 < (t185.length : Int) := of_decide_eq_true (by first | (with_reducible assumption) | assumption); obtain ⟨ad205, e205, hx205_0, hx205_1⟩ := at_T41 (Kd.R_reads' HO188.out).2.2 0 p205 q205; cases e205; have qi205 : (0 < t185.length) = True := eq_true (by omega); (try rw [show ((0 : Int)).toNat = 0 from rfl] at hx205_0); (try rw [show 0 * 2 = 0 from rfl] at hx205_0); (try rw [Addr.add_zero'] at hx205_0); (try rw [show ((0 : Int)).toNat = 0 from rfl] at hx205_1); (try rw [show 0 * 2 = 0 from rfl] at hx205_1); (try rw [Addr.add_zero'] at hx205_1); replace p205 := eq_true p205; replace q205 := eq_true q205) | (go_at_call 18; (with_reducible refine (halberdlaw0_Num.calls t186 t206 _ A14.out).mono ?_); rintro e w' ⟨rfl, ⟨nd, rfl⟩⟩) | (go_at_call 18; (with_reducible refine (halberdlaw0_Num.calls t191 t207 _ A16.out).mono ?_); rintro e w' ⟨rfl, ⟨nd, rfl⟩⟩) | (go_at_call 18; (with_reducible refine (halberdlaw0_Num.calls t196 t208 _ A18.out).mono ?_); rintro e w' ⟨rfl, ⟨nd, rfl⟩⟩) | (go_at_call 18; (with_reducible refine (halberdlaw0_Num.calls t203 t209 _ A20.out).mono ?_); rintro e w' ⟨rfl, ⟨nd, rfl⟩⟩))
                      go_ret
                      exact ⟨by first | rfl | (simp [errW_none, errW_some] <;> rfl) | (simp [*, errW_none, errW_some] <;> rfl), by repeat (first | (with_reducible first | exact HB.out | apply below_alloc | apply pw_below_drewN | apply below_drew1) | exact HB.out)⟩
                    · rw [if_neg c19] at H
                      have c19b0 : (t208 == 1600) = false := beq_eq_false_iff_ne.mpr c19
                      have c19b1 : (t208 != 1600) = true := bne_iff_ne.mpr c19
                      exact absurd ((Option.some.inj H).trans hr.out) (by decide)
                  · rw [if_neg c17] at H
                    have c17b0 : (t207 == 1601) = false := beq_eq_false_iff_ne.mpr c17
                    have c17b1 : (t207 != 1601) = true := bne_iff_ne.mpr c17
                    exact absurd ((Option.some.inj H).trans hr.out) (by decide)
                · rw [if_neg c15] at H
                  have c15b0 : (t206 == 0) = false := beq_eq_false_iff_ne.mpr c15
                  have c15b1 : (t206 != 0) = true := bne_iff_ne.mpr c15
                  exact absurd ((Option.some.inj H).trans hr.out) (by decide)
              · rw [if_neg c13] at H
                have c13b0 : (((rd_T41 t185 0).f1).toList == ([97, 98] : List UInt8)) = false := beq_eq_false_iff_ne.mpr c13
                have c13b1 : (((rd_T41 t185 0).f1).toList != ([97, 98] : List UInt8)) = true := bne_iff_ne.mpr c13
                exact absurd ((Option.some.inj H).trans hr.out) (by decide)
            · rw [if_neg c12] at H
              exact absurd H (by simp)
          · rw [if_neg c11] at H
            have c11b0 : ((t185.length : Int) == 2) = false := beq_eq_false_iff_ne.mpr c11
            have c11b1 : ((t185.length : Int) != 2) = true := bne_iff_ne.mpr c11
            exact absurd ((Option.some.inj H).trans hr.out) (by decide)
        · rw [if_neg c10] at H
          have c10b0 : (t204 == 0) = false := beq_eq_false_iff_ne.mpr c10
          have c10b1 : (t204 != 0) = true := bne_iff_ne.mpr c10
          exact absurd ((Option.some.inj H).trans hr.out) (by decide)
      · rw [if_neg c8] at H
        have c8b0 : (t183.toList == ([0, 5, 0, 2, 97, 98, 0, 6, 0, 0] : List UInt8)) = false := beq_eq_false_iff_ne.mpr c8
        have c8b1 : (t183.toList != ([0, 5, 0, 2, 97, 98, 0, 6, 0, 0] : List UInt8)) = true := bne_iff_ne.mpr c8
        exact absurd ((Option.some.inj H).trans hr.out) (by decide)
    · rw [if_neg c5] at H
      exact absurd H (by simp)
  · rw [if_neg c3] at H
    exact absurd H (by simp)
def halberdlaw16_awake.f : Option (Bool) := some true
theorem halberdlaw16_awake.knows : halberdlaw16_awake0.f 40 = some true := by decide +kernel
theorem halberdlaw16_awake.calls (r : Bool) (w : World) (h : halberdlaw16_awake.f = some r) : Calls Try.prog 21 #[] w fun e w' => e = .returned (.bool r) ∧ Below w.heap.size w w' := by
  obtain rfl := Option.some.inj h
  exact halberdlaw16_awake0.calls 40  true w halberdlaw16_awake.knows ⟨rfl⟩
end Go.Proofs.Ytlkebjkpmiehcaa.E
end
section
namespace Go.Proofs.Ytlkebjkpmiehcaa.Pure
open Go.RowKit Go.Proofs.Ytlkebjkpmiehcaa.E Go.Proofs.YtlkebjkpmiehcaaW.PrintWords Go.Proofs.YtlkebjkpmiehcaaW.PrintLast Go.Proofs.YtlkebjkpmiehcaaW.PrintMore
set_option linter.unusedVariables false
set_option linter.unusedSimpArgs false
theorem w64 {a : Int} (h0 : -9223372036854775808 ≤ a) (h1 : a ≤ 9223372036854775807) : wrap64 a = a := by unfold wrap64; omega
theorem ev_const {α : Type} {x : Option α} {r : α} (h : x = some r) : Ev (fun _ => x) r := ⟨0, fun _ _ => h⟩
theorem wraps_i64 : ∀ n : Int, 0 ≤ n → n < 2 ^ 63 → IntKind.i64.wrap n = n := by
  intro n h0 h1
  simp [IntKind.wrap, IntKind.bits, IntKind.signed]
  omega
def nv (s : ByteArray) (i : Int) : Nat → Int
  | 0 => 0
  | n + 1 => nv s i n * 256 + bt s (i + n)
theorem nv_bd (s : ByteArray) (i : Int) : ∀ n, 0 ≤ nv s i n ∧ nv s i n < 256 ^ n
  | 0 => by simp [nv]
  | n + 1 => by
    have h := nv_bd s i n
    have b := bt_range s (i + n)
    simp only [nv]
    rw [Int.pow_succ]
    omega
theorem nv_bd4 (s : ByteArray) (i : Int) (n : Nat) (h : n ≤ 4) : 0 ≤ nv s i n ∧ nv s i n < 4294967296 := by
  have h1 := nv_bd s i n
  refine ⟨h1.1, Int.lt_of_lt_of_le h1.2 ?_⟩
  have : n = 0 ∨ n = 1 ∨ n = 2 ∨ n = 3 ∨ n = 4 := by omega
  rcases this with rfl | rfl | rfl | rfl | rfl <;> decide
theorem or_byte {x y : Int} (h0 : 0 ≤ x) (h1 : x < 4294967296) (h2 : 0 ≤ y) (h3 : y ≤ 255) : Go.bits .or .i64 (wrap64 (x * 256)) (wrap64 y) = x * 256 + y := by
  rw [w64 (by omega) (by omega), w64 (a := y) (by omega) (by omega)]
  exact Go.bits_join .i64 63 (by decide) wraps_i64 8 (x * 256) y (by omega) (by omega) (by omega) (by omega) (by omega) (by omega)
theorem number_loop (s : ByteArray) (a : Int) (n : Nat) (ha : 0 ≤ a) (hn : n ≤ 4) (h : a + n ≤ s.size) (hs : s.size ≤ 140737488351232) :
    ∀ d j : Nat, j + d = n → Ev (fun k => wire_number.l0 k s a n (nv s a j) n j) (nv s a n, a + n, 0) := by
  intro d
  induction d with
  | zero =>
    intro j hj
    obtain rfl : j = n := by omega
    refine Ev.step (f := fun _ => some (nv s a j, a + (j : Int), 0)) (fun k => ?_) (Ev.now _)
    simp only [wire_number.l0]
    rw [if_neg (by omega), w64 (a := a + (j : Int)) (by omega) (by omega)]
  | succ d ih =>
    intro j hj
    refine Ev.step (f := fun k => wire_number.l0 k s a n (nv s a (j + 1)) n ((j + 1 : Nat) : Int)) (fun k => ?_) (ih (j + 1) (by omega))
    simp only [wire_number.l0]
    have b := bt_range s (a + (j : Int))
    have v := nv_bd4 s a j (by omega)
    rw [if_pos (by omega), w64 (a := a + (j : Int)) (by omega) (by omega), if_pos (by omega), if_pos (by omega), or_byte v.1 v.2 b.1 b.2, w64 (a := (j : Int) + 1) (by omega) (by omega)]
    rfl
def CutAt (s : ByteArray) (a : Int) (n : Int) : Prop := a < 0 ∨ a > s.size ∨ s.size - a < n
theorem number_ok {s : ByteArray} {a : Int} {n : Nat} (ha : 0 ≤ a) (hn : n ≤ 4) (h : a + n ≤ s.size) (hs : s.size ≤ 140737488351232) :
    Ev (fun k => wire_number.f k s a n) (nv s a n, a + n, 0) := by
  refine Ev.congr (f := fun k => wire_number.j0 k s a n false) (fun k => ?_) ?_
  · unfold wire_number.f
    rw [if_neg (by omega), if_neg (by omega), w64 (by omega) (by omega)]
    congr 1
    exact decide_eq_false (by omega)
  · refine Ev.step (f := fun k => wire_number.l0 k s a n 0 n 0) (fun k => ?_) (number_loop s a n ha hn h hs n 0 (by omega))
    simp only [wire_number.j0]
    rfl
theorem number_cut {s : ByteArray} {a : Int} {n : Int} (hc : CutAt s a n) (hs : s.size ≤ 140737488351232) :
    Ev (fun k => wire_number.f k s a n) (0, 0, 100) := by
  have key : Ev (fun k => wire_number.j0 k s a n true) (0, 0, 100) := Ev.step (f := fun _ => some (0, 0, 100)) (fun k => by simp only [wire_number.j0]; rfl) (Ev.now _)
  refine Ev.congr (f := fun k => wire_number.j0 k s a n true) (fun k => ?_) key
  unfold wire_number.f CutAt at *
  by_cases h0 : a < 0
  · rw [if_pos h0]
  · rw [if_neg h0]
    by_cases h1 : a > (s.size : Int)
    · rw [if_pos h1]
    · rw [if_neg h1, w64 (by omega) (by omega)]
      congr 1
      exact decide_eq_true (by omega)
theorem num_f (e : Int) : halberdlaw0_Num.f e = some e := rfl
theorem evPos {α : Type} {c : Prop} [Decidable c] {g f : Nat → Option α} {r : α} (h : c) (k : Ev g r) : Ev (fun n => if c then g n else f n) r := by
  obtain ⟨K, k⟩ := k
  exact ⟨K, fun n hn => by simp only []; rw [if_pos h]; exact k n hn⟩
theorem evNeg {α : Type} {c : Prop} [Decidable c] {g f : Nat → Option α} {r : α} (h : ¬ c) (k : Ev f r) : Ev (fun n => if c then g n else f n) r := by
  obtain ⟨K, k⟩ := k
  exact ⟨K, fun n hn => by simp only []; rw [if_neg h]; exact k n hn⟩
def numOf (s : ByteArray) (a : Int) (n : Nat) : Int × Int × Int :=
  if a < 0 ∨ a > s.size ∨ s.size - a < n then (0, 0, 100) else (nv s a n, a + n, 0)
theorem number_any (s : ByteArray) (a : Int) (n : Nat) (hn : n ≤ 4) (hs : s.size ≤ 140737488351232) : Ev (fun k => wire_number.f k s a n) (numOf s a n) := by
  unfold numOf
  by_cases hc : a < 0 ∨ a > s.size ∨ s.size - a < n
  · rw [if_pos hc]; exact number_cut hc hs
  · rw [if_neg hc]; exact number_ok (by omega) hn (by omega) hs
def vecOf (s : ByteArray) (a : Int) (n : Nat) : ByteArray × Int × Int :=
  if a < 0 ∨ a > s.size ∨ s.size - a < n then (⟨#[]⟩, 0, 100)
  else if nv s a n > s.size - (a + n) then (⟨#[]⟩, 0, 100)
  else (s.extract (a + n).toNat (a + n + nv s a n).toNat, a + n + nv s a n, 0)
theorem strOf_size (l : List Int) : (strOfNums l).size = l.length := by simp [strOfNums, ByteArray.size]
def beL : Nat → Int → List Int
  | 0, _ => []
  | n + 1, x => beL n (x / 256) ++ [x % 256]
theorem beL_length : ∀ (n : Nat) (x : Int), (beL n x).length = n
  | 0, _ => rfl
  | n + 1, x => by simp [beL, beL_length n]
theorem bytes_ok (x : Int) (n : Nat) (h0 : 1 ≤ n) (h1 : n ≤ 4) : wire_Bytes.f x n = some (strOfNums (beL n x)) := by
  have : n = 1 ∨ n = 2 ∨ n = 3 ∨ n = 4 := by omega
  rcases this with rfl | rfl | rfl | rfl <;> simp [wire_Bytes.f, beL, Int.ediv_ediv]
def putOf (x : Int) (n : Nat) : ByteArray × Int := if x < 256 ^ n then (strOfNums (beL n x), 0) else (⟨#[]⟩, 101)
theorem put_ok (x : Int) (n : Nat) (h0 : 1 ≤ n) (h1 : n ≤ 4) (hx : 0 ≤ x) : wire_Put.f x n = some (putOf x n) := by
  have hb := bytes_ok x n h0 h1
  unfold wire_Put.f putOf
  rw [if_neg (by omega), if_neg (by omega), if_neg (by omega), hb]
  have : n = 1 ∨ n = 2 ∨ n = 3 ∨ n = 4 := by omega
  rcases this with rfl | rfl | rfl | rfl <;> simp only [shr, wrap64, IntKind.bits] <;> simp <;> split <;> split <;> first | rfl | omega
theorem put_no (x n : Int) (h : n < 1 ∨ n > 4 ∨ x < 0) : wire_Put.f x n = some ((⟨#[]⟩ : ByteArray), 101) := by
  unfold wire_Put.f
  by_cases h0 : n < 1
  · rw [if_pos h0]
  · rw [if_neg h0]
    by_cases h1 : n > 4
    · rw [if_pos h1]
    · rw [if_neg h1, if_pos (by omega)]
def putVecOf (s : ByteArray) (n : Nat) : ByteArray × Int := if (s.size : Int) < 256 ^ n then (strOfNums (beL n s.size) ++ s, 0) else (⟨#[]⟩, 101)
theorem putVec_ok (s : ByteArray) (n : Nat) (h0 : 1 ≤ n) (h1 : n ≤ 3) (hs : s.size ≤ 140737488351232) : wire_PutVec.f s n = some (putVecOf s n) := by
  have hb := bytes_ok s.size n h0 (by omega)
  unfold wire_PutVec.f putVecOf
  rw [if_neg (by omega), if_neg (by omega), hb]
  simp only [Option.bind_some]
  rw [strOf_size, beL_length, if_pos (c := n + s.size ≤ 9223372036854775807) (by omega)]
  have : n = 1 ∨ n = 2 ∨ n = 3 := by omega
  rcases this with rfl | rfl | rfl <;> simp only [shr, wrap64, IntKind.bits] <;> simp <;> split <;> split <;> first | rfl | omega
def From (s : ByteArray) (p : Nat) (l : List Int) : Prop := p ≤ s.size ∧ (bytesOf s).drop p = l
theorem From.len {s : ByteArray} {p : Nat} {l : List Int} (h : From s p l) : p + l.length = s.size := by
  have := bytesOf_length s
  obtain ⟨h1, rfl⟩ := h
  rw [List.length_drop]
  omega
theorem From.skip {s : ByteArray} {p : Nat} {l m : List Int} (h : From s p (l ++ m)) : From s (p + l.length) m := by
  have hl := h.len
  refine ⟨by rw [List.length_append] at hl; omega, ?_⟩
  rw [← List.drop_drop, h.2, List.drop_left]
theorem From.start (s : ByteArray) : From s 0 (bytesOf s) := ⟨Nat.zero_le _, rfl⟩
def dupB (l : List Int) : Bool := decide (¬ l.Nodup)
theorem dupB_snoc (l : List Int) (x : Int) : dupB (l ++ [x]) = (dupB l || decide (x ∈ l)) := by
  unfold dupB
  rw [Bool.eq_iff_iff]
  have h : (l ++ [x]).Nodup ↔ l.Nodup ∧ x ∉ l := by
    rw [List.nodup_append]
    simp only [List.mem_singleton, forall_eq]
    refine ⟨fun ⟨a, _, c⟩ => ⟨a, fun h => c x h rfl⟩, fun ⟨a, c⟩ => ⟨a, List.nodup_cons.mpr ⟨List.not_mem_nil, List.nodup_nil⟩, fun y hy e => c (e ▸ hy)⟩⟩
  simp only [decide_eq_true_eq, Bool.or_eq_true, h]
  by_cases h1 : l.Nodup <;> by_cases h2 : x ∈ l <;> simp [h1, h2]
def kindsOf (l : List S41) : List Int := l.map S41.f0
theorem kinds_snoc (l : List S41) (x : S41) : kindsOf (l ++ [x]) = kindsOf l ++ [x.f0] := by simp [kindsOf]
def fin (acc : List S41) : Option (List S41) → List S41 × Int
  | none => ([], 1600)
  | some l => if dupB (kindsOf (acc ++ l)) = true then ([], 1601) else (acc ++ l, 0)
def exL (s : ByteArray) : Nat → Int → Option (List S41)
  | 0, _ => some []
  | d + 1, p => if p < s.size then
      (if (numOf s p 2).2.2 = 0 then (if (vecOf s (p + 2) 2).2.2 = 0 then (exL s d (vecOf s (p + 2) 2).2.1).map (fun l => ⟨nv s p 2, (vecOf s (p + 2) 2).1⟩ :: l) else none) else none)
      else some []
theorem wfn {x : Int} (h0 : 0 ≤ x) (h1 : x < 4294967296) : (Lit.int .i64 x).wf = true := by
  simp [Lit.wf, IntKind.min, IntKind.max, IntKind.signed, IntKind.bits]
  omega
def getOf (s : ByteArray) : List S41 × Int := fin [] (exL s (s.size + 1) 0)
def okE (x : S41) : Prop := 0 ≤ x.f0 ∧ x.f0 ≤ 65535 ∧ x.f1.size ≤ 65535
instance (x : S41) : Decidable (okE x) := by unfold okE; infer_instance
def encE (x : S41) : ByteArray := strOfNums (beL 2 x.f0) ++ (strOfNums (beL 2 x.f1.size) ++ x.f1)
def encs (l : List S41) : ByteArray := l.foldl (fun a x => a ++ encE x) ⟨#[]⟩
theorem encs_snoc (l : List S41) (x : S41) : encs (l ++ [x]) = encs l ++ encE x := by simp [encs]
theorem encE_size {x : S41} (h : okE x) : (encE x).size ≤ 65539 := by
  have := h.2.2
  unfold encE
  rw [ByteArray.size_append, ByteArray.size_append, strOf_size, strOf_size, beL_length, beL_length]
  omega
def putL (pre : List S41) : List S41 → ByteArray × Int
  | [] => if dupB (kindsOf pre) = true then (⟨#[]⟩, 1601) else (encs pre, 0)
  | x :: r => if okE x then putL (pre ++ [x]) r else (⟨#[]⟩, 1600)
theorem rd_mid (pre r : List S41) (x : S41) : rd_T41 (pre ++ x :: r) (pre.length : Int) = x := by
  simp [rd_T41, List.getD_eq_getElem?_getD]
theorem put2 {x : Int} (h0 : 0 ≤ x) (h1 : x ≤ 65535) : wire_Put.f x 2 = some (strOfNums (beL 2 x), 0) := by
  have h := put_ok x 2 (by omega) (by omega) h0
  unfold putOf at h
  rw [if_pos (by omega)] at h
  exact h
theorem put2_no {x : Int} (h : ¬ (0 ≤ x ∧ x ≤ 65535)) : wire_Put.f x 2 = some ((⟨#[]⟩ : ByteArray), 101) := by
  by_cases h0 : 0 ≤ x
  · have h := put_ok x 2 (by omega) (by omega) h0
    unfold putOf at h
    rw [if_neg (by omega)] at h
    exact h
  · exact put_no x 2 (by omega)
theorem pv2 {t : ByteArray} (ht : t.size ≤ 65535) : wire_PutVec.f t 2 = some (strOfNums (beL 2 t.size) ++ t, 0) := by
  have h := putVec_ok t 2 (by omega) (by omega) (by omega)
  unfold putVecOf at h
  rw [if_pos (by omega)] at h
  exact h
theorem pv2_no {t : ByteArray} (ht : ¬ t.size ≤ 65535) (hs : t.size ≤ 140737488351232) : wire_PutVec.f t 2 = some ((⟨#[]⟩ : ByteArray), 101) := by
  have h := putVec_ok t 2 (by omega) (by omega) hs
  unfold putVecOf at h
  rw [if_neg (by omega)] at h
  exact h
theorem put_loop : ∀ (r pre : List S41), (pre ++ r).length ≤ 16777216 → (∀ x ∈ r, x.f1.size ≤ 140737488351232) → (encs pre).size ≤ 65539 * pre.length →
    Ev (fun k => ext_Put.l0 k (encs pre) (kindsOf pre) (dupB (kindsOf pre)) (pre ++ r) ((pre ++ r).length : Int) pre.length) (putL pre r)
  | [], pre, hl, hb, he => by
    refine Ev.step (fun k => rfl) ?_
    simp only [ext_Put.l0, List.append_nil, putL]
    refine evNeg (by omega) ?_
    by_cases hu : dupB (kindsOf pre) = true
    · exact evPos hu (by rw [if_pos hu]; exact Ev.now _)
    · exact evNeg hu (by rw [if_neg hu]; exact Ev.now _)
  | x :: r, pre, hl, hb, he => by
    have hl2 : pre.length + r.length + 1 ≤ 16777216 := by simpa [Nat.add_assoc] using hl
    refine Ev.step (fun k => rfl) ?_
    simp only [ext_Put.l0, putL, rd_mid]
    refine evPos (by simp; omega) (evPos (by omega) (evPos (by simp; omega) ?_))
    have hx := hb x (by simp)
    by_cases hk : 0 ≤ x.f0 ∧ x.f0 ≤ 65535
    · refine Ev.bind (ev_const (put2 hk.1 hk.2)) ?_
      by_cases hz : x.f1.size ≤ 65535
      · refine Ev.bind (ev_const (pv2 hz)) (evPos rfl (evPos rfl ?_))
        have ho : okE x := ⟨hk.1, hk.2, hz⟩
        rw [if_pos ho]
        have hE := encE_size ho
        have hlen : (kindsOf pre).length = pre.length := by simp [kindsOf]
        have key := put_loop r (pre ++ [x]) (by simpa using hl) (fun y hy => hb y (List.mem_cons_of_mem _ hy)) (by rw [encs_snoc, ByteArray.size_append, List.length_append, List.length_singleton]; omega)
        rw [encs_snoc, kinds_snoc, dupB_snoc, List.append_assoc, List.singleton_append] at key
        have e1 : wrap64 ((pre.length : Int) + 1) = ((pre ++ [x]).length : Int) := by
          rw [w64 (by omega) (by omega), List.length_append, List.length_singleton]; omega
        have hE' : (strOfNums (beL 2 x.f0) ++ (strOfNums (beL 2 x.f1.size) ++ x.f1)).size ≤ 65539 := hE
        have hE2 : (strOfNums (beL 2 x.f0)).size + (strOfNums (beL 2 x.f1.size) ++ x.f1).size ≤ 65539 := by rw [← ByteArray.size_append]; exact hE'
        by_cases hu : dupB (kindsOf pre) = true
        · refine evPos hu (evPos (wfn hk.1 (by omega)) (evPos (by omega) (evPos (by dsimp only; omega) (Ev.bind (ev_const rfl) (evPos (by rw [ByteArray.size_append]; dsimp only; omega) ?_)))))
          rw [e1]
          rw [hu] at key
          exact key
        · refine evNeg hu (evPos (wfn hk.1 (by omega)) (evPos (by omega) (evPos (by dsimp only; omega) (Ev.bind (ev_const rfl) (evPos (by rw [ByteArray.size_append]; dsimp only; omega) ?_)))))
          rw [e1]
          have hu' : dupB (kindsOf pre) = false := by simpa using hu
          rw [hu'] at key
          exact key
      · refine Ev.bind (ev_const (pv2_no hz hx)) (evPos rfl (evNeg (by decide) ?_))
        rw [if_neg (fun h => hz h.2.2)]
        exact Ev.now _
    · rw [if_neg (fun h => hk ⟨h.1, h.2.1⟩)]
      refine Ev.bind (ev_const (put2_no hk)) ?_
      by_cases hz : x.f1.size ≤ 65535
      · exact Ev.bind (ev_const (pv2 hz)) (evNeg (by simp) (Ev.now _))
      · exact Ev.bind (ev_const (pv2_no hz hx)) (evNeg (by simp) (Ev.now _))
theorem put_any (l : List S41) (hl : l.length ≤ 16777216) (hb : ∀ x ∈ l, x.f1.size ≤ 140737488351232) : Ev (fun k => ext_Put.f k l) (putL [] l) := put_loop l [] hl hb (by simp [encs, ByteArray.size])
end Go.Proofs.Ytlkebjkpmiehcaa.Pure
end
section
namespace Go.Proofs.Ytlkebjkpmiehcaa.Ms
open Go.RowKit Go.Proofs.YtlkebjkpmiehcaaW.PrintWords Go.Proofs.YtlkebjkpmiehcaaW.PrintLast Go.Proofs.YtlkebjkpmiehcaaW.PrintMore Go.Proofs.Ytlkebjkpmiehcaa.X
open Go.Proofs.Ytlkebjkpmiehcaa.Pure (nv numOf vecOf nv_bd nv_bd4 number_any)
set_option linter.unusedVariables false
theorem xe_number : wire_number.f = E.wire_number.f := by kernel_rfl
structure Rp where
  s : ByteArray
  p : Int
  c : Int
  t : Bool
  l : Bool
abbrev RS (W : World) (r f : Nat) (R : Rp) : Prop := Rs W r f R.s R.p R.c R.t R.l
structure Rp.Ok (R : Rp) : Prop where
  lo : 0 ≤ R.p
  hi : R.p ≤ R.s.size
  sz : R.s.size ≤ 65536
def Rp.need (R : Rp) (b : Bool) : Rp := { R with c := needed R.c b }
def Rp.allow (R : Rp) (b : Bool) : Rp := { R with c := allowed R.c b }
def Rp.fail (R : Rp) (e : Int) : Rp := { R with c := bad R.c e }
def Rp.done (R : Rp) : Rp := R.need (R.p == (R.s.size : Int))
def Rp.more (R : Rp) : Bool := R.c == 0 && decide (R.p < (R.s.size : Int))
def Rp.numC (R : Rp) (n : Nat) : Int := needed R.c ((numOf R.s R.p n).2.2 == 0)
def Rp.numV (R : Rp) (n : Nat) : Int := sel (R.numC n) (numOf R.s R.p n).1 0
def Rp.numR (R : Rp) (n : Nat) : Rp := { R with p := sel (R.numC n) (numOf R.s R.p n).2.1 R.p, c := R.numC n }
def Rp.vecC (R : Rp) (n : Nat) (least most : Int) : Int := needed R.c (vecOk (vecOf R.s R.p n).1 (vecOf R.s R.p n).2.2 least most)
def Rp.vecV (R : Rp) (n : Nat) (least most : Int) : ByteArray := sel (R.vecC n least most) (vecOf R.s R.p n).1 ⟨#[]⟩
def Rp.vecR (R : Rp) (n : Nat) (least most : Int) : Rp := { R with p := sel (R.vecC n least most) (vecOf R.s R.p n).2.1 R.p, c := R.vecC n least most }
def Rp.outR (R : Rp) (n : Nat) : Rp := R.vecR n 0 16777216
def Rp.inR (R : Rp) (n : Nat) : Rp := ⟨R.vecV n 0 16777216, 0, R.vecC n 0 16777216, R.t, false⟩
def Rp.back (R I : Rp) : Rp := { R with c := I.c, t := I.t }
def Rp.bytC (R : Rp) (n : Int) : Int := needed R.c (decide (n ≤ (R.s.size : Int) - R.p))
def Rp.bytV (R : Rp) (n : Int) : ByteArray := sel (R.bytC n) (R.s.extract R.p.toNat (R.p + n).toNat) ⟨#[]⟩
def Rp.bytR (R : Rp) (n : Int) : Rp := { R with p := sel (R.bytC n) (R.p + n) R.p, c := R.bytC n }
theorem needed_zero {c : Int} {b : Bool} (h : needed c b = 0) : c = 0 ∧ b = true := by
  unfold needed bad at h
  cases b
  · simp only [Bool.false_eq_true, if_false] at h
    split at h
    · simp at h
    · exact absurd h ‹_›
  · exact ⟨h, rfl⟩
theorem Rp.Ok.need {R : Rp} (h : R.Ok) (b : Bool) : (R.need b).Ok := ⟨h.lo, h.hi, h.sz⟩
theorem Rp.Ok.allow {R : Rp} (h : R.Ok) (b : Bool) : (R.allow b).Ok := ⟨h.lo, h.hi, h.sz⟩
theorem Rp.Ok.fail {R : Rp} (h : R.Ok) (e : Int) : (R.fail e).Ok := ⟨h.lo, h.hi, h.sz⟩
theorem Rp.Ok.done {R : Rp} (h : R.Ok) : R.done.Ok := ⟨h.lo, h.hi, h.sz⟩
theorem Rp.Ok.back {R : Rp} (h : R.Ok) (I : Rp) : (R.back I).Ok := ⟨h.lo, h.hi, h.sz⟩
theorem num_ok {s : ByteArray} {p : Int} {n : Nat} (h0 : 0 ≤ p) (h1 : p ≤ s.size) : (numOf s p n).2.2 = 0 ∧ numOf s p n = (nv s p n, p + n, 0) ∧ p + n ≤ s.size ∨ (numOf s p n) = (0, 0, 100) := by
  unfold numOf
  by_cases hc : p < 0 ∨ p > s.size ∨ s.size - p < n
  · rw [if_pos hc]
    exact .inr rfl
  · rw [if_neg hc]
    exact .inl ⟨rfl, rfl, by omega⟩
theorem Rp.numV_bd (R : Rp) (n : Nat) : 0 ≤ R.numV n ∧ R.numV n < 256 ^ n := by
  have hp : (0 : Int) < 256 ^ n := by exact Int.pow_pos (by decide)
  unfold Rp.numV sel numOf
  repeat' split
  all_goals first | exact nv_bd _ _ _ | exact ⟨by simp, hp⟩
theorem Rp.Ok.numR {R : Rp} (h : R.Ok) (n : Nat) : (R.numR n).Ok := by
  refine ⟨?_, ?_, h.sz⟩ <;> (unfold Rp.numR sel; dsimp only; split)
  all_goals rename_i hc
  all_goals first | exact h.lo | exact h.hi | skip
  all_goals
    have hz := (needed_zero hc).2
    rcases num_ok (s := R.s) (p := R.p) (n := n) h.lo h.hi with ⟨_, h2, h3⟩ | h2
    · rw [h2]
      have := h.lo
      first | exact h3 | (show 0 ≤ R.p + (n : Int); omega)
    · rw [h2] at hz
      exact absurd hz (by decide)
theorem vec_bd' {s : ByteArray} {p : Int} {n : Nat} (h0 : 0 ≤ p) (h : (vecOf s p n).2.2 = 0) : p + n ≤ (vecOf s p n).2.1 ∧ (vecOf s p n).2.1 ≤ s.size ∧ ((vecOf s p n).1.size : Int) = (vecOf s p n).2.1 - (p + n) ∧ nv s p n = (vecOf s p n).1.size := by
  unfold vecOf at h ⊢
  have v := nv_bd s p n
  by_cases hc : p < 0 ∨ p > s.size ∨ s.size - p < n
  · rw [if_pos hc] at h
    simp at h
  · rw [if_neg hc] at h ⊢
    by_cases hl : nv s p n > s.size - (p + n)
    · rw [if_pos hl] at h
      simp at h
    · rw [if_neg hl]
      have e : (s.extract (p + n).toNat (p + n + nv s p n).toNat).size = (nv s p n).toNat := by
        rw [ByteArray.size_extract]
        omega
      simp only [e]
      omega
theorem vecC_zero {R : Rp} {n : Nat} {least most : Int} (h : R.vecC n least most = 0) : R.c = 0 ∧ (vecOf R.s R.p n).2.2 = 0 ∧ least ≤ (vecOf R.s R.p n).1.size ∧ ((vecOf R.s R.p n).1.size : Int) ≤ most := by
  obtain ⟨h1, h2⟩ := needed_zero h
  unfold vecOk at h2
  simp only [Bool.and_eq_true, beq_iff_eq, decide_eq_true_eq] at h2
  exact ⟨h1, h2.1.1, h2.1.2, h2.2⟩
theorem Rp.Ok.vecR {R : Rp} (h : R.Ok) (n : Nat) (least most : Int) : (R.vecR n least most).Ok := by
  refine ⟨?_, ?_, h.sz⟩ <;> (unfold Rp.vecR sel; dsimp only; split)
  all_goals rename_i hc
  all_goals first | exact h.lo | exact h.hi | skip
  all_goals
    obtain ⟨h2, h3, _⟩ := vec_bd' h.lo (vecC_zero hc).2.1
    have := h.lo
    first | exact h3 | omega
theorem Rp.vecV_size {R : Rp} (h : R.Ok) (n : Nat) (least most : Int) : (R.vecV n least most).size ≤ R.s.size := by
  unfold Rp.vecV sel
  split
  · rename_i hc
    have hb := vec_bd' h.lo (vecC_zero hc).2.1
    have := h.lo
    omega
  · exact Nat.zero_le _
theorem Rp.Ok.inR {R : Rp} (h : R.Ok) (n : Nat) : (R.inR n).Ok := ⟨Int.le_refl _, by show (0 : Int) ≤ _; omega, Nat.le_trans (Rp.vecV_size h n 0 16777216) h.sz⟩
theorem Rp.Ok.outR {R : Rp} (h : R.Ok) (n : Nat) : (R.outR n).Ok := h.vecR n 0 16777216
theorem Rp.Ok.bytR {R : Rp} (h : R.Ok) {n : Int} (hn : 0 ≤ n) : (R.bytR n).Ok := by
  have h1 := h.lo
  have h2 := h.hi
  refine ⟨?_, ?_, h.sz⟩ <;> (unfold Rp.bytR sel; dsimp only; split)
  · omega
  · exact h1
  · rename_i hc
    have h3 := of_decide_eq_true (needed_zero hc).2
    omega
  · exact h2
theorem ev_at {α : Type} {f : Nat → Option α} {r : α} (h : Ev f r) : ∃ k, f k = some r := by
  obtain ⟨K, h⟩ := h
  exact ⟨K, h K (Nat.le_refl _)⟩
theorem num_at (n : Nat) (s : ByteArray) (p : Int) (h4 : n ≤ 4) (hs : s.size ≤ 65536) : ∃ k, wire_number.f k s p n = some (numOf s p n) := by
  rw [xe_number]
  exact ev_at (number_any s p n h4 (by omega))
section
variable (lo r f : Nat) (R : Rp) (w : World)
theorem u8_c (hl : lo ≤ f) (hl2 : lo ≤ r) (h : RS w r f R) (ho : R.Ok) :
    Calls Try.prog 75 #[.pointer (some ⟨r, 0, none⟩)] w fun ex w' => ex = .returned (.int .i64 (R.numV 1)) ∧ RS w' r f (R.numR 1) ∧ Kf lo r f w w' := by
  obtain ⟨k, hk⟩ := num_at 1 R.s R.p (by omega) ho.sz
  exact u8_calls lo r f R.s R.p R.c R.t R.l w hl hl2 h k _ _ _ (by unfold wire_U8.f; rw [show ((1 : Nat) : Int) = 1 from rfl] at hk; rw [hk]; rfl)
theorem allow_c (b : Bool) (hl : lo ≤ f) (h : RS w r f R) :
    Calls Try.prog 76 #[.pointer (some ⟨r, 0, none⟩), .bool b] w fun ex w' => ex = .returned (.tuple #[]) ∧ RS w' r f (R.allow b) ∧ Kf lo r f w w' := allow_calls lo r f R.s R.p R.c R.t R.l b w hl h
theorem fail_c (e : Int) (hl : lo ≤ f) (h : RS w r f R) :
    Calls Try.prog 50 #[.pointer (some ⟨r, 0, none⟩), .int .i64 e] w fun ex w' => ex = .returned (.tuple #[]) ∧ RS w' r f (R.fail e) ∧ Kf lo r f w w' := fail_calls lo r f R.s R.p R.c e R.t R.l w hl h
theorem done_c (hl : lo ≤ f) (h : RS w r f R) :
    Calls Try.prog 77 #[.pointer (some ⟨r, 0, none⟩)] w fun ex w' => ex = .returned (.tuple #[]) ∧ RS w' r f R.done ∧ Kf lo r f w w' := done_calls lo r f R.s R.p R.c R.t R.l w hl h
theorem ok_c (h : RS w r f R) :
    Calls Try.prog 51 #[.pointer (some ⟨r, 0, none⟩)] w fun ex w' => ex = .returned (.bool (R.c == 0)) ∧ w' = w := ok_calls 0 r f R.s R.p R.c R.t R.l w h
end
end Go.Proofs.Ytlkebjkpmiehcaa.Ms
end
section
namespace Go.Proofs.Ytlkebjkpmiehcaa.Ms
open Go.RowKit Go.Proofs.YtlkebjkpmiehcaaW.PrintWords Go.Proofs.YtlkebjkpmiehcaaW.PrintLast Go.Proofs.YtlkebjkpmiehcaaW.PrintMore Go.Proofs.Ytlkebjkpmiehcaa.X
open Go.Proofs.Ytlkebjkpmiehcaa.Pure (nv numOf vecOf nv_bd nv_bd4 number_any)
set_option linter.unusedVariables false
theorem RS.sz {W : World} {r f : Nat} {R : Rp} (h : RS W r f R) : r < W.heap.size ∧ f < W.heap.size := ⟨blk_lt h.rd, blk_lt h.ft⟩
theorem RS.wsz {W : World} {r f lo : Nat} {R : Rp} (h : RS W r f R) (hl : lo ≤ f) : lo ≤ W.heap.size := Nat.le_of_lt (Nat.lt_of_le_of_lt hl (blk_lt h.ft))
theorem RS.back {w1 w2 : World} {lo r r2 f : Nat} {P I I' : Rp} (h : RS w1 r f P) (hn : r ≠ r2) (k : Kf lo r2 f w1 w2) (h2 : RS w2 r2 f I') : RS w2 r f (P.back I') := ⟨k.keep r _ h.rd hn h.ne, h2.ft⟩
theorem Kf.inner {lo r r2 f : Nat} {w w1 w2 : World} (h : Kf lo r f w w1) (hn : w.heap.size ≤ r2) (k : Kf lo r2 f w1 w2) : Kf lo r f w w2 :=
  ⟨h.below.trans k.below, fun i o hi hr hf => k.keep i o (h.keep i o hi hr hf) (by have := blk_lt hi; omega) hf⟩
theorem Kf.size {lo r f : Nat} {w w1 : World} (h : Kf lo r f w w1) : w.heap.size ≤ w1.heap.size := h.below.size
def Rp.verR (R : Rp) : Rp := (R.numR 2).allow (R.numV 2 == 771)
theorem Rp.Ok.verR {R : Rp} (h : R.Ok) : R.verR.Ok := (h.numR 2).allow _
def Rp.barE (R : Rp) : Int := (Go.Proofs.Ytlkebjkpmiehcaa.Pure.getOf (R.vecV 2 0 65536)).2
def Rp.setT (R : Rp) : Rp := { R with t := true }
def Rp.barR (R : Rp) : Rp := if R.barE = 1601 then (R.vecR 2 0 65536).setT else if R.barE = 1600 then (R.vecR 2 0 65536).fail 1700 else R.vecR 2 0 65536
theorem Rp.Ok.barR {R : Rp} (h : R.Ok) : R.barR.Ok := by
  unfold Rp.barR
  have h2 := h.vecR 2 0 65536
  split
  · exact ⟨h2.lo, h2.hi, h2.sz⟩
  · split
    · exact h2.fail _
    · exact h2
section
variable {ops : Array Oper} {rest : List Oper} {o : Oper} {a : Act} {Q : Exit → Act → World → Prop} {w : World}
theorem wsz66 : (Try.prog.info? 66).map (·.size) = some 2 := by kernel_rfl
theorem wsz111 : (Try.prog.info? 111).map (·.size) = some 2 := by kernel_rfl
theorem allocT {t : TypeId} {zs : Array Value} (hz : (Try.prog.info? t).map (·.zero) = some (some (.agg zs))) (hgd : o.guard = none) (ho : o.op = .alloc t)
    (H : ∀ g, g = w.heap.size → ∀ w1, w1.heap[g]? = some (.cells zs t (0, 0)) → Below w.heap.size w w1 → wpList Try.prog ops Q rest (a.put o.dst (.pointer (some ⟨g, 0, none⟩))) w1) : wpList Try.prog ops Q (o :: rest) a w := by
  refine Kd.event_run hgd ?_ (H _ rfl _ (blk_new w (.cells zs t)) (below_alloc (Below.refl _ _) _))
  obtain ⟨i0, hi, hz⟩ := Option.map_eq_some_iff.1 hz
  unfold execOp
  simp only [ho, Instr.alloc, zeroValue, typeInfo, Sem.run_bind]
  simp [hi, hz]
  rfl
theorem stRow2 {n : TypeId} (hsz : (Try.prog.info? n).map (·.size) = some 2) (hgd : o.guard = none) {p x : Operand} (ho : o.op = .store n p x) {g : Nat} (hp : a.eval p = .pointer (some ⟨g, 0, none⟩))
    {cs zs : Array Value} (hx : a.eval x = .agg cs) {t : TypeId} (h : w.heap[g]? = some (.cells zs t (0, 0))) (hz : zs.size = 2) (hc : cs.size = 2) (h1 : cs.toList.all (·.oneCell') = true)
    (H : ∀ w1, w1.heap[g]? = some (.cells cs t (0, 0)) → (∀ lo, lo ≤ g → Below lo w w1) → KeepBut w w1 g none → wpList Try.prog ops Q rest (a.put o.dst undef) w1) : wpList Try.prog ops Q (o :: rest) a w := by
  refine wpList_plain hgd fun K hK => wp_store_row n p x ho g cs hp hx t zs h (by rw [hc]; exact hsz) (by rw [hz, hc]) (by rw [← Array.all_toList]; exact h1) (hK _ _ (H _ ?_ ?_ ?_))
  · simp [World.setRow, Array.getElem?_modify, h]
  · intro lo hl
    refine ⟨rfl, rfl, rfl, by simp [World.setRow], fun k hk => ?_⟩
    simp only [World.setRow, Array.getElem?_modify]
    rw [if_neg (by omega)]
  · refine ⟨by simp [World.setRow], fun k hk hne _ => ?_⟩
    simp only [World.setRow, Array.getElem?_modify]
    rw [if_neg (Ne.symm hne)]
end
def Rp.shaV (R : Rp) : S66 := ⟨R.numV 2, (R.numR 2).vecV 2 1 65536⟩
def Rp.shaR (R : Rp) : Rp := (R.numR 2).vecR 2 1 65536
def Rp.ideV (R : Rp) : S111 := ⟨R.vecV 2 1 65536, (R.vecR 2 1 65536).numV 4⟩
def Rp.ideR (R : Rp) : Rp := (R.vecR 2 1 65536).numR 4
theorem Rp.Ok.shaR {R : Rp} (h : R.Ok) : R.shaR.Ok := (h.numR 2).vecR _ _ _
theorem Rp.Ok.ideR {R : Rp} (h : R.Ok) : R.ideR.Ok := (h.vecR _ _ _).numR 4
def Rp.nam1 (R : Rp) : Rp := ((R.inR 2).numR 1).need ((R.inR 2).numV 1 == 0)
def Rp.namV (R : Rp) : ByteArray := R.nam1.vecV 2 1 64
def Rp.namR (R : Rp) : Rp := (R.outR 2).back (R.nam1.vecR 2 1 64).done
theorem Rp.Ok.nam1 {R : Rp} (h : R.Ok) : R.nam1.Ok := ((h.inR 2).numR 1).need _
theorem Rp.Ok.namR {R : Rp} (h : R.Ok) : R.namR.Ok := (h.outR 2).back _
def Rp.cerV (R : Rp) : ByteArray := R.vecV 3 1 16777216
def Rp.cerR (R : Rp) : Rp := (R.vecR 3 1 16777216).barR
def Rp.binV (R : Rp) : ByteArray := R.vecV 1 32 255
def Rp.binR (R : Rp) : Rp := R.vecR 1 32 255
theorem Rp.Ok.cerR {R : Rp} (h : R.Ok) : R.cerR.Ok := (h.vecR _ _ _).barR
theorem Rp.Ok.binR {R : Rp} (h : R.Ok) : R.binR.Ok := h.vecR _ _ _
end Go.Proofs.Ytlkebjkpmiehcaa.Ms
end
section
namespace Go.Proofs.Ytlkebjkpmiehcaa.Ms
open Go.RowKit Go.Proofs.YtlkebjkpmiehcaaW.PrintWords Go.Proofs.YtlkebjkpmiehcaaW.PrintLast Go.Proofs.YtlkebjkpmiehcaaW.PrintMore Go.Proofs.Ytlkebjkpmiehcaa.X
open Go.Proofs.Ytlkebjkpmiehcaa.Pure (nv numOf vecOf nv_bd nv_bd4 number_any)
set_option linter.unusedVariables false
def Rp.mu (R : Rp) : Nat := if R.c = 0 then (R.s.size - R.p.toNat) else 0
structure OneOk {α : Type} (one : Rp → α × Rp) : Prop where
  ok : ∀ R, R.Ok → (one R).2.Ok
  mu : ∀ R, R.Ok → R.more = true → (one R).2.mu < R.mu
  st : ∀ R, R.Ok → (one R).2.c = 0 → R.c = 0
def rAll {α : Type} (one : Rp → α × Rp) : Nat → Rp → List α × Rp
  | 0, R => ([], R)
  | k + 1, R => if R.more = true then ((one R).1 :: (rAll one k (one R).2).1, (rAll one k (one R).2).2) else ([], R)
def allV {α : Type} (one : Rp → α × Rp) (R : Rp) : List α := (rAll one R.s.size R).1
def allR {α : Type} (one : Rp → α × Rp) (R : Rp) : Rp := (rAll one R.s.size R).2
def Rp.lst (R : Rp) (n : Nat) : Rp := (R.inR n).need (decide (0 < (R.inR n).s.size))
def lstV {α : Type} (one : Rp → α × Rp) (R : Rp) (n : Nat) : List α := allV one (R.lst n)
def lstR {α : Type} (one : Rp → α × Rp) (R : Rp) (n : Nat) : Rp := (R.outR n).back (allR one (R.lst n))
theorem rAll_ok {α : Type} {one : Rp → α × Rp} (h : OneOk one) : ∀ (k : Nat) (R : Rp), R.Ok → (rAll one k R).2.Ok
  | 0, _, ho => ho
  | k + 1, R, ho => by
    unfold rAll
    split
    · exact rAll_ok h k _ (h.ok R ho)
    · exact ho
theorem Rp.Ok.allR {α : Type} {one : Rp → α × Rp} (h : OneOk one) {R : Rp} (ho : R.Ok) : (Ms.allR one R).Ok := rAll_ok h _ R ho
theorem Rp.Ok.lst {R : Rp} (ho : R.Ok) (n : Nat) : (R.lst n).Ok := (ho.inR n).need _
theorem Rp.Ok.lstR {α : Type} {one : Rp → α × Rp} {R : Rp} (ho : R.Ok) (n : Nat) : (Ms.lstR one R n).Ok := (ho.outR n).back _
def oneNum (n : Nat) (R : Rp) : Int × Rp := (R.numV n, R.numR n)
def oneSha (R : Rp) : S66 × Rp := (R.shaV, R.shaR)
def oneIde (R : Rp) : S111 × Rp := (R.ideV, R.ideR)
def oneCer (R : Rp) : ByteArray × Rp := (R.cerV, R.cerR)
def oneBin (R : Rp) : ByteArray × Rp := (R.binV, R.binR)
theorem Kf.over {lo r f B : Nat} {w W w1 : World} (h : Kf lo r f w W) (hb : Below B W w1) (hl : lo ≤ B) (hB : w.heap.size ≤ B) : Kf lo r f w w1 :=
  ⟨h.below.trans (hb.mono hl), fun i o hi hr hf => (hb.block i (Nat.lt_of_lt_of_le (blk_lt hi) hB)).trans (h.keep i o hi hr hf)⟩
theorem RS.over {W w1 : World} {r f B : Nat} {R : Rp} (h : RS W r f R) (hb : Below B W w1) (hr : r < B) (hf : f < B) : RS w1 r f R := ⟨(hb.block r hr).trans h.rd, (hb.block f hf).trans h.ft⟩
end Go.Proofs.Ytlkebjkpmiehcaa.Ms
end
section
namespace Go.Proofs.Ytlkebjkpmiehcaa.Ms
open Go.RowKit Go.Proofs.YtlkebjkpmiehcaaW.PrintWords Go.Proofs.YtlkebjkpmiehcaaW.PrintLast Go.Proofs.YtlkebjkpmiehcaaW.PrintMore Go.Proofs.Ytlkebjkpmiehcaa.X
set_option linter.unusedVariables false
structure Mv where
  f0 : Int
  f1 : ByteArray
  f2 : ByteArray
  f3 : List Int
  f4 : ByteArray
  f5 : List Int
  f6 : List Int
  f7 : List Int
  f8 : List Int
  f9 : List S66
  f10 : List S111
  f11 : List ByteArray
  f12 : Int
  f13 : List Int
  f14 : List ByteArray
  f15 : Int
  f16 : ByteArray
  f17 : Int
  f18 : Int
  f19 : ByteArray
  f20 : Int
structure Hd where
  A3 : Option Addr
  c3 : Nat
  A5 : Option Addr
  c5 : Nat
  A6 : Option Addr
  c6 : Nat
  A7 : Option Addr
  c7 : Nat
  A8 : Option Addr
  c8 : Nat
  A9 : Option Addr
  c9 : Nat
  A10 : Option Addr
  c10 : Nat
  A11 : Option Addr
  c11 : Nat
  A13 : Option Addr
  c13 : Nat
  A14 : Option Addr
  c14 : Nat
def cells (m : Mv) (h : Hd) : Array Value := #[.int .i64 m.f0, .string m.f1, .string m.f2, .slice h.A3 m.f3.length h.c3, .string m.f4, .slice h.A5 m.f5.length h.c5, .slice h.A6 m.f6.length h.c6, .slice h.A7 m.f7.length h.c7, .slice h.A8 m.f8.length h.c8, .slice h.A9 m.f9.length h.c9, .slice h.A10 m.f10.length h.c10, .slice h.A11 m.f11.length h.c11, .int .i64 m.f12, .slice h.A13 m.f13.length h.c13, .slice h.A14 m.f14.length h.c14, .int .i64 m.f15, .string m.f16, .int .i64 m.f17, .int .i64 m.f18, .string m.f19, .int .i64 m.f20]
structure Reads (w : World) (m : Mv) (h : Hd) : Prop where
  r3 : Kd.C (Kd.int .i64) w h.A3 m.f3.length m.f3
  l3 : m.f3.length ≤ h.c3
  r5 : Kd.C (Kd.int .i64) w h.A5 m.f5.length m.f5
  l5 : m.f5.length ≤ h.c5
  r6 : Kd.C (Kd.int .i64) w h.A6 m.f6.length m.f6
  l6 : m.f6.length ≤ h.c6
  r7 : Kd.C (Kd.int .i64) w h.A7 m.f7.length m.f7
  l7 : m.f7.length ≤ h.c7
  r8 : Kd.C (Kd.int .i64) w h.A8 m.f8.length m.f8
  l8 : m.f8.length ≤ h.c8
  r9 : Kd.C k66 w h.A9 m.f9.length m.f9
  l9 : m.f9.length ≤ h.c9
  r10 : Kd.C k111 w h.A10 m.f10.length m.f10
  l10 : m.f10.length ≤ h.c10
  r11 : Kd.C Kd.string w h.A11 m.f11.length m.f11
  l11 : m.f11.length ≤ h.c11
  r13 : Kd.C (Kd.int .i64) w h.A13 m.f13.length m.f13
  l13 : m.f13.length ≤ h.c13
  r14 : Kd.C Kd.string w h.A14 m.f14.length m.f14
  l14 : m.f14.length ≤ h.c14
theorem Reads.below {w w2 : World} {m : Mv} {h : Hd} (r : Reads w m h) (b : Below w.heap.size w w2) : Reads w2 m h := ⟨Kd.C_below r.r3 b, r.l3, Kd.C_below r.r5 b, r.l5, Kd.C_below r.r6 b, r.l6, Kd.C_below r.r7 b, r.l7, Kd.C_below r.r8 b, r.l8, Kd.C_below r.r9 b, r.l9, Kd.C_below r.r10 b, r.l10, Kd.C_below r.r11 b, r.l11, Kd.C_below r.r13 b, r.l13, Kd.C_below r.r14 b, r.l14⟩
def Mv.unused (m : Mv) : Mv := if m.f0 = 1 then { m with f4 := ByteArray.empty, f7 := [], f8 := [], f10 := [], f11 := [], f1 := ByteArray.empty, f2 := ByteArray.empty, f3 := [], f5 := [], f6 := [], f9 := [] } else if m.f0 = 2 then { m with f12 := 0, f1 := ByteArray.empty, f2 := ByteArray.empty, f3 := [], f5 := [], f6 := [], f9 := [] } else if m.f0 = 11 then { m with f14 := [] } else if m.f0 = 4 then { m with f17 := 0, f18 := 0, f19 := ByteArray.empty, f16 := ByteArray.empty } else if m.f0 = 20 then { m with f16 := ByteArray.empty } else if m.f0 = 15 then { m with f15 := 0, f16 := ByteArray.empty } else if m.f0 = 24 then { m with f20 := 0 } else m
def Hd.unused (m : Mv) (h : Hd) : Hd := if m.f0 = 1 then { h with A7 := none, c7 := 0, A8 := none, c8 := 0, A10 := none, c10 := 0, A11 := none, c11 := 0, A3 := none, c3 := 0, A5 := none, c5 := 0, A6 := none, c6 := 0, A9 := none, c9 := 0 } else if m.f0 = 2 then { h with A3 := none, c3 := 0, A5 := none, c5 := 0, A6 := none, c6 := 0, A9 := none, c9 := 0 } else if m.f0 = 11 then { h with A14 := none, c14 := 0 } else if m.f0 = 4 then h else if m.f0 = 20 then h else if m.f0 = 15 then h else if m.f0 = 24 then h else h
theorem sz3 : (Try.prog.info? 3).map (·.size) = some 1 := by kernel_rfl
theorem sz9 : (Try.prog.info? 9).map (·.size) = some 1 := by kernel_rfl
theorem sz44 : (Try.prog.info? 44).map (·.size) = some 1 := by kernel_rfl
theorem sz45 : (Try.prog.info? 45).map (·.size) = some 1 := by kernel_rfl
theorem sz46 : (Try.prog.info? 46).map (·.size) = some 1 := by kernel_rfl
theorem sz47 : (Try.prog.info? 47).map (·.size) = some 1 := by kernel_rfl
theorem sz49 : (Try.prog.info? 49).map (·.size) = some 21 := by kernel_rfl
theorem C_nil {α : Type} (d : Kd α) (w : World) : Kd.C d w none 0 [] := Kd.C_nil _ _
def zcells : Array Value := #[.int .i64 0, .string ⟨#[]⟩, .string ⟨#[]⟩, .slice none 0 0, .string ⟨#[]⟩, .slice none 0 0, .slice none 0 0, .slice none 0 0, .slice none 0 0, .slice none 0 0, .slice none 0 0, .slice none 0 0, .int .i64 0, .slice none 0 0, .slice none 0 0, .int .i64 0, .string ⟨#[]⟩, .int .i64 0, .int .i64 0, .string ⟨#[]⟩, .int .i64 0]
theorem box49 {ops : Array Oper} {rest : List Oper} {o : Oper} {a : Act} {Q : Exit → Act → World → Prop} {w : World} {x : Operand} (hgd : o.guard = none) (ho : o.op = .box 49 x) {cs : Array Value} (hx : a.eval x = .agg cs)
    (H : ∀ g, g = w.heap.size → ∀ w1, w1.heap[g]? = some (.cells cs 49 (0, 0)) → Below w.heap.size w w1 → wpList Try.prog ops Q rest (a.put o.dst (.pointer (some ⟨g, 0, none⟩))) w1) : wpList Try.prog ops Q (o :: rest) a w := by
  refine Kd.event_run hgd ?_ (H _ rfl _ (blk_new w _) (below_alloc (Below.refl _ _) _))
  unfold execOp
  simp only [ho, hx]
  rfl
theorem zero49 : (Try.prog.info? 49).map (·.zero) = some (some (.agg #[.int .i64 0, .string ⟨#[]⟩, .string ⟨#[]⟩, .slice none 0 0, .string ⟨#[]⟩, .slice none 0 0, .slice none 0 0, .slice none 0 0, .slice none 0 0, .slice none 0 0, .slice none 0 0, .slice none 0 0, .int .i64 0, .slice none 0 0, .slice none 0 0, .int .i64 0, .string ⟨#[]⟩, .int .i64 0, .int .i64 0, .string ⟨#[]⟩, .int .i64 0])) := by kernel_rfl
theorem alloc49 {ops : Array Oper} {rest : List Oper} {o : Oper} {a : Act} {Q : Exit → Act → World → Prop} {w : World} (hgd : o.guard = none) (ho : o.op = .alloc 49)
    (H : ∀ g, g = w.heap.size → ∀ cs, cs.size = 21 → ∀ w1, w1.heap[g]? = some (.cells cs 49 (0, 0)) → Below w.heap.size w w1 → wpList Try.prog ops Q rest (a.put o.dst (.pointer (some ⟨g, 0, none⟩))) w1) : wpList Try.prog ops Q (o :: rest) a w := by
  refine Kd.event_run hgd ?_ (H _ rfl zcells rfl _ (blk_new w (.cells zcells 49)) (below_alloc (Below.refl _ _) _))
  obtain ⟨i0, hi, hz⟩ := Option.map_eq_some_iff.1 zero49
  unfold execOp
  simp only [ho, Instr.alloc, zeroValue, typeInfo, Sem.run_bind]
  simp [hi, hz]
  rfl
def Mv.texts (m : Mv) : Nat := m.f1.size + m.f2.size + m.f4.size + m.f16.size + m.f19.size
def Mv.lists (m : Mv) : Nat := m.f3.length + m.f5.length + m.f6.length + m.f7.length + m.f8.length + m.f9.length + m.f10.length + m.f11.length + m.f13.length + m.f14.length
def Mv.zero (m : Mv) : Bool := m.texts == 0 && m.lists == 0 && m.f12 == 0 && m.f15 == 0 && m.f17 == 0 && m.f18 == 0 && m.f20 == 0
theorem zero_f (m : Mv) (ht : m.texts ≤ 9223372036854775807) (hl : m.lists ≤ 9223372036854775807) : msg_zero.f m.f0 m.f1 m.f2 m.f3 m.f4 m.f5 m.f6 m.f7 m.f8 m.f9 m.f10 m.f11 m.f12 m.f13 m.f14 m.f15 m.f16 m.f17 m.f18 m.f19 m.f20 = some m.zero := by
  unfold Mv.texts at ht
  unfold Mv.lists at hl
  have e (s : ByteArray) : (s.toList = ([] : List UInt8)) ↔ s.size = 0 := by
    rw [ByteArray.toList_eq]
    exact ⟨fun h => by have := congrArg List.length h; simpa using this, fun h => List.eq_nil_of_length_eq_zero (by simpa using h)⟩
  have w64 (x : Int) (h0 : 0 ≤ x) (h1 : x ≤ 9223372036854775807) : wrap64 x = x := (i64_w x).symm.trans (IntWalk.i64_in x (by omega))
  unfold msg_zero.f Mv.zero Mv.texts Mv.lists
  simp only [Option.bind_some, ByteArray.size_append, e]
  rw [if_pos (by omega), if_pos (by omega), if_pos (by omega), if_pos (by omega)]
  simp (disch := omega) only [w64]
  by_cases h1 : m.f1.size + m.f2.size + m.f4.size + m.f16.size + m.f19.size = 0
  · rw [if_pos h1]
    by_cases h2 : m.f3.length + m.f5.length + m.f6.length + m.f7.length + m.f8.length + m.f9.length + m.f10.length + m.f11.length + m.f13.length + m.f14.length = 0
    · rw [if_pos (by omega)]
      by_cases h3 : m.f12 = 0 <;> by_cases h4 : m.f15 = 0 <;> by_cases h5 : m.f17 = 0 <;> by_cases h6 : m.f18 = 0 <;> simp [h1, h2, h3, h4, h5, h6]
    · rw [if_neg (by omega)]
      rw [show ((m.f3.length + m.f5.length + m.f6.length + m.f7.length + m.f8.length + m.f9.length + m.f10.length + m.f11.length + m.f13.length + m.f14.length) == 0) = false from beq_eq_false_iff_ne.mpr h2]
      simp
  · rw [if_neg h1]
    rw [show ((m.f1.size + m.f2.size + m.f4.size + m.f16.size + m.f19.size) == 0) = false from beq_eq_false_iff_ne.mpr h1]
    simp
theorem zero_calls (m : Mv) (h : Hd) (w : World) (rd : Reads w m h) (ht : m.texts ≤ 9223372036854775807) (hl : m.lists ≤ 9223372036854775807) :
    Calls Try.prog 45 #[.agg (cells m h)] w fun e w' => e = .returned (.bool m.zero) ∧ Below w.heap.size w w' :=
  msg_zero.calls m.f0 m.f1 m.f2 h.A3 h.c3 m.f3 m.f4 h.A5 h.c5 m.f5 h.A6 h.c6 m.f6 h.A7 h.c7 m.f7 h.A8 h.c8 m.f8 h.A9 h.c9 m.f9 h.A10 h.c10 m.f10 h.A11 h.c11 m.f11 m.f12 h.A13 h.c13 m.f13 h.A14 h.c14 m.f14 m.f15 m.f16 m.f17 m.f18 m.f19 m.f20 m.zero w rd.r3 rd.l3 rd.r5 rd.l5 rd.r6 rd.l6 rd.r7 rd.l7 rd.r8 rd.l8 rd.r9 rd.l9 rd.r10 rd.l10 rd.r11 rd.l11 rd.r13 rd.l13 rd.r14 rd.l14 (zero_f m ht hl)
def Mv.retry (m : Mv) : Bool := m.f0 == 2 && m.f1.toList == ([207, 33, 173, 116, 229, 154, 97, 17, 190, 29, 140, 2, 30, 101, 184, 145, 194, 162, 17, 22, 122, 187, 140, 94, 7, 158, 9, 226, 200, 168, 51, 156] : List UInt8)
theorem retry_calls (m : Mv) (h : Hd) (w : World) (rd : Reads w m h) :
    Calls Try.prog 30 #[.agg (cells m h)] w fun e w' => e = .returned (.bool m.retry) ∧ Below w.heap.size w w' :=
  msg_Retry.calls m.f0 m.f1 m.f2 h.A3 h.c3 m.f3 m.f4 h.A5 h.c5 m.f5 h.A6 h.c6 m.f6 h.A7 h.c7 m.f7 h.A8 h.c8 m.f8 h.A9 h.c9 m.f9 h.A10 h.c10 m.f10 h.A11 h.c11 m.f11 m.f12 h.A13 h.c13 m.f13 h.A14 h.c14 m.f14 m.f15 m.f16 m.f17 m.f18 m.f19 m.f20 m.retry w rd.r3 rd.l3 rd.r5 rd.l5 rd.r6 rd.l6 rd.r7 rd.l7 rd.r8 rd.l8 rd.r9 rd.l9 rd.r10 rd.l10 rd.r11 rd.l11 rd.r13 rd.l13 rd.r14 rd.l14 (by
    unfold msg_Retry.f Mv.retry
    by_cases h0 : m.f0 = 2 <;> simp [h0])
end Go.Proofs.Ytlkebjkpmiehcaa.Ms
end
section
namespace Go.Proofs.Ytlkebjkpmiehcaa.Ms
open Go.RowKit Go.Proofs.YtlkebjkpmiehcaaW.PrintWords Go.Proofs.YtlkebjkpmiehcaaW.PrintLast Go.Proofs.YtlkebjkpmiehcaaW.PrintMore Go.Proofs.Ytlkebjkpmiehcaa.X
open Go.Proofs.Ytlkebjkpmiehcaa.Pure (nv numOf vecOf nv_bd nv_bd4 number_any)
set_option linter.unusedVariables false
structure Mo (ok : Nat → Prop) (w : World) (gm : Nat) (m : Mv) (h : Hd) : Prop where
  box : w.heap[gm]? = some (.cells (cells m h) 49 (0, 0))
  r3 : Kd.R (Kd.int .i64) 3 w 0 ok (.slice h.A3 m.f3.length h.c3) m.f3
  r5 : Kd.R (Kd.int .i64) 3 w 0 ok (.slice h.A5 m.f5.length h.c5) m.f5
  r6 : Kd.R (Kd.int .i64) 3 w 0 ok (.slice h.A6 m.f6.length h.c6) m.f6
  r7 : Kd.R (Kd.int .i64) 3 w 0 ok (.slice h.A7 m.f7.length h.c7) m.f7
  r8 : Kd.R (Kd.int .i64) 3 w 0 ok (.slice h.A8 m.f8.length h.c8) m.f8
  r9 : Kd.R k66 66 w 0 ok (.slice h.A9 m.f9.length h.c9) m.f9
  r10 : Kd.R k111 111 w 0 ok (.slice h.A10 m.f10.length h.c10) m.f10
  r11 : Kd.R Kd.string 9 w 0 ok (.slice h.A11 m.f11.length h.c11) m.f11
  r13 : Kd.R (Kd.int .i64) 3 w 0 ok (.slice h.A13 m.f13.length h.c13) m.f13
  r14 : Kd.R Kd.string 9 w 0 ok (.slice h.A14 m.f14.length h.c14) m.f14
def MO (ok : Nat → Prop) (w : World) (gm : Nat) (m : Mv) : Prop := ∃ h, Mo ok w gm m h
theorem cells_size (m : Mv) (h : Hd) : (cells m h).size = 21 := rfl
theorem R_typed {α : Type} {d : Kd α} {e : Nat} {W W1 : World} {ok : Nat → Prop} {v : Value} {xs : List α} (h : d.R e W 0 ok v xs) (ts : List Nat) (hm : ∀ (k : Nat) (cs : Array Value) (t : TypeId), W.heap[k]? = some (.cells cs t (0, 0)) → t ∉ ts → W1.heap[k]? = some (.cells cs t (0, 0))) (ht : ∀ q, q ∈ e :: d.E → q ∉ ts) : d.R e W1 0 ok v xs :=
  Kd.R_mono (Kd.R_move (Kd.R_bound h) (fun i hi => by
    obtain ⟨_, _, h3, q, hq, cells, hc⟩ := hi
    rw [hc]
    exact hm i _ _ hc (ht q hq))) (fun _ hk => hk.1)
theorem Mo.move {ok : Nat → Prop} {w w1 : World} {gm : Nat} {m : Mv} {h : Hd} (a : Mo ok w gm m h) (hb : w1.heap[gm]? = some (.cells (cells m h) 49 (0, 0))) (ts : List Nat) (hm : ∀ (k : Nat) (cs : Array Value) (t : TypeId), w.heap[k]? = some (.cells cs t (0, 0)) → t ∉ ts → w1.heap[k]? = some (.cells cs t (0, 0))) (h3 : 3 ∉ ts) (h9 : 9 ∉ ts) (h66 : 66 ∉ ts) (h111 : 111 ∉ ts) : Mo ok w1 gm m h :=
  ⟨hb, R_typed a.r3 ts hm (by intro q hq; rw [List.mem_singleton.1 hq]; exact h3), R_typed a.r5 ts hm (by intro q hq; rw [List.mem_singleton.1 hq]; exact h3), R_typed a.r6 ts hm (by intro q hq; rw [List.mem_singleton.1 hq]; exact h3), R_typed a.r7 ts hm (by intro q hq; rw [List.mem_singleton.1 hq]; exact h3), R_typed a.r8 ts hm (by intro q hq; rw [List.mem_singleton.1 hq]; exact h3), R_typed a.r9 ts hm (by intro q hq; rw [List.mem_singleton.1 hq]; exact h66), R_typed a.r10 ts hm (by intro q hq; rw [List.mem_singleton.1 hq]; exact h111), R_typed a.r11 ts hm (by intro q hq; rw [List.mem_singleton.1 hq]; exact h9), R_typed a.r13 ts hm (by intro q hq; rw [List.mem_singleton.1 hq]; exact h3), R_typed a.r14 ts hm (by intro q hq; rw [List.mem_singleton.1 hq]; exact h9)⟩
theorem kf_types {lo r f : Nat} {w w1 : World} {R : Rp} (h : RS w r f R) (k : Kf lo r f w w1) : ∀ (j : Nat) (cs : Array Value) (t : TypeId), w.heap[j]? = some (.cells cs t (0, 0)) → t ∉ [92, 90] → w1.heap[j]? = some (.cells cs t (0, 0)) := fun j cs t hj ht =>
  k.keep j _ hj (blk_ne hj h.rd (by intro e; exact ht (by simp [e]))) (blk_ne hj h.ft (by intro e; exact ht (by simp [e])))
theorem MO.kf {ok : Nat → Prop} {lo r f gm : Nat} {w w1 : World} {m : Mv} {R : Rp} (a : MO ok w gm m) (h : RS w r f R) (k : Kf lo r f w w1) : MO ok w1 gm m := by
  obtain ⟨hd, a⟩ := a
  exact ⟨hd, a.move (kf_types h k gm _ _ a.box (by decide)) _ (kf_types h k) (by decide) (by decide) (by decide) (by decide)⟩
theorem MO.below {ok : Nat → Prop} {gm : Nat} {w w1 : World} {m : Mv} (a : MO ok w gm m) (b : Below w.heap.size w w1) : MO ok w1 gm m := by
  obtain ⟨hd, a⟩ := a
  have hm : ∀ (k : Nat) (cs : Array Value) (t : TypeId), w.heap[k]? = some (.cells cs t (0, 0)) → t ∉ ([] : List Nat) → w1.heap[k]? = some (.cells cs t (0, 0)) := fun k cs t hk _ => (b.block k (blk_lt hk)).trans hk
  exact ⟨hd, a.move (hm gm _ _ a.box (by decide)) _ hm (by decide) (by decide) (by decide) (by decide)⟩
theorem keep_types {ok : Nat → Prop} {gm : Nat} {w w1 : World} {m : Mv} {h : Hd} (a : Mo ok w gm m h) (k : KeepBut w w1 gm none) : ∀ (j : Nat) (cs : Array Value) (t : TypeId), w.heap[j]? = some (.cells cs t (0, 0)) → t ∉ [49] → w1.heap[j]? = some (.cells cs t (0, 0)) := fun j cs t hj ht =>
  (k.2 j (blk_lt hj) (blk_ne hj a.box (by intro e; exact ht (by simp [e]))) (by simp)).trans hj
theorem Mo.s1 {ok : Nat → Prop} {w w1 : World} {gm : Nat} {m : Mv} {hd : Hd} (a : Mo ok w gm m hd) (x : ByteArray) (hb : w1.heap[gm]? = some (.cells ((cells m hd).setIfInBounds 1 (.string x)) 49 (0, 0))) (k : KeepBut w w1 gm none) : MO ok w1 gm { m with f1 := x } := ⟨hd, hb, R_typed a.r3 _ (keep_types a k) (by intro q hq; rw [List.mem_singleton.1 hq]; decide), R_typed a.r5 _ (keep_types a k) (by intro q hq; rw [List.mem_singleton.1 hq]; decide), R_typed a.r6 _ (keep_types a k) (by intro q hq; rw [List.mem_singleton.1 hq]; decide), R_typed a.r7 _ (keep_types a k) (by intro q hq; rw [List.mem_singleton.1 hq]; decide), R_typed a.r8 _ (keep_types a k) (by intro q hq; rw [List.mem_singleton.1 hq]; decide), R_typed a.r9 _ (keep_types a k) (by intro q hq; rw [List.mem_singleton.1 hq]; decide), R_typed a.r10 _ (keep_types a k) (by intro q hq; rw [List.mem_singleton.1 hq]; decide), R_typed a.r11 _ (keep_types a k) (by intro q hq; rw [List.mem_singleton.1 hq]; decide), R_typed a.r13 _ (keep_types a k) (by intro q hq; rw [List.mem_singleton.1 hq]; decide), R_typed a.r14 _ (keep_types a k) (by intro q hq; rw [List.mem_singleton.1 hq]; decide)⟩
theorem Mo.s2 {ok : Nat → Prop} {w w1 : World} {gm : Nat} {m : Mv} {hd : Hd} (a : Mo ok w gm m hd) (x : ByteArray) (hb : w1.heap[gm]? = some (.cells ((cells m hd).setIfInBounds 2 (.string x)) 49 (0, 0))) (k : KeepBut w w1 gm none) : MO ok w1 gm { m with f2 := x } := ⟨hd, hb, R_typed a.r3 _ (keep_types a k) (by intro q hq; rw [List.mem_singleton.1 hq]; decide), R_typed a.r5 _ (keep_types a k) (by intro q hq; rw [List.mem_singleton.1 hq]; decide), R_typed a.r6 _ (keep_types a k) (by intro q hq; rw [List.mem_singleton.1 hq]; decide), R_typed a.r7 _ (keep_types a k) (by intro q hq; rw [List.mem_singleton.1 hq]; decide), R_typed a.r8 _ (keep_types a k) (by intro q hq; rw [List.mem_singleton.1 hq]; decide), R_typed a.r9 _ (keep_types a k) (by intro q hq; rw [List.mem_singleton.1 hq]; decide), R_typed a.r10 _ (keep_types a k) (by intro q hq; rw [List.mem_singleton.1 hq]; decide), R_typed a.r11 _ (keep_types a k) (by intro q hq; rw [List.mem_singleton.1 hq]; decide), R_typed a.r13 _ (keep_types a k) (by intro q hq; rw [List.mem_singleton.1 hq]; decide), R_typed a.r14 _ (keep_types a k) (by intro q hq; rw [List.mem_singleton.1 hq]; decide)⟩
theorem Mo.s4 {ok : Nat → Prop} {w w1 : World} {gm : Nat} {m : Mv} {hd : Hd} (a : Mo ok w gm m hd) (x : ByteArray) (hb : w1.heap[gm]? = some (.cells ((cells m hd).setIfInBounds 4 (.string x)) 49 (0, 0))) (k : KeepBut w w1 gm none) : MO ok w1 gm { m with f4 := x } := ⟨hd, hb, R_typed a.r3 _ (keep_types a k) (by intro q hq; rw [List.mem_singleton.1 hq]; decide), R_typed a.r5 _ (keep_types a k) (by intro q hq; rw [List.mem_singleton.1 hq]; decide), R_typed a.r6 _ (keep_types a k) (by intro q hq; rw [List.mem_singleton.1 hq]; decide), R_typed a.r7 _ (keep_types a k) (by intro q hq; rw [List.mem_singleton.1 hq]; decide), R_typed a.r8 _ (keep_types a k) (by intro q hq; rw [List.mem_singleton.1 hq]; decide), R_typed a.r9 _ (keep_types a k) (by intro q hq; rw [List.mem_singleton.1 hq]; decide), R_typed a.r10 _ (keep_types a k) (by intro q hq; rw [List.mem_singleton.1 hq]; decide), R_typed a.r11 _ (keep_types a k) (by intro q hq; rw [List.mem_singleton.1 hq]; decide), R_typed a.r13 _ (keep_types a k) (by intro q hq; rw [List.mem_singleton.1 hq]; decide), R_typed a.r14 _ (keep_types a k) (by intro q hq; rw [List.mem_singleton.1 hq]; decide)⟩
theorem Mo.s19 {ok : Nat → Prop} {w w1 : World} {gm : Nat} {m : Mv} {hd : Hd} (a : Mo ok w gm m hd) (x : ByteArray) (hb : w1.heap[gm]? = some (.cells ((cells m hd).setIfInBounds 19 (.string x)) 49 (0, 0))) (k : KeepBut w w1 gm none) : MO ok w1 gm { m with f19 := x } := ⟨hd, hb, R_typed a.r3 _ (keep_types a k) (by intro q hq; rw [List.mem_singleton.1 hq]; decide), R_typed a.r5 _ (keep_types a k) (by intro q hq; rw [List.mem_singleton.1 hq]; decide), R_typed a.r6 _ (keep_types a k) (by intro q hq; rw [List.mem_singleton.1 hq]; decide), R_typed a.r7 _ (keep_types a k) (by intro q hq; rw [List.mem_singleton.1 hq]; decide), R_typed a.r8 _ (keep_types a k) (by intro q hq; rw [List.mem_singleton.1 hq]; decide), R_typed a.r9 _ (keep_types a k) (by intro q hq; rw [List.mem_singleton.1 hq]; decide), R_typed a.r10 _ (keep_types a k) (by intro q hq; rw [List.mem_singleton.1 hq]; decide), R_typed a.r11 _ (keep_types a k) (by intro q hq; rw [List.mem_singleton.1 hq]; decide), R_typed a.r13 _ (keep_types a k) (by intro q hq; rw [List.mem_singleton.1 hq]; decide), R_typed a.r14 _ (keep_types a k) (by intro q hq; rw [List.mem_singleton.1 hq]; decide)⟩
theorem Mo.s12 {ok : Nat → Prop} {w w1 : World} {gm : Nat} {m : Mv} {hd : Hd} (a : Mo ok w gm m hd) (x : Int) (hb : w1.heap[gm]? = some (.cells ((cells m hd).setIfInBounds 12 (.int .i64 x)) 49 (0, 0))) (k : KeepBut w w1 gm none) : MO ok w1 gm { m with f12 := x } := ⟨hd, hb, R_typed a.r3 _ (keep_types a k) (by intro q hq; rw [List.mem_singleton.1 hq]; decide), R_typed a.r5 _ (keep_types a k) (by intro q hq; rw [List.mem_singleton.1 hq]; decide), R_typed a.r6 _ (keep_types a k) (by intro q hq; rw [List.mem_singleton.1 hq]; decide), R_typed a.r7 _ (keep_types a k) (by intro q hq; rw [List.mem_singleton.1 hq]; decide), R_typed a.r8 _ (keep_types a k) (by intro q hq; rw [List.mem_singleton.1 hq]; decide), R_typed a.r9 _ (keep_types a k) (by intro q hq; rw [List.mem_singleton.1 hq]; decide), R_typed a.r10 _ (keep_types a k) (by intro q hq; rw [List.mem_singleton.1 hq]; decide), R_typed a.r11 _ (keep_types a k) (by intro q hq; rw [List.mem_singleton.1 hq]; decide), R_typed a.r13 _ (keep_types a k) (by intro q hq; rw [List.mem_singleton.1 hq]; decide), R_typed a.r14 _ (keep_types a k) (by intro q hq; rw [List.mem_singleton.1 hq]; decide)⟩
theorem Mo.s15 {ok : Nat → Prop} {w w1 : World} {gm : Nat} {m : Mv} {hd : Hd} (a : Mo ok w gm m hd) (x : Int) (hb : w1.heap[gm]? = some (.cells ((cells m hd).setIfInBounds 15 (.int .i64 x)) 49 (0, 0))) (k : KeepBut w w1 gm none) : MO ok w1 gm { m with f15 := x } := ⟨hd, hb, R_typed a.r3 _ (keep_types a k) (by intro q hq; rw [List.mem_singleton.1 hq]; decide), R_typed a.r5 _ (keep_types a k) (by intro q hq; rw [List.mem_singleton.1 hq]; decide), R_typed a.r6 _ (keep_types a k) (by intro q hq; rw [List.mem_singleton.1 hq]; decide), R_typed a.r7 _ (keep_types a k) (by intro q hq; rw [List.mem_singleton.1 hq]; decide), R_typed a.r8 _ (keep_types a k) (by intro q hq; rw [List.mem_singleton.1 hq]; decide), R_typed a.r9 _ (keep_types a k) (by intro q hq; rw [List.mem_singleton.1 hq]; decide), R_typed a.r10 _ (keep_types a k) (by intro q hq; rw [List.mem_singleton.1 hq]; decide), R_typed a.r11 _ (keep_types a k) (by intro q hq; rw [List.mem_singleton.1 hq]; decide), R_typed a.r13 _ (keep_types a k) (by intro q hq; rw [List.mem_singleton.1 hq]; decide), R_typed a.r14 _ (keep_types a k) (by intro q hq; rw [List.mem_singleton.1 hq]; decide)⟩
theorem Mo.s18 {ok : Nat → Prop} {w w1 : World} {gm : Nat} {m : Mv} {hd : Hd} (a : Mo ok w gm m hd) (x : Int) (hb : w1.heap[gm]? = some (.cells ((cells m hd).setIfInBounds 18 (.int .i64 x)) 49 (0, 0))) (k : KeepBut w w1 gm none) : MO ok w1 gm { m with f18 := x } := ⟨hd, hb, R_typed a.r3 _ (keep_types a k) (by intro q hq; rw [List.mem_singleton.1 hq]; decide), R_typed a.r5 _ (keep_types a k) (by intro q hq; rw [List.mem_singleton.1 hq]; decide), R_typed a.r6 _ (keep_types a k) (by intro q hq; rw [List.mem_singleton.1 hq]; decide), R_typed a.r7 _ (keep_types a k) (by intro q hq; rw [List.mem_singleton.1 hq]; decide), R_typed a.r8 _ (keep_types a k) (by intro q hq; rw [List.mem_singleton.1 hq]; decide), R_typed a.r9 _ (keep_types a k) (by intro q hq; rw [List.mem_singleton.1 hq]; decide), R_typed a.r10 _ (keep_types a k) (by intro q hq; rw [List.mem_singleton.1 hq]; decide), R_typed a.r11 _ (keep_types a k) (by intro q hq; rw [List.mem_singleton.1 hq]; decide), R_typed a.r13 _ (keep_types a k) (by intro q hq; rw [List.mem_singleton.1 hq]; decide), R_typed a.r14 _ (keep_types a k) (by intro q hq; rw [List.mem_singleton.1 hq]; decide)⟩
theorem Mo.s20 {ok : Nat → Prop} {w w1 : World} {gm : Nat} {m : Mv} {hd : Hd} (a : Mo ok w gm m hd) (x : Int) (hb : w1.heap[gm]? = some (.cells ((cells m hd).setIfInBounds 20 (.int .i64 x)) 49 (0, 0))) (k : KeepBut w w1 gm none) : MO ok w1 gm { m with f20 := x } := ⟨hd, hb, R_typed a.r3 _ (keep_types a k) (by intro q hq; rw [List.mem_singleton.1 hq]; decide), R_typed a.r5 _ (keep_types a k) (by intro q hq; rw [List.mem_singleton.1 hq]; decide), R_typed a.r6 _ (keep_types a k) (by intro q hq; rw [List.mem_singleton.1 hq]; decide), R_typed a.r7 _ (keep_types a k) (by intro q hq; rw [List.mem_singleton.1 hq]; decide), R_typed a.r8 _ (keep_types a k) (by intro q hq; rw [List.mem_singleton.1 hq]; decide), R_typed a.r9 _ (keep_types a k) (by intro q hq; rw [List.mem_singleton.1 hq]; decide), R_typed a.r10 _ (keep_types a k) (by intro q hq; rw [List.mem_singleton.1 hq]; decide), R_typed a.r11 _ (keep_types a k) (by intro q hq; rw [List.mem_singleton.1 hq]; decide), R_typed a.r13 _ (keep_types a k) (by intro q hq; rw [List.mem_singleton.1 hq]; decide), R_typed a.r14 _ (keep_types a k) (by intro q hq; rw [List.mem_singleton.1 hq]; decide)⟩
theorem Mo.s3 {ok : Nat → Prop} {w w1 : World} {gm : Nat} {m : Mv} {hd : Hd} (a : Mo ok w gm m hd) {v : Value} {x : List Int} (hr : Kd.R (Kd.int .i64) 3 w 0 ok v x) (hb : w1.heap[gm]? = some (.cells ((cells m hd).setIfInBounds 3 v) 49 (0, 0))) (k : KeepBut w w1 gm none) : MO ok w1 gm { m with f3 := x } := by
  obtain ⟨A, c, rfl⟩ := Kd.R_slice hr
  exact ⟨{ hd with A3 := A, c3 := c }, hb, R_typed hr _ (keep_types a k) (by intro q hq; rw [List.mem_singleton.1 hq]; decide), R_typed a.r5 _ (keep_types a k) (by intro q hq; rw [List.mem_singleton.1 hq]; decide), R_typed a.r6 _ (keep_types a k) (by intro q hq; rw [List.mem_singleton.1 hq]; decide), R_typed a.r7 _ (keep_types a k) (by intro q hq; rw [List.mem_singleton.1 hq]; decide), R_typed a.r8 _ (keep_types a k) (by intro q hq; rw [List.mem_singleton.1 hq]; decide), R_typed a.r9 _ (keep_types a k) (by intro q hq; rw [List.mem_singleton.1 hq]; decide), R_typed a.r10 _ (keep_types a k) (by intro q hq; rw [List.mem_singleton.1 hq]; decide), R_typed a.r11 _ (keep_types a k) (by intro q hq; rw [List.mem_singleton.1 hq]; decide), R_typed a.r13 _ (keep_types a k) (by intro q hq; rw [List.mem_singleton.1 hq]; decide), R_typed a.r14 _ (keep_types a k) (by intro q hq; rw [List.mem_singleton.1 hq]; decide)⟩
theorem Mo.s5 {ok : Nat → Prop} {w w1 : World} {gm : Nat} {m : Mv} {hd : Hd} (a : Mo ok w gm m hd) {v : Value} {x : List Int} (hr : Kd.R (Kd.int .i64) 3 w 0 ok v x) (hb : w1.heap[gm]? = some (.cells ((cells m hd).setIfInBounds 5 v) 49 (0, 0))) (k : KeepBut w w1 gm none) : MO ok w1 gm { m with f5 := x } := by
  obtain ⟨A, c, rfl⟩ := Kd.R_slice hr
  exact ⟨{ hd with A5 := A, c5 := c }, hb, R_typed a.r3 _ (keep_types a k) (by intro q hq; rw [List.mem_singleton.1 hq]; decide), R_typed hr _ (keep_types a k) (by intro q hq; rw [List.mem_singleton.1 hq]; decide), R_typed a.r6 _ (keep_types a k) (by intro q hq; rw [List.mem_singleton.1 hq]; decide), R_typed a.r7 _ (keep_types a k) (by intro q hq; rw [List.mem_singleton.1 hq]; decide), R_typed a.r8 _ (keep_types a k) (by intro q hq; rw [List.mem_singleton.1 hq]; decide), R_typed a.r9 _ (keep_types a k) (by intro q hq; rw [List.mem_singleton.1 hq]; decide), R_typed a.r10 _ (keep_types a k) (by intro q hq; rw [List.mem_singleton.1 hq]; decide), R_typed a.r11 _ (keep_types a k) (by intro q hq; rw [List.mem_singleton.1 hq]; decide), R_typed a.r13 _ (keep_types a k) (by intro q hq; rw [List.mem_singleton.1 hq]; decide), R_typed a.r14 _ (keep_types a k) (by intro q hq; rw [List.mem_singleton.1 hq]; decide)⟩
theorem Mo.s6 {ok : Nat → Prop} {w w1 : World} {gm : Nat} {m : Mv} {hd : Hd} (a : Mo ok w gm m hd) {v : Value} {x : List Int} (hr : Kd.R (Kd.int .i64) 3 w 0 ok v x) (hb : w1.heap[gm]? = some (.cells ((cells m hd).setIfInBounds 6 v) 49 (0, 0))) (k : KeepBut w w1 gm none) : MO ok w1 gm { m with f6 := x } := by
  obtain ⟨A, c, rfl⟩ := Kd.R_slice hr
  exact ⟨{ hd with A6 := A, c6 := c }, hb, R_typed a.r3 _ (keep_types a k) (by intro q hq; rw [List.mem_singleton.1 hq]; decide), R_typed a.r5 _ (keep_types a k) (by intro q hq; rw [List.mem_singleton.1 hq]; decide), R_typed hr _ (keep_types a k) (by intro q hq; rw [List.mem_singleton.1 hq]; decide), R_typed a.r7 _ (keep_types a k) (by intro q hq; rw [List.mem_singleton.1 hq]; decide), R_typed a.r8 _ (keep_types a k) (by intro q hq; rw [List.mem_singleton.1 hq]; decide), R_typed a.r9 _ (keep_types a k) (by intro q hq; rw [List.mem_singleton.1 hq]; decide), R_typed a.r10 _ (keep_types a k) (by intro q hq; rw [List.mem_singleton.1 hq]; decide), R_typed a.r11 _ (keep_types a k) (by intro q hq; rw [List.mem_singleton.1 hq]; decide), R_typed a.r13 _ (keep_types a k) (by intro q hq; rw [List.mem_singleton.1 hq]; decide), R_typed a.r14 _ (keep_types a k) (by intro q hq; rw [List.mem_singleton.1 hq]; decide)⟩
theorem Mo.s8 {ok : Nat → Prop} {w w1 : World} {gm : Nat} {m : Mv} {hd : Hd} (a : Mo ok w gm m hd) {v : Value} {x : List Int} (hr : Kd.R (Kd.int .i64) 3 w 0 ok v x) (hb : w1.heap[gm]? = some (.cells ((cells m hd).setIfInBounds 8 v) 49 (0, 0))) (k : KeepBut w w1 gm none) : MO ok w1 gm { m with f8 := x } := by
  obtain ⟨A, c, rfl⟩ := Kd.R_slice hr
  exact ⟨{ hd with A8 := A, c8 := c }, hb, R_typed a.r3 _ (keep_types a k) (by intro q hq; rw [List.mem_singleton.1 hq]; decide), R_typed a.r5 _ (keep_types a k) (by intro q hq; rw [List.mem_singleton.1 hq]; decide), R_typed a.r6 _ (keep_types a k) (by intro q hq; rw [List.mem_singleton.1 hq]; decide), R_typed a.r7 _ (keep_types a k) (by intro q hq; rw [List.mem_singleton.1 hq]; decide), R_typed hr _ (keep_types a k) (by intro q hq; rw [List.mem_singleton.1 hq]; decide), R_typed a.r9 _ (keep_types a k) (by intro q hq; rw [List.mem_singleton.1 hq]; decide), R_typed a.r10 _ (keep_types a k) (by intro q hq; rw [List.mem_singleton.1 hq]; decide), R_typed a.r11 _ (keep_types a k) (by intro q hq; rw [List.mem_singleton.1 hq]; decide), R_typed a.r13 _ (keep_types a k) (by intro q hq; rw [List.mem_singleton.1 hq]; decide), R_typed a.r14 _ (keep_types a k) (by intro q hq; rw [List.mem_singleton.1 hq]; decide)⟩
theorem Mo.s13 {ok : Nat → Prop} {w w1 : World} {gm : Nat} {m : Mv} {hd : Hd} (a : Mo ok w gm m hd) {v : Value} {x : List Int} (hr : Kd.R (Kd.int .i64) 3 w 0 ok v x) (hb : w1.heap[gm]? = some (.cells ((cells m hd).setIfInBounds 13 v) 49 (0, 0))) (k : KeepBut w w1 gm none) : MO ok w1 gm { m with f13 := x } := by
  obtain ⟨A, c, rfl⟩ := Kd.R_slice hr
  exact ⟨{ hd with A13 := A, c13 := c }, hb, R_typed a.r3 _ (keep_types a k) (by intro q hq; rw [List.mem_singleton.1 hq]; decide), R_typed a.r5 _ (keep_types a k) (by intro q hq; rw [List.mem_singleton.1 hq]; decide), R_typed a.r6 _ (keep_types a k) (by intro q hq; rw [List.mem_singleton.1 hq]; decide), R_typed a.r7 _ (keep_types a k) (by intro q hq; rw [List.mem_singleton.1 hq]; decide), R_typed a.r8 _ (keep_types a k) (by intro q hq; rw [List.mem_singleton.1 hq]; decide), R_typed a.r9 _ (keep_types a k) (by intro q hq; rw [List.mem_singleton.1 hq]; decide), R_typed a.r10 _ (keep_types a k) (by intro q hq; rw [List.mem_singleton.1 hq]; decide), R_typed a.r11 _ (keep_types a k) (by intro q hq; rw [List.mem_singleton.1 hq]; decide), R_typed hr _ (keep_types a k) (by intro q hq; rw [List.mem_singleton.1 hq]; decide), R_typed a.r14 _ (keep_types a k) (by intro q hq; rw [List.mem_singleton.1 hq]; decide)⟩
theorem Mo.s14 {ok : Nat → Prop} {w w1 : World} {gm : Nat} {m : Mv} {hd : Hd} (a : Mo ok w gm m hd) {v : Value} {x : List ByteArray} (hr : Kd.R Kd.string 9 w 0 ok v x) (hb : w1.heap[gm]? = some (.cells ((cells m hd).setIfInBounds 14 v) 49 (0, 0))) (k : KeepBut w w1 gm none) : MO ok w1 gm { m with f14 := x } := by
  obtain ⟨A, c, rfl⟩ := Kd.R_slice hr
  exact ⟨{ hd with A14 := A, c14 := c }, hb, R_typed a.r3 _ (keep_types a k) (by intro q hq; rw [List.mem_singleton.1 hq]; decide), R_typed a.r5 _ (keep_types a k) (by intro q hq; rw [List.mem_singleton.1 hq]; decide), R_typed a.r6 _ (keep_types a k) (by intro q hq; rw [List.mem_singleton.1 hq]; decide), R_typed a.r7 _ (keep_types a k) (by intro q hq; rw [List.mem_singleton.1 hq]; decide), R_typed a.r8 _ (keep_types a k) (by intro q hq; rw [List.mem_singleton.1 hq]; decide), R_typed a.r9 _ (keep_types a k) (by intro q hq; rw [List.mem_singleton.1 hq]; decide), R_typed a.r10 _ (keep_types a k) (by intro q hq; rw [List.mem_singleton.1 hq]; decide), R_typed a.r11 _ (keep_types a k) (by intro q hq; rw [List.mem_singleton.1 hq]; decide), R_typed a.r13 _ (keep_types a k) (by intro q hq; rw [List.mem_singleton.1 hq]; decide), R_typed hr _ (keep_types a k) (by intro q hq; rw [List.mem_singleton.1 hq]; decide)⟩
structure Kg (lo r f g : Nat) (w w' : World) : Prop where
  below : Below lo w w'
  keep : ∀ k o, w.heap[k]? = some o → k ≠ r → k ≠ f → k ≠ g → w'.heap[k]? = some o
theorem Kg.of_kf {lo r f g : Nat} {w w' : World} (k : Kf lo r f w w') : Kg lo r f g w w' := ⟨k.below, fun i o hi hr hf _ => k.keep i o hi hr hf⟩
theorem Kg.trans {lo r f g : Nat} {a b c : World} (h : Kg lo r f g a b) (k : Kg lo r f g b c) : Kg lo r f g a c := ⟨h.below.trans k.below, fun i o hi hr hf hg => k.keep i o (h.keep i o hi hr hf hg) hr hf hg⟩
theorem Kg.of_store {lo r f g : Nat} {w w' : World} (h : Below lo w w') (k : KeepBut w w' g none) : Kg lo r f g w w' := ⟨h, fun i o hi _ _ hg => (k.2 i (blk_lt hi) hg (by simp)).trans hi⟩
theorem Kg.inner {lo r r2 f g : Nat} {w w1 w2 : World} (h : Kg lo r f g w w1) (hn : w.heap.size ≤ r2) (k : Kg lo r2 f g w1 w2) : Kg lo r f g w w2 :=
  ⟨h.below.trans k.below, fun i o hi hr hf hg => k.keep i o (h.keep i o hi hr hf hg) (by have := blk_lt hi; omega) hf hg⟩
theorem RS.store {ok : Nat → Prop} {w w' : World} {r f g : Nat} {R : Rp} {m : Mv} {h : Hd} (a : RS w r f R) (b : Mo ok w g m h) (k : KeepBut w w' g none) : RS w' r f R :=
  ⟨(k.2 r (blk_lt a.rd) (blk_ne a.rd b.box (by decide)) (by simp)).trans a.rd, (k.2 f (blk_lt a.ft) (blk_ne a.ft b.box (by decide)) (by simp)).trans a.ft⟩
theorem sz47' : (Try.prog.info? 47).map (·.size) = some 1 := by kernel_rfl
theorem Rs.store {ok : Nat → Prop} {w w' : World} {r f g : Nat} {s : ByteArray} {p c : Int} {t l : Bool} {m : Mv} {h : Hd} (a : Rs w r f s p c t l) (b : Mo ok w g m h) (k : KeepBut w w' g none) : Rs w' r f s p c t l :=
  ⟨(k.2 r (blk_lt a.rd) (blk_ne a.rd b.box (by decide)) (by simp)).trans a.rd, (k.2 f (blk_lt a.ft) (blk_ne a.ft b.box (by decide)) (by simp)).trans a.ft⟩
theorem Rs.wsz {W : World} {r f lo : Nat} {s : ByteArray} {p c : Int} {t l : Bool} (h : Rs W r f s p c t l) (hl : lo ≤ f) : lo ≤ W.heap.size := Nat.le_of_lt (Nat.lt_of_le_of_lt hl (blk_lt h.ft))
theorem Rs.sz {W : World} {r f : Nat} {s : ByteArray} {p c : Int} {t l : Bool} (h : Rs W r f s p c t l) : r < W.heap.size ∧ f < W.heap.size := ⟨blk_lt h.rd, blk_lt h.ft⟩
def Rp.pskI (R : Rp) : List S111 := lstV oneIde R 2
def Rp.psk1 (R : Rp) : Rp := lstR oneIde R 2
def Rp.pskB (R : Rp) : List ByteArray := allV oneBin (R.psk1.inR 2)
def Rp.psk2 (R : Rp) : Rp := (R.psk1.outR 2).back (allR oneBin (R.psk1.inR 2))
def Rp.pskR (R : Rp) : Rp := (R.psk2.need (R.psk2.p == (R.psk2.s.size : Int))).allow ((R.pskB.length : Int) == (R.pskI.length : Int))
theorem Rp.Ok.psk1 {R : Rp} (h : R.Ok) : R.psk1.Ok := h.lstR 2
theorem Rp.Ok.psk2 {R : Rp} (h : R.Ok) : R.psk2.Ok := (h.psk1.outR 2).back _
theorem Rp.Ok.pskR {R : Rp} (h : R.Ok) : R.pskR.Ok := (h.psk2.need _).allow _
def cli (k : Int) (m : Mv) (B : Rp) : Bool × Mv × Rp :=
  if k = 0 then (true, { m with f4 := B.namV }, B.namR)
  else if k = 10 then (true, { m with f6 := lstV (oneNum 2) B 2 }, lstR (oneNum 2) B 2)
  else if k = 13 then (true, { m with f7 := lstV (oneNum 2) B 2 }, lstR (oneNum 2) B 2)
  else if k = 43 then (true, { m with f5 := lstV (oneNum 2) B 1 }, lstR (oneNum 2) B 1)
  else if k = 45 then (true, { m with f8 := lstV (oneNum 1) B 1 }, lstR (oneNum 1) B 1)
  else if k = 51 then (true, { m with f9 := lstV oneSha B 2 }, lstR oneSha B 2)
  else if k = 41 then (true, { m with f10 := B.pskI, f11 := B.pskB }, B.pskR)
  else (false, m, B)
end Go.Proofs.Ytlkebjkpmiehcaa.Ms
end
section
namespace Go.Proofs.Ytlkebjkpmiehcaa.Ms
open Go.RowKit Go.Proofs.YtlkebjkpmiehcaaW.PrintWords Go.Proofs.YtlkebjkpmiehcaaW.PrintLast Go.Proofs.YtlkebjkpmiehcaaW.PrintMore Go.Proofs.Ytlkebjkpmiehcaa.X
open Go.Proofs.Ytlkebjkpmiehcaa.Pure (nv numOf vecOf nv_bd nv_bd4 number_any)
set_option linter.unusedVariables false
section
variable {ops : Array Oper} {rest : List Oper} {oi : Oper} {a : Act} {Q : Exit → Act → World → Prop} {w : World} {K : Act → World → Prop}
theorem stM {ty : TypeId} {p x : Operand} (hw : Region.wanted oi (yielded ops a.tmps) = true) (hN : oi.dst = none) (ho : oi.op = .store ty p x) {g i : Nat} (hp : a.eval p = .pointer (some ⟨g, i, none⟩)) {cs : Array Value} {t : TypeId} (h : w.heap[g]? = some (.cells cs t (0, 0)))
    (hs : (Try.prog.info? ty).map (·.size) = some 1) {v : Value} (hx : a.eval x = v) (hv : v.cells = #[v]) (h1 : v.oneCell' = true) (hi : i < cs.size)
    (H : ∀ w1, w1.heap[g]? = some (.cells (cs.setIfInBounds i v) t (0, 0)) → (∀ lo, lo ≤ g → Below lo w w1) → KeepBut w w1 g none → K a w1) : if Region.wanted oi (yielded ops a.tmps) = true then Oper.wp Try.prog oi a w K Q else K (a.put none undef) w := by
  refine skip_ hw hN ?_ (H (w.setCell ⟨g, i, none⟩ v) (blk_set h i v) (fun lo hl => (keep_store hl i v).1) ((keep_store (Nat.le_refl g) i v).2))
  have hc : w.cell? ⟨g, i, none⟩ = some cs[i] := by rw [blk_cell h i]; exact Array.getElem?_eq_getElem hi
  have hst : (store ⟨g, i, none⟩ v).run Try.prog w = .ok () (w.setCell ⟨g, i, none⟩ v) := by
    rw [run_store _ _ _ _ _ h1]
    simp [hc, blk_frozen h i]
  obtain ⟨i0, hi0, hz⟩ := Option.map_eq_some_iff.1 hs
  unfold execOp
  simp only [ho, hp, hx, Instr.storeAt, Instr.sureAddr, Sem.run_bind, Sem.run_pure, Result.andThen_ok]
  have hsv : (storeVar ty ⟨g, i, none⟩ v).run Try.prog w = .ok () (w.setCell ⟨g, i, none⟩ v) := by
    have ha : (⟨g, i, none⟩ : Addr).add 0 = ⟨g, i, none⟩ := by simp [Addr.add]
    simp [storeVar, sizeOf, typeInfo, hi0, hz, hv, storeCells, ha, hst, Sem.run_bind]
  rw [hsv]
  rfl
end
theorem Y_gen {d : Kd Int} {e : TypeId} {w w1 : World} {base : Nat} {ok : Nat → Prop} {v : Value} {xs : List Int} (h : Kd.Y d e w base ok v xs) (hm : ∀ (k : Nat) (es : Array MapEntry) (c : Nat), w.heap[k]? = some (Obj.map es c) → w1.heap[k]? = some (Obj.map es c)) : Kd.Y d e w1 base ok v xs := by
  obtain ⟨g, rfl, ho, hb, hw⟩ := h
  obtain ⟨es, c, hh, r⟩ := hw
  exact ⟨g, rfl, ho, hb, es, c, hm g es c hh, r⟩
theorem map_ne {w : World} {j r : Nat} {es : Array MapEntry} {c : Nat} {cs : Array Value} {t : TypeId} (h : w.heap[j]? = some (Obj.map es c)) (hr : w.heap[r]? = some (.cells cs t (0, 0))) : j ≠ r := by
  intro e
  subst e
  rw [h] at hr
  cases hr
theorem Mo.reads {ok : Nat → Prop} {w : World} {gm : Nat} {m : Mv} {h : Hd} (a : Mo ok w gm m h) : Reads w m h := ⟨(Kd.R_reads' a.r3).2.2, (Kd.R_reads' a.r3).2.1, (Kd.R_reads' a.r5).2.2, (Kd.R_reads' a.r5).2.1, (Kd.R_reads' a.r6).2.2, (Kd.R_reads' a.r6).2.1, (Kd.R_reads' a.r7).2.2, (Kd.R_reads' a.r7).2.1, (Kd.R_reads' a.r8).2.2, (Kd.R_reads' a.r8).2.1, (Kd.R_reads' a.r9).2.2, (Kd.R_reads' a.r9).2.1, (Kd.R_reads' a.r10).2.2, (Kd.R_reads' a.r10).2.1, (Kd.R_reads' a.r11).2.2, (Kd.R_reads' a.r11).2.1, (Kd.R_reads' a.r13).2.2, (Kd.R_reads' a.r13).2.1, (Kd.R_reads' a.r14).2.2, (Kd.R_reads' a.r14).2.1⟩
def srv (k : Int) (m : Mv) (B : Rp) : Bool × Mv × Rp :=
  if k = 43 then (true, { m with f5 := [B.numV 2] }, B.numR 2)
  else if k = 51 then (if m.retry = true then (true, { m with f6 := [B.numV 2] }, B.numR 2) else (true, { m with f9 := [B.shaV] }, B.shaR))
  else if k = 41 then (if m.retry = true then (false, m, B) else (true, { m with f12 := B.numV 2 + 1 }, B.numR 2))
  else (false, m, B)
end Go.Proofs.Ytlkebjkpmiehcaa.Ms
end
section
namespace Go.Proofs.Ytlkebjkpmiehcaa.Ms
open Go.RowKit Go.Proofs.YtlkebjkpmiehcaaW.PrintWords Go.Proofs.YtlkebjkpmiehcaaW.PrintLast Go.Proofs.YtlkebjkpmiehcaaW.PrintMore Go.Proofs.Ytlkebjkpmiehcaa.X
set_option linter.unusedVariables false
theorem stRow49 {ops : Array Oper} {rest : List Oper} {o : Oper} {a : Act} {Q : Exit → Act → World → Prop} {w : World} {p x : Operand} (hgd : o.guard = none) (ho : o.op = .store 49 p x) {g : Nat} (hp : a.eval p = .pointer (some ⟨g, 0, none⟩))
    {cs zs : Array Value} (hx : a.eval x = .agg cs) {t : TypeId} (h : w.heap[g]? = some (.cells zs t (0, 0))) (hz : zs.size = 21) (hc : cs.size = 21) (h1 : cs.toList.all (·.oneCell') = true)
    (H : ∀ w1, w1.heap[g]? = some (.cells cs t (0, 0)) → (∀ lo, lo ≤ g → Below lo w w1) → wpList Try.prog ops Q rest (a.put o.dst undef) w1) : wpList Try.prog ops Q (o :: rest) a w := by
  refine wpList_plain hgd fun K hK => wp_store_row 49 p x ho g cs hp hx t zs h (by rw [hc]; exact sz49) (by rw [hz, hc]) (by rw [← Array.all_toList]; exact h1) (hK _ _ (H _ ?_ ?_))
  · simp [World.setRow, Array.getElem?_modify, h]
  · intro lo hl
    refine ⟨rfl, rfl, rfl, by simp [World.setRow], fun k hk => ?_⟩
    simp only [World.setRow, Array.getElem?_modify]
    rw [if_neg (by omega)]
set_option maxRecDepth 100000 in
set_option maxHeartbeats 8000000 in
theorem un1 (f1 f2 f4 f16 f19 : ByteArray) (f12 f15 f17 f18 f20 : Int) (A3 A5 A6 A7 A8 A9 A10 A11 A13 A14 : Option Addr) (n3 c3 n5 c5 n6 c6 n7 c7 n8 c8 n9 c9 n10 c10 n11 c11 n13 c13 n14 c14 : Nat) (w : World) : Calls Try.prog 46 #[.agg #[.int .i64 1, .string f1, .string f2, .slice A3 n3 c3, .string f4, .slice A5 n5 c5, .slice A6 n6 c6, .slice A7 n7 c7, .slice A8 n8 c8, .slice A9 n9 c9, .slice A10 n10 c10, .slice A11 n11 c11, .int .i64 f12, .slice A13 n13 c13, .slice A14 n14 c14, .int .i64 f15, .string f16, .int .i64 f17, .int .i64 f18, .string f19, .int .i64 f20]] w fun e w' => e = .returned (.agg #[.int .i64 1, .string ⟨#[]⟩, .string ⟨#[]⟩, .slice none 0 0, .string ⟨#[]⟩, .slice none 0 0, .slice none 0 0, .slice none 0 0, .slice none 0 0, .slice none 0 0, .slice none 0 0, .slice none 0 0, .int .i64 f12, .slice A13 n13 c13, .slice A14 n14 c14, .int .i64 f15, .string f16, .int .i64 f17, .int .i64 f18, .string f19, .int .i64 f20]) ∧ Below w.heap.size w w' := by
  go_enter Try.func46, Try.ntmps46
  go_wp2_with (first
    | ((with_reducible refine gate_dst (N := 1) rfl ?_); refine box49 rfl rfl rfl ?_; intro g1 e1 w1 h1 b1; have HM := Aside0.mk h1; have HB := Aside0.mk b1; have HE1 := Aside0.mk e1; clear h1 b1 e1)
    | ((with_reducible refine gate_dst (N := 2) rfl ?_); refine alloc49 rfl rfl ?_; intro g2 e2 zs hzs w2 h2 b2; have HNE := Aside0.mk (show g2 ≠ g1 from by have := blk_lt HM.out; omega); have HZ := Aside0.mk h2; have HL2 := Aside0.mk (show w.heap.size ≤ g2 from by have := HB.out.size; omega); have HZS := Aside0.mk hzs; have n_ := Aside0.mk ((b2.block g1 (blk_lt HM.out)).trans HM.out); clear HM; have HM := n_; clear n_; have n_ := Aside0.mk (below_step HB.out b2); clear HB; have HB := n_; clear n_ h2 b2 e2 hzs)
    | ((with_reducible refine gate_dst (N := 4) rfl ?_); refine ld rfl rfl rfl HM.out Try.underlying3 rfl rfl ?_)
    | ((with_reducible refine gate_dst (N := 25) rfl ?_); refine ld rfl rfl rfl HM.out Try.underlying3 rfl rfl ?_)
    | ((with_reducible refine gate_dst (N := 42) rfl ?_); refine wpList_load_row rfl 49 _ rfl g1 rfl 49 _ (0, 0) _ HM.out Try.underlying49 rfl sz49 ?_)
    | ((with_reducible refine gate_store (p := 2) rfl ?_); refine stRow49 rfl rfl rfl rfl HZ.out HZS.out rfl rfl ?_; intro w3 h3 b3; have HZ3 := Aside0.mk h3; have HB3 := Aside0.mk (HB.out.trans (b3 _ HL2.out)); clear h3 b3)
    | (refine st rfl rfl rfl HM.out (by first | exact sz3 | exact sz9 | exact sz44 | exact sz45 | exact sz46 | exact sz47) rfl rfl rfl (by simp) ?_; intro w3 h3 b3 k3; simp only [List.setIfInBounds_toArray, List.set_cons_succ, List.set_cons_zero, Act.eval] at h3; have n_ := Aside0.mk h3; clear HM; have HM := n_; clear n_; have n_ := Aside0.mk ((k3.2 g2 (blk_lt HZ.out) HNE.out (by simp)).trans HZ.out); clear HZ; have HZ := n_; clear n_; have n_ := Aside0.mk (HB.out.trans (b3 _ (Nat.le_of_eq HE1.out.symm))); clear HB; have HB := n_; clear n_ h3 b3 k3))
  refine bodyPost_ret (results_cell_row rfl _ _ g2 49 _ (0, 0) _ rfl HZ3.out Try.underlying49 rfl sz49) rfl ?_
  exact ⟨rfl, HB3.out⟩
set_option maxRecDepth 100000 in
set_option maxHeartbeats 8000000 in
theorem un2 (f1 f2 f4 f16 f19 : ByteArray) (f12 f15 f17 f18 f20 : Int) (A3 A5 A6 A7 A8 A9 A10 A11 A13 A14 : Option Addr) (n3 c3 n5 c5 n6 c6 n7 c7 n8 c8 n9 c9 n10 c10 n11 c11 n13 c13 n14 c14 : Nat) (w : World) : Calls Try.prog 46 #[.agg #[.int .i64 2, .string f1, .string f2, .slice A3 n3 c3, .string f4, .slice A5 n5 c5, .slice A6 n6 c6, .slice A7 n7 c7, .slice A8 n8 c8, .slice A9 n9 c9, .slice A10 n10 c10, .slice A11 n11 c11, .int .i64 f12, .slice A13 n13 c13, .slice A14 n14 c14, .int .i64 f15, .string f16, .int .i64 f17, .int .i64 f18, .string f19, .int .i64 f20]] w fun e w' => e = .returned (.agg #[.int .i64 2, .string ⟨#[]⟩, .string ⟨#[]⟩, .slice none 0 0, .string f4, .slice none 0 0, .slice none 0 0, .slice A7 n7 c7, .slice A8 n8 c8, .slice none 0 0, .slice A10 n10 c10, .slice A11 n11 c11, .int .i64 0, .slice A13 n13 c13, .slice A14 n14 c14, .int .i64 f15, .string f16, .int .i64 f17, .int .i64 f18, .string f19, .int .i64 f20]) ∧ Below w.heap.size w w' := by
  go_enter Try.func46, Try.ntmps46
  go_wp2_with (first
    | ((with_reducible refine gate_dst (N := 1) rfl ?_); refine box49 rfl rfl rfl ?_; intro g1 e1 w1 h1 b1; have HM := Aside0.mk h1; have HB := Aside0.mk b1; have HE1 := Aside0.mk e1; clear h1 b1 e1)
    | ((with_reducible refine gate_dst (N := 2) rfl ?_); refine alloc49 rfl rfl ?_; intro g2 e2 zs hzs w2 h2 b2; have HNE := Aside0.mk (show g2 ≠ g1 from by have := blk_lt HM.out; omega); have HZ := Aside0.mk h2; have HL2 := Aside0.mk (show w.heap.size ≤ g2 from by have := HB.out.size; omega); have HZS := Aside0.mk hzs; have n_ := Aside0.mk ((b2.block g1 (blk_lt HM.out)).trans HM.out); clear HM; have HM := n_; clear n_; have n_ := Aside0.mk (below_step HB.out b2); clear HB; have HB := n_; clear n_ h2 b2 e2 hzs)
    | ((with_reducible refine gate_dst (N := 4) rfl ?_); refine ld rfl rfl rfl HM.out Try.underlying3 rfl rfl ?_)
    | ((with_reducible refine gate_dst (N := 25) rfl ?_); refine ld rfl rfl rfl HM.out Try.underlying3 rfl rfl ?_)
    | ((with_reducible refine gate_dst (N := 42) rfl ?_); refine wpList_load_row rfl 49 _ rfl g1 rfl 49 _ (0, 0) _ HM.out Try.underlying49 rfl sz49 ?_)
    | ((with_reducible refine gate_store (p := 2) rfl ?_); refine stRow49 rfl rfl rfl rfl HZ.out HZS.out rfl rfl ?_; intro w3 h3 b3; have HZ3 := Aside0.mk h3; have HB3 := Aside0.mk (HB.out.trans (b3 _ HL2.out)); clear h3 b3)
    | (refine st rfl rfl rfl HM.out (by first | exact sz3 | exact sz9 | exact sz44 | exact sz45 | exact sz46 | exact sz47) rfl rfl rfl (by simp) ?_; intro w3 h3 b3 k3; simp only [List.setIfInBounds_toArray, List.set_cons_succ, List.set_cons_zero, Act.eval] at h3; have n_ := Aside0.mk h3; clear HM; have HM := n_; clear n_; have n_ := Aside0.mk ((k3.2 g2 (blk_lt HZ.out) HNE.out (by simp)).trans HZ.out); clear HZ; have HZ := n_; clear n_; have n_ := Aside0.mk (HB.out.trans (b3 _ (Nat.le_of_eq HE1.out.symm))); clear HB; have HB := n_; clear n_ h3 b3 k3))
  refine bodyPost_ret (results_cell_row rfl _ _ g2 49 _ (0, 0) _ rfl HZ3.out Try.underlying49 rfl sz49) rfl ?_
  exact ⟨rfl, HB3.out⟩
set_option maxRecDepth 100000 in
set_option maxHeartbeats 8000000 in
theorem un11 (f1 f2 f4 f16 f19 : ByteArray) (f12 f15 f17 f18 f20 : Int) (A3 A5 A6 A7 A8 A9 A10 A11 A13 A14 : Option Addr) (n3 c3 n5 c5 n6 c6 n7 c7 n8 c8 n9 c9 n10 c10 n11 c11 n13 c13 n14 c14 : Nat) (w : World) : Calls Try.prog 46 #[.agg #[.int .i64 11, .string f1, .string f2, .slice A3 n3 c3, .string f4, .slice A5 n5 c5, .slice A6 n6 c6, .slice A7 n7 c7, .slice A8 n8 c8, .slice A9 n9 c9, .slice A10 n10 c10, .slice A11 n11 c11, .int .i64 f12, .slice A13 n13 c13, .slice A14 n14 c14, .int .i64 f15, .string f16, .int .i64 f17, .int .i64 f18, .string f19, .int .i64 f20]] w fun e w' => e = .returned (.agg #[.int .i64 11, .string f1, .string f2, .slice A3 n3 c3, .string f4, .slice A5 n5 c5, .slice A6 n6 c6, .slice A7 n7 c7, .slice A8 n8 c8, .slice A9 n9 c9, .slice A10 n10 c10, .slice A11 n11 c11, .int .i64 f12, .slice A13 n13 c13, .slice none 0 0, .int .i64 f15, .string f16, .int .i64 f17, .int .i64 f18, .string f19, .int .i64 f20]) ∧ Below w.heap.size w w' := by
  go_enter Try.func46, Try.ntmps46
  go_wp2_with (first
    | ((with_reducible refine gate_dst (N := 1) rfl ?_); refine box49 rfl rfl rfl ?_; intro g1 e1 w1 h1 b1; have HM := Aside0.mk h1; have HB := Aside0.mk b1; have HE1 := Aside0.mk e1; clear h1 b1 e1)
    | ((with_reducible refine gate_dst (N := 2) rfl ?_); refine alloc49 rfl rfl ?_; intro g2 e2 zs hzs w2 h2 b2; have HNE := Aside0.mk (show g2 ≠ g1 from by have := blk_lt HM.out; omega); have HZ := Aside0.mk h2; have HL2 := Aside0.mk (show w.heap.size ≤ g2 from by have := HB.out.size; omega); have HZS := Aside0.mk hzs; have n_ := Aside0.mk ((b2.block g1 (blk_lt HM.out)).trans HM.out); clear HM; have HM := n_; clear n_; have n_ := Aside0.mk (below_step HB.out b2); clear HB; have HB := n_; clear n_ h2 b2 e2 hzs)
    | ((with_reducible refine gate_dst (N := 4) rfl ?_); refine ld rfl rfl rfl HM.out Try.underlying3 rfl rfl ?_)
    | ((with_reducible refine gate_dst (N := 25) rfl ?_); refine ld rfl rfl rfl HM.out Try.underlying3 rfl rfl ?_)
    | ((with_reducible refine gate_dst (N := 42) rfl ?_); refine wpList_load_row rfl 49 _ rfl g1 rfl 49 _ (0, 0) _ HM.out Try.underlying49 rfl sz49 ?_)
    | ((with_reducible refine gate_store (p := 2) rfl ?_); refine stRow49 rfl rfl rfl rfl HZ.out HZS.out rfl rfl ?_; intro w3 h3 b3; have HZ3 := Aside0.mk h3; have HB3 := Aside0.mk (HB.out.trans (b3 _ HL2.out)); clear h3 b3)
    | (refine st rfl rfl rfl HM.out (by first | exact sz3 | exact sz9 | exact sz44 | exact sz45 | exact sz46 | exact sz47) rfl rfl rfl (by simp) ?_; intro w3 h3 b3 k3; simp only [List.setIfInBounds_toArray, List.set_cons_succ, List.set_cons_zero, Act.eval] at h3; have n_ := Aside0.mk h3; clear HM; have HM := n_; clear n_; have n_ := Aside0.mk ((k3.2 g2 (blk_lt HZ.out) HNE.out (by simp)).trans HZ.out); clear HZ; have HZ := n_; clear n_; have n_ := Aside0.mk (HB.out.trans (b3 _ (Nat.le_of_eq HE1.out.symm))); clear HB; have HB := n_; clear n_ h3 b3 k3))
  refine bodyPost_ret (results_cell_row rfl _ _ g2 49 _ (0, 0) _ rfl HZ3.out Try.underlying49 rfl sz49) rfl ?_
  exact ⟨rfl, HB3.out⟩
set_option maxRecDepth 100000 in
set_option maxHeartbeats 8000000 in
theorem un4 (f1 f2 f4 f16 f19 : ByteArray) (f12 f15 f17 f18 f20 : Int) (A3 A5 A6 A7 A8 A9 A10 A11 A13 A14 : Option Addr) (n3 c3 n5 c5 n6 c6 n7 c7 n8 c8 n9 c9 n10 c10 n11 c11 n13 c13 n14 c14 : Nat) (w : World) : Calls Try.prog 46 #[.agg #[.int .i64 4, .string f1, .string f2, .slice A3 n3 c3, .string f4, .slice A5 n5 c5, .slice A6 n6 c6, .slice A7 n7 c7, .slice A8 n8 c8, .slice A9 n9 c9, .slice A10 n10 c10, .slice A11 n11 c11, .int .i64 f12, .slice A13 n13 c13, .slice A14 n14 c14, .int .i64 f15, .string f16, .int .i64 f17, .int .i64 f18, .string f19, .int .i64 f20]] w fun e w' => e = .returned (.agg #[.int .i64 4, .string f1, .string f2, .slice A3 n3 c3, .string f4, .slice A5 n5 c5, .slice A6 n6 c6, .slice A7 n7 c7, .slice A8 n8 c8, .slice A9 n9 c9, .slice A10 n10 c10, .slice A11 n11 c11, .int .i64 f12, .slice A13 n13 c13, .slice A14 n14 c14, .int .i64 f15, .string ⟨#[]⟩, .int .i64 0, .int .i64 0, .string ⟨#[]⟩, .int .i64 f20]) ∧ Below w.heap.size w w' := by
  go_enter Try.func46, Try.ntmps46
  go_wp2_with (first
    | ((with_reducible refine gate_dst (N := 1) rfl ?_); refine box49 rfl rfl rfl ?_; intro g1 e1 w1 h1 b1; have HM := Aside0.mk h1; have HB := Aside0.mk b1; have HE1 := Aside0.mk e1; clear h1 b1 e1)
    | ((with_reducible refine gate_dst (N := 2) rfl ?_); refine alloc49 rfl rfl ?_; intro g2 e2 zs hzs w2 h2 b2; have HNE := Aside0.mk (show g2 ≠ g1 from by have := blk_lt HM.out; omega); have HZ := Aside0.mk h2; have HL2 := Aside0.mk (show w.heap.size ≤ g2 from by have := HB.out.size; omega); have HZS := Aside0.mk hzs; have n_ := Aside0.mk ((b2.block g1 (blk_lt HM.out)).trans HM.out); clear HM; have HM := n_; clear n_; have n_ := Aside0.mk (below_step HB.out b2); clear HB; have HB := n_; clear n_ h2 b2 e2 hzs)
    | ((with_reducible refine gate_dst (N := 4) rfl ?_); refine ld rfl rfl rfl HM.out Try.underlying3 rfl rfl ?_)
    | ((with_reducible refine gate_dst (N := 25) rfl ?_); refine ld rfl rfl rfl HM.out Try.underlying3 rfl rfl ?_)
    | ((with_reducible refine gate_dst (N := 42) rfl ?_); refine wpList_load_row rfl 49 _ rfl g1 rfl 49 _ (0, 0) _ HM.out Try.underlying49 rfl sz49 ?_)
    | ((with_reducible refine gate_store (p := 2) rfl ?_); refine stRow49 rfl rfl rfl rfl HZ.out HZS.out rfl rfl ?_; intro w3 h3 b3; have HZ3 := Aside0.mk h3; have HB3 := Aside0.mk (HB.out.trans (b3 _ HL2.out)); clear h3 b3)
    | (refine st rfl rfl rfl HM.out (by first | exact sz3 | exact sz9 | exact sz44 | exact sz45 | exact sz46 | exact sz47) rfl rfl rfl (by simp) ?_; intro w3 h3 b3 k3; simp only [List.setIfInBounds_toArray, List.set_cons_succ, List.set_cons_zero, Act.eval] at h3; have n_ := Aside0.mk h3; clear HM; have HM := n_; clear n_; have n_ := Aside0.mk ((k3.2 g2 (blk_lt HZ.out) HNE.out (by simp)).trans HZ.out); clear HZ; have HZ := n_; clear n_; have n_ := Aside0.mk (HB.out.trans (b3 _ (Nat.le_of_eq HE1.out.symm))); clear HB; have HB := n_; clear n_ h3 b3 k3))
  refine bodyPost_ret (results_cell_row rfl _ _ g2 49 _ (0, 0) _ rfl HZ3.out Try.underlying49 rfl sz49) rfl ?_
  exact ⟨rfl, HB3.out⟩
set_option maxRecDepth 100000 in
set_option maxHeartbeats 8000000 in
theorem un20 (f1 f2 f4 f16 f19 : ByteArray) (f12 f15 f17 f18 f20 : Int) (A3 A5 A6 A7 A8 A9 A10 A11 A13 A14 : Option Addr) (n3 c3 n5 c5 n6 c6 n7 c7 n8 c8 n9 c9 n10 c10 n11 c11 n13 c13 n14 c14 : Nat) (w : World) : Calls Try.prog 46 #[.agg #[.int .i64 20, .string f1, .string f2, .slice A3 n3 c3, .string f4, .slice A5 n5 c5, .slice A6 n6 c6, .slice A7 n7 c7, .slice A8 n8 c8, .slice A9 n9 c9, .slice A10 n10 c10, .slice A11 n11 c11, .int .i64 f12, .slice A13 n13 c13, .slice A14 n14 c14, .int .i64 f15, .string f16, .int .i64 f17, .int .i64 f18, .string f19, .int .i64 f20]] w fun e w' => e = .returned (.agg #[.int .i64 20, .string f1, .string f2, .slice A3 n3 c3, .string f4, .slice A5 n5 c5, .slice A6 n6 c6, .slice A7 n7 c7, .slice A8 n8 c8, .slice A9 n9 c9, .slice A10 n10 c10, .slice A11 n11 c11, .int .i64 f12, .slice A13 n13 c13, .slice A14 n14 c14, .int .i64 f15, .string ⟨#[]⟩, .int .i64 f17, .int .i64 f18, .string f19, .int .i64 f20]) ∧ Below w.heap.size w w' := by
  go_enter Try.func46, Try.ntmps46
  go_wp2_with (first
    | ((with_reducible refine gate_dst (N := 1) rfl ?_); refine box49 rfl rfl rfl ?_; intro g1 e1 w1 h1 b1; have HM := Aside0.mk h1; have HB := Aside0.mk b1; have HE1 := Aside0.mk e1; clear h1 b1 e1)
    | ((with_reducible refine gate_dst (N := 2) rfl ?_); refine alloc49 rfl rfl ?_; intro g2 e2 zs hzs w2 h2 b2; have HNE := Aside0.mk (show g2 ≠ g1 from by have := blk_lt HM.out; omega); have HZ := Aside0.mk h2; have HL2 := Aside0.mk (show w.heap.size ≤ g2 from by have := HB.out.size; omega); have HZS := Aside0.mk hzs; have n_ := Aside0.mk ((b2.block g1 (blk_lt HM.out)).trans HM.out); clear HM; have HM := n_; clear n_; have n_ := Aside0.mk (below_step HB.out b2); clear HB; have HB := n_; clear n_ h2 b2 e2 hzs)
    | ((with_reducible refine gate_dst (N := 4) rfl ?_); refine ld rfl rfl rfl HM.out Try.underlying3 rfl rfl ?_)
    | ((with_reducible refine gate_dst (N := 25) rfl ?_); refine ld rfl rfl rfl HM.out Try.underlying3 rfl rfl ?_)
    | ((with_reducible refine gate_dst (N := 42) rfl ?_); refine wpList_load_row rfl 49 _ rfl g1 rfl 49 _ (0, 0) _ HM.out Try.underlying49 rfl sz49 ?_)
    | ((with_reducible refine gate_store (p := 2) rfl ?_); refine stRow49 rfl rfl rfl rfl HZ.out HZS.out rfl rfl ?_; intro w3 h3 b3; have HZ3 := Aside0.mk h3; have HB3 := Aside0.mk (HB.out.trans (b3 _ HL2.out)); clear h3 b3)
    | (refine st rfl rfl rfl HM.out (by first | exact sz3 | exact sz9 | exact sz44 | exact sz45 | exact sz46 | exact sz47) rfl rfl rfl (by simp) ?_; intro w3 h3 b3 k3; simp only [List.setIfInBounds_toArray, List.set_cons_succ, List.set_cons_zero, Act.eval] at h3; have n_ := Aside0.mk h3; clear HM; have HM := n_; clear n_; have n_ := Aside0.mk ((k3.2 g2 (blk_lt HZ.out) HNE.out (by simp)).trans HZ.out); clear HZ; have HZ := n_; clear n_; have n_ := Aside0.mk (HB.out.trans (b3 _ (Nat.le_of_eq HE1.out.symm))); clear HB; have HB := n_; clear n_ h3 b3 k3))
  refine bodyPost_ret (results_cell_row rfl _ _ g2 49 _ (0, 0) _ rfl HZ3.out Try.underlying49 rfl sz49) rfl ?_
  exact ⟨rfl, HB3.out⟩
set_option maxRecDepth 100000 in
set_option maxHeartbeats 8000000 in
theorem un15 (f1 f2 f4 f16 f19 : ByteArray) (f12 f15 f17 f18 f20 : Int) (A3 A5 A6 A7 A8 A9 A10 A11 A13 A14 : Option Addr) (n3 c3 n5 c5 n6 c6 n7 c7 n8 c8 n9 c9 n10 c10 n11 c11 n13 c13 n14 c14 : Nat) (w : World) : Calls Try.prog 46 #[.agg #[.int .i64 15, .string f1, .string f2, .slice A3 n3 c3, .string f4, .slice A5 n5 c5, .slice A6 n6 c6, .slice A7 n7 c7, .slice A8 n8 c8, .slice A9 n9 c9, .slice A10 n10 c10, .slice A11 n11 c11, .int .i64 f12, .slice A13 n13 c13, .slice A14 n14 c14, .int .i64 f15, .string f16, .int .i64 f17, .int .i64 f18, .string f19, .int .i64 f20]] w fun e w' => e = .returned (.agg #[.int .i64 15, .string f1, .string f2, .slice A3 n3 c3, .string f4, .slice A5 n5 c5, .slice A6 n6 c6, .slice A7 n7 c7, .slice A8 n8 c8, .slice A9 n9 c9, .slice A10 n10 c10, .slice A11 n11 c11, .int .i64 f12, .slice A13 n13 c13, .slice A14 n14 c14, .int .i64 0, .string ⟨#[]⟩, .int .i64 f17, .int .i64 f18, .string f19, .int .i64 f20]) ∧ Below w.heap.size w w' := by
  go_enter Try.func46, Try.ntmps46
  go_wp2_with (first
    | ((with_reducible refine gate_dst (N := 1) rfl ?_); refine box49 rfl rfl rfl ?_; intro g1 e1 w1 h1 b1; have HM := Aside0.mk h1; have HB := Aside0.mk b1; have HE1 := Aside0.mk e1; clear h1 b1 e1)
    | ((with_reducible refine gate_dst (N := 2) rfl ?_); refine alloc49 rfl rfl ?_; intro g2 e2 zs hzs w2 h2 b2; have HNE := Aside0.mk (show g2 ≠ g1 from by have := blk_lt HM.out; omega); have HZ := Aside0.mk h2; have HL2 := Aside0.mk (show w.heap.size ≤ g2 from by have := HB.out.size; omega); have HZS := Aside0.mk hzs; have n_ := Aside0.mk ((b2.block g1 (blk_lt HM.out)).trans HM.out); clear HM; have HM := n_; clear n_; have n_ := Aside0.mk (below_step HB.out b2); clear HB; have HB := n_; clear n_ h2 b2 e2 hzs)
    | ((with_reducible refine gate_dst (N := 4) rfl ?_); refine ld rfl rfl rfl HM.out Try.underlying3 rfl rfl ?_)
    | ((with_reducible refine gate_dst (N := 25) rfl ?_); refine ld rfl rfl rfl HM.out Try.underlying3 rfl rfl ?_)
    | ((with_reducible refine gate_dst (N := 42) rfl ?_); refine wpList_load_row rfl 49 _ rfl g1 rfl 49 _ (0, 0) _ HM.out Try.underlying49 rfl sz49 ?_)
    | ((with_reducible refine gate_store (p := 2) rfl ?_); refine stRow49 rfl rfl rfl rfl HZ.out HZS.out rfl rfl ?_; intro w3 h3 b3; have HZ3 := Aside0.mk h3; have HB3 := Aside0.mk (HB.out.trans (b3 _ HL2.out)); clear h3 b3)
    | (refine st rfl rfl rfl HM.out (by first | exact sz3 | exact sz9 | exact sz44 | exact sz45 | exact sz46 | exact sz47) rfl rfl rfl (by simp) ?_; intro w3 h3 b3 k3; simp only [List.setIfInBounds_toArray, List.set_cons_succ, List.set_cons_zero, Act.eval] at h3; have n_ := Aside0.mk h3; clear HM; have HM := n_; clear n_; have n_ := Aside0.mk ((k3.2 g2 (blk_lt HZ.out) HNE.out (by simp)).trans HZ.out); clear HZ; have HZ := n_; clear n_; have n_ := Aside0.mk (HB.out.trans (b3 _ (Nat.le_of_eq HE1.out.symm))); clear HB; have HB := n_; clear n_ h3 b3 k3))
  refine bodyPost_ret (results_cell_row rfl _ _ g2 49 _ (0, 0) _ rfl HZ3.out Try.underlying49 rfl sz49) rfl ?_
  exact ⟨rfl, HB3.out⟩
set_option maxRecDepth 100000 in
set_option maxHeartbeats 8000000 in
theorem un24 (f1 f2 f4 f16 f19 : ByteArray) (f12 f15 f17 f18 f20 : Int) (A3 A5 A6 A7 A8 A9 A10 A11 A13 A14 : Option Addr) (n3 c3 n5 c5 n6 c6 n7 c7 n8 c8 n9 c9 n10 c10 n11 c11 n13 c13 n14 c14 : Nat) (w : World) : Calls Try.prog 46 #[.agg #[.int .i64 24, .string f1, .string f2, .slice A3 n3 c3, .string f4, .slice A5 n5 c5, .slice A6 n6 c6, .slice A7 n7 c7, .slice A8 n8 c8, .slice A9 n9 c9, .slice A10 n10 c10, .slice A11 n11 c11, .int .i64 f12, .slice A13 n13 c13, .slice A14 n14 c14, .int .i64 f15, .string f16, .int .i64 f17, .int .i64 f18, .string f19, .int .i64 f20]] w fun e w' => e = .returned (.agg #[.int .i64 24, .string f1, .string f2, .slice A3 n3 c3, .string f4, .slice A5 n5 c5, .slice A6 n6 c6, .slice A7 n7 c7, .slice A8 n8 c8, .slice A9 n9 c9, .slice A10 n10 c10, .slice A11 n11 c11, .int .i64 f12, .slice A13 n13 c13, .slice A14 n14 c14, .int .i64 f15, .string f16, .int .i64 f17, .int .i64 f18, .string f19, .int .i64 0]) ∧ Below w.heap.size w w' := by
  go_enter Try.func46, Try.ntmps46
  go_wp2_with (first
    | ((with_reducible refine gate_dst (N := 1) rfl ?_); refine box49 rfl rfl rfl ?_; intro g1 e1 w1 h1 b1; have HM := Aside0.mk h1; have HB := Aside0.mk b1; have HE1 := Aside0.mk e1; clear h1 b1 e1)
    | ((with_reducible refine gate_dst (N := 2) rfl ?_); refine alloc49 rfl rfl ?_; intro g2 e2 zs hzs w2 h2 b2; have HNE := Aside0.mk (show g2 ≠ g1 from by have := blk_lt HM.out; omega); have HZ := Aside0.mk h2; have HL2 := Aside0.mk (show w.heap.size ≤ g2 from by have := HB.out.size; omega); have HZS := Aside0.mk hzs; have n_ := Aside0.mk ((b2.block g1 (blk_lt HM.out)).trans HM.out); clear HM; have HM := n_; clear n_; have n_ := Aside0.mk (below_step HB.out b2); clear HB; have HB := n_; clear n_ h2 b2 e2 hzs)
    | ((with_reducible refine gate_dst (N := 4) rfl ?_); refine ld rfl rfl rfl HM.out Try.underlying3 rfl rfl ?_)
    | ((with_reducible refine gate_dst (N := 25) rfl ?_); refine ld rfl rfl rfl HM.out Try.underlying3 rfl rfl ?_)
    | ((with_reducible refine gate_dst (N := 42) rfl ?_); refine wpList_load_row rfl 49 _ rfl g1 rfl 49 _ (0, 0) _ HM.out Try.underlying49 rfl sz49 ?_)
    | ((with_reducible refine gate_store (p := 2) rfl ?_); refine stRow49 rfl rfl rfl rfl HZ.out HZS.out rfl rfl ?_; intro w3 h3 b3; have HZ3 := Aside0.mk h3; have HB3 := Aside0.mk (HB.out.trans (b3 _ HL2.out)); clear h3 b3)
    | (refine st rfl rfl rfl HM.out (by first | exact sz3 | exact sz9 | exact sz44 | exact sz45 | exact sz46 | exact sz47) rfl rfl rfl (by simp) ?_; intro w3 h3 b3 k3; simp only [List.setIfInBounds_toArray, List.set_cons_succ, List.set_cons_zero, Act.eval] at h3; have n_ := Aside0.mk h3; clear HM; have HM := n_; clear n_; have n_ := Aside0.mk ((k3.2 g2 (blk_lt HZ.out) HNE.out (by simp)).trans HZ.out); clear HZ; have HZ := n_; clear n_; have n_ := Aside0.mk (HB.out.trans (b3 _ (Nat.le_of_eq HE1.out.symm))); clear HB; have HB := n_; clear n_ h3 b3 k3))
  refine bodyPost_ret (results_cell_row rfl _ _ g2 49 _ (0, 0) _ rfl HZ3.out Try.underlying49 rfl sz49) rfl ?_
  exact ⟨rfl, HB3.out⟩
set_option maxRecDepth 100000 in
set_option maxHeartbeats 8000000 in
theorem un0 (f1 f2 f4 f16 f19 : ByteArray) (f12 f15 f17 f18 f20 : Int) (A3 A5 A6 A7 A8 A9 A10 A11 A13 A14 : Option Addr) (n3 c3 n5 c5 n6 c6 n7 c7 n8 c8 n9 c9 n10 c10 n11 c11 n13 c13 n14 c14 : Nat) (f0 : Int) (h1 : (f0 == 1) = false) (h2 : (f0 == 2) = false) (h11 : (f0 == 11) = false) (h4 : (f0 == 4) = false) (h20 : (f0 == 20) = false) (h15 : (f0 == 15) = false) (h24 : (f0 == 24) = false) (w : World) : Calls Try.prog 46 #[.agg #[.int .i64 f0, .string f1, .string f2, .slice A3 n3 c3, .string f4, .slice A5 n5 c5, .slice A6 n6 c6, .slice A7 n7 c7, .slice A8 n8 c8, .slice A9 n9 c9, .slice A10 n10 c10, .slice A11 n11 c11, .int .i64 f12, .slice A13 n13 c13, .slice A14 n14 c14, .int .i64 f15, .string f16, .int .i64 f17, .int .i64 f18, .string f19, .int .i64 f20]] w fun e w' => e = .returned (.agg #[.int .i64 f0, .string f1, .string f2, .slice A3 n3 c3, .string f4, .slice A5 n5 c5, .slice A6 n6 c6, .slice A7 n7 c7, .slice A8 n8 c8, .slice A9 n9 c9, .slice A10 n10 c10, .slice A11 n11 c11, .int .i64 f12, .slice A13 n13 c13, .slice A14 n14 c14, .int .i64 f15, .string f16, .int .i64 f17, .int .i64 f18, .string f19, .int .i64 f20]) ∧ Below w.heap.size w w' := by
  go_enter Try.func46, Try.ntmps46
  go_wp2_with (first
    | ((with_reducible refine gate_dst (N := 1) rfl ?_); refine box49 rfl rfl rfl ?_; intro g1 e1 w1 h1 b1; have HM := Aside0.mk h1; have HB := Aside0.mk b1; have HE1 := Aside0.mk e1; clear h1 b1 e1)
    | ((with_reducible refine gate_dst (N := 2) rfl ?_); refine alloc49 rfl rfl ?_; intro g2 e2 zs hzs w2 h2 b2; have HNE := Aside0.mk (show g2 ≠ g1 from by have := blk_lt HM.out; omega); have HZ := Aside0.mk h2; have HL2 := Aside0.mk (show w.heap.size ≤ g2 from by have := HB.out.size; omega); have HZS := Aside0.mk hzs; have n_ := Aside0.mk ((b2.block g1 (blk_lt HM.out)).trans HM.out); clear HM; have HM := n_; clear n_; have n_ := Aside0.mk (below_step HB.out b2); clear HB; have HB := n_; clear n_ h2 b2 e2 hzs)
    | ((with_reducible refine gate_dst (N := 4) rfl ?_); refine ld rfl rfl rfl HM.out Try.underlying3 rfl rfl ?_)
    | ((with_reducible refine gate_dst (N := 25) rfl ?_); refine ld rfl rfl rfl HM.out Try.underlying3 rfl rfl ?_)
    | ((with_reducible refine gate_dst (N := 42) rfl ?_); refine wpList_load_row rfl 49 _ rfl g1 rfl 49 _ (0, 0) _ HM.out Try.underlying49 rfl sz49 ?_)
    | ((with_reducible refine gate_store (p := 2) rfl ?_); refine stRow49 rfl rfl rfl rfl HZ.out HZS.out rfl rfl ?_; intro w3 h3 b3; have HZ3 := Aside0.mk h3; have HB3 := Aside0.mk (HB.out.trans (b3 _ HL2.out)); clear h3 b3)
    | (refine st rfl rfl rfl HM.out (by first | exact sz3 | exact sz9 | exact sz44 | exact sz45 | exact sz46 | exact sz47) rfl rfl rfl (by simp) ?_; intro w3 h3 b3 k3; simp only [List.setIfInBounds_toArray, List.set_cons_succ, List.set_cons_zero, Act.eval] at h3; have n_ := Aside0.mk h3; clear HM; have HM := n_; clear n_; have n_ := Aside0.mk ((k3.2 g2 (blk_lt HZ.out) HNE.out (by simp)).trans HZ.out); clear HZ; have HZ := n_; clear n_; have n_ := Aside0.mk (HB.out.trans (b3 _ (Nat.le_of_eq HE1.out.symm))); clear HB; have HB := n_; clear n_ h3 b3 k3))
  refine bodyPost_ret (results_cell_row rfl _ _ g2 49 _ (0, 0) _ rfl HZ3.out Try.underlying49 rfl sz49) rfl ?_
  exact ⟨rfl, HB3.out⟩
theorem unused_calls (m : Mv) (h : Hd) (w : World) : Calls Try.prog 46 #[.agg (cells m h)] w fun e w' => e = .returned (.agg (cells m.unused (h.unused m))) ∧ Below w.heap.size w w' := by
  obtain ⟨f0, f1, f2, f3, f4, f5, f6, f7, f8, f9, f10, f11, f12, f13, f14, f15, f16, f17, f18, f19, f20⟩ := m
  obtain ⟨A3, c3, A5, c5, A6, c6, A7, c7, A8, c8, A9, c9, A10, c10, A11, c11, A13, c13, A14, c14⟩ := h
  by_cases h1 : f0 = 1
  · subst h1
    exact un1 f1 f2 f4 f16 f19 f12 f15 f17 f18 f20 A3 A5 A6 A7 A8 A9 A10 A11 A13 A14 _ c3 _ c5 _ c6 _ c7 _ c8 _ c9 _ c10 _ c11 _ c13 _ c14 w
  by_cases h2 : f0 = 2
  · subst h2
    exact un2 f1 f2 f4 f16 f19 f12 f15 f17 f18 f20 A3 A5 A6 A7 A8 A9 A10 A11 A13 A14 _ c3 _ c5 _ c6 _ c7 _ c8 _ c9 _ c10 _ c11 _ c13 _ c14 w
  by_cases h11 : f0 = 11
  · subst h11
    exact un11 f1 f2 f4 f16 f19 f12 f15 f17 f18 f20 A3 A5 A6 A7 A8 A9 A10 A11 A13 A14 _ c3 _ c5 _ c6 _ c7 _ c8 _ c9 _ c10 _ c11 _ c13 _ c14 w
  by_cases h4 : f0 = 4
  · subst h4
    exact un4 f1 f2 f4 f16 f19 f12 f15 f17 f18 f20 A3 A5 A6 A7 A8 A9 A10 A11 A13 A14 _ c3 _ c5 _ c6 _ c7 _ c8 _ c9 _ c10 _ c11 _ c13 _ c14 w
  by_cases h20 : f0 = 20
  · subst h20
    exact un20 f1 f2 f4 f16 f19 f12 f15 f17 f18 f20 A3 A5 A6 A7 A8 A9 A10 A11 A13 A14 _ c3 _ c5 _ c6 _ c7 _ c8 _ c9 _ c10 _ c11 _ c13 _ c14 w
  by_cases h15 : f0 = 15
  · subst h15
    exact un15 f1 f2 f4 f16 f19 f12 f15 f17 f18 f20 A3 A5 A6 A7 A8 A9 A10 A11 A13 A14 _ c3 _ c5 _ c6 _ c7 _ c8 _ c9 _ c10 _ c11 _ c13 _ c14 w
  by_cases h24 : f0 = 24
  · subst h24
    exact un24 f1 f2 f4 f16 f19 f12 f15 f17 f18 f20 A3 A5 A6 A7 A8 A9 A10 A11 A13 A14 _ c3 _ c5 _ c6 _ c7 _ c8 _ c9 _ c10 _ c11 _ c13 _ c14 w
  simp only [Mv.unused, Hd.unused, if_neg h1, if_neg h2, if_neg h11, if_neg h4, if_neg h20, if_neg h15, if_neg h24]
  exact un0 f1 f2 f4 f16 f19 f12 f15 f17 f18 f20 A3 A5 A6 A7 A8 A9 A10 A11 A13 A14 _ c3 _ c5 _ c6 _ c7 _ c8 _ c9 _ c10 _ c11 _ c13 _ c14 f0 (beq_eq_false_iff_ne.mpr h1) (beq_eq_false_iff_ne.mpr h2) (beq_eq_false_iff_ne.mpr h11) (beq_eq_false_iff_ne.mpr h4) (beq_eq_false_iff_ne.mpr h20) (beq_eq_false_iff_ne.mpr h15) (beq_eq_false_iff_ne.mpr h24) w
end Go.Proofs.Ytlkebjkpmiehcaa.Ms
end
section
namespace Go.Proofs.Ytlkebjkpmiehcaa.Ms
open Go.RowKit Go.Proofs.YtlkebjkpmiehcaaW.PrintWords Go.Proofs.YtlkebjkpmiehcaaW.PrintLast Go.Proofs.YtlkebjkpmiehcaaW.PrintMore Go.Proofs.Ytlkebjkpmiehcaa.X
set_option linter.unusedVariables false
def pv (v : ByteArray) (n : Int) : ByteArray × Int := (wire_PutVec.f v n).getD (ByteArray.empty, 101)
def nm (x n : Int) : ByteArray × Int := (wire_Put.f x n).getD (ByteArray.empty, 101)
theorem bytes_some (x n : Int) (h1 : 1 ≤ n) (h4 : n ≤ 4) : ∃ r, wire_Bytes.f x n = some r ∧ r.size = n.toNat := by
  have : n = 1 ∨ n = 2 ∨ n = 3 ∨ n = 4 := by omega
  rcases this with rfl | rfl | rfl | rfl
  all_goals exact ⟨_, rfl, rfl⟩
theorem w8 (n : Int) (h1 : 1 ≤ n) (h4 : n ≤ 4) : wrap64 (8 * n) = 8 * n := (i64_w _).symm.trans (IntWalk.i64_in _ (by omega))
theorem pv_ex (v : ByteArray) (n : Int) (h1 : 1 ≤ n) (h3 : n ≤ 3) (hv : v.size ≤ 140737488355328) : ∃ r, wire_PutVec.f v n = some r ∧ r.1.size ≤ 3 + v.size ∧ ((r.2 = 0 ∧ r.1.size = n.toNat + v.size) ∨ (r.2 = 101 ∧ r.1 = ByteArray.empty)) := by
  obtain ⟨r, hr, hs⟩ := bytes_some v.size n h1 (by omega)
  unfold wire_PutVec.f
  rw [w8 n h1 (by omega), if_neg (by omega), if_neg (by omega), if_pos (by omega), hr]
  simp only [Option.bind_some]
  have hz : (r ++ v).size = n.toNat + v.size := by rw [ByteArray.size_append, hs]
  by_cases h : shr .i64 (v.size : Int) (8 * n) = 0
  · rw [if_pos h, if_pos (by omega)]
    exact ⟨_, rfl, by show (r ++ v).size ≤ _; omega, .inl ⟨rfl, hz⟩⟩
  · rw [if_neg h]
    exact ⟨_, rfl, by show (0 : Nat) ≤ _; omega, .inr ⟨rfl, rfl⟩⟩
theorem pv_some (v : ByteArray) (n : Int) (h1 : 1 ≤ n) (h3 : n ≤ 3) (hv : v.size ≤ 140737488355328) : wire_PutVec.f v n = some ((pv v n).1, (pv v n).2) := by
  obtain ⟨r, hr, _⟩ := pv_ex v n h1 h3 hv
  unfold pv
  rw [hr]
  rfl
theorem pv_size (v : ByteArray) (n : Int) (h1 : 1 ≤ n) (h3 : n ≤ 3) (hv : v.size ≤ 140737488355328) : (pv v n).1.size ≤ 3 + v.size := by
  obtain ⟨r, hr, hs, _⟩ := pv_ex v n h1 h3 hv
  unfold pv
  rw [hr]
  exact hs
theorem nm_ex (x n : Int) (h1 : 1 ≤ n) (h4 : n ≤ 4) : ∃ r, wire_Put.f x n = some r ∧ r.1.size ≤ 4 := by
  obtain ⟨r, hr, hs⟩ := bytes_some x n h1 h4
  unfold wire_Put.f
  rw [w8 n h1 h4, if_neg (by omega), if_neg (by omega), hr]
  simp only [Option.bind_some]
  by_cases h0 : x < 0
  · rw [if_pos h0]
    exact ⟨_, rfl, by show (0 : Nat) ≤ _; omega⟩
  · rw [if_neg h0, if_pos (by omega)]
    by_cases h : shr .i64 x (8 * n) = 0
    · rw [if_pos h]
      exact ⟨_, rfl, by show r.size ≤ 4; omega⟩
    · rw [if_neg h]
      exact ⟨_, rfl, by show (0 : Nat) ≤ _; omega⟩
theorem nm_some (x n : Int) (h1 : 1 ≤ n) (h4 : n ≤ 4) : wire_Put.f x n = some ((nm x n).1, (nm x n).2) := by
  obtain ⟨r, hr, _⟩ := nm_ex x n h1 h4
  unfold nm
  rw [hr]
  rfl
theorem nm_size (x n : Int) (h1 : 1 ≤ n) (h4 : n ≤ 4) : (nm x n).1.size ≤ 4 := by
  obtain ⟨r, hr, hs⟩ := nm_ex x n h1 h4
  unfold nm
  rw [hr]
  exact hs
theorem num_calls' (lo g : Nat) (s : ByteArray) (b : Bool) (x size : Int) (w : World) (h : Wt lo w g s b) (h1 : 1 ≤ size) (h4 : size ≤ 4) (hn : s.size + 4 ≤ 140737488355328) :
    Calls Try.prog 60 #[.pointer (some ⟨g, 0, none⟩), .int .i64 x, .int .i64 size] w fun ex w' => ex = .returned (.tuple #[]) ∧ Wt lo w' g (s ++ (nm x size).1) (b || !((nm x size).2 == 0)) ∧ Fr lo g w w' :=
  num_calls lo g s _ b x size _ w h (nm_some x size h1 h4) (by have := nm_size x size h1 h4; omega)
theorem vec_calls' (lo g : Nat) (s v : ByteArray) (b : Bool) (size least most : Int) (w : World) (h : Wt lo w g s b) (h1 : 1 ≤ size) (h3 : size ≤ 3) (hn : s.size + 3 + v.size ≤ 140737488355328) :
    Calls Try.prog 57 #[.pointer (some ⟨g, 0, none⟩), .string v, .int .i64 size, .int .i64 least, .int .i64 most] w fun ex w' => ex = .returned (.tuple #[]) ∧ Wt lo w' g (s ++ (pv v size).1) (b || !(vecOk v (pv v size).2 least most)) ∧ Fr lo g w w' :=
  vec_calls lo g s v _ b size least most _ w h (pv_some v size h1 h3 (by omega)) (by have := pv_size v size h1 h3 (by omega); omega)
theorem within_calls' (lo g k : Nat) (cap : Array Value) (s u : ByteArray) (b bu : Bool) (size : Int) (w : World) (h : Wt lo w g s b)
    (eg : ∀ args w, (callFunc k args).run Try.prog w = .ok (.enter k args) w) (hw : Writes k cap w u bu) (h1 : 1 ≤ size) (h3 : size ≤ 3) (hn : s.size + 3 + u.size ≤ 140737488355328) :
    Calls Try.prog 58 #[.pointer (some ⟨g, 0, none⟩), .int .i64 size, .func (.func k) #[] cap] w fun ex w' => ex = .returned (.tuple #[]) ∧ Wt lo w' g (s ++ (pv u size).1) ((b || !(!bu)) || !(vecOk u (pv u size).2 0 16777216)) ∧ Fr lo g w w' :=
  within_calls lo g k cap s u _ b bu size _ w h eg hw (pv_some u size h1 h3 (by omega)) (by have := pv_size u size h1 h3 (by omega); omega)
end Go.Proofs.Ytlkebjkpmiehcaa.Ms
end
section
namespace Go.Proofs.Ytlkebjkpmiehcaa.Ms
open Go.RowKit Go.Proofs.YtlkebjkpmiehcaaW.PrintWords Go.Proofs.YtlkebjkpmiehcaaW.PrintLast Go.Proofs.YtlkebjkpmiehcaaW.PrintMore Go.Proofs.Ytlkebjkpmiehcaa.X
set_option linter.unusedVariables false
def certStep (p : ByteArray × Bool) (c : ByteArray) : ByteArray × Bool :=
  ((p.1 ++ (pv c 3).1) ++ (pv ⟨#[]⟩ 2).1, (p.2 || !(vecOk c (pv c 3).2 1 16777216)) || !(vecOk ⟨#[]⟩ (pv ⟨#[]⟩ 2).2 0 0))
def certW (l : List ByteArray) : ByteArray × Bool := l.foldl certStep (ByteArray.empty, false)
def csz (l : List ByteArray) : Nat := (l.map fun c => c.size + 6).sum
theorem csz_step (l : List ByteArray) (i : Nat) (h : i < l.length) : csz (l.take (i + 1)) = csz (l.take i) + ((rdOf ByteArray.empty l (i : Int)).size + 6) := by
  unfold csz rdOf
  rw [Int.toNat_natCast, List.take_add_one, List.map_append, List.sum_append, List.getD_eq_getElem?_getD, List.getElem?_eq_getElem h]
  simp
theorem csz_le (l : List ByteArray) (i : Nat) : csz (l.take i) ≤ csz l := by
  unfold csz
  conv => rhs; rw [← List.take_append_drop i l, List.map_append, List.sum_append]
  exact Nat.le_add_right _ _
theorem certW_step (l : List ByteArray) (i : Nat) (h : i < l.length) : certW (l.take (i + 1)) = certStep (certW (l.take i)) (rdOf ByteArray.empty l (i : Int)) := by
  unfold certW rdOf
  rw [Int.toNat_natCast, List.take_add_one, List.foldl_append, List.getD_eq_getElem?_getD, List.getElem?_eq_getElem h]
  simp
theorem pv2 : (pv ⟨#[]⟩ 2).1.size ≤ 3 := by have := pv_size ⟨#[]⟩ 2 (by omega) (by omega) (by show (0 : Nat) ≤ _; omega); exact Nat.le_trans this (by show 3 + 0 ≤ 3; omega)
theorem certW_size (l : List ByteArray) (hl : csz l ≤ 140737488355328) : ∀ i, i ≤ l.length → (certW (l.take i)).1.size ≤ csz (l.take i)
  | 0, _ => by simp [certW, csz]
  | i + 1, h => by
    have ih := certW_size l hl i (by omega)
    have hc := csz_step l i h
    have hb := csz_le l (i + 1)
    rw [certW_step l i h]
    unfold certStep
    simp only [ByteArray.size_append]
    have h1 := pv_size (rdOf ByteArray.empty l (i : Int)) 3 (by omega) (by omega) (by omega)
    have h2 := pv2
    omega
structure Cap (w0 w : World) (gb gm : Nat) (cs : Array Value) : Prop where
  box : w.heap[gb]? = some (.cells #[.pointer (some ⟨gm, 0, none⟩)] 85 (0, 0))
  msg : w.heap[gm]? = some (.cells cs 49 (0, 0))
  below : Below w0.heap.size w0 w
theorem Cap.fr {w0 w w' : World} {lo g gb gm : Nat} {cs : Array Value} (h : Cap w0 w gb gm cs) (f : Fr lo g w w') (hl : w0.heap.size ≤ lo) (h1 : gb ≠ g) (h2 : gm ≠ g) : Cap w0 w' gb gm cs :=
  ⟨f.keep _ _ _ h.box h1 (by decide), f.keep _ _ _ h.msg h2 (by decide), h.below.trans (f.below.mono hl)⟩
theorem Cap.over {w0 w w' : World} {gb gm : Nat} {cs : Array Value} (h : Cap w0 w gb gm cs) (b : Below w.heap.size w w') : Cap w0 w' gb gm cs :=
  ⟨(b.block gb (blk_lt h.box)).trans h.box, (b.block gm (blk_lt h.msg)).trans h.msg, h.below.trans (b.mono h.below.size)⟩
set_option maxRecDepth 100000 in
set_option maxHeartbeats 8000000 in
theorem certs_calls (lo g gb gm : Nat) (cs : Array Value) (A : Option Addr) (c : Nat) (l : List ByteArray) (w0 w : World) (hl : w0.heap.size ≤ lo) (h1 : gb ≠ g) (h2 : gm ≠ g) (hcap : Cap w0 w gb gm cs) (hc : cs[14]? = some (.slice A l.length c))
    (hr : Kd.C Kd.string w0 A l.length l) (hlc : l.length ≤ c) (hsz : csz l ≤ 140737488355328) (h : Wt lo w g ByteArray.empty false) :
    Calls Try.prog 59 #[.pointer (some ⟨g, 0, none⟩), .pointer (some ⟨gb, 0, none⟩)] w fun ex w' => ex = .returned (.tuple #[]) ∧ Wt lo w' g (certW l).1 (certW l).2 ∧ Fr lo g w w' := by
  have HW := Aside0.mk h
  have HC := Aside0.mk hcap
  have HR := Aside0.mk hr
  have HS := Aside0.mk hsz
  have HL := Aside0.mk hl
  have HV := Aside0.mk hc
  have HLM := Aside0.mk (show l.length ≤ 140737488355328 from by
    have : ∀ l : List ByteArray, l.length ≤ csz l := by
      intro l
      induction l with
      | nil => exact Nat.zero_le _
      | cons a r ih => simp only [csz, List.map_cons, List.sum_cons, List.length_cons] at ih ⊢; omega
    exact Nat.le_trans (this l) hsz)
  have H1 := Aside0.mk h1
  have H2 := Aside0.mk h2
  clear h hcap hr hsz hl h1 h2 hc
  go_enter Try.func59, Try.ntmps59
  go_wp2_with (first
    | ((with_reducible refine gate_dst (N := 5) rfl ?_); refine ld rfl rfl rfl HC.out.box Try.underlying85 rfl rfl ?_)
    | ((with_reducible refine gate_dst (N := 8) rfl ?_); refine ld rfl rfl rfl HC.out.msg Try.underlying47 rfl HV.out ?_))
  go_loopw [10] (fun v wr => ∃ i : Nat, i ≤ l.length ∧ v = .int .i64 i ∧ Aside0 (Wt lo wr g (certW (l.take i)).1 (certW (l.take i)).2) ∧ Aside0 (Fr lo g w wr)) (fun v _ => l.length - (intOf v).toNat)
  case atStart => exact ⟨0, by omega, rfl, HW, ⟨Fr.refl _ _ _⟩⟩
  case round =>
  obtain ⟨i, hi, rfl, HWi, HFi⟩ := hrel
  by_cases hlt : i < l.length
  · have t1 : decide ((i : Int) < (l.length : Int)) = true := decide_eq_true (by omega)
    have p : (0 : Int) ≤ (i : Int) := by omega
    have q : (i : Int) < (l.length : Int) := by omega
    have HCi := Aside0.mk (HC.out.fr HFi.out HL.out H1.out H2.out)
    obtain ⟨ad, e0, hx⟩ := Kd.at_string (Kd.C_below HR.out HCi.out.below) (i : Int) p q
    cases e0
    have hsi := certW_size l HS.out i hi
    have hst := csz_step l i hlt
    have hle := csz_le l (i + 1)
    obtain ⟨s, hs⟩ : ∃ s, s = rdOf ByteArray.empty l (i : Int) := ⟨_, rfl⟩
    rw [← hs] at hx hst
    rw [Int.toNat_natCast] at hx
    have HSE := Aside0.mk hs
    have HN1 := Aside0.mk (show (certW (l.take i)).1.size + 3 + s.size ≤ 140737488355328 from by have := HS.out; omega)
    have HN2 := Aside0.mk (show ((certW (l.take i)).1 ++ (pv s 3).1).size + 3 + (⟨#[]⟩ : ByteArray).size ≤ 140737488355328 from by
      have := HS.out
      have h3 := pv_size s 3 (by omega) (by omega) (by omega)
      rw [ByteArray.size_append]
      show _ + 3 + 0 ≤ _
      omega)
    have p' := eq_true p
    have q' := eq_true q
    have z1 : IntKind.i64.wrap ((i : Int) + 1) = (i : Int) + 1 := IntWalk.i64_in _ (by have := HLM.out; omega)
    clear hs hsi hst hle p q
    go_wp2_with (first
      | (go_at_call 57; first
        | ((with_reducible refine (vec_calls' lo g _ s _ 3 1 16777216 _ HWi.out (by omega) (by omega) HN1.out).mono ?_); rintro e1 w1 ⟨rfl, i1, f1⟩; have HW1 := Aside0.mk i1; have HF1 := Aside0.mk (HFi.out.trans f1); clear i1 f1 hx)
        | ((with_reducible refine (vec_calls' lo g _ ⟨#[]⟩ _ 2 0 0 _ HW1.out (by omega) (by omega) HN2.out).mono ?_); rintro e2 w2 ⟨rfl, i2, f2⟩; have HW2 := Aside0.mk i2; have HF2 := Aside0.mk (HF1.out.trans f2); clear i2 f2)))
    go_roundw
    case rel => first | exact ⟨i + 1, by omega, by go_num, ⟨by rw [certW_step l i hlt, ← HSE.out]; exact HW2.out⟩, HF2⟩ | ((repeat apply Exists.intro); exact ⟨⟨i + 1, by omega, by go_num, ⟨by rw [certW_step l i hlt, ← HSE.out]; exact HW2.out⟩, HF2⟩, rfl⟩)
    case measure => simp [intOf]; omega
  · have t1 : decide ((i : Int) < (l.length : Int)) = false := decide_eq_false (by omega)
    have hie : l.take i = l := List.take_of_length_le (by omega)
    rw [hie] at HWi
    clear hie
    go_wp2
    first | go_end0 | ((try simp only [Exit.inBlock, Exit.then]); refine bodyPost_ret (results_none rfl _ _ _) rfl ?_)
    exact ⟨rfl, HWi.out, HFi.out⟩
end Go.Proofs.Ytlkebjkpmiehcaa.Ms
end
section
namespace Go.Proofs.Ytlkebjkpmiehcaa.Ms
open Go.RowKit Go.Proofs.YtlkebjkpmiehcaaW.PrintWords Go.Proofs.YtlkebjkpmiehcaaW.PrintLast Go.Proofs.YtlkebjkpmiehcaaW.PrintMore Go.Proofs.Ytlkebjkpmiehcaa.X
set_option linter.unusedVariables false
theorem box85 {ops : Array Oper} {rest : List Oper} {o : Oper} {a : Act} {Q : Exit → Act → World → Prop} {w : World} {x : Operand} (hgd : o.guard = none) (ho : o.op = .box 85 x) {q : Option Addr} (hx : a.eval x = .pointer q)
    (H : ∀ g, g = w.heap.size → ∀ w1, w1.heap[g]? = some (.cells #[.pointer q] 85 (0, 0)) → Below w.heap.size w w1 → wpList Try.prog ops Q rest (a.put o.dst (.pointer (some ⟨g, 0, none⟩))) w1) : wpList Try.prog ops Q (o :: rest) a w := by
  refine Kd.event_run hgd ?_ (H _ rfl _ (blk_new w _) (below_alloc (Below.refl _ _) _))
  unfold execOp
  simp only [ho, hx]
  rfl
theorem enters59 : ∀ args w, (callFunc 59 args).run Try.prog w = .ok (.enter 59 args) w := fun args w => enters_ Try.func59 (by kernel_rfl) rfl args w
structure At (w0 w : World) (lo g gm : Nat) (cs : Array Value) : Prop where
  wt : Wt lo w g ByteArray.empty false
  box : w.heap[gm]? = some (.cells cs 49 (0, 0))
  lt : gm < lo
  below : Below w0.heap.size w0 w
  le : w0.heap.size ≤ lo
theorem cellB {w : World} {g : Nat} {v : Value} (h : w.heap[g]? = some (.cells #[v] 85 (0, 0))) : w.cell? ⟨g, 0, none⟩ = some v := (blk_cell h 0).trans rfl
set_option maxRecDepth 100000 in
set_option maxHeartbeats 8000000 in
theorem body24 (lo g gm : Nat) (cs : Array Value) (w0 w : World) (h : At w0 w lo g gm cs) (hk : cs[0]? = some (.int .i64 24)) (u : Int) (hu : cs[20]? = some (.int .i64 u)) :
    Calls Try.prog 44 #[.pointer (some ⟨g, 0, none⟩), .pointer (some ⟨gm, 0, none⟩)] w fun ex w' => ex = .returned (.tuple #[]) ∧ Wt lo w' g (ByteArray.empty ++ (nm (wrap64 (u - 1)) 1).1) ((false || !(u == 1 || u == 2)) || !((nm (wrap64 (u - 1)) 1).2 == 0)) ∧ Fr lo g w w' := by
  have HW := Aside0.mk h.wt
  have HM := Aside0.mk h.box
  have HB := Aside0.mk h.below
  have HL := Aside0.mk h.le
  have HNM := Aside0.mk (show gm ≠ g from by have := h.wt.lt; have := h.lt; omega)
  have HV0 := Aside0.mk hk
  have HV20 := Aside0.mk hu
  have HN := Aside0.mk (show (ByteArray.empty).size + 4 ≤ 140737488355328 from by show 0 + 4 ≤ _; omega)
  clear h hk hu
  by_cases c1 : u = 1
  · have c1b : (u == 1) = true := beq_iff_eq.mpr c1
    clear c1
    rw [c1b]
    go_enter Try.func44, Try.ntmps44
    go_wp2_with (first
    | ((with_reducible refine gate_dst (N := 3) rfl ?_); refine box85 rfl rfl rfl ?_; intro gb eb w1 h1 b1; have HW1 := Aside0.mk (HW.out.below b1); have HF := Aside0.mk (Fr.of_below (g := g) HW.out.size b1); have HC := Aside0.mk (Cap.mk (w0 := w0) h1 ((b1.block gm (blk_lt HM.out)).trans HM.out) (HB.out.trans (b1.mono HB.out.size))); have HNB := Aside0.mk (show gb ≠ g from by have := HW.out.lt; omega); have hcb := cellB h1; have hcm := (blk_cell HC.out.msg 20).trans HV20.out; clear h1 b1 eb)
    | ((with_reducible refine gate_dst (N := 4) rfl ?_); refine ld rfl rfl rfl HC.out.box Try.underlying85 rfl rfl ?_)
    | ((with_reducible refine gate_dst (N := 7) rfl ?_); refine ld rfl rfl rfl HC.out.msg Try.underlying3 rfl HV0.out ?_)
    | ((with_reducible refine gate_dst (N := 9) rfl ?_); refine ld rfl rfl rfl HC.out.box Try.underlying85 rfl rfl ?_)
    | ((with_reducible refine gate_dst (N := 12) rfl ?_); refine ld rfl rfl rfl HC.out.msg Try.underlying3 rfl HV20.out ?_)
    | ((with_reducible refine gate_dst (N := 23) rfl ?_); refine ld rfl rfl rfl HC.out.box Try.underlying85 rfl rfl ?_)
    | ((with_reducible refine gate_dst (N := 26) rfl ?_); refine ld rfl rfl rfl HC.out.msg Try.underlying3 rfl HV20.out ?_)
    | (go_at_call 61; first
      | ((with_reducible refine (need_calls lo g _ _ true _ HW1.out).mono ?_); rintro e2 w2 ⟨rfl, i2, b2, k2⟩; have HW2 := Aside0.mk i2; have f2 := Fr.of_keep b2 k2; have n_ := Aside0.mk (HF.out.trans f2); clear HF; have HF := n_; clear n_; have n_ := Aside0.mk (HC.out.fr f2 HL.out HNB.out HNM.out); clear HC; have HC := n_; clear n_; clear i2 b2 k2 f2))
    | (go_at_call 60; first
      | ((with_reducible refine (num_calls' lo g _ _ (wrap64 (u - 1)) 1 _ HW2.out (by omega) (by omega) HN.out).mono ?_); rintro e3 w3 ⟨rfl, i3, f3⟩; have HW3 := Aside0.mk i3; have n_ := Aside0.mk (HF.out.trans f3); clear HF; have HF := n_; clear n_; have n_ := Aside0.mk (HC.out.fr f3 HL.out HNB.out HNM.out); clear HC; have HC := n_; clear n_; clear i3 f3)))
    first | go_end0 | ((try simp only [Exit.inBlock, Exit.then]); refine bodyPost_ret (results_none rfl _ _ _) rfl ?_)
    exact ⟨rfl, HW3.out, HF.out⟩
  · have c1b : (u == 1) = false := beq_eq_false_iff_ne.mpr c1
    clear c1
    by_cases c2 : u = 2
    · have c2b : (u == 2) = true := beq_iff_eq.mpr c2
      clear c2
      rw [c1b, c2b]
      go_enter Try.func44, Try.ntmps44
      go_wp2_with (first
    | ((with_reducible refine gate_dst (N := 3) rfl ?_); refine box85 rfl rfl rfl ?_; intro gb eb w1 h1 b1; have HW1 := Aside0.mk (HW.out.below b1); have HF := Aside0.mk (Fr.of_below (g := g) HW.out.size b1); have HC := Aside0.mk (Cap.mk (w0 := w0) h1 ((b1.block gm (blk_lt HM.out)).trans HM.out) (HB.out.trans (b1.mono HB.out.size))); have HNB := Aside0.mk (show gb ≠ g from by have := HW.out.lt; omega); have hcb := cellB h1; have hcm := (blk_cell HC.out.msg 20).trans HV20.out; clear h1 b1 eb)
    | ((with_reducible refine gate_dst (N := 4) rfl ?_); refine ld rfl rfl rfl HC.out.box Try.underlying85 rfl rfl ?_)
    | ((with_reducible refine gate_dst (N := 7) rfl ?_); refine ld rfl rfl rfl HC.out.msg Try.underlying3 rfl HV0.out ?_)
    | ((with_reducible refine gate_dst (N := 9) rfl ?_); refine ld rfl rfl rfl HC.out.box Try.underlying85 rfl rfl ?_)
    | ((with_reducible refine gate_dst (N := 12) rfl ?_); refine ld rfl rfl rfl HC.out.msg Try.underlying3 rfl HV20.out ?_)
    | ((with_reducible refine gate_dst (N := 23) rfl ?_); refine ld rfl rfl rfl HC.out.box Try.underlying85 rfl rfl ?_)
    | ((with_reducible refine gate_dst (N := 26) rfl ?_); refine ld rfl rfl rfl HC.out.msg Try.underlying3 rfl HV20.out ?_)
    | (go_at_call 61; first
      | ((with_reducible refine (need_calls lo g _ _ true _ HW1.out).mono ?_); rintro e2 w2 ⟨rfl, i2, b2, k2⟩; have HW2 := Aside0.mk i2; have f2 := Fr.of_keep b2 k2; have n_ := Aside0.mk (HF.out.trans f2); clear HF; have HF := n_; clear n_; have n_ := Aside0.mk (HC.out.fr f2 HL.out HNB.out HNM.out); clear HC; have HC := n_; clear n_; clear i2 b2 k2 f2))
    | (go_at_call 60; first
      | ((with_reducible refine (num_calls' lo g _ _ (wrap64 (u - 1)) 1 _ HW2.out (by omega) (by omega) HN.out).mono ?_); rintro e3 w3 ⟨rfl, i3, f3⟩; have HW3 := Aside0.mk i3; have n_ := Aside0.mk (HF.out.trans f3); clear HF; have HF := n_; clear n_; have n_ := Aside0.mk (HC.out.fr f3 HL.out HNB.out HNM.out); clear HC; have HC := n_; clear n_; clear i3 f3)))
      first | go_end0 | ((try simp only [Exit.inBlock, Exit.then]); refine bodyPost_ret (results_none rfl _ _ _) rfl ?_)
      exact ⟨rfl, HW3.out, HF.out⟩
    · have c2b : (u == 2) = false := beq_eq_false_iff_ne.mpr c2
      clear c2
      rw [c1b, c2b]
      go_enter Try.func44, Try.ntmps44
      go_wp2_with (first
    | ((with_reducible refine gate_dst (N := 3) rfl ?_); refine box85 rfl rfl rfl ?_; intro gb eb w1 h1 b1; have HW1 := Aside0.mk (HW.out.below b1); have HF := Aside0.mk (Fr.of_below (g := g) HW.out.size b1); have HC := Aside0.mk (Cap.mk (w0 := w0) h1 ((b1.block gm (blk_lt HM.out)).trans HM.out) (HB.out.trans (b1.mono HB.out.size))); have HNB := Aside0.mk (show gb ≠ g from by have := HW.out.lt; omega); have hcb := cellB h1; have hcm := (blk_cell HC.out.msg 20).trans HV20.out; clear h1 b1 eb)
    | ((with_reducible refine gate_dst (N := 4) rfl ?_); refine ld rfl rfl rfl HC.out.box Try.underlying85 rfl rfl ?_)
    | ((with_reducible refine gate_dst (N := 7) rfl ?_); refine ld rfl rfl rfl HC.out.msg Try.underlying3 rfl HV0.out ?_)
    | ((with_reducible refine gate_dst (N := 9) rfl ?_); refine ld rfl rfl rfl HC.out.box Try.underlying85 rfl rfl ?_)
    | ((with_reducible refine gate_dst (N := 12) rfl ?_); refine ld rfl rfl rfl HC.out.msg Try.underlying3 rfl HV20.out ?_)
    | ((with_reducible refine gate_dst (N := 23) rfl ?_); refine ld rfl rfl rfl HC.out.box Try.underlying85 rfl rfl ?_)
    | ((with_reducible refine gate_dst (N := 26) rfl ?_); refine ld rfl rfl rfl HC.out.msg Try.underlying3 rfl HV20.out ?_)
    | (go_at_call 61; first
      | ((with_reducible refine (need_calls lo g _ _ false _ HW1.out).mono ?_); rintro e2 w2 ⟨rfl, i2, b2, k2⟩; have HW2 := Aside0.mk i2; have f2 := Fr.of_keep b2 k2; have n_ := Aside0.mk (HF.out.trans f2); clear HF; have HF := n_; clear n_; have n_ := Aside0.mk (HC.out.fr f2 HL.out HNB.out HNM.out); clear HC; have HC := n_; clear n_; clear i2 b2 k2 f2))
    | (go_at_call 60; first
      | ((with_reducible refine (num_calls' lo g _ _ (wrap64 (u - 1)) 1 _ HW2.out (by omega) (by omega) HN.out).mono ?_); rintro e3 w3 ⟨rfl, i3, f3⟩; have HW3 := Aside0.mk i3; have n_ := Aside0.mk (HF.out.trans f3); clear HF; have HF := n_; clear n_; have n_ := Aside0.mk (HC.out.fr f3 HL.out HNB.out HNM.out); clear HC; have HC := n_; clear n_; clear i3 f3)))
      first | go_end0 | ((try simp only [Exit.inBlock, Exit.then]); refine bodyPost_ret (results_none rfl _ _ _) rfl ?_)
      exact ⟨rfl, HW3.out, HF.out⟩
set_option maxRecDepth 100000 in
set_option maxHeartbeats 8000000 in
theorem body11 (lo g gm : Nat) (cs : Array Value) (w0 w : World) (h : At w0 w lo g gm cs) (hk : cs[0]? = some (.int .i64 11)) (A : Option Addr) (c : Nat) (l : List ByteArray) (hu : cs[14]? = some (.slice A l.length c)) (hr : Kd.C Kd.string w0 A l.length l) (hlc : l.length ≤ c) (hsz : csz l + 16 ≤ 140737488355328) :
    Calls Try.prog 44 #[.pointer (some ⟨g, 0, none⟩), .pointer (some ⟨gm, 0, none⟩)] w fun ex w' => ex = .returned (.tuple #[]) ∧ Wt lo w' g ((ByteArray.empty ++ (pv ⟨#[]⟩ 1).1) ++ (pv (certW l).1 3).1) (((false || !(vecOk ⟨#[]⟩ (pv ⟨#[]⟩ 1).2 0 0)) || !(!(certW l).2)) || !(vecOk (certW l).1 (pv (certW l).1 3).2 0 16777216)) ∧ Fr lo g w w' := by
  have HW := Aside0.mk h.wt
  have HM := Aside0.mk h.box
  have HB := Aside0.mk h.below
  have HL := Aside0.mk h.le
  have HNM := Aside0.mk (show gm ≠ g from by have := h.wt.lt; have := h.lt; omega)
  have HV0 := Aside0.mk hk
  have HV14 := Aside0.mk hu
  have HR := Aside0.mk hr
  have HLC := Aside0.mk hlc
  have HS := Aside0.mk hsz
  have HN := Aside0.mk (show (ByteArray.empty).size + 3 + (⟨#[]⟩ : ByteArray).size ≤ 140737488355328 from by show 0 + 3 + 0 ≤ _; omega)
  have HN2 := Aside0.mk (show (ByteArray.empty ++ (pv ⟨#[]⟩ 1).1).size + 3 + (certW l).1.size ≤ 140737488355328 from by
    have h1 := pv_size ⟨#[]⟩ 1 (by omega) (by omega) (by show (0 : Nat) ≤ _; omega)
    have h2 := certW_size l (by omega) l.length (Nat.le_refl _)
    rw [List.take_length] at h2
    rw [ByteArray.size_append]
    have h3 : (⟨#[]⟩ : ByteArray).size = 0 := rfl
    have h4 : (ByteArray.empty).size = 0 := rfl
    omega)
  have hmf : ∀ fn first cap w, (Instr.makeFunc fn first cap).run Try.prog w = .ok (.func fn first cap) w := fun _ _ _ _ => rfl
  clear h hk hu hr hlc hsz
  go_enter Try.func44, Try.ntmps44
  go_wp2_with (first
    | ((with_reducible refine gate_dst (N := 3) rfl ?_); refine box85 rfl rfl rfl ?_; intro gb eb w1 h1 b1; have HW1 := Aside0.mk (HW.out.below b1); have HF := Aside0.mk (Fr.of_below (g := g) HW.out.size b1); have HC := Aside0.mk (Cap.mk (w0 := w0) h1 ((b1.block gm (blk_lt HM.out)).trans HM.out) (HB.out.trans (b1.mono HB.out.size))); have HNB := Aside0.mk (show gb ≠ g from by have := HW.out.lt; omega); clear h1 b1 eb)
    | ((with_reducible refine gate_dst (N := 4) rfl ?_); refine ld rfl rfl rfl HC.out.box Try.underlying85 rfl rfl ?_)
    | ((with_reducible refine gate_dst (N := 7) rfl ?_); refine ld rfl rfl rfl HC.out.msg Try.underlying3 rfl HV0.out ?_)
    | (go_at_call 57; first
      | ((with_reducible refine (vec_calls' lo g _ ⟨#[]⟩ _ 1 0 0 _ HW1.out (by omega) (by omega) HN.out).mono ?_); rintro e2 w2 ⟨rfl, i2, f2⟩; have HW2 := Aside0.mk i2; have n_ := Aside0.mk (HF.out.trans f2); clear HF; have HF := n_; clear n_; have n_ := Aside0.mk (HC.out.fr f2 HL.out HNB.out HNM.out); clear HC; have HC := n_; clear n_; clear i2 f2))
    | (go_at_call 58; first
      | ((refine (within_calls' lo g 59 _ _ (certW l).1 _ (certW l).2 3 _ HW2.out enters59 (by intro w1 g1 b1 t1; exact certs_calls _ g1 _ gm cs A c l w0 w1 HC.out.below.size (by have := t1.lt; have := blk_lt HC.out.box; omega) (by have := t1.lt; have := blk_lt HC.out.msg; omega) (HC.out.over b1) HV14.out HR.out HLC.out (by have := HS.out; omega) t1) (by omega) (by omega) HN2.out).mono ?_); rintro e3 w3 ⟨rfl, i3, f3⟩; have HW3 := Aside0.mk i3; have n_ := Aside0.mk (HF.out.trans f3); clear HF; have HF := n_; clear n_; have n_ := Aside0.mk (HC.out.fr f3 HL.out HNB.out HNM.out); clear HC; have HC := n_; clear n_; clear i3 f3)))
  first | go_end0 | ((try simp only [Exit.inBlock, Exit.then]); refine bodyPost_ret (results_none rfl _ _ _) rfl ?_)
  exact ⟨rfl, HW3.out, HF.out⟩
end Go.Proofs.Ytlkebjkpmiehcaa.Ms
end
