-- Written by a program of this session (wip/tools/xprint.py), over the kit's printer.
import Derived.Test.YtocckplgjbhlbaaZx0
import Derived.Test.YtocckplgjbhlbaaZx1
import Derived.Test.YtocckplgjbhlbaaZx2
import Derived.Test.YtocckplgjbhlbaaZx3
namespace Go.Proofs.Ytocckplgjbhlbaa.Z
open Go.RowKit Go.Proofs.YtocckplgjbhlbaaW.PrintWords Go.Proofs.YtocckplgjbhlbaaW.PrintLast Go.Proofs.YtocckplgjbhlbaaW.PrintMore
attribute [local go_sem] max2_int min2_int max_two min_two max_three min_three max_four min_four   -- for this text's walks alone
set_option linter.unusedVariables false
set_option linter.unusedSimpArgs false

/-! ### halberdlaw6_ChachaTwice: function 4 -/
mutual
def halberdlaw6_ChachaTwice.j1 : Nat → Int → ByteArray → Int → List Int → Option (Bool)
  | 0, _, _, _, _ => none
  | k + 1, x1, x2, x3, x9 => if 32 ≤ (x9.length : Int) then ((some (x9.take 32 : List Int)).bind fun y139 => ((some (x9.drop 32 : List Int)).bind fun y143 => ((chacha_Xor.f (strOfNums y139) (Go.bits .and .i64 x1 4294967295) (strOfNums y143) x2).bind fun bt147 => ((chacha_Xor.f (strOfNums y139) (Go.bits .and .i64 x1 4294967295) (strOfNums y143) bt147.1).bind fun bt149 => (if (IntKind.u64.wrap (wrap64 ((wrap64 ((x2.size : Int) / 64)) + 1))) = 0 then (none) else (if 0 ≤ (wrap64 (64 * (wrap64 (Int.tmod (IntKind.u64.wrap (x3)) (IntKind.u64.wrap (wrap64 ((wrap64 ((x2.size : Int) / 64)) + 1))))))) then (if (wrap64 (64 * (wrap64 (Int.tmod (IntKind.u64.wrap (x3)) (IntKind.u64.wrap (wrap64 ((wrap64 ((x2.size : Int) / 64)) + 1))))))) ≤ (x2.size : Int) then ((chacha_Xor.f (strOfNums y139) (Go.bits .and .i64 x1 4294967295) (strOfNums y143) (x2.extract 0 ((wrap64 (64 * (wrap64 (Int.tmod (IntKind.u64.wrap (x3)) (IntKind.u64.wrap (wrap64 ((wrap64 ((x2.size : Int) / 64)) + 1))))))) : Int).toNat)).bind fun bt151 => ((chacha_Xor.f (strOfNums y139) (Go.bits .and .i64 (wrap64 ((Go.bits .and .i64 x1 4294967295) + (wrap64 (Int.tmod (IntKind.u64.wrap (x3)) (IntKind.u64.wrap (wrap64 ((wrap64 ((x2.size : Int) / 64)) + 1))))))) 4294967295) (strOfNums y143) (x2.extract ((wrap64 (64 * (wrap64 (Int.tmod (IntKind.u64.wrap (x3)) (IntKind.u64.wrap (wrap64 ((wrap64 ((x2.size : Int) / 64)) + 1))))))) : Int).toNat x2.size)).bind fun bt153 => ((halberdlaw0_Num.f bt147.2).bind fun t155 => (if t155 = 0 then ((halberdlaw0_Num.f bt149.2).bind fun t156 => (if t156 = 0 then (if bt149.1.toList = x2.toList then ((halberdlaw0_Num.f bt151.2).bind fun t157 => (if t157 = 0 then ((halberdlaw0_Num.f bt153.2).bind fun t158 => (if t158 = 0 then (if bt151.1.size + bt153.1.size ≤ 9223372036854775807 then (some ((bt151.1 ++ bt153.1).toList == bt147.1.toList)) else (none)) else (some false))) else (some false))) else (some false)) else (some false))) else (some false))))) else (none)) else (none))))))) else (none)
def halberdlaw6_ChachaTwice.l0 : Nat → ByteArray → Int → ByteArray → Int → List Int → Int → Option (Bool)
  | 0, _, _, _, _, _, _ => none
  | k + 1, x0, x1, x2, x3, x9, x10 => if x10 < 44 then (if x10 < (x0.size : Int) then (if 0 ≤ x10 then (if x10 < (x9.length : Int) then (halberdlaw6_ChachaTwice.l0 k x0 x1 x2 x3 (x9.set (x10 : Int).toNat (bt x0 x10)) (wrap64 (x10 + 1))) else (none)) else (none)) else (halberdlaw6_ChachaTwice.j1 k x1 x2 x3 x9)) else (halberdlaw6_ChachaTwice.j1 k x1 x2 x3 x9)
end
def halberdlaw6_ChachaTwice.f (k : Nat) (a0 : ByteArray) (a1 : Int) (a2 : ByteArray) (a3 : Int) : Option (Bool) := (halberdlaw6_awake.f).bind fun t134 => (if t134 = true then (if (a2.size : Int) > 3000 then (some true) else (if 44 ≤ 281474976710656 then (halberdlaw6_ChachaTwice.l0 k a0 a1 a2 a3 (List.replicate 44 0) 0) else (none))) else (some false))
theorem halberdlaw6_ChachaTwice.mono_l : ∀ k, (∀ y0 y1 y2 y3, LeO (halberdlaw6_ChachaTwice.j1 k y0 y1 y2 y3) (halberdlaw6_ChachaTwice.j1 (k + 1) y0 y1 y2 y3)) ∧ (∀ y0 y1 y2 y3 y4 y5, LeO (halberdlaw6_ChachaTwice.l0 k y0 y1 y2 y3 y4 y5) (halberdlaw6_ChachaTwice.l0 (k + 1) y0 y1 y2 y3 y4 y5))
  | 0 => ⟨fun _ _ _ _ r h => by simp [halberdlaw6_ChachaTwice.j1] at h, fun _ _ _ _ _ _ r h => by simp [halberdlaw6_ChachaTwice.l0] at h⟩
  | k + 1 => by
    obtain ⟨ih0, ih1⟩ := halberdlaw6_ChachaTwice.mono_l k
    refine ⟨?_, ?_⟩
    · intro y0 y1 y2 y3
      unfold halberdlaw6_ChachaTwice.j1
      repeat' first
      | (with_reducible exact ih0 _ _ _ _)
      | (with_reducible exact ih1 _ _ _ _ _ _)
      | (with_reducible exact LeO.refl _)
      | (with_reducible exact LeO.none _)
      | (with_reducible refine LeO.ite ?_ ?_)
      | (with_reducible refine LeO.bind ?_ (fun _ => ?_))
      | exact ih0 _ _ _ _
      | exact ih1 _ _ _ _ _ _
      | exact LeO.none _
      | refine LeO.ite ?_ ?_
      | refine LeO.bind ?_ (fun _ => ?_)
    · intro y0 y1 y2 y3 y4 y5
      unfold halberdlaw6_ChachaTwice.l0
      repeat' first
      | (with_reducible exact ih0 _ _ _ _)
      | (with_reducible exact ih1 _ _ _ _ _ _)
      | (with_reducible exact LeO.refl _)
      | (with_reducible exact LeO.none _)
      | (with_reducible refine LeO.ite ?_ ?_)
      | (with_reducible refine LeO.bind ?_ (fun _ => ?_))
      | exact ih0 _ _ _ _
      | exact ih1 _ _ _ _ _ _
      | exact LeO.none _
      | refine LeO.ite ?_ ?_
      | refine LeO.bind ?_ (fun _ => ?_)
theorem halberdlaw6_ChachaTwice.mono : ∀ a0 a1 a2 a3 k, LeO (halberdlaw6_ChachaTwice.f k a0 a1 a2 a3) (halberdlaw6_ChachaTwice.f (k + 1) a0 a1 a2 a3) := by
  intro a0 a1 a2 a3 k
  obtain ⟨ih0, ih1⟩ := halberdlaw6_ChachaTwice.mono_l k
  unfold halberdlaw6_ChachaTwice.f
  repeat' first
      | (with_reducible exact ih0 _ _ _ _)
      | (with_reducible exact ih1 _ _ _ _ _ _)
      | (with_reducible exact LeO.refl _)
      | (with_reducible exact LeO.none _)
      | (with_reducible refine LeO.ite ?_ ?_)
      | (with_reducible refine LeO.bind ?_ (fun _ => ?_))
      | exact ih0 _ _ _ _
      | exact ih1 _ _ _ _ _ _
      | exact LeO.none _
      | refine LeO.ite ?_ ?_
      | refine LeO.bind ?_ (fun _ => ?_)
set_option maxHeartbeats 8000000 in
set_option maxRecDepth 100000 in
theorem halberdlaw6_ChachaTwice.calls (k : Nat) (a0 : ByteArray) (a1 : Int) (a2 : ByteArray) (a3 : Int) (r : Bool) (w : World) (h : halberdlaw6_ChachaTwice.f k a0 a1 a2 a3 = some r) (hr : Aside0 (r = true)) :
    Calls Try.prog 4 #[.string a0, .int .i64 a1, .string a2, .int .i64 a3] w fun e w' => e = .returned (.bool r) ∧ Below w.heap.size w w' := by
  have HB := Aside0.mk (Below.refl w.heap.size w)
  have H : ((halberdlaw6_awake.f).bind fun t134 => (if t134 = true then (if (a2.size : Int) > 3000 then (some true) else (if 44 ≤ 281474976710656 then (halberdlaw6_ChachaTwice.l0 k a0 a1 a2 a3 (List.replicate 44 0) 0) else (none))) else (some false))) = some r := h
  clear h
  replace H := Option.bind_eq_some_iff.mp H
  obtain ⟨t134, A50, H⟩ := H
  replace H : (if t134 = true then (if (a2.size : Int) > 3000 then (some true) else (if 44 ≤ 281474976710656 then (halberdlaw6_ChachaTwice.l0 k a0 a1 a2 a3 (List.replicate 44 0) 0) else (none))) else (some false)) = some r := H
  have A5 := Aside0.mk A50
  clear A50
  by_cases c6 : t134 = true
  · subst c6
    have H1 : (if (a2.size : Int) > 3000 then (some true) else (if 44 ≤ 281474976710656 then (halberdlaw6_ChachaTwice.l0 k a0 a1 a2 a3 (List.replicate 44 0) 0) else (none))) = some r := by rw [if_pos rfl] at H; exact H
    clear H
    have H := H1
    clear H1
    by_cases c7 : (a2.size : Int) > 3000
    · rw [if_pos c7] at H
      have c7b0 : decide (3000 < (a2.size : Int)) = true := decide_eq_true c7
      have c7b1 : decide (3000 < a2.size) = true := decide_eq_true (by omega)
      clear c7
      obtain rfl := Option.some.inj H
      go_enter Try.func4, Try.ntmps4
      go_wp2_with (first | (go_at_call 17; (with_reducible refine (halberdlaw6_awake.calls  true _ A5.out).mono ?_); rintro e w8 ⟨rfl, hb⟩; have n0_ := Aside0.mk (below_step (by repeat (first | (with_reducible first | exact HB.out | apply below_alloc | apply pw_below_drewN | apply below_drew1) | exact HB.out)) hb); clear HB; have HB := n0_; clear n0_; (try clear hb); (try clear hb2); (try clear hk); (try clear hi)))
      repeat (go_quiet (first | (go_at_call 17; (with_reducible refine (halberdlaw6_awake.calls  true _ A5.out).mono ?_); rintro e w8 ⟨rfl, hb⟩; have n0_ := Aside0.mk (below_step (by repeat (first | (with_reducible first | exact HB.out | apply below_alloc | apply pw_below_drewN | apply below_drew1) | exact HB.out)) hb); clear HB; have HB := n0_; clear n0_; (try clear hb); (try clear hb2); (try clear hk); (try clear hi))); try go_wp2_with (first | (go_at_call 17; (with_reducible refine (halberdlaw6_awake.calls  true _ A5.out).mono ?_); rintro e w8 ⟨rfl, hb⟩; have n0_ := Aside0.mk (below_step (by repeat (first | (with_reducible first | exact HB.out | apply below_alloc | apply pw_below_drewN | apply below_drew1) | exact HB.out)) hb); clear HB; have HB := n0_; clear n0_; (try clear hb); (try clear hb2); (try clear hk); (try clear hi))))
      go_ret
      exact ⟨by first | rfl | (simp [errW_none, errW_some] <;> rfl) | (simp [*, errW_none, errW_some] <;> rfl), by repeat (first | (with_reducible first | exact HB.out | apply below_alloc | apply pw_below_drewN | apply below_drew1) | exact HB.out)⟩
    · rw [if_neg c7] at H
      have c7b0 : decide (3000 < (a2.size : Int)) = false := decide_eq_false c7
      have c7b1 : decide (3000 < a2.size) = false := decide_eq_false (by omega)
      clear c7
      by_cases c9 : 44 ≤ 281474976710656
      · rw [if_pos c9] at H
        have c9b0 := eq_true c9
        have c9b1 : decide (44 ≤ 281474976710656) = true := decide_eq_true c9
        clear c9
        obtain ⟨y135, hy135⟩ : ∃ y_ : List Int, y_ = (List.replicate 44 0) := ⟨_, rfl⟩
        replace H : (halberdlaw6_ChachaTwice.l0 k a0 a1 a2 a3 y135 0) = some r := by first | (rw [hy135]; with_reducible exact H) | (have H2_ := (Option.bind_some _ _).symm.trans H; rw [hy135]; with_reducible exact H2_) | (have H2_ := (Option.bind_some _ _).symm.trans H; with_reducible exact H2_) | with_reducible exact H | (rw [hy135]; exact H) | exact H
        have Ny135 := Aside0.mk hy135
        clear hy135
        have HC10 := Aside0.mk H
        clear H
        go_enter Try.func4, Try.ntmps4
        go_upto_block 0 with (first | (go_at_call 17; (with_reducible refine (halberdlaw6_awake.calls  true _ A5.out).mono ?_); rintro e w11 ⟨rfl, hb⟩; have n0_ := Aside0.mk (below_step (by repeat (first | (with_reducible first | exact HB.out | apply below_alloc | apply pw_below_drewN | apply below_drew1) | exact HB.out)) hb); clear HB; have HB := n0_; clear n0_; (try clear hb); (try clear hb2); (try clear hk); (try clear hi)) | ((with_reducible refine gate_dst (N := 28) rfl ?_); (try (refine gate_guard (by rfl) ?_; dsimp only)); refine Kd.R_make (Kd.int .u8) _ 5 rfl (N := 28) rfl 32 _ _ rfl 44 rfl rfl Try.underlying32 (.int .u8 0) 1 info5 rfl (by decide) (by omega) 0 (ok := fun _ => True) (okp := fun _ => True) rfl (fun _ hk => hk) trivial (by omega) (by omega) (Below.refl _ _) (Nat.le_refl _) ?_; intro v136 w12 ho13 hb hg_ hnew_; clear hg_ hnew_; (first | rw [← Ny135.out] at ho13 | (simp only [Int.reduceToNat] at ho13; rw [← Ny135.out] at ho13)); have n0_ := Aside0.mk (Kd.R_lower ho13 (below_size (by repeat (first | (with_reducible first | exact HB.out | apply below_alloc | apply pw_below_drewN | apply below_drew1) | exact HB.out)))); have n1_ := Aside0.mk (below_step (by repeat (first | (with_reducible first | exact HB.out | apply below_alloc | apply pw_below_drewN | apply below_drew1) | exact HB.out)) hb); clear HB; have HO137 := n0_; have HB := n1_; clear n0_ n1_; clear hb ho13))
        repeat (go_quiet (first | (go_at_call 17; (with_reducible refine (halberdlaw6_awake.calls  true _ A5.out).mono ?_); rintro e w11 ⟨rfl, hb⟩; have n0_ := Aside0.mk (below_step (by repeat (first | (with_reducible first | exact HB.out | apply below_alloc | apply pw_below_drewN | apply below_drew1) | exact HB.out)) hb); clear HB; have HB := n0_; clear n0_; (try clear hb); (try clear hb2); (try clear hk); (try clear hi)) | ((with_reducible refine gate_dst (N := 28) rfl ?_); (try (refine gate_guard (by rfl) ?_; dsimp only)); refine Kd.R_make (Kd.int .u8) _ 5 rfl (N := 28) rfl 32 _ _ rfl 44 rfl rfl Try.underlying32 (.int .u8 0) 1 info5 rfl (by decide) (by omega) 0 (ok := fun _ => True) (okp := fun _ => True) rfl (fun _ hk => hk) trivial (by omega) (by omega) (Below.refl _ _) (Nat.le_refl _) ?_; intro v136 w12 ho13 hb hg_ hnew_; clear hg_ hnew_; (first | rw [← Ny135.out] at ho13 | (simp only [Int.reduceToNat] at ho13; rw [← Ny135.out] at ho13)); have n0_ := Aside0.mk (Kd.R_lower ho13 (below_size (by repeat (first | (with_reducible first | exact HB.out | apply below_alloc | apply pw_below_drewN | apply below_drew1) | exact HB.out)))); have n1_ := Aside0.mk (below_step (by repeat (first | (with_reducible first | exact HB.out | apply below_alloc | apply pw_below_drewN | apply below_drew1) | exact HB.out)) hb); clear HB; have HO137 := n0_; have HB := n1_; clear n0_ n1_; clear hb ho13)); go_upto_block 0 with (first | (go_at_call 17; (with_reducible refine (halberdlaw6_awake.calls  true _ A5.out).mono ?_); rintro e w11 ⟨rfl, hb⟩; have n0_ := Aside0.mk (below_step (by repeat (first | (with_reducible first | exact HB.out | apply below_alloc | apply pw_below_drewN | apply below_drew1) | exact HB.out)) hb); clear HB; have HB := n0_; clear n0_; (try clear hb); (try clear hb2); (try clear hk); (try clear hi)) | ((with_reducible refine gate_dst (N := 28) rfl ?_); (try (refine gate_guard (by rfl) ?_; dsimp only)); refine Kd.R_make (Kd.int .u8) _ 5 rfl (N := 28) rfl 32 _ _ rfl 44 rfl rfl Try.underlying32 (.int .u8 0) 1 info5 rfl (by decide) (by omega) 0 (ok := fun _ => True) (okp := fun _ => True) rfl (fun _ hk => hk) trivial (by omega) (by omega) (Below.refl _ _) (Nat.le_refl _) ?_; intro v136 w12 ho13 hb hg_ hnew_; clear hg_ hnew_; (first | rw [← Ny135.out] at ho13 | (simp only [Int.reduceToNat] at ho13; rw [← Ny135.out] at ho13)); have n0_ := Aside0.mk (Kd.R_lower ho13 (below_size (by repeat (first | (with_reducible first | exact HB.out | apply below_alloc | apply pw_below_drewN | apply below_drew1) | exact HB.out)))); have n1_ := Aside0.mk (below_step (by repeat (first | (with_reducible first | exact HB.out | apply below_alloc | apply pw_below_drewN | apply below_drew1) | exact HB.out)) hb); clear HB; have HO137 := n0_; have HB := n1_; clear n0_ n1_; clear hb ho13)))
        (try simp only [Act.put, List.setIfInBounds_toArray, List.set_cons_zero, List.set_cons_succ])
        go_cut [] (fun wc => ∃ (kq : Nat) (x9_9 : List Int), Aside0 (halberdlaw6_ChachaTwice.j1 kq a1 a2 a3 x9_9 = some r) ∧ Aside0 (kq ≤ k) ∧ Aside0 (Kd.R (Kd.int .u8) 5 wc w.heap.size (fun _ => True) v136 x9_9) ∧ Aside0 (Below w.heap.size w wc))
        case first =>
          have H := HC10.out
          clear HC10
          have H' := Aside0.mk H
          clear H
          go_wp2
          repeat (go_quiet (fail); try go_wp2)
          go_loopg [10] k (fun kq v10 w' => ∃ (x9_1 : List Int) (x10_1 : Int), v10 = .int .i64 x10_1 ∧ Aside0 (halberdlaw6_ChachaTwice.l0 kq a0 a1 a2 a3 x9_1 x10_1 = some r) ∧ Aside0 (kq ≤ k) ∧ Aside0 (Kd.R (Kd.int .u8) 5 w' w.heap.size (fun _ => True) v136 x9_1) ∧ Aside0 (Below w.heap.size w w'))
          case atStart => exact ⟨(y135), (0), (by first | rfl | (simp; done) | (simp [*]; done)), H', ⟨Nat.le_refl _⟩, ⟨by (with_reducible repeat (first | apply Kd.R_alloc | apply Kd.R_drewN | apply Kd.R_drew)); exact HO137.out⟩, ⟨by repeat (first | (with_reducible first | exact HB.out | apply below_alloc | apply pw_below_drewN | apply below_drew1) | exact HB.out)⟩⟩
          case round =>
            clear H'
            try clear p2
            try clear c4
            try clear c6
            try clear c7
            try clear c7b0
            try clear c7b1
            try clear c9
            try clear c9b0
            try clear c9b1
            obtain ⟨x9_1, x10_1, rfl, HA, HK1, HO_9, HB⟩ := hrel
            cases gk with
            | zero => exact absurd HA.out (by simp [halberdlaw6_ChachaTwice.l0])
            | succ k1 =>
              have H := HA.out
              clear HA
              simp only [halberdlaw6_ChachaTwice.l0] at H
              by_cases c14 : x10_1 < 44
              · rw [if_pos c14] at H
                have c14b0 : decide (x10_1 < 44) = true := decide_eq_true c14
                clear c14
                (first | rw [c14b0] | (simp only [i64_w, i32_w]; rw [c14b0]) | skip)
                by_cases c15 : x10_1 < (a0.size : Int)
                · rw [if_pos c15] at H
                  have c15b0 : decide (x10_1 < (a0.size : Int)) = true := decide_eq_true c15
                  clear c15
                  by_cases c16 : 0 ≤ x10_1
                  · rw [if_pos c16] at H
                    have c16b0 : decide (0 ≤ x10_1) = true := decide_eq_true c16
                    clear c16
                    by_cases c18 : x10_1 < (x9_1.length : Int)
                    · rw [if_pos c18] at H
                      have c18b0 : decide (x10_1 < (x9_1.length : Int)) = true := decide_eq_true c18
                      clear c18
                      obtain ⟨y138, hy138⟩ : ∃ y_ : List Int, y_ = (x9_1.set (x10_1 : Int).toNat (bt a0 x10_1)) := ⟨_, rfl⟩
                      replace H : (halberdlaw6_ChachaTwice.l0 k1 a0 a1 a2 a3 y138 (wrap64 (x10_1 + 1))) = some r := by first | (rw [hy138]; with_reducible exact H) | (have H2_ := (Option.bind_some _ _).symm.trans H; rw [hy138]; with_reducible exact H2_) | (have H2_ := (Option.bind_some _ _).symm.trans H; with_reducible exact H2_) | with_reducible exact H | (rw [hy138]; exact H) | exact H
                      have Ny138 := Aside0.mk hy138
                      clear hy138
                      have H' := Aside0.mk H
                      clear H
                      have p17 : 0 ≤ (x10_1 : Int) := of_decide_eq_true (by first | (with_reducible assumption) | assumption)
                      have q17 : x10_1 < (a0.size : Int) := of_decide_eq_true (by first | (with_reducible assumption) | assumption)
                      have hx17 := bt_at a0 x10_1
                      replace p17 := eq_true p17
                      replace q17 := eq_true q17
                      have p19 : 0 ≤ (x10_1 : Int) := of_decide_eq_true (by first | (with_reducible assumption) | assumption)
                      have q19 : (x10_1 : Int) < ((x9_1.length : Int) : Int) := of_decide_eq_true (by first | (with_reducible assumption) | assumption)
                      obtain ⟨go19, co19, eo19, gb19, gl19, cl19, HG19⟩ := Kd.R_form HO_9.out (by omega)
                      (first | cases eo19 | (injection eo19 with ea_ en_ ec_; (first | subst ea_ | (injection ea_ with ea_; subst ea_)); subst ec_; clear en_))
                      have GB19 := Aside0.mk gb19
                      have GG19 := Aside0.mk HG19
                      clear gb19 gl19 HG19
                      obtain ⟨hx19_0, hf19_0⟩ := Kd.R_celln 0 HO_9.out (x10_1 : Int) p19 q19
                      replace p19 := eq_true p19
                      replace q19 := eq_true q19
                      have HP20 := Kd.R_putg HO_9.out (x10_1 : Int) (bt a0 x10_1)
                      go_wp2_with (first | ((with_reducible refine gate_store (t := 5) (p := 44) rfl ?_); (try (rw [drewN_self wr]; generalize hq_ : World.drewN wr _ = wr; have n0_ := Aside0.mk (Kd.R_at hq_ HO_9.out); have n1_ := Aside0.mk (below_at hq_ HB.out); clear hq_ HO_9 HB; have HO_9 := n0_; have HB := n1_; clear n0_ n1_; (try (have HP20 := Kd.R_putg HO_9.out (x10_1 : Int) (bt a0 x10_1))))); refine store_event (t := 5) (p := 44) (v := ?vo_w21) (w1 := (wr.setCell ⟨go19, (x10_1 : Int).toNat, none⟩ (.int .u8 (bt a0 x10_1)))) ?hg ?ho ?hn ?hr ?_; (case ho => rfl); (case hg => rfl); (case hn => rfl); (case hr => first | (go_simp; done) | (go_simp; rfl)); intro w21 hw; have hg : wr.grownBy w21 (some go19) := (by rw [hw]; exact HP20.2); have hp_ : Kd.R (Kd.int .u8) 5 w21 w.heap.size (fun _ => True) (.slice (some ⟨go19, 0, none⟩) x9_1.length co19) y138 := (by rw [hw, Ny138.out]; exact HP20.1); clear HP20; have n0_ := Aside0.mk (hp_); have n1_ := Aside0.mk ((by rw [hw]; exact below_set (HB.out) GB19.out : Below w.heap.size w w21)); clear HO_9; clear HB; have HO_9 := n0_; have HB := n1_; clear n0_ n1_; clear hg hw hp_))
                      repeat (go_quiet (first | ((with_reducible refine gate_store (t := 5) (p := 44) rfl ?_); (try (rw [drewN_self wr]; generalize hq_ : World.drewN wr _ = wr; have n0_ := Aside0.mk (Kd.R_at hq_ HO_9.out); have n1_ := Aside0.mk (below_at hq_ HB.out); clear hq_ HO_9 HB; have HO_9 := n0_; have HB := n1_; clear n0_ n1_; (try (have HP20 := Kd.R_putg HO_9.out (x10_1 : Int) (bt a0 x10_1))))); refine store_event (t := 5) (p := 44) (v := ?vo_w21) (w1 := (wr.setCell ⟨go19, (x10_1 : Int).toNat, none⟩ (.int .u8 (bt a0 x10_1)))) ?hg ?ho ?hn ?hr ?_; (case ho => rfl); (case hg => rfl); (case hn => rfl); (case hr => first | (go_simp; done) | (go_simp; rfl)); intro w21 hw; have hg : wr.grownBy w21 (some go19) := (by rw [hw]; exact HP20.2); have hp_ : Kd.R (Kd.int .u8) 5 w21 w.heap.size (fun _ => True) (.slice (some ⟨go19, 0, none⟩) x9_1.length co19) y138 := (by rw [hw, Ny138.out]; exact HP20.1); clear HP20; have n0_ := Aside0.mk (hp_); have n1_ := Aside0.mk ((by rw [hw]; exact below_set (HB.out) GB19.out : Below w.heap.size w w21)); clear HO_9; clear HB; have HO_9 := n0_; have HB := n1_; clear n0_ n1_; clear hg hw hp_)); try go_wp2_with (first | ((with_reducible refine gate_store (t := 5) (p := 44) rfl ?_); (try (rw [drewN_self wr]; generalize hq_ : World.drewN wr _ = wr; have n0_ := Aside0.mk (Kd.R_at hq_ HO_9.out); have n1_ := Aside0.mk (below_at hq_ HB.out); clear hq_ HO_9 HB; have HO_9 := n0_; have HB := n1_; clear n0_ n1_; (try (have HP20 := Kd.R_putg HO_9.out (x10_1 : Int) (bt a0 x10_1))))); refine store_event (t := 5) (p := 44) (v := ?vo_w21) (w1 := (wr.setCell ⟨go19, (x10_1 : Int).toNat, none⟩ (.int .u8 (bt a0 x10_1)))) ?hg ?ho ?hn ?hr ?_; (case ho => rfl); (case hg => rfl); (case hn => rfl); (case hr => first | (go_simp; done) | (go_simp; rfl)); intro w21 hw; have hg : wr.grownBy w21 (some go19) := (by rw [hw]; exact HP20.2); have hp_ : Kd.R (Kd.int .u8) 5 w21 w.heap.size (fun _ => True) (.slice (some ⟨go19, 0, none⟩) x9_1.length co19) y138 := (by rw [hw, Ny138.out]; exact HP20.1); clear HP20; have n0_ := Aside0.mk (hp_); have n1_ := Aside0.mk ((by rw [hw]; exact below_set (HB.out) GB19.out : Below w.heap.size w w21)); clear HO_9; clear HB; have HO_9 := n0_; have HB := n1_; clear n0_ n1_; clear hg hw hp_)))
                      go_roundg k1
                      case measure => have := HK1.out; omega
                      case rel => exact ⟨(y138), (wrap64 (x10_1 + 1)), (by first | rfl | (simp; done) | (simp [*]; done)), H', ⟨by have := HK1.out; omega⟩, ⟨by (with_reducible repeat (first | apply Kd.R_alloc | apply Kd.R_drewN | apply Kd.R_drew)); exact HO_9.out⟩, ⟨by repeat (first | (with_reducible first | exact HB.out | apply below_alloc | apply pw_below_drewN | apply below_drew1) | exact HB.out)⟩⟩
                    · rw [if_neg c18] at H
                      exact absurd H (by simp)
                  · rw [if_neg c16] at H
                    exact absurd H (by simp)
                · rw [if_neg c15] at H
                  have c15b0 : decide (x10_1 < (a0.size : Int)) = false := decide_eq_false c15
                  clear c15
                  have H' := Aside0.mk H
                  clear H
                  go_wp2
                  repeat (go_quiet (fail); try go_wp2)
                  go_meet
                  case rel => exact ⟨_, (x9_1), H', ⟨by have := HK1.out; first | omega | exact Nat.le_refl _⟩, ⟨by (with_reducible repeat (first | apply Kd.R_alloc | apply Kd.R_drewN | apply Kd.R_drew)); exact HO_9.out⟩, ⟨by repeat (first | (with_reducible first | exact HB.out | apply below_alloc | apply pw_below_drewN | apply below_drew1) | exact HB.out)⟩⟩
              · rw [if_neg c14] at H
                have c14b0 : decide (x10_1 < 44) = false := decide_eq_false c14
                clear c14
                (first | rw [c14b0] | (simp only [i64_w, i32_w]; rw [c14b0]) | skip)
                have H' := Aside0.mk H
                clear H
                go_wp2
                repeat (go_quiet (fail); try go_wp2)
                go_meet
                case rel => exact ⟨_, (x9_1), H', ⟨by have := HK1.out; first | omega | exact Nat.le_refl _⟩, ⟨by (with_reducible repeat (first | apply Kd.R_alloc | apply Kd.R_drewN | apply Kd.R_drew)); exact HO_9.out⟩, ⟨by repeat (first | (with_reducible first | exact HB.out | apply below_alloc | apply pw_below_drewN | apply below_drew1) | exact HB.out)⟩⟩
        case rest =>
          clear HC10
          try clear c1
          try clear p1
          try clear q1
          try clear hx1
          try clear p2
          try clear c4
          try clear c6
          try clear p6
          try clear c7
          try clear c7b0
          try clear c7b1
          try clear c9
          try clear c9b0
          try clear c9b1
          try clear c14
          try clear c14b0
          try clear c15
          try clear c15b0
          try clear c16
          try clear c16b0
          try clear p17
          try clear q17
          try clear hx17
          try clear c18
          try clear c18b0
          try clear p19
          try clear q19
          try clear hx19
          try clear hf19
          try clear hx19_0
          try clear p17
          try clear p19
          try clear p2
          try clear q17
          try clear q19
          obtain ⟨kq, x9_9, HA, HJ9, HO_9, HB⟩ := hcut
          cases kq with
          | zero => exact absurd HA.out (by simp [halberdlaw6_ChachaTwice.j1])
          | succ kj9 =>
            have H := HA.out
            clear HA
            simp only [halberdlaw6_ChachaTwice.j1] at H
            by_cases c22 : 32 ≤ (x9_9.length : Int)
            · rw [if_pos c22] at H
              have c22b0 := eq_true c22
              have c22b1 : decide (32 ≤ (x9_9.length : Int)) = true := decide_eq_true c22
              clear c22
              obtain ⟨y139, hy139⟩ : ∃ y_ : List Int, y_ = (x9_9.take 32) := ⟨_, rfl⟩
              replace H : ((some (x9_9.drop 32 : List Int)).bind fun y143 => ((chacha_Xor.f (strOfNums y139) (Go.bits .and .i64 a1 4294967295) (strOfNums y143) a2).bind fun bt147 => ((chacha_Xor.f (strOfNums y139) (Go.bits .and .i64 a1 4294967295) (strOfNums y143) bt147.1).bind fun bt149 => (if (IntKind.u64.wrap (wrap64 ((wrap64 ((a2.size : Int) / 64)) + 1))) = 0 then (none) else (if 0 ≤ (wrap64 (64 * (wrap64 (Int.tmod (IntKind.u64.wrap (a3)) (IntKind.u64.wrap (wrap64 ((wrap64 ((a2.size : Int) / 64)) + 1))))))) then (if (wrap64 (64 * (wrap64 (Int.tmod (IntKind.u64.wrap (a3)) (IntKind.u64.wrap (wrap64 ((wrap64 ((a2.size : Int) / 64)) + 1))))))) ≤ (a2.size : Int) then ((chacha_Xor.f (strOfNums y139) (Go.bits .and .i64 a1 4294967295) (strOfNums y143) (a2.extract 0 ((wrap64 (64 * (wrap64 (Int.tmod (IntKind.u64.wrap (a3)) (IntKind.u64.wrap (wrap64 ((wrap64 ((a2.size : Int) / 64)) + 1))))))) : Int).toNat)).bind fun bt151 => ((chacha_Xor.f (strOfNums y139) (Go.bits .and .i64 (wrap64 ((Go.bits .and .i64 a1 4294967295) + (wrap64 (Int.tmod (IntKind.u64.wrap (a3)) (IntKind.u64.wrap (wrap64 ((wrap64 ((a2.size : Int) / 64)) + 1))))))) 4294967295) (strOfNums y143) (a2.extract ((wrap64 (64 * (wrap64 (Int.tmod (IntKind.u64.wrap (a3)) (IntKind.u64.wrap (wrap64 ((wrap64 ((a2.size : Int) / 64)) + 1))))))) : Int).toNat a2.size)).bind fun bt153 => ((halberdlaw0_Num.f bt147.2).bind fun t155 => (if t155 = 0 then ((halberdlaw0_Num.f bt149.2).bind fun t156 => (if t156 = 0 then (if bt149.1.toList = a2.toList then ((halberdlaw0_Num.f bt151.2).bind fun t157 => (if t157 = 0 then ((halberdlaw0_Num.f bt153.2).bind fun t158 => (if t158 = 0 then (if bt151.1.size + bt153.1.size ≤ 9223372036854775807 then (some ((bt151.1 ++ bt153.1).toList == bt147.1.toList)) else (none)) else (some false))) else (some false))) else (some false)) else (some false))) else (some false))))) else (none)) else (none)))))) = some r := by first | (rw [hy139]; with_reducible exact H) | (have H2_ := (Option.bind_some _ _).symm.trans H; rw [hy139]; with_reducible exact H2_) | (have H2_ := (Option.bind_some _ _).symm.trans H; with_reducible exact H2_) | with_reducible exact H | (rw [hy139]; exact H) | exact H
              have Ny139 := Aside0.mk hy139
              clear hy139
              have c23b0 := eq_true (of_decide_eq_true (by first | (with_reducible assumption) | assumption) : 32 ≤ (x9_9.length : Int))
              obtain ⟨y143, hy143⟩ : ∃ y_ : List Int, y_ = (x9_9.drop 32) := ⟨_, rfl⟩
              replace H : ((chacha_Xor.f (strOfNums y139) (Go.bits .and .i64 a1 4294967295) (strOfNums y143) a2).bind fun bt147 => ((chacha_Xor.f (strOfNums y139) (Go.bits .and .i64 a1 4294967295) (strOfNums y143) bt147.1).bind fun bt149 => (if (IntKind.u64.wrap (wrap64 ((wrap64 ((a2.size : Int) / 64)) + 1))) = 0 then (none) else (if 0 ≤ (wrap64 (64 * (wrap64 (Int.tmod (IntKind.u64.wrap (a3)) (IntKind.u64.wrap (wrap64 ((wrap64 ((a2.size : Int) / 64)) + 1))))))) then (if (wrap64 (64 * (wrap64 (Int.tmod (IntKind.u64.wrap (a3)) (IntKind.u64.wrap (wrap64 ((wrap64 ((a2.size : Int) / 64)) + 1))))))) ≤ (a2.size : Int) then ((chacha_Xor.f (strOfNums y139) (Go.bits .and .i64 a1 4294967295) (strOfNums y143) (a2.extract 0 ((wrap64 (64 * (wrap64 (Int.tmod (IntKind.u64.wrap (a3)) (IntKind.u64.wrap (wrap64 ((wrap64 ((a2.size : Int) / 64)) + 1))))))) : Int).toNat)).bind fun bt151 => ((chacha_Xor.f (strOfNums y139) (Go.bits .and .i64 (wrap64 ((Go.bits .and .i64 a1 4294967295) + (wrap64 (Int.tmod (IntKind.u64.wrap (a3)) (IntKind.u64.wrap (wrap64 ((wrap64 ((a2.size : Int) / 64)) + 1))))))) 4294967295) (strOfNums y143) (a2.extract ((wrap64 (64 * (wrap64 (Int.tmod (IntKind.u64.wrap (a3)) (IntKind.u64.wrap (wrap64 ((wrap64 ((a2.size : Int) / 64)) + 1))))))) : Int).toNat a2.size)).bind fun bt153 => ((halberdlaw0_Num.f bt147.2).bind fun t155 => (if t155 = 0 then ((halberdlaw0_Num.f bt149.2).bind fun t156 => (if t156 = 0 then (if bt149.1.toList = a2.toList then ((halberdlaw0_Num.f bt151.2).bind fun t157 => (if t157 = 0 then ((halberdlaw0_Num.f bt153.2).bind fun t158 => (if t158 = 0 then (if bt151.1.size + bt153.1.size ≤ 9223372036854775807 then (some ((bt151.1 ++ bt153.1).toList == bt147.1.toList)) else (none)) else (some false))) else (some false))) else (some false)) else (some false))) else (some false))))) else (none)) else (none))))) = some r := by first | (rw [hy143]; with_reducible exact H) | (have H2_ := (Option.bind_some _ _).symm.trans H; rw [hy143]; with_reducible exact H2_) | (have H2_ := (Option.bind_some _ _).symm.trans H; with_reducible exact H2_) | with_reducible exact H | (rw [hy143]; exact H) | exact H
              have Ny143 := Aside0.mk hy143
              clear hy143
              replace H := Option.bind_eq_some_iff.mp H
              obtain ⟨⟨t147, t148⟩, A240, H⟩ := H
              replace H : ((chacha_Xor.f (strOfNums y139) (Go.bits .and .i64 a1 4294967295) (strOfNums y143) t147).bind fun bt149 => (if (IntKind.u64.wrap (wrap64 ((wrap64 ((a2.size : Int) / 64)) + 1))) = 0 then (none) else (if 0 ≤ (wrap64 (64 * (wrap64 (Int.tmod (IntKind.u64.wrap (a3)) (IntKind.u64.wrap (wrap64 ((wrap64 ((a2.size : Int) / 64)) + 1))))))) then (if (wrap64 (64 * (wrap64 (Int.tmod (IntKind.u64.wrap (a3)) (IntKind.u64.wrap (wrap64 ((wrap64 ((a2.size : Int) / 64)) + 1))))))) ≤ (a2.size : Int) then ((chacha_Xor.f (strOfNums y139) (Go.bits .and .i64 a1 4294967295) (strOfNums y143) (a2.extract 0 ((wrap64 (64 * (wrap64 (Int.tmod (IntKind.u64.wrap (a3)) (IntKind.u64.wrap (wrap64 ((wrap64 ((a2.size : Int) / 64)) + 1))))))) : Int).toNat)).bind fun bt151 => ((chacha_Xor.f (strOfNums y139) (Go.bits .and .i64 (wrap64 ((Go.bits .and .i64 a1 4294967295) + (wrap64 (Int.tmod (IntKind.u64.wrap (a3)) (IntKind.u64.wrap (wrap64 ((wrap64 ((a2.size : Int) / 64)) + 1))))))) 4294967295) (strOfNums y143) (a2.extract ((wrap64 (64 * (wrap64 (Int.tmod (IntKind.u64.wrap (a3)) (IntKind.u64.wrap (wrap64 ((wrap64 ((a2.size : Int) / 64)) + 1))))))) : Int).toNat a2.size)).bind fun bt153 => ((halberdlaw0_Num.f t148).bind fun t155 => (if t155 = 0 then ((halberdlaw0_Num.f bt149.2).bind fun t156 => (if t156 = 0 then (if bt149.1.toList = a2.toList then ((halberdlaw0_Num.f bt151.2).bind fun t157 => (if t157 = 0 then ((halberdlaw0_Num.f bt153.2).bind fun t158 => (if t158 = 0 then (if bt151.1.size + bt153.1.size ≤ 9223372036854775807 then (some ((bt151.1 ++ bt153.1).toList == t147.toList)) else (none)) else (some false))) else (some false))) else (some false)) else (some false))) else (some false))))) else (none)) else (none)))) = some r := H
              have A24 := Aside0.mk A240
              clear A240
              replace H := Option.bind_eq_some_iff.mp H
              obtain ⟨⟨t149, t150⟩, A250, H⟩ := H
              replace H : (if (IntKind.u64.wrap (wrap64 ((wrap64 ((a2.size : Int) / 64)) + 1))) = 0 then (none) else (if 0 ≤ (wrap64 (64 * (wrap64 (Int.tmod (IntKind.u64.wrap (a3)) (IntKind.u64.wrap (wrap64 ((wrap64 ((a2.size : Int) / 64)) + 1))))))) then (if (wrap64 (64 * (wrap64 (Int.tmod (IntKind.u64.wrap (a3)) (IntKind.u64.wrap (wrap64 ((wrap64 ((a2.size : Int) / 64)) + 1))))))) ≤ (a2.size : Int) then ((chacha_Xor.f (strOfNums y139) (Go.bits .and .i64 a1 4294967295) (strOfNums y143) (a2.extract 0 ((wrap64 (64 * (wrap64 (Int.tmod (IntKind.u64.wrap (a3)) (IntKind.u64.wrap (wrap64 ((wrap64 ((a2.size : Int) / 64)) + 1))))))) : Int).toNat)).bind fun bt151 => ((chacha_Xor.f (strOfNums y139) (Go.bits .and .i64 (wrap64 ((Go.bits .and .i64 a1 4294967295) + (wrap64 (Int.tmod (IntKind.u64.wrap (a3)) (IntKind.u64.wrap (wrap64 ((wrap64 ((a2.size : Int) / 64)) + 1))))))) 4294967295) (strOfNums y143) (a2.extract ((wrap64 (64 * (wrap64 (Int.tmod (IntKind.u64.wrap (a3)) (IntKind.u64.wrap (wrap64 ((wrap64 ((a2.size : Int) / 64)) + 1))))))) : Int).toNat a2.size)).bind fun bt153 => ((halberdlaw0_Num.f t148).bind fun t155 => (if t155 = 0 then ((halberdlaw0_Num.f t150).bind fun t156 => (if t156 = 0 then (if t149.toList = a2.toList then ((halberdlaw0_Num.f bt151.2).bind fun t157 => (if t157 = 0 then ((halberdlaw0_Num.f bt153.2).bind fun t158 => (if t158 = 0 then (if bt151.1.size + bt153.1.size ≤ 9223372036854775807 then (some ((bt151.1 ++ bt153.1).toList == t147.toList)) else (none)) else (some false))) else (some false))) else (some false)) else (some false))) else (some false))))) else (none)) else (none))) = some r := H
              have A25 := Aside0.mk A250
              clear A250
              by_cases c26 : (IntKind.u64.wrap (wrap64 ((wrap64 ((a2.size : Int) / 64)) + 1))) = 0
              · rw [if_pos c26] at H
                exact absurd H (by simp)
              · rw [if_neg c26] at H
                have c26b0 : ((IntKind.u64.wrap (wrap64 ((wrap64 ((a2.size : Int) / 64)) + 1))) == 0) = false := beq_eq_false_iff_ne.mpr c26
                have c26b1 : ((IntKind.u64.wrap (wrap64 ((wrap64 ((a2.size : Int) / 64)) + 1))) != 0) = true := bne_iff_ne.mpr c26
                obtain ⟨ji27, hji27⟩ : ∃ j_ : Int, (wrap64 (64 * (wrap64 (Int.tmod (IntKind.u64.wrap (a3)) (IntKind.u64.wrap (wrap64 ((wrap64 ((a2.size : Int) / 64)) + 1))))))) = j_ := ⟨_, rfl⟩
                replace H : (if 0 ≤ (ji27) then (if (ji27) ≤ (a2.size : Int) then ((chacha_Xor.f (strOfNums y139) (Go.bits .and .i64 a1 4294967295) (strOfNums y143) (a2.extract 0 ((ji27) : Int).toNat)).bind fun bt151 => ((chacha_Xor.f (strOfNums y139) (Go.bits .and .i64 (wrap64 ((Go.bits .and .i64 a1 4294967295) + (wrap64 (Int.tmod (IntKind.u64.wrap (a3)) (IntKind.u64.wrap (wrap64 ((wrap64 ((a2.size : Int) / 64)) + 1))))))) 4294967295) (strOfNums y143) (a2.extract ((ji27) : Int).toNat a2.size)).bind fun bt153 => ((halberdlaw0_Num.f t148).bind fun t155 => (if t155 = 0 then ((halberdlaw0_Num.f t150).bind fun t156 => (if t156 = 0 then (if t149.toList = a2.toList then ((halberdlaw0_Num.f bt151.2).bind fun t157 => (if t157 = 0 then ((halberdlaw0_Num.f bt153.2).bind fun t158 => (if t158 = 0 then (if bt151.1.size + bt153.1.size ≤ 9223372036854775807 then (some ((bt151.1 ++ bt153.1).toList == t147.toList)) else (none)) else (some false))) else (some false))) else (some false)) else (some false))) else (some false))))) else (none)) else (none)) = some r := by first | (rw [hji27] at H; exact H) | (simp only [hji27] at H ⊢; exact H)
                (try rw [hji27] at A24)
                (try rw [hji27] at A25)
                have hji27w : (IntKind.i64.wrap (64 * (wrap64 (Int.tmod (IntKind.u64.wrap (a3)) (IntKind.u64.wrap (wrap64 ((wrap64 ((a2.size : Int) / 64)) + 1))))))) = ji27 := (i64_w _).trans hji27
                by_cases c28 : 0 ≤ (ji27)
                · rw [if_pos c28] at H
                  have c28b0 := eq_true c28
                  have c28b1 : decide (0 ≤ (ji27)) = true := decide_eq_true c28
                  clear c28
                  by_cases c29 : (ji27) ≤ (a2.size : Int)
                  · rw [if_pos c29] at H
                    have c29b0 := eq_true c29
                    have c29b1 : decide ((ji27) ≤ (a2.size : Int)) = true := decide_eq_true c29
                    clear c29
                    replace H := Option.bind_eq_some_iff.mp H
                    obtain ⟨⟨t151, t152⟩, A300, H⟩ := H
                    replace H : ((chacha_Xor.f (strOfNums y139) (Go.bits .and .i64 (wrap64 ((Go.bits .and .i64 a1 4294967295) + (wrap64 (Int.tmod (IntKind.u64.wrap (a3)) (IntKind.u64.wrap (wrap64 ((wrap64 ((a2.size : Int) / 64)) + 1))))))) 4294967295) (strOfNums y143) (a2.extract ((ji27) : Int).toNat a2.size)).bind fun bt153 => ((halberdlaw0_Num.f t148).bind fun t155 => (if t155 = 0 then ((halberdlaw0_Num.f t150).bind fun t156 => (if t156 = 0 then (if t149.toList = a2.toList then ((halberdlaw0_Num.f t152).bind fun t157 => (if t157 = 0 then ((halberdlaw0_Num.f bt153.2).bind fun t158 => (if t158 = 0 then (if t151.size + bt153.1.size ≤ 9223372036854775807 then (some ((t151 ++ bt153.1).toList == t147.toList)) else (none)) else (some false))) else (some false))) else (some false)) else (some false))) else (some false)))) = some r := H
                    have A30 := Aside0.mk A300
                    clear A300
                    have c31b0 := eq_true (of_decide_eq_true (by first | (with_reducible assumption) | assumption) : 0 ≤ (ji27))
                    have c32b0 := eq_true (of_decide_eq_true (by first | (with_reducible assumption) | assumption) : (ji27) ≤ (a2.size : Int))
                    replace H := Option.bind_eq_some_iff.mp H
                    obtain ⟨⟨t153, t154⟩, A330, H⟩ := H
                    replace H : ((halberdlaw0_Num.f t148).bind fun t155 => (if t155 = 0 then ((halberdlaw0_Num.f t150).bind fun t156 => (if t156 = 0 then (if t149.toList = a2.toList then ((halberdlaw0_Num.f t152).bind fun t157 => (if t157 = 0 then ((halberdlaw0_Num.f t154).bind fun t158 => (if t158 = 0 then (if t151.size + t153.size ≤ 9223372036854775807 then (some ((t151 ++ t153).toList == t147.toList)) else (none)) else (some false))) else (some false))) else (some false)) else (some false))) else (some false))) = some r := H
                    have A33 := Aside0.mk A330
                    clear A330
                    replace H := Option.bind_eq_some_iff.mp H
                    obtain ⟨t155, A340, H⟩ := H
                    replace H : (if t155 = 0 then ((halberdlaw0_Num.f t150).bind fun t156 => (if t156 = 0 then (if t149.toList = a2.toList then ((halberdlaw0_Num.f t152).bind fun t157 => (if t157 = 0 then ((halberdlaw0_Num.f t154).bind fun t158 => (if t158 = 0 then (if t151.size + t153.size ≤ 9223372036854775807 then (some ((t151 ++ t153).toList == t147.toList)) else (none)) else (some false))) else (some false))) else (some false)) else (some false))) else (some false)) = some r := H
                    have A34 := Aside0.mk A340
                    clear A340
                    by_cases c35 : t155 = 0
                    · rw [if_pos c35] at H
                      have c35b0 : (t155 == 0) = true := beq_iff_eq.mpr c35
                      have c35b1 : (t155 != 0) = false := bne_eq_false_iff_eq.mpr c35
                      clear c35
                      replace H := Option.bind_eq_some_iff.mp H
                      obtain ⟨t156, A360, H⟩ := H
                      replace H : (if t156 = 0 then (if t149.toList = a2.toList then ((halberdlaw0_Num.f t152).bind fun t157 => (if t157 = 0 then ((halberdlaw0_Num.f t154).bind fun t158 => (if t158 = 0 then (if t151.size + t153.size ≤ 9223372036854775807 then (some ((t151 ++ t153).toList == t147.toList)) else (none)) else (some false))) else (some false))) else (some false)) else (some false)) = some r := H
                      have A36 := Aside0.mk A360
                      clear A360
                      by_cases c37 : t156 = 0
                      · rw [if_pos c37] at H
                        have c37b0 : (t156 == 0) = true := beq_iff_eq.mpr c37
                        have c37b1 : (t156 != 0) = false := bne_eq_false_iff_eq.mpr c37
                        clear c37
                        by_cases c38 : t149.toList = a2.toList
                        · rw [if_pos c38] at H
                          have c38b0 : (t149.toList == a2.toList) = true := beq_iff_eq.mpr c38
                          have c38b1 : (t149.toList != a2.toList) = false := bne_eq_false_iff_eq.mpr c38
                          clear c38
                          replace H := Option.bind_eq_some_iff.mp H
                          obtain ⟨t157, A390, H⟩ := H
                          replace H : (if t157 = 0 then ((halberdlaw0_Num.f t154).bind fun t158 => (if t158 = 0 then (if t151.size + t153.size ≤ 9223372036854775807 then (some ((t151 ++ t153).toList == t147.toList)) else (none)) else (some false))) else (some false)) = some r := H
                          have A39 := Aside0.mk A390
                          clear A390
                          by_cases c40 : t157 = 0
                          · rw [if_pos c40] at H
                            have c40b0 : (t157 == 0) = true := beq_iff_eq.mpr c40
                            have c40b1 : (t157 != 0) = false := bne_eq_false_iff_eq.mpr c40
                            clear c40
                            replace H := Option.bind_eq_some_iff.mp H
                            obtain ⟨t158, A410, H⟩ := H
                            replace H : (if t158 = 0 then (if t151.size + t153.size ≤ 9223372036854775807 then (some ((t151 ++ t153).toList == t147.toList)) else (none)) else (some false)) = some r := H
                            have A41 := Aside0.mk A410
                            clear A410
                            by_cases c42 : t158 = 0
                            · rw [if_pos c42] at H
                              have c42b0 : (t158 == 0) = true := beq_iff_eq.mpr c42
                              have c42b1 : (t158 != 0) = false := bne_eq_false_iff_eq.mpr c42
                              clear c42
                              by_cases c43 : t151.size + t153.size ≤ 9223372036854775807
                              · rw [if_pos c43] at H
                                have c43b0 := eq_true c43
                                have c43b1 : decide (t151.size + t153.size ≤ 9223372036854775807) = true := decide_eq_true c43
                                try have c43b2 : (9223372036854775807 < t151.size + t153.size) = False := eq_false (Nat.not_lt.2 c43)
                                obtain ⟨ys159, hys159⟩ : ∃ y_ : ByteArray, y_ = (t151 ++ t153) := ⟨_, rfl⟩
                                replace H : (some (ys159.toList == t147.toList)) = some r := by first | (rw [hys159]; with_reducible exact H) | (have H2_ := (Option.bind_some _ _).symm.trans H; rw [hys159]; with_reducible exact H2_) | (have H2_ := (Option.bind_some _ _).symm.trans H; with_reducible exact H2_) | with_reducible exact H | (rw [hys159]; exact H) | exact H
                                have Nys159 := Aside0.mk hys159
                                clear hys159
                                have Sys159 := Nys159.out.symm
                                obtain rfl := Option.some.inj H
                                obtain ⟨Ao45, co45, eo45⟩ := Kd.R_slice HO_9.out
                                subst eo45
                                have q44 : (32 : Int) ≤ ((x9_9.length : Int) : Int) := of_decide_eq_true (by first | (with_reducible assumption) | assumption)
                                obtain ⟨i044, hi044, _, hsz44, _⟩ := info_parts info5
                                have hroom44 : x9_9.length ≤ co45 := (Kd.R_reads' HO_9.out).2.1
                                have hC44 : Kd.C (Kd.int .u8) _ Ao45 x9_9.length x9_9 := (Kd.R_reads' HO_9.out).2.2
                                have hcut44 := cut_to (P := Try.prog) 32 5 .i64 Try.underlying32 hi044 Ao45 x9_9.length co45 32 (by omega) q44 hroom44
                                have hr44 := Kd.C_take (m := 32) hC44 (by omega)
                                have hy44 : y139.length = (32 : Int).toNat := (by rw [Ny139.out, List.length_take]; omega)
                                rw [← Ny139.out] at hr44
                                rw [← hy44] at hcut44
                                have HR142 := Aside0.mk hr44
                                have HC142 := Aside0.mk (show y139.length ≤ co45 from by omega)
                                clear hr44 hC44 hroom44 hi044 hsz44
                                have KY44 := Aside0.mk hy44
                                clear hy44
                                have KL44 := Aside0.mk (show 32 ≤ x9_9.length from by omega)
                                replace q44 := eq_true q44
                                have hcv46 := Kd.C_string (P := Try.prog) (A := Ao45) (c := co45) Try.underlying32 Try.underlying5 Try.underlying9 (by repeat (first | (with_reducible exact HR142.out) | (with_reducible refine Kd.C_alloc ?_ _) | (with_reducible refine Kd.C_drewN ?_ _) | (with_reducible refine Kd.C_drew ?_) | exact HR142.out))
                                have hcvq46 := fun nz => Kd.C_string (P := Try.prog) (A := Ao45) (c := co45) Try.underlying32 Try.underlying5 Try.underlying9 (Kd.C_drewN (by repeat (first | (with_reducible exact HR142.out) | (with_reducible refine Kd.C_alloc ?_ _) | (with_reducible refine Kd.C_drewN ?_ _) | (with_reducible refine Kd.C_drew ?_) | exact HR142.out)) nz)
                                have q47 : (32 : Int) ≤ ((x9_9.length : Int) : Int) := of_decide_eq_true (by first | (with_reducible assumption) | assumption)
                                obtain ⟨i047, hi047, _, hsz47, _⟩ := info_parts info5
                                have hroom47 : x9_9.length ≤ co45 := (Kd.R_reads' HO_9.out).2.1
                                have hC47 : Kd.C (Kd.int .u8) _ Ao45 x9_9.length x9_9 := (Kd.R_reads' HO_9.out).2.2
                                have hcut47 := cut_from (P := Try.prog) 32 5 .i64 Try.underlying32 hi047 1 hsz47 Ao45 x9_9.length co45 32 (by omega) q47
                                have hr47 := Kd.C_drop (m := (32 : Int).toNat) (c := co45) hC47 (by omega) hroom47
                                obtain ⟨A47, hA47⟩ : ∃ A1, A1 = (if co45 = (32 : Int).toNat then Ao45 else (Ao45 : Option Addr).map (·.add ((32 : Int).toNat * 1))) := ⟨_, rfl⟩
                                obtain ⟨c47, hc47⟩ : ∃ c1, c1 = co45 - (32 : Int).toNat := ⟨_, rfl⟩
                                have hy47 : y143.length = x9_9.length - (32 : Int).toNat := (by rw [Ny143.out, List.length_drop] <;> omega)
                                rw [show (x9_9).drop (32 : Int).toNat = y143 from Ny143.out.symm] at hr47
                                replace hr47 : Kd.C (Kd.int .u8) _ A47 y143.length y143 := (by rw [hA47]; exact hr47)
                                rw [← hy47, ← hA47, ← hc47] at hcut47
                                have HR146 := Aside0.mk hr47
                                have HC146 := Aside0.mk (show y143.length ≤ c47 from by rw [hy47, hc47]; exact Nat.sub_le_sub_right hroom47 _)
                                clear hr47 hC47 hroom47 hi047 hsz47 hc47
                                have KY47 := Aside0.mk hy47
                                have KA47 := Aside0.mk hA47
                                clear hy47 hA47
                                have KL47 := Aside0.mk (show 32 ≤ x9_9.length from by omega)
                                replace q47 := eq_true q47
                                have hcv48 := Kd.C_string (P := Try.prog) (A := A47) (c := c47) Try.underlying32 Try.underlying5 Try.underlying9 (by repeat (first | (with_reducible exact HR146.out) | (with_reducible refine Kd.C_alloc ?_ _) | (with_reducible refine Kd.C_drewN ?_ _) | (with_reducible refine Kd.C_drew ?_) | exact HR146.out))
                                have hcvq48 := fun nz => Kd.C_string (P := Try.prog) (A := A47) (c := c47) Try.underlying32 Try.underlying5 Try.underlying9 (Kd.C_drewN (by repeat (first | (with_reducible exact HR146.out) | (with_reducible refine Kd.C_alloc ?_ _) | (with_reducible refine Kd.C_drewN ?_ _) | (with_reducible refine Kd.C_drew ?_) | exact HR146.out)) nz)
                                go_wp2_with (first | (go_at_call 14; (with_reducible refine (chacha_Xor.calls (strOfNums y139) (Go.bits .and .i64 a1 4294967295) (strOfNums y143) a2 t147 t148 _ A24.out).mono ?_); rintro e w49 ⟨rfl, hb⟩; have n0_ := Aside0.mk (Kd.R_below (by (with_reducible repeat (first | apply Kd.R_alloc | apply Kd.R_drewN | apply Kd.R_drew)); exact HO_9.out) hb); have n1_ := Aside0.mk (Kd.C_below (by repeat (first | (with_reducible exact HR142.out) | (with_reducible refine Kd.C_alloc ?_ _) | (with_reducible refine Kd.C_drewN ?_ _) | (with_reducible refine Kd.C_drew ?_) | exact HR142.out)) hb); have n2_ := Aside0.mk (Kd.C_below (by repeat (first | (with_reducible exact HR146.out) | (with_reducible refine Kd.C_alloc ?_ _) | (with_reducible refine Kd.C_drewN ?_ _) | (with_reducible refine Kd.C_drew ?_) | exact HR146.out)) hb); have n3_ := Aside0.mk (below_step (by repeat (first | (with_reducible first | exact HB.out | apply below_alloc | apply pw_below_drewN | apply below_drew1) | exact HB.out)) hb); clear HO_9; clear HR142; clear HR146; clear HB; have HO_9 := n0_; have HR142 := n1_; have HR146 := n2_; have HB := n3_; clear n0_ n1_ n2_ n3_; (try clear hb); (try clear hb2); (try clear hk); (try clear hi)) | (go_at_call 14; (with_reducible refine (chacha_Xor.calls (strOfNums y139) (Go.bits .and .i64 a1 4294967295) (strOfNums y143) t147 t149 t150 _ A25.out).mono ?_); rintro e w50 ⟨rfl, hb⟩; have n0_ := Aside0.mk (Kd.R_below (by (with_reducible repeat (first | apply Kd.R_alloc | apply Kd.R_drewN | apply Kd.R_drew)); exact HO_9.out) hb); have n1_ := Aside0.mk (Kd.C_below (by repeat (first | (with_reducible exact HR142.out) | (with_reducible refine Kd.C_alloc ?_ _) | (with_reducible refine Kd.C_drewN ?_ _) | (with_reducible refine Kd.C_drew ?_) | exact HR142.out)) hb); have n2_ := Aside0.mk (Kd.C_below (by repeat (first | (with_reducible exact HR146.out) | (with_reducible refine Kd.C_alloc ?_ _) | (with_reducible refine Kd.C_drewN ?_ _) | (with_reducible refine Kd.C_drew ?_) | exact HR146.out)) hb); have n3_ := Aside0.mk (below_step (by repeat (first | (with_reducible first | exact HB.out | apply below_alloc | apply pw_below_drewN | apply below_drew1) | exact HB.out)) hb); clear HO_9; clear HR142; clear HR146; clear HB; have HO_9 := n0_; have HR142 := n1_; have HR146 := n2_; have HB := n3_; clear n0_ n1_ n2_ n3_; (try clear hb); (try clear hb2); (try clear hk); (try clear hi)) | (go_at_call 14; (with_reducible refine (chacha_Xor.calls (strOfNums y139) (Go.bits .and .i64 a1 4294967295) (strOfNums y143) (a2.extract 0 ((ji27) : Int).toNat) t151 t152 _ A30.out).mono ?_); rintro e w51 ⟨rfl, hb⟩; have n0_ := Aside0.mk (Kd.R_below (by (with_reducible repeat (first | apply Kd.R_alloc | apply Kd.R_drewN | apply Kd.R_drew)); exact HO_9.out) hb); have n1_ := Aside0.mk (Kd.C_below (by repeat (first | (with_reducible exact HR142.out) | (with_reducible refine Kd.C_alloc ?_ _) | (with_reducible refine Kd.C_drewN ?_ _) | (with_reducible refine Kd.C_drew ?_) | exact HR142.out)) hb); have n2_ := Aside0.mk (Kd.C_below (by repeat (first | (with_reducible exact HR146.out) | (with_reducible refine Kd.C_alloc ?_ _) | (with_reducible refine Kd.C_drewN ?_ _) | (with_reducible refine Kd.C_drew ?_) | exact HR146.out)) hb); have n3_ := Aside0.mk (below_step (by repeat (first | (with_reducible first | exact HB.out | apply below_alloc | apply pw_below_drewN | apply below_drew1) | exact HB.out)) hb); clear HO_9; clear HR142; clear HR146; clear HB; have HO_9 := n0_; have HR142 := n1_; have HR146 := n2_; have HB := n3_; clear n0_ n1_ n2_ n3_; (try clear hb); (try clear hb2); (try clear hk); (try clear hi)) | (go_at_call 14; (with_reducible refine (chacha_Xor.calls (strOfNums y139) (Go.bits .and .i64 (wrap64 ((Go.bits .and .i64 a1 4294967295) + (wrap64 (Int.tmod (IntKind.u64.wrap (a3)) (IntKind.u64.wrap (wrap64 ((wrap64 ((a2.size : Int) / 64)) + 1))))))) 4294967295) (strOfNums y143) (a2.extract ((ji27) : Int).toNat a2.size) t153 t154 _ A33.out).mono ?_); rintro e w52 ⟨rfl, hb⟩; have n0_ := Aside0.mk (Kd.R_below (by (with_reducible repeat (first | apply Kd.R_alloc | apply Kd.R_drewN | apply Kd.R_drew)); exact HO_9.out) hb); have n1_ := Aside0.mk (Kd.C_below (by repeat (first | (with_reducible exact HR142.out) | (with_reducible refine Kd.C_alloc ?_ _) | (with_reducible refine Kd.C_drewN ?_ _) | (with_reducible refine Kd.C_drew ?_) | exact HR142.out)) hb); have n2_ := Aside0.mk (Kd.C_below (by repeat (first | (with_reducible exact HR146.out) | (with_reducible refine Kd.C_alloc ?_ _) | (with_reducible refine Kd.C_drewN ?_ _) | (with_reducible refine Kd.C_drew ?_) | exact HR146.out)) hb); have n3_ := Aside0.mk (below_step (by repeat (first | (with_reducible first | exact HB.out | apply below_alloc | apply pw_below_drewN | apply below_drew1) | exact HB.out)) hb); clear HO_9; clear HR142; clear HR146; clear HB; have HO_9 := n0_; have HR142 := n1_; have HR146 := n2_; have HB := n3_; clear n0_ n1_ n2_ n3_; (try clear hb); (try clear hb2); (try clear hk); (try clear hi)) | (go_at_call 16; (with_reducible refine (halberdlaw0_Num.calls t148 t155 _ A34.out).mono ?_); rintro e w' ⟨rfl, ⟨nd, rfl⟩⟩; (try first | exact ⟨rfl, _, World.drewN_drewN _ _ _⟩ | exact ⟨rfl, _, Eq.trans (World.drewN_drewN _ _ _) (congrArg (World.drewN _) (Nat.add_assoc _ _ _))⟩)) | (go_at_call 16; (with_reducible refine (halberdlaw0_Num.calls t150 t156 _ A36.out).mono ?_); rintro e w' ⟨rfl, ⟨nd, rfl⟩⟩; (try first | exact ⟨rfl, _, World.drewN_drewN _ _ _⟩ | exact ⟨rfl, _, Eq.trans (World.drewN_drewN _ _ _) (congrArg (World.drewN _) (Nat.add_assoc _ _ _))⟩)) | (go_at_call 16; (with_reducible refine (halberdlaw0_Num.calls t152 t157 _ A39.out).mono ?_); rintro e w' ⟨rfl, ⟨nd, rfl⟩⟩; (try first | exact ⟨rfl, _, World.drewN_drewN _ _ _⟩ | exact ⟨rfl, _, Eq.trans (World.drewN_drewN _ _ _) (congrArg (World.drewN _) (Nat.add_assoc _ _ _))⟩)) | (go_at_call 16; (with_reducible refine (halberdlaw0_Num.calls t154 t158 _ A41.out).mono ?_); rintro e w' ⟨rfl, ⟨nd, rfl⟩⟩; (try first | exact ⟨rfl, _, World.drewN_drewN _ _ _⟩ | exact ⟨rfl, _, Eq.trans (World.drewN_drewN _ _ _) (congrArg (World.drewN _) (Nat.add_assoc _ _ _))⟩)))
                                repeat (go_quiet (first | (go_at_call 14; (with_reducible refine (chacha_Xor.calls (strOfNums y139) (Go.bits .and .i64 a1 4294967295) (strOfNums y143) a2 t147 t148 _ A24.out).mono ?_); rintro e w49 ⟨rfl, hb⟩; have n0_ := Aside0.mk (Kd.R_below (by (with_reducible repeat (first | apply Kd.R_alloc | apply Kd.R_drewN | apply Kd.R_drew)); exact HO_9.out) hb); have n1_ := Aside0.mk (Kd.C_below (by repeat (first | (with_reducible exact HR142.out) | (with_reducible refine Kd.C_alloc ?_ _) | (with_reducible refine Kd.C_drewN ?_ _) | (with_reducible refine Kd.C_drew ?_) | exact HR142.out)) hb); have n2_ := Aside0.mk (Kd.C_below (by repeat (first | (with_reducible exact HR146.out) | (with_reducible refine Kd.C_alloc ?_ _) | (with_reducible refine Kd.C_drewN ?_ _) | (with_reducible refine Kd.C_drew ?_) | exact HR146.out)) hb); have n3_ := Aside0.mk (below_step (by repeat (first | (with_reducible first | exact HB.out | apply below_alloc | apply pw_below_drewN | apply below_drew1) | exact HB.out)) hb); clear HO_9; clear HR142; clear HR146; clear HB; have HO_9 := n0_; have HR142 := n1_; have HR146 := n2_; have HB := n3_; clear n0_ n1_ n2_ n3_; (try clear hb); (try clear hb2); (try clear hk); (try clear hi)) | (go_at_call 14; (with_reducible refine (chacha_Xor.calls (strOfNums y139) (Go.bits .and .i64 a1 4294967295) (strOfNums y143) t147 t149 t150 _ A25.out).mono ?_); rintro e w50 ⟨rfl, hb⟩; have n0_ := Aside0.mk (Kd.R_below (by (with_reducible repeat (first | apply Kd.R_alloc | apply Kd.R_drewN | apply Kd.R_drew)); exact HO_9.out) hb); have n1_ := Aside0.mk (Kd.C_below (by repeat (first | (with_reducible exact HR142.out) | (with_reducible refine Kd.C_alloc ?_ _) | (with_reducible refine Kd.C_drewN ?_ _) | (with_reducible refine Kd.C_drew ?_) | exact HR142.out)) hb); have n2_ := Aside0.mk (Kd.C_below (by repeat (first | (with_reducible exact HR146.out) | (with_reducible refine Kd.C_alloc ?_ _) | (with_reducible refine Kd.C_drewN ?_ _) | (with_reducible refine Kd.C_drew ?_) | exact HR146.out)) hb); have n3_ := Aside0.mk (below_step (by repeat (first | (with_reducible first | exact HB.out | apply below_alloc | apply pw_below_drewN | apply below_drew1) | exact HB.out)) hb); clear HO_9; clear HR142; clear HR146; clear HB; have HO_9 := n0_; have HR142 := n1_; have HR146 := n2_; have HB := n3_; clear n0_ n1_ n2_ n3_; (try clear hb); (try clear hb2); (try clear hk); (try clear hi)) | (go_at_call 14; (with_reducible refine (chacha_Xor.calls (strOfNums y139) (Go.bits .and .i64 a1 4294967295) (strOfNums y143) (a2.extract 0 ((ji27) : Int).toNat) t151 t152 _ A30.out).mono ?_); rintro e w51 ⟨rfl, hb⟩; have n0_ := Aside0.mk (Kd.R_below (by (with_reducible repeat (first | apply Kd.R_alloc | apply Kd.R_drewN | apply Kd.R_drew)); exact HO_9.out) hb); have n1_ := Aside0.mk (Kd.C_below (by repeat (first | (with_reducible exact HR142.out) | (with_reducible refine Kd.C_alloc ?_ _) | (with_reducible refine Kd.C_drewN ?_ _) | (with_reducible refine Kd.C_drew ?_) | exact HR142.out)) hb); have n2_ := Aside0.mk (Kd.C_below (by repeat (first | (with_reducible exact HR146.out) | (with_reducible refine Kd.C_alloc ?_ _) | (with_reducible refine Kd.C_drewN ?_ _) | (with_reducible refine Kd.C_drew ?_) | exact HR146.out)) hb); have n3_ := Aside0.mk (below_step (by repeat (first | (with_reducible first | exact HB.out | apply below_alloc | apply pw_below_drewN | apply below_drew1) | exact HB.out)) hb); clear HO_9; clear HR142; clear HR146; clear HB; have HO_9 := n0_; have HR142 := n1_; have HR146 := n2_; have HB := n3_; clear n0_ n1_ n2_ n3_; (try clear hb); (try clear hb2); (try clear hk); (try clear hi)) | (go_at_call 14; (with_reducible refine (chacha_Xor.calls (strOfNums y139) (Go.bits .and .i64 (wrap64 ((Go.bits .and .i64 a1 4294967295) + (wrap64 (Int.tmod (IntKind.u64.wrap (a3)) (IntKind.u64.wrap (wrap64 ((wrap64 ((a2.size : Int) / 64)) + 1))))))) 4294967295) (strOfNums y143) (a2.extract ((ji27) : Int).toNat a2.size) t153 t154 _ A33.out).mono ?_); rintro e w52 ⟨rfl, hb⟩; have n0_ := Aside0.mk (Kd.R_below (by (with_reducible repeat (first | apply Kd.R_alloc | apply Kd.R_drewN | apply Kd.R_drew)); exact HO_9.out) hb); have n1_ := Aside0.mk (Kd.C_below (by repeat (first | (with_reducible exact HR142.out) | (with_reducible refine Kd.C_alloc ?_ _) | (with_reducible refine Kd.C_drewN ?_ _) | (with_reducible refine Kd.C_drew ?_) | exact HR142.out)) hb); have n2_ := Aside0.mk (Kd.C_below (by repeat (first | (with_reducible exact HR146.out) | (with_reducible refine Kd.C_alloc ?_ _) | (with_reducible refine Kd.C_drewN ?_ _) | (with_reducible refine Kd.C_drew ?_) | exact HR146.out)) hb); have n3_ := Aside0.mk (below_step (by repeat (first | (with_reducible first | exact HB.out | apply below_alloc | apply pw_below_drewN | apply below_drew1) | exact HB.out)) hb); clear HO_9; clear HR142; clear HR146; clear HB; have HO_9 := n0_; have HR142 := n1_; have HR146 := n2_; have HB := n3_; clear n0_ n1_ n2_ n3_; (try clear hb); (try clear hb2); (try clear hk); (try clear hi)) | (go_at_call 16; (with_reducible refine (halberdlaw0_Num.calls t148 t155 _ A34.out).mono ?_); rintro e w' ⟨rfl, ⟨nd, rfl⟩⟩; (try first | exact ⟨rfl, _, World.drewN_drewN _ _ _⟩ | exact ⟨rfl, _, Eq.trans (World.drewN_drewN _ _ _) (congrArg (World.drewN _) (Nat.add_assoc _ _ _))⟩)) | (go_at_call 16; (with_reducible refine (halberdlaw0_Num.calls t150 t156 _ A36.out).mono ?_); rintro e w' ⟨rfl, ⟨nd, rfl⟩⟩; (try first | exact ⟨rfl, _, World.drewN_drewN _ _ _⟩ | exact ⟨rfl, _, Eq.trans (World.drewN_drewN _ _ _) (congrArg (World.drewN _) (Nat.add_assoc _ _ _))⟩)) | (go_at_call 16; (with_reducible refine (halberdlaw0_Num.calls t152 t157 _ A39.out).mono ?_); rintro e w' ⟨rfl, ⟨nd, rfl⟩⟩; (try first | exact ⟨rfl, _, World.drewN_drewN _ _ _⟩ | exact ⟨rfl, _, Eq.trans (World.drewN_drewN _ _ _) (congrArg (World.drewN _) (Nat.add_assoc _ _ _))⟩)) | (go_at_call 16; (with_reducible refine (halberdlaw0_Num.calls t154 t158 _ A41.out).mono ?_); rintro e w' ⟨rfl, ⟨nd, rfl⟩⟩; (try first | exact ⟨rfl, _, World.drewN_drewN _ _ _⟩ | exact ⟨rfl, _, Eq.trans (World.drewN_drewN _ _ _) (congrArg (World.drewN _) (Nat.add_assoc _ _ _))⟩))); try go_wp2_with (first | (go_at_call 14; (with_reducible refine (chacha_Xor.calls (strOfNums y139) (Go.bits .and .i64 a1 4294967295) (strOfNums y143) a2 t147 t148 _ A24.out).mono ?_); rintro e w49 ⟨rfl, hb⟩; have n0_ := Aside0.mk (Kd.R_below (by (with_reducible repeat (first | apply Kd.R_alloc | apply Kd.R_drewN | apply Kd.R_drew)); exact HO_9.out) hb); have n1_ := Aside0.mk (Kd.C_below (by repeat (first | (with_reducible exact HR142.out) | (with_reducible refine Kd.C_alloc ?_ _) | (with_reducible refine Kd.C_drewN ?_ _) | (with_reducible refine Kd.C_drew ?_) | exact HR142.out)) hb); have n2_ := Aside0.mk (Kd.C_below (by repeat (first | (with_reducible exact HR146.out) | (with_reducible refine Kd.C_alloc ?_ _) | (with_reducible refine Kd.C_drewN ?_ _) | (with_reducible refine Kd.C_drew ?_) | exact HR146.out)) hb); have n3_ := Aside0.mk (below_step (by repeat (first | (with_reducible first | exact HB.out | apply below_alloc | apply pw_below_drewN | apply below_drew1) | exact HB.out)) hb); clear HO_9; clear HR142; clear HR146; clear HB; have HO_9 := n0_; have HR142 := n1_; have HR146 := n2_; have HB := n3_; clear n0_ n1_ n2_ n3_; (try clear hb); (try clear hb2); (try clear hk); (try clear hi)) | (go_at_call 14; (with_reducible refine (chacha_Xor.calls (strOfNums y139) (Go.bits .and .i64 a1 4294967295) (strOfNums y143) t147 t149 t150 _ A25.out).mono ?_); rintro e w50 ⟨rfl, hb⟩; have n0_ := Aside0.mk (Kd.R_below (by (with_reducible repeat (first | apply Kd.R_alloc | apply Kd.R_drewN | apply Kd.R_drew)); exact HO_9.out) hb); have n1_ := Aside0.mk (Kd.C_below (by repeat (first | (with_reducible exact HR142.out) | (with_reducible refine Kd.C_alloc ?_ _) | (with_reducible refine Kd.C_drewN ?_ _) | (with_reducible refine Kd.C_drew ?_) | exact HR142.out)) hb); have n2_ := Aside0.mk (Kd.C_below (by repeat (first | (with_reducible exact HR146.out) | (with_reducible refine Kd.C_alloc ?_ _) | (with_reducible refine Kd.C_drewN ?_ _) | (with_reducible refine Kd.C_drew ?_) | exact HR146.out)) hb); have n3_ := Aside0.mk (below_step (by repeat (first | (with_reducible first | exact HB.out | apply below_alloc | apply pw_below_drewN | apply below_drew1) | exact HB.out)) hb); clear HO_9; clear HR142; clear HR146; clear HB; have HO_9 := n0_; have HR142 := n1_; have HR146 := n2_; have HB := n3_; clear n0_ n1_ n2_ n3_; (try clear hb); (try clear hb2); (try clear hk); (try clear hi)) | (go_at_call 14; (with_reducible refine (chacha_Xor.calls (strOfNums y139) (Go.bits .and .i64 a1 4294967295) (strOfNums y143) (a2.extract 0 ((ji27) : Int).toNat) t151 t152 _ A30.out).mono ?_); rintro e w51 ⟨rfl, hb⟩; have n0_ := Aside0.mk (Kd.R_below (by (with_reducible repeat (first | apply Kd.R_alloc | apply Kd.R_drewN | apply Kd.R_drew)); exact HO_9.out) hb); have n1_ := Aside0.mk (Kd.C_below (by repeat (first | (with_reducible exact HR142.out) | (with_reducible refine Kd.C_alloc ?_ _) | (with_reducible refine Kd.C_drewN ?_ _) | (with_reducible refine Kd.C_drew ?_) | exact HR142.out)) hb); have n2_ := Aside0.mk (Kd.C_below (by repeat (first | (with_reducible exact HR146.out) | (with_reducible refine Kd.C_alloc ?_ _) | (with_reducible refine Kd.C_drewN ?_ _) | (with_reducible refine Kd.C_drew ?_) | exact HR146.out)) hb); have n3_ := Aside0.mk (below_step (by repeat (first | (with_reducible first | exact HB.out | apply below_alloc | apply pw_below_drewN | apply below_drew1) | exact HB.out)) hb); clear HO_9; clear HR142; clear HR146; clear HB; have HO_9 := n0_; have HR142 := n1_; have HR146 := n2_; have HB := n3_; clear n0_ n1_ n2_ n3_; (try clear hb); (try clear hb2); (try clear hk); (try clear hi)) | (go_at_call 14; (with_reducible refine (chacha_Xor.calls (strOfNums y139) (Go.bits .and .i64 (wrap64 ((Go.bits .and .i64 a1 4294967295) + (wrap64 (Int.tmod (IntKind.u64.wrap (a3)) (IntKind.u64.wrap (wrap64 ((wrap64 ((a2.size : Int) / 64)) + 1))))))) 4294967295) (strOfNums y143) (a2.extract ((ji27) : Int).toNat a2.size) t153 t154 _ A33.out).mono ?_); rintro e w52 ⟨rfl, hb⟩; have n0_ := Aside0.mk (Kd.R_below (by (with_reducible repeat (first | apply Kd.R_alloc | apply Kd.R_drewN | apply Kd.R_drew)); exact HO_9.out) hb); have n1_ := Aside0.mk (Kd.C_below (by repeat (first | (with_reducible exact HR142.out) | (with_reducible refine Kd.C_alloc ?_ _) | (with_reducible refine Kd.C_drewN ?_ _) | (with_reducible refine Kd.C_drew ?_) | exact HR142.out)) hb); have n2_ := Aside0.mk (Kd.C_below (by repeat (first | (with_reducible exact HR146.out) | (with_reducible refine Kd.C_alloc ?_ _) | (with_reducible refine Kd.C_drewN ?_ _) | (with_reducible refine Kd.C_drew ?_) | exact HR146.out)) hb); have n3_ := Aside0.mk (below_step (by repeat (first | (with_reducible first | exact HB.out | apply below_alloc | apply pw_below_drewN | apply below_drew1) | exact HB.out)) hb); clear HO_9; clear HR142; clear HR146; clear HB; have HO_9 := n0_; have HR142 := n1_; have HR146 := n2_; have HB := n3_; clear n0_ n1_ n2_ n3_; (try clear hb); (try clear hb2); (try clear hk); (try clear hi)) | (go_at_call 16; (with_reducible refine (halberdlaw0_Num.calls t148 t155 _ A34.out).mono ?_); rintro e w' ⟨rfl, ⟨nd, rfl⟩⟩; (try first | exact ⟨rfl, _, World.drewN_drewN _ _ _⟩ | exact ⟨rfl, _, Eq.trans (World.drewN_drewN _ _ _) (congrArg (World.drewN _) (Nat.add_assoc _ _ _))⟩)) | (go_at_call 16; (with_reducible refine (halberdlaw0_Num.calls t150 t156 _ A36.out).mono ?_); rintro e w' ⟨rfl, ⟨nd, rfl⟩⟩; (try first | exact ⟨rfl, _, World.drewN_drewN _ _ _⟩ | exact ⟨rfl, _, Eq.trans (World.drewN_drewN _ _ _) (congrArg (World.drewN _) (Nat.add_assoc _ _ _))⟩)) | (go_at_call 16; (with_reducible refine (halberdlaw0_Num.calls t152 t157 _ A39.out).mono ?_); rintro e w' ⟨rfl, ⟨nd, rfl⟩⟩; (try first | exact ⟨rfl, _, World.drewN_drewN _ _ _⟩ | exact ⟨rfl, _, Eq.trans (World.drewN_drewN _ _ _) (congrArg (World.drewN _) (Nat.add_assoc _ _ _))⟩)) | (go_at_call 16; (with_reducible refine (halberdlaw0_Num.calls t154 t158 _ A41.out).mono ?_); rintro e w' ⟨rfl, ⟨nd, rfl⟩⟩; (try first | exact ⟨rfl, _, World.drewN_drewN _ _ _⟩ | exact ⟨rfl, _, Eq.trans (World.drewN_drewN _ _ _) (congrArg (World.drewN _) (Nat.add_assoc _ _ _))⟩))))
                                go_ret
                                exact ⟨by first | rfl | (simp [errW_none, errW_some] <;> rfl) | (simp only [← hji27]; first | rfl | (simp [errW_none, errW_some] <;> rfl)) | (simp [*, errW_none, errW_some] <;> rfl), by repeat (first | (with_reducible first | exact HB.out | apply below_alloc | apply pw_below_drewN | apply below_drew1) | exact HB.out)⟩
                              · rw [if_neg c43] at H
                                exact absurd H (by simp)
                            · rw [if_neg c42] at H
                              have c42b0 : (t158 == 0) = false := beq_eq_false_iff_ne.mpr c42
                              have c42b1 : (t158 != 0) = true := bne_iff_ne.mpr c42
                              exact absurd ((Option.some.inj H).trans hr.out) (by decide)
                          · rw [if_neg c40] at H
                            have c40b0 : (t157 == 0) = false := beq_eq_false_iff_ne.mpr c40
                            have c40b1 : (t157 != 0) = true := bne_iff_ne.mpr c40
                            exact absurd ((Option.some.inj H).trans hr.out) (by decide)
                        · rw [if_neg c38] at H
                          have c38b0 : (t149.toList == a2.toList) = false := beq_eq_false_iff_ne.mpr c38
                          have c38b1 : (t149.toList != a2.toList) = true := bne_iff_ne.mpr c38
                          exact absurd ((Option.some.inj H).trans hr.out) (by decide)
                      · rw [if_neg c37] at H
                        have c37b0 : (t156 == 0) = false := beq_eq_false_iff_ne.mpr c37
                        have c37b1 : (t156 != 0) = true := bne_iff_ne.mpr c37
                        exact absurd ((Option.some.inj H).trans hr.out) (by decide)
                    · rw [if_neg c35] at H
                      have c35b0 : (t155 == 0) = false := beq_eq_false_iff_ne.mpr c35
                      have c35b1 : (t155 != 0) = true := bne_iff_ne.mpr c35
                      exact absurd ((Option.some.inj H).trans hr.out) (by decide)
                  · rw [if_neg c29] at H
                    exact absurd H (by simp)
                · rw [if_neg c28] at H
                  exact absurd H (by simp)
            · rw [if_neg c22] at H
              exact absurd H (by simp)
      · rw [if_neg c9] at H
        exact absurd H (by simp)
  · replace c6 := Bool.eq_false_iff.mpr c6
    subst c6
    have H1 : (some false) = some r := by rw [if_neg (show ¬ (false = true) by decide)] at H; exact H
    clear H
    have H := H1
    clear H1
    exact absurd ((Option.some.inj H).trans hr.out) (by decide)

/-- THE ONE PURE STATEMENT of halberdlaw6_ChachaTwice: yours. -/
def halberdlaw6_ChachaTwice.Pure : Prop := ∀ (a0 : ByteArray) (a1 : Int) (a2 : ByteArray) (a3 : Int), a0.size ≤ 140737488351232 → (Lit.int .i64 a1).wf = true → a2.size ≤ 140737488351232 → (Lit.int .i64 a3).wf = true → ∃ k, halberdlaw6_ChachaTwice.f k a0 a1 a2 a3 = some true
theorem halberdlaw6_ChachaTwice.walk (P : halberdlaw6_ChachaTwice.Pure) (a0 : ByteArray) (a1 : Int) (a2 : ByteArray) (a3 : Int) (w : World) (w0 : a0.size ≤ 140737488351232) (w1 : (Lit.int .i64 a1).wf = true) (w2 : a2.size ≤ 140737488351232) (w3 : (Lit.int .i64 a3).wf = true) :
    Calls Try.prog 4 #[.string a0, .int .i64 a1, .string a2, .int .i64 a3] w fun e w' => e = .returned (.bool true) ∧ Below w.heap.size w w' := by
  obtain ⟨k, h⟩ := P a0 a1 a2 a3 w0 w1 w2 w3
  refine (halberdlaw6_ChachaTwice.calls k a0 a1 a2 a3 true w h ⟨rfl⟩).mono ?_
  rintro e w' ⟨rfl, hd⟩
  exact ⟨rfl, hd⟩

end Go.Proofs.Ytocckplgjbhlbaa.Z
