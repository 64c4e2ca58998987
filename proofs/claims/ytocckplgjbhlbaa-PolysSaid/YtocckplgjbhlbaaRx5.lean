-- Written by a program of this session (wip/tools/xprint.py), over the kit's printer.
import Derived.Test.YtocckplgjbhlbaaRx0
import Derived.Test.YtocckplgjbhlbaaRx3
import Derived.Test.YtocckplgjbhlbaaRx4
namespace Go.Proofs.Ytocckplgjbhlbaa.R
open Go.RowKit Go.Proofs.YtocckplgjbhlbaaW.PrintWords Go.Proofs.YtocckplgjbhlbaaW.PrintLast Go.Proofs.YtocckplgjbhlbaaW.PrintMore
attribute [local go_sem] max2_int min2_int max_two min_two max_three min_three max_four min_four   -- for this text's walks alone
set_option linter.unusedVariables false
set_option linter.unusedSimpArgs false

/-! ### halberdref4_PolySeal: function 21 -/
def halberdref4_PolySeal.j0 : Nat → ByteArray → ByteArray → ByteArray → ByteArray → Bool → Option (ByteArray × Int)
  | 0, _, _, _, _, _ => none
  | k + 1, x0, x1, x2, x3, x28 => if x28 = true then (some ((⟨#[]⟩ : ByteArray), 700)) else ((halberdref4_stream.f k x0 1 x1 x3).bind fun t155 => ((halberdref4_polyTag.f k x0 x1 x2 t155).bind fun t156 => (if t155.size + t156.size ≤ 9223372036854775807 then (some ((t155 ++ t156), 0)) else (none))))
def halberdref4_PolySeal.f (k : Nat) (a0 : ByteArray) (a1 : ByteArray) (a2 : ByteArray) (a3 : ByteArray) : Option (ByteArray × Int) := if (a0.size : Int) = 32 then (if (a1.size : Int) = 12 then (if (a2.size : Int) > 65536 then (halberdref4_PolySeal.j0 k a0 a1 a2 a3 true) else (halberdref4_PolySeal.j0 k a0 a1 a2 a3 (decide ((a3.size : Int) > 65536)))) else (halberdref4_PolySeal.j0 k a0 a1 a2 a3 true)) else (halberdref4_PolySeal.j0 k a0 a1 a2 a3 true)
theorem halberdref4_PolySeal.mono_l : ∀ k, (∀ y0 y1 y2 y3 y4, LeO (halberdref4_PolySeal.j0 k y0 y1 y2 y3 y4) (halberdref4_PolySeal.j0 (k + 1) y0 y1 y2 y3 y4))
  | 0 => fun _ _ _ _ _ r h => by simp [halberdref4_PolySeal.j0] at h
  | k + 1 => by
    have ih0 := halberdref4_PolySeal.mono_l k
    · intro y0 y1 y2 y3 y4
      unfold halberdref4_PolySeal.j0
      repeat' first
      | (with_reducible exact ih0 _ _ _ _ _)
      | (with_reducible exact halberdref4_polyTag.mono _ _ _ _ _)
      | (with_reducible exact halberdref4_stream.mono _ _ _ _ _)
      | (with_reducible exact LeO.refl _)
      | (with_reducible exact LeO.none _)
      | (with_reducible refine LeO.ite ?_ ?_)
      | (with_reducible refine LeO.bind ?_ (fun _ => ?_))
      | exact ih0 _ _ _ _ _
      | exact halberdref4_polyTag.mono _ _ _ _ _
      | exact halberdref4_stream.mono _ _ _ _ _
      | exact LeO.none _
      | refine LeO.ite ?_ ?_
      | refine LeO.bind ?_ (fun _ => ?_)
theorem halberdref4_PolySeal.mono : ∀ a0 a1 a2 a3 k, LeO (halberdref4_PolySeal.f k a0 a1 a2 a3) (halberdref4_PolySeal.f (k + 1) a0 a1 a2 a3) := by
  intro a0 a1 a2 a3 k
  have ih0 := halberdref4_PolySeal.mono_l k
  unfold halberdref4_PolySeal.f
  repeat' first
      | (with_reducible exact ih0 _ _ _ _ _)
      | (with_reducible exact halberdref4_polyTag.mono _ _ _ _ _)
      | (with_reducible exact halberdref4_stream.mono _ _ _ _ _)
      | (with_reducible exact LeO.refl _)
      | (with_reducible exact LeO.none _)
      | (with_reducible refine LeO.ite ?_ ?_)
      | (with_reducible refine LeO.bind ?_ (fun _ => ?_))
      | exact ih0 _ _ _ _ _
      | exact halberdref4_polyTag.mono _ _ _ _ _
      | exact halberdref4_stream.mono _ _ _ _ _
      | exact LeO.none _
      | refine LeO.ite ?_ ?_
      | refine LeO.bind ?_ (fun _ => ?_)
set_option maxHeartbeats 8000000 in
set_option maxRecDepth 100000 in
theorem halberdref4_PolySeal.calls (k : Nat) (a0 : ByteArray) (a1 : ByteArray) (a2 : ByteArray) (a3 : ByteArray) (r1 : ByteArray) (r2 : Int) (w : World) (h : halberdref4_PolySeal.f k a0 a1 a2 a3 = some (r1, r2)) :
    Calls Try.prog 21 #[.string a0, .string a1, .string a2, .string a3] w fun e w' => e = .returned (.tuple #[.string r1, .int .i64 r2]) ∧ Below w.heap.size w w' := by
  have HB := Aside0.mk (Below.refl w.heap.size w)
  have H : (if (a0.size : Int) = 32 then (if (a1.size : Int) = 12 then (if (a2.size : Int) > 65536 then (halberdref4_PolySeal.j0 k a0 a1 a2 a3 true) else (halberdref4_PolySeal.j0 k a0 a1 a2 a3 (decide ((a3.size : Int) > 65536)))) else (halberdref4_PolySeal.j0 k a0 a1 a2 a3 true)) else (halberdref4_PolySeal.j0 k a0 a1 a2 a3 true)) = some (r1, r2) := h
  clear h
  have HC5 := Aside0.mk H
  clear H
  go_enter Try.func21, Try.ntmps21
  go_upto_region 1 with (fail)
  go_cut [28] (fun v28 wc => ∃ (kq : Nat) (x28_4 : Bool), v28 = .bool x28_4 ∧ Aside0 (halberdref4_PolySeal.j0 kq a0 a1 a2 a3 x28_4 = some (r1, r2)) ∧ Aside0 (kq ≤ k) ∧ Aside0 (Below w.heap.size w wc))
  case first =>
    have H := HC5.out
    clear HC5
    by_cases c6 : (a0.size : Int) = 32
    · rw [if_pos c6] at H
      have c6b0 : ((a0.size : Int) == 32) = true := beq_iff_eq.mpr c6
      have c6b1 : ((a0.size : Int) != 32) = false := bne_eq_false_iff_eq.mpr c6
      clear c6
      (first | rw [c6b0] | (simp only [i64_w, i32_w]; rw [c6b0]) | skip)
      by_cases c7 : (a1.size : Int) = 12
      · rw [if_pos c7] at H
        have c7b0 : ((a1.size : Int) == 12) = true := beq_iff_eq.mpr c7
        have c7b1 : ((a1.size : Int) != 12) = false := bne_eq_false_iff_eq.mpr c7
        clear c7
        by_cases c8 : (a2.size : Int) > 65536
        · rw [if_pos c8] at H
          have c8b0 : decide (65536 < (a2.size : Int)) = true := decide_eq_true c8
          have c8b1 : decide (65536 < a2.size) = true := decide_eq_true (by omega)
          clear c8
          have H' := Aside0.mk H
          clear H
          go_wp2
          go_meet
          case rel => exact ⟨_, (true), (by first | rfl | (simp; done) | (simp [*]; done)), H', ⟨by first | omega | exact Nat.le_refl _⟩, ⟨by repeat (first | (with_reducible first | exact HB.out | apply below_alloc | apply pw_below_drewN | apply below_drew1) | exact HB.out)⟩⟩
        · rw [if_neg c8] at H
          have c8b0 : decide (65536 < (a2.size : Int)) = false := decide_eq_false c8
          have c8b1 : decide (65536 < a2.size) = false := decide_eq_false (by omega)
          clear c8
          have H' := Aside0.mk H
          clear H
          go_wp2
          go_meet
          case rel => exact ⟨_, (decide ((a3.size : Int) > 65536)), (by first | rfl | (simp; done) | (simp [*]; done)), H', ⟨by first | omega | exact Nat.le_refl _⟩, ⟨by repeat (first | (with_reducible first | exact HB.out | apply below_alloc | apply pw_below_drewN | apply below_drew1) | exact HB.out)⟩⟩
      · rw [if_neg c7] at H
        have c7b0 : ((a1.size : Int) == 12) = false := beq_eq_false_iff_ne.mpr c7
        have c7b1 : ((a1.size : Int) != 12) = true := bne_iff_ne.mpr c7
        have H' := Aside0.mk H
        clear H
        go_wp2
        go_meet
        case rel => exact ⟨_, (true), (by first | rfl | (simp; done) | (simp [*]; done)), H', ⟨by first | omega | exact Nat.le_refl _⟩, ⟨by repeat (first | (with_reducible first | exact HB.out | apply below_alloc | apply pw_below_drewN | apply below_drew1) | exact HB.out)⟩⟩
    · rw [if_neg c6] at H
      have c6b0 : ((a0.size : Int) == 32) = false := beq_eq_false_iff_ne.mpr c6
      have c6b1 : ((a0.size : Int) != 32) = true := bne_iff_ne.mpr c6
      (first | rw [c6b0] | (simp only [i64_w, i32_w]; rw [c6b0]) | skip)
      have H' := Aside0.mk H
      clear H
      go_wp2
      go_meet
      case rel => exact ⟨_, (true), (by first | rfl | (simp; done) | (simp [*]; done)), H', ⟨by first | omega | exact Nat.le_refl _⟩, ⟨by repeat (first | (with_reducible first | exact HB.out | apply below_alloc | apply pw_below_drewN | apply below_drew1) | exact HB.out)⟩⟩
  case rest =>
    clear HC5
    try clear c2
    try clear p2
    try clear c6
    try clear c6b0
    try clear c6b1
    try clear c7
    try clear c7b0
    try clear c7b1
    try clear c8
    try clear c8b0
    try clear c8b1
    obtain ⟨kq, x28_4, rfl, HA, HJ4, HB⟩ := hcut
    cases kq with
    | zero => exact absurd HA.out (by simp [halberdref4_PolySeal.j0])
    | succ kj4 =>
      have H := HA.out
      clear HA
      simp only [halberdref4_PolySeal.j0] at H
      by_cases c9 : x28_4 = true
      · subst c9
        have H1 : (some ((⟨#[]⟩ : ByteArray), 700)) = some (r1, r2) := by rw [if_pos rfl] at H; exact H
        clear H
        have H := H1
        clear H1
        simp only [Option.some.injEq, Prod.mk.injEq] at H
        obtain ⟨rfl, rfl⟩ := H
        go_wp2
        go_ret2
        exact ⟨by first | rfl | (simp [errW_none, errW_some] <;> rfl) | (simp [*, errW_none, errW_some] <;> rfl), by repeat (first | (with_reducible first | exact HB.out | apply below_alloc | apply pw_below_drewN | apply below_drew1) | exact HB.out)⟩
      · replace c9 := Bool.eq_false_iff.mpr c9
        subst c9
        have H1 : ((halberdref4_stream.f kj4 a0 1 a1 a3).bind fun t155 => ((halberdref4_polyTag.f kj4 a0 a1 a2 t155).bind fun t156 => (if t155.size + t156.size ≤ 9223372036854775807 then (some ((t155 ++ t156), 0)) else (none)))) = some (r1, r2) := by rw [if_neg (show ¬ (false = true) by decide)] at H; exact H
        clear H
        have H := H1
        clear H1
        replace H := Option.bind_eq_some_iff.mp H
        obtain ⟨t155, A100, H⟩ := H
        replace H : ((halberdref4_polyTag.f kj4 a0 a1 a2 t155).bind fun t156 => (if t155.size + t156.size ≤ 9223372036854775807 then (some ((t155 ++ t156), 0)) else (none))) = some (r1, r2) := H
        have A10 := Aside0.mk A100
        clear A100
        replace H := Option.bind_eq_some_iff.mp H
        obtain ⟨t156, A110, H⟩ := H
        replace H : (if t155.size + t156.size ≤ 9223372036854775807 then (some ((t155 ++ t156), 0)) else (none)) = some (r1, r2) := H
        have A11 := Aside0.mk A110
        clear A110
        by_cases c12 : t155.size + t156.size ≤ 9223372036854775807
        · rw [if_pos c12] at H
          have c12b0 := eq_true c12
          have c12b1 : decide (t155.size + t156.size ≤ 9223372036854775807) = true := decide_eq_true c12
          try have c12b2 : (9223372036854775807 < t155.size + t156.size) = False := eq_false (Nat.not_lt.2 c12)
          obtain ⟨ys157, hys157⟩ : ∃ y_ : ByteArray, y_ = (t155 ++ t156) := ⟨_, rfl⟩
          replace H : (some (ys157, 0)) = some (r1, r2) := by first | (rw [hys157]; with_reducible exact H) | (have H2_ := (Option.bind_some _ _).symm.trans H; rw [hys157]; with_reducible exact H2_) | (have H2_ := (Option.bind_some _ _).symm.trans H; with_reducible exact H2_) | with_reducible exact H | (rw [hys157]; exact H) | exact H
          have Nys157 := Aside0.mk hys157
          clear hys157
          have Sys157 := Nys157.out.symm
          simp only [Option.some.injEq, Prod.mk.injEq] at H
          obtain ⟨rfl, rfl⟩ := H
          go_wp2_with (first | ((with_reducible refine gate_callee (f := 30) rfl ?_); refine goesL_ (some 32) rfl rfl Try.func30 (by kernel_rfl) rfl #[.string a0, .int .u32 1, .string a1, .string a3] rfl (by (try simp only [List.map_toArray, List.map_cons, List.map_nil]); first | done | rfl | (simp only [List.length_drop, List.length_take]; rfl)) ?_; (with_reducible refine (halberdref4_stream.calls kj4 a0 1 a1 a3 t155 _ A10.out).mono ?_); rintro e w13 ⟨rfl, hb⟩; refine ⟨_, rfl, ?_⟩; have n0_ := Aside0.mk (below_step (by repeat (first | (with_reducible first | exact HB.out | apply below_alloc | apply pw_below_drewN | apply below_drew1) | exact HB.out)) hb); clear HB; have HB := n0_; clear n0_; (try clear hb); (try clear hb2); (try clear hk); (try clear hi)) | ((with_reducible refine gate_callee (f := 37) rfl ?_); refine goesL_ (some 38) rfl rfl Try.func37 (by kernel_rfl) rfl #[.string a0, .string a1, .string a2, .string t155] rfl (by (try simp only [List.map_toArray, List.map_cons, List.map_nil]); first | done | rfl | (simp only [List.length_drop, List.length_take]; rfl)) ?_; (with_reducible refine (halberdref4_polyTag.calls kj4 a0 a1 a2 t155 t156 _ A11.out).mono ?_); rintro e w14 ⟨rfl, hb⟩; refine ⟨_, rfl, ?_⟩; have n0_ := Aside0.mk (below_step (by repeat (first | (with_reducible first | exact HB.out | apply below_alloc | apply pw_below_drewN | apply below_drew1) | exact HB.out)) hb); clear HB; have HB := n0_; clear n0_; (try clear hb); (try clear hb2); (try clear hk); (try clear hi)))
          go_ret2
          exact ⟨by first | rfl | (simp [errW_none, errW_some] <;> rfl) | (simp [*, errW_none, errW_some] <;> rfl), by repeat (first | (with_reducible first | exact HB.out | apply below_alloc | apply pw_below_drewN | apply below_drew1) | exact HB.out)⟩
        · rw [if_neg c12] at H
          exact absurd H (by simp)

/-! ### poly_Open: function 22 -/
instance poly_Open.dec (a0 a1 a2 a3 : ByteArray) : Decidable (Pol.Fits a0 a1 a2 a3) := by unfold Pol.Fits; infer_instance
def poly_Open.f (a0 : ByteArray) (a1 : ByteArray) (a2 : ByteArray) (a3 : ByteArray) : Option (ByteArray × Int) := if a3.size ≤ 9223372036854775807 then some (if Pol.OMay a0 a1 a2 a3 ∧ Pol.Fits a0 a1 a2 a3 then (Cha.xorOut a0 a1 1 (Pol.front a3), 0) else (ByteArray.empty, 700)) else none
theorem poly_Open.calls (a0 : ByteArray) (a1 : ByteArray) (a2 : ByteArray) (a3 : ByteArray) (r1 : ByteArray) (r2 : Int) (w : World) (h : poly_Open.f a0 a1 a2 a3 = some (r1, r2)) :
    Calls Try.prog 22 #[.string a0, .string a1, .string a2, .string a3] w fun e w' => e = .returned (.tuple #[.string r1, .int .i64 r2]) ∧ Below w.heap.size w w' := by
  unfold poly_Open.f at h
  by_cases hz : a3.size ≤ 9223372036854775807
  · rw [if_pos hz] at h
    have h := Option.some.inj h
    by_cases hm : Pol.OMay a0 a1 a2 a3
    · by_cases hf : Pol.Fits a0 a1 a2 a3
      · rw [if_pos ⟨hm, hf⟩] at h
        rw [← (Prod.mk.inj h).1, ← (Prod.mk.inj h).2]
        exact Pol.open_yes a0 a1 a2 a3 hm hf w
      · rw [if_neg (fun e => hf e.2)] at h
        rw [← (Prod.mk.inj h).1, ← (Prod.mk.inj h).2]
        exact Pol.open_bad a0 a1 a2 a3 hm hf w
    · rw [if_neg (fun e => hm e.1)] at h
      rw [← (Prod.mk.inj h).1, ← (Prod.mk.inj h).2]
      exact Pol.open_no a0 a1 a2 a3 hm hz w
  · rw [if_neg hz] at h
    cases h

end Go.Proofs.Ytocckplgjbhlbaa.R
