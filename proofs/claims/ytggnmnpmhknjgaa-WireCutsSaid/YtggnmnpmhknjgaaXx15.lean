-- Written by a program of this session (wip/tools/xprint.py), over the kit's printer.
import Derived.Test.YtggnmnpmhknjgaaXx0
import Derived.Test.YtggnmnpmhknjgaaXx1
import Derived.Test.YtggnmnpmhknjgaaXx5
import Derived.Test.YtggnmnpmhknjgaaXx7
import Derived.Test.YtggnmnpmhknjgaaXx12
import Derived.Test.YtggnmnpmhknjgaaXx13
import Derived.Test.YtggnmnpmhknjgaaXx14
namespace Go.Proofs.Ytggnmnpmhknjgaa.X
open Go.RowKit Go.Proofs.YtggnmnpmhknjgaaW.PrintWords Go.Proofs.YtggnmnpmhknjgaaW.PrintLast Go.Proofs.YtggnmnpmhknjgaaW.PrintMore
attribute [local go_sem] max2_int min2_int max_two min_two max_three min_three max_four min_four   -- for this text's walks alone
set_option linter.unusedVariables false
set_option linter.unusedSimpArgs false

/-! ### halberdlaw1_WireCuts: function 9 -/
def halberdlaw1_WireCuts.j0 : Nat → Int → Int → ByteArray → Option (Bool)
  | 0, _, _, _ => none
  | k + 1, x1, x2, x7 => (wire_PutVec.f x7 (wrap64 (1 + (wrap64 (Int.tmod (IntKind.u64.wrap (x1)) 3))))).bind fun bt481 => (if (IntKind.u64.wrap ((bt481.1.size : Int))) = 0 then (none) else (if 0 ≤ (wrap64 (Int.tmod (IntKind.u64.wrap (x2)) (IntKind.u64.wrap ((bt481.1.size : Int))))) then (if (wrap64 (Int.tmod (IntKind.u64.wrap (x2)) (IntKind.u64.wrap ((bt481.1.size : Int))))) ≤ (bt481.1.size : Int) then ((wire_Vec.f k (bt481.1.extract 0 ((wrap64 (Int.tmod (IntKind.u64.wrap (x2)) (IntKind.u64.wrap ((bt481.1.size : Int))))) : Int).toNat) 0 (wrap64 (1 + (wrap64 (Int.tmod (IntKind.u64.wrap (x1)) 3))))).bind fun bt483 => (if 1 + bt481.1.size ≤ 9223372036854775807 then (if ((⟨#[122]⟩ : ByteArray) ++ bt481.1).size + 1 ≤ 9223372036854775807 then ((wire_Vec.f k (((⟨#[122]⟩ : ByteArray) ++ bt481.1) ++ (⟨#[122]⟩ : ByteArray)) 1 (wrap64 (1 + (wrap64 (Int.tmod (IntKind.u64.wrap (x1)) 3))))).bind fun bt486 => ((wire_U16.f k bt481.1 (wrap64 ((bt481.1.size : Int) - 1))).bind fun bt489 => ((wire_U32.f k bt481.1 (-1)).bind fun bt492 => ((halberdlaw0_Num.f bt481.2).bind fun t495 => (if t495 = 0 then ((halberdlaw0_Num.f bt483.2.2).bind fun t496 => (if t496 = 100 then (if bt486.1.toList = x7.toList then (if bt486.2.1 = (wrap64 ((bt481.1.size : Int) + 1)) then ((halberdlaw0_Num.f bt486.2.2).bind fun t497 => (if t497 = 0 then ((halberdlaw0_Num.f bt489.2.2).bind fun t498 => (if t498 = 100 then ((halberdlaw0_Num.f bt492.2.2).bind fun t499 => (some (t499 == 100))) else (some false))) else (some false))) else (some false)) else (some false)) else (some false))) else (some false)))))) else (none)) else (none))) else (none)) else (none)))
def halberdlaw1_WireCuts.f (k : Nat) (a0 : ByteArray) (a1 : Int) (a2 : Int) : Option (Bool) := (halberdlaw1_awake.f).bind fun t480 => (if t480 = true then (if (a0.size : Int) > 200 then (if 0 ≤ 200 then (if 200 ≤ (a0.size : Int) then (halberdlaw1_WireCuts.j0 k a1 a2 (a0.extract 0 200)) else (none)) else (none)) else (halberdlaw1_WireCuts.j0 k a1 a2 a0)) else (some false))
theorem halberdlaw1_WireCuts.mono_l : ∀ k, (∀ y0 y1 y2, LeO (halberdlaw1_WireCuts.j0 k y0 y1 y2) (halberdlaw1_WireCuts.j0 (k + 1) y0 y1 y2))
  | 0 => fun _ _ _ r h => by simp [halberdlaw1_WireCuts.j0] at h
  | k + 1 => by
    have ih0 := halberdlaw1_WireCuts.mono_l k
    · intro y0 y1 y2
      unfold halberdlaw1_WireCuts.j0
      repeat' first
      | (with_reducible exact ih0 _ _ _)
      | (with_reducible exact wire_U16.mono _ _ _)
      | (with_reducible exact wire_U32.mono _ _ _)
      | (with_reducible exact wire_Vec.mono _ _ _ _)
      | (with_reducible exact LeO.refl _)
      | (with_reducible exact LeO.none _)
      | (with_reducible refine LeO.ite ?_ ?_)
      | (with_reducible refine LeO.bind ?_ (fun _ => ?_))
      | exact ih0 _ _ _
      | exact wire_U16.mono _ _ _
      | exact wire_U32.mono _ _ _
      | exact wire_Vec.mono _ _ _ _
      | exact LeO.none _
      | refine LeO.ite ?_ ?_
      | refine LeO.bind ?_ (fun _ => ?_)
theorem halberdlaw1_WireCuts.mono : ∀ a0 a1 a2 k, LeO (halberdlaw1_WireCuts.f k a0 a1 a2) (halberdlaw1_WireCuts.f (k + 1) a0 a1 a2) := by
  intro a0 a1 a2 k
  have ih0 := halberdlaw1_WireCuts.mono_l k
  unfold halberdlaw1_WireCuts.f
  repeat' first
      | (with_reducible exact ih0 _ _ _)
      | (with_reducible exact wire_U16.mono _ _ _)
      | (with_reducible exact wire_U32.mono _ _ _)
      | (with_reducible exact wire_Vec.mono _ _ _ _)
      | (with_reducible exact LeO.refl _)
      | (with_reducible exact LeO.none _)
      | (with_reducible refine LeO.ite ?_ ?_)
      | (with_reducible refine LeO.bind ?_ (fun _ => ?_))
      | exact ih0 _ _ _
      | exact wire_U16.mono _ _ _
      | exact wire_U32.mono _ _ _
      | exact wire_Vec.mono _ _ _ _
      | exact LeO.none _
      | refine LeO.ite ?_ ?_
      | refine LeO.bind ?_ (fun _ => ?_)
set_option maxHeartbeats 8000000 in
set_option maxRecDepth 100000 in
theorem halberdlaw1_WireCuts.calls (k : Nat) (a0 : ByteArray) (a1 : Int) (a2 : Int) (r : Bool) (w : World) (h : halberdlaw1_WireCuts.f k a0 a1 a2 = some r) (hr : Aside0 (r = true)) :
    Calls Try.prog 9 #[.string a0, .int .i64 a1, .int .i64 a2] w fun e w' => e = .returned (.bool r) ∧ Below w.heap.size w w' := by
  have HB := Aside0.mk (Below.refl w.heap.size w)
  have H : ((halberdlaw1_awake.f).bind fun t480 => (if t480 = true then (if (a0.size : Int) > 200 then (if 0 ≤ 200 then (if 200 ≤ (a0.size : Int) then (halberdlaw1_WireCuts.j0 k a1 a2 (a0.extract 0 200)) else (none)) else (none)) else (halberdlaw1_WireCuts.j0 k a1 a2 a0)) else (some false))) = some r := h
  clear h
  replace H := Option.bind_eq_some_iff.mp H
  obtain ⟨t480, A40, H⟩ := H
  replace H : (if t480 = true then (if (a0.size : Int) > 200 then (if 0 ≤ 200 then (if 200 ≤ (a0.size : Int) then (halberdlaw1_WireCuts.j0 k a1 a2 (a0.extract 0 200)) else (none)) else (none)) else (halberdlaw1_WireCuts.j0 k a1 a2 a0)) else (some false)) = some r := H
  have A4 := Aside0.mk A40
  clear A40
  by_cases c5 : t480 = true
  · subst c5
    have H1 : (if (a0.size : Int) > 200 then (if 0 ≤ 200 then (if 200 ≤ (a0.size : Int) then (halberdlaw1_WireCuts.j0 k a1 a2 (a0.extract 0 200)) else (none)) else (none)) else (halberdlaw1_WireCuts.j0 k a1 a2 a0)) = some r := by rw [if_pos rfl] at H; exact H
    clear H
    have H := H1
    clear H1
    have HC6 := Aside0.mk H
    clear H
    go_enter Try.func9, Try.ntmps9
    go_upto_if 29 with (first | ((with_reducible refine gate_callee (f := 37) rfl ?_); refine goesL_ (some 24) rfl rfl Try.func37 (by kernel_rfl) rfl #[] rfl (by (try simp only [List.map_toArray, List.map_cons, List.map_nil]); first | done | rfl | (simp only [List.length_drop, List.length_take]; rfl)) ?_; (with_reducible refine (halberdlaw1_awake.calls  true _ A4.out).mono ?_); rintro e w7 ⟨rfl, hb⟩; refine ⟨_, rfl, ?_⟩; have n0_ := Aside0.mk (below_step (by repeat (first | (with_reducible first | exact HB.out | apply below_alloc | apply pw_below_drewN | apply below_drew1) | exact HB.out)) hb); clear HB; have HB := n0_; clear n0_; (try clear hb); (try clear hb2); (try clear hk); (try clear hi)))
    (try simp only [Act.put, List.setIfInBounds_toArray, List.set_cons_zero, List.set_cons_succ])
    go_cut [7] (fun v7 wc => ∃ (kq : Nat) (x7_5 : ByteArray), v7 = .string x7_5 ∧ Aside0 (halberdlaw1_WireCuts.j0 kq a1 a2 x7_5 = some r) ∧ Aside0 (kq ≤ k) ∧ Aside0 (Below w.heap.size w wc))
    case first =>
      have H := HC6.out
      clear HC6
      by_cases c8 : (a0.size : Int) > 200
      · rw [if_pos c8] at H
        have c8b0 : decide (200 < (a0.size : Int)) = true := decide_eq_true c8
        have c8b1 : decide (200 < a0.size) = true := decide_eq_true (by omega)
        clear c8
        (first | rw [c8b0] | (simp only [i64_w, i32_w]; rw [c8b0]) | skip)
        by_cases c9 : 0 ≤ 200
        · rw [if_pos c9] at H
          have c9b0 := eq_true c9
          have c9b1 : decide (0 ≤ 200) = true := decide_eq_true c9
          clear c9
          by_cases c10 : 200 ≤ (a0.size : Int)
          · rw [if_pos c10] at H
            have c10b0 := eq_true c10
            have c10b1 : decide (200 ≤ (a0.size : Int)) = true := decide_eq_true c10
            clear c10
            have H' := Aside0.mk H
            clear H
            go_wp2
            go_meet
            case rel => exact ⟨_, (a0.extract 0 200), (by first | rfl | (simp; done) | (simp [*]; done)), H', ⟨by first | omega | exact Nat.le_refl _⟩, ⟨by repeat (first | (with_reducible first | exact HB.out | apply below_alloc | apply pw_below_drewN | apply below_drew1) | exact HB.out)⟩⟩
          · rw [if_neg c10] at H
            exact absurd H (by simp)
        · rw [if_neg c9] at H
          exact absurd H (by simp)
      · rw [if_neg c8] at H
        have c8b0 : decide (200 < (a0.size : Int)) = false := decide_eq_false c8
        have c8b1 : decide (200 < a0.size) = false := decide_eq_false (by omega)
        clear c8
        (first | rw [c8b0] | (simp only [i64_w, i32_w]; rw [c8b0]) | skip)
        have H' := Aside0.mk H
        clear H
        go_wp2
        go_meet
        case rel => exact ⟨_, (a0), (by first | rfl | (simp; done) | (simp [*]; done)), H', ⟨by first | omega | exact Nat.le_refl _⟩, ⟨by repeat (first | (with_reducible first | exact HB.out | apply below_alloc | apply pw_below_drewN | apply below_drew1) | exact HB.out)⟩⟩
    case rest =>
      clear HC6
      try clear c1
      try clear p2
      try clear c3
      try clear c5
      try clear c8
      try clear c8b0
      try clear c8b1
      try clear c9
      try clear c9b0
      try clear c9b1
      try clear c10
      try clear c10b0
      try clear c10b1
      obtain ⟨kq, x7_5, rfl, HA, HJ5, HB⟩ := hcut
      cases kq with
      | zero => exact absurd HA.out (by simp [halberdlaw1_WireCuts.j0])
      | succ kj5 =>
        have H := HA.out
        clear HA
        simp only [halberdlaw1_WireCuts.j0] at H
        replace H := Option.bind_eq_some_iff.mp H
        obtain ⟨⟨t481, t482⟩, A110, H⟩ := H
        replace H : (if (IntKind.u64.wrap ((t481.size : Int))) = 0 then (none) else (if 0 ≤ (wrap64 (Int.tmod (IntKind.u64.wrap (a2)) (IntKind.u64.wrap ((t481.size : Int))))) then (if (wrap64 (Int.tmod (IntKind.u64.wrap (a2)) (IntKind.u64.wrap ((t481.size : Int))))) ≤ (t481.size : Int) then ((wire_Vec.f kj5 (t481.extract 0 ((wrap64 (Int.tmod (IntKind.u64.wrap (a2)) (IntKind.u64.wrap ((t481.size : Int))))) : Int).toNat) 0 (wrap64 (1 + (wrap64 (Int.tmod (IntKind.u64.wrap (a1)) 3))))).bind fun bt483 => (if 1 + t481.size ≤ 9223372036854775807 then (if ((⟨#[122]⟩ : ByteArray) ++ t481).size + 1 ≤ 9223372036854775807 then ((wire_Vec.f kj5 (((⟨#[122]⟩ : ByteArray) ++ t481) ++ (⟨#[122]⟩ : ByteArray)) 1 (wrap64 (1 + (wrap64 (Int.tmod (IntKind.u64.wrap (a1)) 3))))).bind fun bt486 => ((wire_U16.f kj5 t481 (wrap64 ((t481.size : Int) - 1))).bind fun bt489 => ((wire_U32.f kj5 t481 (-1)).bind fun bt492 => ((halberdlaw0_Num.f t482).bind fun t495 => (if t495 = 0 then ((halberdlaw0_Num.f bt483.2.2).bind fun t496 => (if t496 = 100 then (if bt486.1.toList = x7_5.toList then (if bt486.2.1 = (wrap64 ((t481.size : Int) + 1)) then ((halberdlaw0_Num.f bt486.2.2).bind fun t497 => (if t497 = 0 then ((halberdlaw0_Num.f bt489.2.2).bind fun t498 => (if t498 = 100 then ((halberdlaw0_Num.f bt492.2.2).bind fun t499 => (some (t499 == 100))) else (some false))) else (some false))) else (some false)) else (some false)) else (some false))) else (some false)))))) else (none)) else (none))) else (none)) else (none))) = some r := H
        have A11 := Aside0.mk A110
        clear A110
        by_cases c12 : (IntKind.u64.wrap ((t481.size : Int))) = 0
        · rw [if_pos c12] at H
          exact absurd H (by simp)
        · rw [if_neg c12] at H
          have c12b0 : ((IntKind.u64.wrap ((t481.size : Int))) == 0) = false := beq_eq_false_iff_ne.mpr c12
          have c12b1 : ((IntKind.u64.wrap ((t481.size : Int))) != 0) = true := bne_iff_ne.mpr c12
          obtain ⟨ji13, hji13⟩ : ∃ j_ : Int, (wrap64 (Int.tmod (IntKind.u64.wrap (a2)) (IntKind.u64.wrap ((t481.size : Int))))) = j_ := ⟨_, rfl⟩
          replace H : (if 0 ≤ (ji13) then (if (ji13) ≤ (t481.size : Int) then ((wire_Vec.f kj5 (t481.extract 0 ((ji13) : Int).toNat) 0 (wrap64 (1 + (wrap64 (Int.tmod (IntKind.u64.wrap (a1)) 3))))).bind fun bt483 => (if 1 + t481.size ≤ 9223372036854775807 then (if ((⟨#[122]⟩ : ByteArray) ++ t481).size + 1 ≤ 9223372036854775807 then ((wire_Vec.f kj5 (((⟨#[122]⟩ : ByteArray) ++ t481) ++ (⟨#[122]⟩ : ByteArray)) 1 (wrap64 (1 + (wrap64 (Int.tmod (IntKind.u64.wrap (a1)) 3))))).bind fun bt486 => ((wire_U16.f kj5 t481 (wrap64 ((t481.size : Int) - 1))).bind fun bt489 => ((wire_U32.f kj5 t481 (-1)).bind fun bt492 => ((halberdlaw0_Num.f t482).bind fun t495 => (if t495 = 0 then ((halberdlaw0_Num.f bt483.2.2).bind fun t496 => (if t496 = 100 then (if bt486.1.toList = x7_5.toList then (if bt486.2.1 = (wrap64 ((t481.size : Int) + 1)) then ((halberdlaw0_Num.f bt486.2.2).bind fun t497 => (if t497 = 0 then ((halberdlaw0_Num.f bt489.2.2).bind fun t498 => (if t498 = 100 then ((halberdlaw0_Num.f bt492.2.2).bind fun t499 => (some (t499 == 100))) else (some false))) else (some false))) else (some false)) else (some false)) else (some false))) else (some false)))))) else (none)) else (none))) else (none)) else (none)) = some r := by first | (rw [hji13] at H; exact H) | (simp only [hji13] at H ⊢; exact H)
          (try rw [hji13] at A11)
          have hji13w : (IntKind.i64.wrap (Int.tmod (IntKind.u64.wrap (a2)) (IntKind.u64.wrap ((t481.size : Int))))) = ji13 := (i64_w _).trans hji13
          by_cases c14 : 0 ≤ (ji13)
          · rw [if_pos c14] at H
            have c14b0 := eq_true c14
            have c14b1 : decide (0 ≤ (ji13)) = true := decide_eq_true c14
            clear c14
            by_cases c15 : (ji13) ≤ (t481.size : Int)
            · rw [if_pos c15] at H
              have c15b0 := eq_true c15
              have c15b1 : decide ((ji13) ≤ (t481.size : Int)) = true := decide_eq_true c15
              clear c15
              replace H := Option.bind_eq_some_iff.mp H
              obtain ⟨⟨t483, t484, t485⟩, A160, H⟩ := H
              replace H : (if 1 + t481.size ≤ 9223372036854775807 then (if ((⟨#[122]⟩ : ByteArray) ++ t481).size + 1 ≤ 9223372036854775807 then ((wire_Vec.f kj5 (((⟨#[122]⟩ : ByteArray) ++ t481) ++ (⟨#[122]⟩ : ByteArray)) 1 (wrap64 (1 + (wrap64 (Int.tmod (IntKind.u64.wrap (a1)) 3))))).bind fun bt486 => ((wire_U16.f kj5 t481 (wrap64 ((t481.size : Int) - 1))).bind fun bt489 => ((wire_U32.f kj5 t481 (-1)).bind fun bt492 => ((halberdlaw0_Num.f t482).bind fun t495 => (if t495 = 0 then ((halberdlaw0_Num.f t485).bind fun t496 => (if t496 = 100 then (if bt486.1.toList = x7_5.toList then (if bt486.2.1 = (wrap64 ((t481.size : Int) + 1)) then ((halberdlaw0_Num.f bt486.2.2).bind fun t497 => (if t497 = 0 then ((halberdlaw0_Num.f bt489.2.2).bind fun t498 => (if t498 = 100 then ((halberdlaw0_Num.f bt492.2.2).bind fun t499 => (some (t499 == 100))) else (some false))) else (some false))) else (some false)) else (some false)) else (some false))) else (some false)))))) else (none)) else (none)) = some r := H
              have A16 := Aside0.mk A160
              clear A160
              by_cases c17 : 1 + t481.size ≤ 9223372036854775807
              · rw [if_pos c17] at H
                have c17b0 := eq_true c17
                have c17b1 : decide (1 + t481.size ≤ 9223372036854775807) = true := decide_eq_true c17
                try have c17b2 : (9223372036854775807 < 1 + t481.size) = False := eq_false (Nat.not_lt.2 c17)
                by_cases c18 : ((⟨#[122]⟩ : ByteArray) ++ t481).size + 1 ≤ 9223372036854775807
                · rw [if_pos c18] at H
                  have c18b0 := eq_true c18
                  have c18b1 : decide (((⟨#[122]⟩ : ByteArray) ++ t481).size + 1 ≤ 9223372036854775807) = true := decide_eq_true c18
                  try have c18b2 : (9223372036854775807 < ((⟨#[122]⟩ : ByteArray) ++ t481).size + 1) = False := eq_false (Nat.not_lt.2 c18)
                  replace H := Option.bind_eq_some_iff.mp H
                  obtain ⟨⟨t486, t487, t488⟩, A190, H⟩ := H
                  replace H : ((wire_U16.f kj5 t481 (wrap64 ((t481.size : Int) - 1))).bind fun bt489 => ((wire_U32.f kj5 t481 (-1)).bind fun bt492 => ((halberdlaw0_Num.f t482).bind fun t495 => (if t495 = 0 then ((halberdlaw0_Num.f t485).bind fun t496 => (if t496 = 100 then (if t486.toList = x7_5.toList then (if t487 = (wrap64 ((t481.size : Int) + 1)) then ((halberdlaw0_Num.f t488).bind fun t497 => (if t497 = 0 then ((halberdlaw0_Num.f bt489.2.2).bind fun t498 => (if t498 = 100 then ((halberdlaw0_Num.f bt492.2.2).bind fun t499 => (some (t499 == 100))) else (some false))) else (some false))) else (some false)) else (some false)) else (some false))) else (some false))))) = some r := H
                  have A19 := Aside0.mk A190
                  clear A190
                  replace H := Option.bind_eq_some_iff.mp H
                  obtain ⟨⟨t489, t490, t491⟩, A200, H⟩ := H
                  replace H : ((wire_U32.f kj5 t481 (-1)).bind fun bt492 => ((halberdlaw0_Num.f t482).bind fun t495 => (if t495 = 0 then ((halberdlaw0_Num.f t485).bind fun t496 => (if t496 = 100 then (if t486.toList = x7_5.toList then (if t487 = (wrap64 ((t481.size : Int) + 1)) then ((halberdlaw0_Num.f t488).bind fun t497 => (if t497 = 0 then ((halberdlaw0_Num.f t491).bind fun t498 => (if t498 = 100 then ((halberdlaw0_Num.f bt492.2.2).bind fun t499 => (some (t499 == 100))) else (some false))) else (some false))) else (some false)) else (some false)) else (some false))) else (some false)))) = some r := H
                  have A20 := Aside0.mk A200
                  clear A200
                  replace H := Option.bind_eq_some_iff.mp H
                  obtain ⟨⟨t492, t493, t494⟩, A210, H⟩ := H
                  replace H : ((halberdlaw0_Num.f t482).bind fun t495 => (if t495 = 0 then ((halberdlaw0_Num.f t485).bind fun t496 => (if t496 = 100 then (if t486.toList = x7_5.toList then (if t487 = (wrap64 ((t481.size : Int) + 1)) then ((halberdlaw0_Num.f t488).bind fun t497 => (if t497 = 0 then ((halberdlaw0_Num.f t491).bind fun t498 => (if t498 = 100 then ((halberdlaw0_Num.f t494).bind fun t499 => (some (t499 == 100))) else (some false))) else (some false))) else (some false)) else (some false)) else (some false))) else (some false))) = some r := H
                  have A21 := Aside0.mk A210
                  clear A210
                  replace H := Option.bind_eq_some_iff.mp H
                  obtain ⟨t495, A220, H⟩ := H
                  replace H : (if t495 = 0 then ((halberdlaw0_Num.f t485).bind fun t496 => (if t496 = 100 then (if t486.toList = x7_5.toList then (if t487 = (wrap64 ((t481.size : Int) + 1)) then ((halberdlaw0_Num.f t488).bind fun t497 => (if t497 = 0 then ((halberdlaw0_Num.f t491).bind fun t498 => (if t498 = 100 then ((halberdlaw0_Num.f t494).bind fun t499 => (some (t499 == 100))) else (some false))) else (some false))) else (some false)) else (some false)) else (some false))) else (some false)) = some r := H
                  have A22 := Aside0.mk A220
                  clear A220
                  by_cases c23 : t495 = 0
                  · rw [if_pos c23] at H
                    have c23b0 : (t495 == 0) = true := beq_iff_eq.mpr c23
                    have c23b1 : (t495 != 0) = false := bne_eq_false_iff_eq.mpr c23
                    clear c23
                    replace H := Option.bind_eq_some_iff.mp H
                    obtain ⟨t496, A240, H⟩ := H
                    replace H : (if t496 = 100 then (if t486.toList = x7_5.toList then (if t487 = (wrap64 ((t481.size : Int) + 1)) then ((halberdlaw0_Num.f t488).bind fun t497 => (if t497 = 0 then ((halberdlaw0_Num.f t491).bind fun t498 => (if t498 = 100 then ((halberdlaw0_Num.f t494).bind fun t499 => (some (t499 == 100))) else (some false))) else (some false))) else (some false)) else (some false)) else (some false)) = some r := H
                    have A24 := Aside0.mk A240
                    clear A240
                    by_cases c25 : t496 = 100
                    · rw [if_pos c25] at H
                      have c25b0 : (t496 == 100) = true := beq_iff_eq.mpr c25
                      have c25b1 : (t496 != 100) = false := bne_eq_false_iff_eq.mpr c25
                      clear c25
                      by_cases c26 : t486.toList = x7_5.toList
                      · rw [if_pos c26] at H
                        have c26b0 : (t486.toList == x7_5.toList) = true := beq_iff_eq.mpr c26
                        have c26b1 : (t486.toList != x7_5.toList) = false := bne_eq_false_iff_eq.mpr c26
                        clear c26
                        by_cases c27 : t487 = (wrap64 ((t481.size : Int) + 1))
                        · rw [if_pos c27] at H
                          have c27b0 : (t487 == (wrap64 ((t481.size : Int) + 1))) = true := beq_iff_eq.mpr c27
                          have c27b1 : (t487 != (wrap64 ((t481.size : Int) + 1))) = false := bne_eq_false_iff_eq.mpr c27
                          clear c27
                          replace H := Option.bind_eq_some_iff.mp H
                          obtain ⟨t497, A280, H⟩ := H
                          replace H : (if t497 = 0 then ((halberdlaw0_Num.f t491).bind fun t498 => (if t498 = 100 then ((halberdlaw0_Num.f t494).bind fun t499 => (some (t499 == 100))) else (some false))) else (some false)) = some r := H
                          have A28 := Aside0.mk A280
                          clear A280
                          by_cases c29 : t497 = 0
                          · rw [if_pos c29] at H
                            have c29b0 : (t497 == 0) = true := beq_iff_eq.mpr c29
                            have c29b1 : (t497 != 0) = false := bne_eq_false_iff_eq.mpr c29
                            clear c29
                            replace H := Option.bind_eq_some_iff.mp H
                            obtain ⟨t498, A300, H⟩ := H
                            replace H : (if t498 = 100 then ((halberdlaw0_Num.f t494).bind fun t499 => (some (t499 == 100))) else (some false)) = some r := H
                            have A30 := Aside0.mk A300
                            clear A300
                            by_cases c31 : t498 = 100
                            · rw [if_pos c31] at H
                              have c31b0 : (t498 == 100) = true := beq_iff_eq.mpr c31
                              have c31b1 : (t498 != 100) = false := bne_eq_false_iff_eq.mpr c31
                              clear c31
                              replace H := Option.bind_eq_some_iff.mp H
                              obtain ⟨t499, A320, H⟩ := H
                              replace H : (some (t499 == 100)) = some r := H
                              have A32 := Aside0.mk A320
                              clear A320
                              have hsz : IntKind.u64.wrap (t481.size : Int) = (t481.size : Int) := by simp [IntKind.wrap, IntKind.bits, IntKind.signed]; omega
                              rw [hsz] at hji13 hji13w c12 c12b0 c12b1
                              have hne : ¬ (t481 = ByteArray.empty) := fun h_ => c12 (by rw [h_]; rfl)
                              have hsu : wrap64 ((t481.size : Int) - 1) = (t481.size : Int) - 1 := by unfold wrap64; omega
                              rw [hsu] at A20
                              have hzz : ¬ (9223372036854775807 < 1 + t481.size + 1) := by have h_ := c18; have e_ := ByteArray.size_append (a := (⟨#[122]⟩ : ByteArray)) (b := t481); have e1_ : (⟨#[122]⟩ : ByteArray).size = 1 := rfl; omega
                              have hsv : wrap64 ((t481.size : Int) + 1) = (t481.size : Int) + 1 := by unfold wrap64; omega
                              rw [hsv] at c27b0 c27b1
                              clear hsz hsu hsv
                              obtain rfl := Option.some.inj H
                              go_wp2_with (first | ((with_reducible refine gate_callee (f := 35) rfl ?_); refine goesL_ (some 40) rfl rfl Try.func35 (by kernel_rfl) rfl #[.string x7_5, .int .i64 (wrap64 (1 + (wrap64 (Int.tmod (IntKind.u64.wrap (a1)) 3))))] rfl (by (try simp only [List.map_toArray, List.map_cons, List.map_nil]); first | done | rfl | (simp only [List.length_drop, List.length_take]; rfl)) ?_; (with_reducible refine (wire_PutVec.calls x7_5 (wrap64 (1 + (wrap64 (Int.tmod (IntKind.u64.wrap (a1)) 3)))) t481 t482 _ A11.out).mono ?_); rintro e w33 ⟨rfl, hb⟩; refine ⟨_, rfl, ?_⟩; have n0_ := Aside0.mk (below_step (by repeat (first | (with_reducible first | exact HB.out | apply below_alloc | apply pw_below_drewN | apply below_drew1) | exact HB.out)) hb); clear HB; have HB := n0_; clear n0_; (try clear hb); (try clear hb2); (try clear hk); (try clear hi)) | ((with_reducible refine gate_callee (f := 38) rfl ?_); refine goesL_ (some 55) rfl rfl Try.func38 (by kernel_rfl) rfl #[.string (t481.extract 0 ((ji13) : Int).toNat), .int .i64 0, .int .i64 (wrap64 (1 + (wrap64 (Int.tmod (IntKind.u64.wrap (a1)) 3))))] rfl (by (try simp only [List.map_toArray, List.map_cons, List.map_nil]); first | done | (simp only [hji13]; rfl) | rfl | (simp only [List.length_drop, List.length_take]; rfl)) ?_; (with_reducible refine (wire_Vec.calls kj5 (t481.extract 0 ((ji13) : Int).toNat) 0 (wrap64 (1 + (wrap64 (Int.tmod (IntKind.u64.wrap (a1)) 3)))) t483 t484 t485 _ A16.out).mono ?_); rintro e w' ⟨rfl, ⟨nd, rfl⟩⟩; refine ⟨_, rfl, ?_⟩) | ((with_reducible refine gate_callee (f := 38) rfl ?_); refine goesL_ (some 64) rfl rfl Try.func38 (by kernel_rfl) rfl #[.string (((⟨#[122]⟩ : ByteArray) ++ t481) ++ (⟨#[122]⟩ : ByteArray)), .int .i64 1, .int .i64 (wrap64 (1 + (wrap64 (Int.tmod (IntKind.u64.wrap (a1)) 3))))] rfl (by (try simp only [List.map_toArray, List.map_cons, List.map_nil]); first | done | rfl | (simp only [List.length_drop, List.length_take]; rfl)) ?_; (with_reducible refine (wire_Vec.calls kj5 (((⟨#[122]⟩ : ByteArray) ++ t481) ++ (⟨#[122]⟩ : ByteArray)) 1 (wrap64 (1 + (wrap64 (Int.tmod (IntKind.u64.wrap (a1)) 3)))) t486 t487 t488 _ A19.out).mono ?_); rintro e w' ⟨rfl, ⟨nd, rfl⟩⟩; refine ⟨_, rfl, ?_⟩) | ((with_reducible refine gate_callee (f := 39) rfl ?_); refine goesL_ (some 73) rfl rfl Try.func39 (by kernel_rfl) rfl #[.string t481, .int .i64 ((t481.size : Int) - 1)] rfl (by (try simp only [List.map_toArray, List.map_cons, List.map_nil]); first | done | rfl | (simp only [List.length_drop, List.length_take]; rfl)) ?_; (with_reducible refine (wire_U16.calls kj5 t481 ((t481.size : Int) - 1) t489 t490 t491 _ A20.out).mono ?_); rintro e w' ⟨rfl, ⟨nd, rfl⟩⟩; refine ⟨_, rfl, ?_⟩) | ((with_reducible refine gate_callee (f := 40) rfl ?_); refine goesL_ (some 79) rfl rfl Try.func40 (by kernel_rfl) rfl #[.string t481, .int .i64 (-1)] rfl (by (try simp only [List.map_toArray, List.map_cons, List.map_nil]); first | done | rfl | (simp only [List.length_drop, List.length_take]; rfl)) ?_; (with_reducible refine (wire_U32.calls kj5 t481 (-1) t492 t493 t494 _ A21.out).mono ?_); rintro e w' ⟨rfl, ⟨nd, rfl⟩⟩; refine ⟨_, rfl, ?_⟩) | ((with_reducible refine gate_callee (f := 28) rfl ?_); refine goesL_ (some 84) rfl rfl Try.func28 (by kernel_rfl) rfl #[.int .i64 t482] rfl (by (try simp only [List.map_toArray, List.map_cons, List.map_nil]); first | done | rfl | (simp only [List.length_drop, List.length_take]; rfl)) ?_; (with_reducible refine (halberdlaw0_Num.calls t482 t495 _ A22.out).mono ?_); rintro e w' ⟨rfl, ⟨nd, rfl⟩⟩; refine ⟨_, rfl, ?_⟩) | (go_at_call 28; (with_reducible refine (halberdlaw0_Num.calls t485 t496 _ A24.out).mono ?_); rintro e w' ⟨rfl, ⟨nd, rfl⟩⟩) | (go_at_call 28; (with_reducible refine (halberdlaw0_Num.calls t488 t497 _ A28.out).mono ?_); rintro e w' ⟨rfl, ⟨nd, rfl⟩⟩) | (go_at_call 28; (with_reducible refine (halberdlaw0_Num.calls t491 t498 _ A30.out).mono ?_); rintro e w' ⟨rfl, ⟨nd, rfl⟩⟩) | (go_at_call 28; (with_reducible refine (halberdlaw0_Num.calls t494 t499 _ A32.out).mono ?_); rintro e w' ⟨rfl, ⟨nd, rfl⟩⟩))
                              go_ret
                              exact ⟨by first | rfl | (simp [errW_none, errW_some] <;> rfl) | (simp only [← hji13]; first | rfl | (simp [errW_none, errW_some] <;> rfl)) | (simp [*, errW_none, errW_some] <;> rfl), by repeat (first | (with_reducible first | exact HB.out | apply below_alloc | apply pw_below_drewN | apply below_drew1) | exact HB.out)⟩
                            · rw [if_neg c31] at H
                              have c31b0 : (t498 == 100) = false := beq_eq_false_iff_ne.mpr c31
                              have c31b1 : (t498 != 100) = true := bne_iff_ne.mpr c31
                              exact absurd ((Option.some.inj H).trans hr.out) (by decide)
                          · rw [if_neg c29] at H
                            have c29b0 : (t497 == 0) = false := beq_eq_false_iff_ne.mpr c29
                            have c29b1 : (t497 != 0) = true := bne_iff_ne.mpr c29
                            exact absurd ((Option.some.inj H).trans hr.out) (by decide)
                        · rw [if_neg c27] at H
                          have c27b0 : (t487 == (wrap64 ((t481.size : Int) + 1))) = false := beq_eq_false_iff_ne.mpr c27
                          have c27b1 : (t487 != (wrap64 ((t481.size : Int) + 1))) = true := bne_iff_ne.mpr c27
                          exact absurd ((Option.some.inj H).trans hr.out) (by decide)
                      · rw [if_neg c26] at H
                        have c26b0 : (t486.toList == x7_5.toList) = false := beq_eq_false_iff_ne.mpr c26
                        have c26b1 : (t486.toList != x7_5.toList) = true := bne_iff_ne.mpr c26
                        exact absurd ((Option.some.inj H).trans hr.out) (by decide)
                    · rw [if_neg c25] at H
                      have c25b0 : (t496 == 100) = false := beq_eq_false_iff_ne.mpr c25
                      have c25b1 : (t496 != 100) = true := bne_iff_ne.mpr c25
                      exact absurd ((Option.some.inj H).trans hr.out) (by decide)
                  · rw [if_neg c23] at H
                    have c23b0 : (t495 == 0) = false := beq_eq_false_iff_ne.mpr c23
                    have c23b1 : (t495 != 0) = true := bne_iff_ne.mpr c23
                    exact absurd ((Option.some.inj H).trans hr.out) (by decide)
                · rw [if_neg c18] at H
                  exact absurd H (by simp)
              · rw [if_neg c17] at H
                exact absurd H (by simp)
            · rw [if_neg c15] at H
              exact absurd H (by simp)
          · rw [if_neg c14] at H
            exact absurd H (by simp)
  · replace c5 := Bool.eq_false_iff.mpr c5
    subst c5
    have H1 : (some false) = some r := by rw [if_neg (show ¬ (false = true) by decide)] at H; exact H
    clear H
    have H := H1
    clear H1
    exact absurd ((Option.some.inj H).trans hr.out) (by decide)

/-- THE ONE PURE STATEMENT of halberdlaw1_WireCuts: yours. -/
def halberdlaw1_WireCuts.Pure : Prop := ∀ (a0 : ByteArray) (a1 : Int) (a2 : Int), a0.size ≤ 140737488351232 → (Lit.int .i64 a1).wf = true → (Lit.int .i64 a2).wf = true → ∃ k, halberdlaw1_WireCuts.f k a0 a1 a2 = some true
theorem halberdlaw1_WireCuts.walk (P : halberdlaw1_WireCuts.Pure) (a0 : ByteArray) (a1 : Int) (a2 : Int) (w : World) (w0 : a0.size ≤ 140737488351232) (w1 : (Lit.int .i64 a1).wf = true) (w2 : (Lit.int .i64 a2).wf = true) :
    Calls Try.prog 9 #[.string a0, .int .i64 a1, .int .i64 a2] w fun e w' => e = .returned (.bool true) ∧ Below w.heap.size w w' := by
  obtain ⟨k, h⟩ := P a0 a1 a2 w0 w1 w2
  refine (halberdlaw1_WireCuts.calls k a0 a1 a2 true w h ⟨rfl⟩).mono ?_
  rintro e w' ⟨rfl, hd⟩
  exact ⟨rfl, hd⟩

/-! ### wire_U8: function 41 -/
def wire_U8.f (k : Nat) (a0 : ByteArray) (a1 : Int) : Option (Int × Int × Int) := (wire_number.f k a0 a1 1).bind fun bt500 => (some (bt500.1, bt500.2.1, bt500.2.2))
theorem wire_U8.mono : ∀ a0 a1 k, LeO (wire_U8.f k a0 a1) (wire_U8.f (k + 1) a0 a1) := by
  intro a0 a1 k
  unfold wire_U8.f
  repeat' first
      | (with_reducible exact wire_number.mono _ _ _ _)
      | (with_reducible exact LeO.refl _)
      | (with_reducible exact LeO.none _)
      | (with_reducible refine LeO.ite ?_ ?_)
      | (with_reducible refine LeO.bind ?_ (fun _ => ?_))
      | exact wire_number.mono _ _ _ _
      | exact LeO.none _
      | refine LeO.ite ?_ ?_
      | refine LeO.bind ?_ (fun _ => ?_)
set_option maxHeartbeats 8000000 in
set_option maxRecDepth 100000 in
theorem wire_U8.calls (k : Nat) (a0 : ByteArray) (a1 : Int) (r1 : Int) (r2 : Int) (r3 : Int) (w : World) (h : wire_U8.f k a0 a1 = some (r1, r2, r3)) :
    Calls Try.prog 41 #[.string a0, .int .i64 a1] w fun e w' => e = .returned (.tuple #[.int .i64 r1, .int .i64 r2, .int .i64 r3]) ∧ Drawn0 w w' := by
  have H : ((wire_number.f k a0 a1 1).bind fun bt500 => (some (bt500.1, bt500.2.1, bt500.2.2))) = some (r1, r2, r3) := h
  clear h
  replace H := Option.bind_eq_some_iff.mp H
  obtain ⟨⟨t500, t501, t502⟩, A30, H⟩ := H
  replace H : (some (t500, t501, t502)) = some (r1, r2, r3) := H
  have A3 := Aside0.mk A30
  clear A30
  simp only [Option.some.injEq, Prod.mk.injEq] at H
  obtain ⟨rfl, rfl, rfl⟩ := H
  go_enter Try.func41, Try.ntmps41
  go_wp2_with (first | ((with_reducible refine gate_callee (f := 48) rfl ?_); refine goesL_ (some 9) rfl rfl Try.func48 (by kernel_rfl) rfl #[.string a0, .int .i64 a1, .int .i64 1] rfl (by (try simp only [List.map_toArray, List.map_cons, List.map_nil]); first | done | rfl | (simp only [List.length_drop, List.length_take]; rfl)) ?_; (with_reducible refine (wire_number.calls k a0 a1 1 t500 t501 t502 _ A3.out).mono ?_); rintro e w' ⟨rfl, ⟨nd, rfl⟩⟩; refine ⟨_, rfl, ?_⟩))
  go_ret3
  exact ⟨by first | rfl | (simp; done) | (simp [*]; done), by repeat (first | exact Drawn0.refl _ | apply Drawn0.step)⟩

/-! ### halberdref1_Vec: function 44 -/
def halberdref1_Vec.j0 : Nat → ByteArray → Int → Int → Bool → Option (ByteArray × Int × Int)
  | 0, _, _, _, _ => none
  | k + 1, x0, x1, x2, x17 => if x17 = true then (some ((⟨#[]⟩ : ByteArray), 0, 101)) else ((halberdref1_Num.f k x0 x1 x2).bind fun bt503 => (if bt503.2.2 = 0 then (if bt503.1 > (wrap64 ((x0.size : Int) - bt503.2.1)) then (some ((⟨#[]⟩ : ByteArray), 0, 100)) else (if 0 ≤ bt503.2.1 then (if bt503.2.1 ≤ (wrap64 (bt503.2.1 + bt503.1)) then (if (wrap64 (bt503.2.1 + bt503.1)) ≤ (x0.size : Int) then (some (x0.extract (bt503.2.1 : Int).toNat ((wrap64 (bt503.2.1 + bt503.1)) : Int).toNat, wrap64 (bt503.2.1 + bt503.1), 0)) else (none)) else (none)) else (none))) else (some ((⟨#[]⟩ : ByteArray), 0, 100))))
def halberdref1_Vec.f (k : Nat) (a0 : ByteArray) (a1 : Int) (a2 : Int) : Option (ByteArray × Int × Int) := if a2 < 1 then (halberdref1_Vec.j0 k a0 a1 a2 true) else (halberdref1_Vec.j0 k a0 a1 a2 (decide (a2 > 3)))
theorem halberdref1_Vec.mono_l : ∀ k, (∀ y0 y1 y2 y3, LeO (halberdref1_Vec.j0 k y0 y1 y2 y3) (halberdref1_Vec.j0 (k + 1) y0 y1 y2 y3))
  | 0 => fun _ _ _ _ r h => by simp [halberdref1_Vec.j0] at h
  | k + 1 => by
    have ih0 := halberdref1_Vec.mono_l k
    · intro y0 y1 y2 y3
      unfold halberdref1_Vec.j0
      repeat' first
      | (with_reducible exact ih0 _ _ _ _)
      | (with_reducible exact halberdref1_Num.mono _ _ _ _)
      | (with_reducible exact LeO.refl _)
      | (with_reducible exact LeO.none _)
      | (with_reducible refine LeO.ite ?_ ?_)
      | (with_reducible refine LeO.bind ?_ (fun _ => ?_))
      | exact ih0 _ _ _ _
      | exact halberdref1_Num.mono _ _ _ _
      | exact LeO.none _
      | refine LeO.ite ?_ ?_
      | refine LeO.bind ?_ (fun _ => ?_)
theorem halberdref1_Vec.mono : ∀ a0 a1 a2 k, LeO (halberdref1_Vec.f k a0 a1 a2) (halberdref1_Vec.f (k + 1) a0 a1 a2) := by
  intro a0 a1 a2 k
  have ih0 := halberdref1_Vec.mono_l k
  unfold halberdref1_Vec.f
  repeat' first
      | (with_reducible exact ih0 _ _ _ _)
      | (with_reducible exact halberdref1_Num.mono _ _ _ _)
      | (with_reducible exact LeO.refl _)
      | (with_reducible exact LeO.none _)
      | (with_reducible refine LeO.ite ?_ ?_)
      | (with_reducible refine LeO.bind ?_ (fun _ => ?_))
      | exact ih0 _ _ _ _
      | exact halberdref1_Num.mono _ _ _ _
      | exact LeO.none _
      | refine LeO.ite ?_ ?_
      | refine LeO.bind ?_ (fun _ => ?_)
set_option maxHeartbeats 8000000 in
set_option maxRecDepth 100000 in
theorem halberdref1_Vec.calls (k : Nat) (a0 : ByteArray) (a1 : Int) (a2 : Int) (r1 : ByteArray) (r2 : Int) (r3 : Int) (w : World) (h : halberdref1_Vec.f k a0 a1 a2 = some (r1, r2, r3)) :
    Calls Try.prog 44 #[.string a0, .int .i64 a1, .int .i64 a2] w fun e w' => e = .returned (.tuple #[.string r1, .int .i64 r2, .int .i64 r3]) ∧ Drawn0 w w' := by
  have H : (if a2 < 1 then (halberdref1_Vec.j0 k a0 a1 a2 true) else (halberdref1_Vec.j0 k a0 a1 a2 (decide (a2 > 3)))) = some (r1, r2, r3) := h
  clear h
  have HC4 := Aside0.mk H
  clear H
  go_enter Try.func44, Try.ntmps44
  go_upto_region 1 with (fail)
  go_cut [17] (fun v17 wc => ∃ (kq : Nat) (x17_3 : Bool), v17 = .bool x17_3 ∧ Aside0 (halberdref1_Vec.j0 kq a0 a1 a2 x17_3 = some (r1, r2, r3)) ∧ Aside0 (kq ≤ k) ∧ Drawn0 w wc)
  case first =>
    have H := HC4.out
    clear HC4
    by_cases c5 : a2 < 1
    · rw [if_pos c5] at H
      have c5b0 : decide (a2 < 1) = true := decide_eq_true c5
      clear c5
      (first | rw [c5b0] | (simp only [i64_w, i32_w]; rw [c5b0]) | skip)
      have H' := Aside0.mk H
      clear H
      go_wp2
      go_meet
      case rel => exact ⟨_, (true), (by first | rfl | (simp; done) | (simp [*]; done)), H', ⟨by first | omega | exact Nat.le_refl _⟩, by repeat (first | exact Drawn0.refl _ | apply Drawn0.step)⟩
    · rw [if_neg c5] at H
      have c5b0 : decide (a2 < 1) = false := decide_eq_false c5
      clear c5
      (first | rw [c5b0] | (simp only [i64_w, i32_w]; rw [c5b0]) | skip)
      have H' := Aside0.mk H
      clear H
      go_wp2
      go_meet
      case rel => exact ⟨_, (decide (a2 > 3)), (by first | rfl | (simp; done) | (simp [*]; done)), H', ⟨by first | omega | exact Nat.le_refl _⟩, by repeat (first | exact Drawn0.refl _ | apply Drawn0.step)⟩
  case rest =>
    clear HC4
    try clear p2
    try clear c4
    try clear c5
    try clear c5b0
    obtain ⟨kq, x17_3, rfl, HA, HJ3, ⟨mc3, rfl⟩⟩ := hcut
    cases kq with
    | zero => exact absurd HA.out (by simp [halberdref1_Vec.j0])
    | succ kj3 =>
      have H := HA.out
      clear HA
      simp only [halberdref1_Vec.j0] at H
      by_cases c6 : x17_3 = true
      · subst c6
        have H1 : (some ((⟨#[]⟩ : ByteArray), 0, 101)) = some (r1, r2, r3) := by rw [if_pos rfl] at H; exact H
        clear H
        have H := H1
        clear H1
        simp only [Option.some.injEq, Prod.mk.injEq] at H
        obtain ⟨rfl, rfl, rfl⟩ := H
        go_wp2
        go_ret3
        exact ⟨by first | rfl | (simp; done) | (simp [*]; done), by repeat (first | exact Drawn0.refl _ | apply Drawn0.step)⟩
      · replace c6 := Bool.eq_false_iff.mpr c6
        subst c6
        have H1 : ((halberdref1_Num.f kj3 a0 a1 a2).bind fun bt503 => (if bt503.2.2 = 0 then (if bt503.1 > (wrap64 ((a0.size : Int) - bt503.2.1)) then (some ((⟨#[]⟩ : ByteArray), 0, 100)) else (if 0 ≤ bt503.2.1 then (if bt503.2.1 ≤ (wrap64 (bt503.2.1 + bt503.1)) then (if (wrap64 (bt503.2.1 + bt503.1)) ≤ (a0.size : Int) then (some (a0.extract (bt503.2.1 : Int).toNat ((wrap64 (bt503.2.1 + bt503.1)) : Int).toNat, wrap64 (bt503.2.1 + bt503.1), 0)) else (none)) else (none)) else (none))) else (some ((⟨#[]⟩ : ByteArray), 0, 100)))) = some (r1, r2, r3) := by rw [if_neg (show ¬ (false = true) by decide)] at H; exact H
        clear H
        have H := H1
        clear H1
        replace H := Option.bind_eq_some_iff.mp H
        obtain ⟨⟨t503, t504, t505⟩, A70, H⟩ := H
        replace H : (if t505 = 0 then (if t503 > (wrap64 ((a0.size : Int) - t504)) then (some ((⟨#[]⟩ : ByteArray), 0, 100)) else (if 0 ≤ t504 then (if t504 ≤ (wrap64 (t504 + t503)) then (if (wrap64 (t504 + t503)) ≤ (a0.size : Int) then (some (a0.extract (t504 : Int).toNat ((wrap64 (t504 + t503)) : Int).toNat, wrap64 (t504 + t503), 0)) else (none)) else (none)) else (none))) else (some ((⟨#[]⟩ : ByteArray), 0, 100))) = some (r1, r2, r3) := H
        have A7 := Aside0.mk A70
        clear A70
        by_cases c8 : t505 = 0
        · rw [if_pos c8] at H
          have c8b0 : (t505 == 0) = true := beq_iff_eq.mpr c8
          have c8b1 : (t505 != 0) = false := bne_eq_false_iff_eq.mpr c8
          clear c8
          by_cases c9 : t503 > (wrap64 ((a0.size : Int) - t504))
          · rw [if_pos c9] at H
            have c9b0 : decide ((wrap64 ((a0.size : Int) - t504)) < t503) = true := decide_eq_true c9
            clear c9
            simp only [Option.some.injEq, Prod.mk.injEq] at H
            obtain ⟨rfl, rfl, rfl⟩ := H
            go_wp2_with (first | ((with_reducible refine gate_callee (f := 43) rfl ?_); refine goesL_ (some 22) rfl rfl Try.func43 (by kernel_rfl) rfl #[.string a0, .int .i64 a1, .int .i64 a2] rfl (by (try simp only [List.map_toArray, List.map_cons, List.map_nil]); first | done | rfl | (simp only [List.length_drop, List.length_take]; rfl)) ?_; (with_reducible refine (halberdref1_Num.calls kj3 a0 a1 a2 t503 t504 t505 _ A7.out).mono ?_); rintro e w' ⟨rfl, ⟨nd, rfl⟩⟩; refine ⟨_, rfl, ?_⟩))
            go_ret3
            exact ⟨by first | rfl | (simp; done) | (simp [*]; done), by repeat (first | exact Drawn0.refl _ | apply Drawn0.step)⟩
          · rw [if_neg c9] at H
            have c9b0 : decide ((wrap64 ((a0.size : Int) - t504)) < t503) = false := decide_eq_false c9
            clear c9
            by_cases c10 : 0 ≤ t504
            · rw [if_pos c10] at H
              have c10b0 := eq_true c10
              have c10b1 : decide (0 ≤ t504) = true := decide_eq_true c10
              clear c10
              by_cases c11 : t504 ≤ (wrap64 (t504 + t503))
              · rw [if_pos c11] at H
                have c11b0 := eq_true c11
                have c11b1 : decide (t504 ≤ (wrap64 (t504 + t503))) = true := decide_eq_true c11
                by_cases c12 : (wrap64 (t504 + t503)) ≤ (a0.size : Int)
                · rw [if_pos c12] at H
                  have c12b0 := eq_true c12
                  have c12b1 : decide ((wrap64 (t504 + t503)) ≤ (a0.size : Int)) = true := decide_eq_true c12
                  simp only [Option.some.injEq, Prod.mk.injEq] at H
                  obtain ⟨rfl, rfl, rfl⟩ := H
                  go_wp2_with (first | ((with_reducible refine gate_callee (f := 43) rfl ?_); refine goesL_ (some 22) rfl rfl Try.func43 (by kernel_rfl) rfl #[.string a0, .int .i64 a1, .int .i64 a2] rfl (by (try simp only [List.map_toArray, List.map_cons, List.map_nil]); first | done | rfl | (simp only [List.length_drop, List.length_take]; rfl)) ?_; (with_reducible refine (halberdref1_Num.calls kj3 a0 a1 a2 t503 t504 t505 _ A7.out).mono ?_); rintro e w' ⟨rfl, ⟨nd, rfl⟩⟩; refine ⟨_, rfl, ?_⟩))
                  go_ret3
                  exact ⟨by first | rfl | (simp; done) | (simp [*]; done), by repeat (first | exact Drawn0.refl _ | apply Drawn0.step)⟩
                · rw [if_neg c12] at H
                  exact absurd H (by simp)
              · rw [if_neg c11] at H
                exact absurd H (by simp)
            · rw [if_neg c10] at H
              exact absurd H (by simp)
        · rw [if_neg c8] at H
          have c8b0 : (t505 == 0) = false := beq_eq_false_iff_ne.mpr c8
          have c8b1 : (t505 != 0) = true := bne_iff_ne.mpr c8
          simp only [Option.some.injEq, Prod.mk.injEq] at H
          obtain ⟨rfl, rfl, rfl⟩ := H
          go_wp2_with (first | ((with_reducible refine gate_callee (f := 43) rfl ?_); refine goesL_ (some 22) rfl rfl Try.func43 (by kernel_rfl) rfl #[.string a0, .int .i64 a1, .int .i64 a2] rfl (by (try simp only [List.map_toArray, List.map_cons, List.map_nil]); first | done | rfl | (simp only [List.length_drop, List.length_take]; rfl)) ?_; (with_reducible refine (halberdref1_Num.calls kj3 a0 a1 a2 t503 t504 t505 _ A7.out).mono ?_); rintro e w' ⟨rfl, ⟨nd, rfl⟩⟩; refine ⟨_, rfl, ?_⟩))
          go_ret3
          exact ⟨by first | rfl | (simp; done) | (simp [*]; done), by repeat (first | exact Drawn0.refl _ | apply Drawn0.step)⟩

end Go.Proofs.Ytggnmnpmhknjgaa.X
