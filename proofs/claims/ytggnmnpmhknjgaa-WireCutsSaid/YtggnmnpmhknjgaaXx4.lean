-- Written by a program of this session (wip/tools/xprint.py), over the kit's printer.
import Derived.Test.YtggnmnpmhknjgaaXx0
import Derived.Test.YtggnmnpmhknjgaaXx1
namespace Go.Proofs.Ytggnmnpmhknjgaa.X
open Go.RowKit Go.Proofs.YtggnmnpmhknjgaaW.PrintWords Go.Proofs.YtggnmnpmhknjgaaW.PrintLast Go.Proofs.YtggnmnpmhknjgaaW.PrintMore
attribute [local go_sem] max2_int min2_int max_two min_two max_three min_three max_four min_four   -- for this text's walks alone
set_option linter.unusedVariables false
set_option linter.unusedSimpArgs false

/-! ### halberdlaw0_errors4: function 16 -/
def halberdlaw0_errors4.f  : Option (Bool) := (halberdlaw0_Num.f 2500).bind fun t143 => (if t143 = 2500 then ((halberdlaw0_Num.f 2501).bind fun t144 => (if t144 = 2501 then ((halberdlaw0_Num.f 2502).bind fun t145 => (if t145 = 2502 then ((halberdlaw0_Num.f 2600).bind fun t146 => (if t146 = 2600 then ((halberdlaw0_Num.f 2601).bind fun t147 => (if t147 = 2601 then ((halberdlaw0_Num.f 2602).bind fun t148 => (if t148 = 2602 then ((halberdlaw0_Num.f 2603).bind fun t149 => (if t149 = 2603 then ((halberdlaw0_Num.f 2604).bind fun t150 => (if t150 = 2604 then ((halberdlaw0_Num.f 2605).bind fun t151 => (if t151 = 2605 then ((halberdlaw0_Num.f 2606).bind fun t152 => (if t152 = 2606 then ((halberdlaw0_Num.f 2607).bind fun t153 => (if t153 = 2607 then ((halberdlaw0_Num.f 2608).bind fun t154 => (if t154 = 2608 then ((halberdlaw0_Num.f 2700).bind fun t155 => (if t155 = 2700 then ((halberdlaw0_Num.f 2800).bind fun t156 => (some (t156 == 2800))) else (some false))) else (some false))) else (some false))) else (some false))) else (some false))) else (some false))) else (some false))) else (some false))) else (some false))) else (some false))) else (some false))) else (some false))) else (some false))
set_option maxHeartbeats 8000000 in
set_option maxRecDepth 100000 in
theorem halberdlaw0_errors4.calls  (r : Bool) (w : World) (h : halberdlaw0_errors4.f  = some r) :
    Calls Try.prog 16 #[] w fun e w' => e = .returned (.bool r) ∧ Drawn0 w w' := by
  have H : ((halberdlaw0_Num.f 2500).bind fun t143 => (if t143 = 2500 then ((halberdlaw0_Num.f 2501).bind fun t144 => (if t144 = 2501 then ((halberdlaw0_Num.f 2502).bind fun t145 => (if t145 = 2502 then ((halberdlaw0_Num.f 2600).bind fun t146 => (if t146 = 2600 then ((halberdlaw0_Num.f 2601).bind fun t147 => (if t147 = 2601 then ((halberdlaw0_Num.f 2602).bind fun t148 => (if t148 = 2602 then ((halberdlaw0_Num.f 2603).bind fun t149 => (if t149 = 2603 then ((halberdlaw0_Num.f 2604).bind fun t150 => (if t150 = 2604 then ((halberdlaw0_Num.f 2605).bind fun t151 => (if t151 = 2605 then ((halberdlaw0_Num.f 2606).bind fun t152 => (if t152 = 2606 then ((halberdlaw0_Num.f 2607).bind fun t153 => (if t153 = 2607 then ((halberdlaw0_Num.f 2608).bind fun t154 => (if t154 = 2608 then ((halberdlaw0_Num.f 2700).bind fun t155 => (if t155 = 2700 then ((halberdlaw0_Num.f 2800).bind fun t156 => (some (t156 == 2800))) else (some false))) else (some false))) else (some false))) else (some false))) else (some false))) else (some false))) else (some false))) else (some false))) else (some false))) else (some false))) else (some false))) else (some false))) else (some false))) = some r := h
  clear h
  replace H := Option.bind_eq_some_iff.mp H
  obtain ⟨t143, A10, H⟩ := H
  replace H : (if t143 = 2500 then ((halberdlaw0_Num.f 2501).bind fun t144 => (if t144 = 2501 then ((halberdlaw0_Num.f 2502).bind fun t145 => (if t145 = 2502 then ((halberdlaw0_Num.f 2600).bind fun t146 => (if t146 = 2600 then ((halberdlaw0_Num.f 2601).bind fun t147 => (if t147 = 2601 then ((halberdlaw0_Num.f 2602).bind fun t148 => (if t148 = 2602 then ((halberdlaw0_Num.f 2603).bind fun t149 => (if t149 = 2603 then ((halberdlaw0_Num.f 2604).bind fun t150 => (if t150 = 2604 then ((halberdlaw0_Num.f 2605).bind fun t151 => (if t151 = 2605 then ((halberdlaw0_Num.f 2606).bind fun t152 => (if t152 = 2606 then ((halberdlaw0_Num.f 2607).bind fun t153 => (if t153 = 2607 then ((halberdlaw0_Num.f 2608).bind fun t154 => (if t154 = 2608 then ((halberdlaw0_Num.f 2700).bind fun t155 => (if t155 = 2700 then ((halberdlaw0_Num.f 2800).bind fun t156 => (some (t156 == 2800))) else (some false))) else (some false))) else (some false))) else (some false))) else (some false))) else (some false))) else (some false))) else (some false))) else (some false))) else (some false))) else (some false))) else (some false))) else (some false)) = some r := H
  have A1 := Aside0.mk A10
  clear A10
  by_cases c2 : t143 = 2500
  · rw [if_pos c2] at H
    have c2b0 : (t143 == 2500) = true := beq_iff_eq.mpr c2
    have c2b1 : (t143 != 2500) = false := bne_eq_false_iff_eq.mpr c2
    clear c2
    replace H := Option.bind_eq_some_iff.mp H
    obtain ⟨t144, A30, H⟩ := H
    replace H : (if t144 = 2501 then ((halberdlaw0_Num.f 2502).bind fun t145 => (if t145 = 2502 then ((halberdlaw0_Num.f 2600).bind fun t146 => (if t146 = 2600 then ((halberdlaw0_Num.f 2601).bind fun t147 => (if t147 = 2601 then ((halberdlaw0_Num.f 2602).bind fun t148 => (if t148 = 2602 then ((halberdlaw0_Num.f 2603).bind fun t149 => (if t149 = 2603 then ((halberdlaw0_Num.f 2604).bind fun t150 => (if t150 = 2604 then ((halberdlaw0_Num.f 2605).bind fun t151 => (if t151 = 2605 then ((halberdlaw0_Num.f 2606).bind fun t152 => (if t152 = 2606 then ((halberdlaw0_Num.f 2607).bind fun t153 => (if t153 = 2607 then ((halberdlaw0_Num.f 2608).bind fun t154 => (if t154 = 2608 then ((halberdlaw0_Num.f 2700).bind fun t155 => (if t155 = 2700 then ((halberdlaw0_Num.f 2800).bind fun t156 => (some (t156 == 2800))) else (some false))) else (some false))) else (some false))) else (some false))) else (some false))) else (some false))) else (some false))) else (some false))) else (some false))) else (some false))) else (some false))) else (some false)) = some r := H
    have A3 := Aside0.mk A30
    clear A30
    by_cases c4 : t144 = 2501
    · rw [if_pos c4] at H
      have c4b0 : (t144 == 2501) = true := beq_iff_eq.mpr c4
      have c4b1 : (t144 != 2501) = false := bne_eq_false_iff_eq.mpr c4
      clear c4
      replace H := Option.bind_eq_some_iff.mp H
      obtain ⟨t145, A50, H⟩ := H
      replace H : (if t145 = 2502 then ((halberdlaw0_Num.f 2600).bind fun t146 => (if t146 = 2600 then ((halberdlaw0_Num.f 2601).bind fun t147 => (if t147 = 2601 then ((halberdlaw0_Num.f 2602).bind fun t148 => (if t148 = 2602 then ((halberdlaw0_Num.f 2603).bind fun t149 => (if t149 = 2603 then ((halberdlaw0_Num.f 2604).bind fun t150 => (if t150 = 2604 then ((halberdlaw0_Num.f 2605).bind fun t151 => (if t151 = 2605 then ((halberdlaw0_Num.f 2606).bind fun t152 => (if t152 = 2606 then ((halberdlaw0_Num.f 2607).bind fun t153 => (if t153 = 2607 then ((halberdlaw0_Num.f 2608).bind fun t154 => (if t154 = 2608 then ((halberdlaw0_Num.f 2700).bind fun t155 => (if t155 = 2700 then ((halberdlaw0_Num.f 2800).bind fun t156 => (some (t156 == 2800))) else (some false))) else (some false))) else (some false))) else (some false))) else (some false))) else (some false))) else (some false))) else (some false))) else (some false))) else (some false))) else (some false)) = some r := H
      have A5 := Aside0.mk A50
      clear A50
      by_cases c6 : t145 = 2502
      · rw [if_pos c6] at H
        have c6b0 : (t145 == 2502) = true := beq_iff_eq.mpr c6
        have c6b1 : (t145 != 2502) = false := bne_eq_false_iff_eq.mpr c6
        clear c6
        replace H := Option.bind_eq_some_iff.mp H
        obtain ⟨t146, A70, H⟩ := H
        replace H : (if t146 = 2600 then ((halberdlaw0_Num.f 2601).bind fun t147 => (if t147 = 2601 then ((halberdlaw0_Num.f 2602).bind fun t148 => (if t148 = 2602 then ((halberdlaw0_Num.f 2603).bind fun t149 => (if t149 = 2603 then ((halberdlaw0_Num.f 2604).bind fun t150 => (if t150 = 2604 then ((halberdlaw0_Num.f 2605).bind fun t151 => (if t151 = 2605 then ((halberdlaw0_Num.f 2606).bind fun t152 => (if t152 = 2606 then ((halberdlaw0_Num.f 2607).bind fun t153 => (if t153 = 2607 then ((halberdlaw0_Num.f 2608).bind fun t154 => (if t154 = 2608 then ((halberdlaw0_Num.f 2700).bind fun t155 => (if t155 = 2700 then ((halberdlaw0_Num.f 2800).bind fun t156 => (some (t156 == 2800))) else (some false))) else (some false))) else (some false))) else (some false))) else (some false))) else (some false))) else (some false))) else (some false))) else (some false))) else (some false)) = some r := H
        have A7 := Aside0.mk A70
        clear A70
        by_cases c8 : t146 = 2600
        · rw [if_pos c8] at H
          have c8b0 : (t146 == 2600) = true := beq_iff_eq.mpr c8
          have c8b1 : (t146 != 2600) = false := bne_eq_false_iff_eq.mpr c8
          clear c8
          replace H := Option.bind_eq_some_iff.mp H
          obtain ⟨t147, A90, H⟩ := H
          replace H : (if t147 = 2601 then ((halberdlaw0_Num.f 2602).bind fun t148 => (if t148 = 2602 then ((halberdlaw0_Num.f 2603).bind fun t149 => (if t149 = 2603 then ((halberdlaw0_Num.f 2604).bind fun t150 => (if t150 = 2604 then ((halberdlaw0_Num.f 2605).bind fun t151 => (if t151 = 2605 then ((halberdlaw0_Num.f 2606).bind fun t152 => (if t152 = 2606 then ((halberdlaw0_Num.f 2607).bind fun t153 => (if t153 = 2607 then ((halberdlaw0_Num.f 2608).bind fun t154 => (if t154 = 2608 then ((halberdlaw0_Num.f 2700).bind fun t155 => (if t155 = 2700 then ((halberdlaw0_Num.f 2800).bind fun t156 => (some (t156 == 2800))) else (some false))) else (some false))) else (some false))) else (some false))) else (some false))) else (some false))) else (some false))) else (some false))) else (some false)) = some r := H
          have A9 := Aside0.mk A90
          clear A90
          by_cases c10 : t147 = 2601
          · rw [if_pos c10] at H
            have c10b0 : (t147 == 2601) = true := beq_iff_eq.mpr c10
            have c10b1 : (t147 != 2601) = false := bne_eq_false_iff_eq.mpr c10
            clear c10
            replace H := Option.bind_eq_some_iff.mp H
            obtain ⟨t148, A110, H⟩ := H
            replace H : (if t148 = 2602 then ((halberdlaw0_Num.f 2603).bind fun t149 => (if t149 = 2603 then ((halberdlaw0_Num.f 2604).bind fun t150 => (if t150 = 2604 then ((halberdlaw0_Num.f 2605).bind fun t151 => (if t151 = 2605 then ((halberdlaw0_Num.f 2606).bind fun t152 => (if t152 = 2606 then ((halberdlaw0_Num.f 2607).bind fun t153 => (if t153 = 2607 then ((halberdlaw0_Num.f 2608).bind fun t154 => (if t154 = 2608 then ((halberdlaw0_Num.f 2700).bind fun t155 => (if t155 = 2700 then ((halberdlaw0_Num.f 2800).bind fun t156 => (some (t156 == 2800))) else (some false))) else (some false))) else (some false))) else (some false))) else (some false))) else (some false))) else (some false))) else (some false)) = some r := H
            have A11 := Aside0.mk A110
            clear A110
            by_cases c12 : t148 = 2602
            · rw [if_pos c12] at H
              have c12b0 : (t148 == 2602) = true := beq_iff_eq.mpr c12
              have c12b1 : (t148 != 2602) = false := bne_eq_false_iff_eq.mpr c12
              clear c12
              replace H := Option.bind_eq_some_iff.mp H
              obtain ⟨t149, A130, H⟩ := H
              replace H : (if t149 = 2603 then ((halberdlaw0_Num.f 2604).bind fun t150 => (if t150 = 2604 then ((halberdlaw0_Num.f 2605).bind fun t151 => (if t151 = 2605 then ((halberdlaw0_Num.f 2606).bind fun t152 => (if t152 = 2606 then ((halberdlaw0_Num.f 2607).bind fun t153 => (if t153 = 2607 then ((halberdlaw0_Num.f 2608).bind fun t154 => (if t154 = 2608 then ((halberdlaw0_Num.f 2700).bind fun t155 => (if t155 = 2700 then ((halberdlaw0_Num.f 2800).bind fun t156 => (some (t156 == 2800))) else (some false))) else (some false))) else (some false))) else (some false))) else (some false))) else (some false))) else (some false)) = some r := H
              have A13 := Aside0.mk A130
              clear A130
              by_cases c14 : t149 = 2603
              · rw [if_pos c14] at H
                have c14b0 : (t149 == 2603) = true := beq_iff_eq.mpr c14
                have c14b1 : (t149 != 2603) = false := bne_eq_false_iff_eq.mpr c14
                clear c14
                replace H := Option.bind_eq_some_iff.mp H
                obtain ⟨t150, A150, H⟩ := H
                replace H : (if t150 = 2604 then ((halberdlaw0_Num.f 2605).bind fun t151 => (if t151 = 2605 then ((halberdlaw0_Num.f 2606).bind fun t152 => (if t152 = 2606 then ((halberdlaw0_Num.f 2607).bind fun t153 => (if t153 = 2607 then ((halberdlaw0_Num.f 2608).bind fun t154 => (if t154 = 2608 then ((halberdlaw0_Num.f 2700).bind fun t155 => (if t155 = 2700 then ((halberdlaw0_Num.f 2800).bind fun t156 => (some (t156 == 2800))) else (some false))) else (some false))) else (some false))) else (some false))) else (some false))) else (some false)) = some r := H
                have A15 := Aside0.mk A150
                clear A150
                by_cases c16 : t150 = 2604
                · rw [if_pos c16] at H
                  have c16b0 : (t150 == 2604) = true := beq_iff_eq.mpr c16
                  have c16b1 : (t150 != 2604) = false := bne_eq_false_iff_eq.mpr c16
                  clear c16
                  replace H := Option.bind_eq_some_iff.mp H
                  obtain ⟨t151, A170, H⟩ := H
                  replace H : (if t151 = 2605 then ((halberdlaw0_Num.f 2606).bind fun t152 => (if t152 = 2606 then ((halberdlaw0_Num.f 2607).bind fun t153 => (if t153 = 2607 then ((halberdlaw0_Num.f 2608).bind fun t154 => (if t154 = 2608 then ((halberdlaw0_Num.f 2700).bind fun t155 => (if t155 = 2700 then ((halberdlaw0_Num.f 2800).bind fun t156 => (some (t156 == 2800))) else (some false))) else (some false))) else (some false))) else (some false))) else (some false)) = some r := H
                  have A17 := Aside0.mk A170
                  clear A170
                  by_cases c18 : t151 = 2605
                  · rw [if_pos c18] at H
                    have c18b0 : (t151 == 2605) = true := beq_iff_eq.mpr c18
                    have c18b1 : (t151 != 2605) = false := bne_eq_false_iff_eq.mpr c18
                    clear c18
                    replace H := Option.bind_eq_some_iff.mp H
                    obtain ⟨t152, A190, H⟩ := H
                    replace H : (if t152 = 2606 then ((halberdlaw0_Num.f 2607).bind fun t153 => (if t153 = 2607 then ((halberdlaw0_Num.f 2608).bind fun t154 => (if t154 = 2608 then ((halberdlaw0_Num.f 2700).bind fun t155 => (if t155 = 2700 then ((halberdlaw0_Num.f 2800).bind fun t156 => (some (t156 == 2800))) else (some false))) else (some false))) else (some false))) else (some false)) = some r := H
                    have A19 := Aside0.mk A190
                    clear A190
                    by_cases c20 : t152 = 2606
                    · rw [if_pos c20] at H
                      have c20b0 : (t152 == 2606) = true := beq_iff_eq.mpr c20
                      have c20b1 : (t152 != 2606) = false := bne_eq_false_iff_eq.mpr c20
                      clear c20
                      replace H := Option.bind_eq_some_iff.mp H
                      obtain ⟨t153, A210, H⟩ := H
                      replace H : (if t153 = 2607 then ((halberdlaw0_Num.f 2608).bind fun t154 => (if t154 = 2608 then ((halberdlaw0_Num.f 2700).bind fun t155 => (if t155 = 2700 then ((halberdlaw0_Num.f 2800).bind fun t156 => (some (t156 == 2800))) else (some false))) else (some false))) else (some false)) = some r := H
                      have A21 := Aside0.mk A210
                      clear A210
                      by_cases c22 : t153 = 2607
                      · rw [if_pos c22] at H
                        have c22b0 : (t153 == 2607) = true := beq_iff_eq.mpr c22
                        have c22b1 : (t153 != 2607) = false := bne_eq_false_iff_eq.mpr c22
                        clear c22
                        replace H := Option.bind_eq_some_iff.mp H
                        obtain ⟨t154, A230, H⟩ := H
                        replace H : (if t154 = 2608 then ((halberdlaw0_Num.f 2700).bind fun t155 => (if t155 = 2700 then ((halberdlaw0_Num.f 2800).bind fun t156 => (some (t156 == 2800))) else (some false))) else (some false)) = some r := H
                        have A23 := Aside0.mk A230
                        clear A230
                        by_cases c24 : t154 = 2608
                        · rw [if_pos c24] at H
                          have c24b0 : (t154 == 2608) = true := beq_iff_eq.mpr c24
                          have c24b1 : (t154 != 2608) = false := bne_eq_false_iff_eq.mpr c24
                          clear c24
                          replace H := Option.bind_eq_some_iff.mp H
                          obtain ⟨t155, A250, H⟩ := H
                          replace H : (if t155 = 2700 then ((halberdlaw0_Num.f 2800).bind fun t156 => (some (t156 == 2800))) else (some false)) = some r := H
                          have A25 := Aside0.mk A250
                          clear A250
                          by_cases c26 : t155 = 2700
                          · rw [if_pos c26] at H
                            have c26b0 : (t155 == 2700) = true := beq_iff_eq.mpr c26
                            have c26b1 : (t155 != 2700) = false := bne_eq_false_iff_eq.mpr c26
                            clear c26
                            replace H := Option.bind_eq_some_iff.mp H
                            obtain ⟨t156, A270, H⟩ := H
                            replace H : (some (t156 == 2800)) = some r := H
                            have A27 := Aside0.mk A270
                            clear A270
                            obtain rfl := Option.some.inj H
                            go_enter Try.func16, Try.ntmps16
                            go_wp2_with (first | ((with_reducible refine gate_callee (f := 28) rfl ?_); refine goesL_ (some 1) rfl rfl Try.func28 (by kernel_rfl) rfl #[.int .i64 2500] rfl (by (try simp only [List.map_toArray, List.map_cons, List.map_nil]); first | done | rfl | (simp only [List.length_drop, List.length_take]; rfl)) ?_; (with_reducible refine (halberdlaw0_Num.calls 2500 t143 _ A1.out).mono ?_); rintro e w' ⟨rfl, ⟨nd, rfl⟩⟩; refine ⟨_, rfl, ?_⟩) | (go_at_call 28; (with_reducible refine (halberdlaw0_Num.calls 2501 t144 _ A3.out).mono ?_); rintro e w' ⟨rfl, ⟨nd, rfl⟩⟩) | (go_at_call 28; (with_reducible refine (halberdlaw0_Num.calls 2502 t145 _ A5.out).mono ?_); rintro e w' ⟨rfl, ⟨nd, rfl⟩⟩) | (go_at_call 28; (with_reducible refine (halberdlaw0_Num.calls 2600 t146 _ A7.out).mono ?_); rintro e w' ⟨rfl, ⟨nd, rfl⟩⟩) | (go_at_call 28; (with_reducible refine (halberdlaw0_Num.calls 2601 t147 _ A9.out).mono ?_); rintro e w' ⟨rfl, ⟨nd, rfl⟩⟩) | (go_at_call 28; (with_reducible refine (halberdlaw0_Num.calls 2602 t148 _ A11.out).mono ?_); rintro e w' ⟨rfl, ⟨nd, rfl⟩⟩) | (go_at_call 28; (with_reducible refine (halberdlaw0_Num.calls 2603 t149 _ A13.out).mono ?_); rintro e w' ⟨rfl, ⟨nd, rfl⟩⟩) | (go_at_call 28; (with_reducible refine (halberdlaw0_Num.calls 2604 t150 _ A15.out).mono ?_); rintro e w' ⟨rfl, ⟨nd, rfl⟩⟩) | (go_at_call 28; (with_reducible refine (halberdlaw0_Num.calls 2605 t151 _ A17.out).mono ?_); rintro e w' ⟨rfl, ⟨nd, rfl⟩⟩) | (go_at_call 28; (with_reducible refine (halberdlaw0_Num.calls 2606 t152 _ A19.out).mono ?_); rintro e w' ⟨rfl, ⟨nd, rfl⟩⟩) | (go_at_call 28; (with_reducible refine (halberdlaw0_Num.calls 2607 t153 _ A21.out).mono ?_); rintro e w' ⟨rfl, ⟨nd, rfl⟩⟩) | (go_at_call 28; (with_reducible refine (halberdlaw0_Num.calls 2608 t154 _ A23.out).mono ?_); rintro e w' ⟨rfl, ⟨nd, rfl⟩⟩) | (go_at_call 28; (with_reducible refine (halberdlaw0_Num.calls 2700 t155 _ A25.out).mono ?_); rintro e w' ⟨rfl, ⟨nd, rfl⟩⟩) | (go_at_call 28; (with_reducible refine (halberdlaw0_Num.calls 2800 t156 _ A27.out).mono ?_); rintro e w' ⟨rfl, ⟨nd, rfl⟩⟩))
                            go_ret
                            exact ⟨by first | rfl | (simp; done) | (simp [*]; done), by repeat (first | exact Drawn0.refl _ | apply Drawn0.step)⟩
                          · rw [if_neg c26] at H
                            have c26b0 : (t155 == 2700) = false := beq_eq_false_iff_ne.mpr c26
                            have c26b1 : (t155 != 2700) = true := bne_iff_ne.mpr c26
                            obtain rfl := Option.some.inj H
                            go_enter Try.func16, Try.ntmps16
                            go_wp2_with (first | ((with_reducible refine gate_callee (f := 28) rfl ?_); refine goesL_ (some 1) rfl rfl Try.func28 (by kernel_rfl) rfl #[.int .i64 2500] rfl (by (try simp only [List.map_toArray, List.map_cons, List.map_nil]); first | done | rfl | (simp only [List.length_drop, List.length_take]; rfl)) ?_; (with_reducible refine (halberdlaw0_Num.calls 2500 t143 _ A1.out).mono ?_); rintro e w' ⟨rfl, ⟨nd, rfl⟩⟩; refine ⟨_, rfl, ?_⟩) | (go_at_call 28; (with_reducible refine (halberdlaw0_Num.calls 2501 t144 _ A3.out).mono ?_); rintro e w' ⟨rfl, ⟨nd, rfl⟩⟩) | (go_at_call 28; (with_reducible refine (halberdlaw0_Num.calls 2502 t145 _ A5.out).mono ?_); rintro e w' ⟨rfl, ⟨nd, rfl⟩⟩) | (go_at_call 28; (with_reducible refine (halberdlaw0_Num.calls 2600 t146 _ A7.out).mono ?_); rintro e w' ⟨rfl, ⟨nd, rfl⟩⟩) | (go_at_call 28; (with_reducible refine (halberdlaw0_Num.calls 2601 t147 _ A9.out).mono ?_); rintro e w' ⟨rfl, ⟨nd, rfl⟩⟩) | (go_at_call 28; (with_reducible refine (halberdlaw0_Num.calls 2602 t148 _ A11.out).mono ?_); rintro e w' ⟨rfl, ⟨nd, rfl⟩⟩) | (go_at_call 28; (with_reducible refine (halberdlaw0_Num.calls 2603 t149 _ A13.out).mono ?_); rintro e w' ⟨rfl, ⟨nd, rfl⟩⟩) | (go_at_call 28; (with_reducible refine (halberdlaw0_Num.calls 2604 t150 _ A15.out).mono ?_); rintro e w' ⟨rfl, ⟨nd, rfl⟩⟩) | (go_at_call 28; (with_reducible refine (halberdlaw0_Num.calls 2605 t151 _ A17.out).mono ?_); rintro e w' ⟨rfl, ⟨nd, rfl⟩⟩) | (go_at_call 28; (with_reducible refine (halberdlaw0_Num.calls 2606 t152 _ A19.out).mono ?_); rintro e w' ⟨rfl, ⟨nd, rfl⟩⟩) | (go_at_call 28; (with_reducible refine (halberdlaw0_Num.calls 2607 t153 _ A21.out).mono ?_); rintro e w' ⟨rfl, ⟨nd, rfl⟩⟩) | (go_at_call 28; (with_reducible refine (halberdlaw0_Num.calls 2608 t154 _ A23.out).mono ?_); rintro e w' ⟨rfl, ⟨nd, rfl⟩⟩) | (go_at_call 28; (with_reducible refine (halberdlaw0_Num.calls 2700 t155 _ A25.out).mono ?_); rintro e w' ⟨rfl, ⟨nd, rfl⟩⟩))
                            go_ret
                            exact ⟨by first | rfl | (simp; done) | (simp [*]; done), by repeat (first | exact Drawn0.refl _ | apply Drawn0.step)⟩
                        · rw [if_neg c24] at H
                          have c24b0 : (t154 == 2608) = false := beq_eq_false_iff_ne.mpr c24
                          have c24b1 : (t154 != 2608) = true := bne_iff_ne.mpr c24
                          obtain rfl := Option.some.inj H
                          go_enter Try.func16, Try.ntmps16
                          go_wp2_with (first | ((with_reducible refine gate_callee (f := 28) rfl ?_); refine goesL_ (some 1) rfl rfl Try.func28 (by kernel_rfl) rfl #[.int .i64 2500] rfl (by (try simp only [List.map_toArray, List.map_cons, List.map_nil]); first | done | rfl | (simp only [List.length_drop, List.length_take]; rfl)) ?_; (with_reducible refine (halberdlaw0_Num.calls 2500 t143 _ A1.out).mono ?_); rintro e w' ⟨rfl, ⟨nd, rfl⟩⟩; refine ⟨_, rfl, ?_⟩) | (go_at_call 28; (with_reducible refine (halberdlaw0_Num.calls 2501 t144 _ A3.out).mono ?_); rintro e w' ⟨rfl, ⟨nd, rfl⟩⟩) | (go_at_call 28; (with_reducible refine (halberdlaw0_Num.calls 2502 t145 _ A5.out).mono ?_); rintro e w' ⟨rfl, ⟨nd, rfl⟩⟩) | (go_at_call 28; (with_reducible refine (halberdlaw0_Num.calls 2600 t146 _ A7.out).mono ?_); rintro e w' ⟨rfl, ⟨nd, rfl⟩⟩) | (go_at_call 28; (with_reducible refine (halberdlaw0_Num.calls 2601 t147 _ A9.out).mono ?_); rintro e w' ⟨rfl, ⟨nd, rfl⟩⟩) | (go_at_call 28; (with_reducible refine (halberdlaw0_Num.calls 2602 t148 _ A11.out).mono ?_); rintro e w' ⟨rfl, ⟨nd, rfl⟩⟩) | (go_at_call 28; (with_reducible refine (halberdlaw0_Num.calls 2603 t149 _ A13.out).mono ?_); rintro e w' ⟨rfl, ⟨nd, rfl⟩⟩) | (go_at_call 28; (with_reducible refine (halberdlaw0_Num.calls 2604 t150 _ A15.out).mono ?_); rintro e w' ⟨rfl, ⟨nd, rfl⟩⟩) | (go_at_call 28; (with_reducible refine (halberdlaw0_Num.calls 2605 t151 _ A17.out).mono ?_); rintro e w' ⟨rfl, ⟨nd, rfl⟩⟩) | (go_at_call 28; (with_reducible refine (halberdlaw0_Num.calls 2606 t152 _ A19.out).mono ?_); rintro e w' ⟨rfl, ⟨nd, rfl⟩⟩) | (go_at_call 28; (with_reducible refine (halberdlaw0_Num.calls 2607 t153 _ A21.out).mono ?_); rintro e w' ⟨rfl, ⟨nd, rfl⟩⟩) | (go_at_call 28; (with_reducible refine (halberdlaw0_Num.calls 2608 t154 _ A23.out).mono ?_); rintro e w' ⟨rfl, ⟨nd, rfl⟩⟩))
                          go_ret
                          exact ⟨by first | rfl | (simp; done) | (simp [*]; done), by repeat (first | exact Drawn0.refl _ | apply Drawn0.step)⟩
                      · rw [if_neg c22] at H
                        have c22b0 : (t153 == 2607) = false := beq_eq_false_iff_ne.mpr c22
                        have c22b1 : (t153 != 2607) = true := bne_iff_ne.mpr c22
                        obtain rfl := Option.some.inj H
                        go_enter Try.func16, Try.ntmps16
                        go_wp2_with (first | ((with_reducible refine gate_callee (f := 28) rfl ?_); refine goesL_ (some 1) rfl rfl Try.func28 (by kernel_rfl) rfl #[.int .i64 2500] rfl (by (try simp only [List.map_toArray, List.map_cons, List.map_nil]); first | done | rfl | (simp only [List.length_drop, List.length_take]; rfl)) ?_; (with_reducible refine (halberdlaw0_Num.calls 2500 t143 _ A1.out).mono ?_); rintro e w' ⟨rfl, ⟨nd, rfl⟩⟩; refine ⟨_, rfl, ?_⟩) | (go_at_call 28; (with_reducible refine (halberdlaw0_Num.calls 2501 t144 _ A3.out).mono ?_); rintro e w' ⟨rfl, ⟨nd, rfl⟩⟩) | (go_at_call 28; (with_reducible refine (halberdlaw0_Num.calls 2502 t145 _ A5.out).mono ?_); rintro e w' ⟨rfl, ⟨nd, rfl⟩⟩) | (go_at_call 28; (with_reducible refine (halberdlaw0_Num.calls 2600 t146 _ A7.out).mono ?_); rintro e w' ⟨rfl, ⟨nd, rfl⟩⟩) | (go_at_call 28; (with_reducible refine (halberdlaw0_Num.calls 2601 t147 _ A9.out).mono ?_); rintro e w' ⟨rfl, ⟨nd, rfl⟩⟩) | (go_at_call 28; (with_reducible refine (halberdlaw0_Num.calls 2602 t148 _ A11.out).mono ?_); rintro e w' ⟨rfl, ⟨nd, rfl⟩⟩) | (go_at_call 28; (with_reducible refine (halberdlaw0_Num.calls 2603 t149 _ A13.out).mono ?_); rintro e w' ⟨rfl, ⟨nd, rfl⟩⟩) | (go_at_call 28; (with_reducible refine (halberdlaw0_Num.calls 2604 t150 _ A15.out).mono ?_); rintro e w' ⟨rfl, ⟨nd, rfl⟩⟩) | (go_at_call 28; (with_reducible refine (halberdlaw0_Num.calls 2605 t151 _ A17.out).mono ?_); rintro e w' ⟨rfl, ⟨nd, rfl⟩⟩) | (go_at_call 28; (with_reducible refine (halberdlaw0_Num.calls 2606 t152 _ A19.out).mono ?_); rintro e w' ⟨rfl, ⟨nd, rfl⟩⟩) | (go_at_call 28; (with_reducible refine (halberdlaw0_Num.calls 2607 t153 _ A21.out).mono ?_); rintro e w' ⟨rfl, ⟨nd, rfl⟩⟩))
                        go_ret
                        exact ⟨by first | rfl | (simp; done) | (simp [*]; done), by repeat (first | exact Drawn0.refl _ | apply Drawn0.step)⟩
                    · rw [if_neg c20] at H
                      have c20b0 : (t152 == 2606) = false := beq_eq_false_iff_ne.mpr c20
                      have c20b1 : (t152 != 2606) = true := bne_iff_ne.mpr c20
                      obtain rfl := Option.some.inj H
                      go_enter Try.func16, Try.ntmps16
                      go_wp2_with (first | ((with_reducible refine gate_callee (f := 28) rfl ?_); refine goesL_ (some 1) rfl rfl Try.func28 (by kernel_rfl) rfl #[.int .i64 2500] rfl (by (try simp only [List.map_toArray, List.map_cons, List.map_nil]); first | done | rfl | (simp only [List.length_drop, List.length_take]; rfl)) ?_; (with_reducible refine (halberdlaw0_Num.calls 2500 t143 _ A1.out).mono ?_); rintro e w' ⟨rfl, ⟨nd, rfl⟩⟩; refine ⟨_, rfl, ?_⟩) | (go_at_call 28; (with_reducible refine (halberdlaw0_Num.calls 2501 t144 _ A3.out).mono ?_); rintro e w' ⟨rfl, ⟨nd, rfl⟩⟩) | (go_at_call 28; (with_reducible refine (halberdlaw0_Num.calls 2502 t145 _ A5.out).mono ?_); rintro e w' ⟨rfl, ⟨nd, rfl⟩⟩) | (go_at_call 28; (with_reducible refine (halberdlaw0_Num.calls 2600 t146 _ A7.out).mono ?_); rintro e w' ⟨rfl, ⟨nd, rfl⟩⟩) | (go_at_call 28; (with_reducible refine (halberdlaw0_Num.calls 2601 t147 _ A9.out).mono ?_); rintro e w' ⟨rfl, ⟨nd, rfl⟩⟩) | (go_at_call 28; (with_reducible refine (halberdlaw0_Num.calls 2602 t148 _ A11.out).mono ?_); rintro e w' ⟨rfl, ⟨nd, rfl⟩⟩) | (go_at_call 28; (with_reducible refine (halberdlaw0_Num.calls 2603 t149 _ A13.out).mono ?_); rintro e w' ⟨rfl, ⟨nd, rfl⟩⟩) | (go_at_call 28; (with_reducible refine (halberdlaw0_Num.calls 2604 t150 _ A15.out).mono ?_); rintro e w' ⟨rfl, ⟨nd, rfl⟩⟩) | (go_at_call 28; (with_reducible refine (halberdlaw0_Num.calls 2605 t151 _ A17.out).mono ?_); rintro e w' ⟨rfl, ⟨nd, rfl⟩⟩) | (go_at_call 28; (with_reducible refine (halberdlaw0_Num.calls 2606 t152 _ A19.out).mono ?_); rintro e w' ⟨rfl, ⟨nd, rfl⟩⟩))
                      go_ret
                      exact ⟨by first | rfl | (simp; done) | (simp [*]; done), by repeat (first | exact Drawn0.refl _ | apply Drawn0.step)⟩
                  · rw [if_neg c18] at H
                    have c18b0 : (t151 == 2605) = false := beq_eq_false_iff_ne.mpr c18
                    have c18b1 : (t151 != 2605) = true := bne_iff_ne.mpr c18
                    obtain rfl := Option.some.inj H
                    go_enter Try.func16, Try.ntmps16
                    go_wp2_with (first | ((with_reducible refine gate_callee (f := 28) rfl ?_); refine goesL_ (some 1) rfl rfl Try.func28 (by kernel_rfl) rfl #[.int .i64 2500] rfl (by (try simp only [List.map_toArray, List.map_cons, List.map_nil]); first | done | rfl | (simp only [List.length_drop, List.length_take]; rfl)) ?_; (with_reducible refine (halberdlaw0_Num.calls 2500 t143 _ A1.out).mono ?_); rintro e w' ⟨rfl, ⟨nd, rfl⟩⟩; refine ⟨_, rfl, ?_⟩) | (go_at_call 28; (with_reducible refine (halberdlaw0_Num.calls 2501 t144 _ A3.out).mono ?_); rintro e w' ⟨rfl, ⟨nd, rfl⟩⟩) | (go_at_call 28; (with_reducible refine (halberdlaw0_Num.calls 2502 t145 _ A5.out).mono ?_); rintro e w' ⟨rfl, ⟨nd, rfl⟩⟩) | (go_at_call 28; (with_reducible refine (halberdlaw0_Num.calls 2600 t146 _ A7.out).mono ?_); rintro e w' ⟨rfl, ⟨nd, rfl⟩⟩) | (go_at_call 28; (with_reducible refine (halberdlaw0_Num.calls 2601 t147 _ A9.out).mono ?_); rintro e w' ⟨rfl, ⟨nd, rfl⟩⟩) | (go_at_call 28; (with_reducible refine (halberdlaw0_Num.calls 2602 t148 _ A11.out).mono ?_); rintro e w' ⟨rfl, ⟨nd, rfl⟩⟩) | (go_at_call 28; (with_reducible refine (halberdlaw0_Num.calls 2603 t149 _ A13.out).mono ?_); rintro e w' ⟨rfl, ⟨nd, rfl⟩⟩) | (go_at_call 28; (with_reducible refine (halberdlaw0_Num.calls 2604 t150 _ A15.out).mono ?_); rintro e w' ⟨rfl, ⟨nd, rfl⟩⟩) | (go_at_call 28; (with_reducible refine (halberdlaw0_Num.calls 2605 t151 _ A17.out).mono ?_); rintro e w' ⟨rfl, ⟨nd, rfl⟩⟩))
                    go_ret
                    exact ⟨by first | rfl | (simp; done) | (simp [*]; done), by repeat (first | exact Drawn0.refl _ | apply Drawn0.step)⟩
                · rw [if_neg c16] at H
                  have c16b0 : (t150 == 2604) = false := beq_eq_false_iff_ne.mpr c16
                  have c16b1 : (t150 != 2604) = true := bne_iff_ne.mpr c16
                  obtain rfl := Option.some.inj H
                  go_enter Try.func16, Try.ntmps16
                  go_wp2_with (first | ((with_reducible refine gate_callee (f := 28) rfl ?_); refine goesL_ (some 1) rfl rfl Try.func28 (by kernel_rfl) rfl #[.int .i64 2500] rfl (by (try simp only [List.map_toArray, List.map_cons, List.map_nil]); first | done | rfl | (simp only [List.length_drop, List.length_take]; rfl)) ?_; (with_reducible refine (halberdlaw0_Num.calls 2500 t143 _ A1.out).mono ?_); rintro e w' ⟨rfl, ⟨nd, rfl⟩⟩; refine ⟨_, rfl, ?_⟩) | (go_at_call 28; (with_reducible refine (halberdlaw0_Num.calls 2501 t144 _ A3.out).mono ?_); rintro e w' ⟨rfl, ⟨nd, rfl⟩⟩) | (go_at_call 28; (with_reducible refine (halberdlaw0_Num.calls 2502 t145 _ A5.out).mono ?_); rintro e w' ⟨rfl, ⟨nd, rfl⟩⟩) | (go_at_call 28; (with_reducible refine (halberdlaw0_Num.calls 2600 t146 _ A7.out).mono ?_); rintro e w' ⟨rfl, ⟨nd, rfl⟩⟩) | (go_at_call 28; (with_reducible refine (halberdlaw0_Num.calls 2601 t147 _ A9.out).mono ?_); rintro e w' ⟨rfl, ⟨nd, rfl⟩⟩) | (go_at_call 28; (with_reducible refine (halberdlaw0_Num.calls 2602 t148 _ A11.out).mono ?_); rintro e w' ⟨rfl, ⟨nd, rfl⟩⟩) | (go_at_call 28; (with_reducible refine (halberdlaw0_Num.calls 2603 t149 _ A13.out).mono ?_); rintro e w' ⟨rfl, ⟨nd, rfl⟩⟩) | (go_at_call 28; (with_reducible refine (halberdlaw0_Num.calls 2604 t150 _ A15.out).mono ?_); rintro e w' ⟨rfl, ⟨nd, rfl⟩⟩))
                  go_ret
                  exact ⟨by first | rfl | (simp; done) | (simp [*]; done), by repeat (first | exact Drawn0.refl _ | apply Drawn0.step)⟩
              · rw [if_neg c14] at H
                have c14b0 : (t149 == 2603) = false := beq_eq_false_iff_ne.mpr c14
                have c14b1 : (t149 != 2603) = true := bne_iff_ne.mpr c14
                obtain rfl := Option.some.inj H
                go_enter Try.func16, Try.ntmps16
                go_wp2_with (first | ((with_reducible refine gate_callee (f := 28) rfl ?_); refine goesL_ (some 1) rfl rfl Try.func28 (by kernel_rfl) rfl #[.int .i64 2500] rfl (by (try simp only [List.map_toArray, List.map_cons, List.map_nil]); first | done | rfl | (simp only [List.length_drop, List.length_take]; rfl)) ?_; (with_reducible refine (halberdlaw0_Num.calls 2500 t143 _ A1.out).mono ?_); rintro e w' ⟨rfl, ⟨nd, rfl⟩⟩; refine ⟨_, rfl, ?_⟩) | (go_at_call 28; (with_reducible refine (halberdlaw0_Num.calls 2501 t144 _ A3.out).mono ?_); rintro e w' ⟨rfl, ⟨nd, rfl⟩⟩) | (go_at_call 28; (with_reducible refine (halberdlaw0_Num.calls 2502 t145 _ A5.out).mono ?_); rintro e w' ⟨rfl, ⟨nd, rfl⟩⟩) | (go_at_call 28; (with_reducible refine (halberdlaw0_Num.calls 2600 t146 _ A7.out).mono ?_); rintro e w' ⟨rfl, ⟨nd, rfl⟩⟩) | (go_at_call 28; (with_reducible refine (halberdlaw0_Num.calls 2601 t147 _ A9.out).mono ?_); rintro e w' ⟨rfl, ⟨nd, rfl⟩⟩) | (go_at_call 28; (with_reducible refine (halberdlaw0_Num.calls 2602 t148 _ A11.out).mono ?_); rintro e w' ⟨rfl, ⟨nd, rfl⟩⟩) | (go_at_call 28; (with_reducible refine (halberdlaw0_Num.calls 2603 t149 _ A13.out).mono ?_); rintro e w' ⟨rfl, ⟨nd, rfl⟩⟩))
                go_ret
                exact ⟨by first | rfl | (simp; done) | (simp [*]; done), by repeat (first | exact Drawn0.refl _ | apply Drawn0.step)⟩
            · rw [if_neg c12] at H
              have c12b0 : (t148 == 2602) = false := beq_eq_false_iff_ne.mpr c12
              have c12b1 : (t148 != 2602) = true := bne_iff_ne.mpr c12
              obtain rfl := Option.some.inj H
              go_enter Try.func16, Try.ntmps16
              go_wp2_with (first | ((with_reducible refine gate_callee (f := 28) rfl ?_); refine goesL_ (some 1) rfl rfl Try.func28 (by kernel_rfl) rfl #[.int .i64 2500] rfl (by (try simp only [List.map_toArray, List.map_cons, List.map_nil]); first | done | rfl | (simp only [List.length_drop, List.length_take]; rfl)) ?_; (with_reducible refine (halberdlaw0_Num.calls 2500 t143 _ A1.out).mono ?_); rintro e w' ⟨rfl, ⟨nd, rfl⟩⟩; refine ⟨_, rfl, ?_⟩) | (go_at_call 28; (with_reducible refine (halberdlaw0_Num.calls 2501 t144 _ A3.out).mono ?_); rintro e w' ⟨rfl, ⟨nd, rfl⟩⟩) | (go_at_call 28; (with_reducible refine (halberdlaw0_Num.calls 2502 t145 _ A5.out).mono ?_); rintro e w' ⟨rfl, ⟨nd, rfl⟩⟩) | (go_at_call 28; (with_reducible refine (halberdlaw0_Num.calls 2600 t146 _ A7.out).mono ?_); rintro e w' ⟨rfl, ⟨nd, rfl⟩⟩) | (go_at_call 28; (with_reducible refine (halberdlaw0_Num.calls 2601 t147 _ A9.out).mono ?_); rintro e w' ⟨rfl, ⟨nd, rfl⟩⟩) | (go_at_call 28; (with_reducible refine (halberdlaw0_Num.calls 2602 t148 _ A11.out).mono ?_); rintro e w' ⟨rfl, ⟨nd, rfl⟩⟩))
              go_ret
              exact ⟨by first | rfl | (simp; done) | (simp [*]; done), by repeat (first | exact Drawn0.refl _ | apply Drawn0.step)⟩
          · rw [if_neg c10] at H
            have c10b0 : (t147 == 2601) = false := beq_eq_false_iff_ne.mpr c10
            have c10b1 : (t147 != 2601) = true := bne_iff_ne.mpr c10
            obtain rfl := Option.some.inj H
            go_enter Try.func16, Try.ntmps16
            go_wp2_with (first | ((with_reducible refine gate_callee (f := 28) rfl ?_); refine goesL_ (some 1) rfl rfl Try.func28 (by kernel_rfl) rfl #[.int .i64 2500] rfl (by (try simp only [List.map_toArray, List.map_cons, List.map_nil]); first | done | rfl | (simp only [List.length_drop, List.length_take]; rfl)) ?_; (with_reducible refine (halberdlaw0_Num.calls 2500 t143 _ A1.out).mono ?_); rintro e w' ⟨rfl, ⟨nd, rfl⟩⟩; refine ⟨_, rfl, ?_⟩) | (go_at_call 28; (with_reducible refine (halberdlaw0_Num.calls 2501 t144 _ A3.out).mono ?_); rintro e w' ⟨rfl, ⟨nd, rfl⟩⟩) | (go_at_call 28; (with_reducible refine (halberdlaw0_Num.calls 2502 t145 _ A5.out).mono ?_); rintro e w' ⟨rfl, ⟨nd, rfl⟩⟩) | (go_at_call 28; (with_reducible refine (halberdlaw0_Num.calls 2600 t146 _ A7.out).mono ?_); rintro e w' ⟨rfl, ⟨nd, rfl⟩⟩) | (go_at_call 28; (with_reducible refine (halberdlaw0_Num.calls 2601 t147 _ A9.out).mono ?_); rintro e w' ⟨rfl, ⟨nd, rfl⟩⟩))
            go_ret
            exact ⟨by first | rfl | (simp; done) | (simp [*]; done), by repeat (first | exact Drawn0.refl _ | apply Drawn0.step)⟩
        · rw [if_neg c8] at H
          have c8b0 : (t146 == 2600) = false := beq_eq_false_iff_ne.mpr c8
          have c8b1 : (t146 != 2600) = true := bne_iff_ne.mpr c8
          obtain rfl := Option.some.inj H
          go_enter Try.func16, Try.ntmps16
          go_wp2_with (first | ((with_reducible refine gate_callee (f := 28) rfl ?_); refine goesL_ (some 1) rfl rfl Try.func28 (by kernel_rfl) rfl #[.int .i64 2500] rfl (by (try simp only [List.map_toArray, List.map_cons, List.map_nil]); first | done | rfl | (simp only [List.length_drop, List.length_take]; rfl)) ?_; (with_reducible refine (halberdlaw0_Num.calls 2500 t143 _ A1.out).mono ?_); rintro e w' ⟨rfl, ⟨nd, rfl⟩⟩; refine ⟨_, rfl, ?_⟩) | (go_at_call 28; (with_reducible refine (halberdlaw0_Num.calls 2501 t144 _ A3.out).mono ?_); rintro e w' ⟨rfl, ⟨nd, rfl⟩⟩) | (go_at_call 28; (with_reducible refine (halberdlaw0_Num.calls 2502 t145 _ A5.out).mono ?_); rintro e w' ⟨rfl, ⟨nd, rfl⟩⟩) | (go_at_call 28; (with_reducible refine (halberdlaw0_Num.calls 2600 t146 _ A7.out).mono ?_); rintro e w' ⟨rfl, ⟨nd, rfl⟩⟩))
          go_ret
          exact ⟨by first | rfl | (simp; done) | (simp [*]; done), by repeat (first | exact Drawn0.refl _ | apply Drawn0.step)⟩
      · rw [if_neg c6] at H
        have c6b0 : (t145 == 2502) = false := beq_eq_false_iff_ne.mpr c6
        have c6b1 : (t145 != 2502) = true := bne_iff_ne.mpr c6
        obtain rfl := Option.some.inj H
        go_enter Try.func16, Try.ntmps16
        go_wp2_with (first | ((with_reducible refine gate_callee (f := 28) rfl ?_); refine goesL_ (some 1) rfl rfl Try.func28 (by kernel_rfl) rfl #[.int .i64 2500] rfl (by (try simp only [List.map_toArray, List.map_cons, List.map_nil]); first | done | rfl | (simp only [List.length_drop, List.length_take]; rfl)) ?_; (with_reducible refine (halberdlaw0_Num.calls 2500 t143 _ A1.out).mono ?_); rintro e w' ⟨rfl, ⟨nd, rfl⟩⟩; refine ⟨_, rfl, ?_⟩) | (go_at_call 28; (with_reducible refine (halberdlaw0_Num.calls 2501 t144 _ A3.out).mono ?_); rintro e w' ⟨rfl, ⟨nd, rfl⟩⟩) | (go_at_call 28; (with_reducible refine (halberdlaw0_Num.calls 2502 t145 _ A5.out).mono ?_); rintro e w' ⟨rfl, ⟨nd, rfl⟩⟩))
        go_ret
        exact ⟨by first | rfl | (simp; done) | (simp [*]; done), by repeat (first | exact Drawn0.refl _ | apply Drawn0.step)⟩
    · rw [if_neg c4] at H
      have c4b0 : (t144 == 2501) = false := beq_eq_false_iff_ne.mpr c4
      have c4b1 : (t144 != 2501) = true := bne_iff_ne.mpr c4
      obtain rfl := Option.some.inj H
      go_enter Try.func16, Try.ntmps16
      go_wp2_with (first | ((with_reducible refine gate_callee (f := 28) rfl ?_); refine goesL_ (some 1) rfl rfl Try.func28 (by kernel_rfl) rfl #[.int .i64 2500] rfl (by (try simp only [List.map_toArray, List.map_cons, List.map_nil]); first | done | rfl | (simp only [List.length_drop, List.length_take]; rfl)) ?_; (with_reducible refine (halberdlaw0_Num.calls 2500 t143 _ A1.out).mono ?_); rintro e w' ⟨rfl, ⟨nd, rfl⟩⟩; refine ⟨_, rfl, ?_⟩) | (go_at_call 28; (with_reducible refine (halberdlaw0_Num.calls 2501 t144 _ A3.out).mono ?_); rintro e w' ⟨rfl, ⟨nd, rfl⟩⟩))
      go_ret
      exact ⟨by first | rfl | (simp; done) | (simp [*]; done), by repeat (first | exact Drawn0.refl _ | apply Drawn0.step)⟩
  · rw [if_neg c2] at H
    have c2b0 : (t143 == 2500) = false := beq_eq_false_iff_ne.mpr c2
    have c2b1 : (t143 != 2500) = true := bne_iff_ne.mpr c2
    obtain rfl := Option.some.inj H
    go_enter Try.func16, Try.ntmps16
    go_wp2_with (first | ((with_reducible refine gate_callee (f := 28) rfl ?_); refine goesL_ (some 1) rfl rfl Try.func28 (by kernel_rfl) rfl #[.int .i64 2500] rfl (by (try simp only [List.map_toArray, List.map_cons, List.map_nil]); first | done | rfl | (simp only [List.length_drop, List.length_take]; rfl)) ?_; (with_reducible refine (halberdlaw0_Num.calls 2500 t143 _ A1.out).mono ?_); rintro e w' ⟨rfl, ⟨nd, rfl⟩⟩; refine ⟨_, rfl, ?_⟩))
    go_ret
    exact ⟨by first | rfl | (simp; done) | (simp [*]; done), by repeat (first | exact Drawn0.refl _ | apply Drawn0.step)⟩

/-! ### halberdlaw0_errors5: function 17 -/
def halberdlaw0_errors5.f  : Option (Bool) := (halberdlaw0_Num.f 2900).bind fun t157 => (if t157 = 2900 then ((halberdlaw0_Num.f 2901).bind fun t158 => (some (t158 == 2901))) else (some false))
set_option maxHeartbeats 8000000 in
set_option maxRecDepth 100000 in
theorem halberdlaw0_errors5.calls  (r : Bool) (w : World) (h : halberdlaw0_errors5.f  = some r) :
    Calls Try.prog 17 #[] w fun e w' => e = .returned (.bool r) ∧ Drawn0 w w' := by
  have H : ((halberdlaw0_Num.f 2900).bind fun t157 => (if t157 = 2900 then ((halberdlaw0_Num.f 2901).bind fun t158 => (some (t158 == 2901))) else (some false))) = some r := h
  clear h
  replace H := Option.bind_eq_some_iff.mp H
  obtain ⟨t157, A10, H⟩ := H
  replace H : (if t157 = 2900 then ((halberdlaw0_Num.f 2901).bind fun t158 => (some (t158 == 2901))) else (some false)) = some r := H
  have A1 := Aside0.mk A10
  clear A10
  by_cases c2 : t157 = 2900
  · rw [if_pos c2] at H
    have c2b0 : (t157 == 2900) = true := beq_iff_eq.mpr c2
    have c2b1 : (t157 != 2900) = false := bne_eq_false_iff_eq.mpr c2
    clear c2
    replace H := Option.bind_eq_some_iff.mp H
    obtain ⟨t158, A30, H⟩ := H
    replace H : (some (t158 == 2901)) = some r := H
    have A3 := Aside0.mk A30
    clear A30
    obtain rfl := Option.some.inj H
    go_enter Try.func17, Try.ntmps17
    go_wp2_with (first | ((with_reducible refine gate_callee (f := 28) rfl ?_); refine goesL_ (some 1) rfl rfl Try.func28 (by kernel_rfl) rfl #[.int .i64 2900] rfl (by (try simp only [List.map_toArray, List.map_cons, List.map_nil]); first | done | rfl | (simp only [List.length_drop, List.length_take]; rfl)) ?_; (with_reducible refine (halberdlaw0_Num.calls 2900 t157 _ A1.out).mono ?_); rintro e w' ⟨rfl, ⟨nd, rfl⟩⟩; refine ⟨_, rfl, ?_⟩) | (go_at_call 28; (with_reducible refine (halberdlaw0_Num.calls 2901 t158 _ A3.out).mono ?_); rintro e w' ⟨rfl, ⟨nd, rfl⟩⟩))
    go_ret
    exact ⟨by first | rfl | (simp; done) | (simp [*]; done), by repeat (first | exact Drawn0.refl _ | apply Drawn0.step)⟩
  · rw [if_neg c2] at H
    have c2b0 : (t157 == 2900) = false := beq_eq_false_iff_ne.mpr c2
    have c2b1 : (t157 != 2900) = true := bne_iff_ne.mpr c2
    obtain rfl := Option.some.inj H
    go_enter Try.func17, Try.ntmps17
    go_wp2_with (first | ((with_reducible refine gate_callee (f := 28) rfl ?_); refine goesL_ (some 1) rfl rfl Try.func28 (by kernel_rfl) rfl #[.int .i64 2900] rfl (by (try simp only [List.map_toArray, List.map_cons, List.map_nil]); first | done | rfl | (simp only [List.length_drop, List.length_take]; rfl)) ?_; (with_reducible refine (halberdlaw0_Num.calls 2900 t157 _ A1.out).mono ?_); rintro e w' ⟨rfl, ⟨nd, rfl⟩⟩; refine ⟨_, rfl, ?_⟩))
    go_ret
    exact ⟨by first | rfl | (simp; done) | (simp [*]; done), by repeat (first | exact Drawn0.refl _ | apply Drawn0.step)⟩

/-! ### halberdlaw0_numbers1: function 18 -/
def halberdlaw0_numbers1.f  : Option (Bool) := some true
set_option maxHeartbeats 8000000 in
set_option maxRecDepth 100000 in
theorem halberdlaw0_numbers1.calls  (r : Bool) (w : World) (h : halberdlaw0_numbers1.f  = some r) :
    Calls Try.prog 18 #[] w fun e w' => e = .returned (.bool r) ∧ Drawn0 w w' := by
  have H : (some true) = some r := h
  clear h
  obtain rfl := Option.some.inj H
  go_enter Try.func18, Try.ntmps18
  go_wp2
  go_ret
  exact ⟨by first | rfl | (simp; done) | (simp [*]; done), by repeat (first | exact Drawn0.refl _ | apply Drawn0.step)⟩

/-! ### halberdlaw0_numbers2: function 19 -/
def halberdlaw0_numbers2.f  : Option (Bool) := some true
set_option maxHeartbeats 8000000 in
set_option maxRecDepth 100000 in
theorem halberdlaw0_numbers2.calls  (r : Bool) (w : World) (h : halberdlaw0_numbers2.f  = some r) :
    Calls Try.prog 19 #[] w fun e w' => e = .returned (.bool r) ∧ Drawn0 w w' := by
  have H : (some true) = some r := h
  clear h
  obtain rfl := Option.some.inj H
  go_enter Try.func19, Try.ntmps19
  go_wp2
  go_ret
  exact ⟨by first | rfl | (simp; done) | (simp [*]; done), by repeat (first | exact Drawn0.refl _ | apply Drawn0.step)⟩

/-! ### halberdlaw0_numbers3: function 20 -/
def halberdlaw0_numbers3.f  : Option (Bool) := some true
set_option maxHeartbeats 8000000 in
set_option maxRecDepth 100000 in
theorem halberdlaw0_numbers3.calls  (r : Bool) (w : World) (h : halberdlaw0_numbers3.f  = some r) :
    Calls Try.prog 20 #[] w fun e w' => e = .returned (.bool r) ∧ Drawn0 w w' := by
  have H : (some true) = some r := h
  clear h
  obtain rfl := Option.some.inj H
  go_enter Try.func20, Try.ntmps20
  go_wp2
  go_ret
  exact ⟨by first | rfl | (simp; done) | (simp [*]; done), by repeat (first | exact Drawn0.refl _ | apply Drawn0.step)⟩

/-! ### halberdlaw0_numbers4: function 21 -/
def halberdlaw0_numbers4.f  : Option (Bool) := some true
set_option maxHeartbeats 8000000 in
set_option maxRecDepth 100000 in
theorem halberdlaw0_numbers4.calls  (r : Bool) (w : World) (h : halberdlaw0_numbers4.f  = some r) :
    Calls Try.prog 21 #[] w fun e w' => e = .returned (.bool r) ∧ Drawn0 w w' := by
  have H : (some true) = some r := h
  clear h
  obtain rfl := Option.some.inj H
  go_enter Try.func21, Try.ntmps21
  go_wp2
  go_ret
  exact ⟨by first | rfl | (simp; done) | (simp [*]; done), by repeat (first | exact Drawn0.refl _ | apply Drawn0.step)⟩

/-! ### halberdlaw0_numbers5: function 22 -/
def halberdlaw0_numbers5.f  : Option (Bool) := some true
set_option maxHeartbeats 8000000 in
set_option maxRecDepth 100000 in
theorem halberdlaw0_numbers5.calls  (r : Bool) (w : World) (h : halberdlaw0_numbers5.f  = some r) :
    Calls Try.prog 22 #[] w fun e w' => e = .returned (.bool r) ∧ Drawn0 w w' := by
  have H : (some true) = some r := h
  clear h
  obtain rfl := Option.some.inj H
  go_enter Try.func22, Try.ntmps22
  go_wp2
  go_ret
  exact ⟨by first | rfl | (simp; done) | (simp [*]; done), by repeat (first | exact Drawn0.refl _ | apply Drawn0.step)⟩

/-! ### halberdlaw0_numbers6: function 23 -/
def halberdlaw0_numbers6.f  : Option (Bool) := some true
set_option maxHeartbeats 8000000 in
set_option maxRecDepth 100000 in
theorem halberdlaw0_numbers6.calls  (r : Bool) (w : World) (h : halberdlaw0_numbers6.f  = some r) :
    Calls Try.prog 23 #[] w fun e w' => e = .returned (.bool r) ∧ Drawn0 w w' := by
  have H : (some true) = some r := h
  clear h
  obtain rfl := Option.some.inj H
  go_enter Try.func23, Try.ntmps23
  go_wp2
  go_ret
  exact ⟨by first | rfl | (simp; done) | (simp [*]; done), by repeat (first | exact Drawn0.refl _ | apply Drawn0.step)⟩

end Go.Proofs.Ytggnmnpmhknjgaa.X
