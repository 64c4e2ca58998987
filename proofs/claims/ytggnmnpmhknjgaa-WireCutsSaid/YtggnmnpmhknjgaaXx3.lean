-- Written by a program of this session (wip/tools/xprint.py), over the kit's printer.
import Derived.Test.YtggnmnpmhknjgaaXx0
import Derived.Test.YtggnmnpmhknjgaaXx1
namespace Go.Proofs.Ytggnmnpmhknjgaa.X
open Go.RowKit Go.Proofs.YtggnmnpmhknjgaaW.PrintWords Go.Proofs.YtggnmnpmhknjgaaW.PrintLast Go.Proofs.YtggnmnpmhknjgaaW.PrintMore
attribute [local go_sem] max2_int min2_int max_two min_two max_three min_three max_four min_four   -- for this text's walks alone
set_option linter.unusedVariables false
set_option linter.unusedSimpArgs false

/-! ### halberdlaw0_errors3: function 15 -/
def halberdlaw0_errors3.f  : Option (Bool) := (halberdlaw0_Num.f 1601).bind fun t129 => (if t129 = 1601 then ((halberdlaw0_Num.f 1700).bind fun t130 => (if t130 = 1700 then ((halberdlaw0_Num.f 1701).bind fun t131 => (if t131 = 1701 then ((halberdlaw0_Num.f 1702).bind fun t132 => (if t132 = 1702 then ((halberdlaw0_Num.f 1800).bind fun t133 => (if t133 = 1800 then ((halberdlaw0_Num.f 1900).bind fun t134 => (if t134 = 1900 then ((halberdlaw0_Num.f 2000).bind fun t135 => (if t135 = 2000 then ((halberdlaw0_Num.f 2001).bind fun t136 => (if t136 = 2001 then ((halberdlaw0_Num.f 2100).bind fun t137 => (if t137 = 2100 then ((halberdlaw0_Num.f 2101).bind fun t138 => (if t138 = 2101 then ((halberdlaw0_Num.f 2200).bind fun t139 => (if t139 = 2200 then ((halberdlaw0_Num.f 2300).bind fun t140 => (if t140 = 2300 then ((halberdlaw0_Num.f 2301).bind fun t141 => (if t141 = 2301 then ((halberdlaw0_Num.f 2400).bind fun t142 => (some (t142 == 2400))) else (some false))) else (some false))) else (some false))) else (some false))) else (some false))) else (some false))) else (some false))) else (some false))) else (some false))) else (some false))) else (some false))) else (some false))) else (some false))
set_option maxHeartbeats 8000000 in
set_option maxRecDepth 100000 in
theorem halberdlaw0_errors3.calls  (r : Bool) (w : World) (h : halberdlaw0_errors3.f  = some r) :
    Calls Try.prog 15 #[] w fun e w' => e = .returned (.bool r) ∧ Drawn0 w w' := by
  have H : ((halberdlaw0_Num.f 1601).bind fun t129 => (if t129 = 1601 then ((halberdlaw0_Num.f 1700).bind fun t130 => (if t130 = 1700 then ((halberdlaw0_Num.f 1701).bind fun t131 => (if t131 = 1701 then ((halberdlaw0_Num.f 1702).bind fun t132 => (if t132 = 1702 then ((halberdlaw0_Num.f 1800).bind fun t133 => (if t133 = 1800 then ((halberdlaw0_Num.f 1900).bind fun t134 => (if t134 = 1900 then ((halberdlaw0_Num.f 2000).bind fun t135 => (if t135 = 2000 then ((halberdlaw0_Num.f 2001).bind fun t136 => (if t136 = 2001 then ((halberdlaw0_Num.f 2100).bind fun t137 => (if t137 = 2100 then ((halberdlaw0_Num.f 2101).bind fun t138 => (if t138 = 2101 then ((halberdlaw0_Num.f 2200).bind fun t139 => (if t139 = 2200 then ((halberdlaw0_Num.f 2300).bind fun t140 => (if t140 = 2300 then ((halberdlaw0_Num.f 2301).bind fun t141 => (if t141 = 2301 then ((halberdlaw0_Num.f 2400).bind fun t142 => (some (t142 == 2400))) else (some false))) else (some false))) else (some false))) else (some false))) else (some false))) else (some false))) else (some false))) else (some false))) else (some false))) else (some false))) else (some false))) else (some false))) else (some false))) = some r := h
  clear h
  replace H := Option.bind_eq_some_iff.mp H
  obtain ⟨t129, A10, H⟩ := H
  replace H : (if t129 = 1601 then ((halberdlaw0_Num.f 1700).bind fun t130 => (if t130 = 1700 then ((halberdlaw0_Num.f 1701).bind fun t131 => (if t131 = 1701 then ((halberdlaw0_Num.f 1702).bind fun t132 => (if t132 = 1702 then ((halberdlaw0_Num.f 1800).bind fun t133 => (if t133 = 1800 then ((halberdlaw0_Num.f 1900).bind fun t134 => (if t134 = 1900 then ((halberdlaw0_Num.f 2000).bind fun t135 => (if t135 = 2000 then ((halberdlaw0_Num.f 2001).bind fun t136 => (if t136 = 2001 then ((halberdlaw0_Num.f 2100).bind fun t137 => (if t137 = 2100 then ((halberdlaw0_Num.f 2101).bind fun t138 => (if t138 = 2101 then ((halberdlaw0_Num.f 2200).bind fun t139 => (if t139 = 2200 then ((halberdlaw0_Num.f 2300).bind fun t140 => (if t140 = 2300 then ((halberdlaw0_Num.f 2301).bind fun t141 => (if t141 = 2301 then ((halberdlaw0_Num.f 2400).bind fun t142 => (some (t142 == 2400))) else (some false))) else (some false))) else (some false))) else (some false))) else (some false))) else (some false))) else (some false))) else (some false))) else (some false))) else (some false))) else (some false))) else (some false))) else (some false)) = some r := H
  have A1 := Aside0.mk A10
  clear A10
  by_cases c2 : t129 = 1601
  · rw [if_pos c2] at H
    have c2b0 : (t129 == 1601) = true := beq_iff_eq.mpr c2
    have c2b1 : (t129 != 1601) = false := bne_eq_false_iff_eq.mpr c2
    clear c2
    replace H := Option.bind_eq_some_iff.mp H
    obtain ⟨t130, A30, H⟩ := H
    replace H : (if t130 = 1700 then ((halberdlaw0_Num.f 1701).bind fun t131 => (if t131 = 1701 then ((halberdlaw0_Num.f 1702).bind fun t132 => (if t132 = 1702 then ((halberdlaw0_Num.f 1800).bind fun t133 => (if t133 = 1800 then ((halberdlaw0_Num.f 1900).bind fun t134 => (if t134 = 1900 then ((halberdlaw0_Num.f 2000).bind fun t135 => (if t135 = 2000 then ((halberdlaw0_Num.f 2001).bind fun t136 => (if t136 = 2001 then ((halberdlaw0_Num.f 2100).bind fun t137 => (if t137 = 2100 then ((halberdlaw0_Num.f 2101).bind fun t138 => (if t138 = 2101 then ((halberdlaw0_Num.f 2200).bind fun t139 => (if t139 = 2200 then ((halberdlaw0_Num.f 2300).bind fun t140 => (if t140 = 2300 then ((halberdlaw0_Num.f 2301).bind fun t141 => (if t141 = 2301 then ((halberdlaw0_Num.f 2400).bind fun t142 => (some (t142 == 2400))) else (some false))) else (some false))) else (some false))) else (some false))) else (some false))) else (some false))) else (some false))) else (some false))) else (some false))) else (some false))) else (some false))) else (some false)) = some r := H
    have A3 := Aside0.mk A30
    clear A30
    by_cases c4 : t130 = 1700
    · rw [if_pos c4] at H
      have c4b0 : (t130 == 1700) = true := beq_iff_eq.mpr c4
      have c4b1 : (t130 != 1700) = false := bne_eq_false_iff_eq.mpr c4
      clear c4
      replace H := Option.bind_eq_some_iff.mp H
      obtain ⟨t131, A50, H⟩ := H
      replace H : (if t131 = 1701 then ((halberdlaw0_Num.f 1702).bind fun t132 => (if t132 = 1702 then ((halberdlaw0_Num.f 1800).bind fun t133 => (if t133 = 1800 then ((halberdlaw0_Num.f 1900).bind fun t134 => (if t134 = 1900 then ((halberdlaw0_Num.f 2000).bind fun t135 => (if t135 = 2000 then ((halberdlaw0_Num.f 2001).bind fun t136 => (if t136 = 2001 then ((halberdlaw0_Num.f 2100).bind fun t137 => (if t137 = 2100 then ((halberdlaw0_Num.f 2101).bind fun t138 => (if t138 = 2101 then ((halberdlaw0_Num.f 2200).bind fun t139 => (if t139 = 2200 then ((halberdlaw0_Num.f 2300).bind fun t140 => (if t140 = 2300 then ((halberdlaw0_Num.f 2301).bind fun t141 => (if t141 = 2301 then ((halberdlaw0_Num.f 2400).bind fun t142 => (some (t142 == 2400))) else (some false))) else (some false))) else (some false))) else (some false))) else (some false))) else (some false))) else (some false))) else (some false))) else (some false))) else (some false))) else (some false)) = some r := H
      have A5 := Aside0.mk A50
      clear A50
      by_cases c6 : t131 = 1701
      · rw [if_pos c6] at H
        have c6b0 : (t131 == 1701) = true := beq_iff_eq.mpr c6
        have c6b1 : (t131 != 1701) = false := bne_eq_false_iff_eq.mpr c6
        clear c6
        replace H := Option.bind_eq_some_iff.mp H
        obtain ⟨t132, A70, H⟩ := H
        replace H : (if t132 = 1702 then ((halberdlaw0_Num.f 1800).bind fun t133 => (if t133 = 1800 then ((halberdlaw0_Num.f 1900).bind fun t134 => (if t134 = 1900 then ((halberdlaw0_Num.f 2000).bind fun t135 => (if t135 = 2000 then ((halberdlaw0_Num.f 2001).bind fun t136 => (if t136 = 2001 then ((halberdlaw0_Num.f 2100).bind fun t137 => (if t137 = 2100 then ((halberdlaw0_Num.f 2101).bind fun t138 => (if t138 = 2101 then ((halberdlaw0_Num.f 2200).bind fun t139 => (if t139 = 2200 then ((halberdlaw0_Num.f 2300).bind fun t140 => (if t140 = 2300 then ((halberdlaw0_Num.f 2301).bind fun t141 => (if t141 = 2301 then ((halberdlaw0_Num.f 2400).bind fun t142 => (some (t142 == 2400))) else (some false))) else (some false))) else (some false))) else (some false))) else (some false))) else (some false))) else (some false))) else (some false))) else (some false))) else (some false)) = some r := H
        have A7 := Aside0.mk A70
        clear A70
        by_cases c8 : t132 = 1702
        · rw [if_pos c8] at H
          have c8b0 : (t132 == 1702) = true := beq_iff_eq.mpr c8
          have c8b1 : (t132 != 1702) = false := bne_eq_false_iff_eq.mpr c8
          clear c8
          replace H := Option.bind_eq_some_iff.mp H
          obtain ⟨t133, A90, H⟩ := H
          replace H : (if t133 = 1800 then ((halberdlaw0_Num.f 1900).bind fun t134 => (if t134 = 1900 then ((halberdlaw0_Num.f 2000).bind fun t135 => (if t135 = 2000 then ((halberdlaw0_Num.f 2001).bind fun t136 => (if t136 = 2001 then ((halberdlaw0_Num.f 2100).bind fun t137 => (if t137 = 2100 then ((halberdlaw0_Num.f 2101).bind fun t138 => (if t138 = 2101 then ((halberdlaw0_Num.f 2200).bind fun t139 => (if t139 = 2200 then ((halberdlaw0_Num.f 2300).bind fun t140 => (if t140 = 2300 then ((halberdlaw0_Num.f 2301).bind fun t141 => (if t141 = 2301 then ((halberdlaw0_Num.f 2400).bind fun t142 => (some (t142 == 2400))) else (some false))) else (some false))) else (some false))) else (some false))) else (some false))) else (some false))) else (some false))) else (some false))) else (some false)) = some r := H
          have A9 := Aside0.mk A90
          clear A90
          by_cases c10 : t133 = 1800
          · rw [if_pos c10] at H
            have c10b0 : (t133 == 1800) = true := beq_iff_eq.mpr c10
            have c10b1 : (t133 != 1800) = false := bne_eq_false_iff_eq.mpr c10
            clear c10
            replace H := Option.bind_eq_some_iff.mp H
            obtain ⟨t134, A110, H⟩ := H
            replace H : (if t134 = 1900 then ((halberdlaw0_Num.f 2000).bind fun t135 => (if t135 = 2000 then ((halberdlaw0_Num.f 2001).bind fun t136 => (if t136 = 2001 then ((halberdlaw0_Num.f 2100).bind fun t137 => (if t137 = 2100 then ((halberdlaw0_Num.f 2101).bind fun t138 => (if t138 = 2101 then ((halberdlaw0_Num.f 2200).bind fun t139 => (if t139 = 2200 then ((halberdlaw0_Num.f 2300).bind fun t140 => (if t140 = 2300 then ((halberdlaw0_Num.f 2301).bind fun t141 => (if t141 = 2301 then ((halberdlaw0_Num.f 2400).bind fun t142 => (some (t142 == 2400))) else (some false))) else (some false))) else (some false))) else (some false))) else (some false))) else (some false))) else (some false))) else (some false)) = some r := H
            have A11 := Aside0.mk A110
            clear A110
            by_cases c12 : t134 = 1900
            · rw [if_pos c12] at H
              have c12b0 : (t134 == 1900) = true := beq_iff_eq.mpr c12
              have c12b1 : (t134 != 1900) = false := bne_eq_false_iff_eq.mpr c12
              clear c12
              replace H := Option.bind_eq_some_iff.mp H
              obtain ⟨t135, A130, H⟩ := H
              replace H : (if t135 = 2000 then ((halberdlaw0_Num.f 2001).bind fun t136 => (if t136 = 2001 then ((halberdlaw0_Num.f 2100).bind fun t137 => (if t137 = 2100 then ((halberdlaw0_Num.f 2101).bind fun t138 => (if t138 = 2101 then ((halberdlaw0_Num.f 2200).bind fun t139 => (if t139 = 2200 then ((halberdlaw0_Num.f 2300).bind fun t140 => (if t140 = 2300 then ((halberdlaw0_Num.f 2301).bind fun t141 => (if t141 = 2301 then ((halberdlaw0_Num.f 2400).bind fun t142 => (some (t142 == 2400))) else (some false))) else (some false))) else (some false))) else (some false))) else (some false))) else (some false))) else (some false)) = some r := H
              have A13 := Aside0.mk A130
              clear A130
              by_cases c14 : t135 = 2000
              · rw [if_pos c14] at H
                have c14b0 : (t135 == 2000) = true := beq_iff_eq.mpr c14
                have c14b1 : (t135 != 2000) = false := bne_eq_false_iff_eq.mpr c14
                clear c14
                replace H := Option.bind_eq_some_iff.mp H
                obtain ⟨t136, A150, H⟩ := H
                replace H : (if t136 = 2001 then ((halberdlaw0_Num.f 2100).bind fun t137 => (if t137 = 2100 then ((halberdlaw0_Num.f 2101).bind fun t138 => (if t138 = 2101 then ((halberdlaw0_Num.f 2200).bind fun t139 => (if t139 = 2200 then ((halberdlaw0_Num.f 2300).bind fun t140 => (if t140 = 2300 then ((halberdlaw0_Num.f 2301).bind fun t141 => (if t141 = 2301 then ((halberdlaw0_Num.f 2400).bind fun t142 => (some (t142 == 2400))) else (some false))) else (some false))) else (some false))) else (some false))) else (some false))) else (some false)) = some r := H
                have A15 := Aside0.mk A150
                clear A150
                by_cases c16 : t136 = 2001
                · rw [if_pos c16] at H
                  have c16b0 : (t136 == 2001) = true := beq_iff_eq.mpr c16
                  have c16b1 : (t136 != 2001) = false := bne_eq_false_iff_eq.mpr c16
                  clear c16
                  replace H := Option.bind_eq_some_iff.mp H
                  obtain ⟨t137, A170, H⟩ := H
                  replace H : (if t137 = 2100 then ((halberdlaw0_Num.f 2101).bind fun t138 => (if t138 = 2101 then ((halberdlaw0_Num.f 2200).bind fun t139 => (if t139 = 2200 then ((halberdlaw0_Num.f 2300).bind fun t140 => (if t140 = 2300 then ((halberdlaw0_Num.f 2301).bind fun t141 => (if t141 = 2301 then ((halberdlaw0_Num.f 2400).bind fun t142 => (some (t142 == 2400))) else (some false))) else (some false))) else (some false))) else (some false))) else (some false)) = some r := H
                  have A17 := Aside0.mk A170
                  clear A170
                  by_cases c18 : t137 = 2100
                  · rw [if_pos c18] at H
                    have c18b0 : (t137 == 2100) = true := beq_iff_eq.mpr c18
                    have c18b1 : (t137 != 2100) = false := bne_eq_false_iff_eq.mpr c18
                    clear c18
                    replace H := Option.bind_eq_some_iff.mp H
                    obtain ⟨t138, A190, H⟩ := H
                    replace H : (if t138 = 2101 then ((halberdlaw0_Num.f 2200).bind fun t139 => (if t139 = 2200 then ((halberdlaw0_Num.f 2300).bind fun t140 => (if t140 = 2300 then ((halberdlaw0_Num.f 2301).bind fun t141 => (if t141 = 2301 then ((halberdlaw0_Num.f 2400).bind fun t142 => (some (t142 == 2400))) else (some false))) else (some false))) else (some false))) else (some false)) = some r := H
                    have A19 := Aside0.mk A190
                    clear A190
                    by_cases c20 : t138 = 2101
                    · rw [if_pos c20] at H
                      have c20b0 : (t138 == 2101) = true := beq_iff_eq.mpr c20
                      have c20b1 : (t138 != 2101) = false := bne_eq_false_iff_eq.mpr c20
                      clear c20
                      replace H := Option.bind_eq_some_iff.mp H
                      obtain ⟨t139, A210, H⟩ := H
                      replace H : (if t139 = 2200 then ((halberdlaw0_Num.f 2300).bind fun t140 => (if t140 = 2300 then ((halberdlaw0_Num.f 2301).bind fun t141 => (if t141 = 2301 then ((halberdlaw0_Num.f 2400).bind fun t142 => (some (t142 == 2400))) else (some false))) else (some false))) else (some false)) = some r := H
                      have A21 := Aside0.mk A210
                      clear A210
                      by_cases c22 : t139 = 2200
                      · rw [if_pos c22] at H
                        have c22b0 : (t139 == 2200) = true := beq_iff_eq.mpr c22
                        have c22b1 : (t139 != 2200) = false := bne_eq_false_iff_eq.mpr c22
                        clear c22
                        replace H := Option.bind_eq_some_iff.mp H
                        obtain ⟨t140, A230, H⟩ := H
                        replace H : (if t140 = 2300 then ((halberdlaw0_Num.f 2301).bind fun t141 => (if t141 = 2301 then ((halberdlaw0_Num.f 2400).bind fun t142 => (some (t142 == 2400))) else (some false))) else (some false)) = some r := H
                        have A23 := Aside0.mk A230
                        clear A230
                        by_cases c24 : t140 = 2300
                        · rw [if_pos c24] at H
                          have c24b0 : (t140 == 2300) = true := beq_iff_eq.mpr c24
                          have c24b1 : (t140 != 2300) = false := bne_eq_false_iff_eq.mpr c24
                          clear c24
                          replace H := Option.bind_eq_some_iff.mp H
                          obtain ⟨t141, A250, H⟩ := H
                          replace H : (if t141 = 2301 then ((halberdlaw0_Num.f 2400).bind fun t142 => (some (t142 == 2400))) else (some false)) = some r := H
                          have A25 := Aside0.mk A250
                          clear A250
                          by_cases c26 : t141 = 2301
                          · rw [if_pos c26] at H
                            have c26b0 : (t141 == 2301) = true := beq_iff_eq.mpr c26
                            have c26b1 : (t141 != 2301) = false := bne_eq_false_iff_eq.mpr c26
                            clear c26
                            replace H := Option.bind_eq_some_iff.mp H
                            obtain ⟨t142, A270, H⟩ := H
                            replace H : (some (t142 == 2400)) = some r := H
                            have A27 := Aside0.mk A270
                            clear A270
                            obtain rfl := Option.some.inj H
                            go_enter Try.func15, Try.ntmps15
                            go_wp2_with (first | ((with_reducible refine gate_callee (f := 28) rfl ?_); refine goesL_ (some 1) rfl rfl Try.func28 (by kernel_rfl) rfl #[.int .i64 1601] rfl (by (try simp only [List.map_toArray, List.map_cons, List.map_nil]); first | done | rfl | (simp only [List.length_drop, List.length_take]; rfl)) ?_; (with_reducible refine (halberdlaw0_Num.calls 1601 t129 _ A1.out).mono ?_); rintro e w' ⟨rfl, ⟨nd, rfl⟩⟩; refine ⟨_, rfl, ?_⟩) | (go_at_call 28; (with_reducible refine (halberdlaw0_Num.calls 1700 t130 _ A3.out).mono ?_); rintro e w' ⟨rfl, ⟨nd, rfl⟩⟩) | (go_at_call 28; (with_reducible refine (halberdlaw0_Num.calls 1701 t131 _ A5.out).mono ?_); rintro e w' ⟨rfl, ⟨nd, rfl⟩⟩) | (go_at_call 28; (with_reducible refine (halberdlaw0_Num.calls 1702 t132 _ A7.out).mono ?_); rintro e w' ⟨rfl, ⟨nd, rfl⟩⟩) | (go_at_call 28; (with_reducible refine (halberdlaw0_Num.calls 1800 t133 _ A9.out).mono ?_); rintro e w' ⟨rfl, ⟨nd, rfl⟩⟩) | (go_at_call 28; (with_reducible refine (halberdlaw0_Num.calls 1900 t134 _ A11.out).mono ?_); rintro e w' ⟨rfl, ⟨nd, rfl⟩⟩) | (go_at_call 28; (with_reducible refine (halberdlaw0_Num.calls 2000 t135 _ A13.out).mono ?_); rintro e w' ⟨rfl, ⟨nd, rfl⟩⟩) | (go_at_call 28; (with_reducible refine (halberdlaw0_Num.calls 2001 t136 _ A15.out).mono ?_); rintro e w' ⟨rfl, ⟨nd, rfl⟩⟩) | (go_at_call 28; (with_reducible refine (halberdlaw0_Num.calls 2100 t137 _ A17.out).mono ?_); rintro e w' ⟨rfl, ⟨nd, rfl⟩⟩) | (go_at_call 28; (with_reducible refine (halberdlaw0_Num.calls 2101 t138 _ A19.out).mono ?_); rintro e w' ⟨rfl, ⟨nd, rfl⟩⟩) | (go_at_call 28; (with_reducible refine (halberdlaw0_Num.calls 2200 t139 _ A21.out).mono ?_); rintro e w' ⟨rfl, ⟨nd, rfl⟩⟩) | (go_at_call 28; (with_reducible refine (halberdlaw0_Num.calls 2300 t140 _ A23.out).mono ?_); rintro e w' ⟨rfl, ⟨nd, rfl⟩⟩) | (go_at_call 28; (with_reducible refine (halberdlaw0_Num.calls 2301 t141 _ A25.out).mono ?_); rintro e w' ⟨rfl, ⟨nd, rfl⟩⟩) | (go_at_call 28; (with_reducible refine (halberdlaw0_Num.calls 2400 t142 _ A27.out).mono ?_); rintro e w' ⟨rfl, ⟨nd, rfl⟩⟩))
                            go_ret
                            exact ⟨by first | rfl | (simp; done) | (simp [*]; done), by repeat (first | exact Drawn0.refl _ | apply Drawn0.step)⟩
                          · rw [if_neg c26] at H
                            have c26b0 : (t141 == 2301) = false := beq_eq_false_iff_ne.mpr c26
                            have c26b1 : (t141 != 2301) = true := bne_iff_ne.mpr c26
                            obtain rfl := Option.some.inj H
                            go_enter Try.func15, Try.ntmps15
                            go_wp2_with (first | ((with_reducible refine gate_callee (f := 28) rfl ?_); refine goesL_ (some 1) rfl rfl Try.func28 (by kernel_rfl) rfl #[.int .i64 1601] rfl (by (try simp only [List.map_toArray, List.map_cons, List.map_nil]); first | done | rfl | (simp only [List.length_drop, List.length_take]; rfl)) ?_; (with_reducible refine (halberdlaw0_Num.calls 1601 t129 _ A1.out).mono ?_); rintro e w' ⟨rfl, ⟨nd, rfl⟩⟩; refine ⟨_, rfl, ?_⟩) | (go_at_call 28; (with_reducible refine (halberdlaw0_Num.calls 1700 t130 _ A3.out).mono ?_); rintro e w' ⟨rfl, ⟨nd, rfl⟩⟩) | (go_at_call 28; (with_reducible refine (halberdlaw0_Num.calls 1701 t131 _ A5.out).mono ?_); rintro e w' ⟨rfl, ⟨nd, rfl⟩⟩) | (go_at_call 28; (with_reducible refine (halberdlaw0_Num.calls 1702 t132 _ A7.out).mono ?_); rintro e w' ⟨rfl, ⟨nd, rfl⟩⟩) | (go_at_call 28; (with_reducible refine (halberdlaw0_Num.calls 1800 t133 _ A9.out).mono ?_); rintro e w' ⟨rfl, ⟨nd, rfl⟩⟩) | (go_at_call 28; (with_reducible refine (halberdlaw0_Num.calls 1900 t134 _ A11.out).mono ?_); rintro e w' ⟨rfl, ⟨nd, rfl⟩⟩) | (go_at_call 28; (with_reducible refine (halberdlaw0_Num.calls 2000 t135 _ A13.out).mono ?_); rintro e w' ⟨rfl, ⟨nd, rfl⟩⟩) | (go_at_call 28; (with_reducible refine (halberdlaw0_Num.calls 2001 t136 _ A15.out).mono ?_); rintro e w' ⟨rfl, ⟨nd, rfl⟩⟩) | (go_at_call 28; (with_reducible refine (halberdlaw0_Num.calls 2100 t137 _ A17.out).mono ?_); rintro e w' ⟨rfl, ⟨nd, rfl⟩⟩) | (go_at_call 28; (with_reducible refine (halberdlaw0_Num.calls 2101 t138 _ A19.out).mono ?_); rintro e w' ⟨rfl, ⟨nd, rfl⟩⟩) | (go_at_call 28; (with_reducible refine (halberdlaw0_Num.calls 2200 t139 _ A21.out).mono ?_); rintro e w' ⟨rfl, ⟨nd, rfl⟩⟩) | (go_at_call 28; (with_reducible refine (halberdlaw0_Num.calls 2300 t140 _ A23.out).mono ?_); rintro e w' ⟨rfl, ⟨nd, rfl⟩⟩) | (go_at_call 28; (with_reducible refine (halberdlaw0_Num.calls 2301 t141 _ A25.out).mono ?_); rintro e w' ⟨rfl, ⟨nd, rfl⟩⟩))
                            go_ret
                            exact ⟨by first | rfl | (simp; done) | (simp [*]; done), by repeat (first | exact Drawn0.refl _ | apply Drawn0.step)⟩
                        · rw [if_neg c24] at H
                          have c24b0 : (t140 == 2300) = false := beq_eq_false_iff_ne.mpr c24
                          have c24b1 : (t140 != 2300) = true := bne_iff_ne.mpr c24
                          obtain rfl := Option.some.inj H
                          go_enter Try.func15, Try.ntmps15
                          go_wp2_with (first | ((with_reducible refine gate_callee (f := 28) rfl ?_); refine goesL_ (some 1) rfl rfl Try.func28 (by kernel_rfl) rfl #[.int .i64 1601] rfl (by (try simp only [List.map_toArray, List.map_cons, List.map_nil]); first | done | rfl | (simp only [List.length_drop, List.length_take]; rfl)) ?_; (with_reducible refine (halberdlaw0_Num.calls 1601 t129 _ A1.out).mono ?_); rintro e w' ⟨rfl, ⟨nd, rfl⟩⟩; refine ⟨_, rfl, ?_⟩) | (go_at_call 28; (with_reducible refine (halberdlaw0_Num.calls 1700 t130 _ A3.out).mono ?_); rintro e w' ⟨rfl, ⟨nd, rfl⟩⟩) | (go_at_call 28; (with_reducible refine (halberdlaw0_Num.calls 1701 t131 _ A5.out).mono ?_); rintro e w' ⟨rfl, ⟨nd, rfl⟩⟩) | (go_at_call 28; (with_reducible refine (halberdlaw0_Num.calls 1702 t132 _ A7.out).mono ?_); rintro e w' ⟨rfl, ⟨nd, rfl⟩⟩) | (go_at_call 28; (with_reducible refine (halberdlaw0_Num.calls 1800 t133 _ A9.out).mono ?_); rintro e w' ⟨rfl, ⟨nd, rfl⟩⟩) | (go_at_call 28; (with_reducible refine (halberdlaw0_Num.calls 1900 t134 _ A11.out).mono ?_); rintro e w' ⟨rfl, ⟨nd, rfl⟩⟩) | (go_at_call 28; (with_reducible refine (halberdlaw0_Num.calls 2000 t135 _ A13.out).mono ?_); rintro e w' ⟨rfl, ⟨nd, rfl⟩⟩) | (go_at_call 28; (with_reducible refine (halberdlaw0_Num.calls 2001 t136 _ A15.out).mono ?_); rintro e w' ⟨rfl, ⟨nd, rfl⟩⟩) | (go_at_call 28; (with_reducible refine (halberdlaw0_Num.calls 2100 t137 _ A17.out).mono ?_); rintro e w' ⟨rfl, ⟨nd, rfl⟩⟩) | (go_at_call 28; (with_reducible refine (halberdlaw0_Num.calls 2101 t138 _ A19.out).mono ?_); rintro e w' ⟨rfl, ⟨nd, rfl⟩⟩) | (go_at_call 28; (with_reducible refine (halberdlaw0_Num.calls 2200 t139 _ A21.out).mono ?_); rintro e w' ⟨rfl, ⟨nd, rfl⟩⟩) | (go_at_call 28; (with_reducible refine (halberdlaw0_Num.calls 2300 t140 _ A23.out).mono ?_); rintro e w' ⟨rfl, ⟨nd, rfl⟩⟩))
                          go_ret
                          exact ⟨by first | rfl | (simp; done) | (simp [*]; done), by repeat (first | exact Drawn0.refl _ | apply Drawn0.step)⟩
                      · rw [if_neg c22] at H
                        have c22b0 : (t139 == 2200) = false := beq_eq_false_iff_ne.mpr c22
                        have c22b1 : (t139 != 2200) = true := bne_iff_ne.mpr c22
                        obtain rfl := Option.some.inj H
                        go_enter Try.func15, Try.ntmps15
                        go_wp2_with (first | ((with_reducible refine gate_callee (f := 28) rfl ?_); refine goesL_ (some 1) rfl rfl Try.func28 (by kernel_rfl) rfl #[.int .i64 1601] rfl (by (try simp only [List.map_toArray, List.map_cons, List.map_nil]); first | done | rfl | (simp only [List.length_drop, List.length_take]; rfl)) ?_; (with_reducible refine (halberdlaw0_Num.calls 1601 t129 _ A1.out).mono ?_); rintro e w' ⟨rfl, ⟨nd, rfl⟩⟩; refine ⟨_, rfl, ?_⟩) | (go_at_call 28; (with_reducible refine (halberdlaw0_Num.calls 1700 t130 _ A3.out).mono ?_); rintro e w' ⟨rfl, ⟨nd, rfl⟩⟩) | (go_at_call 28; (with_reducible refine (halberdlaw0_Num.calls 1701 t131 _ A5.out).mono ?_); rintro e w' ⟨rfl, ⟨nd, rfl⟩⟩) | (go_at_call 28; (with_reducible refine (halberdlaw0_Num.calls 1702 t132 _ A7.out).mono ?_); rintro e w' ⟨rfl, ⟨nd, rfl⟩⟩) | (go_at_call 28; (with_reducible refine (halberdlaw0_Num.calls 1800 t133 _ A9.out).mono ?_); rintro e w' ⟨rfl, ⟨nd, rfl⟩⟩) | (go_at_call 28; (with_reducible refine (halberdlaw0_Num.calls 1900 t134 _ A11.out).mono ?_); rintro e w' ⟨rfl, ⟨nd, rfl⟩⟩) | (go_at_call 28; (with_reducible refine (halberdlaw0_Num.calls 2000 t135 _ A13.out).mono ?_); rintro e w' ⟨rfl, ⟨nd, rfl⟩⟩) | (go_at_call 28; (with_reducible refine (halberdlaw0_Num.calls 2001 t136 _ A15.out).mono ?_); rintro e w' ⟨rfl, ⟨nd, rfl⟩⟩) | (go_at_call 28; (with_reducible refine (halberdlaw0_Num.calls 2100 t137 _ A17.out).mono ?_); rintro e w' ⟨rfl, ⟨nd, rfl⟩⟩) | (go_at_call 28; (with_reducible refine (halberdlaw0_Num.calls 2101 t138 _ A19.out).mono ?_); rintro e w' ⟨rfl, ⟨nd, rfl⟩⟩) | (go_at_call 28; (with_reducible refine (halberdlaw0_Num.calls 2200 t139 _ A21.out).mono ?_); rintro e w' ⟨rfl, ⟨nd, rfl⟩⟩))
                        go_ret
                        exact ⟨by first | rfl | (simp; done) | (simp [*]; done), by repeat (first | exact Drawn0.refl _ | apply Drawn0.step)⟩
                    · rw [if_neg c20] at H
                      have c20b0 : (t138 == 2101) = false := beq_eq_false_iff_ne.mpr c20
                      have c20b1 : (t138 != 2101) = true := bne_iff_ne.mpr c20
                      obtain rfl := Option.some.inj H
                      go_enter Try.func15, Try.ntmps15
                      go_wp2_with (first | ((with_reducible refine gate_callee (f := 28) rfl ?_); refine goesL_ (some 1) rfl rfl Try.func28 (by kernel_rfl) rfl #[.int .i64 1601] rfl (by (try simp only [List.map_toArray, List.map_cons, List.map_nil]); first | done | rfl | (simp only [List.length_drop, List.length_take]; rfl)) ?_; (with_reducible refine (halberdlaw0_Num.calls 1601 t129 _ A1.out).mono ?_); rintro e w' ⟨rfl, ⟨nd, rfl⟩⟩; refine ⟨_, rfl, ?_⟩) | (go_at_call 28; (with_reducible refine (halberdlaw0_Num.calls 1700 t130 _ A3.out).mono ?_); rintro e w' ⟨rfl, ⟨nd, rfl⟩⟩) | (go_at_call 28; (with_reducible refine (halberdlaw0_Num.calls 1701 t131 _ A5.out).mono ?_); rintro e w' ⟨rfl, ⟨nd, rfl⟩⟩) | (go_at_call 28; (with_reducible refine (halberdlaw0_Num.calls 1702 t132 _ A7.out).mono ?_); rintro e w' ⟨rfl, ⟨nd, rfl⟩⟩) | (go_at_call 28; (with_reducible refine (halberdlaw0_Num.calls 1800 t133 _ A9.out).mono ?_); rintro e w' ⟨rfl, ⟨nd, rfl⟩⟩) | (go_at_call 28; (with_reducible refine (halberdlaw0_Num.calls 1900 t134 _ A11.out).mono ?_); rintro e w' ⟨rfl, ⟨nd, rfl⟩⟩) | (go_at_call 28; (with_reducible refine (halberdlaw0_Num.calls 2000 t135 _ A13.out).mono ?_); rintro e w' ⟨rfl, ⟨nd, rfl⟩⟩) | (go_at_call 28; (with_reducible refine (halberdlaw0_Num.calls 2001 t136 _ A15.out).mono ?_); rintro e w' ⟨rfl, ⟨nd, rfl⟩⟩) | (go_at_call 28; (with_reducible refine (halberdlaw0_Num.calls 2100 t137 _ A17.out).mono ?_); rintro e w' ⟨rfl, ⟨nd, rfl⟩⟩) | (go_at_call 28; (with_reducible refine (halberdlaw0_Num.calls 2101 t138 _ A19.out).mono ?_); rintro e w' ⟨rfl, ⟨nd, rfl⟩⟩))
                      go_ret
                      exact ⟨by first | rfl | (simp; done) | (simp [*]; done), by repeat (first | exact Drawn0.refl _ | apply Drawn0.step)⟩
                  · rw [if_neg c18] at H
                    have c18b0 : (t137 == 2100) = false := beq_eq_false_iff_ne.mpr c18
                    have c18b1 : (t137 != 2100) = true := bne_iff_ne.mpr c18
                    obtain rfl := Option.some.inj H
                    go_enter Try.func15, Try.ntmps15
                    go_wp2_with (first | ((with_reducible refine gate_callee (f := 28) rfl ?_); refine goesL_ (some 1) rfl rfl Try.func28 (by kernel_rfl) rfl #[.int .i64 1601] rfl (by (try simp only [List.map_toArray, List.map_cons, List.map_nil]); first | done | rfl | (simp only [List.length_drop, List.length_take]; rfl)) ?_; (with_reducible refine (halberdlaw0_Num.calls 1601 t129 _ A1.out).mono ?_); rintro e w' ⟨rfl, ⟨nd, rfl⟩⟩; refine ⟨_, rfl, ?_⟩) | (go_at_call 28; (with_reducible refine (halberdlaw0_Num.calls 1700 t130 _ A3.out).mono ?_); rintro e w' ⟨rfl, ⟨nd, rfl⟩⟩) | (go_at_call 28; (with_reducible refine (halberdlaw0_Num.calls 1701 t131 _ A5.out).mono ?_); rintro e w' ⟨rfl, ⟨nd, rfl⟩⟩) | (go_at_call 28; (with_reducible refine (halberdlaw0_Num.calls 1702 t132 _ A7.out).mono ?_); rintro e w' ⟨rfl, ⟨nd, rfl⟩⟩) | (go_at_call 28; (with_reducible refine (halberdlaw0_Num.calls 1800 t133 _ A9.out).mono ?_); rintro e w' ⟨rfl, ⟨nd, rfl⟩⟩) | (go_at_call 28; (with_reducible refine (halberdlaw0_Num.calls 1900 t134 _ A11.out).mono ?_); rintro e w' ⟨rfl, ⟨nd, rfl⟩⟩) | (go_at_call 28; (with_reducible refine (halberdlaw0_Num.calls 2000 t135 _ A13.out).mono ?_); rintro e w' ⟨rfl, ⟨nd, rfl⟩⟩) | (go_at_call 28; (with_reducible refine (halberdlaw0_Num.calls 2001 t136 _ A15.out).mono ?_); rintro e w' ⟨rfl, ⟨nd, rfl⟩⟩) | (go_at_call 28; (with_reducible refine (halberdlaw0_Num.calls 2100 t137 _ A17.out).mono ?_); rintro e w' ⟨rfl, ⟨nd, rfl⟩⟩))
                    go_ret
                    exact ⟨by first | rfl | (simp; done) | (simp [*]; done), by repeat (first | exact Drawn0.refl _ | apply Drawn0.step)⟩
                · rw [if_neg c16] at H
                  have c16b0 : (t136 == 2001) = false := beq_eq_false_iff_ne.mpr c16
                  have c16b1 : (t136 != 2001) = true := bne_iff_ne.mpr c16
                  obtain rfl := Option.some.inj H
                  go_enter Try.func15, Try.ntmps15
                  go_wp2_with (first | ((with_reducible refine gate_callee (f := 28) rfl ?_); refine goesL_ (some 1) rfl rfl Try.func28 (by kernel_rfl) rfl #[.int .i64 1601] rfl (by (try simp only [List.map_toArray, List.map_cons, List.map_nil]); first | done | rfl | (simp only [List.length_drop, List.length_take]; rfl)) ?_; (with_reducible refine (halberdlaw0_Num.calls 1601 t129 _ A1.out).mono ?_); rintro e w' ⟨rfl, ⟨nd, rfl⟩⟩; refine ⟨_, rfl, ?_⟩) | (go_at_call 28; (with_reducible refine (halberdlaw0_Num.calls 1700 t130 _ A3.out).mono ?_); rintro e w' ⟨rfl, ⟨nd, rfl⟩⟩) | (go_at_call 28; (with_reducible refine (halberdlaw0_Num.calls 1701 t131 _ A5.out).mono ?_); rintro e w' ⟨rfl, ⟨nd, rfl⟩⟩) | (go_at_call 28; (with_reducible refine (halberdlaw0_Num.calls 1702 t132 _ A7.out).mono ?_); rintro e w' ⟨rfl, ⟨nd, rfl⟩⟩) | (go_at_call 28; (with_reducible refine (halberdlaw0_Num.calls 1800 t133 _ A9.out).mono ?_); rintro e w' ⟨rfl, ⟨nd, rfl⟩⟩) | (go_at_call 28; (with_reducible refine (halberdlaw0_Num.calls 1900 t134 _ A11.out).mono ?_); rintro e w' ⟨rfl, ⟨nd, rfl⟩⟩) | (go_at_call 28; (with_reducible refine (halberdlaw0_Num.calls 2000 t135 _ A13.out).mono ?_); rintro e w' ⟨rfl, ⟨nd, rfl⟩⟩) | (go_at_call 28; (with_reducible refine (halberdlaw0_Num.calls 2001 t136 _ A15.out).mono ?_); rintro e w' ⟨rfl, ⟨nd, rfl⟩⟩))
                  go_ret
                  exact ⟨by first | rfl | (simp; done) | (simp [*]; done), by repeat (first | exact Drawn0.refl _ | apply Drawn0.step)⟩
              · rw [if_neg c14] at H
                have c14b0 : (t135 == 2000) = false := beq_eq_false_iff_ne.mpr c14
                have c14b1 : (t135 != 2000) = true := bne_iff_ne.mpr c14
                obtain rfl := Option.some.inj H
                go_enter Try.func15, Try.ntmps15
                go_wp2_with (first | ((with_reducible refine gate_callee (f := 28) rfl ?_); refine goesL_ (some 1) rfl rfl Try.func28 (by kernel_rfl) rfl #[.int .i64 1601] rfl (by (try simp only [List.map_toArray, List.map_cons, List.map_nil]); first | done | rfl | (simp only [List.length_drop, List.length_take]; rfl)) ?_; (with_reducible refine (halberdlaw0_Num.calls 1601 t129 _ A1.out).mono ?_); rintro e w' ⟨rfl, ⟨nd, rfl⟩⟩; refine ⟨_, rfl, ?_⟩) | (go_at_call 28; (with_reducible refine (halberdlaw0_Num.calls 1700 t130 _ A3.out).mono ?_); rintro e w' ⟨rfl, ⟨nd, rfl⟩⟩) | (go_at_call 28; (with_reducible refine (halberdlaw0_Num.calls 1701 t131 _ A5.out).mono ?_); rintro e w' ⟨rfl, ⟨nd, rfl⟩⟩) | (go_at_call 28; (with_reducible refine (halberdlaw0_Num.calls 1702 t132 _ A7.out).mono ?_); rintro e w' ⟨rfl, ⟨nd, rfl⟩⟩) | (go_at_call 28; (with_reducible refine (halberdlaw0_Num.calls 1800 t133 _ A9.out).mono ?_); rintro e w' ⟨rfl, ⟨nd, rfl⟩⟩) | (go_at_call 28; (with_reducible refine (halberdlaw0_Num.calls 1900 t134 _ A11.out).mono ?_); rintro e w' ⟨rfl, ⟨nd, rfl⟩⟩) | (go_at_call 28; (with_reducible refine (halberdlaw0_Num.calls 2000 t135 _ A13.out).mono ?_); rintro e w' ⟨rfl, ⟨nd, rfl⟩⟩))
                go_ret
                exact ⟨by first | rfl | (simp; done) | (simp [*]; done), by repeat (first | exact Drawn0.refl _ | apply Drawn0.step)⟩
            · rw [if_neg c12] at H
              have c12b0 : (t134 == 1900) = false := beq_eq_false_iff_ne.mpr c12
              have c12b1 : (t134 != 1900) = true := bne_iff_ne.mpr c12
              obtain rfl := Option.some.inj H
              go_enter Try.func15, Try.ntmps15
              go_wp2_with (first | ((with_reducible refine gate_callee (f := 28) rfl ?_); refine goesL_ (some 1) rfl rfl Try.func28 (by kernel_rfl) rfl #[.int .i64 1601] rfl (by (try simp only [List.map_toArray, List.map_cons, List.map_nil]); first | done | rfl | (simp only [List.length_drop, List.length_take]; rfl)) ?_; (with_reducible refine (halberdlaw0_Num.calls 1601 t129 _ A1.out).mono ?_); rintro e w' ⟨rfl, ⟨nd, rfl⟩⟩; refine ⟨_, rfl, ?_⟩) | (go_at_call 28; (with_reducible refine (halberdlaw0_Num.calls 1700 t130 _ A3.out).mono ?_); rintro e w' ⟨rfl, ⟨nd, rfl⟩⟩) | (go_at_call 28; (with_reducible refine (halberdlaw0_Num.calls 1701 t131 _ A5.out).mono ?_); rintro e w' ⟨rfl, ⟨nd, rfl⟩⟩) | (go_at_call 28; (with_reducible refine (halberdlaw0_Num.calls 1702 t132 _ A7.out).mono ?_); rintro e w' ⟨rfl, ⟨nd, rfl⟩⟩) | (go_at_call 28; (with_reducible refine (halberdlaw0_Num.calls 1800 t133 _ A9.out).mono ?_); rintro e w' ⟨rfl, ⟨nd, rfl⟩⟩) | (go_at_call 28; (with_reducible refine (halberdlaw0_Num.calls 1900 t134 _ A11.out).mono ?_); rintro e w' ⟨rfl, ⟨nd, rfl⟩⟩))
              go_ret
              exact ⟨by first | rfl | (simp; done) | (simp [*]; done), by repeat (first | exact Drawn0.refl _ | apply Drawn0.step)⟩
          · rw [if_neg c10] at H
            have c10b0 : (t133 == 1800) = false := beq_eq_false_iff_ne.mpr c10
            have c10b1 : (t133 != 1800) = true := bne_iff_ne.mpr c10
            obtain rfl := Option.some.inj H
            go_enter Try.func15, Try.ntmps15
            go_wp2_with (first | ((with_reducible refine gate_callee (f := 28) rfl ?_); refine goesL_ (some 1) rfl rfl Try.func28 (by kernel_rfl) rfl #[.int .i64 1601] rfl (by (try simp only [List.map_toArray, List.map_cons, List.map_nil]); first | done | rfl | (simp only [List.length_drop, List.length_take]; rfl)) ?_; (with_reducible refine (halberdlaw0_Num.calls 1601 t129 _ A1.out).mono ?_); rintro e w' ⟨rfl, ⟨nd, rfl⟩⟩; refine ⟨_, rfl, ?_⟩) | (go_at_call 28; (with_reducible refine (halberdlaw0_Num.calls 1700 t130 _ A3.out).mono ?_); rintro e w' ⟨rfl, ⟨nd, rfl⟩⟩) | (go_at_call 28; (with_reducible refine (halberdlaw0_Num.calls 1701 t131 _ A5.out).mono ?_); rintro e w' ⟨rfl, ⟨nd, rfl⟩⟩) | (go_at_call 28; (with_reducible refine (halberdlaw0_Num.calls 1702 t132 _ A7.out).mono ?_); rintro e w' ⟨rfl, ⟨nd, rfl⟩⟩) | (go_at_call 28; (with_reducible refine (halberdlaw0_Num.calls 1800 t133 _ A9.out).mono ?_); rintro e w' ⟨rfl, ⟨nd, rfl⟩⟩))
            go_ret
            exact ⟨by first | rfl | (simp; done) | (simp [*]; done), by repeat (first | exact Drawn0.refl _ | apply Drawn0.step)⟩
        · rw [if_neg c8] at H
          have c8b0 : (t132 == 1702) = false := beq_eq_false_iff_ne.mpr c8
          have c8b1 : (t132 != 1702) = true := bne_iff_ne.mpr c8
          obtain rfl := Option.some.inj H
          go_enter Try.func15, Try.ntmps15
          go_wp2_with (first | ((with_reducible refine gate_callee (f := 28) rfl ?_); refine goesL_ (some 1) rfl rfl Try.func28 (by kernel_rfl) rfl #[.int .i64 1601] rfl (by (try simp only [List.map_toArray, List.map_cons, List.map_nil]); first | done | rfl | (simp only [List.length_drop, List.length_take]; rfl)) ?_; (with_reducible refine (halberdlaw0_Num.calls 1601 t129 _ A1.out).mono ?_); rintro e w' ⟨rfl, ⟨nd, rfl⟩⟩; refine ⟨_, rfl, ?_⟩) | (go_at_call 28; (with_reducible refine (halberdlaw0_Num.calls 1700 t130 _ A3.out).mono ?_); rintro e w' ⟨rfl, ⟨nd, rfl⟩⟩) | (go_at_call 28; (with_reducible refine (halberdlaw0_Num.calls 1701 t131 _ A5.out).mono ?_); rintro e w' ⟨rfl, ⟨nd, rfl⟩⟩) | (go_at_call 28; (with_reducible refine (halberdlaw0_Num.calls 1702 t132 _ A7.out).mono ?_); rintro e w' ⟨rfl, ⟨nd, rfl⟩⟩))
          go_ret
          exact ⟨by first | rfl | (simp; done) | (simp [*]; done), by repeat (first | exact Drawn0.refl _ | apply Drawn0.step)⟩
      · rw [if_neg c6] at H
        have c6b0 : (t131 == 1701) = false := beq_eq_false_iff_ne.mpr c6
        have c6b1 : (t131 != 1701) = true := bne_iff_ne.mpr c6
        obtain rfl := Option.some.inj H
        go_enter Try.func15, Try.ntmps15
        go_wp2_with (first | ((with_reducible refine gate_callee (f := 28) rfl ?_); refine goesL_ (some 1) rfl rfl Try.func28 (by kernel_rfl) rfl #[.int .i64 1601] rfl (by (try simp only [List.map_toArray, List.map_cons, List.map_nil]); first | done | rfl | (simp only [List.length_drop, List.length_take]; rfl)) ?_; (with_reducible refine (halberdlaw0_Num.calls 1601 t129 _ A1.out).mono ?_); rintro e w' ⟨rfl, ⟨nd, rfl⟩⟩; refine ⟨_, rfl, ?_⟩) | (go_at_call 28; (with_reducible refine (halberdlaw0_Num.calls 1700 t130 _ A3.out).mono ?_); rintro e w' ⟨rfl, ⟨nd, rfl⟩⟩) | (go_at_call 28; (with_reducible refine (halberdlaw0_Num.calls 1701 t131 _ A5.out).mono ?_); rintro e w' ⟨rfl, ⟨nd, rfl⟩⟩))
        go_ret
        exact ⟨by first | rfl | (simp; done) | (simp [*]; done), by repeat (first | exact Drawn0.refl _ | apply Drawn0.step)⟩
    · rw [if_neg c4] at H
      have c4b0 : (t130 == 1700) = false := beq_eq_false_iff_ne.mpr c4
      have c4b1 : (t130 != 1700) = true := bne_iff_ne.mpr c4
      obtain rfl := Option.some.inj H
      go_enter Try.func15, Try.ntmps15
      go_wp2_with (first | ((with_reducible refine gate_callee (f := 28) rfl ?_); refine goesL_ (some 1) rfl rfl Try.func28 (by kernel_rfl) rfl #[.int .i64 1601] rfl (by (try simp only [List.map_toArray, List.map_cons, List.map_nil]); first | done | rfl | (simp only [List.length_drop, List.length_take]; rfl)) ?_; (with_reducible refine (halberdlaw0_Num.calls 1601 t129 _ A1.out).mono ?_); rintro e w' ⟨rfl, ⟨nd, rfl⟩⟩; refine ⟨_, rfl, ?_⟩) | (go_at_call 28; (with_reducible refine (halberdlaw0_Num.calls 1700 t130 _ A3.out).mono ?_); rintro e w' ⟨rfl, ⟨nd, rfl⟩⟩))
      go_ret
      exact ⟨by first | rfl | (simp; done) | (simp [*]; done), by repeat (first | exact Drawn0.refl _ | apply Drawn0.step)⟩
  · rw [if_neg c2] at H
    have c2b0 : (t129 == 1601) = false := beq_eq_false_iff_ne.mpr c2
    have c2b1 : (t129 != 1601) = true := bne_iff_ne.mpr c2
    obtain rfl := Option.some.inj H
    go_enter Try.func15, Try.ntmps15
    go_wp2_with (first | ((with_reducible refine gate_callee (f := 28) rfl ?_); refine goesL_ (some 1) rfl rfl Try.func28 (by kernel_rfl) rfl #[.int .i64 1601] rfl (by (try simp only [List.map_toArray, List.map_cons, List.map_nil]); first | done | rfl | (simp only [List.length_drop, List.length_take]; rfl)) ?_; (with_reducible refine (halberdlaw0_Num.calls 1601 t129 _ A1.out).mono ?_); rintro e w' ⟨rfl, ⟨nd, rfl⟩⟩; refine ⟨_, rfl, ?_⟩))
    go_ret
    exact ⟨by first | rfl | (simp; done) | (simp [*]; done), by repeat (first | exact Drawn0.refl _ | apply Drawn0.step)⟩

end Go.Proofs.Ytggnmnpmhknjgaa.X
