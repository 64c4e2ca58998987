-- Written by a program of this session (wip/tools/xprint.py), over the kit's printer.
import Derived.Test.YtggnmnpmhknjgaaYx0
import Derived.Test.YtggnmnpmhknjgaaYx1
import Derived.Test.YtggnmnpmhknjgaaYx2
import Derived.Test.YtggnmnpmhknjgaaYx6
namespace Go.Proofs.Ytggnmnpmhknjgaa.Y
open Go.RowKit Go.Proofs.YtggnmnpmhknjgaaW.PrintWords Go.Proofs.YtggnmnpmhknjgaaW.PrintLast Go.Proofs.YtggnmnpmhknjgaaW.PrintMore
attribute [local go_sem] max2_int min2_int max_two min_two max_three min_three max_four min_four   -- for this text's walks alone
set_option linter.unusedVariables false
set_option linter.unusedSimpArgs false

/-! ### halberdlaw1_awake0: function 37 -/
def halberdlaw1_awake0.f (k : Nat)  : Option (Bool) := (wire_U16.f k (⟨#[1, 2, 3]⟩ : ByteArray) 1).bind fun bt310 => ((wire_Vec.f k (⟨#[2, 97, 98, 122]⟩ : ByteArray) 0 1).bind fun bt313 => ((wire_Put.f 258 3).bind fun bt316 => ((wire_PutVec.f (⟨#[97, 98]⟩ : ByteArray) 2).bind fun bt318 => ((wire_U24.f k (⟨#[97, 98]⟩ : ByteArray) 0).bind fun bt320 => ((wire_Vec.f k (⟨#[5, 97]⟩ : ByteArray) 0 1).bind fun bt323 => (if bt310.1 = 515 then (if bt310.2.1 = 3 then ((halberdlaw0_Num.f bt310.2.2).bind fun t326 => (if t326 = 0 then (if bt313.1.toList = ([97, 98] : List UInt8) then (if bt313.2.1 = 3 then ((halberdlaw0_Num.f bt313.2.2).bind fun t327 => (if t327 = 0 then (if bt316.1.toList = ([0, 1, 2] : List UInt8) then ((halberdlaw0_Num.f bt316.2).bind fun t328 => (if t328 = 0 then (if bt318.1.toList = ([0, 2, 97, 98] : List UInt8) then ((halberdlaw0_Num.f bt318.2).bind fun t329 => (if t329 = 0 then ((halberdlaw0_Num.f bt320.2.2).bind fun t330 => (if t330 = 100 then ((halberdlaw0_Num.f bt323.2.2).bind fun t331 => (some (t331 == 100))) else (some false))) else (some false))) else (some false)) else (some false))) else (some false)) else (some false))) else (some false)) else (some false)) else (some false))) else (some false)) else (some false)))))))
theorem halberdlaw1_awake0.mono : ∀ k, LeO (halberdlaw1_awake0.f k ) (halberdlaw1_awake0.f (k + 1) ) := by
  intro  k
  unfold halberdlaw1_awake0.f
  repeat' first
      | (with_reducible exact wire_U16.mono _ _ _)
      | (with_reducible exact wire_U24.mono _ _ _)
      | (with_reducible exact wire_Vec.mono _ _ _ _)
      | (with_reducible exact LeO.refl _)
      | (with_reducible exact LeO.none _)
      | (with_reducible refine LeO.ite ?_ ?_)
      | (with_reducible refine LeO.bind ?_ (fun _ => ?_))
      | exact wire_U16.mono _ _ _
      | exact wire_U24.mono _ _ _
      | exact wire_Vec.mono _ _ _ _
      | exact LeO.none _
      | refine LeO.ite ?_ ?_
      | refine LeO.bind ?_ (fun _ => ?_)
set_option maxHeartbeats 8000000 in
set_option maxRecDepth 100000 in
theorem halberdlaw1_awake0.calls (k : Nat)  (r : Bool) (w : World) (h : halberdlaw1_awake0.f k  = some r) (hr : Aside0 (r = true)) :
    Calls Try.prog 37 #[] w fun e w' => e = .returned (.bool r) ∧ Below w.heap.size w w' := by
  have HB := Aside0.mk (Below.refl w.heap.size w)
  have H : ((wire_U16.f k (⟨#[1, 2, 3]⟩ : ByteArray) 1).bind fun bt310 => ((wire_Vec.f k (⟨#[2, 97, 98, 122]⟩ : ByteArray) 0 1).bind fun bt313 => ((wire_Put.f 258 3).bind fun bt316 => ((wire_PutVec.f (⟨#[97, 98]⟩ : ByteArray) 2).bind fun bt318 => ((wire_U24.f k (⟨#[97, 98]⟩ : ByteArray) 0).bind fun bt320 => ((wire_Vec.f k (⟨#[5, 97]⟩ : ByteArray) 0 1).bind fun bt323 => (if bt310.1 = 515 then (if bt310.2.1 = 3 then ((halberdlaw0_Num.f bt310.2.2).bind fun t326 => (if t326 = 0 then (if bt313.1.toList = ([97, 98] : List UInt8) then (if bt313.2.1 = 3 then ((halberdlaw0_Num.f bt313.2.2).bind fun t327 => (if t327 = 0 then (if bt316.1.toList = ([0, 1, 2] : List UInt8) then ((halberdlaw0_Num.f bt316.2).bind fun t328 => (if t328 = 0 then (if bt318.1.toList = ([0, 2, 97, 98] : List UInt8) then ((halberdlaw0_Num.f bt318.2).bind fun t329 => (if t329 = 0 then ((halberdlaw0_Num.f bt320.2.2).bind fun t330 => (if t330 = 100 then ((halberdlaw0_Num.f bt323.2.2).bind fun t331 => (some (t331 == 100))) else (some false))) else (some false))) else (some false)) else (some false))) else (some false)) else (some false))) else (some false)) else (some false)) else (some false))) else (some false)) else (some false)))))))) = some r := h
  clear h
  replace H := Option.bind_eq_some_iff.mp H
  obtain ⟨⟨t310, t311, t312⟩, A10, H⟩ := H
  replace H : ((wire_Vec.f k (⟨#[2, 97, 98, 122]⟩ : ByteArray) 0 1).bind fun bt313 => ((wire_Put.f 258 3).bind fun bt316 => ((wire_PutVec.f (⟨#[97, 98]⟩ : ByteArray) 2).bind fun bt318 => ((wire_U24.f k (⟨#[97, 98]⟩ : ByteArray) 0).bind fun bt320 => ((wire_Vec.f k (⟨#[5, 97]⟩ : ByteArray) 0 1).bind fun bt323 => (if t310 = 515 then (if t311 = 3 then ((halberdlaw0_Num.f t312).bind fun t326 => (if t326 = 0 then (if bt313.1.toList = ([97, 98] : List UInt8) then (if bt313.2.1 = 3 then ((halberdlaw0_Num.f bt313.2.2).bind fun t327 => (if t327 = 0 then (if bt316.1.toList = ([0, 1, 2] : List UInt8) then ((halberdlaw0_Num.f bt316.2).bind fun t328 => (if t328 = 0 then (if bt318.1.toList = ([0, 2, 97, 98] : List UInt8) then ((halberdlaw0_Num.f bt318.2).bind fun t329 => (if t329 = 0 then ((halberdlaw0_Num.f bt320.2.2).bind fun t330 => (if t330 = 100 then ((halberdlaw0_Num.f bt323.2.2).bind fun t331 => (some (t331 == 100))) else (some false))) else (some false))) else (some false)) else (some false))) else (some false)) else (some false))) else (some false)) else (some false)) else (some false))) else (some false)) else (some false))))))) = some r := H
  have A1 := Aside0.mk A10
  clear A10
  replace H := Option.bind_eq_some_iff.mp H
  obtain ⟨⟨t313, t314, t315⟩, A20, H⟩ := H
  replace H : ((wire_Put.f 258 3).bind fun bt316 => ((wire_PutVec.f (⟨#[97, 98]⟩ : ByteArray) 2).bind fun bt318 => ((wire_U24.f k (⟨#[97, 98]⟩ : ByteArray) 0).bind fun bt320 => ((wire_Vec.f k (⟨#[5, 97]⟩ : ByteArray) 0 1).bind fun bt323 => (if t310 = 515 then (if t311 = 3 then ((halberdlaw0_Num.f t312).bind fun t326 => (if t326 = 0 then (if t313.toList = ([97, 98] : List UInt8) then (if t314 = 3 then ((halberdlaw0_Num.f t315).bind fun t327 => (if t327 = 0 then (if bt316.1.toList = ([0, 1, 2] : List UInt8) then ((halberdlaw0_Num.f bt316.2).bind fun t328 => (if t328 = 0 then (if bt318.1.toList = ([0, 2, 97, 98] : List UInt8) then ((halberdlaw0_Num.f bt318.2).bind fun t329 => (if t329 = 0 then ((halberdlaw0_Num.f bt320.2.2).bind fun t330 => (if t330 = 100 then ((halberdlaw0_Num.f bt323.2.2).bind fun t331 => (some (t331 == 100))) else (some false))) else (some false))) else (some false)) else (some false))) else (some false)) else (some false))) else (some false)) else (some false)) else (some false))) else (some false)) else (some false)))))) = some r := H
  have A2 := Aside0.mk A20
  clear A20
  replace H := Option.bind_eq_some_iff.mp H
  obtain ⟨⟨t316, t317⟩, A30, H⟩ := H
  replace H : ((wire_PutVec.f (⟨#[97, 98]⟩ : ByteArray) 2).bind fun bt318 => ((wire_U24.f k (⟨#[97, 98]⟩ : ByteArray) 0).bind fun bt320 => ((wire_Vec.f k (⟨#[5, 97]⟩ : ByteArray) 0 1).bind fun bt323 => (if t310 = 515 then (if t311 = 3 then ((halberdlaw0_Num.f t312).bind fun t326 => (if t326 = 0 then (if t313.toList = ([97, 98] : List UInt8) then (if t314 = 3 then ((halberdlaw0_Num.f t315).bind fun t327 => (if t327 = 0 then (if t316.toList = ([0, 1, 2] : List UInt8) then ((halberdlaw0_Num.f t317).bind fun t328 => (if t328 = 0 then (if bt318.1.toList = ([0, 2, 97, 98] : List UInt8) then ((halberdlaw0_Num.f bt318.2).bind fun t329 => (if t329 = 0 then ((halberdlaw0_Num.f bt320.2.2).bind fun t330 => (if t330 = 100 then ((halberdlaw0_Num.f bt323.2.2).bind fun t331 => (some (t331 == 100))) else (some false))) else (some false))) else (some false)) else (some false))) else (some false)) else (some false))) else (some false)) else (some false)) else (some false))) else (some false)) else (some false))))) = some r := H
  have A3 := Aside0.mk A30
  clear A30
  replace H := Option.bind_eq_some_iff.mp H
  obtain ⟨⟨t318, t319⟩, A40, H⟩ := H
  replace H : ((wire_U24.f k (⟨#[97, 98]⟩ : ByteArray) 0).bind fun bt320 => ((wire_Vec.f k (⟨#[5, 97]⟩ : ByteArray) 0 1).bind fun bt323 => (if t310 = 515 then (if t311 = 3 then ((halberdlaw0_Num.f t312).bind fun t326 => (if t326 = 0 then (if t313.toList = ([97, 98] : List UInt8) then (if t314 = 3 then ((halberdlaw0_Num.f t315).bind fun t327 => (if t327 = 0 then (if t316.toList = ([0, 1, 2] : List UInt8) then ((halberdlaw0_Num.f t317).bind fun t328 => (if t328 = 0 then (if t318.toList = ([0, 2, 97, 98] : List UInt8) then ((halberdlaw0_Num.f t319).bind fun t329 => (if t329 = 0 then ((halberdlaw0_Num.f bt320.2.2).bind fun t330 => (if t330 = 100 then ((halberdlaw0_Num.f bt323.2.2).bind fun t331 => (some (t331 == 100))) else (some false))) else (some false))) else (some false)) else (some false))) else (some false)) else (some false))) else (some false)) else (some false)) else (some false))) else (some false)) else (some false)))) = some r := H
  have A4 := Aside0.mk A40
  clear A40
  replace H := Option.bind_eq_some_iff.mp H
  obtain ⟨⟨t320, t321, t322⟩, A50, H⟩ := H
  replace H : ((wire_Vec.f k (⟨#[5, 97]⟩ : ByteArray) 0 1).bind fun bt323 => (if t310 = 515 then (if t311 = 3 then ((halberdlaw0_Num.f t312).bind fun t326 => (if t326 = 0 then (if t313.toList = ([97, 98] : List UInt8) then (if t314 = 3 then ((halberdlaw0_Num.f t315).bind fun t327 => (if t327 = 0 then (if t316.toList = ([0, 1, 2] : List UInt8) then ((halberdlaw0_Num.f t317).bind fun t328 => (if t328 = 0 then (if t318.toList = ([0, 2, 97, 98] : List UInt8) then ((halberdlaw0_Num.f t319).bind fun t329 => (if t329 = 0 then ((halberdlaw0_Num.f t322).bind fun t330 => (if t330 = 100 then ((halberdlaw0_Num.f bt323.2.2).bind fun t331 => (some (t331 == 100))) else (some false))) else (some false))) else (some false)) else (some false))) else (some false)) else (some false))) else (some false)) else (some false)) else (some false))) else (some false)) else (some false))) = some r := H
  have A5 := Aside0.mk A50
  clear A50
  replace H := Option.bind_eq_some_iff.mp H
  obtain ⟨⟨t323, t324, t325⟩, A60, H⟩ := H
  replace H : (if t310 = 515 then (if t311 = 3 then ((halberdlaw0_Num.f t312).bind fun t326 => (if t326 = 0 then (if t313.toList = ([97, 98] : List UInt8) then (if t314 = 3 then ((halberdlaw0_Num.f t315).bind fun t327 => (if t327 = 0 then (if t316.toList = ([0, 1, 2] : List UInt8) then ((halberdlaw0_Num.f t317).bind fun t328 => (if t328 = 0 then (if t318.toList = ([0, 2, 97, 98] : List UInt8) then ((halberdlaw0_Num.f t319).bind fun t329 => (if t329 = 0 then ((halberdlaw0_Num.f t322).bind fun t330 => (if t330 = 100 then ((halberdlaw0_Num.f t325).bind fun t331 => (some (t331 == 100))) else (some false))) else (some false))) else (some false)) else (some false))) else (some false)) else (some false))) else (some false)) else (some false)) else (some false))) else (some false)) else (some false)) = some r := H
  have A6 := Aside0.mk A60
  clear A60
  by_cases c7 : t310 = 515
  · rw [if_pos c7] at H
    have c7b0 : (t310 == 515) = true := beq_iff_eq.mpr c7
    have c7b1 : (t310 != 515) = false := bne_eq_false_iff_eq.mpr c7
    clear c7
    by_cases c8 : t311 = 3
    · rw [if_pos c8] at H
      have c8b0 : (t311 == 3) = true := beq_iff_eq.mpr c8
      have c8b1 : (t311 != 3) = false := bne_eq_false_iff_eq.mpr c8
      clear c8
      replace H := Option.bind_eq_some_iff.mp H
      obtain ⟨t326, A90, H⟩ := H
      replace H : (if t326 = 0 then (if t313.toList = ([97, 98] : List UInt8) then (if t314 = 3 then ((halberdlaw0_Num.f t315).bind fun t327 => (if t327 = 0 then (if t316.toList = ([0, 1, 2] : List UInt8) then ((halberdlaw0_Num.f t317).bind fun t328 => (if t328 = 0 then (if t318.toList = ([0, 2, 97, 98] : List UInt8) then ((halberdlaw0_Num.f t319).bind fun t329 => (if t329 = 0 then ((halberdlaw0_Num.f t322).bind fun t330 => (if t330 = 100 then ((halberdlaw0_Num.f t325).bind fun t331 => (some (t331 == 100))) else (some false))) else (some false))) else (some false)) else (some false))) else (some false)) else (some false))) else (some false)) else (some false)) else (some false)) = some r := H
      have A9 := Aside0.mk A90
      clear A90
      by_cases c10 : t326 = 0
      · rw [if_pos c10] at H
        have c10b0 : (t326 == 0) = true := beq_iff_eq.mpr c10
        have c10b1 : (t326 != 0) = false := bne_eq_false_iff_eq.mpr c10
        clear c10
        by_cases c11 : t313.toList = ([97, 98] : List UInt8)
        · rw [if_pos c11] at H
          have c11b0 : (t313.toList == ([97, 98] : List UInt8)) = true := beq_iff_eq.mpr c11
          have c11b1 : (t313.toList != ([97, 98] : List UInt8)) = false := bne_eq_false_iff_eq.mpr c11
          clear c11
          by_cases c12 : t314 = 3
          · rw [if_pos c12] at H
            have c12b0 : (t314 == 3) = true := beq_iff_eq.mpr c12
            have c12b1 : (t314 != 3) = false := bne_eq_false_iff_eq.mpr c12
            clear c12
            replace H := Option.bind_eq_some_iff.mp H
            obtain ⟨t327, A130, H⟩ := H
            replace H : (if t327 = 0 then (if t316.toList = ([0, 1, 2] : List UInt8) then ((halberdlaw0_Num.f t317).bind fun t328 => (if t328 = 0 then (if t318.toList = ([0, 2, 97, 98] : List UInt8) then ((halberdlaw0_Num.f t319).bind fun t329 => (if t329 = 0 then ((halberdlaw0_Num.f t322).bind fun t330 => (if t330 = 100 then ((halberdlaw0_Num.f t325).bind fun t331 => (some (t331 == 100))) else (some false))) else (some false))) else (some false)) else (some false))) else (some false)) else (some false)) = some r := H
            have A13 := Aside0.mk A130
            clear A130
            by_cases c14 : t327 = 0
            · rw [if_pos c14] at H
              have c14b0 : (t327 == 0) = true := beq_iff_eq.mpr c14
              have c14b1 : (t327 != 0) = false := bne_eq_false_iff_eq.mpr c14
              clear c14
              by_cases c15 : t316.toList = ([0, 1, 2] : List UInt8)
              · rw [if_pos c15] at H
                have c15b0 : (t316.toList == ([0, 1, 2] : List UInt8)) = true := beq_iff_eq.mpr c15
                have c15b1 : (t316.toList != ([0, 1, 2] : List UInt8)) = false := bne_eq_false_iff_eq.mpr c15
                clear c15
                replace H := Option.bind_eq_some_iff.mp H
                obtain ⟨t328, A160, H⟩ := H
                replace H : (if t328 = 0 then (if t318.toList = ([0, 2, 97, 98] : List UInt8) then ((halberdlaw0_Num.f t319).bind fun t329 => (if t329 = 0 then ((halberdlaw0_Num.f t322).bind fun t330 => (if t330 = 100 then ((halberdlaw0_Num.f t325).bind fun t331 => (some (t331 == 100))) else (some false))) else (some false))) else (some false)) else (some false)) = some r := H
                have A16 := Aside0.mk A160
                clear A160
                by_cases c17 : t328 = 0
                · rw [if_pos c17] at H
                  have c17b0 : (t328 == 0) = true := beq_iff_eq.mpr c17
                  have c17b1 : (t328 != 0) = false := bne_eq_false_iff_eq.mpr c17
                  clear c17
                  by_cases c18 : t318.toList = ([0, 2, 97, 98] : List UInt8)
                  · rw [if_pos c18] at H
                    have c18b0 : (t318.toList == ([0, 2, 97, 98] : List UInt8)) = true := beq_iff_eq.mpr c18
                    have c18b1 : (t318.toList != ([0, 2, 97, 98] : List UInt8)) = false := bne_eq_false_iff_eq.mpr c18
                    clear c18
                    replace H := Option.bind_eq_some_iff.mp H
                    obtain ⟨t329, A190, H⟩ := H
                    replace H : (if t329 = 0 then ((halberdlaw0_Num.f t322).bind fun t330 => (if t330 = 100 then ((halberdlaw0_Num.f t325).bind fun t331 => (some (t331 == 100))) else (some false))) else (some false)) = some r := H
                    have A19 := Aside0.mk A190
                    clear A190
                    by_cases c20 : t329 = 0
                    · rw [if_pos c20] at H
                      have c20b0 : (t329 == 0) = true := beq_iff_eq.mpr c20
                      have c20b1 : (t329 != 0) = false := bne_eq_false_iff_eq.mpr c20
                      clear c20
                      replace H := Option.bind_eq_some_iff.mp H
                      obtain ⟨t330, A210, H⟩ := H
                      replace H : (if t330 = 100 then ((halberdlaw0_Num.f t325).bind fun t331 => (some (t331 == 100))) else (some false)) = some r := H
                      have A21 := Aside0.mk A210
                      clear A210
                      by_cases c22 : t330 = 100
                      · rw [if_pos c22] at H
                        have c22b0 : (t330 == 100) = true := beq_iff_eq.mpr c22
                        have c22b1 : (t330 != 100) = false := bne_eq_false_iff_eq.mpr c22
                        clear c22
                        replace H := Option.bind_eq_some_iff.mp H
                        obtain ⟨t331, A230, H⟩ := H
                        replace H : (some (t331 == 100)) = some r := H
                        have A23 := Aside0.mk A230
                        clear A230
                        obtain rfl := Option.some.inj H
                        go_enter Try.func37, Try.ntmps37
                        go_wp2_with (first | ((with_reducible refine gate_callee (f := 39) rfl ?_); refine goesL_ (some 18) rfl rfl Try.func39 (by kernel_rfl) rfl #[.string (⟨#[1, 2, 3]⟩ : ByteArray), .int .i64 1] rfl (by (try simp only [List.map_toArray, List.map_cons, List.map_nil]); first | done | rfl | (simp only [List.length_drop, List.length_take]; rfl)) ?_; (with_reducible refine (wire_U16.calls k (⟨#[1, 2, 3]⟩ : ByteArray) 1 t310 t311 t312 _ A1.out).mono ?_); rintro e w' ⟨rfl, ⟨nd, rfl⟩⟩; refine ⟨_, rfl, ?_⟩) | ((with_reducible refine gate_callee (f := 38) rfl ?_); refine goesL_ (some 23) rfl rfl Try.func38 (by kernel_rfl) rfl #[.string (⟨#[2, 97, 98, 122]⟩ : ByteArray), .int .i64 0, .int .i64 1] rfl (by (try simp only [List.map_toArray, List.map_cons, List.map_nil]); first | done | rfl | (simp only [List.length_drop, List.length_take]; rfl)) ?_; (with_reducible refine (wire_Vec.calls k (⟨#[2, 97, 98, 122]⟩ : ByteArray) 0 1 t313 t314 t315 _ A2.out).mono ?_); rintro e w' ⟨rfl, ⟨nd, rfl⟩⟩; refine ⟨_, rfl, ?_⟩) | ((with_reducible refine gate_callee (f := 33) rfl ?_); refine goesL_ (some 28) rfl rfl Try.func33 (by kernel_rfl) rfl #[.int .i64 258, .int .i64 3] rfl (by (try simp only [List.map_toArray, List.map_cons, List.map_nil]); first | done | rfl | (simp only [List.length_drop, List.length_take]; rfl)) ?_; (with_reducible refine (wire_Put.calls 258 3 t316 t317 _ A3.out).mono ?_); rintro e w24 ⟨rfl, hb⟩; refine ⟨_, rfl, ?_⟩; have n0_ := Aside0.mk (below_step (by repeat (first | (with_reducible first | exact HB.out | apply below_alloc | apply pw_below_drewN | apply below_drew1) | exact HB.out)) hb); clear HB; have HB := n0_; clear n0_; (try clear hb); (try clear hb2); (try clear hk); (try clear hi)) | ((with_reducible refine gate_callee (f := 35) rfl ?_); refine goesL_ (some 32) rfl rfl Try.func35 (by kernel_rfl) rfl #[.string (⟨#[97, 98]⟩ : ByteArray), .int .i64 2] rfl (by (try simp only [List.map_toArray, List.map_cons, List.map_nil]); first | done | rfl | (simp only [List.length_drop, List.length_take]; rfl)) ?_; (with_reducible refine (wire_PutVec.calls (⟨#[97, 98]⟩ : ByteArray) 2 t318 t319 _ A4.out).mono ?_); rintro e w25 ⟨rfl, hb⟩; refine ⟨_, rfl, ?_⟩; have n0_ := Aside0.mk (below_step (by repeat (first | (with_reducible first | exact HB.out | apply below_alloc | apply pw_below_drewN | apply below_drew1) | exact HB.out)) hb); clear HB; have HB := n0_; clear n0_; (try clear hb); (try clear hb2); (try clear hk); (try clear hi)) | ((with_reducible refine gate_callee (f := 42) rfl ?_); refine goesL_ (some 36) rfl rfl Try.func42 (by kernel_rfl) rfl #[.string (⟨#[97, 98]⟩ : ByteArray), .int .i64 0] rfl (by (try simp only [List.map_toArray, List.map_cons, List.map_nil]); first | done | rfl | (simp only [List.length_drop, List.length_take]; rfl)) ?_; (with_reducible refine (wire_U24.calls k (⟨#[97, 98]⟩ : ByteArray) 0 t320 t321 t322 _ A5.out).mono ?_); rintro e w' ⟨rfl, ⟨nd, rfl⟩⟩; refine ⟨_, rfl, ?_⟩) | ((with_reducible refine gate_callee (f := 38) rfl ?_); refine goesL_ (some 41) rfl rfl Try.func38 (by kernel_rfl) rfl #[.string (⟨#[5, 97]⟩ : ByteArray), .int .i64 0, .int .i64 1] rfl (by (try simp only [List.map_toArray, List.map_cons, List.map_nil]); first | done | rfl | (simp only [List.length_drop, List.length_take]; rfl)) ?_; (with_reducible refine (wire_Vec.calls k (⟨#[5, 97]⟩ : ByteArray) 0 1 t323 t324 t325 _ A6.out).mono ?_); rintro e w' ⟨rfl, ⟨nd, rfl⟩⟩; refine ⟨_, rfl, ?_⟩) | (go_at_call 28; (with_reducible refine (halberdlaw0_Num.calls t312 t326 _ A9.out).mono ?_); rintro e w' ⟨rfl, ⟨nd, rfl⟩⟩) | (go_at_call 28; (with_reducible refine (halberdlaw0_Num.calls t315 t327 _ A13.out).mono ?_); rintro e w' ⟨rfl, ⟨nd, rfl⟩⟩) | (go_at_call 28; (with_reducible refine (halberdlaw0_Num.calls t317 t328 _ A16.out).mono ?_); rintro e w' ⟨rfl, ⟨nd, rfl⟩⟩) | (go_at_call 28; (with_reducible refine (halberdlaw0_Num.calls t319 t329 _ A19.out).mono ?_); rintro e w' ⟨rfl, ⟨nd, rfl⟩⟩) | (go_at_call 28; (with_reducible refine (halberdlaw0_Num.calls t322 t330 _ A21.out).mono ?_); rintro e w' ⟨rfl, ⟨nd, rfl⟩⟩) | (go_at_call 28; (with_reducible refine (halberdlaw0_Num.calls t325 t331 _ A23.out).mono ?_); rintro e w' ⟨rfl, ⟨nd, rfl⟩⟩))
                        go_ret
                        exact ⟨by first | rfl | (simp [errW_none, errW_some] <;> rfl) | (simp [*, errW_none, errW_some] <;> rfl), by repeat (first | (with_reducible first | exact HB.out | apply below_alloc | apply pw_below_drewN | apply below_drew1) | exact HB.out)⟩
                      · rw [if_neg c22] at H
                        have c22b0 : (t330 == 100) = false := beq_eq_false_iff_ne.mpr c22
                        have c22b1 : (t330 != 100) = true := bne_iff_ne.mpr c22
                        exact absurd ((Option.some.inj H).trans hr.out) (by decide)
                    · rw [if_neg c20] at H
                      have c20b0 : (t329 == 0) = false := beq_eq_false_iff_ne.mpr c20
                      have c20b1 : (t329 != 0) = true := bne_iff_ne.mpr c20
                      exact absurd ((Option.some.inj H).trans hr.out) (by decide)
                  · rw [if_neg c18] at H
                    have c18b0 : (t318.toList == ([0, 2, 97, 98] : List UInt8)) = false := beq_eq_false_iff_ne.mpr c18
                    have c18b1 : (t318.toList != ([0, 2, 97, 98] : List UInt8)) = true := bne_iff_ne.mpr c18
                    exact absurd ((Option.some.inj H).trans hr.out) (by decide)
                · rw [if_neg c17] at H
                  have c17b0 : (t328 == 0) = false := beq_eq_false_iff_ne.mpr c17
                  have c17b1 : (t328 != 0) = true := bne_iff_ne.mpr c17
                  exact absurd ((Option.some.inj H).trans hr.out) (by decide)
              · rw [if_neg c15] at H
                have c15b0 : (t316.toList == ([0, 1, 2] : List UInt8)) = false := beq_eq_false_iff_ne.mpr c15
                have c15b1 : (t316.toList != ([0, 1, 2] : List UInt8)) = true := bne_iff_ne.mpr c15
                exact absurd ((Option.some.inj H).trans hr.out) (by decide)
            · rw [if_neg c14] at H
              have c14b0 : (t327 == 0) = false := beq_eq_false_iff_ne.mpr c14
              have c14b1 : (t327 != 0) = true := bne_iff_ne.mpr c14
              exact absurd ((Option.some.inj H).trans hr.out) (by decide)
          · rw [if_neg c12] at H
            have c12b0 : (t314 == 3) = false := beq_eq_false_iff_ne.mpr c12
            have c12b1 : (t314 != 3) = true := bne_iff_ne.mpr c12
            exact absurd ((Option.some.inj H).trans hr.out) (by decide)
        · rw [if_neg c11] at H
          have c11b0 : (t313.toList == ([97, 98] : List UInt8)) = false := beq_eq_false_iff_ne.mpr c11
          have c11b1 : (t313.toList != ([97, 98] : List UInt8)) = true := bne_iff_ne.mpr c11
          exact absurd ((Option.some.inj H).trans hr.out) (by decide)
      · rw [if_neg c10] at H
        have c10b0 : (t326 == 0) = false := beq_eq_false_iff_ne.mpr c10
        have c10b1 : (t326 != 0) = true := bne_iff_ne.mpr c10
        exact absurd ((Option.some.inj H).trans hr.out) (by decide)
    · rw [if_neg c8] at H
      have c8b0 : (t311 == 3) = false := beq_eq_false_iff_ne.mpr c8
      have c8b1 : (t311 != 3) = true := bne_iff_ne.mpr c8
      exact absurd ((Option.some.inj H).trans hr.out) (by decide)
  · rw [if_neg c7] at H
    have c7b0 : (t310 == 515) = false := beq_eq_false_iff_ne.mpr c7
    have c7b1 : (t310 != 515) = true := bne_iff_ne.mpr c7
    exact absurd ((Option.some.inj H).trans hr.out) (by decide)

/-! ### halberdlaw1_awake: function 37, closed -/
def halberdlaw1_awake.f : Option (Bool) := some true
theorem halberdlaw1_awake.knows : halberdlaw1_awake0.f 40 = some true := by decide +kernel
theorem halberdlaw1_awake.calls (r : Bool) (w : World) (h : halberdlaw1_awake.f = some r) : Calls Try.prog 37 #[] w fun e w' => e = .returned (.bool r) ∧ Below w.heap.size w w' := by
  obtain rfl := Option.some.inj h
  exact halberdlaw1_awake0.calls 40  true w halberdlaw1_awake.knows ⟨rfl⟩

/-! ### wire_U32: function 40 -/
def wire_U32.f (k : Nat) (a0 : ByteArray) (a1 : Int) : Option (Int × Int × Int) := (wire_number.f k a0 a1 4).bind fun bt332 => (some (bt332.1, bt332.2.1, bt332.2.2))
theorem wire_U32.mono : ∀ a0 a1 k, LeO (wire_U32.f k a0 a1) (wire_U32.f (k + 1) a0 a1) := by
  intro a0 a1 k
  unfold wire_U32.f
  repeat' first
      | (with_reducible exact wire_number.mono _ _ _ _)
      | (with_reducible exact LeO.refl _)
      | (with_reducible exact LeO.none _)
      | (with_reducible refine LeO.ite ?_ ?_)
      | (with_reducible refine LeO.bind ?_ (fun _ => ?_))
      | exact wire_number.mono _ _ _ _
      | exact LeO.none _
      | refine LeO.ite ?_ ?_
      | refine LeO.bind ?_ (fun _ => ?_)
set_option maxHeartbeats 8000000 in
set_option maxRecDepth 100000 in
theorem wire_U32.calls (k : Nat) (a0 : ByteArray) (a1 : Int) (r1 : Int) (r2 : Int) (r3 : Int) (w : World) (h : wire_U32.f k a0 a1 = some (r1, r2, r3)) :
    Calls Try.prog 40 #[.string a0, .int .i64 a1] w fun e w' => e = .returned (.tuple #[.int .i64 r1, .int .i64 r2, .int .i64 r3]) ∧ Drawn0 w w' := by
  have H : ((wire_number.f k a0 a1 4).bind fun bt332 => (some (bt332.1, bt332.2.1, bt332.2.2))) = some (r1, r2, r3) := h
  clear h
  replace H := Option.bind_eq_some_iff.mp H
  obtain ⟨⟨t332, t333, t334⟩, A30, H⟩ := H
  replace H : (some (t332, t333, t334)) = some (r1, r2, r3) := H
  have A3 := Aside0.mk A30
  clear A30
  simp only [Option.some.injEq, Prod.mk.injEq] at H
  obtain ⟨rfl, rfl, rfl⟩ := H
  go_enter Try.func40, Try.ntmps40
  go_wp2_with (first | ((with_reducible refine gate_callee (f := 48) rfl ?_); refine goesL_ (some 9) rfl rfl Try.func48 (by kernel_rfl) rfl #[.string a0, .int .i64 a1, .int .i64 4] rfl (by (try simp only [List.map_toArray, List.map_cons, List.map_nil]); first | done | rfl | (simp only [List.length_drop, List.length_take]; rfl)) ?_; (with_reducible refine (wire_number.calls k a0 a1 4 t332 t333 t334 _ A3.out).mono ?_); rintro e w' ⟨rfl, ⟨nd, rfl⟩⟩; refine ⟨_, rfl, ?_⟩))
  go_ret3
  exact ⟨by first | rfl | (simp; done) | (simp [*]; done), by repeat (first | exact Drawn0.refl _ | apply Drawn0.step)⟩

/-! ### wire_U8: function 41 -/
def wire_U8.f (k : Nat) (a0 : ByteArray) (a1 : Int) : Option (Int × Int × Int) := (wire_number.f k a0 a1 1).bind fun bt335 => (some (bt335.1, bt335.2.1, bt335.2.2))
theorem wire_U8.mono : ∀ a0 a1 k, LeO (wire_U8.f k a0 a1) (wire_U8.f (k + 1) a0 a1) := by
  intro a0 a1 k
  unfold wire_U8.f
  repeat' first
      | (with_reducible exact wire_number.mono _ _ _ _)
      | (with_reducible exact LeO.refl _)
      | (with_reducible exact LeO.none _)
      | (with_reducible refine LeO.ite ?_ ?_)
      | (with_reducible refine LeO.bind ?_ (fun _ => ?_))
      | exact wire_number.mono _ _ _ _
      | exact LeO.none _
      | refine LeO.ite ?_ ?_
      | refine LeO.bind ?_ (fun _ => ?_)
set_option maxHeartbeats 8000000 in
set_option maxRecDepth 100000 in
theorem wire_U8.calls (k : Nat) (a0 : ByteArray) (a1 : Int) (r1 : Int) (r2 : Int) (r3 : Int) (w : World) (h : wire_U8.f k a0 a1 = some (r1, r2, r3)) :
    Calls Try.prog 41 #[.string a0, .int .i64 a1] w fun e w' => e = .returned (.tuple #[.int .i64 r1, .int .i64 r2, .int .i64 r3]) ∧ Drawn0 w w' := by
  have H : ((wire_number.f k a0 a1 1).bind fun bt335 => (some (bt335.1, bt335.2.1, bt335.2.2))) = some (r1, r2, r3) := h
  clear h
  replace H := Option.bind_eq_some_iff.mp H
  obtain ⟨⟨t335, t336, t337⟩, A30, H⟩ := H
  replace H : (some (t335, t336, t337)) = some (r1, r2, r3) := H
  have A3 := Aside0.mk A30
  clear A30
  simp only [Option.some.injEq, Prod.mk.injEq] at H
  obtain ⟨rfl, rfl, rfl⟩ := H
  go_enter Try.func41, Try.ntmps41
  go_wp2_with (first | ((with_reducible refine gate_callee (f := 48) rfl ?_); refine goesL_ (some 9) rfl rfl Try.func48 (by kernel_rfl) rfl #[.string a0, .int .i64 a1, .int .i64 1] rfl (by (try simp only [List.map_toArray, List.map_cons, List.map_nil]); first | done | rfl | (simp only [List.length_drop, List.length_take]; rfl)) ?_; (with_reducible refine (wire_number.calls k a0 a1 1 t335 t336 t337 _ A3.out).mono ?_); rintro e w' ⟨rfl, ⟨nd, rfl⟩⟩; refine ⟨_, rfl, ?_⟩))
  go_ret3
  exact ⟨by first | rfl | (simp; done) | (simp [*]; done), by repeat (first | exact Drawn0.refl _ | apply Drawn0.step)⟩

end Go.Proofs.Ytggnmnpmhknjgaa.Y
