-- Written by a program of this session (wip/tools/xprint.py), over the kit's printer.
import Derived.Test.YtggnmnpmhknjgaaXx0
import Derived.Test.YtggnmnpmhknjgaaXx1
import Derived.Test.YtggnmnpmhknjgaaXx6
import Derived.Test.YtggnmnpmhknjgaaXx11
import Derived.Test.YtggnmnpmhknjgaaXx12
namespace Go.Proofs.Ytggnmnpmhknjgaa.X
open Go.RowKit Go.Proofs.YtggnmnpmhknjgaaW.PrintWords Go.Proofs.YtggnmnpmhknjgaaW.PrintLast Go.Proofs.YtggnmnpmhknjgaaW.PrintMore
attribute [local go_sem] max2_int min2_int max_two min_two max_three min_three max_four min_four   -- for this text's walks alone
set_option linter.unusedVariables false
set_option linter.unusedSimpArgs false

/-! ### halberdlaw1_awake0: function 37 -/
def halberdlaw1_awake0.f (k : Nat)  : Option (Bool) := (wire_U16.f k (⟨#[1, 2, 3]⟩ : ByteArray) 1).bind fun bt418 => ((wire_Vec.f k (⟨#[2, 97, 98, 122]⟩ : ByteArray) 0 1).bind fun bt421 => ((wire_Put.f 258 3).bind fun bt424 => ((wire_PutVec.f (⟨#[97, 98]⟩ : ByteArray) 2).bind fun bt426 => ((wire_U24.f k (⟨#[97, 98]⟩ : ByteArray) 0).bind fun bt428 => ((wire_Vec.f k (⟨#[5, 97]⟩ : ByteArray) 0 1).bind fun bt431 => (if bt418.1 = 515 then (if bt418.2.1 = 3 then ((halberdlaw0_Num.f bt418.2.2).bind fun t434 => (if t434 = 0 then (if bt421.1.toList = ([97, 98] : List UInt8) then (if bt421.2.1 = 3 then ((halberdlaw0_Num.f bt421.2.2).bind fun t435 => (if t435 = 0 then (if bt424.1.toList = ([0, 1, 2] : List UInt8) then ((halberdlaw0_Num.f bt424.2).bind fun t436 => (if t436 = 0 then (if bt426.1.toList = ([0, 2, 97, 98] : List UInt8) then ((halberdlaw0_Num.f bt426.2).bind fun t437 => (if t437 = 0 then ((halberdlaw0_Num.f bt428.2.2).bind fun t438 => (if t438 = 100 then ((halberdlaw0_Num.f bt431.2.2).bind fun t439 => (some (t439 == 100))) else (some false))) else (some false))) else (some false)) else (some false))) else (some false)) else (some false))) else (some false)) else (some false)) else (some false))) else (some false)) else (some false)))))))
theorem halberdlaw1_awake0.mono : ∀ k, LeO (halberdlaw1_awake0.f k ) (halberdlaw1_awake0.f (k + 1) ) := by
  intro  k
  unfold halberdlaw1_awake0.f
  repeat' first
      | (with_reducible exact wire_U16.mono _ _ _)
      | (with_reducible exact wire_U24.mono _ _ _)
      | (with_reducible exact wire_Vec.mono _ _ _ _)
      | (with_reducible exact LeO.refl _)
      | (with_reducible exact LeO.none _)
      | (with_reducible refine LeO.ite ?_ ?_)
      | (with_reducible refine LeO.bind ?_ (fun _ => ?_))
      | exact wire_U16.mono _ _ _
      | exact wire_U24.mono _ _ _
      | exact wire_Vec.mono _ _ _ _
      | exact LeO.none _
      | refine LeO.ite ?_ ?_
      | refine LeO.bind ?_ (fun _ => ?_)
set_option maxHeartbeats 8000000 in
set_option maxRecDepth 100000 in
theorem halberdlaw1_awake0.calls (k : Nat)  (r : Bool) (w : World) (h : halberdlaw1_awake0.f k  = some r) (hr : Aside0 (r = true)) :
    Calls Try.prog 37 #[] w fun e w' => e = .returned (.bool r) ∧ Below w.heap.size w w' := by
  have HB := Aside0.mk (Below.refl w.heap.size w)
  have H : ((wire_U16.f k (⟨#[1, 2, 3]⟩ : ByteArray) 1).bind fun bt418 => ((wire_Vec.f k (⟨#[2, 97, 98, 122]⟩ : ByteArray) 0 1).bind fun bt421 => ((wire_Put.f 258 3).bind fun bt424 => ((wire_PutVec.f (⟨#[97, 98]⟩ : ByteArray) 2).bind fun bt426 => ((wire_U24.f k (⟨#[97, 98]⟩ : ByteArray) 0).bind fun bt428 => ((wire_Vec.f k (⟨#[5, 97]⟩ : ByteArray) 0 1).bind fun bt431 => (if bt418.1 = 515 then (if bt418.2.1 = 3 then ((halberdlaw0_Num.f bt418.2.2).bind fun t434 => (if t434 = 0 then (if bt421.1.toList = ([97, 98] : List UInt8) then (if bt421.2.1 = 3 then ((halberdlaw0_Num.f bt421.2.2).bind fun t435 => (if t435 = 0 then (if bt424.1.toList = ([0, 1, 2] : List UInt8) then ((halberdlaw0_Num.f bt424.2).bind fun t436 => (if t436 = 0 then (if bt426.1.toList = ([0, 2, 97, 98] : List UInt8) then ((halberdlaw0_Num.f bt426.2).bind fun t437 => (if t437 = 0 then ((halberdlaw0_Num.f bt428.2.2).bind fun t438 => (if t438 = 100 then ((halberdlaw0_Num.f bt431.2.2).bind fun t439 => (some (t439 == 100))) else (some false))) else (some false))) else (some false)) else (some false))) else (some false)) else (some false))) else (some false)) else (some false)) else (some false))) else (some false)) else (some false)))))))) = some r := h
  clear h
  replace H := Option.bind_eq_some_iff.mp H
  obtain ⟨⟨t418, t419, t420⟩, A10, H⟩ := H
  replace H : ((wire_Vec.f k (⟨#[2, 97, 98, 122]⟩ : ByteArray) 0 1).bind fun bt421 => ((wire_Put.f 258 3).bind fun bt424 => ((wire_PutVec.f (⟨#[97, 98]⟩ : ByteArray) 2).bind fun bt426 => ((wire_U24.f k (⟨#[97, 98]⟩ : ByteArray) 0).bind fun bt428 => ((wire_Vec.f k (⟨#[5, 97]⟩ : ByteArray) 0 1).bind fun bt431 => (if t418 = 515 then (if t419 = 3 then ((halberdlaw0_Num.f t420).bind fun t434 => (if t434 = 0 then (if bt421.1.toList = ([97, 98] : List UInt8) then (if bt421.2.1 = 3 then ((halberdlaw0_Num.f bt421.2.2).bind fun t435 => (if t435 = 0 then (if bt424.1.toList = ([0, 1, 2] : List UInt8) then ((halberdlaw0_Num.f bt424.2).bind fun t436 => (if t436 = 0 then (if bt426.1.toList = ([0, 2, 97, 98] : List UInt8) then ((halberdlaw0_Num.f bt426.2).bind fun t437 => (if t437 = 0 then ((halberdlaw0_Num.f bt428.2.2).bind fun t438 => (if t438 = 100 then ((halberdlaw0_Num.f bt431.2.2).bind fun t439 => (some (t439 == 100))) else (some false))) else (some false))) else (some false)) else (some false))) else (some false)) else (some false))) else (some false)) else (some false)) else (some false))) else (some false)) else (some false))))))) = some r := H
  have A1 := Aside0.mk A10
  clear A10
  replace H := Option.bind_eq_some_iff.mp H
  obtain ⟨⟨t421, t422, t423⟩, A20, H⟩ := H
  replace H : ((wire_Put.f 258 3).bind fun bt424 => ((wire_PutVec.f (⟨#[97, 98]⟩ : ByteArray) 2).bind fun bt426 => ((wire_U24.f k (⟨#[97, 98]⟩ : ByteArray) 0).bind fun bt428 => ((wire_Vec.f k (⟨#[5, 97]⟩ : ByteArray) 0 1).bind fun bt431 => (if t418 = 515 then (if t419 = 3 then ((halberdlaw0_Num.f t420).bind fun t434 => (if t434 = 0 then (if t421.toList = ([97, 98] : List UInt8) then (if t422 = 3 then ((halberdlaw0_Num.f t423).bind fun t435 => (if t435 = 0 then (if bt424.1.toList = ([0, 1, 2] : List UInt8) then ((halberdlaw0_Num.f bt424.2).bind fun t436 => (if t436 = 0 then (if bt426.1.toList = ([0, 2, 97, 98] : List UInt8) then ((halberdlaw0_Num.f bt426.2).bind fun t437 => (if t437 = 0 then ((halberdlaw0_Num.f bt428.2.2).bind fun t438 => (if t438 = 100 then ((halberdlaw0_Num.f bt431.2.2).bind fun t439 => (some (t439 == 100))) else (some false))) else (some false))) else (some false)) else (some false))) else (some false)) else (some false))) else (some false)) else (some false)) else (some false))) else (some false)) else (some false)))))) = some r := H
  have A2 := Aside0.mk A20
  clear A20
  replace H := Option.bind_eq_some_iff.mp H
  obtain ⟨⟨t424, t425⟩, A30, H⟩ := H
  replace H : ((wire_PutVec.f (⟨#[97, 98]⟩ : ByteArray) 2).bind fun bt426 => ((wire_U24.f k (⟨#[97, 98]⟩ : ByteArray) 0).bind fun bt428 => ((wire_Vec.f k (⟨#[5, 97]⟩ : ByteArray) 0 1).bind fun bt431 => (if t418 = 515 then (if t419 = 3 then ((halberdlaw0_Num.f t420).bind fun t434 => (if t434 = 0 then (if t421.toList = ([97, 98] : List UInt8) then (if t422 = 3 then ((halberdlaw0_Num.f t423).bind fun t435 => (if t435 = 0 then (if t424.toList = ([0, 1, 2] : List UInt8) then ((halberdlaw0_Num.f t425).bind fun t436 => (if t436 = 0 then (if bt426.1.toList = ([0, 2, 97, 98] : List UInt8) then ((halberdlaw0_Num.f bt426.2).bind fun t437 => (if t437 = 0 then ((halberdlaw0_Num.f bt428.2.2).bind fun t438 => (if t438 = 100 then ((halberdlaw0_Num.f bt431.2.2).bind fun t439 => (some (t439 == 100))) else (some false))) else (some false))) else (some false)) else (some false))) else (some false)) else (some false))) else (some false)) else (some false)) else (some false))) else (some false)) else (some false))))) = some r := H
  have A3 := Aside0.mk A30
  clear A30
  replace H := Option.bind_eq_some_iff.mp H
  obtain ⟨⟨t426, t427⟩, A40, H⟩ := H
  replace H : ((wire_U24.f k (⟨#[97, 98]⟩ : ByteArray) 0).bind fun bt428 => ((wire_Vec.f k (⟨#[5, 97]⟩ : ByteArray) 0 1).bind fun bt431 => (if t418 = 515 then (if t419 = 3 then ((halberdlaw0_Num.f t420).bind fun t434 => (if t434 = 0 then (if t421.toList = ([97, 98] : List UInt8) then (if t422 = 3 then ((halberdlaw0_Num.f t423).bind fun t435 => (if t435 = 0 then (if t424.toList = ([0, 1, 2] : List UInt8) then ((halberdlaw0_Num.f t425).bind fun t436 => (if t436 = 0 then (if t426.toList = ([0, 2, 97, 98] : List UInt8) then ((halberdlaw0_Num.f t427).bind fun t437 => (if t437 = 0 then ((halberdlaw0_Num.f bt428.2.2).bind fun t438 => (if t438 = 100 then ((halberdlaw0_Num.f bt431.2.2).bind fun t439 => (some (t439 == 100))) else (some false))) else (some false))) else (some false)) else (some false))) else (some false)) else (some false))) else (some false)) else (some false)) else (some false))) else (some false)) else (some false)))) = some r := H
  have A4 := Aside0.mk A40
  clear A40
  replace H := Option.bind_eq_some_iff.mp H
  obtain ⟨⟨t428, t429, t430⟩, A50, H⟩ := H
  replace H : ((wire_Vec.f k (⟨#[5, 97]⟩ : ByteArray) 0 1).bind fun bt431 => (if t418 = 515 then (if t419 = 3 then ((halberdlaw0_Num.f t420).bind fun t434 => (if t434 = 0 then (if t421.toList = ([97, 98] : List UInt8) then (if t422 = 3 then ((halberdlaw0_Num.f t423).bind fun t435 => (if t435 = 0 then (if t424.toList = ([0, 1, 2] : List UInt8) then ((halberdlaw0_Num.f t425).bind fun t436 => (if t436 = 0 then (if t426.toList = ([0, 2, 97, 98] : List UInt8) then ((halberdlaw0_Num.f t427).bind fun t437 => (if t437 = 0 then ((halberdlaw0_Num.f t430).bind fun t438 => (if t438 = 100 then ((halberdlaw0_Num.f bt431.2.2).bind fun t439 => (some (t439 == 100))) else (some false))) else (some false))) else (some false)) else (some false))) else (some false)) else (some false))) else (some false)) else (some false)) else (some false))) else (some false)) else (some false))) = some r := H
  have A5 := Aside0.mk A50
  clear A50
  replace H := Option.bind_eq_some_iff.mp H
  obtain ⟨⟨t431, t432, t433⟩, A60, H⟩ := H
  replace H : (if t418 = 515 then (if t419 = 3 then ((halberdlaw0_Num.f t420).bind fun t434 => (if t434 = 0 then (if t421.toList = ([97, 98] : List UInt8) then (if t422 = 3 then ((halberdlaw0_Num.f t423).bind fun t435 => (if t435 = 0 then (if t424.toList = ([0, 1, 2] : List UInt8) then ((halberdlaw0_Num.f t425).bind fun t436 => (if t436 = 0 then (if t426.toList = ([0, 2, 97, 98] : List UInt8) then ((halberdlaw0_Num.f t427).bind fun t437 => (if t437 = 0 then ((halberdlaw0_Num.f t430).bind fun t438 => (if t438 = 100 then ((halberdlaw0_Num.f t433).bind fun t439 => (some (t439 == 100))) else (some false))) else (some false))) else (some false)) else (some false))) else (some false)) else (some false))) else (some false)) else (some false)) else (some false))) else (some false)) else (some false)) = some r := H
  have A6 := Aside0.mk A60
  clear A60
  by_cases c7 : t418 = 515
  · rw [if_pos c7] at H
    have c7b0 : (t418 == 515) = true := beq_iff_eq.mpr c7
    have c7b1 : (t418 != 515) = false := bne_eq_false_iff_eq.mpr c7
    clear c7
    by_cases c8 : t419 = 3
    · rw [if_pos c8] at H
      have c8b0 : (t419 == 3) = true := beq_iff_eq.mpr c8
      have c8b1 : (t419 != 3) = false := bne_eq_false_iff_eq.mpr c8
      clear c8
      replace H := Option.bind_eq_some_iff.mp H
      obtain ⟨t434, A90, H⟩ := H
      replace H : (if t434 = 0 then (if t421.toList = ([97, 98] : List UInt8) then (if t422 = 3 then ((halberdlaw0_Num.f t423).bind fun t435 => (if t435 = 0 then (if t424.toList = ([0, 1, 2] : List UInt8) then ((halberdlaw0_Num.f t425).bind fun t436 => (if t436 = 0 then (if t426.toList = ([0, 2, 97, 98] : List UInt8) then ((halberdlaw0_Num.f t427).bind fun t437 => (if t437 = 0 then ((halberdlaw0_Num.f t430).bind fun t438 => (if t438 = 100 then ((halberdlaw0_Num.f t433).bind fun t439 => (some (t439 == 100))) else (some false))) else (some false))) else (some false)) else (some false))) else (some false)) else (some false))) else (some false)) else (some false)) else (some false)) = some r := H
      have A9 := Aside0.mk A90
      clear A90
      by_cases c10 : t434 = 0
      · rw [if_pos c10] at H
        have c10b0 : (t434 == 0) = true := beq_iff_eq.mpr c10
        have c10b1 : (t434 != 0) = false := bne_eq_false_iff_eq.mpr c10
        clear c10
        by_cases c11 : t421.toList = ([97, 98] : List UInt8)
        · rw [if_pos c11] at H
          have c11b0 : (t421.toList == ([97, 98] : List UInt8)) = true := beq_iff_eq.mpr c11
          have c11b1 : (t421.toList != ([97, 98] : List UInt8)) = false := bne_eq_false_iff_eq.mpr c11
          clear c11
          by_cases c12 : t422 = 3
          · rw [if_pos c12] at H
            have c12b0 : (t422 == 3) = true := beq_iff_eq.mpr c12
            have c12b1 : (t422 != 3) = false := bne_eq_false_iff_eq.mpr c12
            clear c12
            replace H := Option.bind_eq_some_iff.mp H
            obtain ⟨t435, A130, H⟩ := H
            replace H : (if t435 = 0 then (if t424.toList = ([0, 1, 2] : List UInt8) then ((halberdlaw0_Num.f t425).bind fun t436 => (if t436 = 0 then (if t426.toList = ([0, 2, 97, 98] : List UInt8) then ((halberdlaw0_Num.f t427).bind fun t437 => (if t437 = 0 then ((halberdlaw0_Num.f t430).bind fun t438 => (if t438 = 100 then ((halberdlaw0_Num.f t433).bind fun t439 => (some (t439 == 100))) else (some false))) else (some false))) else (some false)) else (some false))) else (some false)) else (some false)) = some r := H
            have A13 := Aside0.mk A130
            clear A130
            by_cases c14 : t435 = 0
            · rw [if_pos c14] at H
              have c14b0 : (t435 == 0) = true := beq_iff_eq.mpr c14
              have c14b1 : (t435 != 0) = false := bne_eq_false_iff_eq.mpr c14
              clear c14
              by_cases c15 : t424.toList = ([0, 1, 2] : List UInt8)
              · rw [if_pos c15] at H
                have c15b0 : (t424.toList == ([0, 1, 2] : List UInt8)) = true := beq_iff_eq.mpr c15
                have c15b1 : (t424.toList != ([0, 1, 2] : List UInt8)) = false := bne_eq_false_iff_eq.mpr c15
                clear c15
                replace H := Option.bind_eq_some_iff.mp H
                obtain ⟨t436, A160, H⟩ := H
                replace H : (if t436 = 0 then (if t426.toList = ([0, 2, 97, 98] : List UInt8) then ((halberdlaw0_Num.f t427).bind fun t437 => (if t437 = 0 then ((halberdlaw0_Num.f t430).bind fun t438 => (if t438 = 100 then ((halberdlaw0_Num.f t433).bind fun t439 => (some (t439 == 100))) else (some false))) else (some false))) else (some false)) else (some false)) = some r := H
                have A16 := Aside0.mk A160
                clear A160
                by_cases c17 : t436 = 0
                · rw [if_pos c17] at H
                  have c17b0 : (t436 == 0) = true := beq_iff_eq.mpr c17
                  have c17b1 : (t436 != 0) = false := bne_eq_false_iff_eq.mpr c17
                  clear c17
                  by_cases c18 : t426.toList = ([0, 2, 97, 98] : List UInt8)
                  · rw [if_pos c18] at H
                    have c18b0 : (t426.toList == ([0, 2, 97, 98] : List UInt8)) = true := beq_iff_eq.mpr c18
                    have c18b1 : (t426.toList != ([0, 2, 97, 98] : List UInt8)) = false := bne_eq_false_iff_eq.mpr c18
                    clear c18
                    replace H := Option.bind_eq_some_iff.mp H
                    obtain ⟨t437, A190, H⟩ := H
                    replace H : (if t437 = 0 then ((halberdlaw0_Num.f t430).bind fun t438 => (if t438 = 100 then ((halberdlaw0_Num.f t433).bind fun t439 => (some (t439 == 100))) else (some false))) else (some false)) = some r := H
                    have A19 := Aside0.mk A190
                    clear A190
                    by_cases c20 : t437 = 0
                    · rw [if_pos c20] at H
                      have c20b0 : (t437 == 0) = true := beq_iff_eq.mpr c20
                      have c20b1 : (t437 != 0) = false := bne_eq_false_iff_eq.mpr c20
                      clear c20
                      replace H := Option.bind_eq_some_iff.mp H
                      obtain ⟨t438, A210, H⟩ := H
                      replace H : (if t438 = 100 then ((halberdlaw0_Num.f t433).bind fun t439 => (some (t439 == 100))) else (some false)) = some r := H
                      have A21 := Aside0.mk A210
                      clear A210
                      by_cases c22 : t438 = 100
                      · rw [if_pos c22] at H
                        have c22b0 : (t438 == 100) = true := beq_iff_eq.mpr c22
                        have c22b1 : (t438 != 100) = false := bne_eq_false_iff_eq.mpr c22
                        clear c22
                        replace H := Option.bind_eq_some_iff.mp H
                        obtain ⟨t439, A230, H⟩ := H
                        replace H : (some (t439 == 100)) = some r := H
                        have A23 := Aside0.mk A230
                        clear A230
                        obtain rfl := Option.some.inj H
                        go_enter Try.func37, Try.ntmps37
                        go_wp2_with (first | ((with_reducible refine gate_callee (f := 39) rfl ?_); refine goesL_ (some 18) rfl rfl Try.func39 (by kernel_rfl) rfl #[.string (⟨#[1, 2, 3]⟩ : ByteArray), .int .i64 1] rfl (by (try simp only [List.map_toArray, List.map_cons, List.map_nil]); first | done | rfl | (simp only [List.length_drop, List.length_take]; rfl)) ?_; (with_reducible refine (wire_U16.calls k (⟨#[1, 2, 3]⟩ : ByteArray) 1 t418 t419 t420 _ A1.out).mono ?_); rintro e w' ⟨rfl, ⟨nd, rfl⟩⟩; refine ⟨_, rfl, ?_⟩) | ((with_reducible refine gate_callee (f := 38) rfl ?_); refine goesL_ (some 23) rfl rfl Try.func38 (by kernel_rfl) rfl #[.string (⟨#[2, 97, 98, 122]⟩ : ByteArray), .int .i64 0, .int .i64 1] rfl (by (try simp only [List.map_toArray, List.map_cons, List.map_nil]); first | done | rfl | (simp only [List.length_drop, List.length_take]; rfl)) ?_; (with_reducible refine (wire_Vec.calls k (⟨#[2, 97, 98, 122]⟩ : ByteArray) 0 1 t421 t422 t423 _ A2.out).mono ?_); rintro e w' ⟨rfl, ⟨nd, rfl⟩⟩; refine ⟨_, rfl, ?_⟩) | ((with_reducible refine gate_callee (f := 33) rfl ?_); refine goesL_ (some 28) rfl rfl Try.func33 (by kernel_rfl) rfl #[.int .i64 258, .int .i64 3] rfl (by (try simp only [List.map_toArray, List.map_cons, List.map_nil]); first | done | rfl | (simp only [List.length_drop, List.length_take]; rfl)) ?_; (with_reducible refine (wire_Put.calls 258 3 t424 t425 _ A3.out).mono ?_); rintro e w24 ⟨rfl, hb⟩; refine ⟨_, rfl, ?_⟩; have n0_ := Aside0.mk (below_step (by repeat (first | (with_reducible first | exact HB.out | apply below_alloc | apply pw_below_drewN | apply below_drew1) | exact HB.out)) hb); clear HB; have HB := n0_; clear n0_; (try clear hb); (try clear hb2); (try clear hk); (try clear hi)) | ((with_reducible refine gate_callee (f := 35) rfl ?_); refine goesL_ (some 32) rfl rfl Try.func35 (by kernel_rfl) rfl #[.string (⟨#[97, 98]⟩ : ByteArray), .int .i64 2] rfl (by (try simp only [List.map_toArray, List.map_cons, List.map_nil]); first | done | rfl | (simp only [List.length_drop, List.length_take]; rfl)) ?_; (with_reducible refine (wire_PutVec.calls (⟨#[97, 98]⟩ : ByteArray) 2 t426 t427 _ A4.out).mono ?_); rintro e w25 ⟨rfl, hb⟩; refine ⟨_, rfl, ?_⟩; have n0_ := Aside0.mk (below_step (by repeat (first | (with_reducible first | exact HB.out | apply below_alloc | apply pw_below_drewN | apply below_drew1) | exact HB.out)) hb); clear HB; have HB := n0_; clear n0_; (try clear hb); (try clear hb2); (try clear hk); (try clear hi)) | ((with_reducible refine gate_callee (f := 42) rfl ?_); refine goesL_ (some 36) rfl rfl Try.func42 (by kernel_rfl) rfl #[.string (⟨#[97, 98]⟩ : ByteArray), .int .i64 0] rfl (by (try simp only [List.map_toArray, List.map_cons, List.map_nil]); first | done | rfl | (simp only [List.length_drop, List.length_take]; rfl)) ?_; (with_reducible refine (wire_U24.calls k (⟨#[97, 98]⟩ : ByteArray) 0 t428 t429 t430 _ A5.out).mono ?_); rintro e w' ⟨rfl, ⟨nd, rfl⟩⟩; refine ⟨_, rfl, ?_⟩) | ((with_reducible refine gate_callee (f := 38) rfl ?_); refine goesL_ (some 41) rfl rfl Try.func38 (by kernel_rfl) rfl #[.string (⟨#[5, 97]⟩ : ByteArray), .int .i64 0, .int .i64 1] rfl (by (try simp only [List.map_toArray, List.map_cons, List.map_nil]); first | done | rfl | (simp only [List.length_drop, List.length_take]; rfl)) ?_; (with_reducible refine (wire_Vec.calls k (⟨#[5, 97]⟩ : ByteArray) 0 1 t431 t432 t433 _ A6.out).mono ?_); rintro e w' ⟨rfl, ⟨nd, rfl⟩⟩; refine ⟨_, rfl, ?_⟩) | (go_at_call 28; (with_reducible refine (halberdlaw0_Num.calls t420 t434 _ A9.out).mono ?_); rintro e w' ⟨rfl, ⟨nd, rfl⟩⟩) | (go_at_call 28; (with_reducible refine (halberdlaw0_Num.calls t423 t435 _ A13.out).mono ?_); rintro e w' ⟨rfl, ⟨nd, rfl⟩⟩) | (go_at_call 28; (with_reducible refine (halberdlaw0_Num.calls t425 t436 _ A16.out).mono ?_); rintro e w' ⟨rfl, ⟨nd, rfl⟩⟩) | (go_at_call 28; (with_reducible refine (halberdlaw0_Num.calls t427 t437 _ A19.out).mono ?_); rintro e w' ⟨rfl, ⟨nd, rfl⟩⟩) | (go_at_call 28; (with_reducible refine (halberdlaw0_Num.calls t430 t438 _ A21.out).mono ?_); rintro e w' ⟨rfl, ⟨nd, rfl⟩⟩) | (go_at_call 28; (with_reducible refine (halberdlaw0_Num.calls t433 t439 _ A23.out).mono ?_); rintro e w' ⟨rfl, ⟨nd, rfl⟩⟩))
                        go_ret
                        exact ⟨by first | rfl | (simp [errW_none, errW_some] <;> rfl) | (simp [*, errW_none, errW_some] <;> rfl), by repeat (first | (with_reducible first | exact HB.out | apply below_alloc | apply pw_below_drewN | apply below_drew1) | exact HB.out)⟩
                      · rw [if_neg c22] at H
                        have c22b0 : (t438 == 100) = false := beq_eq_false_iff_ne.mpr c22
                        have c22b1 : (t438 != 100) = true := bne_iff_ne.mpr c22
                        exact absurd ((Option.some.inj H).trans hr.out) (by decide)
                    · rw [if_neg c20] at H
                      have c20b0 : (t437 == 0) = false := beq_eq_false_iff_ne.mpr c20
                      have c20b1 : (t437 != 0) = true := bne_iff_ne.mpr c20
                      exact absurd ((Option.some.inj H).trans hr.out) (by decide)
                  · rw [if_neg c18] at H
                    have c18b0 : (t426.toList == ([0, 2, 97, 98] : List UInt8)) = false := beq_eq_false_iff_ne.mpr c18
                    have c18b1 : (t426.toList != ([0, 2, 97, 98] : List UInt8)) = true := bne_iff_ne.mpr c18
                    exact absurd ((Option.some.inj H).trans hr.out) (by decide)
                · rw [if_neg c17] at H
                  have c17b0 : (t436 == 0) = false := beq_eq_false_iff_ne.mpr c17
                  have c17b1 : (t436 != 0) = true := bne_iff_ne.mpr c17
                  exact absurd ((Option.some.inj H).trans hr.out) (by decide)
              · rw [if_neg c15] at H
                have c15b0 : (t424.toList == ([0, 1, 2] : List UInt8)) = false := beq_eq_false_iff_ne.mpr c15
                have c15b1 : (t424.toList != ([0, 1, 2] : List UInt8)) = true := bne_iff_ne.mpr c15
                exact absurd ((Option.some.inj H).trans hr.out) (by decide)
            · rw [if_neg c14] at H
              have c14b0 : (t435 == 0) = false := beq_eq_false_iff_ne.mpr c14
              have c14b1 : (t435 != 0) = true := bne_iff_ne.mpr c14
              exact absurd ((Option.some.inj H).trans hr.out) (by decide)
          · rw [if_neg c12] at H
            have c12b0 : (t422 == 3) = false := beq_eq_false_iff_ne.mpr c12
            have c12b1 : (t422 != 3) = true := bne_iff_ne.mpr c12
            exact absurd ((Option.some.inj H).trans hr.out) (by decide)
        · rw [if_neg c11] at H
          have c11b0 : (t421.toList == ([97, 98] : List UInt8)) = false := beq_eq_false_iff_ne.mpr c11
          have c11b1 : (t421.toList != ([97, 98] : List UInt8)) = true := bne_iff_ne.mpr c11
          exact absurd ((Option.some.inj H).trans hr.out) (by decide)
      · rw [if_neg c10] at H
        have c10b0 : (t434 == 0) = false := beq_eq_false_iff_ne.mpr c10
        have c10b1 : (t434 != 0) = true := bne_iff_ne.mpr c10
        exact absurd ((Option.some.inj H).trans hr.out) (by decide)
    · rw [if_neg c8] at H
      have c8b0 : (t419 == 3) = false := beq_eq_false_iff_ne.mpr c8
      have c8b1 : (t419 != 3) = true := bne_iff_ne.mpr c8
      exact absurd ((Option.some.inj H).trans hr.out) (by decide)
  · rw [if_neg c7] at H
    have c7b0 : (t418 == 515) = false := beq_eq_false_iff_ne.mpr c7
    have c7b1 : (t418 != 515) = true := bne_iff_ne.mpr c7
    exact absurd ((Option.some.inj H).trans hr.out) (by decide)

/-! ### halberdlaw1_awake: function 37, closed -/
def halberdlaw1_awake.f : Option (Bool) := some true
theorem halberdlaw1_awake.knows : halberdlaw1_awake0.f 40 = some true := by decide +kernel
theorem halberdlaw1_awake.calls (r : Bool) (w : World) (h : halberdlaw1_awake.f = some r) : Calls Try.prog 37 #[] w fun e w' => e = .returned (.bool r) ∧ Below w.heap.size w w' := by
  obtain rfl := Option.some.inj h
  exact halberdlaw1_awake0.calls 40  true w halberdlaw1_awake.knows ⟨rfl⟩

/-! ### halberdlaw1_WirePuts: function 7 -/
def halberdlaw1_WirePuts.f (k : Nat) (a0 : Int) (a1 : ByteArray) (a2 : Int) : Option (Bool) := (wire_Put.f a0 a2).bind fun bt440 => ((halberdref1_Put.f k a0 a2).bind fun bt442 => ((wire_PutVec.f a1 a2).bind fun bt444 => ((halberdref1_PutVec.f k a1 a2).bind fun bt446 => (if bt440.1.toList = bt442.1.toList then ((halberdlaw0_Num.f bt440.2).bind fun t448 => (if t448 = bt442.2 then (if bt444.1.toList = bt446.1.toList then ((halberdlaw0_Num.f bt444.2).bind fun t449 => (if t449 = bt446.2 then ((halberdlaw1_awake.f).bind fun t450 => (some t450)) else (some false))) else (some false)) else (some false))) else (some false)))))
theorem halberdlaw1_WirePuts.mono : ∀ a0 a1 a2 k, LeO (halberdlaw1_WirePuts.f k a0 a1 a2) (halberdlaw1_WirePuts.f (k + 1) a0 a1 a2) := by
  intro a0 a1 a2 k
  unfold halberdlaw1_WirePuts.f
  repeat' first
      | (with_reducible exact halberdref1_Put.mono _ _ _)
      | (with_reducible exact halberdref1_PutVec.mono _ _ _)
      | (with_reducible exact LeO.refl _)
      | (with_reducible exact LeO.none _)
      | (with_reducible refine LeO.ite ?_ ?_)
      | (with_reducible refine LeO.bind ?_ (fun _ => ?_))
      | exact halberdref1_Put.mono _ _ _
      | exact halberdref1_PutVec.mono _ _ _
      | exact LeO.none _
      | refine LeO.ite ?_ ?_
      | refine LeO.bind ?_ (fun _ => ?_)
set_option maxHeartbeats 8000000 in
set_option maxRecDepth 100000 in
theorem halberdlaw1_WirePuts.calls (k : Nat) (a0 : Int) (a1 : ByteArray) (a2 : Int) (r : Bool) (w : World) (h : halberdlaw1_WirePuts.f k a0 a1 a2 = some r) (hr : Aside0 (r = true)) :
    Calls Try.prog 7 #[.int .i64 a0, .string a1, .int .i64 a2] w fun e w' => e = .returned (.bool r) ∧ Below w.heap.size w w' := by
  have HB := Aside0.mk (Below.refl w.heap.size w)
  have H : ((wire_Put.f a0 a2).bind fun bt440 => ((halberdref1_Put.f k a0 a2).bind fun bt442 => ((wire_PutVec.f a1 a2).bind fun bt444 => ((halberdref1_PutVec.f k a1 a2).bind fun bt446 => (if bt440.1.toList = bt442.1.toList then ((halberdlaw0_Num.f bt440.2).bind fun t448 => (if t448 = bt442.2 then (if bt444.1.toList = bt446.1.toList then ((halberdlaw0_Num.f bt444.2).bind fun t449 => (if t449 = bt446.2 then ((halberdlaw1_awake.f).bind fun t450 => (some t450)) else (some false))) else (some false)) else (some false))) else (some false)))))) = some r := h
  clear h
  replace H := Option.bind_eq_some_iff.mp H
  obtain ⟨⟨t440, t441⟩, A40, H⟩ := H
  replace H : ((halberdref1_Put.f k a0 a2).bind fun bt442 => ((wire_PutVec.f a1 a2).bind fun bt444 => ((halberdref1_PutVec.f k a1 a2).bind fun bt446 => (if t440.toList = bt442.1.toList then ((halberdlaw0_Num.f t441).bind fun t448 => (if t448 = bt442.2 then (if bt444.1.toList = bt446.1.toList then ((halberdlaw0_Num.f bt444.2).bind fun t449 => (if t449 = bt446.2 then ((halberdlaw1_awake.f).bind fun t450 => (some t450)) else (some false))) else (some false)) else (some false))) else (some false))))) = some r := H
  have A4 := Aside0.mk A40
  clear A40
  replace H := Option.bind_eq_some_iff.mp H
  obtain ⟨⟨t442, t443⟩, A50, H⟩ := H
  replace H : ((wire_PutVec.f a1 a2).bind fun bt444 => ((halberdref1_PutVec.f k a1 a2).bind fun bt446 => (if t440.toList = t442.toList then ((halberdlaw0_Num.f t441).bind fun t448 => (if t448 = t443 then (if bt444.1.toList = bt446.1.toList then ((halberdlaw0_Num.f bt444.2).bind fun t449 => (if t449 = bt446.2 then ((halberdlaw1_awake.f).bind fun t450 => (some t450)) else (some false))) else (some false)) else (some false))) else (some false)))) = some r := H
  have A5 := Aside0.mk A50
  clear A50
  replace H := Option.bind_eq_some_iff.mp H
  obtain ⟨⟨t444, t445⟩, A60, H⟩ := H
  replace H : ((halberdref1_PutVec.f k a1 a2).bind fun bt446 => (if t440.toList = t442.toList then ((halberdlaw0_Num.f t441).bind fun t448 => (if t448 = t443 then (if t444.toList = bt446.1.toList then ((halberdlaw0_Num.f t445).bind fun t449 => (if t449 = bt446.2 then ((halberdlaw1_awake.f).bind fun t450 => (some t450)) else (some false))) else (some false)) else (some false))) else (some false))) = some r := H
  have A6 := Aside0.mk A60
  clear A60
  replace H := Option.bind_eq_some_iff.mp H
  obtain ⟨⟨t446, t447⟩, A70, H⟩ := H
  replace H : (if t440.toList = t442.toList then ((halberdlaw0_Num.f t441).bind fun t448 => (if t448 = t443 then (if t444.toList = t446.toList then ((halberdlaw0_Num.f t445).bind fun t449 => (if t449 = t447 then ((halberdlaw1_awake.f).bind fun t450 => (some t450)) else (some false))) else (some false)) else (some false))) else (some false)) = some r := H
  have A7 := Aside0.mk A70
  clear A70
  by_cases c8 : t440.toList = t442.toList
  · rw [if_pos c8] at H
    have c8b0 : (t440.toList == t442.toList) = true := beq_iff_eq.mpr c8
    have c8b1 : (t440.toList != t442.toList) = false := bne_eq_false_iff_eq.mpr c8
    clear c8
    replace H := Option.bind_eq_some_iff.mp H
    obtain ⟨t448, A90, H⟩ := H
    replace H : (if t448 = t443 then (if t444.toList = t446.toList then ((halberdlaw0_Num.f t445).bind fun t449 => (if t449 = t447 then ((halberdlaw1_awake.f).bind fun t450 => (some t450)) else (some false))) else (some false)) else (some false)) = some r := H
    have A9 := Aside0.mk A90
    clear A90
    by_cases c10 : t448 = t443
    · rw [if_pos c10] at H
      have c10b0 : (t448 == t443) = true := beq_iff_eq.mpr c10
      have c10b1 : (t448 != t443) = false := bne_eq_false_iff_eq.mpr c10
      clear c10
      by_cases c11 : t444.toList = t446.toList
      · rw [if_pos c11] at H
        have c11b0 : (t444.toList == t446.toList) = true := beq_iff_eq.mpr c11
        have c11b1 : (t444.toList != t446.toList) = false := bne_eq_false_iff_eq.mpr c11
        clear c11
        replace H := Option.bind_eq_some_iff.mp H
        obtain ⟨t449, A120, H⟩ := H
        replace H : (if t449 = t447 then ((halberdlaw1_awake.f).bind fun t450 => (some t450)) else (some false)) = some r := H
        have A12 := Aside0.mk A120
        clear A120
        by_cases c13 : t449 = t447
        · rw [if_pos c13] at H
          have c13b0 : (t449 == t447) = true := beq_iff_eq.mpr c13
          have c13b1 : (t449 != t447) = false := bne_eq_false_iff_eq.mpr c13
          clear c13
          replace H := Option.bind_eq_some_iff.mp H
          obtain ⟨t450, A140, H⟩ := H
          replace H : (some t450) = some r := H
          have A14 := Aside0.mk A140
          clear A140
          obtain rfl := Option.some.inj H
          go_enter Try.func7, Try.ntmps7
          go_wp2_with (first | ((with_reducible refine gate_callee (f := 33) rfl ?_); refine goesL_ (some 18) rfl rfl Try.func33 (by kernel_rfl) rfl #[.int .i64 a0, .int .i64 a2] rfl (by (try simp only [List.map_toArray, List.map_cons, List.map_nil]); first | done | rfl | (simp only [List.length_drop, List.length_take]; rfl)) ?_; (with_reducible refine (wire_Put.calls a0 a2 t440 t441 _ A4.out).mono ?_); rintro e w15 ⟨rfl, hb⟩; refine ⟨_, rfl, ?_⟩; have n0_ := Aside0.mk (below_step (by repeat (first | (with_reducible first | exact HB.out | apply below_alloc | apply pw_below_drewN | apply below_drew1) | exact HB.out)) hb); clear HB; have HB := n0_; clear n0_; (try clear hb); (try clear hb2); (try clear hk); (try clear hi)) | ((with_reducible refine gate_callee (f := 34) rfl ?_); refine goesL_ (some 24) rfl rfl Try.func34 (by kernel_rfl) rfl #[.int .i64 a0, .int .i64 a2] rfl (by (try simp only [List.map_toArray, List.map_cons, List.map_nil]); first | done | rfl | (simp only [List.length_drop, List.length_take]; rfl)) ?_; (with_reducible refine (halberdref1_Put.calls k a0 a2 t442 t443 _ A5.out).mono ?_); rintro e w16 ⟨rfl, hb⟩; refine ⟨_, rfl, ?_⟩; have n0_ := Aside0.mk (below_step (by repeat (first | (with_reducible first | exact HB.out | apply below_alloc | apply pw_below_drewN | apply below_drew1) | exact HB.out)) hb); clear HB; have HB := n0_; clear n0_; (try clear hb); (try clear hb2); (try clear hk); (try clear hi)) | ((with_reducible refine gate_callee (f := 35) rfl ?_); refine goesL_ (some 30) rfl rfl Try.func35 (by kernel_rfl) rfl #[.string a1, .int .i64 a2] rfl (by (try simp only [List.map_toArray, List.map_cons, List.map_nil]); first | done | rfl | (simp only [List.length_drop, List.length_take]; rfl)) ?_; (with_reducible refine (wire_PutVec.calls a1 a2 t444 t445 _ A6.out).mono ?_); rintro e w17 ⟨rfl, hb⟩; refine ⟨_, rfl, ?_⟩; have n0_ := Aside0.mk (below_step (by repeat (first | (with_reducible first | exact HB.out | apply below_alloc | apply pw_below_drewN | apply below_drew1) | exact HB.out)) hb); clear HB; have HB := n0_; clear n0_; (try clear hb); (try clear hb2); (try clear hk); (try clear hi)) | ((with_reducible refine gate_callee (f := 36) rfl ?_); refine goesL_ (some 36) rfl rfl Try.func36 (by kernel_rfl) rfl #[.string a1, .int .i64 a2] rfl (by (try simp only [List.map_toArray, List.map_cons, List.map_nil]); first | done | rfl | (simp only [List.length_drop, List.length_take]; rfl)) ?_; (with_reducible refine (halberdref1_PutVec.calls k a1 a2 t446 t447 _ A7.out).mono ?_); rintro e w18 ⟨rfl, hb⟩; refine ⟨_, rfl, ?_⟩; have n0_ := Aside0.mk (below_step (by repeat (first | (with_reducible first | exact HB.out | apply below_alloc | apply pw_below_drewN | apply below_drew1) | exact HB.out)) hb); clear HB; have HB := n0_; clear n0_; (try clear hb); (try clear hb2); (try clear hk); (try clear hi)) | (go_at_call 28; (with_reducible refine (halberdlaw0_Num.calls t441 t448 _ A9.out).mono ?_); rintro e w' ⟨rfl, ⟨nd, rfl⟩⟩) | (go_at_call 28; (with_reducible refine (halberdlaw0_Num.calls t445 t449 _ A12.out).mono ?_); rintro e w' ⟨rfl, ⟨nd, rfl⟩⟩) | (go_at_call 37; (with_reducible refine (halberdlaw1_awake.calls  t450 _ A14.out).mono ?_); rintro e w19 ⟨rfl, hb⟩; have n0_ := Aside0.mk (below_step (by repeat (first | (with_reducible first | exact HB.out | apply below_alloc | apply pw_below_drewN | apply below_drew1) | exact HB.out)) hb); clear HB; have HB := n0_; clear n0_; (try clear hb); (try clear hb2); (try clear hk); (try clear hi)))
          go_ret
          exact ⟨by first | rfl | (simp [errW_none, errW_some] <;> rfl) | (simp [*, errW_none, errW_some] <;> rfl), by repeat (first | (with_reducible first | exact HB.out | apply below_alloc | apply pw_below_drewN | apply below_drew1) | exact HB.out)⟩
        · rw [if_neg c13] at H
          have c13b0 : (t449 == t447) = false := beq_eq_false_iff_ne.mpr c13
          have c13b1 : (t449 != t447) = true := bne_iff_ne.mpr c13
          exact absurd ((Option.some.inj H).trans hr.out) (by decide)
      · rw [if_neg c11] at H
        have c11b0 : (t444.toList == t446.toList) = false := beq_eq_false_iff_ne.mpr c11
        have c11b1 : (t444.toList != t446.toList) = true := bne_iff_ne.mpr c11
        exact absurd ((Option.some.inj H).trans hr.out) (by decide)
    · rw [if_neg c10] at H
      have c10b0 : (t448 == t443) = false := beq_eq_false_iff_ne.mpr c10
      have c10b1 : (t448 != t443) = true := bne_iff_ne.mpr c10
      exact absurd ((Option.some.inj H).trans hr.out) (by decide)
  · rw [if_neg c8] at H
    have c8b0 : (t440.toList == t442.toList) = false := beq_eq_false_iff_ne.mpr c8
    have c8b1 : (t440.toList != t442.toList) = true := bne_iff_ne.mpr c8
    exact absurd ((Option.some.inj H).trans hr.out) (by decide)

/-- THE ONE PURE STATEMENT of halberdlaw1_WirePuts: yours. -/
def halberdlaw1_WirePuts.Pure : Prop := ∀ (a0 : Int) (a1 : ByteArray) (a2 : Int), (Lit.int .i64 a0).wf = true → a1.size ≤ 140737488351232 → (Lit.int .i64 a2).wf = true → ∃ k, halberdlaw1_WirePuts.f k a0 a1 a2 = some true
theorem halberdlaw1_WirePuts.walk (P : halberdlaw1_WirePuts.Pure) (a0 : Int) (a1 : ByteArray) (a2 : Int) (w : World) (w0 : (Lit.int .i64 a0).wf = true) (w1 : a1.size ≤ 140737488351232) (w2 : (Lit.int .i64 a2).wf = true) :
    Calls Try.prog 7 #[.int .i64 a0, .string a1, .int .i64 a2] w fun e w' => e = .returned (.bool true) ∧ Below w.heap.size w w' := by
  obtain ⟨k, h⟩ := P a0 a1 a2 w0 w1 w2
  refine (halberdlaw1_WirePuts.calls k a0 a1 a2 true w h ⟨rfl⟩).mono ?_
  rintro e w' ⟨rfl, hd⟩
  exact ⟨rfl, hd⟩

end Go.Proofs.Ytggnmnpmhknjgaa.X
