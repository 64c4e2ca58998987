-- Written by a program of this session (wip/tools/xprint.py), over the kit's printer.
import Derived.Test.YtggnmnpmhknjgaaXx0
import Derived.Test.YtggnmnpmhknjgaaXx1
import Derived.Test.YtggnmnpmhknjgaaXx6
import Derived.Test.YtggnmnpmhknjgaaXx7
import Derived.Test.YtggnmnpmhknjgaaXx12
import Derived.Test.YtggnmnpmhknjgaaXx13
import Derived.Test.YtggnmnpmhknjgaaXx14
import Derived.Test.YtggnmnpmhknjgaaXx15
namespace Go.Proofs.Ytggnmnpmhknjgaa.X
open Go.RowKit Go.Proofs.YtggnmnpmhknjgaaW.PrintWords Go.Proofs.YtggnmnpmhknjgaaW.PrintLast Go.Proofs.YtggnmnpmhknjgaaW.PrintMore
attribute [local go_sem] max2_int min2_int max_two min_two max_three min_three max_four min_four   -- for this text's walks alone
set_option linter.unusedVariables false
set_option linter.unusedSimpArgs false

/-! ### halberdlaw1_WireGets: function 10 -/
def halberdlaw1_WireGets.f (k : Nat) (a0 : ByteArray) (a1 : Int) (a2 : Int) : Option (Bool) := (wire_U8.f k a0 a1).bind fun bt506 => ((wire_U16.f k a0 a1).bind fun bt509 => ((wire_U24.f k a0 a1).bind fun bt512 => ((wire_U32.f k a0 a1).bind fun bt515 => ((wire_Vec.f k a0 a1 a2).bind fun bt518 => ((halberdref1_Num.f k a0 a1 1).bind fun bt521 => ((halberdref1_Num.f k a0 a1 2).bind fun bt524 => ((halberdref1_Num.f k a0 a1 3).bind fun bt527 => ((halberdref1_Num.f k a0 a1 4).bind fun bt530 => ((halberdref1_Vec.f k a0 a1 a2).bind fun bt533 => (if bt506.1 = bt521.1 then (if bt506.2.1 = bt521.2.1 then ((halberdlaw0_Num.f bt506.2.2).bind fun t536 => (if t536 = bt521.2.2 then (if bt509.1 = bt524.1 then (if bt509.2.1 = bt524.2.1 then ((halberdlaw0_Num.f bt509.2.2).bind fun t537 => (if t537 = bt524.2.2 then (if bt512.1 = bt527.1 then (if bt512.2.1 = bt527.2.1 then ((halberdlaw0_Num.f bt512.2.2).bind fun t538 => (if t538 = bt527.2.2 then (if bt515.1 = bt530.1 then (if bt515.2.1 = bt530.2.1 then ((halberdlaw0_Num.f bt515.2.2).bind fun t539 => (if t539 = bt530.2.2 then (if bt518.1.toList = bt533.1.toList then (if bt518.2.1 = bt533.2.1 then ((halberdlaw0_Num.f bt518.2.2).bind fun t540 => (if t540 = bt533.2.2 then ((halberdlaw1_awake.f).bind fun t541 => (some t541)) else (some false))) else (some false)) else (some false)) else (some false))) else (some false)) else (some false)) else (some false))) else (some false)) else (some false)) else (some false))) else (some false)) else (some false)) else (some false))) else (some false)) else (some false)))))))))))
theorem halberdlaw1_WireGets.mono : ∀ a0 a1 a2 k, LeO (halberdlaw1_WireGets.f k a0 a1 a2) (halberdlaw1_WireGets.f (k + 1) a0 a1 a2) := by
  intro a0 a1 a2 k
  unfold halberdlaw1_WireGets.f
  repeat' first
      | (with_reducible exact halberdref1_Num.mono _ _ _ _)
      | (with_reducible exact halberdref1_Vec.mono _ _ _ _)
      | (with_reducible exact wire_U16.mono _ _ _)
      | (with_reducible exact wire_U24.mono _ _ _)
      | (with_reducible exact wire_U32.mono _ _ _)
      | (with_reducible exact wire_U8.mono _ _ _)
      | (with_reducible exact wire_Vec.mono _ _ _ _)
      | (with_reducible exact LeO.refl _)
      | (with_reducible exact LeO.none _)
      | (with_reducible refine LeO.ite ?_ ?_)
      | (with_reducible refine LeO.bind ?_ (fun _ => ?_))
      | exact halberdref1_Num.mono _ _ _ _
      | exact halberdref1_Vec.mono _ _ _ _
      | exact wire_U16.mono _ _ _
      | exact wire_U24.mono _ _ _
      | exact wire_U32.mono _ _ _
      | exact wire_U8.mono _ _ _
      | exact wire_Vec.mono _ _ _ _
      | exact LeO.none _
      | refine LeO.ite ?_ ?_
      | refine LeO.bind ?_ (fun _ => ?_)
set_option maxHeartbeats 8000000 in
set_option maxRecDepth 100000 in
theorem halberdlaw1_WireGets.calls (k : Nat) (a0 : ByteArray) (a1 : Int) (a2 : Int) (r : Bool) (w : World) (h : halberdlaw1_WireGets.f k a0 a1 a2 = some r) (hr : Aside0 (r = true)) :
    Calls Try.prog 10 #[.string a0, .int .i64 a1, .int .i64 a2] w fun e w' => e = .returned (.bool r) ∧ Below w.heap.size w w' := by
  have HB := Aside0.mk (Below.refl w.heap.size w)
  have H : ((wire_U8.f k a0 a1).bind fun bt506 => ((wire_U16.f k a0 a1).bind fun bt509 => ((wire_U24.f k a0 a1).bind fun bt512 => ((wire_U32.f k a0 a1).bind fun bt515 => ((wire_Vec.f k a0 a1 a2).bind fun bt518 => ((halberdref1_Num.f k a0 a1 1).bind fun bt521 => ((halberdref1_Num.f k a0 a1 2).bind fun bt524 => ((halberdref1_Num.f k a0 a1 3).bind fun bt527 => ((halberdref1_Num.f k a0 a1 4).bind fun bt530 => ((halberdref1_Vec.f k a0 a1 a2).bind fun bt533 => (if bt506.1 = bt521.1 then (if bt506.2.1 = bt521.2.1 then ((halberdlaw0_Num.f bt506.2.2).bind fun t536 => (if t536 = bt521.2.2 then (if bt509.1 = bt524.1 then (if bt509.2.1 = bt524.2.1 then ((halberdlaw0_Num.f bt509.2.2).bind fun t537 => (if t537 = bt524.2.2 then (if bt512.1 = bt527.1 then (if bt512.2.1 = bt527.2.1 then ((halberdlaw0_Num.f bt512.2.2).bind fun t538 => (if t538 = bt527.2.2 then (if bt515.1 = bt530.1 then (if bt515.2.1 = bt530.2.1 then ((halberdlaw0_Num.f bt515.2.2).bind fun t539 => (if t539 = bt530.2.2 then (if bt518.1.toList = bt533.1.toList then (if bt518.2.1 = bt533.2.1 then ((halberdlaw0_Num.f bt518.2.2).bind fun t540 => (if t540 = bt533.2.2 then ((halberdlaw1_awake.f).bind fun t541 => (some t541)) else (some false))) else (some false)) else (some false)) else (some false))) else (some false)) else (some false)) else (some false))) else (some false)) else (some false)) else (some false))) else (some false)) else (some false)) else (some false))) else (some false)) else (some false)))))))))))) = some r := h
  clear h
  replace H := Option.bind_eq_some_iff.mp H
  obtain ⟨⟨t506, t507, t508⟩, A40, H⟩ := H
  replace H : ((wire_U16.f k a0 a1).bind fun bt509 => ((wire_U24.f k a0 a1).bind fun bt512 => ((wire_U32.f k a0 a1).bind fun bt515 => ((wire_Vec.f k a0 a1 a2).bind fun bt518 => ((halberdref1_Num.f k a0 a1 1).bind fun bt521 => ((halberdref1_Num.f k a0 a1 2).bind fun bt524 => ((halberdref1_Num.f k a0 a1 3).bind fun bt527 => ((halberdref1_Num.f k a0 a1 4).bind fun bt530 => ((halberdref1_Vec.f k a0 a1 a2).bind fun bt533 => (if t506 = bt521.1 then (if t507 = bt521.2.1 then ((halberdlaw0_Num.f t508).bind fun t536 => (if t536 = bt521.2.2 then (if bt509.1 = bt524.1 then (if bt509.2.1 = bt524.2.1 then ((halberdlaw0_Num.f bt509.2.2).bind fun t537 => (if t537 = bt524.2.2 then (if bt512.1 = bt527.1 then (if bt512.2.1 = bt527.2.1 then ((halberdlaw0_Num.f bt512.2.2).bind fun t538 => (if t538 = bt527.2.2 then (if bt515.1 = bt530.1 then (if bt515.2.1 = bt530.2.1 then ((halberdlaw0_Num.f bt515.2.2).bind fun t539 => (if t539 = bt530.2.2 then (if bt518.1.toList = bt533.1.toList then (if bt518.2.1 = bt533.2.1 then ((halberdlaw0_Num.f bt518.2.2).bind fun t540 => (if t540 = bt533.2.2 then ((halberdlaw1_awake.f).bind fun t541 => (some t541)) else (some false))) else (some false)) else (some false)) else (some false))) else (some false)) else (some false)) else (some false))) else (some false)) else (some false)) else (some false))) else (some false)) else (some false)) else (some false))) else (some false)) else (some false))))))))))) = some r := H
  have A4 := Aside0.mk A40
  clear A40
  replace H := Option.bind_eq_some_iff.mp H
  obtain ⟨⟨t509, t510, t511⟩, A50, H⟩ := H
  replace H : ((wire_U24.f k a0 a1).bind fun bt512 => ((wire_U32.f k a0 a1).bind fun bt515 => ((wire_Vec.f k a0 a1 a2).bind fun bt518 => ((halberdref1_Num.f k a0 a1 1).bind fun bt521 => ((halberdref1_Num.f k a0 a1 2).bind fun bt524 => ((halberdref1_Num.f k a0 a1 3).bind fun bt527 => ((halberdref1_Num.f k a0 a1 4).bind fun bt530 => ((halberdref1_Vec.f k a0 a1 a2).bind fun bt533 => (if t506 = bt521.1 then (if t507 = bt521.2.1 then ((halberdlaw0_Num.f t508).bind fun t536 => (if t536 = bt521.2.2 then (if t509 = bt524.1 then (if t510 = bt524.2.1 then ((halberdlaw0_Num.f t511).bind fun t537 => (if t537 = bt524.2.2 then (if bt512.1 = bt527.1 then (if bt512.2.1 = bt527.2.1 then ((halberdlaw0_Num.f bt512.2.2).bind fun t538 => (if t538 = bt527.2.2 then (if bt515.1 = bt530.1 then (if bt515.2.1 = bt530.2.1 then ((halberdlaw0_Num.f bt515.2.2).bind fun t539 => (if t539 = bt530.2.2 then (if bt518.1.toList = bt533.1.toList then (if bt518.2.1 = bt533.2.1 then ((halberdlaw0_Num.f bt518.2.2).bind fun t540 => (if t540 = bt533.2.2 then ((halberdlaw1_awake.f).bind fun t541 => (some t541)) else (some false))) else (some false)) else (some false)) else (some false))) else (some false)) else (some false)) else (some false))) else (some false)) else (some false)) else (some false))) else (some false)) else (some false)) else (some false))) else (some false)) else (some false)))))))))) = some r := H
  have A5 := Aside0.mk A50
  clear A50
  replace H := Option.bind_eq_some_iff.mp H
  obtain ⟨⟨t512, t513, t514⟩, A60, H⟩ := H
  replace H : ((wire_U32.f k a0 a1).bind fun bt515 => ((wire_Vec.f k a0 a1 a2).bind fun bt518 => ((halberdref1_Num.f k a0 a1 1).bind fun bt521 => ((halberdref1_Num.f k a0 a1 2).bind fun bt524 => ((halberdref1_Num.f k a0 a1 3).bind fun bt527 => ((halberdref1_Num.f k a0 a1 4).bind fun bt530 => ((halberdref1_Vec.f k a0 a1 a2).bind fun bt533 => (if t506 = bt521.1 then (if t507 = bt521.2.1 then ((halberdlaw0_Num.f t508).bind fun t536 => (if t536 = bt521.2.2 then (if t509 = bt524.1 then (if t510 = bt524.2.1 then ((halberdlaw0_Num.f t511).bind fun t537 => (if t537 = bt524.2.2 then (if t512 = bt527.1 then (if t513 = bt527.2.1 then ((halberdlaw0_Num.f t514).bind fun t538 => (if t538 = bt527.2.2 then (if bt515.1 = bt530.1 then (if bt515.2.1 = bt530.2.1 then ((halberdlaw0_Num.f bt515.2.2).bind fun t539 => (if t539 = bt530.2.2 then (if bt518.1.toList = bt533.1.toList then (if bt518.2.1 = bt533.2.1 then ((halberdlaw0_Num.f bt518.2.2).bind fun t540 => (if t540 = bt533.2.2 then ((halberdlaw1_awake.f).bind fun t541 => (some t541)) else (some false))) else (some false)) else (some false)) else (some false))) else (some false)) else (some false)) else (some false))) else (some false)) else (some false)) else (some false))) else (some false)) else (some false)) else (some false))) else (some false)) else (some false))))))))) = some r := H
  have A6 := Aside0.mk A60
  clear A60
  replace H := Option.bind_eq_some_iff.mp H
  obtain ⟨⟨t515, t516, t517⟩, A70, H⟩ := H
  replace H : ((wire_Vec.f k a0 a1 a2).bind fun bt518 => ((halberdref1_Num.f k a0 a1 1).bind fun bt521 => ((halberdref1_Num.f k a0 a1 2).bind fun bt524 => ((halberdref1_Num.f k a0 a1 3).bind fun bt527 => ((halberdref1_Num.f k a0 a1 4).bind fun bt530 => ((halberdref1_Vec.f k a0 a1 a2).bind fun bt533 => (if t506 = bt521.1 then (if t507 = bt521.2.1 then ((halberdlaw0_Num.f t508).bind fun t536 => (if t536 = bt521.2.2 then (if t509 = bt524.1 then (if t510 = bt524.2.1 then ((halberdlaw0_Num.f t511).bind fun t537 => (if t537 = bt524.2.2 then (if t512 = bt527.1 then (if t513 = bt527.2.1 then ((halberdlaw0_Num.f t514).bind fun t538 => (if t538 = bt527.2.2 then (if t515 = bt530.1 then (if t516 = bt530.2.1 then ((halberdlaw0_Num.f t517).bind fun t539 => (if t539 = bt530.2.2 then (if bt518.1.toList = bt533.1.toList then (if bt518.2.1 = bt533.2.1 then ((halberdlaw0_Num.f bt518.2.2).bind fun t540 => (if t540 = bt533.2.2 then ((halberdlaw1_awake.f).bind fun t541 => (some t541)) else (some false))) else (some false)) else (some false)) else (some false))) else (some false)) else (some false)) else (some false))) else (some false)) else (some false)) else (some false))) else (some false)) else (some false)) else (some false))) else (some false)) else (some false)))))))) = some r := H
  have A7 := Aside0.mk A70
  clear A70
  replace H := Option.bind_eq_some_iff.mp H
  obtain ⟨⟨t518, t519, t520⟩, A80, H⟩ := H
  replace H : ((halberdref1_Num.f k a0 a1 1).bind fun bt521 => ((halberdref1_Num.f k a0 a1 2).bind fun bt524 => ((halberdref1_Num.f k a0 a1 3).bind fun bt527 => ((halberdref1_Num.f k a0 a1 4).bind fun bt530 => ((halberdref1_Vec.f k a0 a1 a2).bind fun bt533 => (if t506 = bt521.1 then (if t507 = bt521.2.1 then ((halberdlaw0_Num.f t508).bind fun t536 => (if t536 = bt521.2.2 then (if t509 = bt524.1 then (if t510 = bt524.2.1 then ((halberdlaw0_Num.f t511).bind fun t537 => (if t537 = bt524.2.2 then (if t512 = bt527.1 then (if t513 = bt527.2.1 then ((halberdlaw0_Num.f t514).bind fun t538 => (if t538 = bt527.2.2 then (if t515 = bt530.1 then (if t516 = bt530.2.1 then ((halberdlaw0_Num.f t517).bind fun t539 => (if t539 = bt530.2.2 then (if t518.toList = bt533.1.toList then (if t519 = bt533.2.1 then ((halberdlaw0_Num.f t520).bind fun t540 => (if t540 = bt533.2.2 then ((halberdlaw1_awake.f).bind fun t541 => (some t541)) else (some false))) else (some false)) else (some false)) else (some false))) else (some false)) else (some false)) else (some false))) else (some false)) else (some false)) else (some false))) else (some false)) else (some false)) else (some false))) else (some false)) else (some false))))))) = some r := H
  have A8 := Aside0.mk A80
  clear A80
  replace H := Option.bind_eq_some_iff.mp H
  obtain ⟨⟨t521, t522, t523⟩, A90, H⟩ := H
  replace H : ((halberdref1_Num.f k a0 a1 2).bind fun bt524 => ((halberdref1_Num.f k a0 a1 3).bind fun bt527 => ((halberdref1_Num.f k a0 a1 4).bind fun bt530 => ((halberdref1_Vec.f k a0 a1 a2).bind fun bt533 => (if t506 = t521 then (if t507 = t522 then ((halberdlaw0_Num.f t508).bind fun t536 => (if t536 = t523 then (if t509 = bt524.1 then (if t510 = bt524.2.1 then ((halberdlaw0_Num.f t511).bind fun t537 => (if t537 = bt524.2.2 then (if t512 = bt527.1 then (if t513 = bt527.2.1 then ((halberdlaw0_Num.f t514).bind fun t538 => (if t538 = bt527.2.2 then (if t515 = bt530.1 then (if t516 = bt530.2.1 then ((halberdlaw0_Num.f t517).bind fun t539 => (if t539 = bt530.2.2 then (if t518.toList = bt533.1.toList then (if t519 = bt533.2.1 then ((halberdlaw0_Num.f t520).bind fun t540 => (if t540 = bt533.2.2 then ((halberdlaw1_awake.f).bind fun t541 => (some t541)) else (some false))) else (some false)) else (some false)) else (some false))) else (some false)) else (some false)) else (some false))) else (some false)) else (some false)) else (some false))) else (some false)) else (some false)) else (some false))) else (some false)) else (some false)))))) = some r := H
  have A9 := Aside0.mk A90
  clear A90
  replace H := Option.bind_eq_some_iff.mp H
  obtain ⟨⟨t524, t525, t526⟩, A100, H⟩ := H
  replace H : ((halberdref1_Num.f k a0 a1 3).bind fun bt527 => ((halberdref1_Num.f k a0 a1 4).bind fun bt530 => ((halberdref1_Vec.f k a0 a1 a2).bind fun bt533 => (if t506 = t521 then (if t507 = t522 then ((halberdlaw0_Num.f t508).bind fun t536 => (if t536 = t523 then (if t509 = t524 then (if t510 = t525 then ((halberdlaw0_Num.f t511).bind fun t537 => (if t537 = t526 then (if t512 = bt527.1 then (if t513 = bt527.2.1 then ((halberdlaw0_Num.f t514).bind fun t538 => (if t538 = bt527.2.2 then (if t515 = bt530.1 then (if t516 = bt530.2.1 then ((halberdlaw0_Num.f t517).bind fun t539 => (if t539 = bt530.2.2 then (if t518.toList = bt533.1.toList then (if t519 = bt533.2.1 then ((halberdlaw0_Num.f t520).bind fun t540 => (if t540 = bt533.2.2 then ((halberdlaw1_awake.f).bind fun t541 => (some t541)) else (some false))) else (some false)) else (some false)) else (some false))) else (some false)) else (some false)) else (some false))) else (some false)) else (some false)) else (some false))) else (some false)) else (some false)) else (some false))) else (some false)) else (some false))))) = some r := H
  have A10 := Aside0.mk A100
  clear A100
  replace H := Option.bind_eq_some_iff.mp H
  obtain ⟨⟨t527, t528, t529⟩, A110, H⟩ := H
  replace H : ((halberdref1_Num.f k a0 a1 4).bind fun bt530 => ((halberdref1_Vec.f k a0 a1 a2).bind fun bt533 => (if t506 = t521 then (if t507 = t522 then ((halberdlaw0_Num.f t508).bind fun t536 => (if t536 = t523 then (if t509 = t524 then (if t510 = t525 then ((halberdlaw0_Num.f t511).bind fun t537 => (if t537 = t526 then (if t512 = t527 then (if t513 = t528 then ((halberdlaw0_Num.f t514).bind fun t538 => (if t538 = t529 then (if t515 = bt530.1 then (if t516 = bt530.2.1 then ((halberdlaw0_Num.f t517).bind fun t539 => (if t539 = bt530.2.2 then (if t518.toList = bt533.1.toList then (if t519 = bt533.2.1 then ((halberdlaw0_Num.f t520).bind fun t540 => (if t540 = bt533.2.2 then ((halberdlaw1_awake.f).bind fun t541 => (some t541)) else (some false))) else (some false)) else (some false)) else (some false))) else (some false)) else (some false)) else (some false))) else (some false)) else (some false)) else (some false))) else (some false)) else (some false)) else (some false))) else (some false)) else (some false)))) = some r := H
  have A11 := Aside0.mk A110
  clear A110
  replace H := Option.bind_eq_some_iff.mp H
  obtain ⟨⟨t530, t531, t532⟩, A120, H⟩ := H
  replace H : ((halberdref1_Vec.f k a0 a1 a2).bind fun bt533 => (if t506 = t521 then (if t507 = t522 then ((halberdlaw0_Num.f t508).bind fun t536 => (if t536 = t523 then (if t509 = t524 then (if t510 = t525 then ((halberdlaw0_Num.f t511).bind fun t537 => (if t537 = t526 then (if t512 = t527 then (if t513 = t528 then ((halberdlaw0_Num.f t514).bind fun t538 => (if t538 = t529 then (if t515 = t530 then (if t516 = t531 then ((halberdlaw0_Num.f t517).bind fun t539 => (if t539 = t532 then (if t518.toList = bt533.1.toList then (if t519 = bt533.2.1 then ((halberdlaw0_Num.f t520).bind fun t540 => (if t540 = bt533.2.2 then ((halberdlaw1_awake.f).bind fun t541 => (some t541)) else (some false))) else (some false)) else (some false)) else (some false))) else (some false)) else (some false)) else (some false))) else (some false)) else (some false)) else (some false))) else (some false)) else (some false)) else (some false))) else (some false)) else (some false))) = some r := H
  have A12 := Aside0.mk A120
  clear A120
  replace H := Option.bind_eq_some_iff.mp H
  obtain ⟨⟨t533, t534, t535⟩, A130, H⟩ := H
  replace H : (if t506 = t521 then (if t507 = t522 then ((halberdlaw0_Num.f t508).bind fun t536 => (if t536 = t523 then (if t509 = t524 then (if t510 = t525 then ((halberdlaw0_Num.f t511).bind fun t537 => (if t537 = t526 then (if t512 = t527 then (if t513 = t528 then ((halberdlaw0_Num.f t514).bind fun t538 => (if t538 = t529 then (if t515 = t530 then (if t516 = t531 then ((halberdlaw0_Num.f t517).bind fun t539 => (if t539 = t532 then (if t518.toList = t533.toList then (if t519 = t534 then ((halberdlaw0_Num.f t520).bind fun t540 => (if t540 = t535 then ((halberdlaw1_awake.f).bind fun t541 => (some t541)) else (some false))) else (some false)) else (some false)) else (some false))) else (some false)) else (some false)) else (some false))) else (some false)) else (some false)) else (some false))) else (some false)) else (some false)) else (some false))) else (some false)) else (some false)) = some r := H
  have A13 := Aside0.mk A130
  clear A130
  by_cases c14 : t506 = t521
  · rw [if_pos c14] at H
    have c14b0 : (t506 == t521) = true := beq_iff_eq.mpr c14
    have c14b1 : (t506 != t521) = false := bne_eq_false_iff_eq.mpr c14
    clear c14
    by_cases c15 : t507 = t522
    · rw [if_pos c15] at H
      have c15b0 : (t507 == t522) = true := beq_iff_eq.mpr c15
      have c15b1 : (t507 != t522) = false := bne_eq_false_iff_eq.mpr c15
      clear c15
      replace H := Option.bind_eq_some_iff.mp H
      obtain ⟨t536, A160, H⟩ := H
      replace H : (if t536 = t523 then (if t509 = t524 then (if t510 = t525 then ((halberdlaw0_Num.f t511).bind fun t537 => (if t537 = t526 then (if t512 = t527 then (if t513 = t528 then ((halberdlaw0_Num.f t514).bind fun t538 => (if t538 = t529 then (if t515 = t530 then (if t516 = t531 then ((halberdlaw0_Num.f t517).bind fun t539 => (if t539 = t532 then (if t518.toList = t533.toList then (if t519 = t534 then ((halberdlaw0_Num.f t520).bind fun t540 => (if t540 = t535 then ((halberdlaw1_awake.f).bind fun t541 => (some t541)) else (some false))) else (some false)) else (some false)) else (some false))) else (some false)) else (some false)) else (some false))) else (some false)) else (some false)) else (some false))) else (some false)) else (some false)) else (some false)) = some r := H
      have A16 := Aside0.mk A160
      clear A160
      by_cases c17 : t536 = t523
      · rw [if_pos c17] at H
        have c17b0 : (t536 == t523) = true := beq_iff_eq.mpr c17
        have c17b1 : (t536 != t523) = false := bne_eq_false_iff_eq.mpr c17
        clear c17
        by_cases c18 : t509 = t524
        · rw [if_pos c18] at H
          have c18b0 : (t509 == t524) = true := beq_iff_eq.mpr c18
          have c18b1 : (t509 != t524) = false := bne_eq_false_iff_eq.mpr c18
          clear c18
          by_cases c19 : t510 = t525
          · rw [if_pos c19] at H
            have c19b0 : (t510 == t525) = true := beq_iff_eq.mpr c19
            have c19b1 : (t510 != t525) = false := bne_eq_false_iff_eq.mpr c19
            clear c19
            replace H := Option.bind_eq_some_iff.mp H
            obtain ⟨t537, A200, H⟩ := H
            replace H : (if t537 = t526 then (if t512 = t527 then (if t513 = t528 then ((halberdlaw0_Num.f t514).bind fun t538 => (if t538 = t529 then (if t515 = t530 then (if t516 = t531 then ((halberdlaw0_Num.f t517).bind fun t539 => (if t539 = t532 then (if t518.toList = t533.toList then (if t519 = t534 then ((halberdlaw0_Num.f t520).bind fun t540 => (if t540 = t535 then ((halberdlaw1_awake.f).bind fun t541 => (some t541)) else (some false))) else (some false)) else (some false)) else (some false))) else (some false)) else (some false)) else (some false))) else (some false)) else (some false)) else (some false)) = some r := H
            have A20 := Aside0.mk A200
            clear A200
            by_cases c21 : t537 = t526
            · rw [if_pos c21] at H
              have c21b0 : (t537 == t526) = true := beq_iff_eq.mpr c21
              have c21b1 : (t537 != t526) = false := bne_eq_false_iff_eq.mpr c21
              clear c21
              by_cases c22 : t512 = t527
              · rw [if_pos c22] at H
                have c22b0 : (t512 == t527) = true := beq_iff_eq.mpr c22
                have c22b1 : (t512 != t527) = false := bne_eq_false_iff_eq.mpr c22
                clear c22
                by_cases c23 : t513 = t528
                · rw [if_pos c23] at H
                  have c23b0 : (t513 == t528) = true := beq_iff_eq.mpr c23
                  have c23b1 : (t513 != t528) = false := bne_eq_false_iff_eq.mpr c23
                  clear c23
                  replace H := Option.bind_eq_some_iff.mp H
                  obtain ⟨t538, A240, H⟩ := H
                  replace H : (if t538 = t529 then (if t515 = t530 then (if t516 = t531 then ((halberdlaw0_Num.f t517).bind fun t539 => (if t539 = t532 then (if t518.toList = t533.toList then (if t519 = t534 then ((halberdlaw0_Num.f t520).bind fun t540 => (if t540 = t535 then ((halberdlaw1_awake.f).bind fun t541 => (some t541)) else (some false))) else (some false)) else (some false)) else (some false))) else (some false)) else (some false)) else (some false)) = some r := H
                  have A24 := Aside0.mk A240
                  clear A240
                  by_cases c25 : t538 = t529
                  · rw [if_pos c25] at H
                    have c25b0 : (t538 == t529) = true := beq_iff_eq.mpr c25
                    have c25b1 : (t538 != t529) = false := bne_eq_false_iff_eq.mpr c25
                    clear c25
                    by_cases c26 : t515 = t530
                    · rw [if_pos c26] at H
                      have c26b0 : (t515 == t530) = true := beq_iff_eq.mpr c26
                      have c26b1 : (t515 != t530) = false := bne_eq_false_iff_eq.mpr c26
                      clear c26
                      by_cases c27 : t516 = t531
                      · rw [if_pos c27] at H
                        have c27b0 : (t516 == t531) = true := beq_iff_eq.mpr c27
                        have c27b1 : (t516 != t531) = false := bne_eq_false_iff_eq.mpr c27
                        clear c27
                        replace H := Option.bind_eq_some_iff.mp H
                        obtain ⟨t539, A280, H⟩ := H
                        replace H : (if t539 = t532 then (if t518.toList = t533.toList then (if t519 = t534 then ((halberdlaw0_Num.f t520).bind fun t540 => (if t540 = t535 then ((halberdlaw1_awake.f).bind fun t541 => (some t541)) else (some false))) else (some false)) else (some false)) else (some false)) = some r := H
                        have A28 := Aside0.mk A280
                        clear A280
                        by_cases c29 : t539 = t532
                        · rw [if_pos c29] at H
                          have c29b0 : (t539 == t532) = true := beq_iff_eq.mpr c29
                          have c29b1 : (t539 != t532) = false := bne_eq_false_iff_eq.mpr c29
                          clear c29
                          by_cases c30 : t518.toList = t533.toList
                          · rw [if_pos c30] at H
                            have c30b0 : (t518.toList == t533.toList) = true := beq_iff_eq.mpr c30
                            have c30b1 : (t518.toList != t533.toList) = false := bne_eq_false_iff_eq.mpr c30
                            clear c30
                            by_cases c31 : t519 = t534
                            · rw [if_pos c31] at H
                              have c31b0 : (t519 == t534) = true := beq_iff_eq.mpr c31
                              have c31b1 : (t519 != t534) = false := bne_eq_false_iff_eq.mpr c31
                              clear c31
                              replace H := Option.bind_eq_some_iff.mp H
                              obtain ⟨t540, A320, H⟩ := H
                              replace H : (if t540 = t535 then ((halberdlaw1_awake.f).bind fun t541 => (some t541)) else (some false)) = some r := H
                              have A32 := Aside0.mk A320
                              clear A320
                              by_cases c33 : t540 = t535
                              · rw [if_pos c33] at H
                                have c33b0 : (t540 == t535) = true := beq_iff_eq.mpr c33
                                have c33b1 : (t540 != t535) = false := bne_eq_false_iff_eq.mpr c33
                                clear c33
                                replace H := Option.bind_eq_some_iff.mp H
                                obtain ⟨t541, A340, H⟩ := H
                                replace H : (some t541) = some r := H
                                have A34 := Aside0.mk A340
                                clear A340
                                obtain rfl := Option.some.inj H
                                go_enter Try.func10, Try.ntmps10
                                go_wp2_with (first | ((with_reducible refine gate_callee (f := 41) rfl ?_); refine goesL_ (some 40) rfl rfl Try.func41 (by kernel_rfl) rfl #[.string a0, .int .i64 a1] rfl (by (try simp only [List.map_toArray, List.map_cons, List.map_nil]); first | done | rfl | (simp only [List.length_drop, List.length_take]; rfl)) ?_; (with_reducible refine (wire_U8.calls k a0 a1 t506 t507 t508 _ A4.out).mono ?_); rintro e w' ⟨rfl, ⟨nd, rfl⟩⟩; refine ⟨_, rfl, ?_⟩) | ((with_reducible refine gate_callee (f := 39) rfl ?_); refine goesL_ (some 47) rfl rfl Try.func39 (by kernel_rfl) rfl #[.string a0, .int .i64 a1] rfl (by (try simp only [List.map_toArray, List.map_cons, List.map_nil]); first | done | rfl | (simp only [List.length_drop, List.length_take]; rfl)) ?_; (with_reducible refine (wire_U16.calls k a0 a1 t509 t510 t511 _ A5.out).mono ?_); rintro e w' ⟨rfl, ⟨nd, rfl⟩⟩; refine ⟨_, rfl, ?_⟩) | ((with_reducible refine gate_callee (f := 42) rfl ?_); refine goesL_ (some 54) rfl rfl Try.func42 (by kernel_rfl) rfl #[.string a0, .int .i64 a1] rfl (by (try simp only [List.map_toArray, List.map_cons, List.map_nil]); first | done | rfl | (simp only [List.length_drop, List.length_take]; rfl)) ?_; (with_reducible refine (wire_U24.calls k a0 a1 t512 t513 t514 _ A6.out).mono ?_); rintro e w' ⟨rfl, ⟨nd, rfl⟩⟩; refine ⟨_, rfl, ?_⟩) | ((with_reducible refine gate_callee (f := 40) rfl ?_); refine goesL_ (some 61) rfl rfl Try.func40 (by kernel_rfl) rfl #[.string a0, .int .i64 a1] rfl (by (try simp only [List.map_toArray, List.map_cons, List.map_nil]); first | done | rfl | (simp only [List.length_drop, List.length_take]; rfl)) ?_; (with_reducible refine (wire_U32.calls k a0 a1 t515 t516 t517 _ A7.out).mono ?_); rintro e w' ⟨rfl, ⟨nd, rfl⟩⟩; refine ⟨_, rfl, ?_⟩) | ((with_reducible refine gate_callee (f := 38) rfl ?_); refine goesL_ (some 69) rfl rfl Try.func38 (by kernel_rfl) rfl #[.string a0, .int .i64 a1, .int .i64 a2] rfl (by (try simp only [List.map_toArray, List.map_cons, List.map_nil]); first | done | rfl | (simp only [List.length_drop, List.length_take]; rfl)) ?_; (with_reducible refine (wire_Vec.calls k a0 a1 a2 t518 t519 t520 _ A8.out).mono ?_); rintro e w' ⟨rfl, ⟨nd, rfl⟩⟩; refine ⟨_, rfl, ?_⟩) | ((with_reducible refine gate_callee (f := 43) rfl ?_); refine goesL_ (some 76) rfl rfl Try.func43 (by kernel_rfl) rfl #[.string a0, .int .i64 a1, .int .i64 1] rfl (by (try simp only [List.map_toArray, List.map_cons, List.map_nil]); first | done | rfl | (simp only [List.length_drop, List.length_take]; rfl)) ?_; (with_reducible refine (halberdref1_Num.calls k a0 a1 1 t521 t522 t523 _ A9.out).mono ?_); rintro e w' ⟨rfl, ⟨nd, rfl⟩⟩; refine ⟨_, rfl, ?_⟩) | ((with_reducible refine gate_callee (f := 43) rfl ?_); refine goesL_ (some 83) rfl rfl Try.func43 (by kernel_rfl) rfl #[.string a0, .int .i64 a1, .int .i64 2] rfl (by (try simp only [List.map_toArray, List.map_cons, List.map_nil]); first | done | rfl | (simp only [List.length_drop, List.length_take]; rfl)) ?_; (with_reducible refine (halberdref1_Num.calls k a0 a1 2 t524 t525 t526 _ A10.out).mono ?_); rintro e w' ⟨rfl, ⟨nd, rfl⟩⟩; refine ⟨_, rfl, ?_⟩) | ((with_reducible refine gate_callee (f := 43) rfl ?_); refine goesL_ (some 90) rfl rfl Try.func43 (by kernel_rfl) rfl #[.string a0, .int .i64 a1, .int .i64 3] rfl (by (try simp only [List.map_toArray, List.map_cons, List.map_nil]); first | done | rfl | (simp only [List.length_drop, List.length_take]; rfl)) ?_; (with_reducible refine (halberdref1_Num.calls k a0 a1 3 t527 t528 t529 _ A11.out).mono ?_); rintro e w' ⟨rfl, ⟨nd, rfl⟩⟩; refine ⟨_, rfl, ?_⟩) | ((with_reducible refine gate_callee (f := 43) rfl ?_); refine goesL_ (some 97) rfl rfl Try.func43 (by kernel_rfl) rfl #[.string a0, .int .i64 a1, .int .i64 4] rfl (by (try simp only [List.map_toArray, List.map_cons, List.map_nil]); first | done | rfl | (simp only [List.length_drop, List.length_take]; rfl)) ?_; (with_reducible refine (halberdref1_Num.calls k a0 a1 4 t530 t531 t532 _ A12.out).mono ?_); rintro e w' ⟨rfl, ⟨nd, rfl⟩⟩; refine ⟨_, rfl, ?_⟩) | ((with_reducible refine gate_callee (f := 44) rfl ?_); refine goesL_ (some 105) rfl rfl Try.func44 (by kernel_rfl) rfl #[.string a0, .int .i64 a1, .int .i64 a2] rfl (by (try simp only [List.map_toArray, List.map_cons, List.map_nil]); first | done | rfl | (simp only [List.length_drop, List.length_take]; rfl)) ?_; (with_reducible refine (halberdref1_Vec.calls k a0 a1 a2 t533 t534 t535 _ A13.out).mono ?_); rintro e w' ⟨rfl, ⟨nd, rfl⟩⟩; refine ⟨_, rfl, ?_⟩) | (go_at_call 28; (with_reducible refine (halberdlaw0_Num.calls t508 t536 _ A16.out).mono ?_); rintro e w' ⟨rfl, ⟨nd, rfl⟩⟩) | (go_at_call 28; (with_reducible refine (halberdlaw0_Num.calls t511 t537 _ A20.out).mono ?_); rintro e w' ⟨rfl, ⟨nd, rfl⟩⟩) | (go_at_call 28; (with_reducible refine (halberdlaw0_Num.calls t514 t538 _ A24.out).mono ?_); rintro e w' ⟨rfl, ⟨nd, rfl⟩⟩) | (go_at_call 28; (with_reducible refine (halberdlaw0_Num.calls t517 t539 _ A28.out).mono ?_); rintro e w' ⟨rfl, ⟨nd, rfl⟩⟩) | (go_at_call 28; (with_reducible refine (halberdlaw0_Num.calls t520 t540 _ A32.out).mono ?_); rintro e w' ⟨rfl, ⟨nd, rfl⟩⟩) | (go_at_call 37; (with_reducible refine (halberdlaw1_awake.calls  t541 _ A34.out).mono ?_); rintro e w35 ⟨rfl, hb⟩; have n0_ := Aside0.mk (below_step (by repeat (first | (with_reducible first | exact HB.out | apply below_alloc | apply pw_below_drewN | apply below_drew1) | exact HB.out)) hb); clear HB; have HB := n0_; clear n0_; (try clear hb); (try clear hb2); (try clear hk); (try clear hi)))
                                go_ret
                                exact ⟨by first | rfl | (simp [errW_none, errW_some] <;> rfl) | (simp [*, errW_none, errW_some] <;> rfl), by repeat (first | (with_reducible first | exact HB.out | apply below_alloc | apply pw_below_drewN | apply below_drew1) | exact HB.out)⟩
                              · rw [if_neg c33] at H
                                have c33b0 : (t540 == t535) = false := beq_eq_false_iff_ne.mpr c33
                                have c33b1 : (t540 != t535) = true := bne_iff_ne.mpr c33
                                exact absurd ((Option.some.inj H).trans hr.out) (by decide)
                            · rw [if_neg c31] at H
                              have c31b0 : (t519 == t534) = false := beq_eq_false_iff_ne.mpr c31
                              have c31b1 : (t519 != t534) = true := bne_iff_ne.mpr c31
                              exact absurd ((Option.some.inj H).trans hr.out) (by decide)
                          · rw [if_neg c30] at H
                            have c30b0 : (t518.toList == t533.toList) = false := beq_eq_false_iff_ne.mpr c30
                            have c30b1 : (t518.toList != t533.toList) = true := bne_iff_ne.mpr c30
                            exact absurd ((Option.some.inj H).trans hr.out) (by decide)
                        · rw [if_neg c29] at H
                          have c29b0 : (t539 == t532) = false := beq_eq_false_iff_ne.mpr c29
                          have c29b1 : (t539 != t532) = true := bne_iff_ne.mpr c29
                          exact absurd ((Option.some.inj H).trans hr.out) (by decide)
                      · rw [if_neg c27] at H
                        have c27b0 : (t516 == t531) = false := beq_eq_false_iff_ne.mpr c27
                        have c27b1 : (t516 != t531) = true := bne_iff_ne.mpr c27
                        exact absurd ((Option.some.inj H).trans hr.out) (by decide)
                    · rw [if_neg c26] at H
                      have c26b0 : (t515 == t530) = false := beq_eq_false_iff_ne.mpr c26
                      have c26b1 : (t515 != t530) = true := bne_iff_ne.mpr c26
                      exact absurd ((Option.some.inj H).trans hr.out) (by decide)
                  · rw [if_neg c25] at H
                    have c25b0 : (t538 == t529) = false := beq_eq_false_iff_ne.mpr c25
                    have c25b1 : (t538 != t529) = true := bne_iff_ne.mpr c25
                    exact absurd ((Option.some.inj H).trans hr.out) (by decide)
                · rw [if_neg c23] at H
                  have c23b0 : (t513 == t528) = false := beq_eq_false_iff_ne.mpr c23
                  have c23b1 : (t513 != t528) = true := bne_iff_ne.mpr c23
                  exact absurd ((Option.some.inj H).trans hr.out) (by decide)
              · rw [if_neg c22] at H
                have c22b0 : (t512 == t527) = false := beq_eq_false_iff_ne.mpr c22
                have c22b1 : (t512 != t527) = true := bne_iff_ne.mpr c22
                exact absurd ((Option.some.inj H).trans hr.out) (by decide)
            · rw [if_neg c21] at H
              have c21b0 : (t537 == t526) = false := beq_eq_false_iff_ne.mpr c21
              have c21b1 : (t537 != t526) = true := bne_iff_ne.mpr c21
              exact absurd ((Option.some.inj H).trans hr.out) (by decide)
          · rw [if_neg c19] at H
            have c19b0 : (t510 == t525) = false := beq_eq_false_iff_ne.mpr c19
            have c19b1 : (t510 != t525) = true := bne_iff_ne.mpr c19
            exact absurd ((Option.some.inj H).trans hr.out) (by decide)
        · rw [if_neg c18] at H
          have c18b0 : (t509 == t524) = false := beq_eq_false_iff_ne.mpr c18
          have c18b1 : (t509 != t524) = true := bne_iff_ne.mpr c18
          exact absurd ((Option.some.inj H).trans hr.out) (by decide)
      · rw [if_neg c17] at H
        have c17b0 : (t536 == t523) = false := beq_eq_false_iff_ne.mpr c17
        have c17b1 : (t536 != t523) = true := bne_iff_ne.mpr c17
        exact absurd ((Option.some.inj H).trans hr.out) (by decide)
    · rw [if_neg c15] at H
      have c15b0 : (t507 == t522) = false := beq_eq_false_iff_ne.mpr c15
      have c15b1 : (t507 != t522) = true := bne_iff_ne.mpr c15
      exact absurd ((Option.some.inj H).trans hr.out) (by decide)
  · rw [if_neg c14] at H
    have c14b0 : (t506 == t521) = false := beq_eq_false_iff_ne.mpr c14
    have c14b1 : (t506 != t521) = true := bne_iff_ne.mpr c14
    exact absurd ((Option.some.inj H).trans hr.out) (by decide)

/-- THE ONE PURE STATEMENT of halberdlaw1_WireGets: yours. -/
def halberdlaw1_WireGets.Pure : Prop := ∀ (a0 : ByteArray) (a1 : Int) (a2 : Int), a0.size ≤ 140737488351232 → (Lit.int .i64 a1).wf = true → (Lit.int .i64 a2).wf = true → ∃ k, halberdlaw1_WireGets.f k a0 a1 a2 = some true
theorem halberdlaw1_WireGets.walk (P : halberdlaw1_WireGets.Pure) (a0 : ByteArray) (a1 : Int) (a2 : Int) (w : World) (w0 : a0.size ≤ 140737488351232) (w1 : (Lit.int .i64 a1).wf = true) (w2 : (Lit.int .i64 a2).wf = true) :
    Calls Try.prog 10 #[.string a0, .int .i64 a1, .int .i64 a2] w fun e w' => e = .returned (.bool true) ∧ Below w.heap.size w w' := by
  obtain ⟨k, h⟩ := P a0 a1 a2 w0 w1 w2
  refine (halberdlaw1_WireGets.calls k a0 a1 a2 true w h ⟨rfl⟩).mono ?_
  rintro e w' ⟨rfl, hd⟩
  exact ⟨rfl, hd⟩

end Go.Proofs.Ytggnmnpmhknjgaa.X
