-- Written by a program of this session (wip/tools/xprint.py), over the kit's printer.
import Derived.Test.YtggnmnpmhknjgaaXx0
import Derived.Test.YtggnmnpmhknjgaaXx1
import Derived.Test.YtggnmnpmhknjgaaXx6
import Derived.Test.YtggnmnpmhknjgaaXx11
import Derived.Test.YtggnmnpmhknjgaaXx12
import Derived.Test.YtggnmnpmhknjgaaXx13
import Derived.Test.YtggnmnpmhknjgaaXx14
import Derived.Test.YtggnmnpmhknjgaaXx15
namespace Go.Proofs.Ytggnmnpmhknjgaa.X
open Go.RowKit Go.Proofs.YtggnmnpmhknjgaaW.PrintWords Go.Proofs.YtggnmnpmhknjgaaW.PrintLast Go.Proofs.YtggnmnpmhknjgaaW.PrintMore
attribute [local go_sem] max2_int min2_int max_two min_two max_three min_three max_four min_four   -- for this text's walks alone
set_option linter.unusedVariables false
set_option linter.unusedSimpArgs false

/-! ### halberdlaw1_WireBack: function 11 -/
mutual
def halberdlaw1_WireBack.j0 : Nat → List Int → ByteArray → Option (Bool)
  | 0, _, _ => none
  | k + 1, x0, x5 => halberdlaw1_WireBack.l0 k x0 x5 x5 0
def halberdlaw1_WireBack.l0 : Nat → List Int → ByteArray → ByteArray → Int → Option (Bool)
  | 0, _, _, _, _ => none
  | k + 1, x0, x5, x6, x7 => if x7 < (x0.length : Int) then (halberdlaw1_WireBack.j2 k x0 x5 x6 x7 (decide (x7 < 30))) else (halberdlaw1_WireBack.j2 k x0 x5 x6 x7 false)
def halberdlaw1_WireBack.j2 : Nat → List Int → ByteArray → ByteArray → Int → Bool → Option (Bool)
  | 0, _, _, _, _, _ => none
  | k + 1, x0, x5, x6, x7, x44 => if x44 = true then (if 0 ≤ x7 then (if x7 < (x0.length : Int) then ((wire_Put.f (Go.bits .and .i64 (rd x0 x7) 4294967295) 4).bind fun bt544 => ((wire_Put.f (Go.bits .and .i64 (rd x0 x7) 16777215) 3).bind fun bt547 => ((wire_PutVec.f x5 (wrap64 (1 + (Int.tmod x7 3)))).bind fun bt549 => ((halberdlaw0_Num.f bt544.2).bind fun t551 => (if t551 = 0 then ((halberdlaw0_Num.f bt547.2).bind fun t552 => (if t552 = 0 then ((halberdlaw0_Num.f bt549.2).bind fun t553 => (if t553 = 0 then (if (bt544.1.size : Int) = 4 then (if (bt547.1.size : Int) = 3 then (if x6.size + bt544.1.size ≤ 9223372036854775807 then (if (x6 ++ bt544.1).size + bt547.1.size ≤ 9223372036854775807 then (if ((x6 ++ bt544.1) ++ bt547.1).size + bt549.1.size ≤ 9223372036854775807 then (halberdlaw1_WireBack.l0 k x0 x5 (((x6 ++ bt544.1) ++ bt547.1) ++ bt549.1) (wrap64 (x7 + 1))) else (none)) else (none)) else (none)) else (some false)) else (some false)) else (some false))) else (some false))) else (some false)))))) else (none)) else (none)) else (halberdlaw1_WireBack.l1 k x0 x5 x6 (x5.size : Int) 0)
def halberdlaw1_WireBack.l1 : Nat → List Int → ByteArray → ByteArray → Int → Int → Option (Bool)
  | 0, _, _, _, _, _ => none
  | k + 1, x0, x5, x6, x14, x15 => if x15 < (x0.length : Int) then (halberdlaw1_WireBack.j4 k x0 x5 x6 x14 x15 (decide (x15 < 30))) else (halberdlaw1_WireBack.j4 k x0 x5 x6 x14 x15 false)
def halberdlaw1_WireBack.j4 : Nat → List Int → ByteArray → ByteArray → Int → Int → Bool → Option (Bool)
  | 0, _, _, _, _, _, _ => none
  | k + 1, x0, x5, x6, x14, x15, x112 => if x112 = true then ((wire_U32.f k x6 x14).bind fun bt558 => ((wire_U24.f k x6 bt558.2.1).bind fun bt561 => ((wire_Vec.f k x6 bt561.2.1 (wrap64 (1 + (Int.tmod x15 3)))).bind fun bt564 => (if 0 ≤ x15 then (if x15 < (x0.length : Int) then (if bt558.1 = (Go.bits .and .i64 (rd x0 x15) 4294967295) then (if bt561.1 = (Go.bits .and .i64 (rd x0 x15) 16777215) then (if bt564.1.toList = x5.toList then ((halberdlaw0_Num.f bt558.2.2).bind fun t569 => (if t569 = 0 then ((halberdlaw0_Num.f bt561.2.2).bind fun t570 => (if t570 = 0 then ((halberdlaw0_Num.f bt564.2.2).bind fun t571 => (if t571 = 0 then (halberdlaw1_WireBack.l1 k x0 x5 x6 bt564.2.1 (wrap64 (x15 + 1))) else (some false))) else (some false))) else (some false))) else (some false)) else (some false)) else (some false)) else (none)) else (none))))) else ((wire_U8.f k x6 x14).bind fun bt554 => (if x14 = (x6.size : Int) then ((halberdlaw0_Num.f bt554.2.2).bind fun t557 => (some (t557 == 100))) else (some false)))
end
def halberdlaw1_WireBack.f (k : Nat) (l0 : List Int) (a1 : ByteArray) : Option (Bool) := (halberdlaw1_awake.f).bind fun t542 => (if t542 = true then (if (a1.size : Int) > 255 then (if 0 ≤ 255 then (if 255 ≤ (a1.size : Int) then (halberdlaw1_WireBack.j0 k l0 (a1.extract 0 255)) else (none)) else (none)) else (halberdlaw1_WireBack.j0 k l0 a1)) else (some false))
theorem halberdlaw1_WireBack.mono_l : ∀ k, (∀ y0 y1, LeO (halberdlaw1_WireBack.j0 k y0 y1) (halberdlaw1_WireBack.j0 (k + 1) y0 y1)) ∧ (∀ y0 y1 y2 y3, LeO (halberdlaw1_WireBack.l0 k y0 y1 y2 y3) (halberdlaw1_WireBack.l0 (k + 1) y0 y1 y2 y3)) ∧ (∀ y0 y1 y2 y3 y4, LeO (halberdlaw1_WireBack.j2 k y0 y1 y2 y3 y4) (halberdlaw1_WireBack.j2 (k + 1) y0 y1 y2 y3 y4)) ∧ (∀ y0 y1 y2 y3 y4, LeO (halberdlaw1_WireBack.l1 k y0 y1 y2 y3 y4) (halberdlaw1_WireBack.l1 (k + 1) y0 y1 y2 y3 y4)) ∧ (∀ y0 y1 y2 y3 y4 y5, LeO (halberdlaw1_WireBack.j4 k y0 y1 y2 y3 y4 y5) (halberdlaw1_WireBack.j4 (k + 1) y0 y1 y2 y3 y4 y5))
  | 0 => ⟨fun _ _ r h => by simp [halberdlaw1_WireBack.j0] at h, fun _ _ _ _ r h => by simp [halberdlaw1_WireBack.l0] at h, fun _ _ _ _ _ r h => by simp [halberdlaw1_WireBack.j2] at h, fun _ _ _ _ _ r h => by simp [halberdlaw1_WireBack.l1] at h, fun _ _ _ _ _ _ r h => by simp [halberdlaw1_WireBack.j4] at h⟩
  | k + 1 => by
    obtain ⟨ih0, ih1, ih2, ih3, ih4⟩ := halberdlaw1_WireBack.mono_l k
    refine ⟨?_, ?_, ?_, ?_, ?_⟩
    · intro y0 y1
      unfold halberdlaw1_WireBack.j0
      repeat' first
      | (with_reducible exact ih0 _ _)
      | (with_reducible exact ih1 _ _ _ _)
      | (with_reducible exact ih2 _ _ _ _ _)
      | (with_reducible exact ih3 _ _ _ _ _)
      | (with_reducible exact ih4 _ _ _ _ _ _)
      | (with_reducible exact wire_U24.mono _ _ _)
      | (with_reducible exact wire_U32.mono _ _ _)
      | (with_reducible exact wire_U8.mono _ _ _)
      | (with_reducible exact wire_Vec.mono _ _ _ _)
      | (with_reducible exact LeO.refl _)
      | (with_reducible exact LeO.none _)
      | (with_reducible refine LeO.ite ?_ ?_)
      | (with_reducible refine LeO.bind ?_ (fun _ => ?_))
      | exact ih0 _ _
      | exact ih1 _ _ _ _
      | exact ih2 _ _ _ _ _
      | exact ih3 _ _ _ _ _
      | exact ih4 _ _ _ _ _ _
      | exact wire_U24.mono _ _ _
      | exact wire_U32.mono _ _ _
      | exact wire_U8.mono _ _ _
      | exact wire_Vec.mono _ _ _ _
      | exact LeO.none _
      | refine LeO.ite ?_ ?_
      | refine LeO.bind ?_ (fun _ => ?_)
    · intro y0 y1 y2 y3
      unfold halberdlaw1_WireBack.l0
      repeat' first
      | (with_reducible exact ih0 _ _)
      | (with_reducible exact ih1 _ _ _ _)
      | (with_reducible exact ih2 _ _ _ _ _)
      | (with_reducible exact ih3 _ _ _ _ _)
      | (with_reducible exact ih4 _ _ _ _ _ _)
      | (with_reducible exact wire_U24.mono _ _ _)
      | (with_reducible exact wire_U32.mono _ _ _)
      | (with_reducible exact wire_U8.mono _ _ _)
      | (with_reducible exact wire_Vec.mono _ _ _ _)
      | (with_reducible exact LeO.refl _)
      | (with_reducible exact LeO.none _)
      | (with_reducible refine LeO.ite ?_ ?_)
      | (with_reducible refine LeO.bind ?_ (fun _ => ?_))
      | exact ih0 _ _
      | exact ih1 _ _ _ _
      | exact ih2 _ _ _ _ _
      | exact ih3 _ _ _ _ _
      | exact ih4 _ _ _ _ _ _
      | exact wire_U24.mono _ _ _
      | exact wire_U32.mono _ _ _
      | exact wire_U8.mono _ _ _
      | exact wire_Vec.mono _ _ _ _
      | exact LeO.none _
      | refine LeO.ite ?_ ?_
      | refine LeO.bind ?_ (fun _ => ?_)
    · intro y0 y1 y2 y3 y4
      unfold halberdlaw1_WireBack.j2
      repeat' first
      | (with_reducible exact ih0 _ _)
      | (with_reducible exact ih1 _ _ _ _)
      | (with_reducible exact ih2 _ _ _ _ _)
      | (with_reducible exact ih3 _ _ _ _ _)
      | (with_reducible exact ih4 _ _ _ _ _ _)
      | (with_reducible exact wire_U24.mono _ _ _)
      | (with_reducible exact wire_U32.mono _ _ _)
      | (with_reducible exact wire_U8.mono _ _ _)
      | (with_reducible exact wire_Vec.mono _ _ _ _)
      | (with_reducible exact LeO.refl _)
      | (with_reducible exact LeO.none _)
      | (with_reducible refine LeO.ite ?_ ?_)
      | (with_reducible refine LeO.bind ?_ (fun _ => ?_))
      | exact ih0 _ _
      | exact ih1 _ _ _ _
      | exact ih2 _ _ _ _ _
      | exact ih3 _ _ _ _ _
      | exact ih4 _ _ _ _ _ _
      | exact wire_U24.mono _ _ _
      | exact wire_U32.mono _ _ _
      | exact wire_U8.mono _ _ _
      | exact wire_Vec.mono _ _ _ _
      | exact LeO.none _
      | refine LeO.ite ?_ ?_
      | refine LeO.bind ?_ (fun _ => ?_)
    · intro y0 y1 y2 y3 y4
      unfold halberdlaw1_WireBack.l1
      repeat' first
      | (with_reducible exact ih0 _ _)
      | (with_reducible exact ih1 _ _ _ _)
      | (with_reducible exact ih2 _ _ _ _ _)
      | (with_reducible exact ih3 _ _ _ _ _)
      | (with_reducible exact ih4 _ _ _ _ _ _)
      | (with_reducible exact wire_U24.mono _ _ _)
      | (with_reducible exact wire_U32.mono _ _ _)
      | (with_reducible exact wire_U8.mono _ _ _)
      | (with_reducible exact wire_Vec.mono _ _ _ _)
      | (with_reducible exact LeO.refl _)
      | (with_reducible exact LeO.none _)
      | (with_reducible refine LeO.ite ?_ ?_)
      | (with_reducible refine LeO.bind ?_ (fun _ => ?_))
      | exact ih0 _ _
      | exact ih1 _ _ _ _
      | exact ih2 _ _ _ _ _
      | exact ih3 _ _ _ _ _
      | exact ih4 _ _ _ _ _ _
      | exact wire_U24.mono _ _ _
      | exact wire_U32.mono _ _ _
      | exact wire_U8.mono _ _ _
      | exact wire_Vec.mono _ _ _ _
      | exact LeO.none _
      | refine LeO.ite ?_ ?_
      | refine LeO.bind ?_ (fun _ => ?_)
    · intro y0 y1 y2 y3 y4 y5
      unfold halberdlaw1_WireBack.j4
      repeat' first
      | (with_reducible exact ih0 _ _)
      | (with_reducible exact ih1 _ _ _ _)
      | (with_reducible exact ih2 _ _ _ _ _)
      | (with_reducible exact ih3 _ _ _ _ _)
      | (with_reducible exact ih4 _ _ _ _ _ _)
      | (with_reducible exact wire_U24.mono _ _ _)
      | (with_reducible exact wire_U32.mono _ _ _)
      | (with_reducible exact wire_U8.mono _ _ _)
      | (with_reducible exact wire_Vec.mono _ _ _ _)
      | (with_reducible exact LeO.refl _)
      | (with_reducible exact LeO.none _)
      | (with_reducible refine LeO.ite ?_ ?_)
      | (with_reducible refine LeO.bind ?_ (fun _ => ?_))
      | exact ih0 _ _
      | exact ih1 _ _ _ _
      | exact ih2 _ _ _ _ _
      | exact ih3 _ _ _ _ _
      | exact ih4 _ _ _ _ _ _
      | exact wire_U24.mono _ _ _
      | exact wire_U32.mono _ _ _
      | exact wire_U8.mono _ _ _
      | exact wire_Vec.mono _ _ _ _
      | exact LeO.none _
      | refine LeO.ite ?_ ?_
      | refine LeO.bind ?_ (fun _ => ?_)
theorem halberdlaw1_WireBack.mono : ∀ a0 a1 k, LeO (halberdlaw1_WireBack.f k a0 a1) (halberdlaw1_WireBack.f (k + 1) a0 a1) := by
  intro a0 a1 k
  obtain ⟨ih0, ih1, ih2, ih3, ih4⟩ := halberdlaw1_WireBack.mono_l k
  unfold halberdlaw1_WireBack.f
  repeat' first
      | (with_reducible exact ih0 _ _)
      | (with_reducible exact ih1 _ _ _ _)
      | (with_reducible exact ih2 _ _ _ _ _)
      | (with_reducible exact ih3 _ _ _ _ _)
      | (with_reducible exact ih4 _ _ _ _ _ _)
      | (with_reducible exact wire_U24.mono _ _ _)
      | (with_reducible exact wire_U32.mono _ _ _)
      | (with_reducible exact wire_U8.mono _ _ _)
      | (with_reducible exact wire_Vec.mono _ _ _ _)
      | (with_reducible exact LeO.refl _)
      | (with_reducible exact LeO.none _)
      | (with_reducible refine LeO.ite ?_ ?_)
      | (with_reducible refine LeO.bind ?_ (fun _ => ?_))
      | exact ih0 _ _
      | exact ih1 _ _ _ _
      | exact ih2 _ _ _ _ _
      | exact ih3 _ _ _ _ _
      | exact ih4 _ _ _ _ _ _
      | exact wire_U24.mono _ _ _
      | exact wire_U32.mono _ _ _
      | exact wire_U8.mono _ _ _
      | exact wire_Vec.mono _ _ _ _
      | exact LeO.none _
      | refine LeO.ite ?_ ?_
      | refine LeO.bind ?_ (fun _ => ?_)
set_option maxHeartbeats 8000000 in
set_option maxRecDepth 100000 in
theorem halberdlaw1_WireBack.calls (k : Nat) (A0 : Option Addr) (c0 : Nat) (l0 : List Int) (a1 : ByteArray) (r : Bool) (w : World) (hr0 : Kd.C (Kd.int .i64) w A0 l0.length l0) (hc0 : l0.length ≤ c0) (h : halberdlaw1_WireBack.f k l0 a1 = some r) (hr : Aside0 (r = true)) :
    Calls Try.prog 11 #[.slice A0 l0.length c0, .string a1] w fun e w' => e = .returned (.bool r) ∧ Below w.heap.size w w' := by
  have HR0 := Aside0.mk hr0
  have HC0 := Aside0.mk hc0
  clear hr0 hc0
  have HB := Aside0.mk (Below.refl w.heap.size w)
  have H : ((halberdlaw1_awake.f).bind fun t542 => (if t542 = true then (if (a1.size : Int) > 255 then (if 0 ≤ 255 then (if 255 ≤ (a1.size : Int) then (halberdlaw1_WireBack.j0 k l0 (a1.extract 0 255)) else (none)) else (none)) else (halberdlaw1_WireBack.j0 k l0 a1)) else (some false))) = some r := h
  clear h
  replace H := Option.bind_eq_some_iff.mp H
  obtain ⟨t542, A30, H⟩ := H
  replace H : (if t542 = true then (if (a1.size : Int) > 255 then (if 0 ≤ 255 then (if 255 ≤ (a1.size : Int) then (halberdlaw1_WireBack.j0 k l0 (a1.extract 0 255)) else (none)) else (none)) else (halberdlaw1_WireBack.j0 k l0 a1)) else (some false)) = some r := H
  have A3 := Aside0.mk A30
  clear A30
  by_cases c4 : t542 = true
  · subst c4
    have H1 : (if (a1.size : Int) > 255 then (if 0 ≤ 255 then (if 255 ≤ (a1.size : Int) then (halberdlaw1_WireBack.j0 k l0 (a1.extract 0 255)) else (none)) else (none)) else (halberdlaw1_WireBack.j0 k l0 a1)) = some r := by rw [if_pos rfl] at H; exact H
    clear H
    have H := H1
    clear H1
    have HC5 := Aside0.mk H
    clear H
    go_enter Try.func11, Try.ntmps11
    go_upto_if 33 with (first | ((with_reducible refine gate_callee (f := 37) rfl ?_); refine goesL_ (some 28) rfl rfl Try.func37 (by kernel_rfl) rfl #[] rfl (by (try simp only [List.map_toArray, List.map_cons, List.map_nil]); first | done | rfl | (simp only [List.length_drop, List.length_take]; rfl)) ?_; (with_reducible refine (halberdlaw1_awake.calls  true _ A3.out).mono ?_); rintro e w6 ⟨rfl, hb⟩; refine ⟨_, rfl, ?_⟩; have n0_ := Aside0.mk (below_step (by repeat (first | (with_reducible first | exact HB.out | apply below_alloc | apply pw_below_drewN | apply below_drew1) | exact HB.out)) hb); clear HB; have HB := n0_; clear n0_; (try clear hb); (try clear hb2); (try clear hk); (try clear hi)))
    (try simp only [Act.put, List.setIfInBounds_toArray, List.set_cons_zero, List.set_cons_succ])
    go_cut [5] (fun v5 wc => ∃ (kq : Nat) (x5_4 : ByteArray), v5 = .string x5_4 ∧ Aside0 (halberdlaw1_WireBack.j0 kq l0 x5_4 = some r) ∧ Aside0 (kq ≤ k) ∧ Aside0 (Below w.heap.size w wc))
    case first =>
      have H := HC5.out
      clear HC5
      by_cases c7 : (a1.size : Int) > 255
      · rw [if_pos c7] at H
        have c7b0 : decide (255 < (a1.size : Int)) = true := decide_eq_true c7
        have c7b1 : decide (255 < a1.size) = true := decide_eq_true (by omega)
        clear c7
        (first | rw [c7b0] | (simp only [i64_w, i32_w]; rw [c7b0]) | skip)
        by_cases c8 : 0 ≤ 255
        · rw [if_pos c8] at H
          have c8b0 := eq_true c8
          have c8b1 : decide (0 ≤ 255) = true := decide_eq_true c8
          clear c8
          by_cases c9 : 255 ≤ (a1.size : Int)
          · rw [if_pos c9] at H
            have c9b0 := eq_true c9
            have c9b1 : decide (255 ≤ (a1.size : Int)) = true := decide_eq_true c9
            clear c9
            have H' := Aside0.mk H
            clear H
            go_wp2
            go_meet
            case rel => exact ⟨_, (a1.extract 0 255), (by first | rfl | (simp; done) | (simp [*]; done)), H', ⟨by first | omega | exact Nat.le_refl _⟩, ⟨by repeat (first | (with_reducible first | exact HB.out | apply below_alloc | apply pw_below_drewN | apply below_drew1) | exact HB.out)⟩⟩
          · rw [if_neg c9] at H
            exact absurd H (by simp)
        · rw [if_neg c8] at H
          exact absurd H (by simp)
      · rw [if_neg c7] at H
        have c7b0 : decide (255 < (a1.size : Int)) = false := decide_eq_false c7
        have c7b1 : decide (255 < a1.size) = false := decide_eq_false (by omega)
        clear c7
        (first | rw [c7b0] | (simp only [i64_w, i32_w]; rw [c7b0]) | skip)
        have H' := Aside0.mk H
        clear H
        go_wp2
        go_meet
        case rel => exact ⟨_, (a1), (by first | rfl | (simp; done) | (simp [*]; done)), H', ⟨by first | omega | exact Nat.le_refl _⟩, ⟨by repeat (first | (with_reducible first | exact HB.out | apply below_alloc | apply pw_below_drewN | apply below_drew1) | exact HB.out)⟩⟩
    case rest =>
      clear HC5
      try clear c1
      try clear p2
      try clear c3
      try clear c4
      try clear c7
      try clear c7b0
      try clear c7b1
      try clear c8
      try clear c8b0
      try clear c8b1
      try clear c9
      try clear c9b0
      try clear c9b1
      obtain ⟨kq, x5_4, rfl, HA, HJ4, HB⟩ := hcut
      cases kq with
      | zero => exact absurd HA.out (by simp [halberdlaw1_WireBack.j0])
      | succ kj4 =>
        have H := HA.out
        clear HA
        simp only [halberdlaw1_WireBack.j0] at H
        have H' := Aside0.mk H
        clear H
        go_wp2
        go_loopg [6, 7] kj4 (fun kq v6 v7 w' => ∃ (x6_2 : ByteArray) (x7_2 : Int), v6 = .string x6_2 ∧ v7 = .int .i64 x7_2 ∧ Aside0 (halberdlaw1_WireBack.l0 kq l0 x5_4 x6_2 x7_2 = some r) ∧ Aside0 (kq ≤ kj4) ∧ Aside0 (Below w.heap.size w w'))
        case atStart => exact ⟨(x5_4), (0), (by first | rfl | (simp; done) | (simp [*]; done)), (by first | rfl | (simp; done) | (simp [*]; done)), H', ⟨Nat.le_refl _⟩, ⟨by repeat (first | (with_reducible first | exact HB.out | apply below_alloc | apply pw_below_drewN | apply below_drew1) | exact HB.out)⟩⟩
        case round =>
          clear H'
          try clear c1
          try clear p2
          try clear c3
          try clear c4
          try clear c7
          try clear c7b0
          try clear c7b1
          try clear c8
          try clear c8b0
          try clear c8b1
          try clear c9
          try clear c9b0
          try clear c9b1
          try clear p2
          obtain ⟨x6_2, x7_2, rfl, rfl, HA, HK2, HB⟩ := hrel
          cases gk with
          | zero => exact absurd HA.out (by simp [halberdlaw1_WireBack.l0])
          | succ k2 =>
            have H := HA.out
            clear HA
            simp only [halberdlaw1_WireBack.l0] at H
            have HC10 := Aside0.mk H
            clear H
            go_upto_region 8 with (fail)
            go_cut [44] (fun v44 wc => ∃ (kq : Nat) (x44_9 : Bool), v44 = .bool x44_9 ∧ Aside0 (halberdlaw1_WireBack.j2 kq l0 x5_4 x6_2 x7_2 x44_9 = some r) ∧ Aside0 (kq ≤ k2) ∧ Aside0 (Below w.heap.size w wc))
            case first =>
              have H := HC10.out
              clear HC10
              by_cases c11 : x7_2 < (l0.length : Int)
              · rw [if_pos c11] at H
                have c11b0 : decide (x7_2 < (l0.length : Int)) = true := decide_eq_true c11
                clear c11
                (first | rw [c11b0] | (simp only [i64_w, i32_w]; rw [c11b0]) | skip)
                have H' := Aside0.mk H
                clear H
                go_wp2
                go_meet
                case rel => exact ⟨_, (decide (x7_2 < 30)), (by first | rfl | (simp; done) | (simp [*]; done)), H', ⟨by have := HJ4.out; have := HK2.out; first | omega | exact Nat.le_refl _⟩, ⟨by repeat (first | (with_reducible first | exact HB.out | apply below_alloc | apply pw_below_drewN | apply below_drew1) | exact HB.out)⟩⟩
              · rw [if_neg c11] at H
                have c11b0 : decide (x7_2 < (l0.length : Int)) = false := decide_eq_false c11
                clear c11
                (first | rw [c11b0] | (simp only [i64_w, i32_w]; rw [c11b0]) | skip)
                have H' := Aside0.mk H
                clear H
                go_wp2
                go_meet
                case rel => exact ⟨_, (false), (by first | rfl | (simp; done) | (simp [*]; done)), H', ⟨by have := HJ4.out; have := HK2.out; first | omega | exact Nat.le_refl _⟩, ⟨by repeat (first | (with_reducible first | exact HB.out | apply below_alloc | apply pw_below_drewN | apply below_drew1) | exact HB.out)⟩⟩
            case rest =>
              clear HC10
              try clear c1
              try clear p2
              try clear c3
              try clear c4
              try clear c7
              try clear c7b0
              try clear c7b1
              try clear c8
              try clear c8b0
              try clear c8b1
              try clear c9
              try clear c9b0
              try clear c9b1
              try clear c11
              try clear c11b0
              try clear p2
              obtain ⟨kq, x44_9, rfl, HA, HJ9, HB⟩ := hcut
              cases kq with
              | zero => exact absurd HA.out (by simp [halberdlaw1_WireBack.j2])
              | succ kj9 =>
                have H := HA.out
                clear HA
                simp only [halberdlaw1_WireBack.j2] at H
                by_cases c12 : x44_9 = true
                · subst c12
                  have H1 : (if 0 ≤ x7_2 then (if x7_2 < (l0.length : Int) then ((wire_Put.f (Go.bits .and .i64 (rd l0 x7_2) 4294967295) 4).bind fun bt544 => ((wire_Put.f (Go.bits .and .i64 (rd l0 x7_2) 16777215) 3).bind fun bt547 => ((wire_PutVec.f x5_4 (wrap64 (1 + (Int.tmod x7_2 3)))).bind fun bt549 => ((halberdlaw0_Num.f bt544.2).bind fun t551 => (if t551 = 0 then ((halberdlaw0_Num.f bt547.2).bind fun t552 => (if t552 = 0 then ((halberdlaw0_Num.f bt549.2).bind fun t553 => (if t553 = 0 then (if (bt544.1.size : Int) = 4 then (if (bt547.1.size : Int) = 3 then (if x6_2.size + bt544.1.size ≤ 9223372036854775807 then (if (x6_2 ++ bt544.1).size + bt547.1.size ≤ 9223372036854775807 then (if ((x6_2 ++ bt544.1) ++ bt547.1).size + bt549.1.size ≤ 9223372036854775807 then (halberdlaw1_WireBack.l0 kj9 l0 x5_4 (((x6_2 ++ bt544.1) ++ bt547.1) ++ bt549.1) (wrap64 (x7_2 + 1))) else (none)) else (none)) else (none)) else (some false)) else (some false)) else (some false))) else (some false))) else (some false)))))) else (none)) else (none)) = some r := by rw [if_pos rfl] at H; exact H
                  clear H
                  have H := H1
                  clear H1
                  by_cases c13 : 0 ≤ x7_2
                  · rw [if_pos c13] at H
                    have c13b0 : decide (0 ≤ x7_2) = true := decide_eq_true c13
                    clear c13
                    by_cases c14 : x7_2 < (l0.length : Int)
                    · rw [if_pos c14] at H
                      have c14b0 : decide (x7_2 < (l0.length : Int)) = true := decide_eq_true c14
                      clear c14
                      replace H := Option.bind_eq_some_iff.mp H
                      obtain ⟨⟨t544, t545⟩, A150, H⟩ := H
                      replace H : ((wire_Put.f (Go.bits .and .i64 (rd l0 x7_2) 16777215) 3).bind fun bt547 => ((wire_PutVec.f x5_4 (wrap64 (1 + (Int.tmod x7_2 3)))).bind fun bt549 => ((halberdlaw0_Num.f t545).bind fun t551 => (if t551 = 0 then ((halberdlaw0_Num.f bt547.2).bind fun t552 => (if t552 = 0 then ((halberdlaw0_Num.f bt549.2).bind fun t553 => (if t553 = 0 then (if (t544.size : Int) = 4 then (if (bt547.1.size : Int) = 3 then (if x6_2.size + t544.size ≤ 9223372036854775807 then (if (x6_2 ++ t544).size + bt547.1.size ≤ 9223372036854775807 then (if ((x6_2 ++ t544) ++ bt547.1).size + bt549.1.size ≤ 9223372036854775807 then (halberdlaw1_WireBack.l0 kj9 l0 x5_4 (((x6_2 ++ t544) ++ bt547.1) ++ bt549.1) (wrap64 (x7_2 + 1))) else (none)) else (none)) else (none)) else (some false)) else (some false)) else (some false))) else (some false))) else (some false))))) = some r := H
                      have A15 := Aside0.mk A150
                      clear A150
                      replace H := Option.bind_eq_some_iff.mp H
                      obtain ⟨⟨t547, t548⟩, A160, H⟩ := H
                      replace H : ((wire_PutVec.f x5_4 (wrap64 (1 + (Int.tmod x7_2 3)))).bind fun bt549 => ((halberdlaw0_Num.f t545).bind fun t551 => (if t551 = 0 then ((halberdlaw0_Num.f t548).bind fun t552 => (if t552 = 0 then ((halberdlaw0_Num.f bt549.2).bind fun t553 => (if t553 = 0 then (if (t544.size : Int) = 4 then (if (t547.size : Int) = 3 then (if x6_2.size + t544.size ≤ 9223372036854775807 then (if (x6_2 ++ t544).size + t547.size ≤ 9223372036854775807 then (if ((x6_2 ++ t544) ++ t547).size + bt549.1.size ≤ 9223372036854775807 then (halberdlaw1_WireBack.l0 kj9 l0 x5_4 (((x6_2 ++ t544) ++ t547) ++ bt549.1) (wrap64 (x7_2 + 1))) else (none)) else (none)) else (none)) else (some false)) else (some false)) else (some false))) else (some false))) else (some false)))) = some r := H
                      have A16 := Aside0.mk A160
                      clear A160
                      replace H := Option.bind_eq_some_iff.mp H
                      obtain ⟨⟨t549, t550⟩, A170, H⟩ := H
                      replace H : ((halberdlaw0_Num.f t545).bind fun t551 => (if t551 = 0 then ((halberdlaw0_Num.f t548).bind fun t552 => (if t552 = 0 then ((halberdlaw0_Num.f t550).bind fun t553 => (if t553 = 0 then (if (t544.size : Int) = 4 then (if (t547.size : Int) = 3 then (if x6_2.size + t544.size ≤ 9223372036854775807 then (if (x6_2 ++ t544).size + t547.size ≤ 9223372036854775807 then (if ((x6_2 ++ t544) ++ t547).size + t549.size ≤ 9223372036854775807 then (halberdlaw1_WireBack.l0 kj9 l0 x5_4 (((x6_2 ++ t544) ++ t547) ++ t549) (wrap64 (x7_2 + 1))) else (none)) else (none)) else (none)) else (some false)) else (some false)) else (some false))) else (some false))) else (some false))) = some r := H
                      have A17 := Aside0.mk A170
                      clear A170
                      replace H := Option.bind_eq_some_iff.mp H
                      obtain ⟨t551, A180, H⟩ := H
                      replace H : (if t551 = 0 then ((halberdlaw0_Num.f t548).bind fun t552 => (if t552 = 0 then ((halberdlaw0_Num.f t550).bind fun t553 => (if t553 = 0 then (if (t544.size : Int) = 4 then (if (t547.size : Int) = 3 then (if x6_2.size + t544.size ≤ 9223372036854775807 then (if (x6_2 ++ t544).size + t547.size ≤ 9223372036854775807 then (if ((x6_2 ++ t544) ++ t547).size + t549.size ≤ 9223372036854775807 then (halberdlaw1_WireBack.l0 kj9 l0 x5_4 (((x6_2 ++ t544) ++ t547) ++ t549) (wrap64 (x7_2 + 1))) else (none)) else (none)) else (none)) else (some false)) else (some false)) else (some false))) else (some false))) else (some false)) = some r := H
                      have A18 := Aside0.mk A180
                      clear A180
                      by_cases c19 : t551 = 0
                      · rw [if_pos c19] at H
                        have c19b0 : (t551 == 0) = true := beq_iff_eq.mpr c19
                        have c19b1 : (t551 != 0) = false := bne_eq_false_iff_eq.mpr c19
                        clear c19
                        replace H := Option.bind_eq_some_iff.mp H
                        obtain ⟨t552, A200, H⟩ := H
                        replace H : (if t552 = 0 then ((halberdlaw0_Num.f t550).bind fun t553 => (if t553 = 0 then (if (t544.size : Int) = 4 then (if (t547.size : Int) = 3 then (if x6_2.size + t544.size ≤ 9223372036854775807 then (if (x6_2 ++ t544).size + t547.size ≤ 9223372036854775807 then (if ((x6_2 ++ t544) ++ t547).size + t549.size ≤ 9223372036854775807 then (halberdlaw1_WireBack.l0 kj9 l0 x5_4 (((x6_2 ++ t544) ++ t547) ++ t549) (wrap64 (x7_2 + 1))) else (none)) else (none)) else (none)) else (some false)) else (some false)) else (some false))) else (some false)) = some r := H
                        have A20 := Aside0.mk A200
                        clear A200
                        by_cases c21 : t552 = 0
                        · rw [if_pos c21] at H
                          have c21b0 : (t552 == 0) = true := beq_iff_eq.mpr c21
                          have c21b1 : (t552 != 0) = false := bne_eq_false_iff_eq.mpr c21
                          clear c21
                          replace H := Option.bind_eq_some_iff.mp H
                          obtain ⟨t553, A220, H⟩ := H
                          replace H : (if t553 = 0 then (if (t544.size : Int) = 4 then (if (t547.size : Int) = 3 then (if x6_2.size + t544.size ≤ 9223372036854775807 then (if (x6_2 ++ t544).size + t547.size ≤ 9223372036854775807 then (if ((x6_2 ++ t544) ++ t547).size + t549.size ≤ 9223372036854775807 then (halberdlaw1_WireBack.l0 kj9 l0 x5_4 (((x6_2 ++ t544) ++ t547) ++ t549) (wrap64 (x7_2 + 1))) else (none)) else (none)) else (none)) else (some false)) else (some false)) else (some false)) = some r := H
                          have A22 := Aside0.mk A220
                          clear A220
                          by_cases c23 : t553 = 0
                          · rw [if_pos c23] at H
                            have c23b0 : (t553 == 0) = true := beq_iff_eq.mpr c23
                            have c23b1 : (t553 != 0) = false := bne_eq_false_iff_eq.mpr c23
                            clear c23
                            by_cases c24 : (t544.size : Int) = 4
                            · rw [if_pos c24] at H
                              have c24b0 : ((t544.size : Int) == 4) = true := beq_iff_eq.mpr c24
                              have c24b1 : ((t544.size : Int) != 4) = false := bne_eq_false_iff_eq.mpr c24
                              clear c24
                              by_cases c25 : (t547.size : Int) = 3
                              · rw [if_pos c25] at H
                                have c25b0 : ((t547.size : Int) == 3) = true := beq_iff_eq.mpr c25
                                have c25b1 : ((t547.size : Int) != 3) = false := bne_eq_false_iff_eq.mpr c25
                                clear c25
                                by_cases c26 : x6_2.size + t544.size ≤ 9223372036854775807
                                · rw [if_pos c26] at H
                                  have c26b0 := eq_true c26
                                  have c26b1 : decide (x6_2.size + t544.size ≤ 9223372036854775807) = true := decide_eq_true c26
                                  try have c26b2 : (9223372036854775807 < x6_2.size + t544.size) = False := eq_false (Nat.not_lt.2 c26)
                                  by_cases c27 : (x6_2 ++ t544).size + t547.size ≤ 9223372036854775807
                                  · rw [if_pos c27] at H
                                    have c27b0 := eq_true c27
                                    have c27b1 : decide ((x6_2 ++ t544).size + t547.size ≤ 9223372036854775807) = true := decide_eq_true c27
                                    try have c27b2 : (9223372036854775807 < (x6_2 ++ t544).size + t547.size) = False := eq_false (Nat.not_lt.2 c27)
                                    by_cases c28 : ((x6_2 ++ t544) ++ t547).size + t549.size ≤ 9223372036854775807
                                    · rw [if_pos c28] at H
                                      have c28b0 := eq_true c28
                                      have c28b1 : decide (((x6_2 ++ t544) ++ t547).size + t549.size ≤ 9223372036854775807) = true := decide_eq_true c28
                                      try have c28b2 : (9223372036854775807 < ((x6_2 ++ t544) ++ t547).size + t549.size) = False := eq_false (Nat.not_lt.2 c28)
                                      have H' := Aside0.mk H
                                      clear H
                                      have p543 : 0 ≤ (x7_2 : Int) := of_decide_eq_true (by first | (with_reducible assumption) | assumption)
                                      have q543 : x7_2 < (l0.length : Int) := of_decide_eq_true (by first | (with_reducible assumption) | assumption)
                                      obtain ⟨ad543, e543, hx543_0⟩ := Kd.at_int HR0.out x7_2 p543 q543
                                      cases e543
                                      replace hx543_0 := (HB.out.cell (World.block_lt_of_cell? w _ hx543_0)).trans hx543_0
                                      replace p543 := eq_true p543
                                      replace q543 := eq_true q543
                                      go_wp2_with (first | ((with_reducible refine gate_callee (f := 33) rfl ?_); refine goesL_ (some 53) rfl rfl Try.func33 (by kernel_rfl) rfl #[.int .i64 (Go.bits .and .i64 (rd l0 x7_2) 4294967295), .int .i64 4] rfl (by (try simp only [List.map_toArray, List.map_cons, List.map_nil]); first | done | rfl | (simp only [List.length_drop, List.length_take]; rfl)) ?_; (with_reducible refine (wire_Put.calls (Go.bits .and .i64 (rd l0 x7_2) 4294967295) 4 t544 t545 _ A15.out).mono ?_); rintro e w29 ⟨rfl, hb⟩; refine ⟨_, rfl, ?_⟩; have n0_ := Aside0.mk (below_step (by repeat (first | (with_reducible first | exact HB.out | apply below_alloc | apply pw_below_drewN | apply below_drew1) | exact HB.out)) hb); clear HB; have HB := n0_; clear n0_; (try clear hb); (try clear hb2); (try clear hk); (try clear hi); have p546 : 0 ≤ (x7_2 : Int) := of_decide_eq_true (by first | (with_reducible assumption) | assumption); have q546 : x7_2 < (l0.length : Int) := of_decide_eq_true (by first | (with_reducible assumption) | assumption); obtain ⟨ad546, e546, hx546_0⟩ := Kd.at_int HR0.out x7_2 p546 q546; obtain rfl : ad543 = ad546 := (by injection e546); replace hx546_0 := (HB.out.cell (World.block_lt_of_cell? w _ hx546_0)).trans hx546_0; replace p546 := eq_true p546; replace q546 := eq_true q546) | ((with_reducible refine gate_callee (f := 33) rfl ?_); refine goesL_ (some 62) rfl rfl Try.func33 (by kernel_rfl) rfl #[.int .i64 (Go.bits .and .i64 (rd l0 x7_2) 16777215), .int .i64 3] rfl (by (try simp only [List.map_toArray, List.map_cons, List.map_nil]); first | done | rfl | (simp only [List.length_drop, List.length_take]; rfl)) ?_; (with_reducible refine (wire_Put.calls (Go.bits .and .i64 (rd l0 x7_2) 16777215) 3 t547 t548 _ A16.out).mono ?_); rintro e w30 ⟨rfl, hb⟩; refine ⟨_, rfl, ?_⟩; have n0_ := Aside0.mk (below_step (by repeat (first | (with_reducible first | exact HB.out | apply below_alloc | apply pw_below_drewN | apply below_drew1) | exact HB.out)) hb); clear HB; have HB := n0_; clear n0_; (try clear hb); (try clear hb2); (try clear hk); (try clear hi)) | ((with_reducible refine gate_callee (f := 35) rfl ?_); refine goesL_ (some 70) rfl rfl Try.func35 (by kernel_rfl) rfl #[.string x5_4, .int .i64 (wrap64 (1 + (Int.tmod x7_2 3)))] rfl (by (try simp only [List.map_toArray, List.map_cons, List.map_nil]); first | done | rfl | (simp only [List.length_drop, List.length_take]; rfl)) ?_; (with_reducible refine (wire_PutVec.calls x5_4 (wrap64 (1 + (Int.tmod x7_2 3))) t549 t550 _ A17.out).mono ?_); rintro e w31 ⟨rfl, hb⟩; refine ⟨_, rfl, ?_⟩; have n0_ := Aside0.mk (below_step (by repeat (first | (with_reducible first | exact HB.out | apply below_alloc | apply pw_below_drewN | apply below_drew1) | exact HB.out)) hb); clear HB; have HB := n0_; clear n0_; (try clear hb); (try clear hb2); (try clear hk); (try clear hi)) | ((with_reducible refine gate_callee (f := 28) rfl ?_); refine goesL_ (some 74) rfl rfl Try.func28 (by kernel_rfl) rfl #[.int .i64 t545] rfl (by (try simp only [List.map_toArray, List.map_cons, List.map_nil]); first | done | rfl | (simp only [List.length_drop, List.length_take]; rfl)) ?_; (with_reducible refine (halberdlaw0_Num.calls t545 t551 _ A18.out).mono ?_); rintro e w' ⟨rfl, ⟨nd, rfl⟩⟩; refine ⟨_, rfl, ?_⟩) | (go_at_call 28; (with_reducible refine (halberdlaw0_Num.calls t548 t552 _ A20.out).mono ?_); rintro e w' ⟨rfl, ⟨nd, rfl⟩⟩) | (go_at_call 28; (with_reducible refine (halberdlaw0_Num.calls t550 t553 _ A22.out).mono ?_); rintro e w' ⟨rfl, ⟨nd, rfl⟩⟩))
                                      go_roundg kj9
                                      case measure => have := HJ4.out; have := HK2.out; have := HJ9.out; omega
                                      case rel => exact ⟨(((x6_2 ++ t544) ++ t547) ++ t549), (wrap64 (x7_2 + 1)), (by first | rfl | (simp; done) | (simp [*]; done)), (by first | rfl | (simp; done) | (simp [*]; done)), H', ⟨by have := HJ4.out; have := HK2.out; have := HJ9.out; omega⟩, ⟨by repeat (first | (with_reducible first | exact HB.out | apply below_alloc | apply pw_below_drewN | apply below_drew1) | exact HB.out)⟩⟩
                                    · rw [if_neg c28] at H
                                      exact absurd H (by simp)
                                  · rw [if_neg c27] at H
                                    exact absurd H (by simp)
                                · rw [if_neg c26] at H
                                  exact absurd H (by simp)
                              · rw [if_neg c25] at H
                                have c25b0 : ((t547.size : Int) == 3) = false := beq_eq_false_iff_ne.mpr c25
                                have c25b1 : ((t547.size : Int) != 3) = true := bne_iff_ne.mpr c25
                                exact absurd ((Option.some.inj H).trans hr.out) (by decide)
                            · rw [if_neg c24] at H
                              have c24b0 : ((t544.size : Int) == 4) = false := beq_eq_false_iff_ne.mpr c24
                              have c24b1 : ((t544.size : Int) != 4) = true := bne_iff_ne.mpr c24
                              exact absurd ((Option.some.inj H).trans hr.out) (by decide)
                          · rw [if_neg c23] at H
                            have c23b0 : (t553 == 0) = false := beq_eq_false_iff_ne.mpr c23
                            have c23b1 : (t553 != 0) = true := bne_iff_ne.mpr c23
                            exact absurd ((Option.some.inj H).trans hr.out) (by decide)
                        · rw [if_neg c21] at H
                          have c21b0 : (t552 == 0) = false := beq_eq_false_iff_ne.mpr c21
                          have c21b1 : (t552 != 0) = true := bne_iff_ne.mpr c21
                          exact absurd ((Option.some.inj H).trans hr.out) (by decide)
                      · rw [if_neg c19] at H
                        have c19b0 : (t551 == 0) = false := beq_eq_false_iff_ne.mpr c19
                        have c19b1 : (t551 != 0) = true := bne_iff_ne.mpr c19
                        exact absurd ((Option.some.inj H).trans hr.out) (by decide)
                    · rw [if_neg c14] at H
                      exact absurd H (by simp)
                  · rw [if_neg c13] at H
                    exact absurd H (by simp)
                · replace c12 := Bool.eq_false_iff.mpr c12
                  subst c12
                  have H1 : (halberdlaw1_WireBack.l1 kj9 l0 x5_4 x6_2 (x5_4.size : Int) 0) = some r := by rw [if_neg (show ¬ (false = true) by decide)] at H; exact H
                  clear H
                  have H := H1
                  clear H1
                  have H' := Aside0.mk H
                  clear H
                  go_wp2
                  go_loopg [14, 15] kj9 (fun kq v14 v15 w' => ∃ (x14_4 : Int) (x15_4 : Int), v14 = .int .i64 x14_4 ∧ v15 = .int .i64 x15_4 ∧ Aside0 (halberdlaw1_WireBack.l1 kq l0 x5_4 x6_2 x14_4 x15_4 = some r) ∧ Aside0 (kq ≤ kj9) ∧ Aside0 (Below w.heap.size w w'))
                  case atStart => exact ⟨((x5_4.size : Int)), (0), (by first | rfl | (simp; done) | (simp [*]; done)), (by first | rfl | (simp; done) | (simp [*]; done)), H', ⟨Nat.le_refl _⟩, ⟨by repeat (first | (with_reducible first | exact HB.out | apply below_alloc | apply pw_below_drewN | apply below_drew1) | exact HB.out)⟩⟩
                  case round =>
                    clear H'
                    try clear c1
                    try clear c2
                    try clear p2
                    try clear c3
                    try clear c4
                    try clear p5
                    try clear q5
                    try clear hx5
                    try clear p6
                    try clear c7
                    try clear c7b0
                    try clear c7b1
                    try clear c8
                    try clear c8b0
                    try clear c8b1
                    try clear c9
                    try clear c9b0
                    try clear c9b1
                    try clear c11
                    try clear c11b0
                    try clear c12
                    try clear c13
                    try clear c13b0
                    try clear c14
                    try clear c14b0
                    try clear c19
                    try clear c19b0
                    try clear c19b1
                    try clear c21
                    try clear c21b0
                    try clear c21b1
                    try clear c23
                    try clear c23b0
                    try clear c23b1
                    try clear c24
                    try clear c24b0
                    try clear c24b1
                    try clear c25
                    try clear c25b0
                    try clear c25b1
                    try clear c26
                    try clear c26b0
                    try clear c26b1
                    try clear c26b2
                    try clear c27
                    try clear c27b0
                    try clear c27b1
                    try clear c27b2
                    try clear c28
                    try clear c28b0
                    try clear c28b1
                    try clear c28b2
                    try clear hx543_0
                    try clear hx546_0
                    try clear p2
                    try clear p543
                    try clear p546
                    try clear q543
                    try clear q546
                    obtain ⟨x14_4, x15_4, rfl, rfl, HA, HK4, HB⟩ := hrel
                    cases gk with
                    | zero => exact absurd HA.out (by simp [halberdlaw1_WireBack.l1])
                    | succ k4 =>
                      have H := HA.out
                      clear HA
                      simp only [halberdlaw1_WireBack.l1] at H
                      have HC32 := Aside0.mk H
                      clear H
                      go_upto_region 18 with (fail)
                      go_cut [112] (fun v112 wc => ∃ (kq : Nat) (x112_31 : Bool), v112 = .bool x112_31 ∧ Aside0 (halberdlaw1_WireBack.j4 kq l0 x5_4 x6_2 x14_4 x15_4 x112_31 = some r) ∧ Aside0 (kq ≤ k4) ∧ Aside0 (Below w.heap.size w wc))
                      case first =>
                        have H := HC32.out
                        clear HC32
                        by_cases c33 : x15_4 < (l0.length : Int)
                        · rw [if_pos c33] at H
                          have c33b0 : decide (x15_4 < (l0.length : Int)) = true := decide_eq_true c33
                          clear c33
                          (first | rw [c33b0] | (simp only [i64_w, i32_w]; rw [c33b0]) | skip)
                          have H' := Aside0.mk H
                          clear H
                          go_wp2
                          go_meet
                          case rel => exact ⟨_, (decide (x15_4 < 30)), (by first | rfl | (simp; done) | (simp [*]; done)), H', ⟨by have := HJ4.out; have := HK2.out; have := HJ9.out; have := HK4.out; first | omega | exact Nat.le_refl _⟩, ⟨by repeat (first | (with_reducible first | exact HB.out | apply below_alloc | apply pw_below_drewN | apply below_drew1) | exact HB.out)⟩⟩
                        · rw [if_neg c33] at H
                          have c33b0 : decide (x15_4 < (l0.length : Int)) = false := decide_eq_false c33
                          clear c33
                          (first | rw [c33b0] | (simp only [i64_w, i32_w]; rw [c33b0]) | skip)
                          have H' := Aside0.mk H
                          clear H
                          go_wp2
                          go_meet
                          case rel => exact ⟨_, (false), (by first | rfl | (simp; done) | (simp [*]; done)), H', ⟨by have := HJ4.out; have := HK2.out; have := HJ9.out; have := HK4.out; first | omega | exact Nat.le_refl _⟩, ⟨by repeat (first | (with_reducible first | exact HB.out | apply below_alloc | apply pw_below_drewN | apply below_drew1) | exact HB.out)⟩⟩
                      case rest =>
                        clear HC32
                        try clear c1
                        try clear c2
                        try clear p2
                        try clear c3
                        try clear c4
                        try clear p5
                        try clear q5
                        try clear hx5
                        try clear p6
                        try clear c7
                        try clear c7b0
                        try clear c7b1
                        try clear c8
                        try clear c8b0
                        try clear c8b1
                        try clear c9
                        try clear c9b0
                        try clear c9b1
                        try clear c11
                        try clear c11b0
                        try clear c12
                        try clear c13
                        try clear c13b0
                        try clear c14
                        try clear c14b0
                        try clear c19
                        try clear c19b0
                        try clear c19b1
                        try clear c21
                        try clear c21b0
                        try clear c21b1
                        try clear c23
                        try clear c23b0
                        try clear c23b1
                        try clear c24
                        try clear c24b0
                        try clear c24b1
                        try clear c25
                        try clear c25b0
                        try clear c25b1
                        try clear c26
                        try clear c26b0
                        try clear c26b1
                        try clear c26b2
                        try clear c27
                        try clear c27b0
                        try clear c27b1
                        try clear c27b2
                        try clear c28
                        try clear c28b0
                        try clear c28b1
                        try clear c28b2
                        try clear c33
                        try clear c33b0
                        try clear hx543_0
                        try clear hx546_0
                        try clear p2
                        try clear p5
                        try clear p543
                        try clear p546
                        try clear p6
                        try clear q5
                        try clear q543
                        try clear q546
                        obtain ⟨kq, x112_31, rfl, HA, HJ31, HB⟩ := hcut
                        cases kq with
                        | zero => exact absurd HA.out (by simp [halberdlaw1_WireBack.j4])
                        | succ kj31 =>
                          have H := HA.out
                          clear HA
                          simp only [halberdlaw1_WireBack.j4] at H
                          by_cases c34 : x112_31 = true
                          · subst c34
                            have H1 : ((wire_U32.f kj31 x6_2 x14_4).bind fun bt558 => ((wire_U24.f kj31 x6_2 bt558.2.1).bind fun bt561 => ((wire_Vec.f kj31 x6_2 bt561.2.1 (wrap64 (1 + (Int.tmod x15_4 3)))).bind fun bt564 => (if 0 ≤ x15_4 then (if x15_4 < (l0.length : Int) then (if bt558.1 = (Go.bits .and .i64 (rd l0 x15_4) 4294967295) then (if bt561.1 = (Go.bits .and .i64 (rd l0 x15_4) 16777215) then (if bt564.1.toList = x5_4.toList then ((halberdlaw0_Num.f bt558.2.2).bind fun t569 => (if t569 = 0 then ((halberdlaw0_Num.f bt561.2.2).bind fun t570 => (if t570 = 0 then ((halberdlaw0_Num.f bt564.2.2).bind fun t571 => (if t571 = 0 then (halberdlaw1_WireBack.l1 kj31 l0 x5_4 x6_2 bt564.2.1 (wrap64 (x15_4 + 1))) else (some false))) else (some false))) else (some false))) else (some false)) else (some false)) else (some false)) else (none)) else (none))))) = some r := by rw [if_pos rfl] at H; exact H
                            clear H
                            have H := H1
                            clear H1
                            replace H := Option.bind_eq_some_iff.mp H
                            obtain ⟨⟨t558, t559, t560⟩, A350, H⟩ := H
                            replace H : ((wire_U24.f kj31 x6_2 t559).bind fun bt561 => ((wire_Vec.f kj31 x6_2 bt561.2.1 (wrap64 (1 + (Int.tmod x15_4 3)))).bind fun bt564 => (if 0 ≤ x15_4 then (if x15_4 < (l0.length : Int) then (if t558 = (Go.bits .and .i64 (rd l0 x15_4) 4294967295) then (if bt561.1 = (Go.bits .and .i64 (rd l0 x15_4) 16777215) then (if bt564.1.toList = x5_4.toList then ((halberdlaw0_Num.f t560).bind fun t569 => (if t569 = 0 then ((halberdlaw0_Num.f bt561.2.2).bind fun t570 => (if t570 = 0 then ((halberdlaw0_Num.f bt564.2.2).bind fun t571 => (if t571 = 0 then (halberdlaw1_WireBack.l1 kj31 l0 x5_4 x6_2 bt564.2.1 (wrap64 (x15_4 + 1))) else (some false))) else (some false))) else (some false))) else (some false)) else (some false)) else (some false)) else (none)) else (none)))) = some r := H
                            have A35 := Aside0.mk A350
                            clear A350
                            replace H := Option.bind_eq_some_iff.mp H
                            obtain ⟨⟨t561, t562, t563⟩, A360, H⟩ := H
                            replace H : ((wire_Vec.f kj31 x6_2 t562 (wrap64 (1 + (Int.tmod x15_4 3)))).bind fun bt564 => (if 0 ≤ x15_4 then (if x15_4 < (l0.length : Int) then (if t558 = (Go.bits .and .i64 (rd l0 x15_4) 4294967295) then (if t561 = (Go.bits .and .i64 (rd l0 x15_4) 16777215) then (if bt564.1.toList = x5_4.toList then ((halberdlaw0_Num.f t560).bind fun t569 => (if t569 = 0 then ((halberdlaw0_Num.f t563).bind fun t570 => (if t570 = 0 then ((halberdlaw0_Num.f bt564.2.2).bind fun t571 => (if t571 = 0 then (halberdlaw1_WireBack.l1 kj31 l0 x5_4 x6_2 bt564.2.1 (wrap64 (x15_4 + 1))) else (some false))) else (some false))) else (some false))) else (some false)) else (some false)) else (some false)) else (none)) else (none))) = some r := H
                            have A36 := Aside0.mk A360
                            clear A360
                            replace H := Option.bind_eq_some_iff.mp H
                            obtain ⟨⟨t564, t565, t566⟩, A370, H⟩ := H
                            replace H : (if 0 ≤ x15_4 then (if x15_4 < (l0.length : Int) then (if t558 = (Go.bits .and .i64 (rd l0 x15_4) 4294967295) then (if t561 = (Go.bits .and .i64 (rd l0 x15_4) 16777215) then (if t564.toList = x5_4.toList then ((halberdlaw0_Num.f t560).bind fun t569 => (if t569 = 0 then ((halberdlaw0_Num.f t563).bind fun t570 => (if t570 = 0 then ((halberdlaw0_Num.f t566).bind fun t571 => (if t571 = 0 then (halberdlaw1_WireBack.l1 kj31 l0 x5_4 x6_2 t565 (wrap64 (x15_4 + 1))) else (some false))) else (some false))) else (some false))) else (some false)) else (some false)) else (some false)) else (none)) else (none)) = some r := H
                            have A37 := Aside0.mk A370
                            clear A370
                            by_cases c38 : 0 ≤ x15_4
                            · rw [if_pos c38] at H
                              have c38b0 : decide (0 ≤ x15_4) = true := decide_eq_true c38
                              clear c38
                              by_cases c39 : x15_4 < (l0.length : Int)
                              · rw [if_pos c39] at H
                                have c39b0 : decide (x15_4 < (l0.length : Int)) = true := decide_eq_true c39
                                clear c39
                                by_cases c40 : t558 = (Go.bits .and .i64 (rd l0 x15_4) 4294967295)
                                · rw [if_pos c40] at H
                                  have c40b0 : (t558 == (Go.bits .and .i64 (rd l0 x15_4) 4294967295)) = true := beq_iff_eq.mpr c40
                                  have c40b1 : (t558 != (Go.bits .and .i64 (rd l0 x15_4) 4294967295)) = false := bne_eq_false_iff_eq.mpr c40
                                  clear c40
                                  by_cases c41 : t561 = (Go.bits .and .i64 (rd l0 x15_4) 16777215)
                                  · rw [if_pos c41] at H
                                    have c41b0 : (t561 == (Go.bits .and .i64 (rd l0 x15_4) 16777215)) = true := beq_iff_eq.mpr c41
                                    have c41b1 : (t561 != (Go.bits .and .i64 (rd l0 x15_4) 16777215)) = false := bne_eq_false_iff_eq.mpr c41
                                    clear c41
                                    by_cases c42 : t564.toList = x5_4.toList
                                    · rw [if_pos c42] at H
                                      have c42b0 : (t564.toList == x5_4.toList) = true := beq_iff_eq.mpr c42
                                      have c42b1 : (t564.toList != x5_4.toList) = false := bne_eq_false_iff_eq.mpr c42
                                      clear c42
                                      replace H := Option.bind_eq_some_iff.mp H
                                      obtain ⟨t569, A430, H⟩ := H
                                      replace H : (if t569 = 0 then ((halberdlaw0_Num.f t563).bind fun t570 => (if t570 = 0 then ((halberdlaw0_Num.f t566).bind fun t571 => (if t571 = 0 then (halberdlaw1_WireBack.l1 kj31 l0 x5_4 x6_2 t565 (wrap64 (x15_4 + 1))) else (some false))) else (some false))) else (some false)) = some r := H
                                      have A43 := Aside0.mk A430
                                      clear A430
                                      by_cases c44 : t569 = 0
                                      · rw [if_pos c44] at H
                                        have c44b0 : (t569 == 0) = true := beq_iff_eq.mpr c44
                                        have c44b1 : (t569 != 0) = false := bne_eq_false_iff_eq.mpr c44
                                        clear c44
                                        replace H := Option.bind_eq_some_iff.mp H
                                        obtain ⟨t570, A450, H⟩ := H
                                        replace H : (if t570 = 0 then ((halberdlaw0_Num.f t566).bind fun t571 => (if t571 = 0 then (halberdlaw1_WireBack.l1 kj31 l0 x5_4 x6_2 t565 (wrap64 (x15_4 + 1))) else (some false))) else (some false)) = some r := H
                                        have A45 := Aside0.mk A450
                                        clear A450
                                        by_cases c46 : t570 = 0
                                        · rw [if_pos c46] at H
                                          have c46b0 : (t570 == 0) = true := beq_iff_eq.mpr c46
                                          have c46b1 : (t570 != 0) = false := bne_eq_false_iff_eq.mpr c46
                                          clear c46
                                          replace H := Option.bind_eq_some_iff.mp H
                                          obtain ⟨t571, A470, H⟩ := H
                                          replace H : (if t571 = 0 then (halberdlaw1_WireBack.l1 kj31 l0 x5_4 x6_2 t565 (wrap64 (x15_4 + 1))) else (some false)) = some r := H
                                          have A47 := Aside0.mk A470
                                          clear A470
                                          by_cases c48 : t571 = 0
                                          · rw [if_pos c48] at H
                                            have c48b0 : (t571 == 0) = true := beq_iff_eq.mpr c48
                                            have c48b1 : (t571 != 0) = false := bne_eq_false_iff_eq.mpr c48
                                            clear c48
                                            have H' := Aside0.mk H
                                            clear H
                                            go_wp2_with (first | ((with_reducible refine gate_callee (f := 40) rfl ?_); refine goesL_ (some 118) rfl rfl Try.func40 (by kernel_rfl) rfl #[.string x6_2, .int .i64 x14_4] rfl (by (try simp only [List.map_toArray, List.map_cons, List.map_nil]); first | done | rfl | (simp only [List.length_drop, List.length_take]; rfl)) ?_; (with_reducible refine (wire_U32.calls kj31 x6_2 x14_4 t558 t559 t560 _ A35.out).mono ?_); rintro e w' ⟨rfl, ⟨nd, rfl⟩⟩; refine ⟨_, rfl, ?_⟩) | ((with_reducible refine gate_callee (f := 42) rfl ?_); refine goesL_ (some 125) rfl rfl Try.func42 (by kernel_rfl) rfl #[.string x6_2, .int .i64 t559] rfl (by (try simp only [List.map_toArray, List.map_cons, List.map_nil]); first | done | rfl | (simp only [List.length_drop, List.length_take]; rfl)) ?_; (with_reducible refine (wire_U24.calls kj31 x6_2 t559 t561 t562 t563 _ A36.out).mono ?_); rintro e w' ⟨rfl, ⟨nd, rfl⟩⟩; refine ⟨_, rfl, ?_⟩) | ((with_reducible refine gate_callee (f := 38) rfl ?_); refine goesL_ (some 135) rfl rfl Try.func38 (by kernel_rfl) rfl #[.string x6_2, .int .i64 t562, .int .i64 (wrap64 (1 + (Int.tmod x15_4 3)))] rfl (by (try simp only [List.map_toArray, List.map_cons, List.map_nil]); first | done | rfl | (simp only [List.length_drop, List.length_take]; rfl)) ?_; (with_reducible refine (wire_Vec.calls kj31 x6_2 t562 (wrap64 (1 + (Int.tmod x15_4 3))) t564 t565 t566 _ A37.out).mono ?_); rintro e w' ⟨rfl, ⟨nd, rfl⟩⟩; refine ⟨_, rfl, ?_⟩; have p567 : 0 ≤ (x15_4 : Int) := of_decide_eq_true (by first | (with_reducible assumption) | assumption); have q567 : x15_4 < (l0.length : Int) := of_decide_eq_true (by first | (with_reducible assumption) | assumption); obtain ⟨ad567, e567, hx567_0⟩ := Kd.at_int HR0.out x15_4 p567 q567; cases e567; replace hx567_0 := (HB.out.cell (World.block_lt_of_cell? w _ hx567_0)).trans hx567_0; replace p567 := eq_true p567; replace q567 := eq_true q567; have p568 : 0 ≤ (x15_4 : Int) := of_decide_eq_true (by first | (with_reducible assumption) | assumption); have q568 : x15_4 < (l0.length : Int) := of_decide_eq_true (by first | (with_reducible assumption) | assumption); obtain ⟨ad568, e568, hx568_0⟩ := Kd.at_int HR0.out x15_4 p568 q568; obtain rfl : ad567 = ad568 := (by injection e568); replace hx568_0 := (HB.out.cell (World.block_lt_of_cell? w _ hx568_0)).trans hx568_0; replace p568 := eq_true p568; replace q568 := eq_true q568) | (go_at_call 28; (with_reducible refine (halberdlaw0_Num.calls t560 t569 _ A43.out).mono ?_); rintro e w' ⟨rfl, ⟨nd, rfl⟩⟩) | (go_at_call 28; (with_reducible refine (halberdlaw0_Num.calls t563 t570 _ A45.out).mono ?_); rintro e w' ⟨rfl, ⟨nd, rfl⟩⟩) | (go_at_call 28; (with_reducible refine (halberdlaw0_Num.calls t566 t571 _ A47.out).mono ?_); rintro e w' ⟨rfl, ⟨nd, rfl⟩⟩))
                                            go_roundg kj31
                                            case measure => have := HJ4.out; have := HK2.out; have := HJ9.out; have := HK4.out; have := HJ31.out; omega
                                            case rel => exact ⟨(t565), (wrap64 (x15_4 + 1)), (by first | rfl | (simp; done) | (simp [*]; done)), (by first | rfl | (simp; done) | (simp [*]; done)), H', ⟨by have := HJ4.out; have := HK2.out; have := HJ9.out; have := HK4.out; have := HJ31.out; omega⟩, ⟨by repeat (first | (with_reducible first | exact HB.out | apply below_alloc | apply pw_below_drewN | apply below_drew1) | exact HB.out)⟩⟩
                                          · rw [if_neg c48] at H
                                            have c48b0 : (t571 == 0) = false := beq_eq_false_iff_ne.mpr c48
                                            have c48b1 : (t571 != 0) = true := bne_iff_ne.mpr c48
                                            exact absurd ((Option.some.inj H).trans hr.out) (by decide)
                                        · rw [if_neg c46] at H
                                          have c46b0 : (t570 == 0) = false := beq_eq_false_iff_ne.mpr c46
                                          have c46b1 : (t570 != 0) = true := bne_iff_ne.mpr c46
                                          exact absurd ((Option.some.inj H).trans hr.out) (by decide)
                                      · rw [if_neg c44] at H
                                        have c44b0 : (t569 == 0) = false := beq_eq_false_iff_ne.mpr c44
                                        have c44b1 : (t569 != 0) = true := bne_iff_ne.mpr c44
                                        exact absurd ((Option.some.inj H).trans hr.out) (by decide)
                                    · rw [if_neg c42] at H
                                      have c42b0 : (t564.toList == x5_4.toList) = false := beq_eq_false_iff_ne.mpr c42
                                      have c42b1 : (t564.toList != x5_4.toList) = true := bne_iff_ne.mpr c42
                                      exact absurd ((Option.some.inj H).trans hr.out) (by decide)
                                  · rw [if_neg c41] at H
                                    have c41b0 : (t561 == (Go.bits .and .i64 (rd l0 x15_4) 16777215)) = false := beq_eq_false_iff_ne.mpr c41
                                    have c41b1 : (t561 != (Go.bits .and .i64 (rd l0 x15_4) 16777215)) = true := bne_iff_ne.mpr c41
                                    exact absurd ((Option.some.inj H).trans hr.out) (by decide)
                                · rw [if_neg c40] at H
                                  have c40b0 : (t558 == (Go.bits .and .i64 (rd l0 x15_4) 4294967295)) = false := beq_eq_false_iff_ne.mpr c40
                                  have c40b1 : (t558 != (Go.bits .and .i64 (rd l0 x15_4) 4294967295)) = true := bne_iff_ne.mpr c40
                                  exact absurd ((Option.some.inj H).trans hr.out) (by decide)
                              · rw [if_neg c39] at H
                                exact absurd H (by simp)
                            · rw [if_neg c38] at H
                              exact absurd H (by simp)
                          · replace c34 := Bool.eq_false_iff.mpr c34
                            subst c34
                            have H1 : ((wire_U8.f kj31 x6_2 x14_4).bind fun bt554 => (if x14_4 = (x6_2.size : Int) then ((halberdlaw0_Num.f bt554.2.2).bind fun t557 => (some (t557 == 100))) else (some false))) = some r := by rw [if_neg (show ¬ (false = true) by decide)] at H; exact H
                            clear H
                            have H := H1
                            clear H1
                            replace H := Option.bind_eq_some_iff.mp H
                            obtain ⟨⟨t554, t555, t556⟩, A490, H⟩ := H
                            replace H : (if x14_4 = (x6_2.size : Int) then ((halberdlaw0_Num.f t556).bind fun t557 => (some (t557 == 100))) else (some false)) = some r := H
                            have A49 := Aside0.mk A490
                            clear A490
                            by_cases c50 : x14_4 = (x6_2.size : Int)
                            · rw [if_pos c50] at H
                              have c50b0 : (x14_4 == (x6_2.size : Int)) = true := beq_iff_eq.mpr c50
                              have c50b1 : (x14_4 != (x6_2.size : Int)) = false := bne_eq_false_iff_eq.mpr c50
                              clear c50
                              replace H := Option.bind_eq_some_iff.mp H
                              obtain ⟨t557, A510, H⟩ := H
                              replace H : (some (t557 == 100)) = some r := H
                              have A51 := Aside0.mk A510
                              clear A510
                              obtain rfl := Option.some.inj H
                              go_wp2_with (first | ((with_reducible refine gate_callee (f := 41) rfl ?_); refine goesL_ (some 179) rfl rfl Try.func41 (by kernel_rfl) rfl #[.string x6_2, .int .i64 x14_4] rfl (by (try simp only [List.map_toArray, List.map_cons, List.map_nil]); first | done | rfl | (simp only [List.length_drop, List.length_take]; rfl)) ?_; (with_reducible refine (wire_U8.calls kj31 x6_2 x14_4 t554 t555 t556 _ A49.out).mono ?_); rintro e w' ⟨rfl, ⟨nd, rfl⟩⟩; refine ⟨_, rfl, ?_⟩) | (go_at_call 28; (with_reducible refine (halberdlaw0_Num.calls t556 t557 _ A51.out).mono ?_); rintro e w' ⟨rfl, ⟨nd, rfl⟩⟩))
                              go_ret
                              exact ⟨by first | rfl | (simp [errW_none, errW_some] <;> rfl) | (simp [*, errW_none, errW_some] <;> rfl), by repeat (first | (with_reducible first | exact HB.out | apply below_alloc | apply pw_below_drewN | apply below_drew1) | exact HB.out)⟩
                            · rw [if_neg c50] at H
                              have c50b0 : (x14_4 == (x6_2.size : Int)) = false := beq_eq_false_iff_ne.mpr c50
                              have c50b1 : (x14_4 != (x6_2.size : Int)) = true := bne_iff_ne.mpr c50
                              exact absurd ((Option.some.inj H).trans hr.out) (by decide)
  · replace c4 := Bool.eq_false_iff.mpr c4
    subst c4
    have H1 : (some false) = some r := by rw [if_neg (show ¬ (false = true) by decide)] at H; exact H
    clear H
    have H := H1
    clear H1
    exact absurd ((Option.some.inj H).trans hr.out) (by decide)

/-- THE ONE PURE STATEMENT of halberdlaw1_WireBack: yours. -/
def halberdlaw1_WireBack.Pure : Prop := ∀ (l0 : List Int) (a1 : ByteArray), l0.length ≤ maxLen → l0.length * 8 ≤ 140737488351232 → (∀ x ∈ l0, (Lit.int .i64 x).wf = true) → a1.size ≤ 140737488351232 → ∃ k, halberdlaw1_WireBack.f k l0 a1 = some true
theorem halberdlaw1_WireBack.walk (P : halberdlaw1_WireBack.Pure) (a0 : Option Addr) (len0 cap0 : Nat) (z0 : List Int) (a1 : ByteArray) (w : World) (w0 : (a0 = none ∧ len0 = 0 ∧ cap0 = 0 ∧ z0 = []) ∨ ∃ x, a0 = some x ∧ len0 ≤ cap0 ∧ cap0 ≤ maxLen ∧ z0.length = cap0 ∧ (∀ i, i < z0.length → w.cell? (x.add i) = some (.int .i64 (z0.getD i 0))) ∧ ∀ n ∈ z0, (Lit.int .i64 n).wf = true) (y0 : len0 * 8 ≤ 140737488351232) (w1 : a1.size ≤ 140737488351232) :
    Calls Try.prog 11 #[.slice a0 len0 cap0, .string a1] w fun e w' => e = .returned (.bool true) ∧ Below w.heap.size w w' := by
  obtain ⟨l0, rfl, hr0, hm0, hw0, hc0⟩ := ReadsInt.ofRowC w0
  obtain ⟨k, h⟩ := P l0 a1 hm0 y0 hw0 w1
  refine (halberdlaw1_WireBack.calls k _ _ l0 a1 true w (Kd.C_of_reads (d := (0 : Int)) (h1 := fun _ => rfl) hr0) hc0 h ⟨rfl⟩).mono ?_
  rintro e w' ⟨rfl, hd⟩
  exact ⟨rfl, hd⟩

end Go.Proofs.Ytggnmnpmhknjgaa.X
