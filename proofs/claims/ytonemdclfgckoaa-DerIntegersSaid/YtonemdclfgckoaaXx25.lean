-- Written by a program of this session (wip/tools/xprint.py), over the kit's printer.
import Derived.Test.YtonemdclfgckoaaXx0
import Derived.Test.YtonemdclfgckoaaXx4
import Derived.Test.YtonemdclfgckoaaXx16
import Derived.Test.YtonemdclfgckoaaXx18
import Derived.Test.YtonemdclfgckoaaXx20
namespace Go.Proofs.Ytonemdclfgckoaa.X
open Go.RowKit Go.Proofs.YtonemdclfgckoaaW.PrintWords Go.Proofs.YtonemdclfgckoaaW.PrintLast Go.Proofs.YtonemdclfgckoaaW.PrintMore
attribute [local go_sem] max2_int min2_int max_two min_two max_three min_three max_four min_four   -- for this text's walks alone
set_option linter.unusedVariables false
set_option linter.unusedSimpArgs false

/-! ### halberdlaw13_DerIntegers: function 7 -/
mutual
def halberdlaw13_DerIntegers.j0 : Nat → Int → ByteArray → Option (Bool)
 | 0, _, _ => none
 | k + 1, x1, x5 => (der_Integer.f k x5).bind fun bt454 => (if 0 ≤ (Go.bits .and .i64 x1 15) then (if (Go.bits .and .i64 x1 15 : Int).toNat ≤ 281474976710656 then ((some (List.replicate (Go.bits .and .i64 x1 15 : Int).toNat 0 : List Int)).bind fun y456 => (if (strOfNums y456).size + x5.size ≤ 9223372036854775807 then ((der_Integer.f k ((strOfNums y456) ++ x5)).bind fun bt460 => (if 0 ≤ (wrap64 (65 + (Go.bits .and .i64 x1 15))) then (if (wrap64 (65 + (Go.bits .and .i64 x1 15)) : Int).toNat ≤ 281474976710656 then ((der_Integer.f k (strOfNums (List.replicate (wrap64 (65 + (Go.bits .and .i64 x1 15)) : Int).toNat 0))).bind fun bt465 => ((der_Get.f k bt454.1 0).bind fun bt467 => ((halberdlaw0_Num.f bt454.2).bind fun t472 => (if t472 = 0 then ((halberdlaw0_Num.f bt460.2).bind fun t473 => (if t473 = 0 then (if bt454.1.toList = bt460.1.toList then ((halberdlaw0_Num.f bt465.2).bind fun t474 => (if t474 = 1300 then ((halberdlaw0_Num.f bt467.2.2.2).bind fun t475 => (if t475 = 0 then (if bt467.2.2.1 = (bt454.1.size : Int) then (if bt467.1 = 2 then (halberdlaw13_DerIntegers.j1 k x5 (bt467.2.1.toList == ([] : List UInt8)) bt467.1 bt467.2.1) else (halberdlaw13_DerIntegers.j1 k x5 true bt467.1 bt467.2.1)) else (halberdlaw13_DerIntegers.j1 k x5 true bt467.1 bt467.2.1)) else (halberdlaw13_DerIntegers.j1 k x5 true bt467.1 bt467.2.1))) else (halberdlaw13_DerIntegers.j1 k x5 true bt467.1 bt467.2.1))) else (halberdlaw13_DerIntegers.j1 k x5 true bt467.1 bt467.2.1)) else (halberdlaw13_DerIntegers.j1 k x5 true bt467.1 bt467.2.1))) else (halberdlaw13_DerIntegers.j1 k x5 true bt467.1 bt467.2.1))))) else (none)) else (none))) else (none))) else (none)) else (none))
def halberdlaw13_DerIntegers.j1 : Nat → ByteArray → Bool → Int → ByteArray → Option (Bool)
 | 0, _, _, _, _ => none
 | k + 1, x5, x92, x472000, x472001 => if x92 = true then (some false) else (halberdlaw13_DerIntegers.l0 k x5 x472001 x472000 x472001)
def halberdlaw13_DerIntegers.j3 : Nat → ByteArray → ByteArray → Int → ByteArray → Option (Bool)
 | 0, _, _, _, _ => none
 | k + 1, x5, x15, x472000, x472001 => halberdlaw13_DerIntegers.l1 k x5 x15 x472000 x472001
def halberdlaw13_DerIntegers.l1 : Nat → ByteArray → ByteArray → Int → ByteArray → Option (Bool)
 | 0, _, _, _, _ => none
 | k + 1, x5, x15, x472000, x472001 => if (x5.size : Int) > 0 then (if (bt x5 0) = 0 then (if 1 ≤ (x5.size : Int) then (halberdlaw13_DerIntegers.l1 k (x5.extract 1 x5.size) x15 x472000 x472001) else (none)) else (if x15.toList = x5.toList then (if 0 < (x472001.size : Int) then (if (bt x472001 0) < 128 then (if (x472001.size : Int) = 1 then (some true) else (if (bt x472001 0) = 0 then (if 1 < (x472001.size : Int) then (some (decide ((bt x472001 1) > 127))) else (none)) else (some true))) else (some false)) else (none)) else (some false))) else (if x15.toList = x5.toList then (if 0 < (x472001.size : Int) then (if (bt x472001 0) < 128 then (if (x472001.size : Int) = 1 then (some true) else (if (bt x472001 0) = 0 then (if 1 < (x472001.size : Int) then (some (decide ((bt x472001 1) > 127))) else (none)) else (some true))) else (some false)) else (none)) else (some false))
def halberdlaw13_DerIntegers.l0 : Nat → ByteArray → ByteArray → Int → ByteArray → Option (Bool)
 | 0, _, _, _, _ => none
 | k + 1, x5, x15, x472000, x472001 => if (x15.size : Int) > 0 then (if (bt x15 0) = 0 then (if 1 ≤ (x15.size : Int) then (halberdlaw13_DerIntegers.l0 k x5 (x15.extract 1 x15.size) x472000 x472001) else (none)) else (halberdlaw13_DerIntegers.j3 k x5 x15 x472000 x472001)) else (halberdlaw13_DerIntegers.j3 k x5 x15 x472000 x472001)
end
def halberdlaw13_DerIntegers.f (k : Nat) (a0 : ByteArray) (a1 : Int) : Option (Bool) := (halberdlaw13_awake.f).bind fun t453 => (if t453 = true then (if (a0.size : Int) > 40 then (if 0 ≤ 40 then (if 40 ≤ (a0.size : Int) then (halberdlaw13_DerIntegers.j0 k a1 (a0.extract 0 40)) else (none)) else (none)) else (halberdlaw13_DerIntegers.j0 k a1 a0)) else (some false))
theorem halberdlaw13_DerIntegers.mono_l : ∀ k, (∀ y0 y1, LeO (halberdlaw13_DerIntegers.j0 k y0 y1) (halberdlaw13_DerIntegers.j0 (k + 1) y0 y1)) ∧ (∀ y0 y1 y2 y3, LeO (halberdlaw13_DerIntegers.j1 k y0 y1 y2 y3) (halberdlaw13_DerIntegers.j1 (k + 1) y0 y1 y2 y3)) ∧ (∀ y0 y1 y2 y3, LeO (halberdlaw13_DerIntegers.j3 k y0 y1 y2 y3) (halberdlaw13_DerIntegers.j3 (k + 1) y0 y1 y2 y3)) ∧ (∀ y0 y1 y2 y3, LeO (halberdlaw13_DerIntegers.l1 k y0 y1 y2 y3) (halberdlaw13_DerIntegers.l1 (k + 1) y0 y1 y2 y3)) ∧ (∀ y0 y1 y2 y3, LeO (halberdlaw13_DerIntegers.l0 k y0 y1 y2 y3) (halberdlaw13_DerIntegers.l0 (k + 1) y0 y1 y2 y3))
 | 0 => ⟨fun _ _ r h => by simp [halberdlaw13_DerIntegers.j0] at h, fun _ _ _ _ r h => by simp [halberdlaw13_DerIntegers.j1] at h, fun _ _ _ _ r h => by simp [halberdlaw13_DerIntegers.j3] at h, fun _ _ _ _ r h => by simp [halberdlaw13_DerIntegers.l1] at h, fun _ _ _ _ r h => by simp [halberdlaw13_DerIntegers.l0] at h⟩
 | k + 1 => by
  obtain ⟨ih0, ih1, ih2, ih3, ih4⟩ := halberdlaw13_DerIntegers.mono_l k
  refine ⟨?_, ?_, ?_, ?_, ?_⟩
  ·intro y0 y1
   unfold halberdlaw13_DerIntegers.j0
   repeat' first
   | (with_reducible exact ih0 _ _)
   | (with_reducible exact ih1 _ _ _ _)
   | (with_reducible exact ih2 _ _ _ _)
   | (with_reducible exact ih3 _ _ _ _)
   | (with_reducible exact ih4 _ _ _ _)
   | (with_reducible exact der_Get.mono _ _ _)
   | (with_reducible exact der_Integer.mono _ _)
   | (with_reducible exact LeO.refl _)
   | (with_reducible exact LeO.none _)
   | (with_reducible refine LeO.ite ?_ ?_)
   | (with_reducible refine LeO.bind ?_ (fun _ => ?_))
   | exact ih0 _ _
   | exact ih1 _ _ _ _
   | exact ih2 _ _ _ _
   | exact ih3 _ _ _ _
   | exact ih4 _ _ _ _
   | exact der_Get.mono _ _ _
   | exact der_Integer.mono _ _
   | exact LeO.none _
   | refine LeO.ite ?_ ?_
   | refine LeO.bind ?_ (fun _ => ?_)
  ·intro y0 y1 y2 y3
   unfold halberdlaw13_DerIntegers.j1
   repeat' first
   | (with_reducible exact ih0 _ _)
   | (with_reducible exact ih1 _ _ _ _)
   | (with_reducible exact ih2 _ _ _ _)
   | (with_reducible exact ih3 _ _ _ _)
   | (with_reducible exact ih4 _ _ _ _)
   | (with_reducible exact der_Get.mono _ _ _)
   | (with_reducible exact der_Integer.mono _ _)
   | (with_reducible exact LeO.refl _)
   | (with_reducible exact LeO.none _)
   | (with_reducible refine LeO.ite ?_ ?_)
   | (with_reducible refine LeO.bind ?_ (fun _ => ?_))
   | exact ih0 _ _
   | exact ih1 _ _ _ _
   | exact ih2 _ _ _ _
   | exact ih3 _ _ _ _
   | exact ih4 _ _ _ _
   | exact der_Get.mono _ _ _
   | exact der_Integer.mono _ _
   | exact LeO.none _
   | refine LeO.ite ?_ ?_
   | refine LeO.bind ?_ (fun _ => ?_)
  ·intro y0 y1 y2 y3
   unfold halberdlaw13_DerIntegers.j3
   repeat' first
   | (with_reducible exact ih0 _ _)
   | (with_reducible exact ih1 _ _ _ _)
   | (with_reducible exact ih2 _ _ _ _)
   | (with_reducible exact ih3 _ _ _ _)
   | (with_reducible exact ih4 _ _ _ _)
   | (with_reducible exact der_Get.mono _ _ _)
   | (with_reducible exact der_Integer.mono _ _)
   | (with_reducible exact LeO.refl _)
   | (with_reducible exact LeO.none _)
   | (with_reducible refine LeO.ite ?_ ?_)
   | (with_reducible refine LeO.bind ?_ (fun _ => ?_))
   | exact ih0 _ _
   | exact ih1 _ _ _ _
   | exact ih2 _ _ _ _
   | exact ih3 _ _ _ _
   | exact ih4 _ _ _ _
   | exact der_Get.mono _ _ _
   | exact der_Integer.mono _ _
   | exact LeO.none _
   | refine LeO.ite ?_ ?_
   | refine LeO.bind ?_ (fun _ => ?_)
  ·intro y0 y1 y2 y3
   unfold halberdlaw13_DerIntegers.l1
   repeat' first
   | (with_reducible exact ih0 _ _)
   | (with_reducible exact ih1 _ _ _ _)
   | (with_reducible exact ih2 _ _ _ _)
   | (with_reducible exact ih3 _ _ _ _)
   | (with_reducible exact ih4 _ _ _ _)
   | (with_reducible exact der_Get.mono _ _ _)
   | (with_reducible exact der_Integer.mono _ _)
   | (with_reducible exact LeO.refl _)
   | (with_reducible exact LeO.none _)
   | (with_reducible refine LeO.ite ?_ ?_)
   | (with_reducible refine LeO.bind ?_ (fun _ => ?_))
   | exact ih0 _ _
   | exact ih1 _ _ _ _
   | exact ih2 _ _ _ _
   | exact ih3 _ _ _ _
   | exact ih4 _ _ _ _
   | exact der_Get.mono _ _ _
   | exact der_Integer.mono _ _
   | exact LeO.none _
   | refine LeO.ite ?_ ?_
   | refine LeO.bind ?_ (fun _ => ?_)
  ·intro y0 y1 y2 y3
   unfold halberdlaw13_DerIntegers.l0
   repeat' first
   | (with_reducible exact ih0 _ _)
   | (with_reducible exact ih1 _ _ _ _)
   | (with_reducible exact ih2 _ _ _ _)
   | (with_reducible exact ih3 _ _ _ _)
   | (with_reducible exact ih4 _ _ _ _)
   | (with_reducible exact der_Get.mono _ _ _)
   | (with_reducible exact der_Integer.mono _ _)
   | (with_reducible exact LeO.refl _)
   | (with_reducible exact LeO.none _)
   | (with_reducible refine LeO.ite ?_ ?_)
   | (with_reducible refine LeO.bind ?_ (fun _ => ?_))
   | exact ih0 _ _
   | exact ih1 _ _ _ _
   | exact ih2 _ _ _ _
   | exact ih3 _ _ _ _
   | exact ih4 _ _ _ _
   | exact der_Get.mono _ _ _
   | exact der_Integer.mono _ _
   | exact LeO.none _
   | refine LeO.ite ?_ ?_
   | refine LeO.bind ?_ (fun _ => ?_)
theorem halberdlaw13_DerIntegers.mono : ∀ a0 a1 k, LeO (halberdlaw13_DerIntegers.f k a0 a1) (halberdlaw13_DerIntegers.f (k + 1) a0 a1) := by
 intro a0 a1 k
 obtain ⟨ih0, ih1, ih2, ih3, ih4⟩ := halberdlaw13_DerIntegers.mono_l k
 unfold halberdlaw13_DerIntegers.f
 repeat' first
   | (with_reducible exact ih0 _ _)
   | (with_reducible exact ih1 _ _ _ _)
   | (with_reducible exact ih2 _ _ _ _)
   | (with_reducible exact ih3 _ _ _ _)
   | (with_reducible exact ih4 _ _ _ _)
   | (with_reducible exact der_Get.mono _ _ _)
   | (with_reducible exact der_Integer.mono _ _)
   | (with_reducible exact LeO.refl _)
   | (with_reducible exact LeO.none _)
   | (with_reducible refine LeO.ite ?_ ?_)
   | (with_reducible refine LeO.bind ?_ (fun _ => ?_))
   | exact ih0 _ _
   | exact ih1 _ _ _ _
   | exact ih2 _ _ _ _
   | exact ih3 _ _ _ _
   | exact ih4 _ _ _ _
   | exact der_Get.mono _ _ _
   | exact der_Integer.mono _ _
   | exact LeO.none _
   | refine LeO.ite ?_ ?_
   | refine LeO.bind ?_ (fun _ => ?_)
set_option maxHeartbeats 8000000 in
set_option maxRecDepth 100000 in
theorem halberdlaw13_DerIntegers.calls (k : Nat) (a0 : ByteArray) (a1 : Int) (r : Bool) (w : World) (h : halberdlaw13_DerIntegers.f k a0 a1 = some r) (hr : Aside0 (r = true)) :
  Calls Try.prog 7 #[.string a0, .int .i64 a1] w fun e w' => e = .returned (.bool r) ∧ Below w.heap.size w w' := by
 have hu40 := Try.underlying40
 have HB := Aside0.mk (Below.refl w.heap.size w)
 have H : ((halberdlaw13_awake.f).bind fun t453 => (if t453 = true then (if (a0.size : Int) > 40 then (if 0 ≤ 40 then (if 40 ≤ (a0.size : Int) then (halberdlaw13_DerIntegers.j0 k a1 (a0.extract 0 40)) else (none)) else (none)) else (halberdlaw13_DerIntegers.j0 k a1 a0)) else (some false))) = some r := h
 clear h
 replace H := Option.bind_eq_some_iff.mp H
 obtain ⟨t453, A30, H⟩ := H
 replace H : (if t453 = true then (if (a0.size : Int) > 40 then (if 0 ≤ 40 then (if 40 ≤ (a0.size : Int) then (halberdlaw13_DerIntegers.j0 k a1 (a0.extract 0 40)) else (none)) else (none)) else (halberdlaw13_DerIntegers.j0 k a1 a0)) else (some false)) = some r := H
 have A3 := Aside0.mk A30
 clear A30
 by_cases c4 : t453 = true
 ·subst c4
  have H1 : (if (a0.size : Int) > 40 then (if 0 ≤ 40 then (if 40 ≤ (a0.size : Int) then (halberdlaw13_DerIntegers.j0 k a1 (a0.extract 0 40)) else (none)) else (none)) else (halberdlaw13_DerIntegers.j0 k a1 a0)) = some r := by rw [if_pos rfl] at H; exact H
  clear H
  have H := H1
  clear H1
  have HC5 := Aside0.mk H
  clear H
  go_enter Try.func7, Try.ntmps7
  go_upto_if 21 with (first | ((with_reducible refine gate_callee (f := 17) rfl ?_); refine goesL_ (some 16) rfl rfl Try.func17 (by kernel_rfl) rfl #[] rfl (by (try simp only [List.map_toArray, List.map_cons, List.map_nil]); first | done | rfl | (simp only [List.length_drop, List.length_take]; rfl)) ?_; (with_reducible refine (halberdlaw13_awake.calls  true _ A3.out).mono ?_); rintro e w6 ⟨rfl, hb⟩; refine ⟨_, rfl, ?_⟩; have n0_ := Aside0.mk (below_step (by repeat (first | (with_reducible first | exact HB.out | apply below_alloc | apply pw_below_drewN | apply below_drew1) | exact HB.out)) hb); clear HB; have HB := n0_; clear n0_; (try clear hb); (try clear hb2); (try clear hk); (try clear hi)))
  (try simp only [Act.put, List.setIfInBounds_toArray, List.set_cons_zero, List.set_cons_succ])
  go_cut [5] (fun v5 wc => ∃ (kq : Nat) (x5_4 : ByteArray), v5 = .string x5_4 ∧ Aside0 (halberdlaw13_DerIntegers.j0 kq a1 x5_4 = some r) ∧ Aside0 (kq ≤ k) ∧ Aside0 (Below w.heap.size w wc))
  case first =>
   have H := HC5.out
   clear HC5
   by_cases c7 : (a0.size : Int) > 40
   ·rw [if_pos c7] at H
    have c7b0 : decide (40 < (a0.size : Int)) = true := decide_eq_true c7
    have c7b1 : decide (40 < a0.size) = true := decide_eq_true (by omega)
    clear c7
    (first | rw [c7b0] | (simp only [i64_w, i32_w]; rw [c7b0]) | skip)
    by_cases c8 : 0 ≤ 40
    ·rw [if_pos c8] at H
     have c8b0 := eq_true c8
     have c8b1 : decide (0 ≤ 40) = true := decide_eq_true c8
     clear c8
     by_cases c9 : 40 ≤ (a0.size : Int)
     ·rw [if_pos c9] at H
      have c9b0 := eq_true c9
      have c9b1 : decide (40 ≤ (a0.size : Int)) = true := decide_eq_true c9
      clear c9
      have H' := Aside0.mk H
      clear H
      go_wp2
      go_meet
      case rel => exact ⟨_, (a0.extract 0 40), (by first | rfl | (simp; done) | (simp [*]; done)), H', ⟨by first | omega | exact Nat.le_refl _⟩, ⟨by repeat (first | (with_reducible first | exact HB.out | apply below_alloc | apply pw_below_drewN | apply below_drew1) | exact HB.out)⟩⟩
     ·rw [if_neg c9] at H
      exact absurd H (by simp)
    ·rw [if_neg c8] at H
     exact absurd H (by simp)
   ·rw [if_neg c7] at H
    have c7b0 : decide (40 < (a0.size : Int)) = false := decide_eq_false c7
    have c7b1 : decide (40 < a0.size) = false := decide_eq_false (by omega)
    clear c7
    (first | rw [c7b0] | (simp only [i64_w, i32_w]; rw [c7b0]) | skip)
    have H' := Aside0.mk H
    clear H
    go_wp2
    go_meet
    case rel => exact ⟨_, (a0), (by first | rfl | (simp; done) | (simp [*]; done)), H', ⟨by first | omega | exact Nat.le_refl _⟩, ⟨by repeat (first | (with_reducible first | exact HB.out | apply below_alloc | apply pw_below_drewN | apply below_drew1) | exact HB.out)⟩⟩
  case rest =>
   clear HC5
   try clear c1
   try clear p2
   try clear c4
   try clear c7
   try clear c7b0
   try clear c7b1
   try clear c8
   try clear c8b0
   try clear c8b1
   try clear c9
   try clear c9b0
   try clear c9b1
   obtain ⟨kq, x5_4, rfl, HA, HJ4, HB⟩ := hcut
   cases kq with
   | zero => exact absurd HA.out (by simp [halberdlaw13_DerIntegers.j0])
   | succ kj4 =>
    have H := HA.out
    clear HA
    simp only [halberdlaw13_DerIntegers.j0] at H
    replace H := Option.bind_eq_some_iff.mp H
    obtain ⟨⟨t454, t455⟩, A100, H⟩ := H
    replace H : (if 0 ≤ (Go.bits .and .i64 a1 15) then (if (Go.bits .and .i64 a1 15 : Int).toNat ≤ 281474976710656 then ((some (List.replicate (Go.bits .and .i64 a1 15 : Int).toNat 0 : List Int)).bind fun y456 => (if (strOfNums y456).size + x5_4.size ≤ 9223372036854775807 then ((der_Integer.f kj4 ((strOfNums y456) ++ x5_4)).bind fun bt460 => (if 0 ≤ (wrap64 (65 + (Go.bits .and .i64 a1 15))) then (if (wrap64 (65 + (Go.bits .and .i64 a1 15)) : Int).toNat ≤ 281474976710656 then ((der_Integer.f kj4 (strOfNums (List.replicate (wrap64 (65 + (Go.bits .and .i64 a1 15)) : Int).toNat 0))).bind fun bt465 => ((der_Get.f kj4 t454 0).bind fun bt467 => ((halberdlaw0_Num.f t455).bind fun t472 => (if t472 = 0 then ((halberdlaw0_Num.f bt460.2).bind fun t473 => (if t473 = 0 then (if t454.toList = bt460.1.toList then ((halberdlaw0_Num.f bt465.2).bind fun t474 => (if t474 = 1300 then ((halberdlaw0_Num.f bt467.2.2.2).bind fun t475 => (if t475 = 0 then (if bt467.2.2.1 = (t454.size : Int) then (if bt467.1 = 2 then (halberdlaw13_DerIntegers.j1 kj4 x5_4 (bt467.2.1.toList == ([] : List UInt8)) bt467.1 bt467.2.1) else (halberdlaw13_DerIntegers.j1 kj4 x5_4 true bt467.1 bt467.2.1)) else (halberdlaw13_DerIntegers.j1 kj4 x5_4 true bt467.1 bt467.2.1)) else (halberdlaw13_DerIntegers.j1 kj4 x5_4 true bt467.1 bt467.2.1))) else (halberdlaw13_DerIntegers.j1 kj4 x5_4 true bt467.1 bt467.2.1))) else (halberdlaw13_DerIntegers.j1 kj4 x5_4 true bt467.1 bt467.2.1)) else (halberdlaw13_DerIntegers.j1 kj4 x5_4 true bt467.1 bt467.2.1))) else (halberdlaw13_DerIntegers.j1 kj4 x5_4 true bt467.1 bt467.2.1))))) else (none)) else (none))) else (none))) else (none)) else (none)) = some r := H
    have A10 := Aside0.mk A100
    clear A100
    by_cases c11 : 0 ≤ (Go.bits .and .i64 a1 15)
    ·rw [if_pos c11] at H
     have c11b0 := eq_true c11
     have c11b1 : decide (0 ≤ (Go.bits .and .i64 a1 15)) = true := decide_eq_true c11
     clear c11
     by_cases c12 : (Go.bits .and .i64 a1 15 : Int).toNat ≤ 281474976710656
     ·rw [if_pos c12] at H
      have c12b0 := eq_true c12
      have c12b1 : decide ((Go.bits .and .i64 a1 15 : Int).toNat ≤ 281474976710656) = true := decide_eq_true c12
      clear c12
      obtain ⟨y456, hy456⟩ : ∃ y_ : List Int, y_ = (List.replicate (Go.bits .and .i64 a1 15 : Int).toNat 0) := ⟨_, rfl⟩
      replace H : (if (strOfNums y456).size + x5_4.size ≤ 9223372036854775807 then ((der_Integer.f kj4 ((strOfNums y456) ++ x5_4)).bind fun bt460 => (if 0 ≤ (wrap64 (65 + (Go.bits .and .i64 a1 15))) then (if (wrap64 (65 + (Go.bits .and .i64 a1 15)) : Int).toNat ≤ 281474976710656 then ((der_Integer.f kj4 (strOfNums (List.replicate (wrap64 (65 + (Go.bits .and .i64 a1 15)) : Int).toNat 0))).bind fun bt465 => ((der_Get.f kj4 t454 0).bind fun bt467 => ((halberdlaw0_Num.f t455).bind fun t472 => (if t472 = 0 then ((halberdlaw0_Num.f bt460.2).bind fun t473 => (if t473 = 0 then (if t454.toList = bt460.1.toList then ((halberdlaw0_Num.f bt465.2).bind fun t474 => (if t474 = 1300 then ((halberdlaw0_Num.f bt467.2.2.2).bind fun t475 => (if t475 = 0 then (if bt467.2.2.1 = (t454.size : Int) then (if bt467.1 = 2 then (halberdlaw13_DerIntegers.j1 kj4 x5_4 (bt467.2.1.toList == ([] : List UInt8)) bt467.1 bt467.2.1) else (halberdlaw13_DerIntegers.j1 kj4 x5_4 true bt467.1 bt467.2.1)) else (halberdlaw13_DerIntegers.j1 kj4 x5_4 true bt467.1 bt467.2.1)) else (halberdlaw13_DerIntegers.j1 kj4 x5_4 true bt467.1 bt467.2.1))) else (halberdlaw13_DerIntegers.j1 kj4 x5_4 true bt467.1 bt467.2.1))) else (halberdlaw13_DerIntegers.j1 kj4 x5_4 true bt467.1 bt467.2.1)) else (halberdlaw13_DerIntegers.j1 kj4 x5_4 true bt467.1 bt467.2.1))) else (halberdlaw13_DerIntegers.j1 kj4 x5_4 true bt467.1 bt467.2.1))))) else (none)) else (none))) else (none)) = some r := by first | (rw [hy456]; with_reducible exact H) | (have H2_ := (Option.bind_some _ _).symm.trans H; rw [hy456]; with_reducible exact H2_) | (have H2_ := (Option.bind_some _ _).symm.trans H; with_reducible exact H2_) | with_reducible exact H | (rw [hy456]; exact H) | exact H
      have Ny456 := Aside0.mk hy456
      clear hy456
      by_cases c13 : (strOfNums y456).size + x5_4.size ≤ 9223372036854775807
      ·rw [if_pos c13] at H
       have c13b0 := eq_true c13
       have c13b1 : decide ((strOfNums y456).size + x5_4.size ≤ 9223372036854775807) = true := decide_eq_true c13
       try have c13b2 : (9223372036854775807 < (strOfNums y456).size + x5_4.size) = False := eq_false (Nat.not_lt.2 c13)
       obtain ⟨ys459, hys459⟩ : ∃ y_ : ByteArray, y_ = ((strOfNums y456) ++ x5_4) := ⟨_, rfl⟩
       replace H : ((der_Integer.f kj4 ys459).bind fun bt460 => (if 0 ≤ (wrap64 (65 + (Go.bits .and .i64 a1 15))) then (if (wrap64 (65 + (Go.bits .and .i64 a1 15)) : Int).toNat ≤ 281474976710656 then ((der_Integer.f kj4 (strOfNums (List.replicate (wrap64 (65 + (Go.bits .and .i64 a1 15)) : Int).toNat 0))).bind fun bt465 => ((der_Get.f kj4 t454 0).bind fun bt467 => ((halberdlaw0_Num.f t455).bind fun t472 => (if t472 = 0 then ((halberdlaw0_Num.f bt460.2).bind fun t473 => (if t473 = 0 then (if t454.toList = bt460.1.toList then ((halberdlaw0_Num.f bt465.2).bind fun t474 => (if t474 = 1300 then ((halberdlaw0_Num.f bt467.2.2.2).bind fun t475 => (if t475 = 0 then (if bt467.2.2.1 = (t454.size : Int) then (if bt467.1 = 2 then (halberdlaw13_DerIntegers.j1 kj4 x5_4 (bt467.2.1.toList == ([] : List UInt8)) bt467.1 bt467.2.1) else (halberdlaw13_DerIntegers.j1 kj4 x5_4 true bt467.1 bt467.2.1)) else (halberdlaw13_DerIntegers.j1 kj4 x5_4 true bt467.1 bt467.2.1)) else (halberdlaw13_DerIntegers.j1 kj4 x5_4 true bt467.1 bt467.2.1))) else (halberdlaw13_DerIntegers.j1 kj4 x5_4 true bt467.1 bt467.2.1))) else (halberdlaw13_DerIntegers.j1 kj4 x5_4 true bt467.1 bt467.2.1)) else (halberdlaw13_DerIntegers.j1 kj4 x5_4 true bt467.1 bt467.2.1))) else (halberdlaw13_DerIntegers.j1 kj4 x5_4 true bt467.1 bt467.2.1))))) else (none)) else (none))) = some r := by first | (rw [hys459]; with_reducible exact H) | (have H2_ := (Option.bind_some _ _).symm.trans H; rw [hys459]; with_reducible exact H2_) | (have H2_ := (Option.bind_some _ _).symm.trans H; with_reducible exact H2_) | with_reducible exact H | (rw [hys459]; exact H) | exact H
       have Nys459 := Aside0.mk hys459
       clear hys459
       have Sys459 := Nys459.out.symm
       replace H := Option.bind_eq_some_iff.mp H
       obtain ⟨⟨t460, t461⟩, A140, H⟩ := H
       replace H : (if 0 ≤ (wrap64 (65 + (Go.bits .and .i64 a1 15))) then (if (wrap64 (65 + (Go.bits .and .i64 a1 15)) : Int).toNat ≤ 281474976710656 then ((der_Integer.f kj4 (strOfNums (List.replicate (wrap64 (65 + (Go.bits .and .i64 a1 15)) : Int).toNat 0))).bind fun bt465 => ((der_Get.f kj4 t454 0).bind fun bt467 => ((halberdlaw0_Num.f t455).bind fun t472 => (if t472 = 0 then ((halberdlaw0_Num.f t461).bind fun t473 => (if t473 = 0 then (if t454.toList = t460.toList then ((halberdlaw0_Num.f bt465.2).bind fun t474 => (if t474 = 1300 then ((halberdlaw0_Num.f bt467.2.2.2).bind fun t475 => (if t475 = 0 then (if bt467.2.2.1 = (t454.size : Int) then (if bt467.1 = 2 then (halberdlaw13_DerIntegers.j1 kj4 x5_4 (bt467.2.1.toList == ([] : List UInt8)) bt467.1 bt467.2.1) else (halberdlaw13_DerIntegers.j1 kj4 x5_4 true bt467.1 bt467.2.1)) else (halberdlaw13_DerIntegers.j1 kj4 x5_4 true bt467.1 bt467.2.1)) else (halberdlaw13_DerIntegers.j1 kj4 x5_4 true bt467.1 bt467.2.1))) else (halberdlaw13_DerIntegers.j1 kj4 x5_4 true bt467.1 bt467.2.1))) else (halberdlaw13_DerIntegers.j1 kj4 x5_4 true bt467.1 bt467.2.1)) else (halberdlaw13_DerIntegers.j1 kj4 x5_4 true bt467.1 bt467.2.1))) else (halberdlaw13_DerIntegers.j1 kj4 x5_4 true bt467.1 bt467.2.1))))) else (none)) else (none)) = some r := H
       have A14 := Aside0.mk A140
       clear A140
       obtain ⟨ji15, hji15⟩ : ∃ j_ : Int, (wrap64 (65 + (Go.bits .and .i64 a1 15))) = j_ := ⟨_, rfl⟩
       replace H : (if 0 ≤ (ji15) then (if (ji15 : Int).toNat ≤ 281474976710656 then ((der_Integer.f kj4 (strOfNums (List.replicate (ji15 : Int).toNat 0))).bind fun bt465 => ((der_Get.f kj4 t454 0).bind fun bt467 => ((halberdlaw0_Num.f t455).bind fun t472 => (if t472 = 0 then ((halberdlaw0_Num.f t461).bind fun t473 => (if t473 = 0 then (if t454.toList = t460.toList then ((halberdlaw0_Num.f bt465.2).bind fun t474 => (if t474 = 1300 then ((halberdlaw0_Num.f bt467.2.2.2).bind fun t475 => (if t475 = 0 then (if bt467.2.2.1 = (t454.size : Int) then (if bt467.1 = 2 then (halberdlaw13_DerIntegers.j1 kj4 x5_4 (bt467.2.1.toList == ([] : List UInt8)) bt467.1 bt467.2.1) else (halberdlaw13_DerIntegers.j1 kj4 x5_4 true bt467.1 bt467.2.1)) else (halberdlaw13_DerIntegers.j1 kj4 x5_4 true bt467.1 bt467.2.1)) else (halberdlaw13_DerIntegers.j1 kj4 x5_4 true bt467.1 bt467.2.1))) else (halberdlaw13_DerIntegers.j1 kj4 x5_4 true bt467.1 bt467.2.1))) else (halberdlaw13_DerIntegers.j1 kj4 x5_4 true bt467.1 bt467.2.1)) else (halberdlaw13_DerIntegers.j1 kj4 x5_4 true bt467.1 bt467.2.1))) else (halberdlaw13_DerIntegers.j1 kj4 x5_4 true bt467.1 bt467.2.1))))) else (none)) else (none)) = some r := by first | (rw [hji15] at H; exact H) | (simp only [hji15] at H ⊢; exact H)
       (try rw [hji15] at A10)
       (try rw [hji15] at A14)
       have hji15w : (IntKind.i64.wrap (65 + (Go.bits .and .i64 a1 15))) = ji15 := (i64_w _).trans hji15
       by_cases c16 : 0 ≤ (ji15)
       ·rw [if_pos c16] at H
        have c16b0 := eq_true c16
        have c16b1 : decide (0 ≤ (ji15)) = true := decide_eq_true c16
        clear c16
        by_cases c17 : (ji15 : Int).toNat ≤ 281474976710656
        ·rw [if_pos c17] at H
         have c17b0 := eq_true c17
         have c17b1 : decide ((ji15 : Int).toNat ≤ 281474976710656) = true := decide_eq_true c17
         clear c17
         obtain ⟨y462, hy462⟩ : ∃ y_ : List Int, y_ = (List.replicate (ji15 : Int).toNat 0) := ⟨_, rfl⟩
         replace H : ((der_Integer.f kj4 (strOfNums y462)).bind fun bt465 => ((der_Get.f kj4 t454 0).bind fun bt467 => ((halberdlaw0_Num.f t455).bind fun t472 => (if t472 = 0 then ((halberdlaw0_Num.f t461).bind fun t473 => (if t473 = 0 then (if t454.toList = t460.toList then ((halberdlaw0_Num.f bt465.2).bind fun t474 => (if t474 = 1300 then ((halberdlaw0_Num.f bt467.2.2.2).bind fun t475 => (if t475 = 0 then (if bt467.2.2.1 = (t454.size : Int) then (if bt467.1 = 2 then (halberdlaw13_DerIntegers.j1 kj4 x5_4 (bt467.2.1.toList == ([] : List UInt8)) bt467.1 bt467.2.1) else (halberdlaw13_DerIntegers.j1 kj4 x5_4 true bt467.1 bt467.2.1)) else (halberdlaw13_DerIntegers.j1 kj4 x5_4 true bt467.1 bt467.2.1)) else (halberdlaw13_DerIntegers.j1 kj4 x5_4 true bt467.1 bt467.2.1))) else (halberdlaw13_DerIntegers.j1 kj4 x5_4 true bt467.1 bt467.2.1))) else (halberdlaw13_DerIntegers.j1 kj4 x5_4 true bt467.1 bt467.2.1)) else (halberdlaw13_DerIntegers.j1 kj4 x5_4 true bt467.1 bt467.2.1))) else (halberdlaw13_DerIntegers.j1 kj4 x5_4 true bt467.1 bt467.2.1))))) = some r := by first | (rw [hy462]; with_reducible exact H) | (have H2_ := (Option.bind_some _ _).symm.trans H; rw [hy462]; with_reducible exact H2_) | (have H2_ := (Option.bind_some _ _).symm.trans H; with_reducible exact H2_) | with_reducible exact H | (rw [hy462]; exact H) | exact H
         have Ny462 := Aside0.mk hy462
         clear hy462
         replace H := Option.bind_eq_some_iff.mp H
         obtain ⟨⟨t465, t466⟩, A180, H⟩ := H
         replace H : ((der_Get.f kj4 t454 0).bind fun bt467 => ((halberdlaw0_Num.f t455).bind fun t472 => (if t472 = 0 then ((halberdlaw0_Num.f t461).bind fun t473 => (if t473 = 0 then (if t454.toList = t460.toList then ((halberdlaw0_Num.f t466).bind fun t474 => (if t474 = 1300 then ((halberdlaw0_Num.f bt467.2.2.2).bind fun t475 => (if t475 = 0 then (if bt467.2.2.1 = (t454.size : Int) then (if bt467.1 = 2 then (halberdlaw13_DerIntegers.j1 kj4 x5_4 (bt467.2.1.toList == ([] : List UInt8)) bt467.1 bt467.2.1) else (halberdlaw13_DerIntegers.j1 kj4 x5_4 true bt467.1 bt467.2.1)) else (halberdlaw13_DerIntegers.j1 kj4 x5_4 true bt467.1 bt467.2.1)) else (halberdlaw13_DerIntegers.j1 kj4 x5_4 true bt467.1 bt467.2.1))) else (halberdlaw13_DerIntegers.j1 kj4 x5_4 true bt467.1 bt467.2.1))) else (halberdlaw13_DerIntegers.j1 kj4 x5_4 true bt467.1 bt467.2.1)) else (halberdlaw13_DerIntegers.j1 kj4 x5_4 true bt467.1 bt467.2.1))) else (halberdlaw13_DerIntegers.j1 kj4 x5_4 true bt467.1 bt467.2.1)))) = some r := H
         have A18 := Aside0.mk A180
         clear A180
         replace H := Option.bind_eq_some_iff.mp H
         obtain ⟨⟨t467, t468, t469, t470⟩, A190, H⟩ := H
         replace H : ((halberdlaw0_Num.f t455).bind fun t472 => (if t472 = 0 then ((halberdlaw0_Num.f t461).bind fun t473 => (if t473 = 0 then (if t454.toList = t460.toList then ((halberdlaw0_Num.f t466).bind fun t474 => (if t474 = 1300 then ((halberdlaw0_Num.f t470).bind fun t475 => (if t475 = 0 then (if t469 = (t454.size : Int) then (if t467 = 2 then (halberdlaw13_DerIntegers.j1 kj4 x5_4 (t468.toList == ([] : List UInt8)) t467 t468) else (halberdlaw13_DerIntegers.j1 kj4 x5_4 true t467 t468)) else (halberdlaw13_DerIntegers.j1 kj4 x5_4 true t467 t468)) else (halberdlaw13_DerIntegers.j1 kj4 x5_4 true t467 t468))) else (halberdlaw13_DerIntegers.j1 kj4 x5_4 true t467 t468))) else (halberdlaw13_DerIntegers.j1 kj4 x5_4 true t467 t468)) else (halberdlaw13_DerIntegers.j1 kj4 x5_4 true t467 t468))) else (halberdlaw13_DerIntegers.j1 kj4 x5_4 true t467 t468))) = some r := H
         have A19 := Aside0.mk A190
         clear A190
         have HC20 := Aside0.mk H
         clear H
         go_upto_region 10 with (first | ((with_reducible refine gate_callee (f := 10) rfl ?_); refine goesL_ (some 26) rfl rfl Try.func10 (by kernel_rfl) rfl #[.string x5_4] rfl (by (try simp only [List.map_toArray, List.map_cons, List.map_nil]); first | done | rfl | (simp only [List.length_drop, List.length_take]; rfl)) ?_; (with_reducible refine (der_Integer.calls kj4 x5_4 t454 t455 _ A10.out).mono ?_); rintro e w21 ⟨rfl, hb⟩; refine ⟨_, rfl, ?_⟩; have n0_ := Aside0.mk (below_step (by repeat (first | (with_reducible first | exact HB.out | apply below_alloc | apply pw_below_drewN | apply below_drew1) | exact HB.out)) hb); clear HB; have HB := n0_; clear n0_; (try clear hb); (try clear hb2); (try clear hk); (try clear hi)) | ((with_reducible refine gate_dst (N := 32) rfl ?_); (try (refine gate_guard (by rfl) ?_; dsimp only)); refine Kd.R_make (Kd.int .u8) _ 5 rfl (N := 32) rfl 38 _ _ rfl (Go.bits .and .i64 a1 15) rfl rfl Try.underlying38 (.int .u8 0) 1 info5 rfl (by decide) (by omega) 0 (ok := fun _ => True) (okp := fun _ => True) rfl (fun _ hk => hk) trivial (of_decide_eq_true (by first | (with_reducible assumption) | assumption)) (Nat.le_trans (Nat.mul_le_mul_right _ (of_decide_eq_true (by first | (with_reducible assumption) | assumption) : (Go.bits .and .i64 a1 15).toNat ≤ 281474976710656)) (by omega)) (Below.refl _ _) (Nat.le_refl _) ?_; intro v457 w22 ho23 hb hg_ hnew_; clear hg_ hnew_; (first | rw [← Ny456.out] at ho23 | (simp only [Int.reduceToNat] at ho23; rw [← Ny456.out] at ho23)); have n0_ := Aside0.mk (Kd.R_lower ho23 (below_size (by repeat (first | (with_reducible first | exact HB.out | apply below_alloc | apply pw_below_drewN | apply below_drew1) | exact HB.out)))); have n1_ := Aside0.mk (below_step (by repeat (first | (with_reducible first | exact HB.out | apply below_alloc | apply pw_below_drewN | apply below_drew1) | exact HB.out)) hb); clear HB; have HO458 := n0_; have HB := n1_; clear n0_ n1_; clear hb ho23; have hcv24 := own_string (P := Try.prog) Try.underlying38 Try.underlying5 Try.underlying9 (Kd.own_of_R HO458.out)) | ((with_reducible refine gate_callee (f := 10) rfl ?_); refine goesL_ (some 36) rfl rfl Try.func10 (by kernel_rfl) rfl #[.string ys459] rfl (by (try simp only [List.map_toArray, List.map_cons, List.map_nil]); first | done | rfl | (simp only [List.length_drop, List.length_take]; rfl)) ?_; (with_reducible refine (der_Integer.calls kj4 ys459 t460 t461 _ A14.out).mono ?_); rintro e w25 ⟨rfl, hb⟩; refine ⟨_, rfl, ?_⟩; have n0_ := Aside0.mk (Kd.R_below (by (with_reducible repeat (first | apply Kd.R_alloc | apply Kd.R_drewN | apply Kd.R_drew)); exact HO458.out) hb); have n1_ := Aside0.mk (below_step (by repeat (first | (with_reducible first | exact HB.out | apply below_alloc | apply pw_below_drewN | apply below_drew1) | exact HB.out)) hb); clear HO458; clear HB; have HO458 := n0_; have HB := n1_; clear n0_ n1_; (try clear hb); (try clear hb2); (try clear hk); (try clear hi)) | ((with_reducible refine gate_dst (N := 43) rfl ?_); (try (refine gate_guard (by rfl) ?_; dsimp only)); refine Kd.R_make (Kd.int .u8) _ 5 rfl (N := 43) rfl 38 _ _ rfl ji15 rfl rfl Try.underlying38 (.int .u8 0) 1 info5 rfl (by decide) (by omega) 0 (ok := fun _ => True) (okp := fun _ => True) rfl (fun _ hk => hk) trivial (of_decide_eq_true (by first | (with_reducible assumption) | assumption)) (Nat.le_trans (Nat.mul_le_mul_right _ (of_decide_eq_true (by first | (with_reducible assumption) | assumption) : ji15.toNat ≤ 281474976710656)) (by omega)) (Below.refl _ _) (Nat.le_refl _) ?_; intro v463 w26 ho27 hb hg_ hnew_; clear hg_ hnew_; (first | rw [← Ny462.out] at ho27 | (simp only [Int.reduceToNat] at ho27; rw [← Ny462.out] at ho27)); have n0_ := Aside0.mk (Kd.R_elder' (by (with_reducible repeat (first | apply Kd.R_alloc | apply Kd.R_drewN | apply Kd.R_drew)); exact HO458.out) (Kd.R_base ho27) hb); have n1_ := Aside0.mk (Kd.R_lower (Kd.R_new' ho27 (Kd.R_lt (by (with_reducible repeat (first | apply Kd.R_alloc | apply Kd.R_drewN | apply Kd.R_drew)); exact HO458.out))) (below_size (by repeat (first | (with_reducible first | exact HB.out | apply below_alloc | apply pw_below_drewN | apply below_drew1) | exact HB.out)))); have n2_ := Aside0.mk (below_step (by repeat (first | (with_reducible first | exact HB.out | apply below_alloc | apply pw_below_drewN | apply below_drew1) | exact HB.out)) hb); clear HO458; clear HB; have HO458 := n0_; have HO464 := n1_; have HB := n2_; clear n0_ n1_ n2_; clear hb ho27; have hcv28 := own_string (P := Try.prog) Try.underlying38 Try.underlying5 Try.underlying9 (Kd.own_of_R HO464.out)) | ((with_reducible refine gate_callee (f := 10) rfl ?_); refine goesL_ (some 45) rfl rfl Try.func10 (by kernel_rfl) rfl #[.string (strOfNums y462)] rfl (by (try simp only [List.map_toArray, List.map_cons, List.map_nil]); first | done | rfl | (simp only [List.length_drop, List.length_take]; rfl)) ?_; (with_reducible refine (der_Integer.calls kj4 (strOfNums y462) t465 t466 _ A18.out).mono ?_); rintro e w29 ⟨rfl, hb⟩; refine ⟨_, rfl, ?_⟩; have n0_ := Aside0.mk (Kd.R_below (by (with_reducible repeat (first | apply Kd.R_alloc | apply Kd.R_drewN | apply Kd.R_drew)); exact HO458.out) hb); have n1_ := Aside0.mk (Kd.R_below (by (with_reducible repeat (first | apply Kd.R_alloc | apply Kd.R_drewN | apply Kd.R_drew)); exact HO464.out) hb); have n2_ := Aside0.mk (below_step (by repeat (first | (with_reducible first | exact HB.out | apply below_alloc | apply pw_below_drewN | apply below_drew1) | exact HB.out)) hb); clear HO458; clear HO464; clear HB; have HO458 := n0_; have HO464 := n1_; have HB := n2_; clear n0_ n1_ n2_; (try clear hb); (try clear hb2); (try clear hk); (try clear hi)) | ((with_reducible refine gate_callee (f := 19) rfl ?_); refine goesL_ (some 50) rfl rfl Try.func19 (by kernel_rfl) rfl #[.string t454, .int .i64 0] rfl (by (try simp only [List.map_toArray, List.map_cons, List.map_nil]); first | done | rfl | (simp only [List.length_drop, List.length_take]; rfl)) ?_; (with_reducible refine (der_Get.calls kj4 t454 0 t467 t468 t469 t470 _ A19.out).mono ?_); rintro e w30 ⟨rfl, hb⟩; refine ⟨_, rfl, ?_⟩; have n0_ := Aside0.mk (Kd.R_below (by (with_reducible repeat (first | apply Kd.R_alloc | apply Kd.R_drewN | apply Kd.R_drew)); exact HO458.out) hb); have n1_ := Aside0.mk (Kd.R_below (by (with_reducible repeat (first | apply Kd.R_alloc | apply Kd.R_drewN | apply Kd.R_drew)); exact HO464.out) hb); have n2_ := Aside0.mk (below_step (by repeat (first | (with_reducible first | exact HB.out | apply below_alloc | apply pw_below_drewN | apply below_drew1) | exact HB.out)) hb); clear HO458; clear HO464; clear HB; have HO458 := n0_; have HO464 := n1_; have HB := n2_; clear n0_ n1_ n2_; (try clear hb); (try clear hb2); (try clear hk); (try clear hi)) | ((with_reducible refine gate_dst (N := 12) rfl ?_); (try (refine gate_guard (by rfl) ?_; dsimp only)); refine box_event ?hg (N := 12) ?hd (cs := #[.int .i64 0, .string (⟨#[]⟩ : ByteArray)]) (t := 40) ?hr ?_; (case hd => rfl); (case hg => rfl); (case hr => first | (go_simp; done) | (go_simp; rfl)); intro gb471 hg w31 hbox hb; have n0_ := Aside0.mk (Kd.R_below (by (with_reducible repeat (first | apply Kd.R_alloc | apply Kd.R_drewN | apply Kd.R_drew)); exact HO458.out) hb); have n1_ := Aside0.mk (Kd.R_below (by (with_reducible repeat (first | apply Kd.R_alloc | apply Kd.R_drewN | apply Kd.R_drew)); exact HO464.out) hb); have n2_ := Aside0.mk (below_step (by repeat (first | (with_reducible first | exact HB.out | apply below_alloc | apply pw_below_drewN | apply below_drew1) | exact HB.out)) hb); have n3_ := Aside0.mk (hbox); have n4_ := Aside0.mk ((by rw [hg]; exact (below_size (by repeat (first | (with_reducible first | exact HB.out | apply below_alloc | apply pw_below_drewN | apply below_drew1) | exact HB.out))) : w.heap.size ≤ gb471)); have n5_ := Aside0.mk ((by rw [hg]; exact (below_size (by repeat (first | (with_reducible first | exact HB.out | apply below_alloc | apply pw_below_drewN | apply below_drew1) | exact HB.out))) : w.heap.size ≤ gb471)); clear HO458; clear HO464; clear HB; have HO458 := n0_; have HO464 := n1_; have HB := n2_; have BK471 := n3_; have GW471 := n4_; have GE471 := n5_; clear n0_ n1_ n2_ n3_ n4_ n5_; clear hb hbox hg; have hcz32_0 : w31.cell? ⟨gb471, 0, none⟩ = some (.int .i64 0) := (blk_cell BK471.out 0).trans rfl; have hcz32_1 : w31.cell? ⟨gb471, 1, none⟩ = some (.string (⟨#[]⟩ : ByteArray)) := (blk_cell BK471.out 1).trans rfl; have hfz32_0 := blk_frozen BK471.out 0; have hfz32_1 := blk_frozen BK471.out 1))
         (try simp only [Act.put, List.setIfInBounds_toArray, List.set_cons_zero, List.set_cons_succ])
         go_cut [92] (fun v92 wc => ∃ (kq : Nat) (x92_19 : Bool), v92 = .bool x92_19 ∧ Aside0 (halberdlaw13_DerIntegers.j1 kq x5_4 x92_19 t467 t468 = some r) ∧ Aside0 (kq ≤ kj4) ∧ Aside0 (wc.heap[gb471]? = some (.cells #[.int .i64 t467, .string t468] 40 (0, 0))) ∧ Aside0 (Below w.heap.size w wc))
         case first =>
          have H := HC20.out
          clear HC20
          replace H := Option.bind_eq_some_iff.mp H
          obtain ⟨t472, A330, H⟩ := H
          replace H : (if t472 = 0 then ((halberdlaw0_Num.f t461).bind fun t473 => (if t473 = 0 then (if t454.toList = t460.toList then ((halberdlaw0_Num.f t466).bind fun t474 => (if t474 = 1300 then ((halberdlaw0_Num.f t470).bind fun t475 => (if t475 = 0 then (if t469 = (t454.size : Int) then (if t467 = 2 then (halberdlaw13_DerIntegers.j1 kj4 x5_4 (t468.toList == ([] : List UInt8)) t467 t468) else (halberdlaw13_DerIntegers.j1 kj4 x5_4 true t467 t468)) else (halberdlaw13_DerIntegers.j1 kj4 x5_4 true t467 t468)) else (halberdlaw13_DerIntegers.j1 kj4 x5_4 true t467 t468))) else (halberdlaw13_DerIntegers.j1 kj4 x5_4 true t467 t468))) else (halberdlaw13_DerIntegers.j1 kj4 x5_4 true t467 t468)) else (halberdlaw13_DerIntegers.j1 kj4 x5_4 true t467 t468))) else (halberdlaw13_DerIntegers.j1 kj4 x5_4 true t467 t468)) = some r := H
          have A33 := Aside0.mk A330
          clear A330
          by_cases c34 : t472 = 0
          ·rw [if_pos c34] at H
           have c34b0 : (t472 == 0) = true := beq_iff_eq.mpr c34
           have c34b1 : (t472 != 0) = false := bne_eq_false_iff_eq.mpr c34
           clear c34
           (first | rw [c34b0] | (simp only [i64_w, i32_w]; rw [c34b0]) | skip)
           replace H := Option.bind_eq_some_iff.mp H
           obtain ⟨t473, A350, H⟩ := H
           replace H : (if t473 = 0 then (if t454.toList = t460.toList then ((halberdlaw0_Num.f t466).bind fun t474 => (if t474 = 1300 then ((halberdlaw0_Num.f t470).bind fun t475 => (if t475 = 0 then (if t469 = (t454.size : Int) then (if t467 = 2 then (halberdlaw13_DerIntegers.j1 kj4 x5_4 (t468.toList == ([] : List UInt8)) t467 t468) else (halberdlaw13_DerIntegers.j1 kj4 x5_4 true t467 t468)) else (halberdlaw13_DerIntegers.j1 kj4 x5_4 true t467 t468)) else (halberdlaw13_DerIntegers.j1 kj4 x5_4 true t467 t468))) else (halberdlaw13_DerIntegers.j1 kj4 x5_4 true t467 t468))) else (halberdlaw13_DerIntegers.j1 kj4 x5_4 true t467 t468)) else (halberdlaw13_DerIntegers.j1 kj4 x5_4 true t467 t468)) = some r := H
           have A35 := Aside0.mk A350
           clear A350
           by_cases c36 : t473 = 0
           ·rw [if_pos c36] at H
            have c36b0 : (t473 == 0) = true := beq_iff_eq.mpr c36
            have c36b1 : (t473 != 0) = false := bne_eq_false_iff_eq.mpr c36
            clear c36
            by_cases c37 : t454.toList = t460.toList
            ·rw [if_pos c37] at H
             have c37b0 : (t454.toList == t460.toList) = true := beq_iff_eq.mpr c37
             have c37b1 : (t454.toList != t460.toList) = false := bne_eq_false_iff_eq.mpr c37
             clear c37
             replace H := Option.bind_eq_some_iff.mp H
             obtain ⟨t474, A380, H⟩ := H
             replace H : (if t474 = 1300 then ((halberdlaw0_Num.f t470).bind fun t475 => (if t475 = 0 then (if t469 = (t454.size : Int) then (if t467 = 2 then (halberdlaw13_DerIntegers.j1 kj4 x5_4 (t468.toList == ([] : List UInt8)) t467 t468) else (halberdlaw13_DerIntegers.j1 kj4 x5_4 true t467 t468)) else (halberdlaw13_DerIntegers.j1 kj4 x5_4 true t467 t468)) else (halberdlaw13_DerIntegers.j1 kj4 x5_4 true t467 t468))) else (halberdlaw13_DerIntegers.j1 kj4 x5_4 true t467 t468)) = some r := H
             have A38 := Aside0.mk A380
             clear A380
             by_cases c39 : t474 = 1300
             ·rw [if_pos c39] at H
              have c39b0 : (t474 == 1300) = true := beq_iff_eq.mpr c39
              have c39b1 : (t474 != 1300) = false := bne_eq_false_iff_eq.mpr c39
              clear c39
              replace H := Option.bind_eq_some_iff.mp H
              obtain ⟨t475, A400, H⟩ := H
              replace H : (if t475 = 0 then (if t469 = (t454.size : Int) then (if t467 = 2 then (halberdlaw13_DerIntegers.j1 kj4 x5_4 (t468.toList == ([] : List UInt8)) t467 t468) else (halberdlaw13_DerIntegers.j1 kj4 x5_4 true t467 t468)) else (halberdlaw13_DerIntegers.j1 kj4 x5_4 true t467 t468)) else (halberdlaw13_DerIntegers.j1 kj4 x5_4 true t467 t468)) = some r := H
              have A40 := Aside0.mk A400
              clear A400
              by_cases c41 : t475 = 0
              ·rw [if_pos c41] at H
               have c41b0 : (t475 == 0) = true := beq_iff_eq.mpr c41
               have c41b1 : (t475 != 0) = false := bne_eq_false_iff_eq.mpr c41
               clear c41
               by_cases c42 : t469 = (t454.size : Int)
               ·rw [if_pos c42] at H
                have c42b0 : (t469 == (t454.size : Int)) = true := beq_iff_eq.mpr c42
                have c42b1 : (t469 != (t454.size : Int)) = false := bne_eq_false_iff_eq.mpr c42
                clear c42
                by_cases c43 : t467 = 2
                ·rw [if_pos c43] at H
                 have c43b0 : (t467 == 2) = true := beq_iff_eq.mpr c43
                 have c43b1 : (t467 != 2) = false := bne_eq_false_iff_eq.mpr c43
                 clear c43
                 have H' := Aside0.mk H
                 clear H
                 go_wp2_with (first | ((with_reducible refine gate_callee (f := 16) rfl ?_); refine goesL_ (some 55) rfl rfl Try.func16 (by kernel_rfl) rfl #[.int .i64 t455] rfl (by (try simp only [List.map_toArray, List.map_cons, List.map_nil]); first | done | rfl | (simp only [List.length_drop, List.length_take]; rfl)) ?_; (with_reducible refine (halberdlaw0_Num.calls t455 t472 _ A33.out).mono ?_); rintro e w' ⟨rfl, ⟨nd, rfl⟩⟩; refine ⟨_, rfl, ?_⟩) | (go_at_call 16; (with_reducible refine (halberdlaw0_Num.calls t461 t473 _ A35.out).mono ?_); rintro e w' ⟨rfl, ⟨nd, rfl⟩⟩) | (go_at_call 16; (with_reducible refine (halberdlaw0_Num.calls t466 t474 _ A38.out).mono ?_); rintro e w' ⟨rfl, ⟨nd, rfl⟩⟩) | (go_at_call 16; (with_reducible refine (halberdlaw0_Num.calls t470 t475 _ A40.out).mono ?_); rintro e w' ⟨rfl, ⟨nd, rfl⟩⟩; have hcz44_0 : w31.cell? ⟨gb471, 0, none⟩ = some (.int .i64 0) := (blk_cell BK471.out 0).trans rfl; have hcz44_1 : w31.cell? ⟨gb471, 1, none⟩ = some (.string (⟨#[]⟩ : ByteArray)) := (blk_cell BK471.out 1).trans rfl; have hfz44_0 := blk_frozen BK471.out 0; have hfz44_1 := blk_frozen BK471.out 1))
                 go_meet
                 case rel => exact ⟨_, ((t468.toList == ([] : List UInt8))), (by first | rfl | (simp; done) | (simp [*]; done)), H', ⟨by have := HJ4.out; first | omega | exact Nat.le_refl _⟩, ⟨by (with_reducible repeat (first | refine blk_drewN ?_ _ | refine blk_drew ?_ | refine blk_alloc ?_ _)); refine blk_put (cs := #[.int .i64 t467, .string (⟨#[]⟩ : ByteArray)]) ?_ 1 _ rfl; (with_reducible repeat (first | refine blk_drewN ?_ _ | refine blk_drew ?_ | refine blk_alloc ?_ _)); refine blk_put (cs := #[.int .i64 0, .string (⟨#[]⟩ : ByteArray)]) ?_ 0 _ rfl; (with_reducible repeat (first | refine blk_drewN ?_ _ | refine blk_drew ?_ | refine blk_alloc ?_ _)); exact BK471.out⟩, ⟨by repeat (first | (with_reducible first | exact HB.out | apply below_alloc | apply pw_below_drewN | apply below_drew1 | refine below_set ?_ GE471.out) | exact HB.out)⟩⟩
                ·rw [if_neg c43] at H
                 have c43b0 : (t467 == 2) = false := beq_eq_false_iff_ne.mpr c43
                 have c43b1 : (t467 != 2) = true := bne_iff_ne.mpr c43
                 have H' := Aside0.mk H
                 clear H
                 go_wp2_with (first | ((with_reducible refine gate_callee (f := 16) rfl ?_); refine goesL_ (some 55) rfl rfl Try.func16 (by kernel_rfl) rfl #[.int .i64 t455] rfl (by (try simp only [List.map_toArray, List.map_cons, List.map_nil]); first | done | rfl | (simp only [List.length_drop, List.length_take]; rfl)) ?_; (with_reducible refine (halberdlaw0_Num.calls t455 t472 _ A33.out).mono ?_); rintro e w' ⟨rfl, ⟨nd, rfl⟩⟩; refine ⟨_, rfl, ?_⟩) | (go_at_call 16; (with_reducible refine (halberdlaw0_Num.calls t461 t473 _ A35.out).mono ?_); rintro e w' ⟨rfl, ⟨nd, rfl⟩⟩) | (go_at_call 16; (with_reducible refine (halberdlaw0_Num.calls t466 t474 _ A38.out).mono ?_); rintro e w' ⟨rfl, ⟨nd, rfl⟩⟩) | (go_at_call 16; (with_reducible refine (halberdlaw0_Num.calls t470 t475 _ A40.out).mono ?_); rintro e w' ⟨rfl, ⟨nd, rfl⟩⟩; have hcz45_0 : w31.cell? ⟨gb471, 0, none⟩ = some (.int .i64 0) := (blk_cell BK471.out 0).trans rfl; have hcz45_1 : w31.cell? ⟨gb471, 1, none⟩ = some (.string (⟨#[]⟩ : ByteArray)) := (blk_cell BK471.out 1).trans rfl; have hfz45_0 := blk_frozen BK471.out 0; have hfz45_1 := blk_frozen BK471.out 1))
                 go_meet
                 case rel => exact ⟨_, (true), (by first | rfl | (simp; done) | (simp [*]; done)), H', ⟨by have := HJ4.out; first | omega | exact Nat.le_refl _⟩, ⟨by (with_reducible repeat (first | refine blk_drewN ?_ _ | refine blk_drew ?_ | refine blk_alloc ?_ _)); refine blk_put (cs := #[.int .i64 t467, .string (⟨#[]⟩ : ByteArray)]) ?_ 1 _ rfl; (with_reducible repeat (first | refine blk_drewN ?_ _ | refine blk_drew ?_ | refine blk_alloc ?_ _)); refine blk_put (cs := #[.int .i64 0, .string (⟨#[]⟩ : ByteArray)]) ?_ 0 _ rfl; (with_reducible repeat (first | refine blk_drewN ?_ _ | refine blk_drew ?_ | refine blk_alloc ?_ _)); exact BK471.out⟩, ⟨by repeat (first | (with_reducible first | exact HB.out | apply below_alloc | apply pw_below_drewN | apply below_drew1 | refine below_set ?_ GE471.out) | exact HB.out)⟩⟩
               ·rw [if_neg c42] at H
                have c42b0 : (t469 == (t454.size : Int)) = false := beq_eq_false_iff_ne.mpr c42
                have c42b1 : (t469 != (t454.size : Int)) = true := bne_iff_ne.mpr c42
                have H' := Aside0.mk H
                clear H
                go_wp2_with (first | ((with_reducible refine gate_callee (f := 16) rfl ?_); refine goesL_ (some 55) rfl rfl Try.func16 (by kernel_rfl) rfl #[.int .i64 t455] rfl (by (try simp only [List.map_toArray, List.map_cons, List.map_nil]); first | done | rfl | (simp only [List.length_drop, List.length_take]; rfl)) ?_; (with_reducible refine (halberdlaw0_Num.calls t455 t472 _ A33.out).mono ?_); rintro e w' ⟨rfl, ⟨nd, rfl⟩⟩; refine ⟨_, rfl, ?_⟩) | (go_at_call 16; (with_reducible refine (halberdlaw0_Num.calls t461 t473 _ A35.out).mono ?_); rintro e w' ⟨rfl, ⟨nd, rfl⟩⟩) | (go_at_call 16; (with_reducible refine (halberdlaw0_Num.calls t466 t474 _ A38.out).mono ?_); rintro e w' ⟨rfl, ⟨nd, rfl⟩⟩) | (go_at_call 16; (with_reducible refine (halberdlaw0_Num.calls t470 t475 _ A40.out).mono ?_); rintro e w' ⟨rfl, ⟨nd, rfl⟩⟩))
                go_meet
                case rel => exact ⟨_, (true), (by first | rfl | (simp; done) | (simp [*]; done)), H', ⟨by have := HJ4.out; first | omega | exact Nat.le_refl _⟩, ⟨by (with_reducible repeat (first | refine blk_drewN ?_ _ | refine blk_drew ?_ | refine blk_alloc ?_ _)); refine blk_put (cs := #[.int .i64 t467, .string (⟨#[]⟩ : ByteArray)]) ?_ 1 _ rfl; (with_reducible repeat (first | refine blk_drewN ?_ _ | refine blk_drew ?_ | refine blk_alloc ?_ _)); refine blk_put (cs := #[.int .i64 0, .string (⟨#[]⟩ : ByteArray)]) ?_ 0 _ rfl; (with_reducible repeat (first | refine blk_drewN ?_ _ | refine blk_drew ?_ | refine blk_alloc ?_ _)); exact BK471.out⟩, ⟨by repeat (first | (with_reducible first | exact HB.out | apply below_alloc | apply pw_below_drewN | apply below_drew1 | refine below_set ?_ GE471.out) | exact HB.out)⟩⟩
              ·rw [if_neg c41] at H
               have c41b0 : (t475 == 0) = false := beq_eq_false_iff_ne.mpr c41
               have c41b1 : (t475 != 0) = true := bne_iff_ne.mpr c41
               have H' := Aside0.mk H
               clear H
               go_wp2_with (first | ((with_reducible refine gate_callee (f := 16) rfl ?_); refine goesL_ (some 55) rfl rfl Try.func16 (by kernel_rfl) rfl #[.int .i64 t455] rfl (by (try simp only [List.map_toArray, List.map_cons, List.map_nil]); first | done | rfl | (simp only [List.length_drop, List.length_take]; rfl)) ?_; (with_reducible refine (halberdlaw0_Num.calls t455 t472 _ A33.out).mono ?_); rintro e w' ⟨rfl, ⟨nd, rfl⟩⟩; refine ⟨_, rfl, ?_⟩) | (go_at_call 16; (with_reducible refine (halberdlaw0_Num.calls t461 t473 _ A35.out).mono ?_); rintro e w' ⟨rfl, ⟨nd, rfl⟩⟩) | (go_at_call 16; (with_reducible refine (halberdlaw0_Num.calls t466 t474 _ A38.out).mono ?_); rintro e w' ⟨rfl, ⟨nd, rfl⟩⟩) | (go_at_call 16; (with_reducible refine (halberdlaw0_Num.calls t470 t475 _ A40.out).mono ?_); rintro e w' ⟨rfl, ⟨nd, rfl⟩⟩))
               go_meet
               case rel => exact ⟨_, (true), (by first | rfl | (simp; done) | (simp [*]; done)), H', ⟨by have := HJ4.out; first | omega | exact Nat.le_refl _⟩, ⟨by (with_reducible repeat (first | refine blk_drewN ?_ _ | refine blk_drew ?_ | refine blk_alloc ?_ _)); refine blk_put (cs := #[.int .i64 t467, .string (⟨#[]⟩ : ByteArray)]) ?_ 1 _ rfl; (with_reducible repeat (first | refine blk_drewN ?_ _ | refine blk_drew ?_ | refine blk_alloc ?_ _)); refine blk_put (cs := #[.int .i64 0, .string (⟨#[]⟩ : ByteArray)]) ?_ 0 _ rfl; (with_reducible repeat (first | refine blk_drewN ?_ _ | refine blk_drew ?_ | refine blk_alloc ?_ _)); exact BK471.out⟩, ⟨by repeat (first | (with_reducible first | exact HB.out | apply below_alloc | apply pw_below_drewN | apply below_drew1 | refine below_set ?_ GE471.out) | exact HB.out)⟩⟩
             ·rw [if_neg c39] at H
              have c39b0 : (t474 == 1300) = false := beq_eq_false_iff_ne.mpr c39
              have c39b1 : (t474 != 1300) = true := bne_iff_ne.mpr c39
              have H' := Aside0.mk H
              clear H
              go_wp2_with (first | ((with_reducible refine gate_callee (f := 16) rfl ?_); refine goesL_ (some 55) rfl rfl Try.func16 (by kernel_rfl) rfl #[.int .i64 t455] rfl (by (try simp only [List.map_toArray, List.map_cons, List.map_nil]); first | done | rfl | (simp only [List.length_drop, List.length_take]; rfl)) ?_; (with_reducible refine (halberdlaw0_Num.calls t455 t472 _ A33.out).mono ?_); rintro e w' ⟨rfl, ⟨nd, rfl⟩⟩; refine ⟨_, rfl, ?_⟩) | (go_at_call 16; (with_reducible refine (halberdlaw0_Num.calls t461 t473 _ A35.out).mono ?_); rintro e w' ⟨rfl, ⟨nd, rfl⟩⟩) | (go_at_call 16; (with_reducible refine (halberdlaw0_Num.calls t466 t474 _ A38.out).mono ?_); rintro e w' ⟨rfl, ⟨nd, rfl⟩⟩))
              go_meet
              case rel => exact ⟨_, (true), (by first | rfl | (simp; done) | (simp [*]; done)), H', ⟨by have := HJ4.out; first | omega | exact Nat.le_refl _⟩, ⟨by (with_reducible repeat (first | refine blk_drewN ?_ _ | refine blk_drew ?_ | refine blk_alloc ?_ _)); refine blk_put (cs := #[.int .i64 t467, .string (⟨#[]⟩ : ByteArray)]) ?_ 1 _ rfl; (with_reducible repeat (first | refine blk_drewN ?_ _ | refine blk_drew ?_ | refine blk_alloc ?_ _)); refine blk_put (cs := #[.int .i64 0, .string (⟨#[]⟩ : ByteArray)]) ?_ 0 _ rfl; (with_reducible repeat (first | refine blk_drewN ?_ _ | refine blk_drew ?_ | refine blk_alloc ?_ _)); exact BK471.out⟩, ⟨by repeat (first | (with_reducible first | exact HB.out | apply below_alloc | apply pw_below_drewN | apply below_drew1 | refine below_set ?_ GE471.out) | exact HB.out)⟩⟩
            ·rw [if_neg c37] at H
             have c37b0 : (t454.toList == t460.toList) = false := beq_eq_false_iff_ne.mpr c37
             have c37b1 : (t454.toList != t460.toList) = true := bne_iff_ne.mpr c37
             have H' := Aside0.mk H
             clear H
             go_wp2_with (first | ((with_reducible refine gate_callee (f := 16) rfl ?_); refine goesL_ (some 55) rfl rfl Try.func16 (by kernel_rfl) rfl #[.int .i64 t455] rfl (by (try simp only [List.map_toArray, List.map_cons, List.map_nil]); first | done | rfl | (simp only [List.length_drop, List.length_take]; rfl)) ?_; (with_reducible refine (halberdlaw0_Num.calls t455 t472 _ A33.out).mono ?_); rintro e w' ⟨rfl, ⟨nd, rfl⟩⟩; refine ⟨_, rfl, ?_⟩) | (go_at_call 16; (with_reducible refine (halberdlaw0_Num.calls t461 t473 _ A35.out).mono ?_); rintro e w' ⟨rfl, ⟨nd, rfl⟩⟩))
             go_meet
             case rel => exact ⟨_, (true), (by first | rfl | (simp; done) | (simp [*]; done)), H', ⟨by have := HJ4.out; first | omega | exact Nat.le_refl _⟩, ⟨by (with_reducible repeat (first | refine blk_drewN ?_ _ | refine blk_drew ?_ | refine blk_alloc ?_ _)); refine blk_put (cs := #[.int .i64 t467, .string (⟨#[]⟩ : ByteArray)]) ?_ 1 _ rfl; (with_reducible repeat (first | refine blk_drewN ?_ _ | refine blk_drew ?_ | refine blk_alloc ?_ _)); refine blk_put (cs := #[.int .i64 0, .string (⟨#[]⟩ : ByteArray)]) ?_ 0 _ rfl; (with_reducible repeat (first | refine blk_drewN ?_ _ | refine blk_drew ?_ | refine blk_alloc ?_ _)); exact BK471.out⟩, ⟨by repeat (first | (with_reducible first | exact HB.out | apply below_alloc | apply pw_below_drewN | apply below_drew1 | refine below_set ?_ GE471.out) | exact HB.out)⟩⟩
           ·rw [if_neg c36] at H
            have c36b0 : (t473 == 0) = false := beq_eq_false_iff_ne.mpr c36
            have c36b1 : (t473 != 0) = true := bne_iff_ne.mpr c36
            have H' := Aside0.mk H
            clear H
            go_wp2_with (first | ((with_reducible refine gate_callee (f := 16) rfl ?_); refine goesL_ (some 55) rfl rfl Try.func16 (by kernel_rfl) rfl #[.int .i64 t455] rfl (by (try simp only [List.map_toArray, List.map_cons, List.map_nil]); first | done | rfl | (simp only [List.length_drop, List.length_take]; rfl)) ?_; (with_reducible refine (halberdlaw0_Num.calls t455 t472 _ A33.out).mono ?_); rintro e w' ⟨rfl, ⟨nd, rfl⟩⟩; refine ⟨_, rfl, ?_⟩) | (go_at_call 16; (with_reducible refine (halberdlaw0_Num.calls t461 t473 _ A35.out).mono ?_); rintro e w' ⟨rfl, ⟨nd, rfl⟩⟩))
            go_meet
            case rel => exact ⟨_, (true), (by first | rfl | (simp; done) | (simp [*]; done)), H', ⟨by have := HJ4.out; first | omega | exact Nat.le_refl _⟩, ⟨by (with_reducible repeat (first | refine blk_drewN ?_ _ | refine blk_drew ?_ | refine blk_alloc ?_ _)); refine blk_put (cs := #[.int .i64 t467, .string (⟨#[]⟩ : ByteArray)]) ?_ 1 _ rfl; (with_reducible repeat (first | refine blk_drewN ?_ _ | refine blk_drew ?_ | refine blk_alloc ?_ _)); refine blk_put (cs := #[.int .i64 0, .string (⟨#[]⟩ : ByteArray)]) ?_ 0 _ rfl; (with_reducible repeat (first | refine blk_drewN ?_ _ | refine blk_drew ?_ | refine blk_alloc ?_ _)); exact BK471.out⟩, ⟨by repeat (first | (with_reducible first | exact HB.out | apply below_alloc | apply pw_below_drewN | apply below_drew1 | refine below_set ?_ GE471.out) | exact HB.out)⟩⟩
          ·rw [if_neg c34] at H
           have c34b0 : (t472 == 0) = false := beq_eq_false_iff_ne.mpr c34
           have c34b1 : (t472 != 0) = true := bne_iff_ne.mpr c34
           (first | rw [c34b0] | (simp only [i64_w, i32_w]; rw [c34b0]) | skip)
           have H' := Aside0.mk H
           clear H
           go_wp2_with (first | ((with_reducible refine gate_callee (f := 16) rfl ?_); refine goesL_ (some 55) rfl rfl Try.func16 (by kernel_rfl) rfl #[.int .i64 t455] rfl (by (try simp only [List.map_toArray, List.map_cons, List.map_nil]); first | done | rfl | (simp only [List.length_drop, List.length_take]; rfl)) ?_; (with_reducible refine (halberdlaw0_Num.calls t455 t472 _ A33.out).mono ?_); rintro e w' ⟨rfl, ⟨nd, rfl⟩⟩; refine ⟨_, rfl, ?_⟩))
           go_meet
           case rel => exact ⟨_, (true), (by first | rfl | (simp; done) | (simp [*]; done)), H', ⟨by have := HJ4.out; first | omega | exact Nat.le_refl _⟩, ⟨by (with_reducible repeat (first | refine blk_drewN ?_ _ | refine blk_drew ?_ | refine blk_alloc ?_ _)); refine blk_put (cs := #[.int .i64 t467, .string (⟨#[]⟩ : ByteArray)]) ?_ 1 _ rfl; (with_reducible repeat (first | refine blk_drewN ?_ _ | refine blk_drew ?_ | refine blk_alloc ?_ _)); refine blk_put (cs := #[.int .i64 0, .string (⟨#[]⟩ : ByteArray)]) ?_ 0 _ rfl; (with_reducible repeat (first | refine blk_drewN ?_ _ | refine blk_drew ?_ | refine blk_alloc ?_ _)); exact BK471.out⟩, ⟨by repeat (first | (with_reducible first | exact HB.out | apply below_alloc | apply pw_below_drewN | apply below_drew1 | refine below_set ?_ GE471.out) | exact HB.out)⟩⟩
         case rest =>
          clear HC20
          try clear c1
          try clear p2
          try clear hcv2
          try clear c3
          try clear c4
          try clear p6
          try clear c7
          try clear c7b0
          try clear c7b1
          try clear c8
          try clear c8b0
          try clear c8b1
          try clear c9
          try clear c9b0
          try clear c9b1
          try clear c10
          try clear c11
          try clear c11b0
          try clear c11b1
          try clear c12
          try clear c12b0
          try clear c12b1
          try clear c13
          try clear c13b0
          try clear c13b1
          try clear c13b2
          try clear c16
          try clear c16b0
          try clear c16b1
          try clear c17
          try clear c17b0
          try clear c17b1
          try clear c19
          try clear hcv24
          try clear hcv28
          try clear c34
          try clear c34b0
          try clear c34b1
          try clear c36
          try clear c36b0
          try clear c36b1
          try clear c37
          try clear c37b0
          try clear c37b1
          try clear c39
          try clear c39b0
          try clear c39b1
          try clear c41
          try clear c41b0
          try clear c41b1
          try clear c42
          try clear c42b0
          try clear c42b1
          try clear c43
          try clear c43b0
          try clear c43b1
          try clear hcz32_0
          try clear hcz32_1
          try clear hcz44_0
          try clear hcz44_1
          try clear hcz45_0
          try clear hcz45_1
          try clear hfz32_0
          try clear hfz32_1
          try clear hfz44_0
          try clear hfz44_1
          try clear hfz45_0
          try clear hfz45_1
          try clear p2
          obtain ⟨kq, x92_19, rfl, HA, HJ19, BK471, HB⟩ := hcut
          cases kq with
          | zero => exact absurd HA.out (by simp [halberdlaw13_DerIntegers.j1])
          | succ kj19 =>
           have H := HA.out
           clear HA
           simp only [halberdlaw13_DerIntegers.j1] at H
           by_cases c46 : x92_19 = true
           ·subst c46
            have H1 : (some false) = some r := by rw [if_pos rfl] at H; exact H
            clear H
            have H := H1
            clear H1
            exact absurd ((Option.some.inj H).trans hr.out) (by decide)
           ·replace c46 := Bool.eq_false_iff.mpr c46
            subst c46
            have H1 : (halberdlaw13_DerIntegers.l0 kj19 x5_4 t468 t467 t468) = some r := by rw [if_neg (show ¬ (false = true) by decide)] at H; exact H
            clear H
            have H := H1
            clear H1
            have HC47 := Aside0.mk H
            clear H
            have hcz48_0 : wc.cell? ⟨gb471, 0, none⟩ = some (.int .i64 t467) := (blk_cell BK471.out 0).trans rfl
            have hcz48_1 : wc.cell? ⟨gb471, 1, none⟩ = some (.string t468) := (blk_cell BK471.out 1).trans rfl
            have hfz48_0 := blk_frozen BK471.out 0
            have hfz48_1 := blk_frozen BK471.out 1
            go_upto_block 0 with (fail)
            go_cut [15] (fun v15 wc => ∃ (kq : Nat) (x15_46 : ByteArray), v15 = .string x15_46 ∧ Aside0 (halberdlaw13_DerIntegers.j3 kq x5_4 x15_46 t467 t468 = some r) ∧ Aside0 (kq ≤ kj19) ∧ Aside0 (wc.heap[gb471]? = some (.cells #[.int .i64 t467, .string t468] 40 (0, 0))) ∧ Aside0 (Below w.heap.size w wc))
            case first =>
             have H := HC47.out
             clear HC47
             have H' := Aside0.mk H
             clear H
             go_wp2
             go_loopg [15] kj19 (fun kq v15 w' => ∃ (x15_3 : ByteArray), v15 = .string x15_3 ∧ Aside0 (halberdlaw13_DerIntegers.l0 kq x5_4 x15_3 t467 t468 = some r) ∧ Aside0 (kq ≤ kj19) ∧ Aside0 (w'.heap[gb471]? = some (.cells #[.int .i64 t467, .string t468] 40 (0, 0))) ∧ Aside0 (Below w.heap.size w w'))
             case atStart => exact ⟨(t468), (by first | rfl | (simp; done) | (simp [*]; done)), H', ⟨Nat.le_refl _⟩, ⟨by (with_reducible repeat (first | refine blk_drewN ?_ _ | refine blk_drew ?_ | refine blk_alloc ?_ _)); exact BK471.out⟩, ⟨by repeat (first | (with_reducible first | exact HB.out | apply below_alloc | apply pw_below_drewN | apply below_drew1 | refine below_set ?_ GE471.out) | exact HB.out)⟩⟩
             case round =>
              clear H'
              try clear c1
              try clear p2
              try clear hcv2
              try clear c3
              try clear c4
              try clear p6
              try clear c7
              try clear c7b0
              try clear c7b1
              try clear c8
              try clear c8b0
              try clear c8b1
              try clear c9
              try clear c9b0
              try clear c9b1
              try clear c10
              try clear c11
              try clear c11b0
              try clear c11b1
              try clear c12
              try clear c12b0
              try clear c12b1
              try clear c13
              try clear c13b0
              try clear c13b1
              try clear c13b2
              try clear c16
              try clear c16b0
              try clear c16b1
              try clear c17
              try clear c17b0
              try clear c17b1
              try clear c19
              try clear hcv24
              try clear hcv28
              try clear c34
              try clear c34b0
              try clear c34b1
              try clear c36
              try clear c36b0
              try clear c36b1
              try clear c37
              try clear c37b0
              try clear c37b1
              try clear c39
              try clear c39b0
              try clear c39b1
              try clear c41
              try clear c41b0
              try clear c41b1
              try clear c42
              try clear c42b0
              try clear c42b1
              try clear c43
              try clear c43b0
              try clear c43b1
              try clear c46
              try clear hcz32_0
              try clear hcz32_1
              try clear hcz44_0
              try clear hcz44_1
              try clear hcz45_0
              try clear hcz45_1
              try clear hcz48_0
              try clear hcz48_1
              try clear hfz32_0
              try clear hfz32_1
              try clear hfz44_0
              try clear hfz44_1
              try clear hfz45_0
              try clear hfz45_1
              try clear hfz48_0
              try clear hfz48_1
              try clear p2
              try clear p6
              obtain ⟨x15_3, rfl, HA, HK3, BK471, HB⟩ := hrel
              cases gk with
              | zero => exact absurd HA.out (by simp [halberdlaw13_DerIntegers.l0])
              | succ k3 =>
               have H := HA.out
               clear HA
               simp only [halberdlaw13_DerIntegers.l0] at H
               by_cases c49 : (x15_3.size : Int) > 0
               ·rw [if_pos c49] at H
                have c49b0 : decide (0 < (x15_3.size : Int)) = true := decide_eq_true c49
                have c49b1 : decide (0 < x15_3.size) = true := decide_eq_true (by omega)
                clear c49
                (first | rw [c49b0] | (simp only [i64_w, i32_w]; rw [c49b0]) | skip)
                by_cases c51 : (bt x15_3 0) = 0
                ·rw [if_pos c51] at H
                 have c51b0 : ((bt x15_3 0) == 0) = true := beq_iff_eq.mpr c51
                 have c51b1 : ((bt x15_3 0) != 0) = false := bne_eq_false_iff_eq.mpr c51
                 clear c51
                 by_cases c52 : 1 ≤ (x15_3.size : Int)
                 ·rw [if_pos c52] at H
                  have c52b0 := eq_true c52
                  have c52b1 : decide (1 ≤ (x15_3.size : Int)) = true := decide_eq_true c52
                  clear c52
                  have H' := Aside0.mk H
                  clear H
                  have p50 : 0 ≤ (0 : Int) := (by omega)
                  have q50 : 0 < x15_3.size := (by have : (0 : Int) < (x15_3.size : Int) := of_decide_eq_true (by first | (with_reducible assumption) | assumption); omega)
                  have hx50 : ∀ h : 0 < x15_3.size, ((x15_3[0]'h).toNat : Int) = bt x15_3 0 := bt_at x15_3 0
                  clear p50
                  have qi50 : (0 < (x15_3.size : Int)) = True := eq_true (of_decide_eq_true (by first | (with_reducible assumption) | assumption))
                  replace q50 := eq_true q50
                  go_wp2
                  go_roundg k3
                  case measure => have := HJ4.out; have := HJ19.out; have := HK3.out; omega
                  case rel => exact ⟨(x15_3.extract 1 x15_3.size), (by first | rfl | (simp; done) | (simp [*]; done)), H', ⟨by have := HJ4.out; have := HJ19.out; have := HK3.out; omega⟩, ⟨by (with_reducible repeat (first | refine blk_drewN ?_ _ | refine blk_drew ?_ | refine blk_alloc ?_ _)); exact BK471.out⟩, ⟨by repeat (first | (with_reducible first | exact HB.out | apply below_alloc | apply pw_below_drewN | apply below_drew1 | refine below_set ?_ GE471.out) | exact HB.out)⟩⟩
                 ·rw [if_neg c52] at H
                  exact absurd H (by simp)
                ·rw [if_neg c51] at H
                 have c51b0 : ((bt x15_3 0) == 0) = false := beq_eq_false_iff_ne.mpr c51
                 have c51b1 : ((bt x15_3 0) != 0) = true := bne_iff_ne.mpr c51
                 have H' := Aside0.mk H
                 clear H
                 have p50 : 0 ≤ (0 : Int) := (by omega)
                 have q50 : 0 < x15_3.size := (by have : (0 : Int) < (x15_3.size : Int) := of_decide_eq_true (by first | (with_reducible assumption) | assumption); omega)
                 have hx50 : ∀ h : 0 < x15_3.size, ((x15_3[0]'h).toNat : Int) = bt x15_3 0 := bt_at x15_3 0
                 clear p50
                 have qi50 : (0 < (x15_3.size : Int)) = True := eq_true (of_decide_eq_true (by first | (with_reducible assumption) | assumption))
                 replace q50 := eq_true q50
                 go_wp2
                 go_meet
                 case rel => exact ⟨_, (x15_3), (by first | rfl | (simp; done) | (simp [*]; done)), H', ⟨by have := HJ4.out; have := HJ19.out; have := HK3.out; first | omega | exact Nat.le_refl _⟩, ⟨by (with_reducible repeat (first | refine blk_drewN ?_ _ | refine blk_drew ?_ | refine blk_alloc ?_ _)); exact BK471.out⟩, ⟨by repeat (first | (with_reducible first | exact HB.out | apply below_alloc | apply pw_below_drewN | apply below_drew1 | refine below_set ?_ GE471.out) | exact HB.out)⟩⟩
               ·rw [if_neg c49] at H
                have c49b0 : decide (0 < (x15_3.size : Int)) = false := decide_eq_false c49
                have c49b1 : decide (0 < x15_3.size) = false := decide_eq_false (by omega)
                clear c49
                (first | rw [c49b0] | (simp only [i64_w, i32_w]; rw [c49b0]) | skip)
                have H' := Aside0.mk H
                clear H
                go_wp2
                go_meet
                case rel => exact ⟨_, (x15_3), (by first | rfl | (simp; done) | (simp [*]; done)), H', ⟨by have := HJ4.out; have := HJ19.out; have := HK3.out; first | omega | exact Nat.le_refl _⟩, ⟨by (with_reducible repeat (first | refine blk_drewN ?_ _ | refine blk_drew ?_ | refine blk_alloc ?_ _)); exact BK471.out⟩, ⟨by repeat (first | (with_reducible first | exact HB.out | apply below_alloc | apply pw_below_drewN | apply below_drew1 | refine below_set ?_ GE471.out) | exact HB.out)⟩⟩
            case rest =>
             clear HC47
             try clear c1
             try clear p2
             try clear hcv2
             try clear c3
             try clear c4
             try clear c5
             try clear p5
             try clear q5
             try clear hx5
             try clear qi5
             try clear p6
             try clear c7
             try clear c7b0
             try clear c7b1
             try clear c8
             try clear c8b0
             try clear c8b1
             try clear c9
             try clear c9b0
             try clear c9b1
             try clear c10
             try clear c11
             try clear c11b0
             try clear c11b1
             try clear c12
             try clear c12b0
             try clear c12b1
             try clear c13
             try clear c13b0
             try clear c13b1
             try clear c13b2
             try clear c16
             try clear c16b0
             try clear c16b1
             try clear c17
             try clear c17b0
             try clear c17b1
             try clear c19
             try clear hcv24
             try clear hcv28
             try clear c34
             try clear c34b0
             try clear c34b1
             try clear c36
             try clear c36b0
             try clear c36b1
             try clear c37
             try clear c37b0
             try clear c37b1
             try clear c39
             try clear c39b0
             try clear c39b1
             try clear c41
             try clear c41b0
             try clear c41b1
             try clear c42
             try clear c42b0
             try clear c42b1
             try clear c43
             try clear c43b0
             try clear c43b1
             try clear c46
             try clear c49
             try clear c49b0
             try clear c49b1
             try clear p50
             try clear q50
             try clear hx50
             try clear qi50
             try clear c51
             try clear c51b0
             try clear c51b1
             try clear c52
             try clear c52b0
             try clear c52b1
             try clear hcz32_0
             try clear hcz32_1
             try clear hcz44_0
             try clear hcz44_1
             try clear hcz45_0
             try clear hcz45_1
             try clear hcz48_0
             try clear hcz48_1
             try clear hfz32_0
             try clear hfz32_1
             try clear hfz44_0
             try clear hfz44_1
             try clear hfz45_0
             try clear hfz45_1
             try clear hfz48_0
             try clear hfz48_1
             try clear p2
             try clear p50
             try clear p6
             try clear q50
             obtain ⟨kq, x15_46, rfl, HA, HJ46, BK471, HB⟩ := hcut
             cases kq with
             | zero => exact absurd HA.out (by simp [halberdlaw13_DerIntegers.j3])
             | succ kj46 =>
              have H := HA.out
              clear HA
              simp only [halberdlaw13_DerIntegers.j3] at H
              have H' := Aside0.mk H
              clear H
              go_wp2
              go_loopg [5] kj46 (fun kq v5 w' => ∃ (x5_4 : ByteArray), v5 = .string x5_4 ∧ Aside0 (halberdlaw13_DerIntegers.l1 kq x5_4 x15_46 t467 t468 = some r) ∧ Aside0 (kq ≤ kj46) ∧ Aside0 (w'.heap[gb471]? = some (.cells #[.int .i64 t467, .string t468] 40 (0, 0))) ∧ Aside0 (Below w.heap.size w w'))
              case atStart => exact ⟨(x5_4), (by first | rfl | (simp; done) | (simp [*]; done)), H', ⟨Nat.le_refl _⟩, ⟨by (with_reducible repeat (first | refine blk_drewN ?_ _ | refine blk_drew ?_ | refine blk_alloc ?_ _)); exact BK471.out⟩, ⟨by repeat (first | (with_reducible first | exact HB.out | apply below_alloc | apply pw_below_drewN | apply below_drew1 | refine below_set ?_ GE471.out) | exact HB.out)⟩⟩
              case round =>
               clear H'
               try clear c1
               try clear p2
               try clear hcv2
               try clear c3
               try clear c4
               try clear c5
               try clear p5
               try clear q5
               try clear hx5
               try clear qi5
               try clear p6
               try clear c7
               try clear c7b0
               try clear c7b1
               try clear c8
               try clear c8b0
               try clear c8b1
               try clear c9
               try clear c9b0
               try clear c9b1
               try clear c10
               try clear c11
               try clear c11b0
               try clear c11b1
               try clear c12
               try clear c12b0
               try clear c12b1
               try clear c13
               try clear c13b0
               try clear c13b1
               try clear c13b2
               try clear c16
               try clear c16b0
               try clear c16b1
               try clear c17
               try clear c17b0
               try clear c17b1
               try clear c19
               try clear hcv24
               try clear hcv28
               try clear c34
               try clear c34b0
               try clear c34b1
               try clear c36
               try clear c36b0
               try clear c36b1
               try clear c37
               try clear c37b0
               try clear c37b1
               try clear c39
               try clear c39b0
               try clear c39b1
               try clear c41
               try clear c41b0
               try clear c41b1
               try clear c42
               try clear c42b0
               try clear c42b1
               try clear c43
               try clear c43b0
               try clear c43b1
               try clear c46
               try clear c49
               try clear c49b0
               try clear c49b1
               try clear p50
               try clear q50
               try clear hx50
               try clear qi50
               try clear c51
               try clear c51b0
               try clear c51b1
               try clear c52
               try clear c52b0
               try clear c52b1
               try clear hcz32_0
               try clear hcz32_1
               try clear hcz44_0
               try clear hcz44_1
               try clear hcz45_0
               try clear hcz45_1
               try clear hcz48_0
               try clear hcz48_1
               try clear hfz32_0
               try clear hfz32_1
               try clear hfz44_0
               try clear hfz44_1
               try clear hfz45_0
               try clear hfz45_1
               try clear hfz48_0
               try clear hfz48_1
               try clear p2
               try clear p5
               try clear p50
               try clear p6
               try clear q5
               try clear q50
               obtain ⟨x5_4, rfl, HA, HK4, BK471, HB⟩ := hrel
               cases gk with
               | zero => exact absurd HA.out (by simp [halberdlaw13_DerIntegers.l1])
               | succ k4 =>
                have H := HA.out
                clear HA
                simp only [halberdlaw13_DerIntegers.l1] at H
                by_cases c53 : (x5_4.size : Int) > 0
                ·rw [if_pos c53] at H
                 have c53b0 : decide (0 < (x5_4.size : Int)) = true := decide_eq_true c53
                 have c53b1 : decide (0 < x5_4.size) = true := decide_eq_true (by omega)
                 clear c53
                 by_cases c55 : (bt x5_4 0) = 0
                 ·rw [if_pos c55] at H
                  have c55b0 : ((bt x5_4 0) == 0) = true := beq_iff_eq.mpr c55
                  have c55b1 : ((bt x5_4 0) != 0) = false := bne_eq_false_iff_eq.mpr c55
                  clear c55
                  by_cases c56 : 1 ≤ (x5_4.size : Int)
                  ·rw [if_pos c56] at H
                   have c56b0 := eq_true c56
                   have c56b1 : decide (1 ≤ (x5_4.size : Int)) = true := decide_eq_true c56
                   clear c56
                   have H' := Aside0.mk H
                   clear H
                   have p54 : 0 ≤ (0 : Int) := (by omega)
                   have q54 : 0 < x5_4.size := (by have : (0 : Int) < (x5_4.size : Int) := of_decide_eq_true (by first | (with_reducible assumption) | assumption); omega)
                   have hx54 : ∀ h : 0 < x5_4.size, ((x5_4[0]'h).toNat : Int) = bt x5_4 0 := bt_at x5_4 0
                   clear p54
                   have qi54 : (0 < (x5_4.size : Int)) = True := eq_true (of_decide_eq_true (by first | (with_reducible assumption) | assumption))
                   replace q54 := eq_true q54
                   go_wp2
                   go_roundg k4
                   case measure => have := HJ4.out; have := HJ19.out; have := HJ46.out; have := HK4.out; omega
                   case rel => exact ⟨(x5_4.extract 1 x5_4.size), (by first | rfl | (simp; done) | (simp [*]; done)), H', ⟨by have := HJ4.out; have := HJ19.out; have := HJ46.out; have := HK4.out; omega⟩, ⟨by (with_reducible repeat (first | refine blk_drewN ?_ _ | refine blk_drew ?_ | refine blk_alloc ?_ _)); exact BK471.out⟩, ⟨by repeat (first | (with_reducible first | exact HB.out | apply below_alloc | apply pw_below_drewN | apply below_drew1 | refine below_set ?_ GE471.out) | exact HB.out)⟩⟩
                  ·rw [if_neg c56] at H
                   exact absurd H (by simp)
                 ·rw [if_neg c55] at H
                  have c55b0 : ((bt x5_4 0) == 0) = false := beq_eq_false_iff_ne.mpr c55
                  have c55b1 : ((bt x5_4 0) != 0) = true := bne_iff_ne.mpr c55
                  by_cases c57 : x15_46.toList = x5_4.toList
                  ·rw [if_pos c57] at H
                   have c57b0 : (x15_46.toList == x5_4.toList) = true := beq_iff_eq.mpr c57
                   have c57b1 : (x15_46.toList != x5_4.toList) = false := bne_eq_false_iff_eq.mpr c57
                   clear c57
                   by_cases c58 : 0 < (t468.size : Int)
                   ·rw [if_pos c58] at H
                    have c58b0 : decide (0 < (t468.size : Int)) = true := decide_eq_true c58
                    have c58b1 : decide (0 < t468.size) = true := decide_eq_true (by omega)
                    clear c58
                    by_cases c60 : (bt t468 0) < 128
                    ·rw [if_pos c60] at H
                     have c60b0 : decide ((bt t468 0) < 128) = true := decide_eq_true c60
                     clear c60
                     by_cases c61 : (t468.size : Int) = 1
                     ·rw [if_pos c61] at H
                      have c61b0 : ((t468.size : Int) == 1) = true := beq_iff_eq.mpr c61
                      have c61b1 : ((t468.size : Int) != 1) = false := bne_eq_false_iff_eq.mpr c61
                      clear c61
                      obtain rfl := Option.some.inj H
                      have p54 : 0 ≤ (0 : Int) := (by omega)
                      have q54 : 0 < x5_4.size := (by have : (0 : Int) < (x5_4.size : Int) := of_decide_eq_true (by first | (with_reducible assumption) | assumption); omega)
                      have hx54 : ∀ h : 0 < x5_4.size, ((x5_4[0]'h).toNat : Int) = bt x5_4 0 := bt_at x5_4 0
                      clear p54
                      have qi54 : (0 < (x5_4.size : Int)) = True := eq_true (of_decide_eq_true (by first | (with_reducible assumption) | assumption))
                      replace q54 := eq_true q54
                      have hcz62_0 : wr.cell? ⟨gb471, 0, none⟩ = some (.int .i64 t467) := (blk_cell BK471.out 0).trans rfl
                      have hcz62_1 : wr.cell? ⟨gb471, 1, none⟩ = some (.string t468) := (blk_cell BK471.out 1).trans rfl
                      have hfz62_0 := blk_frozen BK471.out 0
                      have hfz62_1 := blk_frozen BK471.out 1
                      have p59 : 0 ≤ (0 : Int) := (by omega)
                      have q59 : 0 < t468.size := (by have : (0 : Int) < (t468.size : Int) := of_decide_eq_true (by first | (with_reducible assumption) | assumption); omega)
                      have hx59 : ∀ h : 0 < t468.size, ((t468[0]'h).toNat : Int) = bt t468 0 := bt_at t468 0
                      clear p59
                      have qi59 : (0 < (t468.size : Int)) = True := eq_true (of_decide_eq_true (by first | (with_reducible assumption) | assumption))
                      replace q59 := eq_true q59
                      go_wp2
                      go_ret
                      exact ⟨by first | rfl | (simp [errW_none, errW_some] <;> rfl) | (simp only [← hji15]; first | rfl | (simp [errW_none, errW_some] <;> rfl)) | (simp [*, errW_none, errW_some] <;> rfl), by repeat (first | (with_reducible first | exact HB.out | apply below_alloc | apply pw_below_drewN | apply below_drew1 | refine below_set ?_ GE471.out) | exact HB.out)⟩
                     ·rw [if_neg c61] at H
                      have c61b0 : ((t468.size : Int) == 1) = false := beq_eq_false_iff_ne.mpr c61
                      have c61b1 : ((t468.size : Int) != 1) = true := bne_iff_ne.mpr c61
                      by_cases c64 : (bt t468 0) = 0
                      ·rw [if_pos c64] at H
                       have c64b0 : ((bt t468 0) == 0) = true := beq_iff_eq.mpr c64
                       have c64b1 : ((bt t468 0) != 0) = false := bne_eq_false_iff_eq.mpr c64
                       clear c64
                       by_cases c65 : 1 < (t468.size : Int)
                       ·rw [if_pos c65] at H
                        have c65b0 : decide (1 < (t468.size : Int)) = true := decide_eq_true c65
                        have c65b1 : decide (1 < t468.size) = true := decide_eq_true (by omega)
                        clear c65
                        obtain rfl := Option.some.inj H
                        have p54 : 0 ≤ (0 : Int) := (by omega)
                        have q54 : 0 < x5_4.size := (by have : (0 : Int) < (x5_4.size : Int) := of_decide_eq_true (by first | (with_reducible assumption) | assumption); omega)
                        have hx54 : ∀ h : 0 < x5_4.size, ((x5_4[0]'h).toNat : Int) = bt x5_4 0 := bt_at x5_4 0
                        clear p54
                        have qi54 : (0 < (x5_4.size : Int)) = True := eq_true (of_decide_eq_true (by first | (with_reducible assumption) | assumption))
                        replace q54 := eq_true q54
                        have hcz67_0 : wr.cell? ⟨gb471, 0, none⟩ = some (.int .i64 t467) := (blk_cell BK471.out 0).trans rfl
                        have hcz67_1 : wr.cell? ⟨gb471, 1, none⟩ = some (.string t468) := (blk_cell BK471.out 1).trans rfl
                        have hfz67_0 := blk_frozen BK471.out 0
                        have hfz67_1 := blk_frozen BK471.out 1
                        have p59 : 0 ≤ (0 : Int) := (by omega)
                        have q59 : 0 < t468.size := (by have : (0 : Int) < (t468.size : Int) := of_decide_eq_true (by first | (with_reducible assumption) | assumption); omega)
                        have hx59 : ∀ h : 0 < t468.size, ((t468[0]'h).toNat : Int) = bt t468 0 := bt_at t468 0
                        clear p59
                        have qi59 : (0 < (t468.size : Int)) = True := eq_true (of_decide_eq_true (by first | (with_reducible assumption) | assumption))
                        replace q59 := eq_true q59
                        have p63 : 0 ≤ (0 : Int) := (by omega)
                        have q63 : 0 < t468.size := (by have : (0 : Int) < (t468.size : Int) := of_decide_eq_true (by first | (with_reducible assumption) | assumption); omega)
                        have hx63 : ∀ h : 0 < t468.size, ((t468[0]'h).toNat : Int) = bt t468 0 := bt_at t468 0
                        clear p63
                        have qi63 : (0 < (t468.size : Int)) = True := eq_true (of_decide_eq_true (by first | (with_reducible assumption) | assumption))
                        replace q63 := eq_true q63
                        have p66 : 0 ≤ (1 : Int) := (by omega)
                        have q66 : 1 < t468.size := (by have : (1 : Int) < (t468.size : Int) := of_decide_eq_true (by first | (with_reducible assumption) | assumption); omega)
                        have hx66 : ∀ h : 1 < t468.size, ((t468[1]'h).toNat : Int) = bt t468 1 := bt_at t468 1
                        clear p66
                        have qi66 : (1 < (t468.size : Int)) = True := eq_true (of_decide_eq_true (by first | (with_reducible assumption) | assumption))
                        replace q66 := eq_true q66
                        go_wp2
                        go_ret
                        exact ⟨by first | rfl | (simp [errW_none, errW_some] <;> rfl) | (simp only [← hji15]; first | rfl | (simp [errW_none, errW_some] <;> rfl)) | (simp [*, errW_none, errW_some] <;> rfl), by repeat (first | (with_reducible first | exact HB.out | apply below_alloc | apply pw_below_drewN | apply below_drew1 | refine below_set ?_ GE471.out) | exact HB.out)⟩
                       ·rw [if_neg c65] at H
                        exact absurd H (by simp)
                      ·rw [if_neg c64] at H
                       have c64b0 : ((bt t468 0) == 0) = false := beq_eq_false_iff_ne.mpr c64
                       have c64b1 : ((bt t468 0) != 0) = true := bne_iff_ne.mpr c64
                       obtain rfl := Option.some.inj H
                       have p54 : 0 ≤ (0 : Int) := (by omega)
                       have q54 : 0 < x5_4.size := (by have : (0 : Int) < (x5_4.size : Int) := of_decide_eq_true (by first | (with_reducible assumption) | assumption); omega)
                       have hx54 : ∀ h : 0 < x5_4.size, ((x5_4[0]'h).toNat : Int) = bt x5_4 0 := bt_at x5_4 0
                       clear p54
                       have qi54 : (0 < (x5_4.size : Int)) = True := eq_true (of_decide_eq_true (by first | (with_reducible assumption) | assumption))
                       replace q54 := eq_true q54
                       have hcz68_0 : wr.cell? ⟨gb471, 0, none⟩ = some (.int .i64 t467) := (blk_cell BK471.out 0).trans rfl
                       have hcz68_1 : wr.cell? ⟨gb471, 1, none⟩ = some (.string t468) := (blk_cell BK471.out 1).trans rfl
                       have hfz68_0 := blk_frozen BK471.out 0
                       have hfz68_1 := blk_frozen BK471.out 1
                       have p59 : 0 ≤ (0 : Int) := (by omega)
                       have q59 : 0 < t468.size := (by have : (0 : Int) < (t468.size : Int) := of_decide_eq_true (by first | (with_reducible assumption) | assumption); omega)
                       have hx59 : ∀ h : 0 < t468.size, ((t468[0]'h).toNat : Int) = bt t468 0 := bt_at t468 0
                       clear p59
                       have qi59 : (0 < (t468.size : Int)) = True := eq_true (of_decide_eq_true (by first | (with_reducible assumption) | assumption))
                       replace q59 := eq_true q59
                       have p63 : 0 ≤ (0 : Int) := (by omega)
                       have q63 : 0 < t468.size := (by have : (0 : Int) < (t468.size : Int) := of_decide_eq_true (by first | (with_reducible assumption) | assumption); omega)
                       have hx63 : ∀ h : 0 < t468.size, ((t468[0]'h).toNat : Int) = bt t468 0 := bt_at t468 0
                       clear p63
                       have qi63 : (0 < (t468.size : Int)) = True := eq_true (of_decide_eq_true (by first | (with_reducible assumption) | assumption))
                       replace q63 := eq_true q63
                       go_wp2
                       go_ret
                       exact ⟨by first | rfl | (simp [errW_none, errW_some] <;> rfl) | (simp only [← hji15]; first | rfl | (simp [errW_none, errW_some] <;> rfl)) | (simp [*, errW_none, errW_some] <;> rfl), by repeat (first | (with_reducible first | exact HB.out | apply below_alloc | apply pw_below_drewN | apply below_drew1 | refine below_set ?_ GE471.out) | exact HB.out)⟩
                    ·rw [if_neg c60] at H
                     have c60b0 : decide ((bt t468 0) < 128) = false := decide_eq_false c60
                     clear c60
                     exact absurd ((Option.some.inj H).trans hr.out) (by decide)
                   ·rw [if_neg c58] at H
                    exact absurd H (by simp)
                  ·rw [if_neg c57] at H
                   have c57b0 : (x15_46.toList == x5_4.toList) = false := beq_eq_false_iff_ne.mpr c57
                   have c57b1 : (x15_46.toList != x5_4.toList) = true := bne_iff_ne.mpr c57
                   exact absurd ((Option.some.inj H).trans hr.out) (by decide)
                ·rw [if_neg c53] at H
                 have c53b0 : decide (0 < (x5_4.size : Int)) = false := decide_eq_false c53
                 have c53b1 : decide (0 < x5_4.size) = false := decide_eq_false (by omega)
                 clear c53
                 by_cases c69 : x15_46.toList = x5_4.toList
                 ·rw [if_pos c69] at H
                  have c69b0 : (x15_46.toList == x5_4.toList) = true := beq_iff_eq.mpr c69
                  have c69b1 : (x15_46.toList != x5_4.toList) = false := bne_eq_false_iff_eq.mpr c69
                  clear c69
                  by_cases c70 : 0 < (t468.size : Int)
                  ·rw [if_pos c70] at H
                   have c70b0 : decide (0 < (t468.size : Int)) = true := decide_eq_true c70
                   have c70b1 : decide (0 < t468.size) = true := decide_eq_true (by omega)
                   clear c70
                   by_cases c72 : (bt t468 0) < 128
                   ·rw [if_pos c72] at H
                    have c72b0 : decide ((bt t468 0) < 128) = true := decide_eq_true c72
                    clear c72
                    by_cases c73 : (t468.size : Int) = 1
                    ·rw [if_pos c73] at H
                     have c73b0 : ((t468.size : Int) == 1) = true := beq_iff_eq.mpr c73
                     have c73b1 : ((t468.size : Int) != 1) = false := bne_eq_false_iff_eq.mpr c73
                     clear c73
                     obtain rfl := Option.some.inj H
                     have hcz74_0 : wr.cell? ⟨gb471, 0, none⟩ = some (.int .i64 t467) := (blk_cell BK471.out 0).trans rfl
                     have hcz74_1 : wr.cell? ⟨gb471, 1, none⟩ = some (.string t468) := (blk_cell BK471.out 1).trans rfl
                     have hfz74_0 := blk_frozen BK471.out 0
                     have hfz74_1 := blk_frozen BK471.out 1
                     have p71 : 0 ≤ (0 : Int) := (by omega)
                     have q71 : 0 < t468.size := (by have : (0 : Int) < (t468.size : Int) := of_decide_eq_true (by first | (with_reducible assumption) | assumption); omega)
                     have hx71 : ∀ h : 0 < t468.size, ((t468[0]'h).toNat : Int) = bt t468 0 := bt_at t468 0
                     clear p71
                     have qi71 : (0 < (t468.size : Int)) = True := eq_true (of_decide_eq_true (by first | (with_reducible assumption) | assumption))
                     replace q71 := eq_true q71
                     go_wp2
                     go_ret
                     exact ⟨by first | rfl | (simp [errW_none, errW_some] <;> rfl) | (simp only [← hji15]; first | rfl | (simp [errW_none, errW_some] <;> rfl)) | (simp [*, errW_none, errW_some] <;> rfl), by repeat (first | (with_reducible first | exact HB.out | apply below_alloc | apply pw_below_drewN | apply below_drew1 | refine below_set ?_ GE471.out) | exact HB.out)⟩
                    ·rw [if_neg c73] at H
                     have c73b0 : ((t468.size : Int) == 1) = false := beq_eq_false_iff_ne.mpr c73
                     have c73b1 : ((t468.size : Int) != 1) = true := bne_iff_ne.mpr c73
                     by_cases c76 : (bt t468 0) = 0
                     ·rw [if_pos c76] at H
                      have c76b0 : ((bt t468 0) == 0) = true := beq_iff_eq.mpr c76
                      have c76b1 : ((bt t468 0) != 0) = false := bne_eq_false_iff_eq.mpr c76
                      clear c76
                      by_cases c77 : 1 < (t468.size : Int)
                      ·rw [if_pos c77] at H
                       have c77b0 : decide (1 < (t468.size : Int)) = true := decide_eq_true c77
                       have c77b1 : decide (1 < t468.size) = true := decide_eq_true (by omega)
                       clear c77
                       obtain rfl := Option.some.inj H
                       have hcz79_0 : wr.cell? ⟨gb471, 0, none⟩ = some (.int .i64 t467) := (blk_cell BK471.out 0).trans rfl
                       have hcz79_1 : wr.cell? ⟨gb471, 1, none⟩ = some (.string t468) := (blk_cell BK471.out 1).trans rfl
                       have hfz79_0 := blk_frozen BK471.out 0
                       have hfz79_1 := blk_frozen BK471.out 1
                       have p71 : 0 ≤ (0 : Int) := (by omega)
                       have q71 : 0 < t468.size := (by have : (0 : Int) < (t468.size : Int) := of_decide_eq_true (by first | (with_reducible assumption) | assumption); omega)
                       have hx71 : ∀ h : 0 < t468.size, ((t468[0]'h).toNat : Int) = bt t468 0 := bt_at t468 0
                       clear p71
                       have qi71 : (0 < (t468.size : Int)) = True := eq_true (of_decide_eq_true (by first | (with_reducible assumption) | assumption))
                       replace q71 := eq_true q71
                       have p75 : 0 ≤ (0 : Int) := (by omega)
                       have q75 : 0 < t468.size := (by have : (0 : Int) < (t468.size : Int) := of_decide_eq_true (by first | (with_reducible assumption) | assumption); omega)
                       have hx75 : ∀ h : 0 < t468.size, ((t468[0]'h).toNat : Int) = bt t468 0 := bt_at t468 0
                       clear p75
                       have qi75 : (0 < (t468.size : Int)) = True := eq_true (of_decide_eq_true (by first | (with_reducible assumption) | assumption))
                       replace q75 := eq_true q75
                       have p78 : 0 ≤ (1 : Int) := (by omega)
                       have q78 : 1 < t468.size := (by have : (1 : Int) < (t468.size : Int) := of_decide_eq_true (by first | (with_reducible assumption) | assumption); omega)
                       have hx78 : ∀ h : 1 < t468.size, ((t468[1]'h).toNat : Int) = bt t468 1 := bt_at t468 1
                       clear p78
                       have qi78 : (1 < (t468.size : Int)) = True := eq_true (of_decide_eq_true (by first | (with_reducible assumption) | assumption))
                       replace q78 := eq_true q78
                       go_wp2
                       go_ret
                       exact ⟨by first | rfl | (simp [errW_none, errW_some] <;> rfl) | (simp only [← hji15]; first | rfl | (simp [errW_none, errW_some] <;> rfl)) | (simp [*, errW_none, errW_some] <;> rfl), by repeat (first | (with_reducible first | exact HB.out | apply below_alloc | apply pw_below_drewN | apply below_drew1 | refine below_set ?_ GE471.out) | exact HB.out)⟩
                      ·rw [if_neg c77] at H
                       exact absurd H (by simp)
                     ·rw [if_neg c76] at H
                      have c76b0 : ((bt t468 0) == 0) = false := beq_eq_false_iff_ne.mpr c76
                      have c76b1 : ((bt t468 0) != 0) = true := bne_iff_ne.mpr c76
                      obtain rfl := Option.some.inj H
                      have hcz80_0 : wr.cell? ⟨gb471, 0, none⟩ = some (.int .i64 t467) := (blk_cell BK471.out 0).trans rfl
                      have hcz80_1 : wr.cell? ⟨gb471, 1, none⟩ = some (.string t468) := (blk_cell BK471.out 1).trans rfl
                      have hfz80_0 := blk_frozen BK471.out 0
                      have hfz80_1 := blk_frozen BK471.out 1
                      have p71 : 0 ≤ (0 : Int) := (by omega)
                      have q71 : 0 < t468.size := (by have : (0 : Int) < (t468.size : Int) := of_decide_eq_true (by first | (with_reducible assumption) | assumption); omega)
                      have hx71 : ∀ h : 0 < t468.size, ((t468[0]'h).toNat : Int) = bt t468 0 := bt_at t468 0
                      clear p71
                      have qi71 : (0 < (t468.size : Int)) = True := eq_true (of_decide_eq_true (by first | (with_reducible assumption) | assumption))
                      replace q71 := eq_true q71
                      have p75 : 0 ≤ (0 : Int) := (by omega)
                      have q75 : 0 < t468.size := (by have : (0 : Int) < (t468.size : Int) := of_decide_eq_true (by first | (with_reducible assumption) | assumption); omega)
                      have hx75 : ∀ h : 0 < t468.size, ((t468[0]'h).toNat : Int) = bt t468 0 := bt_at t468 0
                      clear p75
                      have qi75 : (0 < (t468.size : Int)) = True := eq_true (of_decide_eq_true (by first | (with_reducible assumption) | assumption))
                      replace q75 := eq_true q75
                      go_wp2
                      go_ret
                      exact ⟨by first | rfl | (simp [errW_none, errW_some] <;> rfl) | (simp only [← hji15]; first | rfl | (simp [errW_none, errW_some] <;> rfl)) | (simp [*, errW_none, errW_some] <;> rfl), by repeat (first | (with_reducible first | exact HB.out | apply below_alloc | apply pw_below_drewN | apply below_drew1 | refine below_set ?_ GE471.out) | exact HB.out)⟩
                   ·rw [if_neg c72] at H
                    have c72b0 : decide ((bt t468 0) < 128) = false := decide_eq_false c72
                    clear c72
                    exact absurd ((Option.some.inj H).trans hr.out) (by decide)
                  ·rw [if_neg c70] at H
                   exact absurd H (by simp)
                 ·rw [if_neg c69] at H
                  have c69b0 : (x15_46.toList == x5_4.toList) = false := beq_eq_false_iff_ne.mpr c69
                  have c69b1 : (x15_46.toList != x5_4.toList) = true := bne_iff_ne.mpr c69
                  exact absurd ((Option.some.inj H).trans hr.out) (by decide)
        ·rw [if_neg c17] at H
         exact absurd H (by simp)
       ·rw [if_neg c16] at H
        exact absurd H (by simp)
      ·rw [if_neg c13] at H
       exact absurd H (by simp)
     ·rw [if_neg c12] at H
      exact absurd H (by simp)
    ·rw [if_neg c11] at H
     exact absurd H (by simp)
 ·replace c4 := Bool.eq_false_iff.mpr c4
  subst c4
  have H1 : (some false) = some r := by rw [if_neg (show ¬ (false = true) by decide)] at H; exact H
  clear H
  have H := H1
  clear H1
  exact absurd ((Option.some.inj H).trans hr.out) (by decide)

/-- THE ONE PURE STATEMENT of halberdlaw13_DerIntegers: yours. -/
def halberdlaw13_DerIntegers.Pure : Prop := ∀ (a0 : ByteArray) (a1 : Int), a0.size ≤ 140737488351232 → (Lit.int .i64 a1).wf = true → ∃ k, halberdlaw13_DerIntegers.f k a0 a1 = some true
theorem halberdlaw13_DerIntegers.walk (P : halberdlaw13_DerIntegers.Pure) (a0 : ByteArray) (a1 : Int) (w : World) (w0 : a0.size ≤ 140737488351232) (w1 : (Lit.int .i64 a1).wf = true) :
  Calls Try.prog 7 #[.string a0, .int .i64 a1] w fun e w' => e = .returned (.bool true) ∧ Below w.heap.size w w' := by
 obtain ⟨k, h⟩ := P a0 a1 w0 w1
 refine (halberdlaw13_DerIntegers.calls k a0 a1 true w h ⟨rfl⟩).mono ?_
 rintro e w' ⟨rfl, hd⟩
 exact ⟨rfl, hd⟩

end Go.Proofs.Ytonemdclfgckoaa.X
