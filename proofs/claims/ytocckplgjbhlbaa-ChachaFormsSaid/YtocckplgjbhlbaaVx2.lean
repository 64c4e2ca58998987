-- Written by a program of this session (wip/tools/xprint.py), over the kit's printer.
import Derived.Test.YtocckplgjbhlbaaVx0
import Derived.Test.YtocckplgjbhlbaaVx1
namespace Go.Proofs.Ytocckplgjbhlbaa.V
open Go.RowKit Go.Proofs.YtocckplgjbhlbaaW.PrintWords Go.Proofs.YtocckplgjbhlbaaW.PrintLast Go.Proofs.YtocckplgjbhlbaaW.PrintMore
attribute [local go_sem] max2_int min2_int max_two min_two max_three min_three max_four min_four   -- for this text's walks alone
set_option linter.unusedVariables false
set_option linter.unusedSimpArgs false

theorem PSET : (∀ (l : List Value) (i : Nat) (a : Value), l.toArray.setIfInBounds i a = (l.set i a).toArray) ∧ (∀ (x y : Value) (l : List Value), (x :: l).set 0 y = y :: l) ∧ (∀ (x y : Value) (l : List Value) (n : Nat), (x :: l).set (n + 1) y = x :: l.set n y) := ⟨fun _ _ _ => List.setIfInBounds_toArray .., fun _ _ _ => rfl, fun _ _ _ _ => rfl⟩
abbrev nq (k : Nat) (v : Value) : Prop := some k ≠ v.ownBlock
abbrev RU (w w' : World) (ok : Nat → Prop) (v : Value) (xs : List Int) : Prop := Kd.R (Kd.int .u8) 5 w' w.heap.size ok v xs
theorem LSET9_ : (∀ (l : List Value) (i : Nat) (a : Value), l.toArray.setIfInBounds i a = (l.set i a).toArray) ∧ (∀ (x y : Value) (l : List Value), (x :: l).set 0 y = y :: l) ∧ (∀ (x y : Value) (l : List Value) (n : Nat), (x :: l).set (n + 1) y = x :: l.set n y) ∧ (∀ n : Int, IntKind.i64.wrap n = Go.RowKit.wrap64 n) ∧ (∀ n : Int, IntKind.i32.wrap n = Go.RowKit.wrap32 n) := ⟨fun l i a => List.setIfInBounds_toArray .., fun x y l => List.set_cons_zero .., fun x y l n => List.set_cons_succ .., i64_w, i32_w⟩

/-! ### halberdlaw6_ChachaForms: function 6 -/
def halberdlaw6_ChachaForms.j0 : Nat → Int → Int → Int → Bool → Option (Bool)
 | 0, _, _, _, _ => none
 | k + 1, x1, x7, x8, x9 => if 0 ≤ x7 then (if (x7 : Int).toNat ≤ 281474976710656 then (if 0 ≤ x8 then (if (x8 : Int).toNat ≤ 281474976710656 then ((chacha_Block.f (strOfNums (List.replicate (x7 : Int).toNat 0)) x1 (strOfNums (List.replicate (x8 : Int).toNat 0))).bind fun bt123 => ((chacha_Xor.f (strOfNums (List.replicate (x7 : Int).toNat 0)) x1 (strOfNums (List.replicate (x8 : Int).toNat 0)) (⟨#[97]⟩ : ByteArray)).bind fun bt131 => (if 32 ≤ 281474976710656 then (if 12 ≤ 281474976710656 then (if 65537 ≤ 281474976710656 then ((chacha_Xor.f (strOfNums (List.replicate 32 0)) 0 (strOfNums (List.replicate 12 0)) (strOfNums (List.replicate 65537 0))).bind fun bt142 => ((halberdlaw0_Num.f bt123.2).bind fun t144 => (if t144 = 0 then (if x9 = true then ((halberdlaw0_Num.f bt131.2).bind fun t145 => (if t145 = 0 then ((halberdlaw0_Num.f bt142.2).bind fun t146 => (some (t146 == 600))) else (some false))) else (some false)) else (if x9 = true then (some false) else ((halberdlaw0_Num.f bt131.2).bind fun t147 => (if t147 = 0 then (some false) else ((halberdlaw0_Num.f bt123.2).bind fun t148 => (if t148 = 600 then ((halberdlaw0_Num.f bt131.2).bind fun t149 => (if t149 = 600 then ((halberdlaw0_Num.f bt142.2).bind fun t150 => (some (t150 == 600))) else (some false))) else (some false))))))))) else (none)) else (none)) else (none)))) else (none)) else (none)) else (none)) else (none)
def halberdlaw6_ChachaForms.f (k : Nat) (a0 : Int) (a1 : Int) (a2 : Int) : Option (Bool) := (halberdlaw6_awake.f).bind fun t116 => (if t116 = true then (if (wrap64 (28 + (Go.bits .and .i64 a0 7))) = 32 then (if (wrap64 (8 + (Go.bits .and .i64 a2 7))) = 12 then (if a1 ≥ 0 then (halberdlaw6_ChachaForms.j0 k a1 (wrap64 (28 + (Go.bits .and .i64 a0 7))) (wrap64 (8 + (Go.bits .and .i64 a2 7))) (decide (a1 ≤ 4294967295))) else (halberdlaw6_ChachaForms.j0 k a1 (wrap64 (28 + (Go.bits .and .i64 a0 7))) (wrap64 (8 + (Go.bits .and .i64 a2 7))) false)) else (halberdlaw6_ChachaForms.j0 k a1 (wrap64 (28 + (Go.bits .and .i64 a0 7))) (wrap64 (8 + (Go.bits .and .i64 a2 7))) false)) else (halberdlaw6_ChachaForms.j0 k a1 (wrap64 (28 + (Go.bits .and .i64 a0 7))) (wrap64 (8 + (Go.bits .and .i64 a2 7))) false)) else (some false))
theorem halberdlaw6_ChachaForms.mono_l : ∀ k, (∀ y0 y1 y2 y3, LeO (halberdlaw6_ChachaForms.j0 k y0 y1 y2 y3) (halberdlaw6_ChachaForms.j0 (k + 1) y0 y1 y2 y3))
 | 0 => fun _ _ _ _ r h => by simp [halberdlaw6_ChachaForms.j0] at h
 | k + 1 => by
  have ih0 := halberdlaw6_ChachaForms.mono_l k
  ·intro y0 y1 y2 y3
   unfold halberdlaw6_ChachaForms.j0
   repeat' first
   | (with_reducible exact ih0 _ _ _ _)
   | (with_reducible exact LeO.refl _)
   | (with_reducible exact LeO.none _)
   | (with_reducible refine LeO.ite ?_ ?_)
   | (with_reducible refine LeO.bind ?_ (fun _ => ?_))
   | exact ih0 _ _ _ _
   | exact LeO.none _
   | refine LeO.ite ?_ ?_
   | refine LeO.bind ?_ (fun _ => ?_)
theorem halberdlaw6_ChachaForms.mono : ∀ a0 a1 a2 k, LeO (halberdlaw6_ChachaForms.f k a0 a1 a2) (halberdlaw6_ChachaForms.f (k + 1) a0 a1 a2) := by
 intro a0 a1 a2 k
 have ih0 := halberdlaw6_ChachaForms.mono_l k
 unfold halberdlaw6_ChachaForms.f
 repeat' first
   | (with_reducible exact ih0 _ _ _ _)
   | (with_reducible exact LeO.refl _)
   | (with_reducible exact LeO.none _)
   | (with_reducible refine LeO.ite ?_ ?_)
   | (with_reducible refine LeO.bind ?_ (fun _ => ?_))
   | exact ih0 _ _ _ _
   | exact LeO.none _
   | refine LeO.ite ?_ ?_
   | refine LeO.bind ?_ (fun _ => ?_)
def halberdlaw6_ChachaForms.T5 : Bool × List (List Nat × List Nat) := (true, [([], []), ([0, 0], [0]), ([1], [1]), ([], []), ([], []), ([4, 4], [4]), ([5], [5]), ([2, 3, 6], [2, 3, 6]), ([7], [7]), ([8], [8]), ([8], [8]), ([9, 7, 0, 1, 2, 3, 4, 5, 6, 7, 8, 9], [9]), ([10, 11, 0, 1, 2, 3, 4, 5, 6, 7, 8, 9, 10, 11], [10])])
def halberdlaw6_ChachaForms.B5 : List Nat := [0, 1, 3, 0, 0, 16, 48, 127, 255, 511, 511, 1023, 4095]
theorem halberdlaw6_ChachaForms.tab5 : rtab .any (opsOf Try.f6 5) = halberdlaw6_ChachaForms.T5 := by kernel_rfl
theorem halberdlaw6_ChachaForms.bits5 : waitsOk halberdlaw6_ChachaForms.T5.2 halberdlaw6_ChachaForms.B5 = true := by kernel_rfl
def halberdlaw6_ChachaForms.T6 : Bool × List (List Nat × List Nat) := (true, [([], []), ([0, 0], [0]), ([1], [1]), ([], []), ([], []), ([4, 4], [4]), ([5], [5]), ([2, 3, 6], [2, 3, 6]), ([7], [7]), ([8], [8]), ([8], [8]), ([9, 7, 0, 1, 2, 3, 4, 5, 6, 7, 8, 9], [9]), ([10, 11, 0, 1, 2, 3, 4, 5, 6, 7, 8, 9, 10, 11], [10])])
def halberdlaw6_ChachaForms.B6 : List Nat := [0, 1, 3, 0, 0, 16, 48, 127, 255, 511, 511, 1023, 4095]
theorem halberdlaw6_ChachaForms.tab6 : rtab .any (opsOf Try.f6 6) = halberdlaw6_ChachaForms.T6 := by kernel_rfl
theorem halberdlaw6_ChachaForms.bits6 : waitsOk halberdlaw6_ChachaForms.T6.2 halberdlaw6_ChachaForms.B6 = true := by kernel_rfl
def halberdlaw6_ChachaForms.T7 : Bool × List (List Nat × List Nat) := (true, [([], []), ([0], [0]), ([], []), ([2], [2]), ([], []), ([4], [4]), ([1, 3, 5], [1, 3, 5]), ([6], [6]), ([7], [7]), ([7], [7]), ([8, 6, 0, 1, 2, 3, 4, 5, 6, 7, 8], [8]), ([9, 10, 0, 1, 2, 3, 4, 5, 6, 7, 8, 9, 10], [9])])
def halberdlaw6_ChachaForms.B7 : List Nat := [0, 1, 0, 4, 0, 16, 63, 127, 255, 255, 511, 2047]
theorem halberdlaw6_ChachaForms.tab7 : rtab .any (opsOf Try.f6 7) = halberdlaw6_ChachaForms.T7 := by kernel_rfl
theorem halberdlaw6_ChachaForms.bits7 : waitsOk halberdlaw6_ChachaForms.T7.2 halberdlaw6_ChachaForms.B7 = true := by kernel_rfl
set_option maxHeartbeats 8000000 in
set_option maxRecDepth 100000 in
theorem halberdlaw6_ChachaForms.calls (k : Nat) (a0 : Int) (a1 : Int) (a2 : Int) (r : Bool) (w : World) (h : halberdlaw6_ChachaForms.f k a0 a1 a2 = some r) (hr : Aside0 (r = true)) :
  Calls Try.prog 6 #[.int .i64 a0, .int .i64 a1, .int .i64 a2] w fun e w' => e = .returned (.bool r) ∧ Below w.heap.size w w' := by
 have HB := Aside0.mk (Below.refl w.heap.size w)
 have H : ((halberdlaw6_awake.f).bind fun t116 => (if t116 = true then (if (wrap64 (28 + (Go.bits .and .i64 a0 7))) = 32 then (if (wrap64 (8 + (Go.bits .and .i64 a2 7))) = 12 then (if a1 ≥ 0 then (halberdlaw6_ChachaForms.j0 k a1 (wrap64 (28 + (Go.bits .and .i64 a0 7))) (wrap64 (8 + (Go.bits .and .i64 a2 7))) (decide (a1 ≤ 4294967295))) else (halberdlaw6_ChachaForms.j0 k a1 (wrap64 (28 + (Go.bits .and .i64 a0 7))) (wrap64 (8 + (Go.bits .and .i64 a2 7))) false)) else (halberdlaw6_ChachaForms.j0 k a1 (wrap64 (28 + (Go.bits .and .i64 a0 7))) (wrap64 (8 + (Go.bits .and .i64 a2 7))) false)) else (halberdlaw6_ChachaForms.j0 k a1 (wrap64 (28 + (Go.bits .and .i64 a0 7))) (wrap64 (8 + (Go.bits .and .i64 a2 7))) false)) else (some false))) = some r := h
 clear h
 replace H := Option.bind_eq_some_iff.mp H
 obtain ⟨t116, A40, H⟩ := H
 replace H : (if t116 = true then (if (wrap64 (28 + (Go.bits .and .i64 a0 7))) = 32 then (if (wrap64 (8 + (Go.bits .and .i64 a2 7))) = 12 then (if a1 ≥ 0 then (halberdlaw6_ChachaForms.j0 k a1 (wrap64 (28 + (Go.bits .and .i64 a0 7))) (wrap64 (8 + (Go.bits .and .i64 a2 7))) (decide (a1 ≤ 4294967295))) else (halberdlaw6_ChachaForms.j0 k a1 (wrap64 (28 + (Go.bits .and .i64 a0 7))) (wrap64 (8 + (Go.bits .and .i64 a2 7))) false)) else (halberdlaw6_ChachaForms.j0 k a1 (wrap64 (28 + (Go.bits .and .i64 a0 7))) (wrap64 (8 + (Go.bits .and .i64 a2 7))) false)) else (halberdlaw6_ChachaForms.j0 k a1 (wrap64 (28 + (Go.bits .and .i64 a0 7))) (wrap64 (8 + (Go.bits .and .i64 a2 7))) false)) else (some false)) = some r := H
 have A4 := Aside0.mk A40
 clear A40
 by_cases c5 : t116 = true
 ·subst c5
  have H1 : (if (wrap64 (28 + (Go.bits .and .i64 a0 7))) = 32 then (if (wrap64 (8 + (Go.bits .and .i64 a2 7))) = 12 then (if a1 ≥ 0 then (halberdlaw6_ChachaForms.j0 k a1 (wrap64 (28 + (Go.bits .and .i64 a0 7))) (wrap64 (8 + (Go.bits .and .i64 a2 7))) (decide (a1 ≤ 4294967295))) else (halberdlaw6_ChachaForms.j0 k a1 (wrap64 (28 + (Go.bits .and .i64 a0 7))) (wrap64 (8 + (Go.bits .and .i64 a2 7))) false)) else (halberdlaw6_ChachaForms.j0 k a1 (wrap64 (28 + (Go.bits .and .i64 a0 7))) (wrap64 (8 + (Go.bits .and .i64 a2 7))) false)) else (halberdlaw6_ChachaForms.j0 k a1 (wrap64 (28 + (Go.bits .and .i64 a0 7))) (wrap64 (8 + (Go.bits .and .i64 a2 7))) false)) = some r := by rw [if_pos rfl] at H; exact H
  clear H
  have H := H1
  clear H1
  have HC6 := Aside0.mk H
  clear H
  go_enter Try.func6, Try.ntmps6
  go_upto_region 4 with (first | ((with_reducible refine gate_callee (f := 17) rfl ?_); refine goesL_ (some 16) rfl rfl Try.func17 (by kernel_rfl) rfl #[] rfl (by (try simp only [List.map_toArray, List.map_cons, List.map_nil]); first | done | rfl | (simp only [List.length_drop, List.length_take]; rfl)) ?_; (with_reducible refine (halberdlaw6_awake.calls  true _ A4.out).mono ?_); rintro e w7 ⟨rfl, hb⟩; refine ⟨_, rfl, ?_⟩; have n0_ := Aside0.mk (below_step (by repeat (first | (with_reducible first | exact HB.out | apply below_alloc | apply pw_below_drewN | apply below_drew1) | exact HB.out)) hb); clear HB; have HB := n0_; clear n0_; (try clear hb); (try clear hb2); (try clear hk); (try clear hi)))
  (try simp only [Act.put, List.setIfInBounds_toArray, List.set_cons_zero, List.set_cons_succ])
  go_cut [9] (fun v9 wc => ∃ (kq : Nat) (x9_5 : Bool), v9 = .bool x9_5 ∧ Aside0 (halberdlaw6_ChachaForms.j0 kq a1 (wrap64 (28 + (Go.bits .and .i64 a0 7))) (wrap64 (8 + (Go.bits .and .i64 a2 7))) x9_5 = some r) ∧ Aside0 (kq ≤ k) ∧ Aside0 (Below w.heap.size w wc))
  case first =>
   have H := HC6.out
   clear HC6
   by_cases c8 : (wrap64 (28 + (Go.bits .and .i64 a0 7))) = 32
   ·rw [if_pos c8] at H
    have c8b0 : ((wrap64 (28 + (Go.bits .and .i64 a0 7))) == 32) = true := beq_iff_eq.mpr c8
    have c8b1 : ((wrap64 (28 + (Go.bits .and .i64 a0 7))) != 32) = false := bne_eq_false_iff_eq.mpr c8
    clear c8
    (first | rw [c8b0] | (simp only [i64_w, i32_w]; rw [c8b0]) | skip)
    by_cases c9 : (wrap64 (8 + (Go.bits .and .i64 a2 7))) = 12
    ·rw [if_pos c9] at H
     have c9b0 : ((wrap64 (8 + (Go.bits .and .i64 a2 7))) == 12) = true := beq_iff_eq.mpr c9
     have c9b1 : ((wrap64 (8 + (Go.bits .and .i64 a2 7))) != 12) = false := bne_eq_false_iff_eq.mpr c9
     clear c9
     by_cases c10 : a1 ≥ 0
     ·rw [if_pos c10] at H
      have c10b0 : decide (0 ≤ a1) = true := decide_eq_true c10
      clear c10
      have H' := Aside0.mk H
      clear H
      go_wp2
      go_meet
      case rel => exact ⟨_, (decide (a1 ≤ 4294967295)), (by first | rfl | (simp; done) | (simp [*]; done)), H', ⟨by first | omega | exact Nat.le_refl _⟩, ⟨by repeat (first | (with_reducible first | exact HB.out | apply below_alloc | apply pw_below_drewN | apply below_drew1) | exact HB.out)⟩⟩
     ·rw [if_neg c10] at H
      have c10b0 : decide (0 ≤ a1) = false := decide_eq_false c10
      clear c10
      have H' := Aside0.mk H
      clear H
      go_wp2
      go_meet
      case rel => exact ⟨_, (false), (by first | rfl | (simp; done) | (simp [*]; done)), H', ⟨by first | omega | exact Nat.le_refl _⟩, ⟨by repeat (first | (with_reducible first | exact HB.out | apply below_alloc | apply pw_below_drewN | apply below_drew1) | exact HB.out)⟩⟩
    ·rw [if_neg c9] at H
     have c9b0 : ((wrap64 (8 + (Go.bits .and .i64 a2 7))) == 12) = false := beq_eq_false_iff_ne.mpr c9
     have c9b1 : ((wrap64 (8 + (Go.bits .and .i64 a2 7))) != 12) = true := bne_iff_ne.mpr c9
     have H' := Aside0.mk H
     clear H
     go_wp2
     go_meet
     case rel => exact ⟨_, (false), (by first | rfl | (simp; done) | (simp [*]; done)), H', ⟨by first | omega | exact Nat.le_refl _⟩, ⟨by repeat (first | (with_reducible first | exact HB.out | apply below_alloc | apply pw_below_drewN | apply below_drew1) | exact HB.out)⟩⟩
   ·rw [if_neg c8] at H
    have c8b0 : ((wrap64 (28 + (Go.bits .and .i64 a0 7))) == 32) = false := beq_eq_false_iff_ne.mpr c8
    have c8b1 : ((wrap64 (28 + (Go.bits .and .i64 a0 7))) != 32) = true := bne_iff_ne.mpr c8
    (first | rw [c8b0] | (simp only [i64_w, i32_w]; rw [c8b0]) | skip)
    have H' := Aside0.mk H
    clear H
    go_wp2
    go_meet
    case rel => exact ⟨_, (false), (by first | rfl | (simp; done) | (simp [*]; done)), H', ⟨by first | omega | exact Nat.le_refl _⟩, ⟨by repeat (first | (with_reducible first | exact HB.out | apply below_alloc | apply pw_below_drewN | apply below_drew1) | exact HB.out)⟩⟩
  case rest =>
   clear HC6
   try clear c1
   try clear p2
   try clear c5
   try clear c6
   try clear p6
   try clear c8
   try clear c8b0
   try clear c8b1
   try clear c9
   try clear c9b0
   try clear c9b1
   try clear c10
   try clear c10b0
   obtain ⟨kq, x9_5, rfl, HA, HJ5, HB⟩ := hcut
   cases kq with
   | zero => exact absurd HA.out (by simp [halberdlaw6_ChachaForms.j0])
   | succ kj5 =>
    have H := HA.out
    clear HA
    simp only [halberdlaw6_ChachaForms.j0] at H
    obtain ⟨ji11, hji11⟩ : ∃ j_ : Int, (wrap64 (28 + (Go.bits .and .i64 a0 7))) = j_ := ⟨_, rfl⟩
    replace H : (if 0 ≤ (ji11) then (if ((ji11) : Int).toNat ≤ 281474976710656 then (if 0 ≤ (wrap64 (8 + (Go.bits .and .i64 a2 7))) then (if ((wrap64 (8 + (Go.bits .and .i64 a2 7))) : Int).toNat ≤ 281474976710656 then ((chacha_Block.f (strOfNums (List.replicate ((ji11) : Int).toNat 0)) a1 (strOfNums (List.replicate ((wrap64 (8 + (Go.bits .and .i64 a2 7))) : Int).toNat 0))).bind fun bt123 => ((chacha_Xor.f (strOfNums (List.replicate ((ji11) : Int).toNat 0)) a1 (strOfNums (List.replicate ((wrap64 (8 + (Go.bits .and .i64 a2 7))) : Int).toNat 0)) (⟨#[97]⟩ : ByteArray)).bind fun bt131 => (if 32 ≤ 281474976710656 then (if 12 ≤ 281474976710656 then (if 65537 ≤ 281474976710656 then ((chacha_Xor.f (strOfNums (List.replicate 32 0)) 0 (strOfNums (List.replicate 12 0)) (strOfNums (List.replicate 65537 0))).bind fun bt142 => ((halberdlaw0_Num.f bt123.2).bind fun t144 => (if t144 = 0 then (if x9_5 = true then ((halberdlaw0_Num.f bt131.2).bind fun t145 => (if t145 = 0 then ((halberdlaw0_Num.f bt142.2).bind fun t146 => (some (t146 == 600))) else (some false))) else (some false)) else (if x9_5 = true then (some false) else ((halberdlaw0_Num.f bt131.2).bind fun t147 => (if t147 = 0 then (some false) else ((halberdlaw0_Num.f bt123.2).bind fun t148 => (if t148 = 600 then ((halberdlaw0_Num.f bt131.2).bind fun t149 => (if t149 = 600 then ((halberdlaw0_Num.f bt142.2).bind fun t150 => (some (t150 == 600))) else (some false))) else (some false))))))))) else (none)) else (none)) else (none)))) else (none)) else (none)) else (none)) else (none)) = some r := by first | (rw [hji11] at H; exact H) | (simp only [hji11] at H ⊢; exact H)
    have hji11w : (IntKind.i64.wrap (28 + (Go.bits .and .i64 a0 7))) = ji11 := (i64_w _).trans hji11
    by_cases c12 : 0 ≤ (ji11)
    rotate_left
    ·rw [if_neg c12] at H
     exact absurd H (by simp)
    rw [if_pos c12] at H
    have c12b0 := eq_true c12
    have c12b1 : decide (0 ≤ (ji11)) = true := decide_eq_true c12
    clear c12
    by_cases c13 : ((ji11) : Int).toNat ≤ 281474976710656
    rotate_left
    ·rw [if_neg c13] at H
     exact absurd H (by simp)
    rw [if_pos c13] at H
    have c13b0 := eq_true c13
    have c13b1 : decide (((ji11) : Int).toNat ≤ 281474976710656) = true := decide_eq_true c13
    clear c13
    obtain ⟨y117, hy117⟩ : ∃ y_ : List Int, y_ = (List.replicate ((ji11) : Int).toNat 0) := ⟨_, rfl⟩
    replace H : (if 0 ≤ (wrap64 (8 + (Go.bits .and .i64 a2 7))) then (if ((wrap64 (8 + (Go.bits .and .i64 a2 7))) : Int).toNat ≤ 281474976710656 then ((chacha_Block.f (strOfNums y117) a1 (strOfNums (List.replicate ((wrap64 (8 + (Go.bits .and .i64 a2 7))) : Int).toNat 0))).bind fun bt123 => ((chacha_Xor.f (strOfNums (List.replicate ((ji11) : Int).toNat 0)) a1 (strOfNums (List.replicate ((wrap64 (8 + (Go.bits .and .i64 a2 7))) : Int).toNat 0)) (⟨#[97]⟩ : ByteArray)).bind fun bt131 => (if 32 ≤ 281474976710656 then (if 12 ≤ 281474976710656 then (if 65537 ≤ 281474976710656 then ((chacha_Xor.f (strOfNums (List.replicate 32 0)) 0 (strOfNums (List.replicate 12 0)) (strOfNums (List.replicate 65537 0))).bind fun bt142 => ((halberdlaw0_Num.f bt123.2).bind fun t144 => (if t144 = 0 then (if x9_5 = true then ((halberdlaw0_Num.f bt131.2).bind fun t145 => (if t145 = 0 then ((halberdlaw0_Num.f bt142.2).bind fun t146 => (some (t146 == 600))) else (some false))) else (some false)) else (if x9_5 = true then (some false) else ((halberdlaw0_Num.f bt131.2).bind fun t147 => (if t147 = 0 then (some false) else ((halberdlaw0_Num.f bt123.2).bind fun t148 => (if t148 = 600 then ((halberdlaw0_Num.f bt131.2).bind fun t149 => (if t149 = 600 then ((halberdlaw0_Num.f bt142.2).bind fun t150 => (some (t150 == 600))) else (some false))) else (some false))))))))) else (none)) else (none)) else (none)))) else (none)) else (none)) = some r := by first | (rw [hy117]; with_reducible exact H) | (have H2_ := (Option.bind_some _ _).symm.trans H; rw [hy117]; with_reducible exact H2_) | (have H2_ := (Option.bind_some _ _).symm.trans H; with_reducible exact H2_) | with_reducible exact H | (rw [hy117]; exact H) | exact H
    have Ny117 := Aside0.mk hy117
    clear hy117
    obtain ⟨ji14, hji14⟩ : ∃ j_ : Int, (wrap64 (8 + (Go.bits .and .i64 a2 7))) = j_ := ⟨_, rfl⟩
    replace H : (if 0 ≤ (ji14) then (if ((ji14) : Int).toNat ≤ 281474976710656 then ((chacha_Block.f (strOfNums y117) a1 (strOfNums (List.replicate ((ji14) : Int).toNat 0))).bind fun bt123 => ((chacha_Xor.f (strOfNums (List.replicate ((ji11) : Int).toNat 0)) a1 (strOfNums (List.replicate ((ji14) : Int).toNat 0)) (⟨#[97]⟩ : ByteArray)).bind fun bt131 => (if 32 ≤ 281474976710656 then (if 12 ≤ 281474976710656 then (if 65537 ≤ 281474976710656 then ((chacha_Xor.f (strOfNums (List.replicate 32 0)) 0 (strOfNums (List.replicate 12 0)) (strOfNums (List.replicate 65537 0))).bind fun bt142 => ((halberdlaw0_Num.f bt123.2).bind fun t144 => (if t144 = 0 then (if x9_5 = true then ((halberdlaw0_Num.f bt131.2).bind fun t145 => (if t145 = 0 then ((halberdlaw0_Num.f bt142.2).bind fun t146 => (some (t146 == 600))) else (some false))) else (some false)) else (if x9_5 = true then (some false) else ((halberdlaw0_Num.f bt131.2).bind fun t147 => (if t147 = 0 then (some false) else ((halberdlaw0_Num.f bt123.2).bind fun t148 => (if t148 = 600 then ((halberdlaw0_Num.f bt131.2).bind fun t149 => (if t149 = 600 then ((halberdlaw0_Num.f bt142.2).bind fun t150 => (some (t150 == 600))) else (some false))) else (some false))))))))) else (none)) else (none)) else (none)))) else (none)) else (none)) = some r := by first | (rw [hji14] at H; exact H) | (simp only [hji14] at H ⊢; exact H)
    have hji14w : (IntKind.i64.wrap (8 + (Go.bits .and .i64 a2 7))) = ji14 := (i64_w _).trans hji14
    by_cases c15 : 0 ≤ (ji14)
    rotate_left
    ·rw [if_neg c15] at H
     exact absurd H (by simp)
    rw [if_pos c15] at H
    have c15b0 := eq_true c15
    have c15b1 : decide (0 ≤ (ji14)) = true := decide_eq_true c15
    clear c15
    by_cases c16 : ((ji14) : Int).toNat ≤ 281474976710656
    rotate_left
    ·rw [if_neg c16] at H
     exact absurd H (by simp)
    rw [if_pos c16] at H
    have c16b0 := eq_true c16
    have c16b1 : decide (((ji14) : Int).toNat ≤ 281474976710656) = true := decide_eq_true c16
    clear c16
    obtain ⟨y120, hy120⟩ : ∃ y_ : List Int, y_ = (List.replicate ((ji14) : Int).toNat 0) := ⟨_, rfl⟩
    replace H : ((chacha_Block.f (strOfNums y117) a1 (strOfNums y120)).bind fun bt123 => ((chacha_Xor.f (strOfNums (List.replicate ((ji11) : Int).toNat 0)) a1 (strOfNums (List.replicate ((ji14) : Int).toNat 0)) (⟨#[97]⟩ : ByteArray)).bind fun bt131 => (if 32 ≤ 281474976710656 then (if 12 ≤ 281474976710656 then (if 65537 ≤ 281474976710656 then ((chacha_Xor.f (strOfNums (List.replicate 32 0)) 0 (strOfNums (List.replicate 12 0)) (strOfNums (List.replicate 65537 0))).bind fun bt142 => ((halberdlaw0_Num.f bt123.2).bind fun t144 => (if t144 = 0 then (if x9_5 = true then ((halberdlaw0_Num.f bt131.2).bind fun t145 => (if t145 = 0 then ((halberdlaw0_Num.f bt142.2).bind fun t146 => (some (t146 == 600))) else (some false))) else (some false)) else (if x9_5 = true then (some false) else ((halberdlaw0_Num.f bt131.2).bind fun t147 => (if t147 = 0 then (some false) else ((halberdlaw0_Num.f bt123.2).bind fun t148 => (if t148 = 600 then ((halberdlaw0_Num.f bt131.2).bind fun t149 => (if t149 = 600 then ((halberdlaw0_Num.f bt142.2).bind fun t150 => (some (t150 == 600))) else (some false))) else (some false))))))))) else (none)) else (none)) else (none)))) = some r := by first | (rw [hy120]; with_reducible exact H) | (have H2_ := (Option.bind_some _ _).symm.trans H; rw [hy120]; with_reducible exact H2_) | (have H2_ := (Option.bind_some _ _).symm.trans H; with_reducible exact H2_) | with_reducible exact H | (rw [hy120]; exact H) | exact H
    have Ny120 := Aside0.mk hy120
    clear hy120
    replace H := Option.bind_eq_some_iff.mp H
    obtain ⟨⟨t123, t124⟩, A170, H⟩ := H
    replace H : ((chacha_Xor.f (strOfNums (List.replicate ((ji11) : Int).toNat 0)) a1 (strOfNums (List.replicate ((ji14) : Int).toNat 0)) (⟨#[97]⟩ : ByteArray)).bind fun bt131 => (if 32 ≤ 281474976710656 then (if 12 ≤ 281474976710656 then (if 65537 ≤ 281474976710656 then ((chacha_Xor.f (strOfNums (List.replicate 32 0)) 0 (strOfNums (List.replicate 12 0)) (strOfNums (List.replicate 65537 0))).bind fun bt142 => ((halberdlaw0_Num.f t124).bind fun t144 => (if t144 = 0 then (if x9_5 = true then ((halberdlaw0_Num.f bt131.2).bind fun t145 => (if t145 = 0 then ((halberdlaw0_Num.f bt142.2).bind fun t146 => (some (t146 == 600))) else (some false))) else (some false)) else (if x9_5 = true then (some false) else ((halberdlaw0_Num.f bt131.2).bind fun t147 => (if t147 = 0 then (some false) else ((halberdlaw0_Num.f t124).bind fun t148 => (if t148 = 600 then ((halberdlaw0_Num.f bt131.2).bind fun t149 => (if t149 = 600 then ((halberdlaw0_Num.f bt142.2).bind fun t150 => (some (t150 == 600))) else (some false))) else (some false))))))))) else (none)) else (none)) else (none))) = some r := H
    have A17 := Aside0.mk A170
    clear A170
    obtain ⟨y125, hy125⟩ : ∃ y_ : List Int, y_ = (List.replicate ((ji11) : Int).toNat 0) := ⟨_, rfl⟩
    replace H : ((chacha_Xor.f (strOfNums y125) a1 (strOfNums (List.replicate ((ji14) : Int).toNat 0)) (⟨#[97]⟩ : ByteArray)).bind fun bt131 => (if 32 ≤ 281474976710656 then (if 12 ≤ 281474976710656 then (if 65537 ≤ 281474976710656 then ((chacha_Xor.f (strOfNums (List.replicate 32 0)) 0 (strOfNums (List.replicate 12 0)) (strOfNums (List.replicate 65537 0))).bind fun bt142 => ((halberdlaw0_Num.f t124).bind fun t144 => (if t144 = 0 then (if x9_5 = true then ((halberdlaw0_Num.f bt131.2).bind fun t145 => (if t145 = 0 then ((halberdlaw0_Num.f bt142.2).bind fun t146 => (some (t146 == 600))) else (some false))) else (some false)) else (if x9_5 = true then (some false) else ((halberdlaw0_Num.f bt131.2).bind fun t147 => (if t147 = 0 then (some false) else ((halberdlaw0_Num.f t124).bind fun t148 => (if t148 = 600 then ((halberdlaw0_Num.f bt131.2).bind fun t149 => (if t149 = 600 then ((halberdlaw0_Num.f bt142.2).bind fun t150 => (some (t150 == 600))) else (some false))) else (some false))))))))) else (none)) else (none)) else (none))) = some r := by first | (rw [hy125]; with_reducible exact H) | (have H2_ := (Option.bind_some _ _).symm.trans H; rw [hy125]; with_reducible exact H2_) | (have H2_ := (Option.bind_some _ _).symm.trans H; with_reducible exact H2_) | with_reducible exact H | (rw [hy125]; exact H) | exact H
    have Ny125 := Aside0.mk hy125
    clear hy125
    obtain ⟨y128, hy128⟩ : ∃ y_ : List Int, y_ = (List.replicate ((ji14) : Int).toNat 0) := ⟨_, rfl⟩
    replace H : ((chacha_Xor.f (strOfNums y125) a1 (strOfNums y128) (⟨#[97]⟩ : ByteArray)).bind fun bt131 => (if 32 ≤ 281474976710656 then (if 12 ≤ 281474976710656 then (if 65537 ≤ 281474976710656 then ((chacha_Xor.f (strOfNums (List.replicate 32 0)) 0 (strOfNums (List.replicate 12 0)) (strOfNums (List.replicate 65537 0))).bind fun bt142 => ((halberdlaw0_Num.f t124).bind fun t144 => (if t144 = 0 then (if x9_5 = true then ((halberdlaw0_Num.f bt131.2).bind fun t145 => (if t145 = 0 then ((halberdlaw0_Num.f bt142.2).bind fun t146 => (some (t146 == 600))) else (some false))) else (some false)) else (if x9_5 = true then (some false) else ((halberdlaw0_Num.f bt131.2).bind fun t147 => (if t147 = 0 then (some false) else ((halberdlaw0_Num.f t124).bind fun t148 => (if t148 = 600 then ((halberdlaw0_Num.f bt131.2).bind fun t149 => (if t149 = 600 then ((halberdlaw0_Num.f bt142.2).bind fun t150 => (some (t150 == 600))) else (some false))) else (some false))))))))) else (none)) else (none)) else (none))) = some r := by first | (rw [hy128]; with_reducible exact H) | (have H2_ := (Option.bind_some _ _).symm.trans H; rw [hy128]; with_reducible exact H2_) | (have H2_ := (Option.bind_some _ _).symm.trans H; with_reducible exact H2_) | with_reducible exact H | (rw [hy128]; exact H) | exact H
    have Ny128 := Aside0.mk hy128
    clear hy128
    replace H := Option.bind_eq_some_iff.mp H
    obtain ⟨⟨t131, t132⟩, A180, H⟩ := H
    replace H : (if 32 ≤ 281474976710656 then (if 12 ≤ 281474976710656 then (if 65537 ≤ 281474976710656 then ((chacha_Xor.f (strOfNums (List.replicate 32 0)) 0 (strOfNums (List.replicate 12 0)) (strOfNums (List.replicate 65537 0))).bind fun bt142 => ((halberdlaw0_Num.f t124).bind fun t144 => (if t144 = 0 then (if x9_5 = true then ((halberdlaw0_Num.f t132).bind fun t145 => (if t145 = 0 then ((halberdlaw0_Num.f bt142.2).bind fun t146 => (some (t146 == 600))) else (some false))) else (some false)) else (if x9_5 = true then (some false) else ((halberdlaw0_Num.f t132).bind fun t147 => (if t147 = 0 then (some false) else ((halberdlaw0_Num.f t124).bind fun t148 => (if t148 = 600 then ((halberdlaw0_Num.f t132).bind fun t149 => (if t149 = 600 then ((halberdlaw0_Num.f bt142.2).bind fun t150 => (some (t150 == 600))) else (some false))) else (some false))))))))) else (none)) else (none)) else (none)) = some r := H
    have A18 := Aside0.mk A180
    clear A180
    by_cases c19 : 32 ≤ 281474976710656
    rotate_left
    ·rw [if_neg c19] at H
     exact absurd H (by simp)
    rw [if_pos c19] at H
    have c19b0 := eq_true c19
    have c19b1 : decide (32 ≤ 281474976710656) = true := decide_eq_true c19
    clear c19
    obtain ⟨y133, hy133⟩ : ∃ y_ : List Int, y_ = (List.replicate 32 0) := ⟨_, rfl⟩
    replace H : (if 12 ≤ 281474976710656 then (if 65537 ≤ 281474976710656 then ((chacha_Xor.f (strOfNums y133) 0 (strOfNums (List.replicate 12 0)) (strOfNums (List.replicate 65537 0))).bind fun bt142 => ((halberdlaw0_Num.f t124).bind fun t144 => (if t144 = 0 then (if x9_5 = true then ((halberdlaw0_Num.f t132).bind fun t145 => (if t145 = 0 then ((halberdlaw0_Num.f bt142.2).bind fun t146 => (some (t146 == 600))) else (some false))) else (some false)) else (if x9_5 = true then (some false) else ((halberdlaw0_Num.f t132).bind fun t147 => (if t147 = 0 then (some false) else ((halberdlaw0_Num.f t124).bind fun t148 => (if t148 = 600 then ((halberdlaw0_Num.f t132).bind fun t149 => (if t149 = 600 then ((halberdlaw0_Num.f bt142.2).bind fun t150 => (some (t150 == 600))) else (some false))) else (some false))))))))) else (none)) else (none)) = some r := by first | (rw [hy133]; with_reducible exact H) | (have H2_ := (Option.bind_some _ _).symm.trans H; rw [hy133]; with_reducible exact H2_) | (have H2_ := (Option.bind_some _ _).symm.trans H; with_reducible exact H2_) | with_reducible exact H | (rw [hy133]; exact H) | exact H
    have Ny133 := Aside0.mk hy133
    clear hy133
    by_cases c20 : 12 ≤ 281474976710656
    rotate_left
    ·rw [if_neg c20] at H
     exact absurd H (by simp)
    rw [if_pos c20] at H
    have c20b0 := eq_true c20
    have c20b1 : decide (12 ≤ 281474976710656) = true := decide_eq_true c20
    clear c20
    obtain ⟨y136, hy136⟩ : ∃ y_ : List Int, y_ = (List.replicate 12 0) := ⟨_, rfl⟩
    replace H : (if 65537 ≤ 281474976710656 then ((chacha_Xor.f (strOfNums y133) 0 (strOfNums y136) (strOfNums (List.replicate 65537 0))).bind fun bt142 => ((halberdlaw0_Num.f t124).bind fun t144 => (if t144 = 0 then (if x9_5 = true then ((halberdlaw0_Num.f t132).bind fun t145 => (if t145 = 0 then ((halberdlaw0_Num.f bt142.2).bind fun t146 => (some (t146 == 600))) else (some false))) else (some false)) else (if x9_5 = true then (some false) else ((halberdlaw0_Num.f t132).bind fun t147 => (if t147 = 0 then (some false) else ((halberdlaw0_Num.f t124).bind fun t148 => (if t148 = 600 then ((halberdlaw0_Num.f t132).bind fun t149 => (if t149 = 600 then ((halberdlaw0_Num.f bt142.2).bind fun t150 => (some (t150 == 600))) else (some false))) else (some false))))))))) else (none)) = some r := by first | (rw [hy136]; with_reducible exact H) | (have H2_ := (Option.bind_some _ _).symm.trans H; rw [hy136]; with_reducible exact H2_) | (have H2_ := (Option.bind_some _ _).symm.trans H; with_reducible exact H2_) | with_reducible exact H | (rw [hy136]; exact H) | exact H
    have Ny136 := Aside0.mk hy136
    clear hy136
    by_cases c21 : 65537 ≤ 281474976710656
    rotate_left
    ·rw [if_neg c21] at H
     exact absurd H (by simp)
    rw [if_pos c21] at H
    have c21b0 := eq_true c21
    have c21b1 : decide (65537 ≤ 281474976710656) = true := decide_eq_true c21
    clear c21
    obtain ⟨y139, hy139⟩ : ∃ y_ : List Int, y_ = (List.replicate 65537 0) := ⟨_, rfl⟩
    replace H : ((chacha_Xor.f (strOfNums y133) 0 (strOfNums y136) (strOfNums y139)).bind fun bt142 => ((halberdlaw0_Num.f t124).bind fun t144 => (if t144 = 0 then (if x9_5 = true then ((halberdlaw0_Num.f t132).bind fun t145 => (if t145 = 0 then ((halberdlaw0_Num.f bt142.2).bind fun t146 => (some (t146 == 600))) else (some false))) else (some false)) else (if x9_5 = true then (some false) else ((halberdlaw0_Num.f t132).bind fun t147 => (if t147 = 0 then (some false) else ((halberdlaw0_Num.f t124).bind fun t148 => (if t148 = 600 then ((halberdlaw0_Num.f t132).bind fun t149 => (if t149 = 600 then ((halberdlaw0_Num.f bt142.2).bind fun t150 => (some (t150 == 600))) else (some false))) else (some false))))))))) = some r := by first | (rw [hy139]; with_reducible exact H) | (have H2_ := (Option.bind_some _ _).symm.trans H; rw [hy139]; with_reducible exact H2_) | (have H2_ := (Option.bind_some _ _).symm.trans H; with_reducible exact H2_) | with_reducible exact H | (rw [hy139]; exact H) | exact H
    have Ny139 := Aside0.mk hy139
    clear hy139
    replace H := Option.bind_eq_some_iff.mp H
    obtain ⟨⟨t142, t143⟩, A220, H⟩ := H
    replace H : ((halberdlaw0_Num.f t124).bind fun t144 => (if t144 = 0 then (if x9_5 = true then ((halberdlaw0_Num.f t132).bind fun t145 => (if t145 = 0 then ((halberdlaw0_Num.f t143).bind fun t146 => (some (t146 == 600))) else (some false))) else (some false)) else (if x9_5 = true then (some false) else ((halberdlaw0_Num.f t132).bind fun t147 => (if t147 = 0 then (some false) else ((halberdlaw0_Num.f t124).bind fun t148 => (if t148 = 600 then ((halberdlaw0_Num.f t132).bind fun t149 => (if t149 = 600 then ((halberdlaw0_Num.f t143).bind fun t150 => (some (t150 == 600))) else (some false))) else (some false)))))))) = some r := H
    have A22 := Aside0.mk A220
    clear A220
    replace H := Option.bind_eq_some_iff.mp H
    obtain ⟨t144, A230, H⟩ := H
    replace H : (if t144 = 0 then (if x9_5 = true then ((halberdlaw0_Num.f t132).bind fun t145 => (if t145 = 0 then ((halberdlaw0_Num.f t143).bind fun t146 => (some (t146 == 600))) else (some false))) else (some false)) else (if x9_5 = true then (some false) else ((halberdlaw0_Num.f t132).bind fun t147 => (if t147 = 0 then (some false) else ((halberdlaw0_Num.f t124).bind fun t148 => (if t148 = 600 then ((halberdlaw0_Num.f t132).bind fun t149 => (if t149 = 600 then ((halberdlaw0_Num.f t143).bind fun t150 => (some (t150 == 600))) else (some false))) else (some false))))))) = some r := H
    have A23 := Aside0.mk A230
    clear A230
    have HH := Aside0.mk H
    clear H
    try go_wp2
    have n0_ := Aside0.mk (below_drew1 HB.out)
    clear HB
    have HB := n0_
    clear n0_
    refine start_ (n := 13) (S := fun w' => True) (ds := []) #[false, false, false, false, false, false, false, false, false, false, false, false, false] (by kernel_rfl) rfl rfl trivial (fun hHeld => ?_); refine with_tabW halberdlaw6_ChachaForms.tab5 halberdlaw6_ChachaForms.bits5 (fun HT_ HW_ => ?_)
    generalize wc.drew = w29 at HB hHeld ⊢
    refine pure_ (i := 0) (N := some 39) (v := ?_) (a' := ?_) #[true, false, false, false, false, false, false, false, false, false, false, false, false] rfl rfl (any_of HT_.out (by kernel_rfl)) (fun _ _ _ h => h) (Or.inl ⟨by rfl, ?_⟩) ?_ ?_; rotate_left; (· intro w'; go_simp; with_reducible rfl); rotate_left; (· simp only [Act.put, LSET9_]; rfl)
    refine pure_ (i := 3) (N := some 42) (v := ?_) (a' := ?_) #[true, false, false, true, false, false, false, false, false, false, false, false, false] rfl rfl (any_of HT_.out (by kernel_rfl)) (fun _ _ _ h => h) (Or.inl ⟨by rfl, ?_⟩) ?_ ?_; rotate_left; (· intro w'; go_simp; with_reducible rfl); rotate_left; (· simp only [Act.put, LSET9_]; rfl)
    refine pure_ (i := 4) (N := some 43) (v := ?_) (a' := ?_) #[true, false, false, true, true, false, false, false, false, false, false, false, false] rfl rfl (any_of HT_.out (by kernel_rfl)) (fun _ _ _ h => h) (Or.inl ⟨by rfl, ?_⟩) ?_ ?_; rotate_left; (· intro w'; go_simp; with_reducible rfl); rotate_left; (· simp only [Act.put, LSET9_]; rfl)
    refine join_ (σ := Value × Value) 6 #[true, true, true, true, true, true, true, false, false, false, false, false, false] (fun s_ => [(40, s_.1), (41, .string (strOfNums y117)), (44, s_.2), (45, .string (strOfNums y120))]) (fun s_ w' => (RU w w' (fun k_ => nq k_ s_.2) s_.1 y117) ∧ (RU w w' (fun k_ => nq k_ s_.1) s_.2 y120) ∧ (Below w.heap.size w w')) ?_ ?_
    rotate_left
    ·intro hJ1_2_5_6
     refine join_ (σ := Value × Value) 7 #[true, true, true, true, true, true, false, false, false, false, false, false, false] (fun s_ => [(40, s_.1), (41, .string (strOfNums y117)), (44, s_.2)]) (fun s_ w' => (RU w w' (fun k_ => nq k_ s_.2) s_.1 y117) ∧ (RU w w' (fun k_ => nq k_ s_.1) s_.2 y120) ∧ (Below w.heap.size w w')) ?_ ?_
     rotate_left
     ·intro hJ1_2_5
      refine join_ (σ := Value × Value) 7 #[true, true, false, true, true, true, true, false, false, false, false, false, false] (fun s_ => [(40, s_.1), (44, s_.2), (45, .string (strOfNums y120))]) (fun s_ w' => (RU w w' (fun k_ => nq k_ s_.2) s_.1 y117) ∧ (RU w w' (fun k_ => nq k_ s_.1) s_.2 y120) ∧ (Below w.heap.size w w')) ?_ ?_
      rotate_left
      ·intro hJ1_5_6
       refine join_ (σ := Value) 8 #[true, true, true, true, true, false, false, false, false, false, false, false, false] (fun s_ => [(40, s_), (41, .string (strOfNums y117))]) (fun s_ w' => (RU w w' (fun _ => True) s_ y117) ∧ (Below w.heap.size w w')) ?_ ?_
       rotate_left
       ·intro hJ1_2
        refine join_ (σ := Value × Value) 8 #[true, true, false, true, true, true, false, false, false, false, false, false, false] (fun s_ => [(40, s_.1), (44, s_.2)]) (fun s_ w' => (RU w w' (fun k_ => nq k_ s_.2) s_.1 y117) ∧ (RU w w' (fun k_ => nq k_ s_.1) s_.2 y120) ∧ (Below w.heap.size w w')) ?_ ?_
        rotate_left
        ·intro hJ1_5
         refine join_ (σ := Value) 8 #[true, false, false, true, true, true, true, false, false, false, false, false, false] (fun s_ => [(44, s_), (45, .string (strOfNums y120))]) (fun s_ w' => (RU w w' (fun _ => True) s_ y120) ∧ (Below w.heap.size w w')) ?_ ?_
         rotate_left
         ·intro hJ5_6
          refine join_ (σ := Value) 9 #[true, true, false, true, true, false, false, false, false, false, false, false, false] (fun s_ => [(40, s_)]) (fun s_ w' => (RU w w' (fun _ => True) s_ y117) ∧ (Below w.heap.size w w')) ?_ ?_
          rotate_left
          ·intro hJ1
           refine join_ (σ := Value) 9 #[true, false, false, true, true, true, false, false, false, false, false, false, false] (fun s_ => [(44, s_)]) (fun s_ w' => (RU w w' (fun _ => True) s_ y120) ∧ (Below w.heap.size w w')) ?_ ?_
           rotate_left
           ·intro hJ5
            refine two_ (i := 1) (j := 5) (Ni := some 40) (Nj := some 44) #[true, true, false, true, true, false, false, false, false, false, false, false, false] #[true, false, false, true, true, true, false, false, false, false, false, false, false] rfl rfl rfl rfl (two_of HT_.out (by kernel_rfl)) (by decide) (by decide) (fun K hK => ?_) (fun K hK => ?_)
            ·skip
             refine Kd.R_make_step (Kd.int .u8) _ 5 (by rfl) (N := 40) rfl 32 _ _ rfl (ji11) rfl rfl Try.underlying32 (.int .u8 0) 1 info5 rfl (by decide) (by omega) 0 (ok := fun _ => True) (okp := fun _ => True) rfl (fun _ hk => hk) trivial (of_decide_eq_true (by assumption)) (Nat.le_trans (Nat.mul_le_mul_right _ (of_decide_eq_true (by assumption) : (ji11).toNat ≤ 281474976710656)) (by omega)) (Below.refl _ _) (Nat.le_refl _) ?_
             intro v118 w30 ho31 hb hg_ hnew_
             clear hg_ hnew_
             (first | rw [← Ny117.out] at ho31 | (simp only [Int.reduceToNat] at ho31; rw [← Ny117.out] at ho31))
             have n0_ := Aside0.mk (Kd.R_lower ho31 (below_size HB.out))
             have n1_ := Aside0.mk (below_step HB.out hb)
             clear HB
             have HO119 := n0_
             have HB := n1_
             clear n0_ n1_
             clear hb ho31
             refine hK.out _ _ trivial (fun hHeld => ?_)
             clear hK K
             refine norm_ (a' := ?_) ?_ ?_
             rotate_left
             ·show Act.put _ (some 40) _ = _
              simp only [Act.put, LSET9_]
              rfl
             exact norm_ (by simp only [putAll, Act.put, PSET] <;> rfl) (hJ1 (v118) _ ⟨HO119.out, HB.out⟩)
            ·skip
             refine Kd.R_make_step (Kd.int .u8) _ 5 (by rfl) (N := 44) rfl 32 _ _ rfl (ji14) rfl rfl Try.underlying32 (.int .u8 0) 1 info5 rfl (by decide) (by omega) 0 (ok := fun _ => True) (okp := fun _ => True) rfl (fun _ hk => hk) trivial (of_decide_eq_true (by assumption)) (Nat.le_trans (Nat.mul_le_mul_right _ (of_decide_eq_true (by assumption) : (ji14).toNat ≤ 281474976710656)) (by omega)) (Below.refl _ _) (Nat.le_refl _) ?_
             intro v121 w30 ho31 hb hg_ hnew_
             clear hg_ hnew_
             (first | rw [← Ny120.out] at ho31 | (simp only [Int.reduceToNat] at ho31; rw [← Ny120.out] at ho31))
             have n0_ := Aside0.mk (Kd.R_lower ho31 (below_size HB.out))
             have n1_ := Aside0.mk (below_step HB.out hb)
             clear HB
             have HO122 := n0_
             have HB := n1_
             clear n0_ n1_
             clear hb ho31
             refine hK.out _ _ trivial (fun hHeld => ?_)
             clear hK K
             refine norm_ (a' := ?_) ?_ ?_
             rotate_left
             ·show Act.put _ (some 44) _ = _
              simp only [Act.put, LSET9_]
              rfl
             exact norm_ (by simp only [putAll, Act.put, PSET] <;> rfl) (hJ5 (v121) _ ⟨HO122.out, HB.out⟩)
           ·skip
            rintro v121 w32 ⟨h0_, h1_⟩
            have n0_ : Aside0 (RU w w32 (fun _ => True) v121 y120) := ⟨h0_⟩
            have n1_ : Aside0 (Below w.heap.size w w32) := ⟨h1_⟩
            clear HB
            clear h0_ h1_
            have HO122 := n0_
            have HB := n1_
            clear n0_ n1_
            have hHeld := trivial
            refine norm_ (a' := ?_) ?_ ?_
            rotate_left
            ·simp only [putAll, Act.put, PSET]
             rfl
            refine two_ (i := 1) (j := 6) (Ni := some 40) (Nj := some 45) #[true, true, false, true, true, true, false, false, false, false, false, false, false] #[true, false, false, true, true, true, true, false, false, false, false, false, false] rfl rfl rfl rfl (two_of HT_.out (by kernel_rfl)) (by decide) (by decide) (fun K hK => ?_) (fun K hK => ?_)
            ·skip
             refine Kd.R_make_step (Kd.int .u8) _ 5 (by rfl) (N := 40) rfl 32 _ _ rfl (ji11) rfl rfl Try.underlying32 (.int .u8 0) 1 info5 rfl (by decide) (by omega) 0 (ok := fun _ => True) (okp := fun _ => True) rfl (fun _ hk => hk) trivial (of_decide_eq_true (by assumption)) (Nat.le_trans (Nat.mul_le_mul_right _ (of_decide_eq_true (by assumption) : (ji11).toNat ≤ 281474976710656)) (by omega)) (Below.refl _ _) (Nat.le_refl _) ?_
             intro v118 w33 ho34 hb hg_ hnew_
             clear hg_ hnew_
             (first | rw [← Ny117.out] at ho34 | (simp only [Int.reduceToNat] at ho34; rw [← Ny117.out] at ho34))
             have n0_ := Aside0.mk (Kd.R_elder' HO122.out (Kd.R_base ho34) hb)
             have n1_ := Aside0.mk (Kd.R_lower (Kd.R_new' ho34 (Kd.R_lt HO122.out)) (below_size HB.out))
             have n2_ := Aside0.mk (below_step HB.out hb)
             clear HO122
             clear HB
             have HO122 := n0_
             have HO119 := n1_
             have HB := n2_
             clear n0_ n1_ n2_
             clear hb ho34
             refine hK.out _ _ trivial (fun hHeld => ?_)
             clear hK K
             refine norm_ (a' := ?_) ?_ ?_
             rotate_left
             ·show Act.put _ (some 40) _ = _
              simp only [Act.put, LSET9_]
              rfl
             exact norm_ (by simp only [putAll, Act.put, PSET] <;> rfl) (hJ1_5 (v118, v121) _ ⟨(Kd.R_mono HO119.out (fun _ hk => hk.2)), (Kd.R_mono HO122.out (fun _ hk => hk.2)), HB.out⟩)
            ·skip
             have hcv33 := own_string (P := Try.prog) Try.underlying32 Try.underlying5 Try.underlying9 (Kd.own_of_R HO122.out)
             refine value_ (w1 := ?_) (v := ?_) (by rfl) rfl ?_ ?_
             rotate_left 2
             ·go_simp
              constructor
              ·rfl
              ·rfl
             clear hcv33
             refine hK.out _ _ trivial (fun hHeld => ?_)
             clear hK K
             refine norm_ (a' := ?_) ?_ ?_
             rotate_left
             ·show Act.put _ (some 45) _ = _
              simp only [Act.put, LSET9_]
              rfl
             exact norm_ (by simp only [putAll, Act.put, PSET] <;> rfl) (hJ5_6 (v121) _ ⟨HO122.out, HB.out⟩)
          ·skip
           rintro v118 w32 ⟨h0_, h1_⟩
           have n0_ : Aside0 (RU w w32 (fun _ => True) v118 y117) := ⟨h0_⟩
           have n1_ : Aside0 (Below w.heap.size w w32) := ⟨h1_⟩
           clear HB
           clear h0_ h1_
           have HO119 := n0_
           have HB := n1_
           clear n0_ n1_
           have hHeld := trivial
           refine norm_ (a' := ?_) ?_ ?_
           rotate_left
           ·simp only [putAll, Act.put, PSET]
            rfl
           refine two_ (i := 2) (j := 5) (Ni := some 41) (Nj := some 44) #[true, true, true, true, true, false, false, false, false, false, false, false, false] #[true, true, false, true, true, true, false, false, false, false, false, false, false] rfl rfl rfl rfl (two_of HT_.out (by kernel_rfl)) (by decide) (by decide) (fun K hK => ?_) (fun K hK => ?_)
           ·skip
            have hcv33 := own_string (P := Try.prog) Try.underlying32 Try.underlying5 Try.underlying9 (Kd.own_of_R HO119.out)
            refine value_ (w1 := ?_) (v := ?_) (by rfl) rfl ?_ ?_
            rotate_left 2
            ·go_simp
             constructor
             ·rfl
             ·rfl
            clear hcv33
            refine hK.out _ _ trivial (fun hHeld => ?_)
            clear hK K
            refine norm_ (a' := ?_) ?_ ?_
            rotate_left
            ·show Act.put _ (some 41) _ = _
             simp only [Act.put, LSET9_]
             rfl
            exact norm_ (by simp only [putAll, Act.put, PSET] <;> rfl) (hJ1_2 (v118) _ ⟨HO119.out, HB.out⟩)
           ·skip
            refine Kd.R_make_step (Kd.int .u8) _ 5 (by rfl) (N := 44) rfl 32 _ _ rfl (ji14) rfl rfl Try.underlying32 (.int .u8 0) 1 info5 rfl (by decide) (by omega) 0 (ok := fun _ => True) (okp := fun _ => True) rfl (fun _ hk => hk) trivial (of_decide_eq_true (by assumption)) (Nat.le_trans (Nat.mul_le_mul_right _ (of_decide_eq_true (by assumption) : (ji14).toNat ≤ 281474976710656)) (by omega)) (Below.refl _ _) (Nat.le_refl _) ?_
            intro v121 w33 ho34 hb hg_ hnew_
            clear hg_ hnew_
            (first | rw [← Ny120.out] at ho34 | (simp only [Int.reduceToNat] at ho34; rw [← Ny120.out] at ho34))
            have n0_ := Aside0.mk (Kd.R_elder' HO119.out (Kd.R_base ho34) hb)
            have n1_ := Aside0.mk (Kd.R_lower (Kd.R_new' ho34 (Kd.R_lt HO119.out)) (below_size HB.out))
            have n2_ := Aside0.mk (below_step HB.out hb)
            clear HO119
            clear HB
            have HO119 := n0_
            have HO122 := n1_
            have HB := n2_
            clear n0_ n1_ n2_
            clear hb ho34
            refine hK.out _ _ trivial (fun hHeld => ?_)
            clear hK K
            refine norm_ (a' := ?_) ?_ ?_
            rotate_left
            ·show Act.put _ (some 44) _ = _
             simp only [Act.put, LSET9_]
             rfl
            exact norm_ (by simp only [putAll, Act.put, PSET] <;> rfl) (hJ1_5 (v118, v121) _ ⟨(Kd.R_mono HO119.out (fun _ hk => hk.2)), (Kd.R_mono HO122.out (fun _ hk => hk.2)), HB.out⟩)
         ·skip
          rintro v121 w33 ⟨h0_, h1_⟩
          have n0_ : Aside0 (RU w w33 (fun _ => True) v121 y120) := ⟨h0_⟩
          have n1_ : Aside0 (Below w.heap.size w w33) := ⟨h1_⟩
          clear HB
          clear h0_ h1_
          have HO122 := n0_
          have HB := n1_
          clear n0_ n1_
          have hHeld := trivial
          refine norm_ (a' := ?_) ?_ ?_
          rotate_left
          ·simp only [putAll, Act.put, PSET]
           rfl
          refine one_ (i := 1) (N := some 40) #[true, true, false, true, true, true, true, false, false, false, false, false, false] rfl rfl (one_of HT_.out (by kernel_rfl)) (by decide) (fun K hK => ?_)
          refine Kd.R_make_step (Kd.int .u8) _ 5 (by rfl) (N := 40) rfl 32 _ _ rfl (ji11) rfl rfl Try.underlying32 (.int .u8 0) 1 info5 rfl (by decide) (by omega) 0 (ok := fun _ => True) (okp := fun _ => True) rfl (fun _ hk => hk) trivial (of_decide_eq_true (by assumption)) (Nat.le_trans (Nat.mul_le_mul_right _ (of_decide_eq_true (by assumption) : (ji11).toNat ≤ 281474976710656)) (by omega)) (Below.refl _ _) (Nat.le_refl _) ?_
          intro v118 w34 ho35 hb hg_ hnew_
          clear hg_ hnew_
          (first | rw [← Ny117.out] at ho35 | (simp only [Int.reduceToNat] at ho35; rw [← Ny117.out] at ho35))
          have n0_ := Aside0.mk (Kd.R_elder' HO122.out (Kd.R_base ho35) hb)
          have n1_ := Aside0.mk (Kd.R_lower (Kd.R_new' ho35 (Kd.R_lt HO122.out)) (below_size HB.out))
          have n2_ := Aside0.mk (below_step HB.out hb)
          clear HO122
          clear HB
          have HO122 := n0_
          have HO119 := n1_
          have HB := n2_
          clear n0_ n1_ n2_
          clear hb ho35
          refine hK.out _ _ trivial (fun hHeld => ?_)
          clear hK K
          refine norm_ (a' := ?_) ?_ ?_
          rotate_left
          ·show Act.put _ (some 40) _ = _
           simp only [Act.put, LSET9_]
           rfl
          exact norm_ (by simp only [putAll, Act.put, PSET] <;> rfl) (hJ1_5_6 (v118, v121) _ ⟨(Kd.R_mono HO119.out (fun _ hk => hk.2)), (Kd.R_mono HO122.out (fun _ hk => hk.2)), HB.out⟩)
        ·skip
         rintro ⟨v118, v121⟩ w34 ⟨h0_, h1_, h2_⟩
         have n0_ : Aside0 (RU w w34 (fun k_ => nq k_ v121) v118 y117) := ⟨h0_⟩
         have n1_ : Aside0 (RU w w34 (fun k_ => nq k_ v118) v121 y120) := ⟨h1_⟩
         have n2_ : Aside0 (Below w.heap.size w w34) := ⟨h2_⟩
         clear HB
         clear h0_ h1_ h2_
         have HO119 := n0_
         have HO122 := n1_
         have HB := n2_
         clear n0_ n1_ n2_
         have hHeld := trivial
         refine norm_ (a' := ?_) ?_ ?_
         rotate_left
         ·simp only [putAll, Act.put, PSET]
          rfl
         refine two_ (i := 2) (j := 6) (Ni := some 41) (Nj := some 45) #[true, true, true, true, true, true, false, false, false, false, false, false, false] #[true, true, false, true, true, true, true, false, false, false, false, false, false] rfl rfl rfl rfl (two_of HT_.out (by kernel_rfl)) (by decide) (by decide) (fun K hK => ?_) (fun K hK => ?_)
         ·skip
          have hcv35 := own_string (P := Try.prog) Try.underlying32 Try.underlying5 Try.underlying9 (Kd.own_of_R HO119.out)
          refine value_ (w1 := ?_) (v := ?_) (by rfl) rfl ?_ ?_
          rotate_left 2
          ·go_simp
           constructor
           ·rfl
           ·rfl
          clear hcv35
          refine hK.out _ _ trivial (fun hHeld => ?_)
          clear hK K
          refine norm_ (a' := ?_) ?_ ?_
          rotate_left
          ·show Act.put _ (some 41) _ = _
           simp only [Act.put, LSET9_]
           rfl
          exact norm_ (by simp only [putAll, Act.put, PSET] <;> rfl) (hJ1_2_5 (v118, v121) _ ⟨HO119.out, HO122.out, HB.out⟩)
         ·skip
          have hcv35 := own_string (P := Try.prog) Try.underlying32 Try.underlying5 Try.underlying9 (Kd.own_of_R HO122.out)
          refine value_ (w1 := ?_) (v := ?_) (by rfl) rfl ?_ ?_
          rotate_left 2
          ·go_simp
           constructor
           ·rfl
           ·rfl
          clear hcv35
          refine hK.out _ _ trivial (fun hHeld => ?_)
          clear hK K
          refine norm_ (a' := ?_) ?_ ?_
          rotate_left
          ·show Act.put _ (some 45) _ = _
           simp only [Act.put, LSET9_]
           rfl
          exact norm_ (by simp only [putAll, Act.put, PSET] <;> rfl) (hJ1_5_6 (v118, v121) _ ⟨HO119.out, HO122.out, HB.out⟩)
       ·skip
        rintro v118 w33 ⟨h0_, h1_⟩
        have n0_ : Aside0 (RU w w33 (fun _ => True) v118 y117) := ⟨h0_⟩
        have n1_ : Aside0 (Below w.heap.size w w33) := ⟨h1_⟩
        clear HB
        clear h0_ h1_
        have HO119 := n0_
        have HB := n1_
        clear n0_ n1_
        have hHeld := trivial
        refine norm_ (a' := ?_) ?_ ?_
        rotate_left
        ·simp only [putAll, Act.put, PSET]
         rfl
        refine one_ (i := 5) (N := some 44) #[true, true, true, true, true, true, false, false, false, false, false, false, false] rfl rfl (one_of HT_.out (by kernel_rfl)) (by decide) (fun K hK => ?_)
        refine Kd.R_make_step (Kd.int .u8) _ 5 (by rfl) (N := 44) rfl 32 _ _ rfl (ji14) rfl rfl Try.underlying32 (.int .u8 0) 1 info5 rfl (by decide) (by omega) 0 (ok := fun _ => True) (okp := fun _ => True) rfl (fun _ hk => hk) trivial (of_decide_eq_true (by assumption)) (Nat.le_trans (Nat.mul_le_mul_right _ (of_decide_eq_true (by assumption) : (ji14).toNat ≤ 281474976710656)) (by omega)) (Below.refl _ _) (Nat.le_refl _) ?_
        intro v121 w34 ho35 hb hg_ hnew_
        clear hg_ hnew_
        (first | rw [← Ny120.out] at ho35 | (simp only [Int.reduceToNat] at ho35; rw [← Ny120.out] at ho35))
        have n0_ := Aside0.mk (Kd.R_elder' HO119.out (Kd.R_base ho35) hb)
        have n1_ := Aside0.mk (Kd.R_lower (Kd.R_new' ho35 (Kd.R_lt HO119.out)) (below_size HB.out))
        have n2_ := Aside0.mk (below_step HB.out hb)
        clear HO119
        clear HB
        have HO119 := n0_
        have HO122 := n1_
        have HB := n2_
        clear n0_ n1_ n2_
        clear hb ho35
        refine hK.out _ _ trivial (fun hHeld => ?_)
        clear hK K
        refine norm_ (a' := ?_) ?_ ?_
        rotate_left
        ·show Act.put _ (some 44) _ = _
         simp only [Act.put, LSET9_]
         rfl
        exact norm_ (by simp only [putAll, Act.put, PSET] <;> rfl) (hJ1_2_5 (v118, v121) _ ⟨(Kd.R_mono HO119.out (fun _ hk => hk.2)), (Kd.R_mono HO122.out (fun _ hk => hk.2)), HB.out⟩)
      ·skip
       rintro ⟨v118, v121⟩ w35 ⟨h0_, h1_, h2_⟩
       have n0_ : Aside0 (RU w w35 (fun k_ => nq k_ v121) v118 y117) := ⟨h0_⟩
       have n1_ : Aside0 (RU w w35 (fun k_ => nq k_ v118) v121 y120) := ⟨h1_⟩
       have n2_ : Aside0 (Below w.heap.size w w35) := ⟨h2_⟩
       clear HB
       clear h0_ h1_ h2_
       have HO119 := n0_
       have HO122 := n1_
       have HB := n2_
       clear n0_ n1_ n2_
       have hHeld := trivial
       refine norm_ (a' := ?_) ?_ ?_
       rotate_left
       ·simp only [putAll, Act.put, PSET]
        rfl
       refine one_ (i := 2) (N := some 41) #[true, true, true, true, true, true, true, false, false, false, false, false, false] rfl rfl (one_of HT_.out (by kernel_rfl)) (by decide) (fun K hK => ?_)
       have hcv36 := own_string (P := Try.prog) Try.underlying32 Try.underlying5 Try.underlying9 (Kd.own_of_R HO119.out)
       refine value_ (w1 := ?_) (v := ?_) (by rfl) rfl ?_ ?_
       rotate_left 2
       ·go_simp
        constructor
        ·rfl
        ·rfl
       clear hcv36
       refine hK.out _ _ trivial (fun hHeld => ?_)
       clear hK K
       refine norm_ (a' := ?_) ?_ ?_
       rotate_left
       ·show Act.put _ (some 41) _ = _
        simp only [Act.put, LSET9_]
        rfl
       exact norm_ (by simp only [putAll, Act.put, PSET] <;> rfl) (hJ1_2_5_6 (v118, v121) _ ⟨HO119.out, HO122.out, HB.out⟩)
     ·skip
      rintro ⟨v118, v121⟩ w35 ⟨h0_, h1_, h2_⟩
      have n0_ : Aside0 (RU w w35 (fun k_ => nq k_ v121) v118 y117) := ⟨h0_⟩
      have n1_ : Aside0 (RU w w35 (fun k_ => nq k_ v118) v121 y120) := ⟨h1_⟩
      have n2_ : Aside0 (Below w.heap.size w w35) := ⟨h2_⟩
      clear HB
      clear h0_ h1_ h2_
      have HO119 := n0_
      have HO122 := n1_
      have HB := n2_
      clear n0_ n1_ n2_
      have hHeld := trivial
      refine norm_ (a' := ?_) ?_ ?_
      rotate_left
      ·simp only [putAll, Act.put, PSET]
       rfl
      refine one_ (i := 6) (N := some 45) #[true, true, true, true, true, true, true, false, false, false, false, false, false] rfl rfl (one_of HT_.out (by kernel_rfl)) (by decide) (fun K hK => ?_)
      have hcv36 := own_string (P := Try.prog) Try.underlying32 Try.underlying5 Try.underlying9 (Kd.own_of_R HO122.out)
      refine value_ (w1 := ?_) (v := ?_) (by rfl) rfl ?_ ?_
      rotate_left 2
      ·go_simp
       constructor
       ·rfl
       ·rfl
      clear hcv36
      refine hK.out _ _ trivial (fun hHeld => ?_)
      clear hK K
      refine norm_ (a' := ?_) ?_ ?_
      rotate_left
      ·show Act.put _ (some 45) _ = _
       simp only [Act.put, LSET9_]
       rfl
      exact norm_ (by simp only [putAll, Act.put, PSET] <;> rfl) (hJ1_2_5_6 (v118, v121) _ ⟨HO119.out, HO122.out, HB.out⟩)
    rintro ⟨v118, v121⟩ w36 ⟨h0_, h1_, h2_⟩
    have n0_ : Aside0 (RU w w36 (fun k_ => nq k_ v121) v118 y117) := ⟨h0_⟩
    have n1_ : Aside0 (RU w w36 (fun k_ => nq k_ v118) v121 y120) := ⟨h1_⟩
    have n2_ : Aside0 (Below w.heap.size w w36) := ⟨h2_⟩
    clear HB
    clear h0_ h1_ h2_
    have HO119 := n0_
    have HO122 := n1_
    have HB := n2_
    clear n0_ n1_ n2_
    have hHeld := trivial
    refine norm_ (a' := ?_) ?_ ?_
    rotate_left
    ·simp only [putAll, Act.put, PSET]
     rfl
    refine one_ (i := 7) (N := some 46) #[true, true, true, true, true, true, true, true, false, false, false, false, false] rfl rfl (one_of HT_.out (by kernel_rfl)) (by decide) (fun K hK => ?_)
    refine goes_ Try.func12 (by kernel_rfl) rfl #[.string (strOfNums y117), .int .i64 a1, .string (strOfNums y120)] (by rfl) rfl rfl (by (try simp only [List.map_toArray, List.map_cons, List.map_nil]); first | done | rfl | (simp only [List.length_drop, List.length_take]; rfl)) ?_
    with_reducible refine (chacha_Block.calls (strOfNums y117) a1 (strOfNums y120) t123 t124 _ A17.out).mono ?_
    rintro e w37 ⟨rfl, hb⟩
    refine ⟨_, rfl, ?_⟩
    have n0_ := Aside0.mk (Kd.R_below HO119.out hb)
    have n1_ := Aside0.mk (Kd.R_below HO122.out hb)
    have n2_ := Aside0.mk (below_step HB.out hb)
    clear HO119
    clear HO122
    clear HB
    have HO119 := n0_
    have HO122 := n1_
    have HB := n2_
    clear n0_ n1_ n2_
    (try clear hb)
    (try clear hb2)
    (try clear hk)
    (try clear hi)
    refine hK.out _ _ trivial (fun hHeld => ?_)
    clear hK K
    refine norm_ (a' := ?_) ?_ ?_
    rotate_left
    ·show Act.put _ (some 46) _ = _
     simp only [Act.put, LSET9_]
     rfl
    refine pure_ (i := 8) (N := some 38) (v := ?_) (a' := ?_) #[true, true, true, true, true, true, true, true, true, false, false, false, false] rfl rfl (any_of HT_.out (by kernel_rfl)) (fun _ _ _ h => h) (Or.inl ⟨by rfl, ?_⟩) ?_ ?_; rotate_left; (· intro w'; go_simp; with_reducible rfl); rotate_left; (· simp only [Act.put, LSET9_]; rfl)
    refine pure_ (i := 9) (N := some 47) (v := ?_) (a' := ?_) #[true, true, true, true, true, true, true, true, true, true, false, false, false] rfl rfl (any_of HT_.out (by kernel_rfl)) (fun _ _ _ h => h) (Or.inl ⟨by rfl, ?_⟩) ?_ ?_; rotate_left; (· intro w'; go_simp; with_reducible rfl); rotate_left; (· simp only [Act.put, LSET9_]; rfl)
    refine pure_ (i := 10) (N := some 48) (v := ?_) (a' := ?_) #[true, true, true, true, true, true, true, true, true, true, true, false, false] rfl rfl (any_of HT_.out (by kernel_rfl)) (fun _ _ _ h => h) (Or.inl ⟨by rfl, ?_⟩) ?_ ?_; rotate_left; (· intro w'; go_simp; with_reducible rfl); rotate_left; (· simp only [Act.put, LSET9_]; rfl)
    refine pure_ (i := 11) (N := some 10) (v := ?_) (a' := ?_) #[true, true, true, true, true, true, true, true, true, true, true, true, false] rfl rfl (any_of HT_.out (by kernel_rfl)) (fun _ _ _ h => h) (Or.inl ⟨by rfl, ?_⟩) ?_ ?_; rotate_left; (· intro w'; go_simp; with_reducible rfl); rotate_left; (· simp only [Act.put, LSET9_]; rfl)
    refine pure_ (i := 12) (N := some 11) (v := ?_) (a' := ?_) #[true, true, true, true, true, true, true, true, true, true, true, true, true] rfl rfl (any_of HT_.out (by kernel_rfl)) (fun _ _ _ h => h) (Or.inl ⟨by rfl, ?_⟩) ?_ ?_; rotate_left; (· intro w'; go_simp; with_reducible rfl); rotate_left; (· simp only [Act.put, LSET9_]; rfl)
    refine done_ (done_of HT_.out (by kernel_rfl)) ?_
    try go_wp2
    have n0_ := Aside0.mk (Kd.R_drew HO119.out)
    have n1_ := Aside0.mk (Kd.R_drew HO122.out)
    have n2_ := Aside0.mk (below_drew1 HB.out)
    clear HO119
    clear HO122
    clear HB
    have HO119 := n0_
    have HO122 := n1_
    have HB := n2_
    clear n0_ n1_ n2_
    refine start_ (n := 13) (S := fun w' => True) (ds := []) #[false, false, false, false, false, false, false, false, false, false, false, false, false] (by kernel_rfl) rfl rfl trivial (fun hHeld => ?_); refine with_tabW halberdlaw6_ChachaForms.tab6 halberdlaw6_ChachaForms.bits6 (fun HT_ HW_ => ?_)
    generalize w37.drew = w38 at HO119 HO122 HB hHeld ⊢
    refine pure_ (i := 0) (N := some 50) (v := ?_) (a' := ?_) #[true, false, false, false, false, false, false, false, false, false, false, false, false] rfl rfl (any_of HT_.out (by kernel_rfl)) (fun _ _ _ h => h) (Or.inl ⟨by rfl, ?_⟩) ?_ ?_; rotate_left; (· intro w'; go_simp; with_reducible rfl); rotate_left; (· simp only [Act.put, LSET9_]; rfl)
    refine pure_ (i := 3) (N := some 53) (v := ?_) (a' := ?_) #[true, false, false, true, false, false, false, false, false, false, false, false, false] rfl rfl (any_of HT_.out (by kernel_rfl)) (fun _ _ _ h => h) (Or.inl ⟨by rfl, ?_⟩) ?_ ?_; rotate_left; (· intro w'; go_simp; with_reducible rfl); rotate_left; (· simp only [Act.put, LSET9_]; rfl)
    refine pure_ (i := 4) (N := some 54) (v := ?_) (a' := ?_) #[true, false, false, true, true, false, false, false, false, false, false, false, false] rfl rfl (any_of HT_.out (by kernel_rfl)) (fun _ _ _ h => h) (Or.inl ⟨by rfl, ?_⟩) ?_ ?_; rotate_left; (· intro w'; go_simp; with_reducible rfl); rotate_left; (· simp only [Act.put, LSET9_]; rfl)
    refine join_ (σ := Value × Value) 6 #[true, true, true, true, true, true, true, false, false, false, false, false, false] (fun s_ => [(51, s_.1), (52, .string (strOfNums y125)), (55, s_.2), (56, .string (strOfNums y128))]) (fun s_ w' => (RU w w' (fun k_ => nq k_ v121 ∧ nq k_ s_.1 ∧ nq k_ s_.2) v118 y117) ∧ (RU w w' (fun k_ => nq k_ v118 ∧ nq k_ s_.1 ∧ nq k_ s_.2) v121 y120) ∧ (RU w w' (fun k_ => nq k_ v118 ∧ nq k_ v121 ∧ nq k_ s_.2) s_.1 y125) ∧ (RU w w' (fun k_ => nq k_ v118 ∧ nq k_ v121 ∧ nq k_ s_.1) s_.2 y128) ∧ (Below w.heap.size w w')) ?_ ?_
    rotate_left
    ·intro hJ1_2_5_6
     refine join_ (σ := Value × Value) 7 #[true, true, true, true, true, true, false, false, false, false, false, false, false] (fun s_ => [(51, s_.1), (52, .string (strOfNums y125)), (55, s_.2)]) (fun s_ w' => (RU w w' (fun k_ => nq k_ v121 ∧ nq k_ s_.1 ∧ nq k_ s_.2) v118 y117) ∧ (RU w w' (fun k_ => nq k_ v118 ∧ nq k_ s_.1 ∧ nq k_ s_.2) v121 y120) ∧ (RU w w' (fun k_ => nq k_ v118 ∧ nq k_ v121 ∧ nq k_ s_.2) s_.1 y125) ∧ (RU w w' (fun k_ => nq k_ v118 ∧ nq k_ v121 ∧ nq k_ s_.1) s_.2 y128) ∧ (Below w.heap.size w w')) ?_ ?_
     rotate_left
     ·intro hJ1_2_5
      refine join_ (σ := Value × Value) 7 #[true, true, false, true, true, true, true, false, false, false, false, false, false] (fun s_ => [(51, s_.1), (55, s_.2), (56, .string (strOfNums y128))]) (fun s_ w' => (RU w w' (fun k_ => nq k_ v121 ∧ nq k_ s_.1 ∧ nq k_ s_.2) v118 y117) ∧ (RU w w' (fun k_ => nq k_ v118 ∧ nq k_ s_.1 ∧ nq k_ s_.2) v121 y120) ∧ (RU w w' (fun k_ => nq k_ v118 ∧ nq k_ v121 ∧ nq k_ s_.2) s_.1 y125) ∧ (RU w w' (fun k_ => nq k_ v118 ∧ nq k_ v121 ∧ nq k_ s_.1) s_.2 y128) ∧ (Below w.heap.size w w')) ?_ ?_
      rotate_left
      ·intro hJ1_5_6
       refine join_ (σ := Value) 8 #[true, true, true, true, true, false, false, false, false, false, false, false, false] (fun s_ => [(51, s_), (52, .string (strOfNums y125))]) (fun s_ w' => (RU w w' (fun k_ => nq k_ v121 ∧ nq k_ s_) v118 y117) ∧ (RU w w' (fun k_ => nq k_ v118 ∧ nq k_ s_) v121 y120) ∧ (RU w w' (fun k_ => nq k_ v118 ∧ nq k_ v121) s_ y125) ∧ (Below w.heap.size w w')) ?_ ?_
       rotate_left
       ·intro hJ1_2
        refine join_ (σ := Value × Value) 8 #[true, true, false, true, true, true, false, false, false, false, false, false, false] (fun s_ => [(51, s_.1), (55, s_.2)]) (fun s_ w' => (RU w w' (fun k_ => nq k_ v121 ∧ nq k_ s_.1 ∧ nq k_ s_.2) v118 y117) ∧ (RU w w' (fun k_ => nq k_ v118 ∧ nq k_ s_.1 ∧ nq k_ s_.2) v121 y120) ∧ (RU w w' (fun k_ => nq k_ v118 ∧ nq k_ v121 ∧ nq k_ s_.2) s_.1 y125) ∧ (RU w w' (fun k_ => nq k_ v118 ∧ nq k_ v121 ∧ nq k_ s_.1) s_.2 y128) ∧ (Below w.heap.size w w')) ?_ ?_
        rotate_left
        ·intro hJ1_5
         refine join_ (σ := Value) 8 #[true, false, false, true, true, true, true, false, false, false, false, false, false] (fun s_ => [(55, s_), (56, .string (strOfNums y128))]) (fun s_ w' => (RU w w' (fun k_ => nq k_ v121 ∧ nq k_ s_) v118 y117) ∧ (RU w w' (fun k_ => nq k_ v118 ∧ nq k_ s_) v121 y120) ∧ (RU w w' (fun k_ => nq k_ v118 ∧ nq k_ v121) s_ y128) ∧ (Below w.heap.size w w')) ?_ ?_
         rotate_left
         ·intro hJ5_6
          refine join_ (σ := Value) 9 #[true, true, false, true, true, false, false, false, false, false, false, false, false] (fun s_ => [(51, s_)]) (fun s_ w' => (RU w w' (fun k_ => nq k_ v121 ∧ nq k_ s_) v118 y117) ∧ (RU w w' (fun k_ => nq k_ v118 ∧ nq k_ s_) v121 y120) ∧ (RU w w' (fun k_ => nq k_ v118 ∧ nq k_ v121) s_ y125) ∧ (Below w.heap.size w w')) ?_ ?_
          rotate_left
          ·intro hJ1
           refine join_ (σ := Value) 9 #[true, false, false, true, true, true, false, false, false, false, false, false, false] (fun s_ => [(55, s_)]) (fun s_ w' => (RU w w' (fun k_ => nq k_ v121 ∧ nq k_ s_) v118 y117) ∧ (RU w w' (fun k_ => nq k_ v118 ∧ nq k_ s_) v121 y120) ∧ (RU w w' (fun k_ => nq k_ v118 ∧ nq k_ v121) s_ y128) ∧ (Below w.heap.size w w')) ?_ ?_
           rotate_left
           ·intro hJ5
            refine two_ (i := 1) (j := 5) (Ni := some 51) (Nj := some 55) #[true, true, false, true, true, false, false, false, false, false, false, false, false] #[true, false, false, true, true, true, false, false, false, false, false, false, false] rfl rfl rfl rfl (two_of HT_.out (by kernel_rfl)) (by decide) (by decide) (fun K hK => ?_) (fun K hK => ?_)
            ·skip
             refine Kd.R_make_step (Kd.int .u8) _ 5 (by rfl) (N := 51) rfl 32 _ _ rfl (ji11) rfl rfl Try.underlying32 (.int .u8 0) 1 info5 rfl (by decide) (by omega) 0 (ok := fun _ => True) (okp := fun _ => True) rfl (fun _ hk => hk) trivial (of_decide_eq_true (by assumption)) (Nat.le_trans (Nat.mul_le_mul_right _ (of_decide_eq_true (by assumption) : (ji11).toNat ≤ 281474976710656)) (by omega)) (Below.refl _ _) (Nat.le_refl _) ?_
             intro v126 w39 ho40 hb hg_ hnew_
             clear hg_ hnew_
             (first | rw [← Ny125.out] at ho40 | (simp only [Int.reduceToNat] at ho40; rw [← Ny125.out] at ho40))
             have n0_ := Aside0.mk (Kd.R_elder' HO119.out (Kd.R_base ho40) hb)
             have n1_ := Aside0.mk (Kd.R_elder' HO122.out (Kd.R_base ho40) hb)
             have n2_ := Aside0.mk (Kd.R_lower (Kd.R_new' (Kd.R_new' ho40 (Kd.R_lt HO119.out)) (Kd.R_lt HO122.out)) (below_size HB.out))
             have n3_ := Aside0.mk (below_step HB.out hb)
             clear HO119
             clear HO122
             clear HB
             have HO119 := n0_
             have HO122 := n1_
             have HO127 := n2_
             have HB := n3_
             clear n0_ n1_ n2_ n3_
             clear hb ho40
             refine hK.out _ _ trivial (fun hHeld => ?_)
             clear hK K
             refine norm_ (a' := ?_) ?_ ?_
             rotate_left
             ·show Act.put _ (some 51) _ = _
              simp only [Act.put, LSET9_]
              rfl
             exact norm_ (by simp only [putAll, Act.put, PSET] <;> rfl) (hJ1 (v126) _ ⟨HO119.out, HO122.out, (Kd.R_mono HO127.out (fun _ hk => ⟨hk.1.2, hk.2⟩)), HB.out⟩)
            ·skip
             refine Kd.R_make_step (Kd.int .u8) _ 5 (by rfl) (N := 55) rfl 32 _ _ rfl (ji14) rfl rfl Try.underlying32 (.int .u8 0) 1 info5 rfl (by decide) (by omega) 0 (ok := fun _ => True) (okp := fun _ => True) rfl (fun _ hk => hk) trivial (of_decide_eq_true (by assumption)) (Nat.le_trans (Nat.mul_le_mul_right _ (of_decide_eq_true (by assumption) : (ji14).toNat ≤ 281474976710656)) (by omega)) (Below.refl _ _) (Nat.le_refl _) ?_
             intro v129 w39 ho40 hb hg_ hnew_
             clear hg_ hnew_
             (first | rw [← Ny128.out] at ho40 | (simp only [Int.reduceToNat] at ho40; rw [← Ny128.out] at ho40))
             have n0_ := Aside0.mk (Kd.R_elder' HO119.out (Kd.R_base ho40) hb)
             have n1_ := Aside0.mk (Kd.R_elder' HO122.out (Kd.R_base ho40) hb)
             have n2_ := Aside0.mk (Kd.R_lower (Kd.R_new' (Kd.R_new' ho40 (Kd.R_lt HO119.out)) (Kd.R_lt HO122.out)) (below_size HB.out))
             have n3_ := Aside0.mk (below_step HB.out hb)
             clear HO119
             clear HO122
             clear HB
             have HO119 := n0_
             have HO122 := n1_
             have HO130 := n2_
             have HB := n3_
             clear n0_ n1_ n2_ n3_
             clear hb ho40
             refine hK.out _ _ trivial (fun hHeld => ?_)
             clear hK K
             refine norm_ (a' := ?_) ?_ ?_
             rotate_left
             ·show Act.put _ (some 55) _ = _
              simp only [Act.put, LSET9_]
              rfl
             exact norm_ (by simp only [putAll, Act.put, PSET] <;> rfl) (hJ5 (v129) _ ⟨HO119.out, HO122.out, (Kd.R_mono HO130.out (fun _ hk => ⟨hk.1.2, hk.2⟩)), HB.out⟩)
           ·skip
            rintro v129 w41 ⟨h0_, h1_, h2_, h3_⟩
            have n0_ : Aside0 (RU w w41 (fun k_ => nq k_ v121 ∧ nq k_ v129) v118 y117) := ⟨h0_⟩
            have n1_ : Aside0 (RU w w41 (fun k_ => nq k_ v118 ∧ nq k_ v129) v121 y120) := ⟨h1_⟩
            have n2_ : Aside0 (RU w w41 (fun k_ => nq k_ v118 ∧ nq k_ v121) v129 y128) := ⟨h2_⟩
            have n3_ : Aside0 (Below w.heap.size w w41) := ⟨h3_⟩
            clear HO119
            clear HO122
            clear HB
            clear h0_ h1_ h2_ h3_
            have HO119 := n0_
            have HO122 := n1_
            have HO130 := n2_
            have HB := n3_
            clear n0_ n1_ n2_ n3_
            have hHeld := trivial
            refine norm_ (a' := ?_) ?_ ?_
            rotate_left
            ·simp only [putAll, Act.put, PSET]
             rfl
            refine two_ (i := 1) (j := 6) (Ni := some 51) (Nj := some 56) #[true, true, false, true, true, true, false, false, false, false, false, false, false] #[true, false, false, true, true, true, true, false, false, false, false, false, false] rfl rfl rfl rfl (two_of HT_.out (by kernel_rfl)) (by decide) (by decide) (fun K hK => ?_) (fun K hK => ?_)
            ·skip
             refine Kd.R_make_step (Kd.int .u8) _ 5 (by rfl) (N := 51) rfl 32 _ _ rfl (ji11) rfl rfl Try.underlying32 (.int .u8 0) 1 info5 rfl (by decide) (by omega) 0 (ok := fun _ => True) (okp := fun _ => True) rfl (fun _ hk => hk) trivial (of_decide_eq_true (by assumption)) (Nat.le_trans (Nat.mul_le_mul_right _ (of_decide_eq_true (by assumption) : (ji11).toNat ≤ 281474976710656)) (by omega)) (Below.refl _ _) (Nat.le_refl _) ?_
             intro v126 w42 ho43 hb hg_ hnew_
             clear hg_ hnew_
             (first | rw [← Ny125.out] at ho43 | (simp only [Int.reduceToNat] at ho43; rw [← Ny125.out] at ho43))
             have n0_ := Aside0.mk (Kd.R_elder' HO119.out (Kd.R_base ho43) hb)
             have n1_ := Aside0.mk (Kd.R_elder' HO122.out (Kd.R_base ho43) hb)
             have n2_ := Aside0.mk (Kd.R_elder' HO130.out (Kd.R_base ho43) hb)
             have n3_ := Aside0.mk (Kd.R_lower (Kd.R_new' (Kd.R_new' (Kd.R_new' ho43 (Kd.R_lt HO119.out)) (Kd.R_lt HO122.out)) (Kd.R_lt HO130.out)) (below_size HB.out))
             have n4_ := Aside0.mk (below_step HB.out hb)
             clear HO119
             clear HO122
             clear HO130
             clear HB
             have HO119 := n0_
             have HO122 := n1_
             have HO130 := n2_
             have HO127 := n3_
             have HB := n4_
             clear n0_ n1_ n2_ n3_ n4_
             clear hb ho43
             refine hK.out _ _ trivial (fun hHeld => ?_)
             clear hK K
             refine norm_ (a' := ?_) ?_ ?_
             rotate_left
             ·show Act.put _ (some 51) _ = _
              simp only [Act.put, LSET9_]
              rfl
             exact norm_ (by simp only [putAll, Act.put, PSET] <;> rfl) (hJ1_5 (v126, v129) _ ⟨(Kd.R_mono HO119.out (fun _ hk => ⟨hk.1.1, ⟨hk.2, hk.1.2⟩⟩)), (Kd.R_mono HO122.out (fun _ hk => ⟨hk.1.1, ⟨hk.2, hk.1.2⟩⟩)), (Kd.R_mono HO127.out (fun _ hk => ⟨hk.1.1.2, ⟨hk.1.2, hk.2⟩⟩)), (Kd.R_mono HO130.out (fun _ hk => ⟨hk.1.1, ⟨hk.1.2, hk.2⟩⟩)), HB.out⟩)
            ·skip
             have hcv42 := own_string (P := Try.prog) Try.underlying32 Try.underlying5 Try.underlying9 (Kd.own_of_R HO130.out)
             refine value_ (w1 := ?_) (v := ?_) (by rfl) rfl ?_ ?_
             rotate_left 2
             ·go_simp
              constructor
              ·rfl
              ·rfl
             clear hcv42
             refine hK.out _ _ trivial (fun hHeld => ?_)
             clear hK K
             refine norm_ (a' := ?_) ?_ ?_
             rotate_left
             ·show Act.put _ (some 56) _ = _
              simp only [Act.put, LSET9_]
              rfl
             exact norm_ (by simp only [putAll, Act.put, PSET] <;> rfl) (hJ5_6 (v129) _ ⟨HO119.out, HO122.out, HO130.out, HB.out⟩)
          ·skip
           rintro v126 w41 ⟨h0_, h1_, h2_, h3_⟩
           have n0_ : Aside0 (RU w w41 (fun k_ => nq k_ v121 ∧ nq k_ v126) v118 y117) := ⟨h0_⟩
           have n1_ : Aside0 (RU w w41 (fun k_ => nq k_ v118 ∧ nq k_ v126) v121 y120) := ⟨h1_⟩
           have n2_ : Aside0 (RU w w41 (fun k_ => nq k_ v118 ∧ nq k_ v121) v126 y125) := ⟨h2_⟩
           have n3_ : Aside0 (Below w.heap.size w w41) := ⟨h3_⟩
           clear HO119
           clear HO122
           clear HB
           clear h0_ h1_ h2_ h3_
           have HO119 := n0_
           have HO122 := n1_
           have HO127 := n2_
           have HB := n3_
           clear n0_ n1_ n2_ n3_
           have hHeld := trivial
           refine norm_ (a' := ?_) ?_ ?_
           rotate_left
           ·simp only [putAll, Act.put, PSET]
            rfl
           refine two_ (i := 2) (j := 5) (Ni := some 52) (Nj := some 55) #[true, true, true, true, true, false, false, false, false, false, false, false, false] #[true, true, false, true, true, true, false, false, false, false, false, false, false] rfl rfl rfl rfl (two_of HT_.out (by kernel_rfl)) (by decide) (by decide) (fun K hK => ?_) (fun K hK => ?_)
           ·skip
            have hcv42 := own_string (P := Try.prog) Try.underlying32 Try.underlying5 Try.underlying9 (Kd.own_of_R HO127.out)
            refine value_ (w1 := ?_) (v := ?_) (by rfl) rfl ?_ ?_
            rotate_left 2
            ·go_simp
             constructor
             ·rfl
             ·rfl
            clear hcv42
            refine hK.out _ _ trivial (fun hHeld => ?_)
            clear hK K
            refine norm_ (a' := ?_) ?_ ?_
            rotate_left
            ·show Act.put _ (some 52) _ = _
             simp only [Act.put, LSET9_]
             rfl
            exact norm_ (by simp only [putAll, Act.put, PSET] <;> rfl) (hJ1_2 (v126) _ ⟨HO119.out, HO122.out, HO127.out, HB.out⟩)
           ·skip
            refine Kd.R_make_step (Kd.int .u8) _ 5 (by rfl) (N := 55) rfl 32 _ _ rfl (ji14) rfl rfl Try.underlying32 (.int .u8 0) 1 info5 rfl (by decide) (by omega) 0 (ok := fun _ => True) (okp := fun _ => True) rfl (fun _ hk => hk) trivial (of_decide_eq_true (by assumption)) (Nat.le_trans (Nat.mul_le_mul_right _ (of_decide_eq_true (by assumption) : (ji14).toNat ≤ 281474976710656)) (by omega)) (Below.refl _ _) (Nat.le_refl _) ?_
            intro v129 w42 ho43 hb hg_ hnew_
            clear hg_ hnew_
            (first | rw [← Ny128.out] at ho43 | (simp only [Int.reduceToNat] at ho43; rw [← Ny128.out] at ho43))
            have n0_ := Aside0.mk (Kd.R_elder' HO119.out (Kd.R_base ho43) hb)
            have n1_ := Aside0.mk (Kd.R_elder' HO122.out (Kd.R_base ho43) hb)
            have n2_ := Aside0.mk (Kd.R_elder' HO127.out (Kd.R_base ho43) hb)
            have n3_ := Aside0.mk (Kd.R_lower (Kd.R_new' (Kd.R_new' (Kd.R_new' ho43 (Kd.R_lt HO119.out)) (Kd.R_lt HO122.out)) (Kd.R_lt HO127.out)) (below_size HB.out))
            have n4_ := Aside0.mk (below_step HB.out hb)
            clear HO119
            clear HO122
            clear HO127
            clear HB
            have HO119 := n0_
            have HO122 := n1_
            have HO127 := n2_
            have HO130 := n3_
            have HB := n4_
            clear n0_ n1_ n2_ n3_ n4_
            clear hb ho43
            refine hK.out _ _ trivial (fun hHeld => ?_)
            clear hK K
            refine norm_ (a' := ?_) ?_ ?_
            rotate_left
            ·show Act.put _ (some 55) _ = _
             simp only [Act.put, LSET9_]
             rfl
            exact norm_ (by simp only [putAll, Act.put, PSET] <;> rfl) (hJ1_5 (v126, v129) _ ⟨(Kd.R_mono HO119.out (fun _ hk => ⟨hk.1.1, ⟨hk.1.2, hk.2⟩⟩)), (Kd.R_mono HO122.out (fun _ hk => ⟨hk.1.1, ⟨hk.1.2, hk.2⟩⟩)), (Kd.R_mono HO127.out (fun _ hk => ⟨hk.1.1, ⟨hk.1.2, hk.2⟩⟩)), (Kd.R_mono HO130.out (fun _ hk => ⟨hk.1.1.2, ⟨hk.1.2, hk.2⟩⟩)), HB.out⟩)
         ·skip
          rintro v129 w42 ⟨h0_, h1_, h2_, h3_⟩
          have n0_ : Aside0 (RU w w42 (fun k_ => nq k_ v121 ∧ nq k_ v129) v118 y117) := ⟨h0_⟩
          have n1_ : Aside0 (RU w w42 (fun k_ => nq k_ v118 ∧ nq k_ v129) v121 y120) := ⟨h1_⟩
          have n2_ : Aside0 (RU w w42 (fun k_ => nq k_ v118 ∧ nq k_ v121) v129 y128) := ⟨h2_⟩
          have n3_ : Aside0 (Below w.heap.size w w42) := ⟨h3_⟩
          clear HO119
          clear HO122
          clear HB
          clear h0_ h1_ h2_ h3_
          have HO119 := n0_
          have HO122 := n1_
          have HO130 := n2_
          have HB := n3_
          clear n0_ n1_ n2_ n3_
          have hHeld := trivial
          refine norm_ (a' := ?_) ?_ ?_
          rotate_left
          ·simp only [putAll, Act.put, PSET]
           rfl
          refine one_ (i := 1) (N := some 51) #[true, true, false, true, true, true, true, false, false, false, false, false, false] rfl rfl (one_of HT_.out (by kernel_rfl)) (by decide) (fun K hK => ?_)
          refine Kd.R_make_step (Kd.int .u8) _ 5 (by rfl) (N := 51) rfl 32 _ _ rfl (ji11) rfl rfl Try.underlying32 (.int .u8 0) 1 info5 rfl (by decide) (by omega) 0 (ok := fun _ => True) (okp := fun _ => True) rfl (fun _ hk => hk) trivial (of_decide_eq_true (by assumption)) (Nat.le_trans (Nat.mul_le_mul_right _ (of_decide_eq_true (by assumption) : (ji11).toNat ≤ 281474976710656)) (by omega)) (Below.refl _ _) (Nat.le_refl _) ?_
          intro v126 w43 ho44 hb hg_ hnew_
          clear hg_ hnew_
          (first | rw [← Ny125.out] at ho44 | (simp only [Int.reduceToNat] at ho44; rw [← Ny125.out] at ho44))
          have n0_ := Aside0.mk (Kd.R_elder' HO119.out (Kd.R_base ho44) hb)
          have n1_ := Aside0.mk (Kd.R_elder' HO122.out (Kd.R_base ho44) hb)
          have n2_ := Aside0.mk (Kd.R_elder' HO130.out (Kd.R_base ho44) hb)
          have n3_ := Aside0.mk (Kd.R_lower (Kd.R_new' (Kd.R_new' (Kd.R_new' ho44 (Kd.R_lt HO119.out)) (Kd.R_lt HO122.out)) (Kd.R_lt HO130.out)) (below_size HB.out))
          have n4_ := Aside0.mk (below_step HB.out hb)
          clear HO119
          clear HO122
          clear HO130
          clear HB
          have HO119 := n0_
          have HO122 := n1_
          have HO130 := n2_
          have HO127 := n3_
          have HB := n4_
          clear n0_ n1_ n2_ n3_ n4_
          clear hb ho44
          refine hK.out _ _ trivial (fun hHeld => ?_)
          clear hK K
          refine norm_ (a' := ?_) ?_ ?_
          rotate_left
          ·show Act.put _ (some 51) _ = _
           simp only [Act.put, LSET9_]
           rfl
          exact norm_ (by simp only [putAll, Act.put, PSET] <;> rfl) (hJ1_5_6 (v126, v129) _ ⟨(Kd.R_mono HO119.out (fun _ hk => ⟨hk.1.1, ⟨hk.2, hk.1.2⟩⟩)), (Kd.R_mono HO122.out (fun _ hk => ⟨hk.1.1, ⟨hk.2, hk.1.2⟩⟩)), (Kd.R_mono HO127.out (fun _ hk => ⟨hk.1.1.2, ⟨hk.1.2, hk.2⟩⟩)), (Kd.R_mono HO130.out (fun _ hk => ⟨hk.1.1, ⟨hk.1.2, hk.2⟩⟩)), HB.out⟩)
        ·skip
         rintro ⟨v126, v129⟩ w43 ⟨h0_, h1_, h2_, h3_, h4_⟩
         have n0_ : Aside0 (RU w w43 (fun k_ => nq k_ v121 ∧ nq k_ v126 ∧ nq k_ v129) v118 y117) := ⟨h0_⟩
         have n1_ : Aside0 (RU w w43 (fun k_ => nq k_ v118 ∧ nq k_ v126 ∧ nq k_ v129) v121 y120) := ⟨h1_⟩
         have n2_ : Aside0 (RU w w43 (fun k_ => nq k_ v118 ∧ nq k_ v121 ∧ nq k_ v129) v126 y125) := ⟨h2_⟩
         have n3_ : Aside0 (RU w w43 (fun k_ => nq k_ v118 ∧ nq k_ v121 ∧ nq k_ v126) v129 y128) := ⟨h3_⟩
         have n4_ : Aside0 (Below w.heap.size w w43) := ⟨h4_⟩
         clear HO119
         clear HO122
         clear HB
         clear h0_ h1_ h2_ h3_ h4_
         have HO119 := n0_
         have HO122 := n1_
         have HO127 := n2_
         have HO130 := n3_
         have HB := n4_
         clear n0_ n1_ n2_ n3_ n4_
         have hHeld := trivial
         refine norm_ (a' := ?_) ?_ ?_
         rotate_left
         ·simp only [putAll, Act.put, PSET]
          rfl
         refine two_ (i := 2) (j := 6) (Ni := some 52) (Nj := some 56) #[true, true, true, true, true, true, false, false, false, false, false, false, false] #[true, true, false, true, true, true, true, false, false, false, false, false, false] rfl rfl rfl rfl (two_of HT_.out (by kernel_rfl)) (by decide) (by decide) (fun K hK => ?_) (fun K hK => ?_)
         ·skip
          have hcv44 := own_string (P := Try.prog) Try.underlying32 Try.underlying5 Try.underlying9 (Kd.own_of_R HO127.out)
          refine value_ (w1 := ?_) (v := ?_) (by rfl) rfl ?_ ?_
          rotate_left 2
          ·go_simp
           constructor
           ·rfl
           ·rfl
          clear hcv44
          refine hK.out _ _ trivial (fun hHeld => ?_)
          clear hK K
          refine norm_ (a' := ?_) ?_ ?_
          rotate_left
          ·show Act.put _ (some 52) _ = _
           simp only [Act.put, LSET9_]
           rfl
          exact norm_ (by simp only [putAll, Act.put, PSET] <;> rfl) (hJ1_2_5 (v126, v129) _ ⟨HO119.out, HO122.out, HO127.out, HO130.out, HB.out⟩)
         ·skip
          have hcv44 := own_string (P := Try.prog) Try.underlying32 Try.underlying5 Try.underlying9 (Kd.own_of_R HO130.out)
          refine value_ (w1 := ?_) (v := ?_) (by rfl) rfl ?_ ?_
          rotate_left 2
          ·go_simp
           constructor
           ·rfl
           ·rfl
          clear hcv44
          refine hK.out _ _ trivial (fun hHeld => ?_)
          clear hK K
          refine norm_ (a' := ?_) ?_ ?_
          rotate_left
          ·show Act.put _ (some 56) _ = _
           simp only [Act.put, LSET9_]
           rfl
          exact norm_ (by simp only [putAll, Act.put, PSET] <;> rfl) (hJ1_5_6 (v126, v129) _ ⟨HO119.out, HO122.out, HO127.out, HO130.out, HB.out⟩)
       ·skip
        rintro v126 w42 ⟨h0_, h1_, h2_, h3_⟩
        have n0_ : Aside0 (RU w w42 (fun k_ => nq k_ v121 ∧ nq k_ v126) v118 y117) := ⟨h0_⟩
        have n1_ : Aside0 (RU w w42 (fun k_ => nq k_ v118 ∧ nq k_ v126) v121 y120) := ⟨h1_⟩
        have n2_ : Aside0 (RU w w42 (fun k_ => nq k_ v118 ∧ nq k_ v121) v126 y125) := ⟨h2_⟩
        have n3_ : Aside0 (Below w.heap.size w w42) := ⟨h3_⟩
        clear HO119
        clear HO122
        clear HB
        clear h0_ h1_ h2_ h3_
        have HO119 := n0_
        have HO122 := n1_
        have HO127 := n2_
        have HB := n3_
        clear n0_ n1_ n2_ n3_
        have hHeld := trivial
        refine norm_ (a' := ?_) ?_ ?_
        rotate_left
        ·simp only [putAll, Act.put, PSET]
         rfl
        refine one_ (i := 5) (N := some 55) #[true, true, true, true, true, true, false, false, false, false, false, false, false] rfl rfl (one_of HT_.out (by kernel_rfl)) (by decide) (fun K hK => ?_)
        refine Kd.R_make_step (Kd.int .u8) _ 5 (by rfl) (N := 55) rfl 32 _ _ rfl (ji14) rfl rfl Try.underlying32 (.int .u8 0) 1 info5 rfl (by decide) (by omega) 0 (ok := fun _ => True) (okp := fun _ => True) rfl (fun _ hk => hk) trivial (of_decide_eq_true (by assumption)) (Nat.le_trans (Nat.mul_le_mul_right _ (of_decide_eq_true (by assumption) : (ji14).toNat ≤ 281474976710656)) (by omega)) (Below.refl _ _) (Nat.le_refl _) ?_
        intro v129 w43 ho44 hb hg_ hnew_
        clear hg_ hnew_
        (first | rw [← Ny128.out] at ho44 | (simp only [Int.reduceToNat] at ho44; rw [← Ny128.out] at ho44))
        have n0_ := Aside0.mk (Kd.R_elder' HO119.out (Kd.R_base ho44) hb)
        have n1_ := Aside0.mk (Kd.R_elder' HO122.out (Kd.R_base ho44) hb)
        have n2_ := Aside0.mk (Kd.R_elder' HO127.out (Kd.R_base ho44) hb)
        have n3_ := Aside0.mk (Kd.R_lower (Kd.R_new' (Kd.R_new' (Kd.R_new' ho44 (Kd.R_lt HO119.out)) (Kd.R_lt HO122.out)) (Kd.R_lt HO127.out)) (below_size HB.out))
        have n4_ := Aside0.mk (below_step HB.out hb)
        clear HO119
        clear HO122
        clear HO127
        clear HB
        have HO119 := n0_
        have HO122 := n1_
        have HO127 := n2_
        have HO130 := n3_
        have HB := n4_
        clear n0_ n1_ n2_ n3_ n4_
        clear hb ho44
        refine hK.out _ _ trivial (fun hHeld => ?_)
        clear hK K
        refine norm_ (a' := ?_) ?_ ?_
        rotate_left
        ·show Act.put _ (some 55) _ = _
         simp only [Act.put, LSET9_]
         rfl
        exact norm_ (by simp only [putAll, Act.put, PSET] <;> rfl) (hJ1_2_5 (v126, v129) _ ⟨(Kd.R_mono HO119.out (fun _ hk => ⟨hk.1.1, ⟨hk.1.2, hk.2⟩⟩)), (Kd.R_mono HO122.out (fun _ hk => ⟨hk.1.1, ⟨hk.1.2, hk.2⟩⟩)), (Kd.R_mono HO127.out (fun _ hk => ⟨hk.1.1, ⟨hk.1.2, hk.2⟩⟩)), (Kd.R_mono HO130.out (fun _ hk => ⟨hk.1.1.2, ⟨hk.1.2, hk.2⟩⟩)), HB.out⟩)
      ·skip
       rintro ⟨v126, v129⟩ w44 ⟨h0_, h1_, h2_, h3_, h4_⟩
       have n0_ : Aside0 (RU w w44 (fun k_ => nq k_ v121 ∧ nq k_ v126 ∧ nq k_ v129) v118 y117) := ⟨h0_⟩
       have n1_ : Aside0 (RU w w44 (fun k_ => nq k_ v118 ∧ nq k_ v126 ∧ nq k_ v129) v121 y120) := ⟨h1_⟩
       have n2_ : Aside0 (RU w w44 (fun k_ => nq k_ v118 ∧ nq k_ v121 ∧ nq k_ v129) v126 y125) := ⟨h2_⟩
       have n3_ : Aside0 (RU w w44 (fun k_ => nq k_ v118 ∧ nq k_ v121 ∧ nq k_ v126) v129 y128) := ⟨h3_⟩
       have n4_ : Aside0 (Below w.heap.size w w44) := ⟨h4_⟩
       clear HO119
       clear HO122
       clear HB
       clear h0_ h1_ h2_ h3_ h4_
       have HO119 := n0_
       have HO122 := n1_
       have HO127 := n2_
       have HO130 := n3_
       have HB := n4_
       clear n0_ n1_ n2_ n3_ n4_
       have hHeld := trivial
       refine norm_ (a' := ?_) ?_ ?_
       rotate_left
       ·simp only [putAll, Act.put, PSET]
        rfl
       refine one_ (i := 2) (N := some 52) #[true, true, true, true, true, true, true, false, false, false, false, false, false] rfl rfl (one_of HT_.out (by kernel_rfl)) (by decide) (fun K hK => ?_)
       have hcv45 := own_string (P := Try.prog) Try.underlying32 Try.underlying5 Try.underlying9 (Kd.own_of_R HO127.out)
       refine value_ (w1 := ?_) (v := ?_) (by rfl) rfl ?_ ?_
       rotate_left 2
       ·go_simp
        constructor
        ·rfl
        ·rfl
       clear hcv45
       refine hK.out _ _ trivial (fun hHeld => ?_)
       clear hK K
       refine norm_ (a' := ?_) ?_ ?_
       rotate_left
       ·show Act.put _ (some 52) _ = _
        simp only [Act.put, LSET9_]
        rfl
       exact norm_ (by simp only [putAll, Act.put, PSET] <;> rfl) (hJ1_2_5_6 (v126, v129) _ ⟨HO119.out, HO122.out, HO127.out, HO130.out, HB.out⟩)
     ·skip
      rintro ⟨v126, v129⟩ w44 ⟨h0_, h1_, h2_, h3_, h4_⟩
      have n0_ : Aside0 (RU w w44 (fun k_ => nq k_ v121 ∧ nq k_ v126 ∧ nq k_ v129) v118 y117) := ⟨h0_⟩
      have n1_ : Aside0 (RU w w44 (fun k_ => nq k_ v118 ∧ nq k_ v126 ∧ nq k_ v129) v121 y120) := ⟨h1_⟩
      have n2_ : Aside0 (RU w w44 (fun k_ => nq k_ v118 ∧ nq k_ v121 ∧ nq k_ v129) v126 y125) := ⟨h2_⟩
      have n3_ : Aside0 (RU w w44 (fun k_ => nq k_ v118 ∧ nq k_ v121 ∧ nq k_ v126) v129 y128) := ⟨h3_⟩
      have n4_ : Aside0 (Below w.heap.size w w44) := ⟨h4_⟩
      clear HO119
      clear HO122
      clear HB
      clear h0_ h1_ h2_ h3_ h4_
      have HO119 := n0_
      have HO122 := n1_
      have HO127 := n2_
      have HO130 := n3_
      have HB := n4_
      clear n0_ n1_ n2_ n3_ n4_
      have hHeld := trivial
      refine norm_ (a' := ?_) ?_ ?_
      rotate_left
      ·simp only [putAll, Act.put, PSET]
       rfl
      refine one_ (i := 6) (N := some 56) #[true, true, true, true, true, true, true, false, false, false, false, false, false] rfl rfl (one_of HT_.out (by kernel_rfl)) (by decide) (fun K hK => ?_)
      have hcv45 := own_string (P := Try.prog) Try.underlying32 Try.underlying5 Try.underlying9 (Kd.own_of_R HO130.out)
      refine value_ (w1 := ?_) (v := ?_) (by rfl) rfl ?_ ?_
      rotate_left 2
      ·go_simp
       constructor
       ·rfl
       ·rfl
      clear hcv45
      refine hK.out _ _ trivial (fun hHeld => ?_)
      clear hK K
      refine norm_ (a' := ?_) ?_ ?_
      rotate_left
      ·show Act.put _ (some 56) _ = _
       simp only [Act.put, LSET9_]
       rfl
      exact norm_ (by simp only [putAll, Act.put, PSET] <;> rfl) (hJ1_2_5_6 (v126, v129) _ ⟨HO119.out, HO122.out, HO127.out, HO130.out, HB.out⟩)
    rintro ⟨v126, v129⟩ w45 ⟨h0_, h1_, h2_, h3_, h4_⟩
    have n0_ : Aside0 (RU w w45 (fun k_ => nq k_ v121 ∧ nq k_ v126 ∧ nq k_ v129) v118 y117) := ⟨h0_⟩
    have n1_ : Aside0 (RU w w45 (fun k_ => nq k_ v118 ∧ nq k_ v126 ∧ nq k_ v129) v121 y120) := ⟨h1_⟩
    have n2_ : Aside0 (RU w w45 (fun k_ => nq k_ v118 ∧ nq k_ v121 ∧ nq k_ v129) v126 y125) := ⟨h2_⟩
    have n3_ : Aside0 (RU w w45 (fun k_ => nq k_ v118 ∧ nq k_ v121 ∧ nq k_ v126) v129 y128) := ⟨h3_⟩
    have n4_ : Aside0 (Below w.heap.size w w45) := ⟨h4_⟩
    clear HO119
    clear HO122
    clear HB
    clear h0_ h1_ h2_ h3_ h4_
    have HO119 := n0_
    have HO122 := n1_
    have HO127 := n2_
    have HO130 := n3_
    have HB := n4_
    clear n0_ n1_ n2_ n3_ n4_
    have hHeld := trivial
    refine norm_ (a' := ?_) ?_ ?_
    rotate_left
    ·simp only [putAll, Act.put, PSET]
     rfl
    refine one_ (i := 7) (N := some 57) #[true, true, true, true, true, true, true, true, false, false, false, false, false] rfl rfl (one_of HT_.out (by kernel_rfl)) (by decide) (fun K hK => ?_)
    refine goes_ Try.func14 (by kernel_rfl) rfl #[.string (strOfNums y125), .int .i64 a1, .string (strOfNums y128), .string (⟨#[97]⟩ : ByteArray)] (by rfl) rfl rfl (by (try simp only [List.map_toArray, List.map_cons, List.map_nil]); first | done | rfl | (simp only [List.length_drop, List.length_take]; rfl)) ?_
    with_reducible refine (chacha_Xor.calls (strOfNums y125) a1 (strOfNums y128) (⟨#[97]⟩ : ByteArray) t131 t132 _ A18.out).mono ?_
    rintro e w46 ⟨rfl, hb⟩
    refine ⟨_, rfl, ?_⟩
    have n0_ := Aside0.mk (Kd.R_below HO119.out hb)
    have n1_ := Aside0.mk (Kd.R_below HO122.out hb)
    have n2_ := Aside0.mk (Kd.R_below HO127.out hb)
    have n3_ := Aside0.mk (Kd.R_below HO130.out hb)
    have n4_ := Aside0.mk (below_step HB.out hb)
    clear HO119
    clear HO122
    clear HO127
    clear HO130
    clear HB
    have HO119 := n0_
    have HO122 := n1_
    have HO127 := n2_
    have HO130 := n3_
    have HB := n4_
    clear n0_ n1_ n2_ n3_ n4_
    (try clear hb)
    (try clear hb2)
    (try clear hk)
    (try clear hi)
    refine hK.out _ _ trivial (fun hHeld => ?_)
    clear hK K
    refine norm_ (a' := ?_) ?_ ?_
    rotate_left
    ·show Act.put _ (some 57) _ = _
     simp only [Act.put, LSET9_]
     rfl
    refine pure_ (i := 8) (N := some 49) (v := ?_) (a' := ?_) #[true, true, true, true, true, true, true, true, true, false, false, false, false] rfl rfl (any_of HT_.out (by kernel_rfl)) (fun _ _ _ h => h) (Or.inl ⟨by rfl, ?_⟩) ?_ ?_; rotate_left; (· intro w'; go_simp; with_reducible rfl); rotate_left; (· simp only [Act.put, LSET9_]; rfl)
    refine pure_ (i := 9) (N := some 58) (v := ?_) (a' := ?_) #[true, true, true, true, true, true, true, true, true, true, false, false, false] rfl rfl (any_of HT_.out (by kernel_rfl)) (fun _ _ _ h => h) (Or.inl ⟨by rfl, ?_⟩) ?_ ?_; rotate_left; (· intro w'; go_simp; with_reducible rfl); rotate_left; (· simp only [Act.put, LSET9_]; rfl)
    refine pure_ (i := 10) (N := some 59) (v := ?_) (a' := ?_) #[true, true, true, true, true, true, true, true, true, true, true, false, false] rfl rfl (any_of HT_.out (by kernel_rfl)) (fun _ _ _ h => h) (Or.inl ⟨by rfl, ?_⟩) ?_ ?_; rotate_left; (· intro w'; go_simp; with_reducible rfl); rotate_left; (· simp only [Act.put, LSET9_]; rfl)
    refine pure_ (i := 11) (N := some 12) (v := ?_) (a' := ?_) #[true, true, true, true, true, true, true, true, true, true, true, true, false] rfl rfl (any_of HT_.out (by kernel_rfl)) (fun _ _ _ h => h) (Or.inl ⟨by rfl, ?_⟩) ?_ ?_; rotate_left; (· intro w'; go_simp; with_reducible rfl); rotate_left; (· simp only [Act.put, LSET9_]; rfl)
    refine pure_ (i := 12) (N := some 13) (v := ?_) (a' := ?_) #[true, true, true, true, true, true, true, true, true, true, true, true, true] rfl rfl (any_of HT_.out (by kernel_rfl)) (fun _ _ _ h => h) (Or.inl ⟨by rfl, ?_⟩) ?_ ?_; rotate_left; (· intro w'; go_simp; with_reducible rfl); rotate_left; (· simp only [Act.put, LSET9_]; rfl)
    refine done_ (done_of HT_.out (by kernel_rfl)) ?_
    try go_wp2
    have n0_ := Aside0.mk (Kd.R_drew HO119.out)
    have n1_ := Aside0.mk (Kd.R_drew HO122.out)
    have n2_ := Aside0.mk (Kd.R_drew HO127.out)
    have n3_ := Aside0.mk (Kd.R_drew HO130.out)
    have n4_ := Aside0.mk (below_drew1 HB.out)
    clear HO119
    clear HO122
    clear HO127
    clear HO130
    clear HB
    have HO119 := n0_
    have HO122 := n1_
    have HO127 := n2_
    have HO130 := n3_
    have HB := n4_
    clear n0_ n1_ n2_ n3_ n4_
    refine start_ (n := 12) (S := fun w' => True) (ds := []) #[false, false, false, false, false, false, false, false, false, false, false, false] (by kernel_rfl) rfl rfl trivial (fun hHeld => ?_); refine with_tabW halberdlaw6_ChachaForms.tab7 halberdlaw6_ChachaForms.bits7 (fun HT_ HW_ => ?_)
    generalize w46.drew = w47 at HO119 HO122 HO127 HO130 HB hHeld ⊢
    refine join_ (σ := Value × Value × Value) 6 #[true, true, true, true, true, true, false, false, false, false, false, false] (fun s_ => [(61, s_.1), (62, .string (strOfNums y133)), (63, s_.2.1), (64, .string (strOfNums y136)), (65, s_.2.2), (66, .string (strOfNums y139))]) (fun s_ w' => (RU w w' (fun k_ => nq k_ v121 ∧ nq k_ v126 ∧ nq k_ v129 ∧ nq k_ s_.1 ∧ nq k_ s_.2.1 ∧ nq k_ s_.2.2) v118 y117) ∧ (RU w w' (fun k_ => nq k_ v118 ∧ nq k_ v126 ∧ nq k_ v129 ∧ nq k_ s_.1 ∧ nq k_ s_.2.1 ∧ nq k_ s_.2.2) v121 y120) ∧ (RU w w' (fun k_ => nq k_ v118 ∧ nq k_ v121 ∧ nq k_ v129 ∧ nq k_ s_.1 ∧ nq k_ s_.2.1 ∧ nq k_ s_.2.2) v126 y125) ∧ (RU w w' (fun k_ => nq k_ v118 ∧ nq k_ v121 ∧ nq k_ v126 ∧ nq k_ s_.1 ∧ nq k_ s_.2.1 ∧ nq k_ s_.2.2) v129 y128) ∧ (RU w w' (fun k_ => nq k_ v118 ∧ nq k_ v121 ∧ nq k_ v126 ∧ nq k_ v129 ∧ nq k_ s_.2.1 ∧ nq k_ s_.2.2) s_.1 y133) ∧ (RU w w' (fun k_ => nq k_ v118 ∧ nq k_ v121 ∧ nq k_ v126 ∧ nq k_ v129 ∧ nq k_ s_.1 ∧ nq k_ s_.2.2) s_.2.1 y136) ∧ (RU w w' (fun k_ => nq k_ v118 ∧ nq k_ v121 ∧ nq k_ v126 ∧ nq k_ v129 ∧ nq k_ s_.1 ∧ nq k_ s_.2.1) s_.2.2 y139) ∧ (Below w.heap.size w w')) ?_ ?_
    rotate_left
    ·intro hJ0_1_2_3_4_5
     refine join_ (σ := Value × Value × Value) 7 #[true, true, true, true, true, false, false, false, false, false, false, false] (fun s_ => [(61, s_.1), (62, .string (strOfNums y133)), (63, s_.2.1), (64, .string (strOfNums y136)), (65, s_.2.2)]) (fun s_ w' => (RU w w' (fun k_ => nq k_ v121 ∧ nq k_ v126 ∧ nq k_ v129 ∧ nq k_ s_.1 ∧ nq k_ s_.2.1 ∧ nq k_ s_.2.2) v118 y117) ∧ (RU w w' (fun k_ => nq k_ v118 ∧ nq k_ v126 ∧ nq k_ v129 ∧ nq k_ s_.1 ∧ nq k_ s_.2.1 ∧ nq k_ s_.2.2) v121 y120) ∧ (RU w w' (fun k_ => nq k_ v118 ∧ nq k_ v121 ∧ nq k_ v129 ∧ nq k_ s_.1 ∧ nq k_ s_.2.1 ∧ nq k_ s_.2.2) v126 y125) ∧ (RU w w' (fun k_ => nq k_ v118 ∧ nq k_ v121 ∧ nq k_ v126 ∧ nq k_ s_.1 ∧ nq k_ s_.2.1 ∧ nq k_ s_.2.2) v129 y128) ∧ (RU w w' (fun k_ => nq k_ v118 ∧ nq k_ v121 ∧ nq k_ v126 ∧ nq k_ v129 ∧ nq k_ s_.2.1 ∧ nq k_ s_.2.2) s_.1 y133) ∧ (RU w w' (fun k_ => nq k_ v118 ∧ nq k_ v121 ∧ nq k_ v126 ∧ nq k_ v129 ∧ nq k_ s_.1 ∧ nq k_ s_.2.2) s_.2.1 y136) ∧ (RU w w' (fun k_ => nq k_ v118 ∧ nq k_ v121 ∧ nq k_ v126 ∧ nq k_ v129 ∧ nq k_ s_.1 ∧ nq k_ s_.2.1) s_.2.2 y139) ∧ (Below w.heap.size w w')) ?_ ?_
     rotate_left
     ·intro hJ0_1_2_3_4
      refine join_ (σ := Value × Value × Value) 7 #[true, true, true, false, true, true, false, false, false, false, false, false] (fun s_ => [(61, s_.1), (62, .string (strOfNums y133)), (63, s_.2.1), (65, s_.2.2), (66, .string (strOfNums y139))]) (fun s_ w' => (RU w w' (fun k_ => nq k_ v121 ∧ nq k_ v126 ∧ nq k_ v129 ∧ nq k_ s_.1 ∧ nq k_ s_.2.1 ∧ nq k_ s_.2.2) v118 y117) ∧ (RU w w' (fun k_ => nq k_ v118 ∧ nq k_ v126 ∧ nq k_ v129 ∧ nq k_ s_.1 ∧ nq k_ s_.2.1 ∧ nq k_ s_.2.2) v121 y120) ∧ (RU w w' (fun k_ => nq k_ v118 ∧ nq k_ v121 ∧ nq k_ v129 ∧ nq k_ s_.1 ∧ nq k_ s_.2.1 ∧ nq k_ s_.2.2) v126 y125) ∧ (RU w w' (fun k_ => nq k_ v118 ∧ nq k_ v121 ∧ nq k_ v126 ∧ nq k_ s_.1 ∧ nq k_ s_.2.1 ∧ nq k_ s_.2.2) v129 y128) ∧ (RU w w' (fun k_ => nq k_ v118 ∧ nq k_ v121 ∧ nq k_ v126 ∧ nq k_ v129 ∧ nq k_ s_.2.1 ∧ nq k_ s_.2.2) s_.1 y133) ∧ (RU w w' (fun k_ => nq k_ v118 ∧ nq k_ v121 ∧ nq k_ v126 ∧ nq k_ v129 ∧ nq k_ s_.1 ∧ nq k_ s_.2.2) s_.2.1 y136) ∧ (RU w w' (fun k_ => nq k_ v118 ∧ nq k_ v121 ∧ nq k_ v126 ∧ nq k_ v129 ∧ nq k_ s_.1 ∧ nq k_ s_.2.1) s_.2.2 y139) ∧ (Below w.heap.size w w')) ?_ ?_
      rotate_left
      ·intro hJ0_1_2_4_5
       refine join_ (σ := Value × Value × Value) 7 #[true, false, true, true, true, true, false, false, false, false, false, false] (fun s_ => [(61, s_.1), (63, s_.2.1), (64, .string (strOfNums y136)), (65, s_.2.2), (66, .string (strOfNums y139))]) (fun s_ w' => (RU w w' (fun k_ => nq k_ v121 ∧ nq k_ v126 ∧ nq k_ v129 ∧ nq k_ s_.1 ∧ nq k_ s_.2.1 ∧ nq k_ s_.2.2) v118 y117) ∧ (RU w w' (fun k_ => nq k_ v118 ∧ nq k_ v126 ∧ nq k_ v129 ∧ nq k_ s_.1 ∧ nq k_ s_.2.1 ∧ nq k_ s_.2.2) v121 y120) ∧ (RU w w' (fun k_ => nq k_ v118 ∧ nq k_ v121 ∧ nq k_ v129 ∧ nq k_ s_.1 ∧ nq k_ s_.2.1 ∧ nq k_ s_.2.2) v126 y125) ∧ (RU w w' (fun k_ => nq k_ v118 ∧ nq k_ v121 ∧ nq k_ v126 ∧ nq k_ s_.1 ∧ nq k_ s_.2.1 ∧ nq k_ s_.2.2) v129 y128) ∧ (RU w w' (fun k_ => nq k_ v118 ∧ nq k_ v121 ∧ nq k_ v126 ∧ nq k_ v129 ∧ nq k_ s_.2.1 ∧ nq k_ s_.2.2) s_.1 y133) ∧ (RU w w' (fun k_ => nq k_ v118 ∧ nq k_ v121 ∧ nq k_ v126 ∧ nq k_ v129 ∧ nq k_ s_.1 ∧ nq k_ s_.2.2) s_.2.1 y136) ∧ (RU w w' (fun k_ => nq k_ v118 ∧ nq k_ v121 ∧ nq k_ v126 ∧ nq k_ v129 ∧ nq k_ s_.1 ∧ nq k_ s_.2.1) s_.2.2 y139) ∧ (Below w.heap.size w w')) ?_ ?_
       rotate_left
       ·intro hJ0_2_3_4_5
        refine join_ (σ := Value × Value) 8 #[true, true, true, true, false, false, false, false, false, false, false, false] (fun s_ => [(61, s_.1), (62, .string (strOfNums y133)), (63, s_.2), (64, .string (strOfNums y136))]) (fun s_ w' => (RU w w' (fun k_ => nq k_ v121 ∧ nq k_ v126 ∧ nq k_ v129 ∧ nq k_ s_.1 ∧ nq k_ s_.2) v118 y117) ∧ (RU w w' (fun k_ => nq k_ v118 ∧ nq k_ v126 ∧ nq k_ v129 ∧ nq k_ s_.1 ∧ nq k_ s_.2) v121 y120) ∧ (RU w w' (fun k_ => nq k_ v118 ∧ nq k_ v121 ∧ nq k_ v129 ∧ nq k_ s_.1 ∧ nq k_ s_.2) v126 y125) ∧ (RU w w' (fun k_ => nq k_ v118 ∧ nq k_ v121 ∧ nq k_ v126 ∧ nq k_ s_.1 ∧ nq k_ s_.2) v129 y128) ∧ (RU w w' (fun k_ => nq k_ v118 ∧ nq k_ v121 ∧ nq k_ v126 ∧ nq k_ v129 ∧ nq k_ s_.2) s_.1 y133) ∧ (RU w w' (fun k_ => nq k_ v118 ∧ nq k_ v121 ∧ nq k_ v126 ∧ nq k_ v129 ∧ nq k_ s_.1) s_.2 y136) ∧ (Below w.heap.size w w')) ?_ ?_
        rotate_left
        ·intro hJ0_1_2_3
         refine join_ (σ := Value × Value × Value) 8 #[true, true, true, false, true, false, false, false, false, false, false, false] (fun s_ => [(61, s_.1), (62, .string (strOfNums y133)), (63, s_.2.1), (65, s_.2.2)]) (fun s_ w' => (RU w w' (fun k_ => nq k_ v121 ∧ nq k_ v126 ∧ nq k_ v129 ∧ nq k_ s_.1 ∧ nq k_ s_.2.1 ∧ nq k_ s_.2.2) v118 y117) ∧ (RU w w' (fun k_ => nq k_ v118 ∧ nq k_ v126 ∧ nq k_ v129 ∧ nq k_ s_.1 ∧ nq k_ s_.2.1 ∧ nq k_ s_.2.2) v121 y120) ∧ (RU w w' (fun k_ => nq k_ v118 ∧ nq k_ v121 ∧ nq k_ v129 ∧ nq k_ s_.1 ∧ nq k_ s_.2.1 ∧ nq k_ s_.2.2) v126 y125) ∧ (RU w w' (fun k_ => nq k_ v118 ∧ nq k_ v121 ∧ nq k_ v126 ∧ nq k_ s_.1 ∧ nq k_ s_.2.1 ∧ nq k_ s_.2.2) v129 y128) ∧ (RU w w' (fun k_ => nq k_ v118 ∧ nq k_ v121 ∧ nq k_ v126 ∧ nq k_ v129 ∧ nq k_ s_.2.1 ∧ nq k_ s_.2.2) s_.1 y133) ∧ (RU w w' (fun k_ => nq k_ v118 ∧ nq k_ v121 ∧ nq k_ v126 ∧ nq k_ v129 ∧ nq k_ s_.1 ∧ nq k_ s_.2.2) s_.2.1 y136) ∧ (RU w w' (fun k_ => nq k_ v118 ∧ nq k_ v121 ∧ nq k_ v126 ∧ nq k_ v129 ∧ nq k_ s_.1 ∧ nq k_ s_.2.1) s_.2.2 y139) ∧ (Below w.heap.size w w')) ?_ ?_
         rotate_left
         ·intro hJ0_1_2_4
          refine join_ (σ := Value × Value) 8 #[true, true, false, false, true, true, false, false, false, false, false, false] (fun s_ => [(61, s_.1), (62, .string (strOfNums y133)), (65, s_.2), (66, .string (strOfNums y139))]) (fun s_ w' => (RU w w' (fun k_ => nq k_ v121 ∧ nq k_ v126 ∧ nq k_ v129 ∧ nq k_ s_.1 ∧ nq k_ s_.2) v118 y117) ∧ (RU w w' (fun k_ => nq k_ v118 ∧ nq k_ v126 ∧ nq k_ v129 ∧ nq k_ s_.1 ∧ nq k_ s_.2) v121 y120) ∧ (RU w w' (fun k_ => nq k_ v118 ∧ nq k_ v121 ∧ nq k_ v129 ∧ nq k_ s_.1 ∧ nq k_ s_.2) v126 y125) ∧ (RU w w' (fun k_ => nq k_ v118 ∧ nq k_ v121 ∧ nq k_ v126 ∧ nq k_ s_.1 ∧ nq k_ s_.2) v129 y128) ∧ (RU w w' (fun k_ => nq k_ v118 ∧ nq k_ v121 ∧ nq k_ v126 ∧ nq k_ v129 ∧ nq k_ s_.2) s_.1 y133) ∧ (RU w w' (fun k_ => nq k_ v118 ∧ nq k_ v121 ∧ nq k_ v126 ∧ nq k_ v129 ∧ nq k_ s_.1) s_.2 y139) ∧ (Below w.heap.size w w')) ?_ ?_
          rotate_left
          ·intro hJ0_1_4_5
           refine join_ (σ := Value × Value × Value) 8 #[true, false, true, true, true, false, false, false, false, false, false, false] (fun s_ => [(61, s_.1), (63, s_.2.1), (64, .string (strOfNums y136)), (65, s_.2.2)]) (fun s_ w' => (RU w w' (fun k_ => nq k_ v121 ∧ nq k_ v126 ∧ nq k_ v129 ∧ nq k_ s_.1 ∧ nq k_ s_.2.1 ∧ nq k_ s_.2.2) v118 y117) ∧ (RU w w' (fun k_ => nq k_ v118 ∧ nq k_ v126 ∧ nq k_ v129 ∧ nq k_ s_.1 ∧ nq k_ s_.2.1 ∧ nq k_ s_.2.2) v121 y120) ∧ (RU w w' (fun k_ => nq k_ v118 ∧ nq k_ v121 ∧ nq k_ v129 ∧ nq k_ s_.1 ∧ nq k_ s_.2.1 ∧ nq k_ s_.2.2) v126 y125) ∧ (RU w w' (fun k_ => nq k_ v118 ∧ nq k_ v121 ∧ nq k_ v126 ∧ nq k_ s_.1 ∧ nq k_ s_.2.1 ∧ nq k_ s_.2.2) v129 y128) ∧ (RU w w' (fun k_ => nq k_ v118 ∧ nq k_ v121 ∧ nq k_ v126 ∧ nq k_ v129 ∧ nq k_ s_.2.1 ∧ nq k_ s_.2.2) s_.1 y133) ∧ (RU w w' (fun k_ => nq k_ v118 ∧ nq k_ v121 ∧ nq k_ v126 ∧ nq k_ v129 ∧ nq k_ s_.1 ∧ nq k_ s_.2.2) s_.2.1 y136) ∧ (RU w w' (fun k_ => nq k_ v118 ∧ nq k_ v121 ∧ nq k_ v126 ∧ nq k_ v129 ∧ nq k_ s_.1 ∧ nq k_ s_.2.1) s_.2.2 y139) ∧ (Below w.heap.size w w')) ?_ ?_
           rotate_left
           ·intro hJ0_2_3_4
            refine join_ (σ := Value × Value × Value) 8 #[true, false, true, false, true, true, false, false, false, false, false, false] (fun s_ => [(61, s_.1), (63, s_.2.1), (65, s_.2.2), (66, .string (strOfNums y139))]) (fun s_ w' => (RU w w' (fun k_ => nq k_ v121 ∧ nq k_ v126 ∧ nq k_ v129 ∧ nq k_ s_.1 ∧ nq k_ s_.2.1 ∧ nq k_ s_.2.2) v118 y117) ∧ (RU w w' (fun k_ => nq k_ v118 ∧ nq k_ v126 ∧ nq k_ v129 ∧ nq k_ s_.1 ∧ nq k_ s_.2.1 ∧ nq k_ s_.2.2) v121 y120) ∧ (RU w w' (fun k_ => nq k_ v118 ∧ nq k_ v121 ∧ nq k_ v129 ∧ nq k_ s_.1 ∧ nq k_ s_.2.1 ∧ nq k_ s_.2.2) v126 y125) ∧ (RU w w' (fun k_ => nq k_ v118 ∧ nq k_ v121 ∧ nq k_ v126 ∧ nq k_ s_.1 ∧ nq k_ s_.2.1 ∧ nq k_ s_.2.2) v129 y128) ∧ (RU w w' (fun k_ => nq k_ v118 ∧ nq k_ v121 ∧ nq k_ v126 ∧ nq k_ v129 ∧ nq k_ s_.2.1 ∧ nq k_ s_.2.2) s_.1 y133) ∧ (RU w w' (fun k_ => nq k_ v118 ∧ nq k_ v121 ∧ nq k_ v126 ∧ nq k_ v129 ∧ nq k_ s_.1 ∧ nq k_ s_.2.2) s_.2.1 y136) ∧ (RU w w' (fun k_ => nq k_ v118 ∧ nq k_ v121 ∧ nq k_ v126 ∧ nq k_ v129 ∧ nq k_ s_.1 ∧ nq k_ s_.2.1) s_.2.2 y139) ∧ (Below w.heap.size w w')) ?_ ?_
            rotate_left
            ·intro hJ0_2_4_5
             refine join_ (σ := Value × Value) 8 #[false, false, true, true, true, true, false, false, false, false, false, false] (fun s_ => [(63, s_.1), (64, .string (strOfNums y136)), (65, s_.2), (66, .string (strOfNums y139))]) (fun s_ w' => (RU w w' (fun k_ => nq k_ v121 ∧ nq k_ v126 ∧ nq k_ v129 ∧ nq k_ s_.1 ∧ nq k_ s_.2) v118 y117) ∧ (RU w w' (fun k_ => nq k_ v118 ∧ nq k_ v126 ∧ nq k_ v129 ∧ nq k_ s_.1 ∧ nq k_ s_.2) v121 y120) ∧ (RU w w' (fun k_ => nq k_ v118 ∧ nq k_ v121 ∧ nq k_ v129 ∧ nq k_ s_.1 ∧ nq k_ s_.2) v126 y125) ∧ (RU w w' (fun k_ => nq k_ v118 ∧ nq k_ v121 ∧ nq k_ v126 ∧ nq k_ s_.1 ∧ nq k_ s_.2) v129 y128) ∧ (RU w w' (fun k_ => nq k_ v118 ∧ nq k_ v121 ∧ nq k_ v126 ∧ nq k_ v129 ∧ nq k_ s_.2) s_.1 y136) ∧ (RU w w' (fun k_ => nq k_ v118 ∧ nq k_ v121 ∧ nq k_ v126 ∧ nq k_ v129 ∧ nq k_ s_.1) s_.2 y139) ∧ (Below w.heap.size w w')) ?_ ?_
             rotate_left
             ·intro hJ2_3_4_5
              refine join_ (σ := Value × Value) 9 #[true, true, true, false, false, false, false, false, false, false, false, false] (fun s_ => [(61, s_.1), (62, .string (strOfNums y133)), (63, s_.2)]) (fun s_ w' => (RU w w' (fun k_ => nq k_ v121 ∧ nq k_ v126 ∧ nq k_ v129 ∧ nq k_ s_.1 ∧ nq k_ s_.2) v118 y117) ∧ (RU w w' (fun k_ => nq k_ v118 ∧ nq k_ v126 ∧ nq k_ v129 ∧ nq k_ s_.1 ∧ nq k_ s_.2) v121 y120) ∧ (RU w w' (fun k_ => nq k_ v118 ∧ nq k_ v121 ∧ nq k_ v129 ∧ nq k_ s_.1 ∧ nq k_ s_.2) v126 y125) ∧ (RU w w' (fun k_ => nq k_ v118 ∧ nq k_ v121 ∧ nq k_ v126 ∧ nq k_ s_.1 ∧ nq k_ s_.2) v129 y128) ∧ (RU w w' (fun k_ => nq k_ v118 ∧ nq k_ v121 ∧ nq k_ v126 ∧ nq k_ v129 ∧ nq k_ s_.2) s_.1 y133) ∧ (RU w w' (fun k_ => nq k_ v118 ∧ nq k_ v121 ∧ nq k_ v126 ∧ nq k_ v129 ∧ nq k_ s_.1) s_.2 y136) ∧ (Below w.heap.size w w')) ?_ ?_
              rotate_left
              ·intro hJ0_1_2
               refine join_ (σ := Value × Value) 9 #[true, true, false, false, true, false, false, false, false, false, false, false] (fun s_ => [(61, s_.1), (62, .string (strOfNums y133)), (65, s_.2)]) (fun s_ w' => (RU w w' (fun k_ => nq k_ v121 ∧ nq k_ v126 ∧ nq k_ v129 ∧ nq k_ s_.1 ∧ nq k_ s_.2) v118 y117) ∧ (RU w w' (fun k_ => nq k_ v118 ∧ nq k_ v126 ∧ nq k_ v129 ∧ nq k_ s_.1 ∧ nq k_ s_.2) v121 y120) ∧ (RU w w' (fun k_ => nq k_ v118 ∧ nq k_ v121 ∧ nq k_ v129 ∧ nq k_ s_.1 ∧ nq k_ s_.2) v126 y125) ∧ (RU w w' (fun k_ => nq k_ v118 ∧ nq k_ v121 ∧ nq k_ v126 ∧ nq k_ s_.1 ∧ nq k_ s_.2) v129 y128) ∧ (RU w w' (fun k_ => nq k_ v118 ∧ nq k_ v121 ∧ nq k_ v126 ∧ nq k_ v129 ∧ nq k_ s_.2) s_.1 y133) ∧ (RU w w' (fun k_ => nq k_ v118 ∧ nq k_ v121 ∧ nq k_ v126 ∧ nq k_ v129 ∧ nq k_ s_.1) s_.2 y139) ∧ (Below w.heap.size w w')) ?_ ?_
               rotate_left
               ·intro hJ0_1_4
                refine join_ (σ := Value × Value) 9 #[true, false, true, true, false, false, false, false, false, false, false, false] (fun s_ => [(61, s_.1), (63, s_.2), (64, .string (strOfNums y136))]) (fun s_ w' => (RU w w' (fun k_ => nq k_ v121 ∧ nq k_ v126 ∧ nq k_ v129 ∧ nq k_ s_.1 ∧ nq k_ s_.2) v118 y117) ∧ (RU w w' (fun k_ => nq k_ v118 ∧ nq k_ v126 ∧ nq k_ v129 ∧ nq k_ s_.1 ∧ nq k_ s_.2) v121 y120) ∧ (RU w w' (fun k_ => nq k_ v118 ∧ nq k_ v121 ∧ nq k_ v129 ∧ nq k_ s_.1 ∧ nq k_ s_.2) v126 y125) ∧ (RU w w' (fun k_ => nq k_ v118 ∧ nq k_ v121 ∧ nq k_ v126 ∧ nq k_ s_.1 ∧ nq k_ s_.2) v129 y128) ∧ (RU w w' (fun k_ => nq k_ v118 ∧ nq k_ v121 ∧ nq k_ v126 ∧ nq k_ v129 ∧ nq k_ s_.2) s_.1 y133) ∧ (RU w w' (fun k_ => nq k_ v118 ∧ nq k_ v121 ∧ nq k_ v126 ∧ nq k_ v129 ∧ nq k_ s_.1) s_.2 y136) ∧ (Below w.heap.size w w')) ?_ ?_
                rotate_left
                ·intro hJ0_2_3
                 refine join_ (σ := Value × Value × Value) 9 #[true, false, true, false, true, false, false, false, false, false, false, false] (fun s_ => [(61, s_.1), (63, s_.2.1), (65, s_.2.2)]) (fun s_ w' => (RU w w' (fun k_ => nq k_ v121 ∧ nq k_ v126 ∧ nq k_ v129 ∧ nq k_ s_.1 ∧ nq k_ s_.2.1 ∧ nq k_ s_.2.2) v118 y117) ∧ (RU w w' (fun k_ => nq k_ v118 ∧ nq k_ v126 ∧ nq k_ v129 ∧ nq k_ s_.1 ∧ nq k_ s_.2.1 ∧ nq k_ s_.2.2) v121 y120) ∧ (RU w w' (fun k_ => nq k_ v118 ∧ nq k_ v121 ∧ nq k_ v129 ∧ nq k_ s_.1 ∧ nq k_ s_.2.1 ∧ nq k_ s_.2.2) v126 y125) ∧ (RU w w' (fun k_ => nq k_ v118 ∧ nq k_ v121 ∧ nq k_ v126 ∧ nq k_ s_.1 ∧ nq k_ s_.2.1 ∧ nq k_ s_.2.2) v129 y128) ∧ (RU w w' (fun k_ => nq k_ v118 ∧ nq k_ v121 ∧ nq k_ v126 ∧ nq k_ v129 ∧ nq k_ s_.2.1 ∧ nq k_ s_.2.2) s_.1 y133) ∧ (RU w w' (fun k_ => nq k_ v118 ∧ nq k_ v121 ∧ nq k_ v126 ∧ nq k_ v129 ∧ nq k_ s_.1 ∧ nq k_ s_.2.2) s_.2.1 y136) ∧ (RU w w' (fun k_ => nq k_ v118 ∧ nq k_ v121 ∧ nq k_ v126 ∧ nq k_ v129 ∧ nq k_ s_.1 ∧ nq k_ s_.2.1) s_.2.2 y139) ∧ (Below w.heap.size w w')) ?_ ?_
                 rotate_left
                 ·intro hJ0_2_4
                  refine join_ (σ := Value × Value) 9 #[true, false, false, false, true, true, false, false, false, false, false, false] (fun s_ => [(61, s_.1), (65, s_.2), (66, .string (strOfNums y139))]) (fun s_ w' => (RU w w' (fun k_ => nq k_ v121 ∧ nq k_ v126 ∧ nq k_ v129 ∧ nq k_ s_.1 ∧ nq k_ s_.2) v118 y117) ∧ (RU w w' (fun k_ => nq k_ v118 ∧ nq k_ v126 ∧ nq k_ v129 ∧ nq k_ s_.1 ∧ nq k_ s_.2) v121 y120) ∧ (RU w w' (fun k_ => nq k_ v118 ∧ nq k_ v121 ∧ nq k_ v129 ∧ nq k_ s_.1 ∧ nq k_ s_.2) v126 y125) ∧ (RU w w' (fun k_ => nq k_ v118 ∧ nq k_ v121 ∧ nq k_ v126 ∧ nq k_ s_.1 ∧ nq k_ s_.2) v129 y128) ∧ (RU w w' (fun k_ => nq k_ v118 ∧ nq k_ v121 ∧ nq k_ v126 ∧ nq k_ v129 ∧ nq k_ s_.2) s_.1 y133) ∧ (RU w w' (fun k_ => nq k_ v118 ∧ nq k_ v121 ∧ nq k_ v126 ∧ nq k_ v129 ∧ nq k_ s_.1) s_.2 y139) ∧ (Below w.heap.size w w')) ?_ ?_
                  rotate_left
                  ·intro hJ0_4_5
                   refine join_ (σ := Value × Value) 9 #[false, false, true, true, true, false, false, false, false, false, false, false] (fun s_ => [(63, s_.1), (64, .string (strOfNums y136)), (65, s_.2)]) (fun s_ w' => (RU w w' (fun k_ => nq k_ v121 ∧ nq k_ v126 ∧ nq k_ v129 ∧ nq k_ s_.1 ∧ nq k_ s_.2) v118 y117) ∧ (RU w w' (fun k_ => nq k_ v118 ∧ nq k_ v126 ∧ nq k_ v129 ∧ nq k_ s_.1 ∧ nq k_ s_.2) v121 y120) ∧ (RU w w' (fun k_ => nq k_ v118 ∧ nq k_ v121 ∧ nq k_ v129 ∧ nq k_ s_.1 ∧ nq k_ s_.2) v126 y125) ∧ (RU w w' (fun k_ => nq k_ v118 ∧ nq k_ v121 ∧ nq k_ v126 ∧ nq k_ s_.1 ∧ nq k_ s_.2) v129 y128) ∧ (RU w w' (fun k_ => nq k_ v118 ∧ nq k_ v121 ∧ nq k_ v126 ∧ nq k_ v129 ∧ nq k_ s_.2) s_.1 y136) ∧ (RU w w' (fun k_ => nq k_ v118 ∧ nq k_ v121 ∧ nq k_ v126 ∧ nq k_ v129 ∧ nq k_ s_.1) s_.2 y139) ∧ (Below w.heap.size w w')) ?_ ?_
                   rotate_left
                   ·intro hJ2_3_4
                    refine join_ (σ := Value × Value) 9 #[false, false, true, false, true, true, false, false, false, false, false, false] (fun s_ => [(63, s_.1), (65, s_.2), (66, .string (strOfNums y139))]) (fun s_ w' => (RU w w' (fun k_ => nq k_ v121 ∧ nq k_ v126 ∧ nq k_ v129 ∧ nq k_ s_.1 ∧ nq k_ s_.2) v118 y117) ∧ (RU w w' (fun k_ => nq k_ v118 ∧ nq k_ v126 ∧ nq k_ v129 ∧ nq k_ s_.1 ∧ nq k_ s_.2) v121 y120) ∧ (RU w w' (fun k_ => nq k_ v118 ∧ nq k_ v121 ∧ nq k_ v129 ∧ nq k_ s_.1 ∧ nq k_ s_.2) v126 y125) ∧ (RU w w' (fun k_ => nq k_ v118 ∧ nq k_ v121 ∧ nq k_ v126 ∧ nq k_ s_.1 ∧ nq k_ s_.2) v129 y128) ∧ (RU w w' (fun k_ => nq k_ v118 ∧ nq k_ v121 ∧ nq k_ v126 ∧ nq k_ v129 ∧ nq k_ s_.2) s_.1 y136) ∧ (RU w w' (fun k_ => nq k_ v118 ∧ nq k_ v121 ∧ nq k_ v126 ∧ nq k_ v129 ∧ nq k_ s_.1) s_.2 y139) ∧ (Below w.heap.size w w')) ?_ ?_
                    rotate_left
                    ·intro hJ2_4_5
                     refine join_ (σ := Value) 10 #[true, true, false, false, false, false, false, false, false, false, false, false] (fun s_ => [(61, s_), (62, .string (strOfNums y133))]) (fun s_ w' => (RU w w' (fun k_ => nq k_ v121 ∧ nq k_ v126 ∧ nq k_ v129 ∧ nq k_ s_) v118 y117) ∧ (RU w w' (fun k_ => nq k_ v118 ∧ nq k_ v126 ∧ nq k_ v129 ∧ nq k_ s_) v121 y120) ∧ (RU w w' (fun k_ => nq k_ v118 ∧ nq k_ v121 ∧ nq k_ v129 ∧ nq k_ s_) v126 y125) ∧ (RU w w' (fun k_ => nq k_ v118 ∧ nq k_ v121 ∧ nq k_ v126 ∧ nq k_ s_) v129 y128) ∧ (RU w w' (fun k_ => nq k_ v118 ∧ nq k_ v121 ∧ nq k_ v126 ∧ nq k_ v129) s_ y133) ∧ (Below w.heap.size w w')) ?_ ?_
                     rotate_left
                     ·intro hJ0_1
                      refine join_ (σ := Value × Value) 10 #[true, false, true, false, false, false, false, false, false, false, false, false] (fun s_ => [(61, s_.1), (63, s_.2)]) (fun s_ w' => (RU w w' (fun k_ => nq k_ v121 ∧ nq k_ v126 ∧ nq k_ v129 ∧ nq k_ s_.1 ∧ nq k_ s_.2) v118 y117) ∧ (RU w w' (fun k_ => nq k_ v118 ∧ nq k_ v126 ∧ nq k_ v129 ∧ nq k_ s_.1 ∧ nq k_ s_.2) v121 y120) ∧ (RU w w' (fun k_ => nq k_ v118 ∧ nq k_ v121 ∧ nq k_ v129 ∧ nq k_ s_.1 ∧ nq k_ s_.2) v126 y125) ∧ (RU w w' (fun k_ => nq k_ v118 ∧ nq k_ v121 ∧ nq k_ v126 ∧ nq k_ s_.1 ∧ nq k_ s_.2) v129 y128) ∧ (RU w w' (fun k_ => nq k_ v118 ∧ nq k_ v121 ∧ nq k_ v126 ∧ nq k_ v129 ∧ nq k_ s_.2) s_.1 y133) ∧ (RU w w' (fun k_ => nq k_ v118 ∧ nq k_ v121 ∧ nq k_ v126 ∧ nq k_ v129 ∧ nq k_ s_.1) s_.2 y136) ∧ (Below w.heap.size w w')) ?_ ?_
                      rotate_left
                      ·intro hJ0_2
                       refine join_ (σ := Value × Value) 10 #[true, false, false, false, true, false, false, false, false, false, false, false] (fun s_ => [(61, s_.1), (65, s_.2)]) (fun s_ w' => (RU w w' (fun k_ => nq k_ v121 ∧ nq k_ v126 ∧ nq k_ v129 ∧ nq k_ s_.1 ∧ nq k_ s_.2) v118 y117) ∧ (RU w w' (fun k_ => nq k_ v118 ∧ nq k_ v126 ∧ nq k_ v129 ∧ nq k_ s_.1 ∧ nq k_ s_.2) v121 y120) ∧ (RU w w' (fun k_ => nq k_ v118 ∧ nq k_ v121 ∧ nq k_ v129 ∧ nq k_ s_.1 ∧ nq k_ s_.2) v126 y125) ∧ (RU w w' (fun k_ => nq k_ v118 ∧ nq k_ v121 ∧ nq k_ v126 ∧ nq k_ s_.1 ∧ nq k_ s_.2) v129 y128) ∧ (RU w w' (fun k_ => nq k_ v118 ∧ nq k_ v121 ∧ nq k_ v126 ∧ nq k_ v129 ∧ nq k_ s_.2) s_.1 y133) ∧ (RU w w' (fun k_ => nq k_ v118 ∧ nq k_ v121 ∧ nq k_ v126 ∧ nq k_ v129 ∧ nq k_ s_.1) s_.2 y139) ∧ (Below w.heap.size w w')) ?_ ?_
                       rotate_left
                       ·intro hJ0_4
                        refine join_ (σ := Value) 10 #[false, false, true, true, false, false, false, false, false, false, false, false] (fun s_ => [(63, s_), (64, .string (strOfNums y136))]) (fun s_ w' => (RU w w' (fun k_ => nq k_ v121 ∧ nq k_ v126 ∧ nq k_ v129 ∧ nq k_ s_) v118 y117) ∧ (RU w w' (fun k_ => nq k_ v118 ∧ nq k_ v126 ∧ nq k_ v129 ∧ nq k_ s_) v121 y120) ∧ (RU w w' (fun k_ => nq k_ v118 ∧ nq k_ v121 ∧ nq k_ v129 ∧ nq k_ s_) v126 y125) ∧ (RU w w' (fun k_ => nq k_ v118 ∧ nq k_ v121 ∧ nq k_ v126 ∧ nq k_ s_) v129 y128) ∧ (RU w w' (fun k_ => nq k_ v118 ∧ nq k_ v121 ∧ nq k_ v126 ∧ nq k_ v129) s_ y136) ∧ (Below w.heap.size w w')) ?_ ?_
                        rotate_left
                        ·intro hJ2_3
                         refine join_ (σ := Value × Value) 10 #[false, false, true, false, true, false, false, false, false, false, false, false] (fun s_ => [(63, s_.1), (65, s_.2)]) (fun s_ w' => (RU w w' (fun k_ => nq k_ v121 ∧ nq k_ v126 ∧ nq k_ v129 ∧ nq k_ s_.1 ∧ nq k_ s_.2) v118 y117) ∧ (RU w w' (fun k_ => nq k_ v118 ∧ nq k_ v126 ∧ nq k_ v129 ∧ nq k_ s_.1 ∧ nq k_ s_.2) v121 y120) ∧ (RU w w' (fun k_ => nq k_ v118 ∧ nq k_ v121 ∧ nq k_ v129 ∧ nq k_ s_.1 ∧ nq k_ s_.2) v126 y125) ∧ (RU w w' (fun k_ => nq k_ v118 ∧ nq k_ v121 ∧ nq k_ v126 ∧ nq k_ s_.1 ∧ nq k_ s_.2) v129 y128) ∧ (RU w w' (fun k_ => nq k_ v118 ∧ nq k_ v121 ∧ nq k_ v126 ∧ nq k_ v129 ∧ nq k_ s_.2) s_.1 y136) ∧ (RU w w' (fun k_ => nq k_ v118 ∧ nq k_ v121 ∧ nq k_ v126 ∧ nq k_ v129 ∧ nq k_ s_.1) s_.2 y139) ∧ (Below w.heap.size w w')) ?_ ?_
                         rotate_left
                         ·intro hJ2_4
                          refine join_ (σ := Value) 10 #[false, false, false, false, true, true, false, false, false, false, false, false] (fun s_ => [(65, s_), (66, .string (strOfNums y139))]) (fun s_ w' => (RU w w' (fun k_ => nq k_ v121 ∧ nq k_ v126 ∧ nq k_ v129 ∧ nq k_ s_) v118 y117) ∧ (RU w w' (fun k_ => nq k_ v118 ∧ nq k_ v126 ∧ nq k_ v129 ∧ nq k_ s_) v121 y120) ∧ (RU w w' (fun k_ => nq k_ v118 ∧ nq k_ v121 ∧ nq k_ v129 ∧ nq k_ s_) v126 y125) ∧ (RU w w' (fun k_ => nq k_ v118 ∧ nq k_ v121 ∧ nq k_ v126 ∧ nq k_ s_) v129 y128) ∧ (RU w w' (fun k_ => nq k_ v118 ∧ nq k_ v121 ∧ nq k_ v126 ∧ nq k_ v129) s_ y139) ∧ (Below w.heap.size w w')) ?_ ?_
                          rotate_left
                          ·intro hJ4_5
                           refine join_ (σ := Value) 11 #[true, false, false, false, false, false, false, false, false, false, false, false] (fun s_ => [(61, s_)]) (fun s_ w' => (RU w w' (fun k_ => nq k_ v121 ∧ nq k_ v126 ∧ nq k_ v129 ∧ nq k_ s_) v118 y117) ∧ (RU w w' (fun k_ => nq k_ v118 ∧ nq k_ v126 ∧ nq k_ v129 ∧ nq k_ s_) v121 y120) ∧ (RU w w' (fun k_ => nq k_ v118 ∧ nq k_ v121 ∧ nq k_ v129 ∧ nq k_ s_) v126 y125) ∧ (RU w w' (fun k_ => nq k_ v118 ∧ nq k_ v121 ∧ nq k_ v126 ∧ nq k_ s_) v129 y128) ∧ (RU w w' (fun k_ => nq k_ v118 ∧ nq k_ v121 ∧ nq k_ v126 ∧ nq k_ v129) s_ y133) ∧ (Below w.heap.size w w')) ?_ ?_
                           rotate_left
                           ·intro hJ0
                            refine join_ (σ := Value) 11 #[false, false, true, false, false, false, false, false, false, false, false, false] (fun s_ => [(63, s_)]) (fun s_ w' => (RU w w' (fun k_ => nq k_ v121 ∧ nq k_ v126 ∧ nq k_ v129 ∧ nq k_ s_) v118 y117) ∧ (RU w w' (fun k_ => nq k_ v118 ∧ nq k_ v126 ∧ nq k_ v129 ∧ nq k_ s_) v121 y120) ∧ (RU w w' (fun k_ => nq k_ v118 ∧ nq k_ v121 ∧ nq k_ v129 ∧ nq k_ s_) v126 y125) ∧ (RU w w' (fun k_ => nq k_ v118 ∧ nq k_ v121 ∧ nq k_ v126 ∧ nq k_ s_) v129 y128) ∧ (RU w w' (fun k_ => nq k_ v118 ∧ nq k_ v121 ∧ nq k_ v126 ∧ nq k_ v129) s_ y136) ∧ (Below w.heap.size w w')) ?_ ?_
                            rotate_left
                            ·intro hJ2
                             refine join_ (σ := Value) 11 #[false, false, false, false, true, false, false, false, false, false, false, false] (fun s_ => [(65, s_)]) (fun s_ w' => (RU w w' (fun k_ => nq k_ v121 ∧ nq k_ v126 ∧ nq k_ v129 ∧ nq k_ s_) v118 y117) ∧ (RU w w' (fun k_ => nq k_ v118 ∧ nq k_ v126 ∧ nq k_ v129 ∧ nq k_ s_) v121 y120) ∧ (RU w w' (fun k_ => nq k_ v118 ∧ nq k_ v121 ∧ nq k_ v129 ∧ nq k_ s_) v126 y125) ∧ (RU w w' (fun k_ => nq k_ v118 ∧ nq k_ v121 ∧ nq k_ v126 ∧ nq k_ s_) v129 y128) ∧ (RU w w' (fun k_ => nq k_ v118 ∧ nq k_ v121 ∧ nq k_ v126 ∧ nq k_ v129) s_ y139) ∧ (Below w.heap.size w w')) ?_ ?_
                             rotate_left
                             ·intro hJ4
                              refine three_ (i := 0) (j := 2) (k := 4) (Ni := some 61) (Nj := some 63) (Nk := some 65) #[true, false, false, false, false, false, false, false, false, false, false, false] #[false, false, true, false, false, false, false, false, false, false, false, false] #[false, false, false, false, true, false, false, false, false, false, false, false] rfl rfl rfl rfl rfl rfl (three_of HT_.out (by kernel_rfl)) (by decide) (by decide) (by decide) (fun K hK => ?_) (fun K hK => ?_) (fun K hK => ?_)
                              ·skip
                               refine Kd.R_make_step (Kd.int .u8) _ 5 (by rfl) (N := 61) rfl 32 _ _ rfl 32 rfl rfl Try.underlying32 (.int .u8 0) 1 info5 rfl (by decide) (by omega) 0 (ok := fun _ => True) (okp := fun _ => True) rfl (fun _ hk => hk) trivial (by omega) (by omega) (Below.refl _ _) (Nat.le_refl _) ?_
                               intro v134 w48 ho49 hb hg_ hnew_
                               clear hg_ hnew_
                               (first | rw [← Ny133.out] at ho49 | (simp only [Int.reduceToNat] at ho49; rw [← Ny133.out] at ho49))
                               have n0_ := Aside0.mk (Kd.R_elder' HO119.out (Kd.R_base ho49) hb)
                               have n1_ := Aside0.mk (Kd.R_elder' HO122.out (Kd.R_base ho49) hb)
                               have n2_ := Aside0.mk (Kd.R_elder' HO127.out (Kd.R_base ho49) hb)
                               have n3_ := Aside0.mk (Kd.R_elder' HO130.out (Kd.R_base ho49) hb)
                               have n4_ := Aside0.mk (Kd.R_lower (Kd.R_new' (Kd.R_new' (Kd.R_new' (Kd.R_new' ho49 (Kd.R_lt HO119.out)) (Kd.R_lt HO122.out)) (Kd.R_lt HO127.out)) (Kd.R_lt HO130.out)) (below_size HB.out))
                               have n5_ := Aside0.mk (below_step HB.out hb)
                               clear HO119
                               clear HO122
                               clear HO127
                               clear HO130
                               clear HB
                               have HO119 := n0_
                               have HO122 := n1_
                               have HO127 := n2_
                               have HO130 := n3_
                               have HO135 := n4_
                               have HB := n5_
                               clear n0_ n1_ n2_ n3_ n4_ n5_
                               clear hb ho49
                               refine hK.out _ _ trivial (fun hHeld => ?_)
                               clear hK K
                               refine norm_ (a' := ?_) ?_ ?_
                               rotate_left
                               ·show Act.put _ (some 61) _ = _
                                simp only [Act.put, LSET9_]
                                rfl
                               exact norm_ (by simp only [putAll, Act.put, PSET] <;> rfl) (hJ0 (v134) _ ⟨(Kd.R_mono HO119.out (fun _ hk => ⟨hk.1.1, ⟨hk.1.2.1, ⟨hk.1.2.2, hk.2⟩⟩⟩)), (Kd.R_mono HO122.out (fun _ hk => ⟨hk.1.1, ⟨hk.1.2.1, ⟨hk.1.2.2, hk.2⟩⟩⟩)), (Kd.R_mono HO127.out (fun _ hk => ⟨hk.1.1, ⟨hk.1.2.1, ⟨hk.1.2.2, hk.2⟩⟩⟩)), (Kd.R_mono HO130.out (fun _ hk => ⟨hk.1.1, ⟨hk.1.2.1, ⟨hk.1.2.2, hk.2⟩⟩⟩)), (Kd.R_mono HO135.out (fun _ hk => ⟨hk.1.1.1.2, ⟨hk.1.1.2, ⟨hk.1.2, hk.2⟩⟩⟩)), HB.out⟩)
                              ·skip
                               refine Kd.R_make_step (Kd.int .u8) _ 5 (by rfl) (N := 63) rfl 32 _ _ rfl 12 rfl rfl Try.underlying32 (.int .u8 0) 1 info5 rfl (by decide) (by omega) 0 (ok := fun _ => True) (okp := fun _ => True) rfl (fun _ hk => hk) trivial (by omega) (by omega) (Below.refl _ _) (Nat.le_refl _) ?_
                               intro v137 w48 ho49 hb hg_ hnew_
                               clear hg_ hnew_
                               (first | rw [← Ny136.out] at ho49 | (simp only [Int.reduceToNat] at ho49; rw [← Ny136.out] at ho49))
                               have n0_ := Aside0.mk (Kd.R_elder' HO119.out (Kd.R_base ho49) hb)
                               have n1_ := Aside0.mk (Kd.R_elder' HO122.out (Kd.R_base ho49) hb)
                               have n2_ := Aside0.mk (Kd.R_elder' HO127.out (Kd.R_base ho49) hb)
                               have n3_ := Aside0.mk (Kd.R_elder' HO130.out (Kd.R_base ho49) hb)
                               have n4_ := Aside0.mk (Kd.R_lower (Kd.R_new' (Kd.R_new' (Kd.R_new' (Kd.R_new' ho49 (Kd.R_lt HO119.out)) (Kd.R_lt HO122.out)) (Kd.R_lt HO127.out)) (Kd.R_lt HO130.out)) (below_size HB.out))
                               have n5_ := Aside0.mk (below_step HB.out hb)
                               clear HO119
                               clear HO122
                               clear HO127
                               clear HO130
                               clear HB
                               have HO119 := n0_
                               have HO122 := n1_
                               have HO127 := n2_
                               have HO130 := n3_
                               have HO138 := n4_
                               have HB := n5_
                               clear n0_ n1_ n2_ n3_ n4_ n5_
                               clear hb ho49
                               refine hK.out _ _ trivial (fun hHeld => ?_)
                               clear hK K
                               refine norm_ (a' := ?_) ?_ ?_
                               rotate_left
                               ·show Act.put _ (some 63) _ = _
                                simp only [Act.put, LSET9_]
                                rfl
                               exact norm_ (by simp only [putAll, Act.put, PSET] <;> rfl) (hJ2 (v137) _ ⟨(Kd.R_mono HO119.out (fun _ hk => ⟨hk.1.1, ⟨hk.1.2.1, ⟨hk.1.2.2, hk.2⟩⟩⟩)), (Kd.R_mono HO122.out (fun _ hk => ⟨hk.1.1, ⟨hk.1.2.1, ⟨hk.1.2.2, hk.2⟩⟩⟩)), (Kd.R_mono HO127.out (fun _ hk => ⟨hk.1.1, ⟨hk.1.2.1, ⟨hk.1.2.2, hk.2⟩⟩⟩)), (Kd.R_mono HO130.out (fun _ hk => ⟨hk.1.1, ⟨hk.1.2.1, ⟨hk.1.2.2, hk.2⟩⟩⟩)), (Kd.R_mono HO138.out (fun _ hk => ⟨hk.1.1.1.2, ⟨hk.1.1.2, ⟨hk.1.2, hk.2⟩⟩⟩)), HB.out⟩)
                              ·skip
                               refine Kd.R_make_step (Kd.int .u8) _ 5 (by rfl) (N := 65) rfl 32 _ _ rfl 65537 rfl rfl Try.underlying32 (.int .u8 0) 1 info5 rfl (by decide) (by omega) 0 (ok := fun _ => True) (okp := fun _ => True) rfl (fun _ hk => hk) trivial (by omega) (by omega) (Below.refl _ _) (Nat.le_refl _) ?_
                               intro v140 w48 ho49 hb hg_ hnew_
                               clear hg_ hnew_
                               (first | rw [← Ny139.out] at ho49 | (simp only [Int.reduceToNat] at ho49; rw [← Ny139.out] at ho49))
                               have n0_ := Aside0.mk (Kd.R_elder' HO119.out (Kd.R_base ho49) hb)
                               have n1_ := Aside0.mk (Kd.R_elder' HO122.out (Kd.R_base ho49) hb)
                               have n2_ := Aside0.mk (Kd.R_elder' HO127.out (Kd.R_base ho49) hb)
                               have n3_ := Aside0.mk (Kd.R_elder' HO130.out (Kd.R_base ho49) hb)
                               have n4_ := Aside0.mk (Kd.R_lower (Kd.R_new' (Kd.R_new' (Kd.R_new' (Kd.R_new' ho49 (Kd.R_lt HO119.out)) (Kd.R_lt HO122.out)) (Kd.R_lt HO127.out)) (Kd.R_lt HO130.out)) (below_size HB.out))
                               have n5_ := Aside0.mk (below_step HB.out hb)
                               clear HO119
                               clear HO122
                               clear HO127
                               clear HO130
                               clear HB
                               have HO119 := n0_
                               have HO122 := n1_
                               have HO127 := n2_
                               have HO130 := n3_
                               have HO141 := n4_
                               have HB := n5_
                               clear n0_ n1_ n2_ n3_ n4_ n5_
                               clear hb ho49
                               refine hK.out _ _ trivial (fun hHeld => ?_)
                               clear hK K
                               refine norm_ (a' := ?_) ?_ ?_
                               rotate_left
                               ·show Act.put _ (some 65) _ = _
                                simp only [Act.put, LSET9_]
                                rfl
                               exact norm_ (by simp only [putAll, Act.put, PSET] <;> rfl) (hJ4 (v140) _ ⟨(Kd.R_mono HO119.out (fun _ hk => ⟨hk.1.1, ⟨hk.1.2.1, ⟨hk.1.2.2, hk.2⟩⟩⟩)), (Kd.R_mono HO122.out (fun _ hk => ⟨hk.1.1, ⟨hk.1.2.1, ⟨hk.1.2.2, hk.2⟩⟩⟩)), (Kd.R_mono HO127.out (fun _ hk => ⟨hk.1.1, ⟨hk.1.2.1, ⟨hk.1.2.2, hk.2⟩⟩⟩)), (Kd.R_mono HO130.out (fun _ hk => ⟨hk.1.1, ⟨hk.1.2.1, ⟨hk.1.2.2, hk.2⟩⟩⟩)), (Kd.R_mono HO141.out (fun _ hk => ⟨hk.1.1.1.2, ⟨hk.1.1.2, ⟨hk.1.2, hk.2⟩⟩⟩)), HB.out⟩)
                             ·skip
                              rintro v140 w50 ⟨h0_, h1_, h2_, h3_, h4_, h5_⟩
                              have n0_ : Aside0 (RU w w50 (fun k_ => nq k_ v121 ∧ nq k_ v126 ∧ nq k_ v129 ∧ nq k_ v140) v118 y117) := ⟨h0_⟩
                              have n1_ : Aside0 (RU w w50 (fun k_ => nq k_ v118 ∧ nq k_ v126 ∧ nq k_ v129 ∧ nq k_ v140) v121 y120) := ⟨h1_⟩
                              have n2_ : Aside0 (RU w w50 (fun k_ => nq k_ v118 ∧ nq k_ v121 ∧ nq k_ v129 ∧ nq k_ v140) v126 y125) := ⟨h2_⟩
                              have n3_ : Aside0 (RU w w50 (fun k_ => nq k_ v118 ∧ nq k_ v121 ∧ nq k_ v126 ∧ nq k_ v140) v129 y128) := ⟨h3_⟩
                              have n4_ : Aside0 (RU w w50 (fun k_ => nq k_ v118 ∧ nq k_ v121 ∧ nq k_ v126 ∧ nq k_ v129) v140 y139) := ⟨h4_⟩
                              have n5_ : Aside0 (Below w.heap.size w w50) := ⟨h5_⟩
                              clear HO119
                              clear HO122
                              clear HO127
                              clear HO130
                              clear HB
                              clear h0_ h1_ h2_ h3_ h4_ h5_
                              have HO119 := n0_
                              have HO122 := n1_
                              have HO127 := n2_
                              have HO130 := n3_
                              have HO141 := n4_
                              have HB := n5_
                              clear n0_ n1_ n2_ n3_ n4_ n5_
                              have hHeld := trivial
                              refine norm_ (a' := ?_) ?_ ?_
                              rotate_left
                              ·simp only [putAll, Act.put, PSET]
                               rfl
                              refine three_ (i := 0) (j := 2) (k := 5) (Ni := some 61) (Nj := some 63) (Nk := some 66) #[true, false, false, false, true, false, false, false, false, false, false, false] #[false, false, true, false, true, false, false, false, false, false, false, false] #[false, false, false, false, true, true, false, false, false, false, false, false] rfl rfl rfl rfl rfl rfl (three_of HT_.out (by kernel_rfl)) (by decide) (by decide) (by decide) (fun K hK => ?_) (fun K hK => ?_) (fun K hK => ?_)
                              ·skip
                               refine Kd.R_make_step (Kd.int .u8) _ 5 (by rfl) (N := 61) rfl 32 _ _ rfl 32 rfl rfl Try.underlying32 (.int .u8 0) 1 info5 rfl (by decide) (by omega) 0 (ok := fun _ => True) (okp := fun _ => True) rfl (fun _ hk => hk) trivial (by omega) (by omega) (Below.refl _ _) (Nat.le_refl _) ?_
                               intro v134 w51 ho52 hb hg_ hnew_
                               clear hg_ hnew_
                               (first | rw [← Ny133.out] at ho52 | (simp only [Int.reduceToNat] at ho52; rw [← Ny133.out] at ho52))
                               have n0_ := Aside0.mk (Kd.R_elder' HO119.out (Kd.R_base ho52) hb)
                               have n1_ := Aside0.mk (Kd.R_elder' HO122.out (Kd.R_base ho52) hb)
                               have n2_ := Aside0.mk (Kd.R_elder' HO127.out (Kd.R_base ho52) hb)
                               have n3_ := Aside0.mk (Kd.R_elder' HO130.out (Kd.R_base ho52) hb)
                               have n4_ := Aside0.mk (Kd.R_elder' HO141.out (Kd.R_base ho52) hb)
                               have n5_ := Aside0.mk (Kd.R_lower (Kd.R_new' (Kd.R_new' (Kd.R_new' (Kd.R_new' (Kd.R_new' ho52 (Kd.R_lt HO119.out)) (Kd.R_lt HO122.out)) (Kd.R_lt HO127.out)) (Kd.R_lt HO130.out)) (Kd.R_lt HO141.out)) (below_size HB.out))
                               have n6_ := Aside0.mk (below_step HB.out hb)
                               clear HO119
                               clear HO122
                               clear HO127
                               clear HO130
                               clear HO141
                               clear HB
                               have HO119 := n0_
                               have HO122 := n1_
                               have HO127 := n2_
                               have HO130 := n3_
                               have HO141 := n4_
                               have HO135 := n5_
                               have HB := n6_
                               clear n0_ n1_ n2_ n3_ n4_ n5_ n6_
                               clear hb ho52
                               refine hK.out _ _ trivial (fun hHeld => ?_)
                               clear hK K
                               refine norm_ (a' := ?_) ?_ ?_
                               rotate_left
                               ·show Act.put _ (some 61) _ = _
                                simp only [Act.put, LSET9_]
                                rfl
                               exact norm_ (by simp only [putAll, Act.put, PSET] <;> rfl) (hJ0_4 (v134, v140) _ ⟨(Kd.R_mono HO119.out (fun _ hk => ⟨hk.1.1, ⟨hk.1.2.1, ⟨hk.1.2.2.1, ⟨hk.2, hk.1.2.2.2⟩⟩⟩⟩)), (Kd.R_mono HO122.out (fun _ hk => ⟨hk.1.1, ⟨hk.1.2.1, ⟨hk.1.2.2.1, ⟨hk.2, hk.1.2.2.2⟩⟩⟩⟩)), (Kd.R_mono HO127.out (fun _ hk => ⟨hk.1.1, ⟨hk.1.2.1, ⟨hk.1.2.2.1, ⟨hk.2, hk.1.2.2.2⟩⟩⟩⟩)), (Kd.R_mono HO130.out (fun _ hk => ⟨hk.1.1, ⟨hk.1.2.1, ⟨hk.1.2.2.1, ⟨hk.2, hk.1.2.2.2⟩⟩⟩⟩)), (Kd.R_mono HO135.out (fun _ hk => ⟨hk.1.1.1.1.2, ⟨hk.1.1.1.2, ⟨hk.1.1.2, ⟨hk.1.2, hk.2⟩⟩⟩⟩)), (Kd.R_mono HO141.out (fun _ hk => ⟨hk.1.1, ⟨hk.1.2.1, ⟨hk.1.2.2.1, ⟨hk.1.2.2.2, hk.2⟩⟩⟩⟩)), HB.out⟩)
                              ·skip
                               refine Kd.R_make_step (Kd.int .u8) _ 5 (by rfl) (N := 63) rfl 32 _ _ rfl 12 rfl rfl Try.underlying32 (.int .u8 0) 1 info5 rfl (by decide) (by omega) 0 (ok := fun _ => True) (okp := fun _ => True) rfl (fun _ hk => hk) trivial (by omega) (by omega) (Below.refl _ _) (Nat.le_refl _) ?_
                               intro v137 w51 ho52 hb hg_ hnew_
                               clear hg_ hnew_
                               (first | rw [← Ny136.out] at ho52 | (simp only [Int.reduceToNat] at ho52; rw [← Ny136.out] at ho52))
                               have n0_ := Aside0.mk (Kd.R_elder' HO119.out (Kd.R_base ho52) hb)
                               have n1_ := Aside0.mk (Kd.R_elder' HO122.out (Kd.R_base ho52) hb)
                               have n2_ := Aside0.mk (Kd.R_elder' HO127.out (Kd.R_base ho52) hb)
                               have n3_ := Aside0.mk (Kd.R_elder' HO130.out (Kd.R_base ho52) hb)
                               have n4_ := Aside0.mk (Kd.R_elder' HO141.out (Kd.R_base ho52) hb)
                               have n5_ := Aside0.mk (Kd.R_lower (Kd.R_new' (Kd.R_new' (Kd.R_new' (Kd.R_new' (Kd.R_new' ho52 (Kd.R_lt HO119.out)) (Kd.R_lt HO122.out)) (Kd.R_lt HO127.out)) (Kd.R_lt HO130.out)) (Kd.R_lt HO141.out)) (below_size HB.out))
                               have n6_ := Aside0.mk (below_step HB.out hb)
                               clear HO119
                               clear HO122
                               clear HO127
                               clear HO130
                               clear HO141
                               clear HB
                               have HO119 := n0_
                               have HO122 := n1_
                               have HO127 := n2_
                               have HO130 := n3_
                               have HO141 := n4_
                               have HO138 := n5_
                               have HB := n6_
                               clear n0_ n1_ n2_ n3_ n4_ n5_ n6_
                               clear hb ho52
                               refine hK.out _ _ trivial (fun hHeld => ?_)
                               clear hK K
                               refine norm_ (a' := ?_) ?_ ?_
                               rotate_left
                               ·show Act.put _ (some 63) _ = _
                                simp only [Act.put, LSET9_]
                                rfl
                               exact norm_ (by simp only [putAll, Act.put, PSET] <;> rfl) (hJ2_4 (v137, v140) _ ⟨(Kd.R_mono HO119.out (fun _ hk => ⟨hk.1.1, ⟨hk.1.2.1, ⟨hk.1.2.2.1, ⟨hk.2, hk.1.2.2.2⟩⟩⟩⟩)), (Kd.R_mono HO122.out (fun _ hk => ⟨hk.1.1, ⟨hk.1.2.1, ⟨hk.1.2.2.1, ⟨hk.2, hk.1.2.2.2⟩⟩⟩⟩)), (Kd.R_mono HO127.out (fun _ hk => ⟨hk.1.1, ⟨hk.1.2.1, ⟨hk.1.2.2.1, ⟨hk.2, hk.1.2.2.2⟩⟩⟩⟩)), (Kd.R_mono HO130.out (fun _ hk => ⟨hk.1.1, ⟨hk.1.2.1, ⟨hk.1.2.2.1, ⟨hk.2, hk.1.2.2.2⟩⟩⟩⟩)), (Kd.R_mono HO138.out (fun _ hk => ⟨hk.1.1.1.1.2, ⟨hk.1.1.1.2, ⟨hk.1.1.2, ⟨hk.1.2, hk.2⟩⟩⟩⟩)), (Kd.R_mono HO141.out (fun _ hk => ⟨hk.1.1, ⟨hk.1.2.1, ⟨hk.1.2.2.1, ⟨hk.1.2.2.2, hk.2⟩⟩⟩⟩)), HB.out⟩)
                              ·skip
                               have hcv51 := own_string (P := Try.prog) Try.underlying32 Try.underlying5 Try.underlying9 (Kd.own_of_R HO141.out)
                               refine value_ (w1 := ?_) (v := ?_) (by rfl) rfl ?_ ?_
                               rotate_left 2
                               ·go_simp
                                constructor
                                ·rfl
                                ·rfl
                               clear hcv51
                               refine hK.out _ _ trivial (fun hHeld => ?_)
                               clear hK K
                               refine norm_ (a' := ?_) ?_ ?_
                               rotate_left
                               ·show Act.put _ (some 66) _ = _
                                simp only [Act.put, LSET9_]
                                rfl
                               exact norm_ (by simp only [putAll, Act.put, PSET] <;> rfl) (hJ4_5 (v140) _ ⟨HO119.out, HO122.out, HO127.out, HO130.out, HO141.out, HB.out⟩)
                            ·skip
                             rintro v137 w50 ⟨h0_, h1_, h2_, h3_, h4_, h5_⟩
                             have n0_ : Aside0 (RU w w50 (fun k_ => nq k_ v121 ∧ nq k_ v126 ∧ nq k_ v129 ∧ nq k_ v137) v118 y117) := ⟨h0_⟩
                             have n1_ : Aside0 (RU w w50 (fun k_ => nq k_ v118 ∧ nq k_ v126 ∧ nq k_ v129 ∧ nq k_ v137) v121 y120) := ⟨h1_⟩
                             have n2_ : Aside0 (RU w w50 (fun k_ => nq k_ v118 ∧ nq k_ v121 ∧ nq k_ v129 ∧ nq k_ v137) v126 y125) := ⟨h2_⟩
                             have n3_ : Aside0 (RU w w50 (fun k_ => nq k_ v118 ∧ nq k_ v121 ∧ nq k_ v126 ∧ nq k_ v137) v129 y128) := ⟨h3_⟩
                             have n4_ : Aside0 (RU w w50 (fun k_ => nq k_ v118 ∧ nq k_ v121 ∧ nq k_ v126 ∧ nq k_ v129) v137 y136) := ⟨h4_⟩
                             have n5_ : Aside0 (Below w.heap.size w w50) := ⟨h5_⟩
                             clear HO119
                             clear HO122
                             clear HO127
                             clear HO130
                             clear HB
                             clear h0_ h1_ h2_ h3_ h4_ h5_
                             have HO119 := n0_
                             have HO122 := n1_
                             have HO127 := n2_
                             have HO130 := n3_
                             have HO138 := n4_
                             have HB := n5_
                             clear n0_ n1_ n2_ n3_ n4_ n5_
                             have hHeld := trivial
                             refine norm_ (a' := ?_) ?_ ?_
                             rotate_left
                             ·simp only [putAll, Act.put, PSET]
                              rfl
                             refine three_ (i := 0) (j := 3) (k := 4) (Ni := some 61) (Nj := some 64) (Nk := some 65) #[true, false, true, false, false, false, false, false, false, false, false, false] #[false, false, true, true, false, false, false, false, false, false, false, false] #[false, false, true, false, true, false, false, false, false, false, false, false] rfl rfl rfl rfl rfl rfl (three_of HT_.out (by kernel_rfl)) (by decide) (by decide) (by decide) (fun K hK => ?_) (fun K hK => ?_) (fun K hK => ?_)
                             ·skip
                              refine Kd.R_make_step (Kd.int .u8) _ 5 (by rfl) (N := 61) rfl 32 _ _ rfl 32 rfl rfl Try.underlying32 (.int .u8 0) 1 info5 rfl (by decide) (by omega) 0 (ok := fun _ => True) (okp := fun _ => True) rfl (fun _ hk => hk) trivial (by omega) (by omega) (Below.refl _ _) (Nat.le_refl _) ?_
                              intro v134 w51 ho52 hb hg_ hnew_
                              clear hg_ hnew_
                              (first | rw [← Ny133.out] at ho52 | (simp only [Int.reduceToNat] at ho52; rw [← Ny133.out] at ho52))
                              have n0_ := Aside0.mk (Kd.R_elder' HO119.out (Kd.R_base ho52) hb)
                              have n1_ := Aside0.mk (Kd.R_elder' HO122.out (Kd.R_base ho52) hb)
                              have n2_ := Aside0.mk (Kd.R_elder' HO127.out (Kd.R_base ho52) hb)
                              have n3_ := Aside0.mk (Kd.R_elder' HO130.out (Kd.R_base ho52) hb)
                              have n4_ := Aside0.mk (Kd.R_elder' HO138.out (Kd.R_base ho52) hb)
                              have n5_ := Aside0.mk (Kd.R_lower (Kd.R_new' (Kd.R_new' (Kd.R_new' (Kd.R_new' (Kd.R_new' ho52 (Kd.R_lt HO119.out)) (Kd.R_lt HO122.out)) (Kd.R_lt HO127.out)) (Kd.R_lt HO130.out)) (Kd.R_lt HO138.out)) (below_size HB.out))
                              have n6_ := Aside0.mk (below_step HB.out hb)
                              clear HO119
                              clear HO122
                              clear HO127
                              clear HO130
                              clear HO138
                              clear HB
                              have HO119 := n0_
                              have HO122 := n1_
                              have HO127 := n2_
                              have HO130 := n3_
                              have HO138 := n4_
                              have HO135 := n5_
                              have HB := n6_
                              clear n0_ n1_ n2_ n3_ n4_ n5_ n6_
                              clear hb ho52
                              refine hK.out _ _ trivial (fun hHeld => ?_)
                              clear hK K
                              refine norm_ (a' := ?_) ?_ ?_
                              rotate_left
                              ·show Act.put _ (some 61) _ = _
                               simp only [Act.put, LSET9_]
                               rfl
                              exact norm_ (by simp only [putAll, Act.put, PSET] <;> rfl) (hJ0_2 (v134, v137) _ ⟨(Kd.R_mono HO119.out (fun _ hk => ⟨hk.1.1, ⟨hk.1.2.1, ⟨hk.1.2.2.1, ⟨hk.2, hk.1.2.2.2⟩⟩⟩⟩)), (Kd.R_mono HO122.out (fun _ hk => ⟨hk.1.1, ⟨hk.1.2.1, ⟨hk.1.2.2.1, ⟨hk.2, hk.1.2.2.2⟩⟩⟩⟩)), (Kd.R_mono HO127.out (fun _ hk => ⟨hk.1.1, ⟨hk.1.2.1, ⟨hk.1.2.2.1, ⟨hk.2, hk.1.2.2.2⟩⟩⟩⟩)), (Kd.R_mono HO130.out (fun _ hk => ⟨hk.1.1, ⟨hk.1.2.1, ⟨hk.1.2.2.1, ⟨hk.2, hk.1.2.2.2⟩⟩⟩⟩)), (Kd.R_mono HO135.out (fun _ hk => ⟨hk.1.1.1.1.2, ⟨hk.1.1.1.2, ⟨hk.1.1.2, ⟨hk.1.2, hk.2⟩⟩⟩⟩)), (Kd.R_mono HO138.out (fun _ hk => ⟨hk.1.1, ⟨hk.1.2.1, ⟨hk.1.2.2.1, ⟨hk.1.2.2.2, hk.2⟩⟩⟩⟩)), HB.out⟩)
                             ·skip
                              have hcv51 := own_string (P := Try.prog) Try.underlying32 Try.underlying5 Try.underlying9 (Kd.own_of_R HO138.out)
                              refine value_ (w1 := ?_) (v := ?_) (by rfl) rfl ?_ ?_
                              rotate_left 2
                              ·go_simp
                               constructor
                               ·rfl
                               ·rfl
                              clear hcv51
                              refine hK.out _ _ trivial (fun hHeld => ?_)
                              clear hK K
                              refine norm_ (a' := ?_) ?_ ?_
                              rotate_left
                              ·show Act.put _ (some 64) _ = _
                               simp only [Act.put, LSET9_]
                               rfl
                              exact norm_ (by simp only [putAll, Act.put, PSET] <;> rfl) (hJ2_3 (v137) _ ⟨HO119.out, HO122.out, HO127.out, HO130.out, HO138.out, HB.out⟩)
                             ·skip
                              refine Kd.R_make_step (Kd.int .u8) _ 5 (by rfl) (N := 65) rfl 32 _ _ rfl 65537 rfl rfl Try.underlying32 (.int .u8 0) 1 info5 rfl (by decide) (by omega) 0 (ok := fun _ => True) (okp := fun _ => True) rfl (fun _ hk => hk) trivial (by omega) (by omega) (Below.refl _ _) (Nat.le_refl _) ?_
                              intro v140 w51 ho52 hb hg_ hnew_
                              clear hg_ hnew_
                              (first | rw [← Ny139.out] at ho52 | (simp only [Int.reduceToNat] at ho52; rw [← Ny139.out] at ho52))
                              have n0_ := Aside0.mk (Kd.R_elder' HO119.out (Kd.R_base ho52) hb)
                              have n1_ := Aside0.mk (Kd.R_elder' HO122.out (Kd.R_base ho52) hb)
                              have n2_ := Aside0.mk (Kd.R_elder' HO127.out (Kd.R_base ho52) hb)
                              have n3_ := Aside0.mk (Kd.R_elder' HO130.out (Kd.R_base ho52) hb)
                              have n4_ := Aside0.mk (Kd.R_elder' HO138.out (Kd.R_base ho52) hb)
                              have n5_ := Aside0.mk (Kd.R_lower (Kd.R_new' (Kd.R_new' (Kd.R_new' (Kd.R_new' (Kd.R_new' ho52 (Kd.R_lt HO119.out)) (Kd.R_lt HO122.out)) (Kd.R_lt HO127.out)) (Kd.R_lt HO130.out)) (Kd.R_lt HO138.out)) (below_size HB.out))
                              have n6_ := Aside0.mk (below_step HB.out hb)
                              clear HO119
                              clear HO122
                              clear HO127
                              clear HO130
                              clear HO138
                              clear HB
                              have HO119 := n0_
                              have HO122 := n1_
                              have HO127 := n2_
                              have HO130 := n3_
                              have HO138 := n4_
                              have HO141 := n5_
                              have HB := n6_
                              clear n0_ n1_ n2_ n3_ n4_ n5_ n6_
                              clear hb ho52
                              refine hK.out _ _ trivial (fun hHeld => ?_)
                              clear hK K
                              refine norm_ (a' := ?_) ?_ ?_
                              rotate_left
                              ·show Act.put _ (some 65) _ = _
                               simp only [Act.put, LSET9_]
                               rfl
                              exact norm_ (by simp only [putAll, Act.put, PSET] <;> rfl) (hJ2_4 (v137, v140) _ ⟨(Kd.R_mono HO119.out (fun _ hk => ⟨hk.1.1, ⟨hk.1.2.1, ⟨hk.1.2.2.1, ⟨hk.1.2.2.2, hk.2⟩⟩⟩⟩)), (Kd.R_mono HO122.out (fun _ hk => ⟨hk.1.1, ⟨hk.1.2.1, ⟨hk.1.2.2.1, ⟨hk.1.2.2.2, hk.2⟩⟩⟩⟩)), (Kd.R_mono HO127.out (fun _ hk => ⟨hk.1.1, ⟨hk.1.2.1, ⟨hk.1.2.2.1, ⟨hk.1.2.2.2, hk.2⟩⟩⟩⟩)), (Kd.R_mono HO130.out (fun _ hk => ⟨hk.1.1, ⟨hk.1.2.1, ⟨hk.1.2.2.1, ⟨hk.1.2.2.2, hk.2⟩⟩⟩⟩)), (Kd.R_mono HO138.out (fun _ hk => ⟨hk.1.1, ⟨hk.1.2.1, ⟨hk.1.2.2.1, ⟨hk.1.2.2.2, hk.2⟩⟩⟩⟩)), (Kd.R_mono HO141.out (fun _ hk => ⟨hk.1.1.1.1.2, ⟨hk.1.1.1.2, ⟨hk.1.1.2, ⟨hk.1.2, hk.2⟩⟩⟩⟩)), HB.out⟩)
                           ·skip
                            rintro v134 w50 ⟨h0_, h1_, h2_, h3_, h4_, h5_⟩
                            have n0_ : Aside0 (RU w w50 (fun k_ => nq k_ v121 ∧ nq k_ v126 ∧ nq k_ v129 ∧ nq k_ v134) v118 y117) := ⟨h0_⟩
                            have n1_ : Aside0 (RU w w50 (fun k_ => nq k_ v118 ∧ nq k_ v126 ∧ nq k_ v129 ∧ nq k_ v134) v121 y120) := ⟨h1_⟩
                            have n2_ : Aside0 (RU w w50 (fun k_ => nq k_ v118 ∧ nq k_ v121 ∧ nq k_ v129 ∧ nq k_ v134) v126 y125) := ⟨h2_⟩
                            have n3_ : Aside0 (RU w w50 (fun k_ => nq k_ v118 ∧ nq k_ v121 ∧ nq k_ v126 ∧ nq k_ v134) v129 y128) := ⟨h3_⟩
                            have n4_ : Aside0 (RU w w50 (fun k_ => nq k_ v118 ∧ nq k_ v121 ∧ nq k_ v126 ∧ nq k_ v129) v134 y133) := ⟨h4_⟩
                            have n5_ : Aside0 (Below w.heap.size w w50) := ⟨h5_⟩
                            clear HO119
                            clear HO122
                            clear HO127
                            clear HO130
                            clear HB
                            clear h0_ h1_ h2_ h3_ h4_ h5_
                            have HO119 := n0_
                            have HO122 := n1_
                            have HO127 := n2_
                            have HO130 := n3_
                            have HO135 := n4_
                            have HB := n5_
                            clear n0_ n1_ n2_ n3_ n4_ n5_
                            have hHeld := trivial
                            refine norm_ (a' := ?_) ?_ ?_
                            rotate_left
                            ·simp only [putAll, Act.put, PSET]
                             rfl
                            refine three_ (i := 1) (j := 2) (k := 4) (Ni := some 62) (Nj := some 63) (Nk := some 65) #[true, true, false, false, false, false, false, false, false, false, false, false] #[true, false, true, false, false, false, false, false, false, false, false, false] #[true, false, false, false, true, false, false, false, false, false, false, false] rfl rfl rfl rfl rfl rfl (three_of HT_.out (by kernel_rfl)) (by decide) (by decide) (by decide) (fun K hK => ?_) (fun K hK => ?_) (fun K hK => ?_)
                            ·skip
                             have hcv51 := own_string (P := Try.prog) Try.underlying32 Try.underlying5 Try.underlying9 (Kd.own_of_R HO135.out)
                             refine value_ (w1 := ?_) (v := ?_) (by rfl) rfl ?_ ?_
                             rotate_left 2
                             ·go_simp
                              constructor
                              ·rfl
                              ·rfl
                             clear hcv51
                             refine hK.out _ _ trivial (fun hHeld => ?_)
                             clear hK K
                             refine norm_ (a' := ?_) ?_ ?_
                             rotate_left
                             ·show Act.put _ (some 62) _ = _
                              simp only [Act.put, LSET9_]
                              rfl
                             exact norm_ (by simp only [putAll, Act.put, PSET] <;> rfl) (hJ0_1 (v134) _ ⟨HO119.out, HO122.out, HO127.out, HO130.out, HO135.out, HB.out⟩)
                            ·skip
                             refine Kd.R_make_step (Kd.int .u8) _ 5 (by rfl) (N := 63) rfl 32 _ _ rfl 12 rfl rfl Try.underlying32 (.int .u8 0) 1 info5 rfl (by decide) (by omega) 0 (ok := fun _ => True) (okp := fun _ => True) rfl (fun _ hk => hk) trivial (by omega) (by omega) (Below.refl _ _) (Nat.le_refl _) ?_
                             intro v137 w51 ho52 hb hg_ hnew_
                             clear hg_ hnew_
                             (first | rw [← Ny136.out] at ho52 | (simp only [Int.reduceToNat] at ho52; rw [← Ny136.out] at ho52))
                             have n0_ := Aside0.mk (Kd.R_elder' HO119.out (Kd.R_base ho52) hb)
                             have n1_ := Aside0.mk (Kd.R_elder' HO122.out (Kd.R_base ho52) hb)
                             have n2_ := Aside0.mk (Kd.R_elder' HO127.out (Kd.R_base ho52) hb)
                             have n3_ := Aside0.mk (Kd.R_elder' HO130.out (Kd.R_base ho52) hb)
                             have n4_ := Aside0.mk (Kd.R_elder' HO135.out (Kd.R_base ho52) hb)
                             have n5_ := Aside0.mk (Kd.R_lower (Kd.R_new' (Kd.R_new' (Kd.R_new' (Kd.R_new' (Kd.R_new' ho52 (Kd.R_lt HO119.out)) (Kd.R_lt HO122.out)) (Kd.R_lt HO127.out)) (Kd.R_lt HO130.out)) (Kd.R_lt HO135.out)) (below_size HB.out))
                             have n6_ := Aside0.mk (below_step HB.out hb)
                             clear HO119
                             clear HO122
                             clear HO127
                             clear HO130
                             clear HO135
                             clear HB
                             have HO119 := n0_
                             have HO122 := n1_
                             have HO127 := n2_
                             have HO130 := n3_
                             have HO135 := n4_
                             have HO138 := n5_
                             have HB := n6_
                             clear n0_ n1_ n2_ n3_ n4_ n5_ n6_
                             clear hb ho52
                             refine hK.out _ _ trivial (fun hHeld => ?_)
                             clear hK K
                             refine norm_ (a' := ?_) ?_ ?_
                             rotate_left
                             ·show Act.put _ (some 63) _ = _
                              simp only [Act.put, LSET9_]
                              rfl
                             exact norm_ (by simp only [putAll, Act.put, PSET] <;> rfl) (hJ0_2 (v134, v137) _ ⟨(Kd.R_mono HO119.out (fun _ hk => ⟨hk.1.1, ⟨hk.1.2.1, ⟨hk.1.2.2.1, ⟨hk.1.2.2.2, hk.2⟩⟩⟩⟩)), (Kd.R_mono HO122.out (fun _ hk => ⟨hk.1.1, ⟨hk.1.2.1, ⟨hk.1.2.2.1, ⟨hk.1.2.2.2, hk.2⟩⟩⟩⟩)), (Kd.R_mono HO127.out (fun _ hk => ⟨hk.1.1, ⟨hk.1.2.1, ⟨hk.1.2.2.1, ⟨hk.1.2.2.2, hk.2⟩⟩⟩⟩)), (Kd.R_mono HO130.out (fun _ hk => ⟨hk.1.1, ⟨hk.1.2.1, ⟨hk.1.2.2.1, ⟨hk.1.2.2.2, hk.2⟩⟩⟩⟩)), (Kd.R_mono HO135.out (fun _ hk => ⟨hk.1.1, ⟨hk.1.2.1, ⟨hk.1.2.2.1, ⟨hk.1.2.2.2, hk.2⟩⟩⟩⟩)), (Kd.R_mono HO138.out (fun _ hk => ⟨hk.1.1.1.1.2, ⟨hk.1.1.1.2, ⟨hk.1.1.2, ⟨hk.1.2, hk.2⟩⟩⟩⟩)), HB.out⟩)
                            ·skip
                             refine Kd.R_make_step (Kd.int .u8) _ 5 (by rfl) (N := 65) rfl 32 _ _ rfl 65537 rfl rfl Try.underlying32 (.int .u8 0) 1 info5 rfl (by decide) (by omega) 0 (ok := fun _ => True) (okp := fun _ => True) rfl (fun _ hk => hk) trivial (by omega) (by omega) (Below.refl _ _) (Nat.le_refl _) ?_
                             intro v140 w51 ho52 hb hg_ hnew_
                             clear hg_ hnew_
                             (first | rw [← Ny139.out] at ho52 | (simp only [Int.reduceToNat] at ho52; rw [← Ny139.out] at ho52))
                             have n0_ := Aside0.mk (Kd.R_elder' HO119.out (Kd.R_base ho52) hb)
                             have n1_ := Aside0.mk (Kd.R_elder' HO122.out (Kd.R_base ho52) hb)
                             have n2_ := Aside0.mk (Kd.R_elder' HO127.out (Kd.R_base ho52) hb)
                             have n3_ := Aside0.mk (Kd.R_elder' HO130.out (Kd.R_base ho52) hb)
                             have n4_ := Aside0.mk (Kd.R_elder' HO135.out (Kd.R_base ho52) hb)
                             have n5_ := Aside0.mk (Kd.R_lower (Kd.R_new' (Kd.R_new' (Kd.R_new' (Kd.R_new' (Kd.R_new' ho52 (Kd.R_lt HO119.out)) (Kd.R_lt HO122.out)) (Kd.R_lt HO127.out)) (Kd.R_lt HO130.out)) (Kd.R_lt HO135.out)) (below_size HB.out))
                             have n6_ := Aside0.mk (below_step HB.out hb)
                             clear HO119
                             clear HO122
                             clear HO127
                             clear HO130
                             clear HO135
                             clear HB
                             have HO119 := n0_
                             have HO122 := n1_
                             have HO127 := n2_
                             have HO130 := n3_
                             have HO135 := n4_
                             have HO141 := n5_
                             have HB := n6_
                             clear n0_ n1_ n2_ n3_ n4_ n5_ n6_
                             clear hb ho52
                             refine hK.out _ _ trivial (fun hHeld => ?_)
                             clear hK K
                             refine norm_ (a' := ?_) ?_ ?_
                             rotate_left
                             ·show Act.put _ (some 65) _ = _
                              simp only [Act.put, LSET9_]
                              rfl
                             exact norm_ (by simp only [putAll, Act.put, PSET] <;> rfl) (hJ0_4 (v134, v140) _ ⟨(Kd.R_mono HO119.out (fun _ hk => ⟨hk.1.1, ⟨hk.1.2.1, ⟨hk.1.2.2.1, ⟨hk.1.2.2.2, hk.2⟩⟩⟩⟩)), (Kd.R_mono HO122.out (fun _ hk => ⟨hk.1.1, ⟨hk.1.2.1, ⟨hk.1.2.2.1, ⟨hk.1.2.2.2, hk.2⟩⟩⟩⟩)), (Kd.R_mono HO127.out (fun _ hk => ⟨hk.1.1, ⟨hk.1.2.1, ⟨hk.1.2.2.1, ⟨hk.1.2.2.2, hk.2⟩⟩⟩⟩)), (Kd.R_mono HO130.out (fun _ hk => ⟨hk.1.1, ⟨hk.1.2.1, ⟨hk.1.2.2.1, ⟨hk.1.2.2.2, hk.2⟩⟩⟩⟩)), (Kd.R_mono HO135.out (fun _ hk => ⟨hk.1.1, ⟨hk.1.2.1, ⟨hk.1.2.2.1, ⟨hk.1.2.2.2, hk.2⟩⟩⟩⟩)), (Kd.R_mono HO141.out (fun _ hk => ⟨hk.1.1.1.1.2, ⟨hk.1.1.1.2, ⟨hk.1.1.2, ⟨hk.1.2, hk.2⟩⟩⟩⟩)), HB.out⟩)
                          ·skip
                           rintro v140 w51 ⟨h0_, h1_, h2_, h3_, h4_, h5_⟩
                           have n0_ : Aside0 (RU w w51 (fun k_ => nq k_ v121 ∧ nq k_ v126 ∧ nq k_ v129 ∧ nq k_ v140) v118 y117) := ⟨h0_⟩
                           have n1_ : Aside0 (RU w w51 (fun k_ => nq k_ v118 ∧ nq k_ v126 ∧ nq k_ v129 ∧ nq k_ v140) v121 y120) := ⟨h1_⟩
                           have n2_ : Aside0 (RU w w51 (fun k_ => nq k_ v118 ∧ nq k_ v121 ∧ nq k_ v129 ∧ nq k_ v140) v126 y125) := ⟨h2_⟩
                           have n3_ : Aside0 (RU w w51 (fun k_ => nq k_ v118 ∧ nq k_ v121 ∧ nq k_ v126 ∧ nq k_ v140) v129 y128) := ⟨h3_⟩
                           have n4_ : Aside0 (RU w w51 (fun k_ => nq k_ v118 ∧ nq k_ v121 ∧ nq k_ v126 ∧ nq k_ v129) v140 y139) := ⟨h4_⟩
                           have n5_ : Aside0 (Below w.heap.size w w51) := ⟨h5_⟩
                           clear HO119
                           clear HO122
                           clear HO127
                           clear HO130
                           clear HB
                           clear h0_ h1_ h2_ h3_ h4_ h5_
                           have HO119 := n0_
                           have HO122 := n1_
                           have HO127 := n2_
                           have HO130 := n3_
                           have HO141 := n4_
                           have HB := n5_
                           clear n0_ n1_ n2_ n3_ n4_ n5_
                           have hHeld := trivial
                           refine norm_ (a' := ?_) ?_ ?_
                           rotate_left
                           ·simp only [putAll, Act.put, PSET]
                            rfl
                           refine two_ (i := 0) (j := 2) (Ni := some 61) (Nj := some 63) #[true, false, false, false, true, true, false, false, false, false, false, false] #[false, false, true, false, true, true, false, false, false, false, false, false] rfl rfl rfl rfl (two_of HT_.out (by kernel_rfl)) (by decide) (by decide) (fun K hK => ?_) (fun K hK => ?_)
                           ·skip
                            refine Kd.R_make_step (Kd.int .u8) _ 5 (by rfl) (N := 61) rfl 32 _ _ rfl 32 rfl rfl Try.underlying32 (.int .u8 0) 1 info5 rfl (by decide) (by omega) 0 (ok := fun _ => True) (okp := fun _ => True) rfl (fun _ hk => hk) trivial (by omega) (by omega) (Below.refl _ _) (Nat.le_refl _) ?_
                            intro v134 w52 ho53 hb hg_ hnew_
                            clear hg_ hnew_
                            (first | rw [← Ny133.out] at ho53 | (simp only [Int.reduceToNat] at ho53; rw [← Ny133.out] at ho53))
                            have n0_ := Aside0.mk (Kd.R_elder' HO119.out (Kd.R_base ho53) hb)
                            have n1_ := Aside0.mk (Kd.R_elder' HO122.out (Kd.R_base ho53) hb)
                            have n2_ := Aside0.mk (Kd.R_elder' HO127.out (Kd.R_base ho53) hb)
                            have n3_ := Aside0.mk (Kd.R_elder' HO130.out (Kd.R_base ho53) hb)
                            have n4_ := Aside0.mk (Kd.R_elder' HO141.out (Kd.R_base ho53) hb)
                            have n5_ := Aside0.mk (Kd.R_lower (Kd.R_new' (Kd.R_new' (Kd.R_new' (Kd.R_new' (Kd.R_new' ho53 (Kd.R_lt HO119.out)) (Kd.R_lt HO122.out)) (Kd.R_lt HO127.out)) (Kd.R_lt HO130.out)) (Kd.R_lt HO141.out)) (below_size HB.out))
                            have n6_ := Aside0.mk (below_step HB.out hb)
                            clear HO119
                            clear HO122
                            clear HO127
                            clear HO130
                            clear HO141
                            clear HB
                            have HO119 := n0_
                            have HO122 := n1_
                            have HO127 := n2_
                            have HO130 := n3_
                            have HO141 := n4_
                            have HO135 := n5_
                            have HB := n6_
                            clear n0_ n1_ n2_ n3_ n4_ n5_ n6_
                            clear hb ho53
                            refine hK.out _ _ trivial (fun hHeld => ?_)
                            clear hK K
                            refine norm_ (a' := ?_) ?_ ?_
                            rotate_left
                            ·show Act.put _ (some 61) _ = _
                             simp only [Act.put, LSET9_]
                             rfl
                            exact norm_ (by simp only [putAll, Act.put, PSET] <;> rfl) (hJ0_4_5 (v134, v140) _ ⟨(Kd.R_mono HO119.out (fun _ hk => ⟨hk.1.1, ⟨hk.1.2.1, ⟨hk.1.2.2.1, ⟨hk.2, hk.1.2.2.2⟩⟩⟩⟩)), (Kd.R_mono HO122.out (fun _ hk => ⟨hk.1.1, ⟨hk.1.2.1, ⟨hk.1.2.2.1, ⟨hk.2, hk.1.2.2.2⟩⟩⟩⟩)), (Kd.R_mono HO127.out (fun _ hk => ⟨hk.1.1, ⟨hk.1.2.1, ⟨hk.1.2.2.1, ⟨hk.2, hk.1.2.2.2⟩⟩⟩⟩)), (Kd.R_mono HO130.out (fun _ hk => ⟨hk.1.1, ⟨hk.1.2.1, ⟨hk.1.2.2.1, ⟨hk.2, hk.1.2.2.2⟩⟩⟩⟩)), (Kd.R_mono HO135.out (fun _ hk => ⟨hk.1.1.1.1.2, ⟨hk.1.1.1.2, ⟨hk.1.1.2, ⟨hk.1.2, hk.2⟩⟩⟩⟩)), (Kd.R_mono HO141.out (fun _ hk => ⟨hk.1.1, ⟨hk.1.2.1, ⟨hk.1.2.2.1, ⟨hk.1.2.2.2, hk.2⟩⟩⟩⟩)), HB.out⟩)
                           ·skip
                            refine Kd.R_make_step (Kd.int .u8) _ 5 (by rfl) (N := 63) rfl 32 _ _ rfl 12 rfl rfl Try.underlying32 (.int .u8 0) 1 info5 rfl (by decide) (by omega) 0 (ok := fun _ => True) (okp := fun _ => True) rfl (fun _ hk => hk) trivial (by omega) (by omega) (Below.refl _ _) (Nat.le_refl _) ?_
                            intro v137 w52 ho53 hb hg_ hnew_
                            clear hg_ hnew_
                            (first | rw [← Ny136.out] at ho53 | (simp only [Int.reduceToNat] at ho53; rw [← Ny136.out] at ho53))
                            have n0_ := Aside0.mk (Kd.R_elder' HO119.out (Kd.R_base ho53) hb)
                            have n1_ := Aside0.mk (Kd.R_elder' HO122.out (Kd.R_base ho53) hb)
                            have n2_ := Aside0.mk (Kd.R_elder' HO127.out (Kd.R_base ho53) hb)
                            have n3_ := Aside0.mk (Kd.R_elder' HO130.out (Kd.R_base ho53) hb)
                            have n4_ := Aside0.mk (Kd.R_elder' HO141.out (Kd.R_base ho53) hb)
                            have n5_ := Aside0.mk (Kd.R_lower (Kd.R_new' (Kd.R_new' (Kd.R_new' (Kd.R_new' (Kd.R_new' ho53 (Kd.R_lt HO119.out)) (Kd.R_lt HO122.out)) (Kd.R_lt HO127.out)) (Kd.R_lt HO130.out)) (Kd.R_lt HO141.out)) (below_size HB.out))
                            have n6_ := Aside0.mk (below_step HB.out hb)
                            clear HO119
                            clear HO122
                            clear HO127
                            clear HO130
                            clear HO141
                            clear HB
                            have HO119 := n0_
                            have HO122 := n1_
                            have HO127 := n2_
                            have HO130 := n3_
                            have HO141 := n4_
                            have HO138 := n5_
                            have HB := n6_
                            clear n0_ n1_ n2_ n3_ n4_ n5_ n6_
                            clear hb ho53
                            refine hK.out _ _ trivial (fun hHeld => ?_)
                            clear hK K
                            refine norm_ (a' := ?_) ?_ ?_
                            rotate_left
                            ·show Act.put _ (some 63) _ = _
                             simp only [Act.put, LSET9_]
                             rfl
                            exact norm_ (by simp only [putAll, Act.put, PSET] <;> rfl) (hJ2_4_5 (v137, v140) _ ⟨(Kd.R_mono HO119.out (fun _ hk => ⟨hk.1.1, ⟨hk.1.2.1, ⟨hk.1.2.2.1, ⟨hk.2, hk.1.2.2.2⟩⟩⟩⟩)), (Kd.R_mono HO122.out (fun _ hk => ⟨hk.1.1, ⟨hk.1.2.1, ⟨hk.1.2.2.1, ⟨hk.2, hk.1.2.2.2⟩⟩⟩⟩)), (Kd.R_mono HO127.out (fun _ hk => ⟨hk.1.1, ⟨hk.1.2.1, ⟨hk.1.2.2.1, ⟨hk.2, hk.1.2.2.2⟩⟩⟩⟩)), (Kd.R_mono HO130.out (fun _ hk => ⟨hk.1.1, ⟨hk.1.2.1, ⟨hk.1.2.2.1, ⟨hk.2, hk.1.2.2.2⟩⟩⟩⟩)), (Kd.R_mono HO138.out (fun _ hk => ⟨hk.1.1.1.1.2, ⟨hk.1.1.1.2, ⟨hk.1.1.2, ⟨hk.1.2, hk.2⟩⟩⟩⟩)), (Kd.R_mono HO141.out (fun _ hk => ⟨hk.1.1, ⟨hk.1.2.1, ⟨hk.1.2.2.1, ⟨hk.1.2.2.2, hk.2⟩⟩⟩⟩)), HB.out⟩)
                         ·skip
                          rintro ⟨v137, v140⟩ w52 ⟨h0_, h1_, h2_, h3_, h4_, h5_, h6_⟩
                          have n0_ : Aside0 (RU w w52 (fun k_ => nq k_ v121 ∧ nq k_ v126 ∧ nq k_ v129 ∧ nq k_ v137 ∧ nq k_ v140) v118 y117) := ⟨h0_⟩
                          have n1_ : Aside0 (RU w w52 (fun k_ => nq k_ v118 ∧ nq k_ v126 ∧ nq k_ v129 ∧ nq k_ v137 ∧ nq k_ v140) v121 y120) := ⟨h1_⟩
                          have n2_ : Aside0 (RU w w52 (fun k_ => nq k_ v118 ∧ nq k_ v121 ∧ nq k_ v129 ∧ nq k_ v137 ∧ nq k_ v140) v126 y125) := ⟨h2_⟩
                          have n3_ : Aside0 (RU w w52 (fun k_ => nq k_ v118 ∧ nq k_ v121 ∧ nq k_ v126 ∧ nq k_ v137 ∧ nq k_ v140) v129 y128) := ⟨h3_⟩
                          have n4_ : Aside0 (RU w w52 (fun k_ => nq k_ v118 ∧ nq k_ v121 ∧ nq k_ v126 ∧ nq k_ v129 ∧ nq k_ v140) v137 y136) := ⟨h4_⟩
                          have n5_ : Aside0 (RU w w52 (fun k_ => nq k_ v118 ∧ nq k_ v121 ∧ nq k_ v126 ∧ nq k_ v129 ∧ nq k_ v137) v140 y139) := ⟨h5_⟩
                          have n6_ : Aside0 (Below w.heap.size w w52) := ⟨h6_⟩
                          clear HO119
                          clear HO122
                          clear HO127
                          clear HO130
                          clear HB
                          clear h0_ h1_ h2_ h3_ h4_ h5_ h6_
                          have HO119 := n0_
                          have HO122 := n1_
                          have HO127 := n2_
                          have HO130 := n3_
                          have HO138 := n4_
                          have HO141 := n5_
                          have HB := n6_
                          clear n0_ n1_ n2_ n3_ n4_ n5_ n6_
                          have hHeld := trivial
                          refine norm_ (a' := ?_) ?_ ?_
                          rotate_left
                          ·simp only [putAll, Act.put, PSET]
                           rfl
                          refine three_ (i := 0) (j := 3) (k := 5) (Ni := some 61) (Nj := some 64) (Nk := some 66) #[true, false, true, false, true, false, false, false, false, false, false, false] #[false, false, true, true, true, false, false, false, false, false, false, false] #[false, false, true, false, true, true, false, false, false, false, false, false] rfl rfl rfl rfl rfl rfl (three_of HT_.out (by kernel_rfl)) (by decide) (by decide) (by decide) (fun K hK => ?_) (fun K hK => ?_) (fun K hK => ?_)
                          ·skip
                           refine Kd.R_make_step (Kd.int .u8) _ 5 (by rfl) (N := 61) rfl 32 _ _ rfl 32 rfl rfl Try.underlying32 (.int .u8 0) 1 info5 rfl (by decide) (by omega) 0 (ok := fun _ => True) (okp := fun _ => True) rfl (fun _ hk => hk) trivial (by omega) (by omega) (Below.refl _ _) (Nat.le_refl _) ?_
                           intro v134 w53 ho54 hb hg_ hnew_
                           clear hg_ hnew_
                           (first | rw [← Ny133.out] at ho54 | (simp only [Int.reduceToNat] at ho54; rw [← Ny133.out] at ho54))
                           have n0_ := Aside0.mk (Kd.R_elder' HO119.out (Kd.R_base ho54) hb)
                           have n1_ := Aside0.mk (Kd.R_elder' HO122.out (Kd.R_base ho54) hb)
                           have n2_ := Aside0.mk (Kd.R_elder' HO127.out (Kd.R_base ho54) hb)
                           have n3_ := Aside0.mk (Kd.R_elder' HO130.out (Kd.R_base ho54) hb)
                           have n4_ := Aside0.mk (Kd.R_elder' HO138.out (Kd.R_base ho54) hb)
                           have n5_ := Aside0.mk (Kd.R_elder' HO141.out (Kd.R_base ho54) hb)
                           have n6_ := Aside0.mk (Kd.R_lower (Kd.R_new' (Kd.R_new' (Kd.R_new' (Kd.R_new' (Kd.R_new' (Kd.R_new' ho54 (Kd.R_lt HO119.out)) (Kd.R_lt HO122.out)) (Kd.R_lt HO127.out)) (Kd.R_lt HO130.out)) (Kd.R_lt HO138.out)) (Kd.R_lt HO141.out)) (below_size HB.out))
                           have n7_ := Aside0.mk (below_step HB.out hb)
                           clear HO119
                           clear HO122
                           clear HO127
                           clear HO130
                           clear HO138
                           clear HO141
                           clear HB
                           have HO119 := n0_
                           have HO122 := n1_
                           have HO127 := n2_
                           have HO130 := n3_
                           have HO138 := n4_
                           have HO141 := n5_
                           have HO135 := n6_
                           have HB := n7_
                           clear n0_ n1_ n2_ n3_ n4_ n5_ n6_ n7_
                           clear hb ho54
                           refine hK.out _ _ trivial (fun hHeld => ?_)
                           clear hK K
                           refine norm_ (a' := ?_) ?_ ?_
                           rotate_left
                           ·show Act.put _ (some 61) _ = _
                            simp only [Act.put, LSET9_]
                            rfl
                           exact norm_ (by simp only [putAll, Act.put, PSET] <;> rfl) (hJ0_2_4 (v134, v137, v140) _ ⟨(Kd.R_mono HO119.out (fun _ hk => ⟨hk.1.1, ⟨hk.1.2.1, ⟨hk.1.2.2.1, ⟨hk.2, ⟨hk.1.2.2.2.1, hk.1.2.2.2.2⟩⟩⟩⟩⟩)), (Kd.R_mono HO122.out (fun _ hk => ⟨hk.1.1, ⟨hk.1.2.1, ⟨hk.1.2.2.1, ⟨hk.2, ⟨hk.1.2.2.2.1, hk.1.2.2.2.2⟩⟩⟩⟩⟩)), (Kd.R_mono HO127.out (fun _ hk => ⟨hk.1.1, ⟨hk.1.2.1, ⟨hk.1.2.2.1, ⟨hk.2, ⟨hk.1.2.2.2.1, hk.1.2.2.2.2⟩⟩⟩⟩⟩)), (Kd.R_mono HO130.out (fun _ hk => ⟨hk.1.1, ⟨hk.1.2.1, ⟨hk.1.2.2.1, ⟨hk.2, ⟨hk.1.2.2.2.1, hk.1.2.2.2.2⟩⟩⟩⟩⟩)), (Kd.R_mono HO135.out (fun _ hk => ⟨hk.1.1.1.1.1.2, ⟨hk.1.1.1.1.2, ⟨hk.1.1.1.2, ⟨hk.1.1.2, ⟨hk.1.2, hk.2⟩⟩⟩⟩⟩)), (Kd.R_mono HO138.out (fun _ hk => ⟨hk.1.1, ⟨hk.1.2.1, ⟨hk.1.2.2.1, ⟨hk.1.2.2.2.1, ⟨hk.2, hk.1.2.2.2.2⟩⟩⟩⟩⟩)), (Kd.R_mono HO141.out (fun _ hk => ⟨hk.1.1, ⟨hk.1.2.1, ⟨hk.1.2.2.1, ⟨hk.1.2.2.2.1, ⟨hk.2, hk.1.2.2.2.2⟩⟩⟩⟩⟩)), HB.out⟩)
                          ·skip
                           have hcv53 := own_string (P := Try.prog) Try.underlying32 Try.underlying5 Try.underlying9 (Kd.own_of_R HO138.out)
                           refine value_ (w1 := ?_) (v := ?_) (by rfl) rfl ?_ ?_
                           rotate_left 2
                           ·go_simp
                            constructor
                            ·rfl
                            ·rfl
                           clear hcv53
                           refine hK.out _ _ trivial (fun hHeld => ?_)
                           clear hK K
                           refine norm_ (a' := ?_) ?_ ?_
                           rotate_left
                           ·show Act.put _ (some 64) _ = _
                            simp only [Act.put, LSET9_]
                            rfl
                           exact norm_ (by simp only [putAll, Act.put, PSET] <;> rfl) (hJ2_3_4 (v137, v140) _ ⟨HO119.out, HO122.out, HO127.out, HO130.out, HO138.out, HO141.out, HB.out⟩)
                          ·skip
                           have hcv53 := own_string (P := Try.prog) Try.underlying32 Try.underlying5 Try.underlying9 (Kd.own_of_R HO141.out)
                           refine value_ (w1 := ?_) (v := ?_) (by rfl) rfl ?_ ?_
                           rotate_left 2
                           ·go_simp
                            constructor
                            ·rfl
                            ·rfl
                           clear hcv53
                           refine hK.out _ _ trivial (fun hHeld => ?_)
                           clear hK K
                           refine norm_ (a' := ?_) ?_ ?_
                           rotate_left
                           ·show Act.put _ (some 66) _ = _
                            simp only [Act.put, LSET9_]
                            rfl
                           exact norm_ (by simp only [putAll, Act.put, PSET] <;> rfl) (hJ2_4_5 (v137, v140) _ ⟨HO119.out, HO122.out, HO127.out, HO130.out, HO138.out, HO141.out, HB.out⟩)
                        ·skip
                         rintro v137 w51 ⟨h0_, h1_, h2_, h3_, h4_, h5_⟩
                         have n0_ : Aside0 (RU w w51 (fun k_ => nq k_ v121 ∧ nq k_ v126 ∧ nq k_ v129 ∧ nq k_ v137) v118 y117) := ⟨h0_⟩
                         have n1_ : Aside0 (RU w w51 (fun k_ => nq k_ v118 ∧ nq k_ v126 ∧ nq k_ v129 ∧ nq k_ v137) v121 y120) := ⟨h1_⟩
                         have n2_ : Aside0 (RU w w51 (fun k_ => nq k_ v118 ∧ nq k_ v121 ∧ nq k_ v129 ∧ nq k_ v137) v126 y125) := ⟨h2_⟩
                         have n3_ : Aside0 (RU w w51 (fun k_ => nq k_ v118 ∧ nq k_ v121 ∧ nq k_ v126 ∧ nq k_ v137) v129 y128) := ⟨h3_⟩
                         have n4_ : Aside0 (RU w w51 (fun k_ => nq k_ v118 ∧ nq k_ v121 ∧ nq k_ v126 ∧ nq k_ v129) v137 y136) := ⟨h4_⟩
                         have n5_ : Aside0 (Below w.heap.size w w51) := ⟨h5_⟩
                         clear HO119
                         clear HO122
                         clear HO127
                         clear HO130
                         clear HB
                         clear h0_ h1_ h2_ h3_ h4_ h5_
                         have HO119 := n0_
                         have HO122 := n1_
                         have HO127 := n2_
                         have HO130 := n3_
                         have HO138 := n4_
                         have HB := n5_
                         clear n0_ n1_ n2_ n3_ n4_ n5_
                         have hHeld := trivial
                         refine norm_ (a' := ?_) ?_ ?_
                         rotate_left
                         ·simp only [putAll, Act.put, PSET]
                          rfl
                         refine two_ (i := 0) (j := 4) (Ni := some 61) (Nj := some 65) #[true, false, true, true, false, false, false, false, false, false, false, false] #[false, false, true, true, true, false, false, false, false, false, false, false] rfl rfl rfl rfl (two_of HT_.out (by kernel_rfl)) (by decide) (by decide) (fun K hK => ?_) (fun K hK => ?_)
                         ·skip
                          refine Kd.R_make_step (Kd.int .u8) _ 5 (by rfl) (N := 61) rfl 32 _ _ rfl 32 rfl rfl Try.underlying32 (.int .u8 0) 1 info5 rfl (by decide) (by omega) 0 (ok := fun _ => True) (okp := fun _ => True) rfl (fun _ hk => hk) trivial (by omega) (by omega) (Below.refl _ _) (Nat.le_refl _) ?_
                          intro v134 w52 ho53 hb hg_ hnew_
                          clear hg_ hnew_
                          (first | rw [← Ny133.out] at ho53 | (simp only [Int.reduceToNat] at ho53; rw [← Ny133.out] at ho53))
                          have n0_ := Aside0.mk (Kd.R_elder' HO119.out (Kd.R_base ho53) hb)
                          have n1_ := Aside0.mk (Kd.R_elder' HO122.out (Kd.R_base ho53) hb)
                          have n2_ := Aside0.mk (Kd.R_elder' HO127.out (Kd.R_base ho53) hb)
                          have n3_ := Aside0.mk (Kd.R_elder' HO130.out (Kd.R_base ho53) hb)
                          have n4_ := Aside0.mk (Kd.R_elder' HO138.out (Kd.R_base ho53) hb)
                          have n5_ := Aside0.mk (Kd.R_lower (Kd.R_new' (Kd.R_new' (Kd.R_new' (Kd.R_new' (Kd.R_new' ho53 (Kd.R_lt HO119.out)) (Kd.R_lt HO122.out)) (Kd.R_lt HO127.out)) (Kd.R_lt HO130.out)) (Kd.R_lt HO138.out)) (below_size HB.out))
                          have n6_ := Aside0.mk (below_step HB.out hb)
                          clear HO119
                          clear HO122
                          clear HO127
                          clear HO130
                          clear HO138
                          clear HB
                          have HO119 := n0_
                          have HO122 := n1_
                          have HO127 := n2_
                          have HO130 := n3_
                          have HO138 := n4_
                          have HO135 := n5_
                          have HB := n6_
                          clear n0_ n1_ n2_ n3_ n4_ n5_ n6_
                          clear hb ho53
                          refine hK.out _ _ trivial (fun hHeld => ?_)
                          clear hK K
                          refine norm_ (a' := ?_) ?_ ?_
                          rotate_left
                          ·show Act.put _ (some 61) _ = _
                           simp only [Act.put, LSET9_]
                           rfl
                          exact norm_ (by simp only [putAll, Act.put, PSET] <;> rfl) (hJ0_2_3 (v134, v137) _ ⟨(Kd.R_mono HO119.out (fun _ hk => ⟨hk.1.1, ⟨hk.1.2.1, ⟨hk.1.2.2.1, ⟨hk.2, hk.1.2.2.2⟩⟩⟩⟩)), (Kd.R_mono HO122.out (fun _ hk => ⟨hk.1.1, ⟨hk.1.2.1, ⟨hk.1.2.2.1, ⟨hk.2, hk.1.2.2.2⟩⟩⟩⟩)), (Kd.R_mono HO127.out (fun _ hk => ⟨hk.1.1, ⟨hk.1.2.1, ⟨hk.1.2.2.1, ⟨hk.2, hk.1.2.2.2⟩⟩⟩⟩)), (Kd.R_mono HO130.out (fun _ hk => ⟨hk.1.1, ⟨hk.1.2.1, ⟨hk.1.2.2.1, ⟨hk.2, hk.1.2.2.2⟩⟩⟩⟩)), (Kd.R_mono HO135.out (fun _ hk => ⟨hk.1.1.1.1.2, ⟨hk.1.1.1.2, ⟨hk.1.1.2, ⟨hk.1.2, hk.2⟩⟩⟩⟩)), (Kd.R_mono HO138.out (fun _ hk => ⟨hk.1.1, ⟨hk.1.2.1, ⟨hk.1.2.2.1, ⟨hk.1.2.2.2, hk.2⟩⟩⟩⟩)), HB.out⟩)
                         ·skip
                          refine Kd.R_make_step (Kd.int .u8) _ 5 (by rfl) (N := 65) rfl 32 _ _ rfl 65537 rfl rfl Try.underlying32 (.int .u8 0) 1 info5 rfl (by decide) (by omega) 0 (ok := fun _ => True) (okp := fun _ => True) rfl (fun _ hk => hk) trivial (by omega) (by omega) (Below.refl _ _) (Nat.le_refl _) ?_
                          intro v140 w52 ho53 hb hg_ hnew_
                          clear hg_ hnew_
                          (first | rw [← Ny139.out] at ho53 | (simp only [Int.reduceToNat] at ho53; rw [← Ny139.out] at ho53))
                          have n0_ := Aside0.mk (Kd.R_elder' HO119.out (Kd.R_base ho53) hb)
                          have n1_ := Aside0.mk (Kd.R_elder' HO122.out (Kd.R_base ho53) hb)
                          have n2_ := Aside0.mk (Kd.R_elder' HO127.out (Kd.R_base ho53) hb)
                          have n3_ := Aside0.mk (Kd.R_elder' HO130.out (Kd.R_base ho53) hb)
                          have n4_ := Aside0.mk (Kd.R_elder' HO138.out (Kd.R_base ho53) hb)
                          have n5_ := Aside0.mk (Kd.R_lower (Kd.R_new' (Kd.R_new' (Kd.R_new' (Kd.R_new' (Kd.R_new' ho53 (Kd.R_lt HO119.out)) (Kd.R_lt HO122.out)) (Kd.R_lt HO127.out)) (Kd.R_lt HO130.out)) (Kd.R_lt HO138.out)) (below_size HB.out))
                          have n6_ := Aside0.mk (below_step HB.out hb)
                          clear HO119
                          clear HO122
                          clear HO127
                          clear HO130
                          clear HO138
                          clear HB
                          have HO119 := n0_
                          have HO122 := n1_
                          have HO127 := n2_
                          have HO130 := n3_
                          have HO138 := n4_
                          have HO141 := n5_
                          have HB := n6_
                          clear n0_ n1_ n2_ n3_ n4_ n5_ n6_
                          clear hb ho53
                          refine hK.out _ _ trivial (fun hHeld => ?_)
                          clear hK K
                          refine norm_ (a' := ?_) ?_ ?_
                          rotate_left
                          ·show Act.put _ (some 65) _ = _
                           simp only [Act.put, LSET9_]
                           rfl
                          exact norm_ (by simp only [putAll, Act.put, PSET] <;> rfl) (hJ2_3_4 (v137, v140) _ ⟨(Kd.R_mono HO119.out (fun _ hk => ⟨hk.1.1, ⟨hk.1.2.1, ⟨hk.1.2.2.1, ⟨hk.1.2.2.2, hk.2⟩⟩⟩⟩)), (Kd.R_mono HO122.out (fun _ hk => ⟨hk.1.1, ⟨hk.1.2.1, ⟨hk.1.2.2.1, ⟨hk.1.2.2.2, hk.2⟩⟩⟩⟩)), (Kd.R_mono HO127.out (fun _ hk => ⟨hk.1.1, ⟨hk.1.2.1, ⟨hk.1.2.2.1, ⟨hk.1.2.2.2, hk.2⟩⟩⟩⟩)), (Kd.R_mono HO130.out (fun _ hk => ⟨hk.1.1, ⟨hk.1.2.1, ⟨hk.1.2.2.1, ⟨hk.1.2.2.2, hk.2⟩⟩⟩⟩)), (Kd.R_mono HO138.out (fun _ hk => ⟨hk.1.1, ⟨hk.1.2.1, ⟨hk.1.2.2.1, ⟨hk.1.2.2.2, hk.2⟩⟩⟩⟩)), (Kd.R_mono HO141.out (fun _ hk => ⟨hk.1.1.1.1.2, ⟨hk.1.1.1.2, ⟨hk.1.1.2, ⟨hk.1.2, hk.2⟩⟩⟩⟩)), HB.out⟩)
                       ·skip
                        rintro ⟨v134, v140⟩ w52 ⟨h0_, h1_, h2_, h3_, h4_, h5_, h6_⟩
                        have n0_ : Aside0 (RU w w52 (fun k_ => nq k_ v121 ∧ nq k_ v126 ∧ nq k_ v129 ∧ nq k_ v134 ∧ nq k_ v140) v118 y117) := ⟨h0_⟩
                        have n1_ : Aside0 (RU w w52 (fun k_ => nq k_ v118 ∧ nq k_ v126 ∧ nq k_ v129 ∧ nq k_ v134 ∧ nq k_ v140) v121 y120) := ⟨h1_⟩
                        have n2_ : Aside0 (RU w w52 (fun k_ => nq k_ v118 ∧ nq k_ v121 ∧ nq k_ v129 ∧ nq k_ v134 ∧ nq k_ v140) v126 y125) := ⟨h2_⟩
                        have n3_ : Aside0 (RU w w52 (fun k_ => nq k_ v118 ∧ nq k_ v121 ∧ nq k_ v126 ∧ nq k_ v134 ∧ nq k_ v140) v129 y128) := ⟨h3_⟩
                        have n4_ : Aside0 (RU w w52 (fun k_ => nq k_ v118 ∧ nq k_ v121 ∧ nq k_ v126 ∧ nq k_ v129 ∧ nq k_ v140) v134 y133) := ⟨h4_⟩
                        have n5_ : Aside0 (RU w w52 (fun k_ => nq k_ v118 ∧ nq k_ v121 ∧ nq k_ v126 ∧ nq k_ v129 ∧ nq k_ v134) v140 y139) := ⟨h5_⟩
                        have n6_ : Aside0 (Below w.heap.size w w52) := ⟨h6_⟩
                        clear HO119
                        clear HO122
                        clear HO127
                        clear HO130
                        clear HB
                        clear h0_ h1_ h2_ h3_ h4_ h5_ h6_
                        have HO119 := n0_
                        have HO122 := n1_
                        have HO127 := n2_
                        have HO130 := n3_
                        have HO135 := n4_
                        have HO141 := n5_
                        have HB := n6_
                        clear n0_ n1_ n2_ n3_ n4_ n5_ n6_
                        have hHeld := trivial
                        refine norm_ (a' := ?_) ?_ ?_
                        rotate_left
                        ·simp only [putAll, Act.put, PSET]
                         rfl
                        refine three_ (i := 1) (j := 2) (k := 5) (Ni := some 62) (Nj := some 63) (Nk := some 66) #[true, true, false, false, true, false, false, false, false, false, false, false] #[true, false, true, false, true, false, false, false, false, false, false, false] #[true, false, false, false, true, true, false, false, false, false, false, false] rfl rfl rfl rfl rfl rfl (three_of HT_.out (by kernel_rfl)) (by decide) (by decide) (by decide) (fun K hK => ?_) (fun K hK => ?_) (fun K hK => ?_)
                        ·skip
                         have hcv53 := own_string (P := Try.prog) Try.underlying32 Try.underlying5 Try.underlying9 (Kd.own_of_R HO135.out)
                         refine value_ (w1 := ?_) (v := ?_) (by rfl) rfl ?_ ?_
                         rotate_left 2
                         ·go_simp
                          constructor
                          ·rfl
                          ·rfl
                         clear hcv53
                         refine hK.out _ _ trivial (fun hHeld => ?_)
                         clear hK K
                         refine norm_ (a' := ?_) ?_ ?_
                         rotate_left
                         ·show Act.put _ (some 62) _ = _
                          simp only [Act.put, LSET9_]
                          rfl
                         exact norm_ (by simp only [putAll, Act.put, PSET] <;> rfl) (hJ0_1_4 (v134, v140) _ ⟨HO119.out, HO122.out, HO127.out, HO130.out, HO135.out, HO141.out, HB.out⟩)
                        ·skip
                         refine Kd.R_make_step (Kd.int .u8) _ 5 (by rfl) (N := 63) rfl 32 _ _ rfl 12 rfl rfl Try.underlying32 (.int .u8 0) 1 info5 rfl (by decide) (by omega) 0 (ok := fun _ => True) (okp := fun _ => True) rfl (fun _ hk => hk) trivial (by omega) (by omega) (Below.refl _ _) (Nat.le_refl _) ?_
                         intro v137 w53 ho54 hb hg_ hnew_
                         clear hg_ hnew_
                         (first | rw [← Ny136.out] at ho54 | (simp only [Int.reduceToNat] at ho54; rw [← Ny136.out] at ho54))
                         have n0_ := Aside0.mk (Kd.R_elder' HO119.out (Kd.R_base ho54) hb)
                         have n1_ := Aside0.mk (Kd.R_elder' HO122.out (Kd.R_base ho54) hb)
                         have n2_ := Aside0.mk (Kd.R_elder' HO127.out (Kd.R_base ho54) hb)
                         have n3_ := Aside0.mk (Kd.R_elder' HO130.out (Kd.R_base ho54) hb)
                         have n4_ := Aside0.mk (Kd.R_elder' HO135.out (Kd.R_base ho54) hb)
                         have n5_ := Aside0.mk (Kd.R_elder' HO141.out (Kd.R_base ho54) hb)
                         have n6_ := Aside0.mk (Kd.R_lower (Kd.R_new' (Kd.R_new' (Kd.R_new' (Kd.R_new' (Kd.R_new' (Kd.R_new' ho54 (Kd.R_lt HO119.out)) (Kd.R_lt HO122.out)) (Kd.R_lt HO127.out)) (Kd.R_lt HO130.out)) (Kd.R_lt HO135.out)) (Kd.R_lt HO141.out)) (below_size HB.out))
                         have n7_ := Aside0.mk (below_step HB.out hb)
                         clear HO119
                         clear HO122
                         clear HO127
                         clear HO130
                         clear HO135
                         clear HO141
                         clear HB
                         have HO119 := n0_
                         have HO122 := n1_
                         have HO127 := n2_
                         have HO130 := n3_
                         have HO135 := n4_
                         have HO141 := n5_
                         have HO138 := n6_
                         have HB := n7_
                         clear n0_ n1_ n2_ n3_ n4_ n5_ n6_ n7_
                         clear hb ho54
                         refine hK.out _ _ trivial (fun hHeld => ?_)
                         clear hK K
                         refine norm_ (a' := ?_) ?_ ?_
                         rotate_left
                         ·show Act.put _ (some 63) _ = _
                          simp only [Act.put, LSET9_]
                          rfl
                         exact norm_ (by simp only [putAll, Act.put, PSET] <;> rfl) (hJ0_2_4 (v134, v137, v140) _ ⟨(Kd.R_mono HO119.out (fun _ hk => ⟨hk.1.1, ⟨hk.1.2.1, ⟨hk.1.2.2.1, ⟨hk.1.2.2.2.1, ⟨hk.2, hk.1.2.2.2.2⟩⟩⟩⟩⟩)), (Kd.R_mono HO122.out (fun _ hk => ⟨hk.1.1, ⟨hk.1.2.1, ⟨hk.1.2.2.1, ⟨hk.1.2.2.2.1, ⟨hk.2, hk.1.2.2.2.2⟩⟩⟩⟩⟩)), (Kd.R_mono HO127.out (fun _ hk => ⟨hk.1.1, ⟨hk.1.2.1, ⟨hk.1.2.2.1, ⟨hk.1.2.2.2.1, ⟨hk.2, hk.1.2.2.2.2⟩⟩⟩⟩⟩)), (Kd.R_mono HO130.out (fun _ hk => ⟨hk.1.1, ⟨hk.1.2.1, ⟨hk.1.2.2.1, ⟨hk.1.2.2.2.1, ⟨hk.2, hk.1.2.2.2.2⟩⟩⟩⟩⟩)), (Kd.R_mono HO135.out (fun _ hk => ⟨hk.1.1, ⟨hk.1.2.1, ⟨hk.1.2.2.1, ⟨hk.1.2.2.2.1, ⟨hk.2, hk.1.2.2.2.2⟩⟩⟩⟩⟩)), (Kd.R_mono HO138.out (fun _ hk => ⟨hk.1.1.1.1.1.2, ⟨hk.1.1.1.1.2, ⟨hk.1.1.1.2, ⟨hk.1.1.2, ⟨hk.1.2, hk.2⟩⟩⟩⟩⟩)), (Kd.R_mono HO141.out (fun _ hk => ⟨hk.1.1, ⟨hk.1.2.1, ⟨hk.1.2.2.1, ⟨hk.1.2.2.2.1, ⟨hk.1.2.2.2.2, hk.2⟩⟩⟩⟩⟩)), HB.out⟩)
                        ·skip
                         have hcv53 := own_string (P := Try.prog) Try.underlying32 Try.underlying5 Try.underlying9 (Kd.own_of_R HO141.out)
                         refine value_ (w1 := ?_) (v := ?_) (by rfl) rfl ?_ ?_
                         rotate_left 2
                         ·go_simp
                          constructor
                          ·rfl
                          ·rfl
                         clear hcv53
                         refine hK.out _ _ trivial (fun hHeld => ?_)
                         clear hK K
                         refine norm_ (a' := ?_) ?_ ?_
                         rotate_left
                         ·show Act.put _ (some 66) _ = _
                          simp only [Act.put, LSET9_]
                          rfl
                         exact norm_ (by simp only [putAll, Act.put, PSET] <;> rfl) (hJ0_4_5 (v134, v140) _ ⟨HO119.out, HO122.out, HO127.out, HO130.out, HO135.out, HO141.out, HB.out⟩)
                      ·skip
                       rintro ⟨v134, v137⟩ w52 ⟨h0_, h1_, h2_, h3_, h4_, h5_, h6_⟩
                       have n0_ : Aside0 (RU w w52 (fun k_ => nq k_ v121 ∧ nq k_ v126 ∧ nq k_ v129 ∧ nq k_ v134 ∧ nq k_ v137) v118 y117) := ⟨h0_⟩
                       have n1_ : Aside0 (RU w w52 (fun k_ => nq k_ v118 ∧ nq k_ v126 ∧ nq k_ v129 ∧ nq k_ v134 ∧ nq k_ v137) v121 y120) := ⟨h1_⟩
                       have n2_ : Aside0 (RU w w52 (fun k_ => nq k_ v118 ∧ nq k_ v121 ∧ nq k_ v129 ∧ nq k_ v134 ∧ nq k_ v137) v126 y125) := ⟨h2_⟩
                       have n3_ : Aside0 (RU w w52 (fun k_ => nq k_ v118 ∧ nq k_ v121 ∧ nq k_ v126 ∧ nq k_ v134 ∧ nq k_ v137) v129 y128) := ⟨h3_⟩
                       have n4_ : Aside0 (RU w w52 (fun k_ => nq k_ v118 ∧ nq k_ v121 ∧ nq k_ v126 ∧ nq k_ v129 ∧ nq k_ v137) v134 y133) := ⟨h4_⟩
                       have n5_ : Aside0 (RU w w52 (fun k_ => nq k_ v118 ∧ nq k_ v121 ∧ nq k_ v126 ∧ nq k_ v129 ∧ nq k_ v134) v137 y136) := ⟨h5_⟩
                       have n6_ : Aside0 (Below w.heap.size w w52) := ⟨h6_⟩
                       clear HO119
                       clear HO122
                       clear HO127
                       clear HO130
                       clear HB
                       clear h0_ h1_ h2_ h3_ h4_ h5_ h6_
                       have HO119 := n0_
                       have HO122 := n1_
                       have HO127 := n2_
                       have HO130 := n3_
                       have HO135 := n4_
                       have HO138 := n5_
                       have HB := n6_
                       clear n0_ n1_ n2_ n3_ n4_ n5_ n6_
                       have hHeld := trivial
                       refine norm_ (a' := ?_) ?_ ?_
                       rotate_left
                       ·simp only [putAll, Act.put, PSET]
                        rfl
                       refine three_ (i := 1) (j := 3) (k := 4) (Ni := some 62) (Nj := some 64) (Nk := some 65) #[true, true, true, false, false, false, false, false, false, false, false, false] #[true, false, true, true, false, false, false, false, false, false, false, false] #[true, false, true, false, true, false, false, false, false, false, false, false] rfl rfl rfl rfl rfl rfl (three_of HT_.out (by kernel_rfl)) (by decide) (by decide) (by decide) (fun K hK => ?_) (fun K hK => ?_) (fun K hK => ?_)
                       ·skip
                        have hcv53 := own_string (P := Try.prog) Try.underlying32 Try.underlying5 Try.underlying9 (Kd.own_of_R HO135.out)
                        refine value_ (w1 := ?_) (v := ?_) (by rfl) rfl ?_ ?_
                        rotate_left 2
                        ·go_simp
                         constructor
                         ·rfl
                         ·rfl
                        clear hcv53
                        refine hK.out _ _ trivial (fun hHeld => ?_)
                        clear hK K
                        refine norm_ (a' := ?_) ?_ ?_
                        rotate_left
                        ·show Act.put _ (some 62) _ = _
                         simp only [Act.put, LSET9_]
                         rfl
                        exact norm_ (by simp only [putAll, Act.put, PSET] <;> rfl) (hJ0_1_2 (v134, v137) _ ⟨HO119.out, HO122.out, HO127.out, HO130.out, HO135.out, HO138.out, HB.out⟩)
                       ·skip
                        have hcv53 := own_string (P := Try.prog) Try.underlying32 Try.underlying5 Try.underlying9 (Kd.own_of_R HO138.out)
                        refine value_ (w1 := ?_) (v := ?_) (by rfl) rfl ?_ ?_
                        rotate_left 2
                        ·go_simp
                         constructor
                         ·rfl
                         ·rfl
                        clear hcv53
                        refine hK.out _ _ trivial (fun hHeld => ?_)
                        clear hK K
                        refine norm_ (a' := ?_) ?_ ?_
                        rotate_left
                        ·show Act.put _ (some 64) _ = _
                         simp only [Act.put, LSET9_]
                         rfl
                        exact norm_ (by simp only [putAll, Act.put, PSET] <;> rfl) (hJ0_2_3 (v134, v137) _ ⟨HO119.out, HO122.out, HO127.out, HO130.out, HO135.out, HO138.out, HB.out⟩)
                       ·skip
                        refine Kd.R_make_step (Kd.int .u8) _ 5 (by rfl) (N := 65) rfl 32 _ _ rfl 65537 rfl rfl Try.underlying32 (.int .u8 0) 1 info5 rfl (by decide) (by omega) 0 (ok := fun _ => True) (okp := fun _ => True) rfl (fun _ hk => hk) trivial (by omega) (by omega) (Below.refl _ _) (Nat.le_refl _) ?_
                        intro v140 w53 ho54 hb hg_ hnew_
                        clear hg_ hnew_
                        (first | rw [← Ny139.out] at ho54 | (simp only [Int.reduceToNat] at ho54; rw [← Ny139.out] at ho54))
                        have n0_ := Aside0.mk (Kd.R_elder' HO119.out (Kd.R_base ho54) hb)
                        have n1_ := Aside0.mk (Kd.R_elder' HO122.out (Kd.R_base ho54) hb)
                        have n2_ := Aside0.mk (Kd.R_elder' HO127.out (Kd.R_base ho54) hb)
                        have n3_ := Aside0.mk (Kd.R_elder' HO130.out (Kd.R_base ho54) hb)
                        have n4_ := Aside0.mk (Kd.R_elder' HO135.out (Kd.R_base ho54) hb)
                        have n5_ := Aside0.mk (Kd.R_elder' HO138.out (Kd.R_base ho54) hb)
                        have n6_ := Aside0.mk (Kd.R_lower (Kd.R_new' (Kd.R_new' (Kd.R_new' (Kd.R_new' (Kd.R_new' (Kd.R_new' ho54 (Kd.R_lt HO119.out)) (Kd.R_lt HO122.out)) (Kd.R_lt HO127.out)) (Kd.R_lt HO130.out)) (Kd.R_lt HO135.out)) (Kd.R_lt HO138.out)) (below_size HB.out))
                        have n7_ := Aside0.mk (below_step HB.out hb)
                        clear HO119
                        clear HO122
                        clear HO127
                        clear HO130
                        clear HO135
                        clear HO138
                        clear HB
                        have HO119 := n0_
                        have HO122 := n1_
                        have HO127 := n2_
                        have HO130 := n3_
                        have HO135 := n4_
                        have HO138 := n5_
                        have HO141 := n6_
                        have HB := n7_
                        clear n0_ n1_ n2_ n3_ n4_ n5_ n6_ n7_
                        clear hb ho54
                        refine hK.out _ _ trivial (fun hHeld => ?_)
                        clear hK K
                        refine norm_ (a' := ?_) ?_ ?_
                        rotate_left
                        ·show Act.put _ (some 65) _ = _
                         simp only [Act.put, LSET9_]
                         rfl
                        exact norm_ (by simp only [putAll, Act.put, PSET] <;> rfl) (hJ0_2_4 (v134, v137, v140) _ ⟨(Kd.R_mono HO119.out (fun _ hk => ⟨hk.1.1, ⟨hk.1.2.1, ⟨hk.1.2.2.1, ⟨hk.1.2.2.2.1, ⟨hk.1.2.2.2.2, hk.2⟩⟩⟩⟩⟩)), (Kd.R_mono HO122.out (fun _ hk => ⟨hk.1.1, ⟨hk.1.2.1, ⟨hk.1.2.2.1, ⟨hk.1.2.2.2.1, ⟨hk.1.2.2.2.2, hk.2⟩⟩⟩⟩⟩)), (Kd.R_mono HO127.out (fun _ hk => ⟨hk.1.1, ⟨hk.1.2.1, ⟨hk.1.2.2.1, ⟨hk.1.2.2.2.1, ⟨hk.1.2.2.2.2, hk.2⟩⟩⟩⟩⟩)), (Kd.R_mono HO130.out (fun _ hk => ⟨hk.1.1, ⟨hk.1.2.1, ⟨hk.1.2.2.1, ⟨hk.1.2.2.2.1, ⟨hk.1.2.2.2.2, hk.2⟩⟩⟩⟩⟩)), (Kd.R_mono HO135.out (fun _ hk => ⟨hk.1.1, ⟨hk.1.2.1, ⟨hk.1.2.2.1, ⟨hk.1.2.2.2.1, ⟨hk.1.2.2.2.2, hk.2⟩⟩⟩⟩⟩)), (Kd.R_mono HO138.out (fun _ hk => ⟨hk.1.1, ⟨hk.1.2.1, ⟨hk.1.2.2.1, ⟨hk.1.2.2.2.1, ⟨hk.1.2.2.2.2, hk.2⟩⟩⟩⟩⟩)), (Kd.R_mono HO141.out (fun _ hk => ⟨hk.1.1.1.1.1.2, ⟨hk.1.1.1.1.2, ⟨hk.1.1.1.2, ⟨hk.1.1.2, ⟨hk.1.2, hk.2⟩⟩⟩⟩⟩)), HB.out⟩)
                     ·skip
                      rintro v134 w51 ⟨h0_, h1_, h2_, h3_, h4_, h5_⟩
                      have n0_ : Aside0 (RU w w51 (fun k_ => nq k_ v121 ∧ nq k_ v126 ∧ nq k_ v129 ∧ nq k_ v134) v118 y117) := ⟨h0_⟩
                      have n1_ : Aside0 (RU w w51 (fun k_ => nq k_ v118 ∧ nq k_ v126 ∧ nq k_ v129 ∧ nq k_ v134) v121 y120) := ⟨h1_⟩
                      have n2_ : Aside0 (RU w w51 (fun k_ => nq k_ v118 ∧ nq k_ v121 ∧ nq k_ v129 ∧ nq k_ v134) v126 y125) := ⟨h2_⟩
                      have n3_ : Aside0 (RU w w51 (fun k_ => nq k_ v118 ∧ nq k_ v121 ∧ nq k_ v126 ∧ nq k_ v134) v129 y128) := ⟨h3_⟩
                      have n4_ : Aside0 (RU w w51 (fun k_ => nq k_ v118 ∧ nq k_ v121 ∧ nq k_ v126 ∧ nq k_ v129) v134 y133) := ⟨h4_⟩
                      have n5_ : Aside0 (Below w.heap.size w w51) := ⟨h5_⟩
                      clear HO119
                      clear HO122
                      clear HO127
                      clear HO130
                      clear HB
                      clear h0_ h1_ h2_ h3_ h4_ h5_
                      have HO119 := n0_
                      have HO122 := n1_
                      have HO127 := n2_
                      have HO130 := n3_
                      have HO135 := n4_
                      have HB := n5_
                      clear n0_ n1_ n2_ n3_ n4_ n5_
                      have hHeld := trivial
                      refine norm_ (a' := ?_) ?_ ?_
                      rotate_left
                      ·simp only [putAll, Act.put, PSET]
                       rfl
                      refine two_ (i := 2) (j := 4) (Ni := some 63) (Nj := some 65) #[true, true, true, false, false, false, false, false, false, false, false, false] #[true, true, false, false, true, false, false, false, false, false, false, false] rfl rfl rfl rfl (two_of HT_.out (by kernel_rfl)) (by decide) (by decide) (fun K hK => ?_) (fun K hK => ?_)
                      ·skip
                       refine Kd.R_make_step (Kd.int .u8) _ 5 (by rfl) (N := 63) rfl 32 _ _ rfl 12 rfl rfl Try.underlying32 (.int .u8 0) 1 info5 rfl (by decide) (by omega) 0 (ok := fun _ => True) (okp := fun _ => True) rfl (fun _ hk => hk) trivial (by omega) (by omega) (Below.refl _ _) (Nat.le_refl _) ?_
                       intro v137 w52 ho53 hb hg_ hnew_
                       clear hg_ hnew_
                       (first | rw [← Ny136.out] at ho53 | (simp only [Int.reduceToNat] at ho53; rw [← Ny136.out] at ho53))
                       have n0_ := Aside0.mk (Kd.R_elder' HO119.out (Kd.R_base ho53) hb)
                       have n1_ := Aside0.mk (Kd.R_elder' HO122.out (Kd.R_base ho53) hb)
                       have n2_ := Aside0.mk (Kd.R_elder' HO127.out (Kd.R_base ho53) hb)
                       have n3_ := Aside0.mk (Kd.R_elder' HO130.out (Kd.R_base ho53) hb)
                       have n4_ := Aside0.mk (Kd.R_elder' HO135.out (Kd.R_base ho53) hb)
                       have n5_ := Aside0.mk (Kd.R_lower (Kd.R_new' (Kd.R_new' (Kd.R_new' (Kd.R_new' (Kd.R_new' ho53 (Kd.R_lt HO119.out)) (Kd.R_lt HO122.out)) (Kd.R_lt HO127.out)) (Kd.R_lt HO130.out)) (Kd.R_lt HO135.out)) (below_size HB.out))
                       have n6_ := Aside0.mk (below_step HB.out hb)
                       clear HO119
                       clear HO122
                       clear HO127
                       clear HO130
                       clear HO135
                       clear HB
                       have HO119 := n0_
                       have HO122 := n1_
                       have HO127 := n2_
                       have HO130 := n3_
                       have HO135 := n4_
                       have HO138 := n5_
                       have HB := n6_
                       clear n0_ n1_ n2_ n3_ n4_ n5_ n6_
                       clear hb ho53
                       refine hK.out _ _ trivial (fun hHeld => ?_)
                       clear hK K
                       refine norm_ (a' := ?_) ?_ ?_
                       rotate_left
                       ·show Act.put _ (some 63) _ = _
                        simp only [Act.put, LSET9_]
                        rfl
                       exact norm_ (by simp only [putAll, Act.put, PSET] <;> rfl) (hJ0_1_2 (v134, v137) _ ⟨(Kd.R_mono HO119.out (fun _ hk => ⟨hk.1.1, ⟨hk.1.2.1, ⟨hk.1.2.2.1, ⟨hk.1.2.2.2, hk.2⟩⟩⟩⟩)), (Kd.R_mono HO122.out (fun _ hk => ⟨hk.1.1, ⟨hk.1.2.1, ⟨hk.1.2.2.1, ⟨hk.1.2.2.2, hk.2⟩⟩⟩⟩)), (Kd.R_mono HO127.out (fun _ hk => ⟨hk.1.1, ⟨hk.1.2.1, ⟨hk.1.2.2.1, ⟨hk.1.2.2.2, hk.2⟩⟩⟩⟩)), (Kd.R_mono HO130.out (fun _ hk => ⟨hk.1.1, ⟨hk.1.2.1, ⟨hk.1.2.2.1, ⟨hk.1.2.2.2, hk.2⟩⟩⟩⟩)), (Kd.R_mono HO135.out (fun _ hk => ⟨hk.1.1, ⟨hk.1.2.1, ⟨hk.1.2.2.1, ⟨hk.1.2.2.2, hk.2⟩⟩⟩⟩)), (Kd.R_mono HO138.out (fun _ hk => ⟨hk.1.1.1.1.2, ⟨hk.1.1.1.2, ⟨hk.1.1.2, ⟨hk.1.2, hk.2⟩⟩⟩⟩)), HB.out⟩)
                      ·skip
                       refine Kd.R_make_step (Kd.int .u8) _ 5 (by rfl) (N := 65) rfl 32 _ _ rfl 65537 rfl rfl Try.underlying32 (.int .u8 0) 1 info5 rfl (by decide) (by omega) 0 (ok := fun _ => True) (okp := fun _ => True) rfl (fun _ hk => hk) trivial (by omega) (by omega) (Below.refl _ _) (Nat.le_refl _) ?_
                       intro v140 w52 ho53 hb hg_ hnew_
                       clear hg_ hnew_
                       (first | rw [← Ny139.out] at ho53 | (simp only [Int.reduceToNat] at ho53; rw [← Ny139.out] at ho53))
                       have n0_ := Aside0.mk (Kd.R_elder' HO119.out (Kd.R_base ho53) hb)
                       have n1_ := Aside0.mk (Kd.R_elder' HO122.out (Kd.R_base ho53) hb)
                       have n2_ := Aside0.mk (Kd.R_elder' HO127.out (Kd.R_base ho53) hb)
                       have n3_ := Aside0.mk (Kd.R_elder' HO130.out (Kd.R_base ho53) hb)
                       have n4_ := Aside0.mk (Kd.R_elder' HO135.out (Kd.R_base ho53) hb)
                       have n5_ := Aside0.mk (Kd.R_lower (Kd.R_new' (Kd.R_new' (Kd.R_new' (Kd.R_new' (Kd.R_new' ho53 (Kd.R_lt HO119.out)) (Kd.R_lt HO122.out)) (Kd.R_lt HO127.out)) (Kd.R_lt HO130.out)) (Kd.R_lt HO135.out)) (below_size HB.out))
                       have n6_ := Aside0.mk (below_step HB.out hb)
                       clear HO119
                       clear HO122
                       clear HO127
                       clear HO130
                       clear HO135
                       clear HB
                       have HO119 := n0_
                       have HO122 := n1_
                       have HO127 := n2_
                       have HO130 := n3_
                       have HO135 := n4_
                       have HO141 := n5_
                       have HB := n6_
                       clear n0_ n1_ n2_ n3_ n4_ n5_ n6_
                       clear hb ho53
                       refine hK.out _ _ trivial (fun hHeld => ?_)
                       clear hK K
                       refine norm_ (a' := ?_) ?_ ?_
                       rotate_left
                       ·show Act.put _ (some 65) _ = _
                        simp only [Act.put, LSET9_]
                        rfl
                       exact norm_ (by simp only [putAll, Act.put, PSET] <;> rfl) (hJ0_1_4 (v134, v140) _ ⟨(Kd.R_mono HO119.out (fun _ hk => ⟨hk.1.1, ⟨hk.1.2.1, ⟨hk.1.2.2.1, ⟨hk.1.2.2.2, hk.2⟩⟩⟩⟩)), (Kd.R_mono HO122.out (fun _ hk => ⟨hk.1.1, ⟨hk.1.2.1, ⟨hk.1.2.2.1, ⟨hk.1.2.2.2, hk.2⟩⟩⟩⟩)), (Kd.R_mono HO127.out (fun _ hk => ⟨hk.1.1, ⟨hk.1.2.1, ⟨hk.1.2.2.1, ⟨hk.1.2.2.2, hk.2⟩⟩⟩⟩)), (Kd.R_mono HO130.out (fun _ hk => ⟨hk.1.1, ⟨hk.1.2.1, ⟨hk.1.2.2.1, ⟨hk.1.2.2.2, hk.2⟩⟩⟩⟩)), (Kd.R_mono HO135.out (fun _ hk => ⟨hk.1.1, ⟨hk.1.2.1, ⟨hk.1.2.2.1, ⟨hk.1.2.2.2, hk.2⟩⟩⟩⟩)), (Kd.R_mono HO141.out (fun _ hk => ⟨hk.1.1.1.1.2, ⟨hk.1.1.1.2, ⟨hk.1.1.2, ⟨hk.1.2, hk.2⟩⟩⟩⟩)), HB.out⟩)
                    ·skip
                     rintro ⟨v137, v140⟩ w53 ⟨h0_, h1_, h2_, h3_, h4_, h5_, h6_⟩
                     have n0_ : Aside0 (RU w w53 (fun k_ => nq k_ v121 ∧ nq k_ v126 ∧ nq k_ v129 ∧ nq k_ v137 ∧ nq k_ v140) v118 y117) := ⟨h0_⟩
                     have n1_ : Aside0 (RU w w53 (fun k_ => nq k_ v118 ∧ nq k_ v126 ∧ nq k_ v129 ∧ nq k_ v137 ∧ nq k_ v140) v121 y120) := ⟨h1_⟩
                     have n2_ : Aside0 (RU w w53 (fun k_ => nq k_ v118 ∧ nq k_ v121 ∧ nq k_ v129 ∧ nq k_ v137 ∧ nq k_ v140) v126 y125) := ⟨h2_⟩
                     have n3_ : Aside0 (RU w w53 (fun k_ => nq k_ v118 ∧ nq k_ v121 ∧ nq k_ v126 ∧ nq k_ v137 ∧ nq k_ v140) v129 y128) := ⟨h3_⟩
                     have n4_ : Aside0 (RU w w53 (fun k_ => nq k_ v118 ∧ nq k_ v121 ∧ nq k_ v126 ∧ nq k_ v129 ∧ nq k_ v140) v137 y136) := ⟨h4_⟩
                     have n5_ : Aside0 (RU w w53 (fun k_ => nq k_ v118 ∧ nq k_ v121 ∧ nq k_ v126 ∧ nq k_ v129 ∧ nq k_ v137) v140 y139) := ⟨h5_⟩
                     have n6_ : Aside0 (Below w.heap.size w w53) := ⟨h6_⟩
                     clear HO119
                     clear HO122
                     clear HO127
                     clear HO130
                     clear HB
                     clear h0_ h1_ h2_ h3_ h4_ h5_ h6_
                     have HO119 := n0_
                     have HO122 := n1_
                     have HO127 := n2_
                     have HO130 := n3_
                     have HO138 := n4_
                     have HO141 := n5_
                     have HB := n6_
                     clear n0_ n1_ n2_ n3_ n4_ n5_ n6_
                     have hHeld := trivial
                     refine norm_ (a' := ?_) ?_ ?_
                     rotate_left
                     ·simp only [putAll, Act.put, PSET]
                      rfl
                     refine two_ (i := 0) (j := 3) (Ni := some 61) (Nj := some 64) #[true, false, true, false, true, true, false, false, false, false, false, false] #[false, false, true, true, true, true, false, false, false, false, false, false] rfl rfl rfl rfl (two_of HT_.out (by kernel_rfl)) (by decide) (by decide) (fun K hK => ?_) (fun K hK => ?_)
                     ·skip
                      refine Kd.R_make_step (Kd.int .u8) _ 5 (by rfl) (N := 61) rfl 32 _ _ rfl 32 rfl rfl Try.underlying32 (.int .u8 0) 1 info5 rfl (by decide) (by omega) 0 (ok := fun _ => True) (okp := fun _ => True) rfl (fun _ hk => hk) trivial (by omega) (by omega) (Below.refl _ _) (Nat.le_refl _) ?_
                      intro v134 w54 ho55 hb hg_ hnew_
                      clear hg_ hnew_
                      (first | rw [← Ny133.out] at ho55 | (simp only [Int.reduceToNat] at ho55; rw [← Ny133.out] at ho55))
                      have n0_ := Aside0.mk (Kd.R_elder' HO119.out (Kd.R_base ho55) hb)
                      have n1_ := Aside0.mk (Kd.R_elder' HO122.out (Kd.R_base ho55) hb)
                      have n2_ := Aside0.mk (Kd.R_elder' HO127.out (Kd.R_base ho55) hb)
                      have n3_ := Aside0.mk (Kd.R_elder' HO130.out (Kd.R_base ho55) hb)
                      have n4_ := Aside0.mk (Kd.R_elder' HO138.out (Kd.R_base ho55) hb)
                      have n5_ := Aside0.mk (Kd.R_elder' HO141.out (Kd.R_base ho55) hb)
                      have n6_ := Aside0.mk (Kd.R_lower (Kd.R_new' (Kd.R_new' (Kd.R_new' (Kd.R_new' (Kd.R_new' (Kd.R_new' ho55 (Kd.R_lt HO119.out)) (Kd.R_lt HO122.out)) (Kd.R_lt HO127.out)) (Kd.R_lt HO130.out)) (Kd.R_lt HO138.out)) (Kd.R_lt HO141.out)) (below_size HB.out))
                      have n7_ := Aside0.mk (below_step HB.out hb)
                      clear HO119
                      clear HO122
                      clear HO127
                      clear HO130
                      clear HO138
                      clear HO141
                      clear HB
                      have HO119 := n0_
                      have HO122 := n1_
                      have HO127 := n2_
                      have HO130 := n3_
                      have HO138 := n4_
                      have HO141 := n5_
                      have HO135 := n6_
                      have HB := n7_
                      clear n0_ n1_ n2_ n3_ n4_ n5_ n6_ n7_
                      clear hb ho55
                      refine hK.out _ _ trivial (fun hHeld => ?_)
                      clear hK K
                      refine norm_ (a' := ?_) ?_ ?_
                      rotate_left
                      ·show Act.put _ (some 61) _ = _
                       simp only [Act.put, LSET9_]
                       rfl
                      exact norm_ (by simp only [putAll, Act.put, PSET] <;> rfl) (hJ0_2_4_5 (v134, v137, v140) _ ⟨(Kd.R_mono HO119.out (fun _ hk => ⟨hk.1.1, ⟨hk.1.2.1, ⟨hk.1.2.2.1, ⟨hk.2, ⟨hk.1.2.2.2.1, hk.1.2.2.2.2⟩⟩⟩⟩⟩)), (Kd.R_mono HO122.out (fun _ hk => ⟨hk.1.1, ⟨hk.1.2.1, ⟨hk.1.2.2.1, ⟨hk.2, ⟨hk.1.2.2.2.1, hk.1.2.2.2.2⟩⟩⟩⟩⟩)), (Kd.R_mono HO127.out (fun _ hk => ⟨hk.1.1, ⟨hk.1.2.1, ⟨hk.1.2.2.1, ⟨hk.2, ⟨hk.1.2.2.2.1, hk.1.2.2.2.2⟩⟩⟩⟩⟩)), (Kd.R_mono HO130.out (fun _ hk => ⟨hk.1.1, ⟨hk.1.2.1, ⟨hk.1.2.2.1, ⟨hk.2, ⟨hk.1.2.2.2.1, hk.1.2.2.2.2⟩⟩⟩⟩⟩)), (Kd.R_mono HO135.out (fun _ hk => ⟨hk.1.1.1.1.1.2, ⟨hk.1.1.1.1.2, ⟨hk.1.1.1.2, ⟨hk.1.1.2, ⟨hk.1.2, hk.2⟩⟩⟩⟩⟩)), (Kd.R_mono HO138.out (fun _ hk => ⟨hk.1.1, ⟨hk.1.2.1, ⟨hk.1.2.2.1, ⟨hk.1.2.2.2.1, ⟨hk.2, hk.1.2.2.2.2⟩⟩⟩⟩⟩)), (Kd.R_mono HO141.out (fun _ hk => ⟨hk.1.1, ⟨hk.1.2.1, ⟨hk.1.2.2.1, ⟨hk.1.2.2.2.1, ⟨hk.2, hk.1.2.2.2.2⟩⟩⟩⟩⟩)), HB.out⟩)
                     ·skip
                      have hcv54 := own_string (P := Try.prog) Try.underlying32 Try.underlying5 Try.underlying9 (Kd.own_of_R HO138.out)
                      refine value_ (w1 := ?_) (v := ?_) (by rfl) rfl ?_ ?_
                      rotate_left 2
                      ·go_simp
                       constructor
                       ·rfl
                       ·rfl
                      clear hcv54
                      refine hK.out _ _ trivial (fun hHeld => ?_)
                      clear hK K
                      refine norm_ (a' := ?_) ?_ ?_
                      rotate_left
                      ·show Act.put _ (some 64) _ = _
                       simp only [Act.put, LSET9_]
                       rfl
                      exact norm_ (by simp only [putAll, Act.put, PSET] <;> rfl) (hJ2_3_4_5 (v137, v140) _ ⟨HO119.out, HO122.out, HO127.out, HO130.out, HO138.out, HO141.out, HB.out⟩)
                   ·skip
                    rintro ⟨v137, v140⟩ w53 ⟨h0_, h1_, h2_, h3_, h4_, h5_, h6_⟩
                    have n0_ : Aside0 (RU w w53 (fun k_ => nq k_ v121 ∧ nq k_ v126 ∧ nq k_ v129 ∧ nq k_ v137 ∧ nq k_ v140) v118 y117) := ⟨h0_⟩
                    have n1_ : Aside0 (RU w w53 (fun k_ => nq k_ v118 ∧ nq k_ v126 ∧ nq k_ v129 ∧ nq k_ v137 ∧ nq k_ v140) v121 y120) := ⟨h1_⟩
                    have n2_ : Aside0 (RU w w53 (fun k_ => nq k_ v118 ∧ nq k_ v121 ∧ nq k_ v129 ∧ nq k_ v137 ∧ nq k_ v140) v126 y125) := ⟨h2_⟩
                    have n3_ : Aside0 (RU w w53 (fun k_ => nq k_ v118 ∧ nq k_ v121 ∧ nq k_ v126 ∧ nq k_ v137 ∧ nq k_ v140) v129 y128) := ⟨h3_⟩
                    have n4_ : Aside0 (RU w w53 (fun k_ => nq k_ v118 ∧ nq k_ v121 ∧ nq k_ v126 ∧ nq k_ v129 ∧ nq k_ v140) v137 y136) := ⟨h4_⟩
                    have n5_ : Aside0 (RU w w53 (fun k_ => nq k_ v118 ∧ nq k_ v121 ∧ nq k_ v126 ∧ nq k_ v129 ∧ nq k_ v137) v140 y139) := ⟨h5_⟩
                    have n6_ : Aside0 (Below w.heap.size w w53) := ⟨h6_⟩
                    clear HO119
                    clear HO122
                    clear HO127
                    clear HO130
                    clear HB
                    clear h0_ h1_ h2_ h3_ h4_ h5_ h6_
                    have HO119 := n0_
                    have HO122 := n1_
                    have HO127 := n2_
                    have HO130 := n3_
                    have HO138 := n4_
                    have HO141 := n5_
                    have HB := n6_
                    clear n0_ n1_ n2_ n3_ n4_ n5_ n6_
                    have hHeld := trivial
                    refine norm_ (a' := ?_) ?_ ?_
                    rotate_left
                    ·simp only [putAll, Act.put, PSET]
                     rfl
                    refine two_ (i := 0) (j := 5) (Ni := some 61) (Nj := some 66) #[true, false, true, true, true, false, false, false, false, false, false, false] #[false, false, true, true, true, true, false, false, false, false, false, false] rfl rfl rfl rfl (two_of HT_.out (by kernel_rfl)) (by decide) (by decide) (fun K hK => ?_) (fun K hK => ?_)
                    ·skip
                     refine Kd.R_make_step (Kd.int .u8) _ 5 (by rfl) (N := 61) rfl 32 _ _ rfl 32 rfl rfl Try.underlying32 (.int .u8 0) 1 info5 rfl (by decide) (by omega) 0 (ok := fun _ => True) (okp := fun _ => True) rfl (fun _ hk => hk) trivial (by omega) (by omega) (Below.refl _ _) (Nat.le_refl _) ?_
                     intro v134 w54 ho55 hb hg_ hnew_
                     clear hg_ hnew_
                     (first | rw [← Ny133.out] at ho55 | (simp only [Int.reduceToNat] at ho55; rw [← Ny133.out] at ho55))
                     have n0_ := Aside0.mk (Kd.R_elder' HO119.out (Kd.R_base ho55) hb)
                     have n1_ := Aside0.mk (Kd.R_elder' HO122.out (Kd.R_base ho55) hb)
                     have n2_ := Aside0.mk (Kd.R_elder' HO127.out (Kd.R_base ho55) hb)
                     have n3_ := Aside0.mk (Kd.R_elder' HO130.out (Kd.R_base ho55) hb)
                     have n4_ := Aside0.mk (Kd.R_elder' HO138.out (Kd.R_base ho55) hb)
                     have n5_ := Aside0.mk (Kd.R_elder' HO141.out (Kd.R_base ho55) hb)
                     have n6_ := Aside0.mk (Kd.R_lower (Kd.R_new' (Kd.R_new' (Kd.R_new' (Kd.R_new' (Kd.R_new' (Kd.R_new' ho55 (Kd.R_lt HO119.out)) (Kd.R_lt HO122.out)) (Kd.R_lt HO127.out)) (Kd.R_lt HO130.out)) (Kd.R_lt HO138.out)) (Kd.R_lt HO141.out)) (below_size HB.out))
                     have n7_ := Aside0.mk (below_step HB.out hb)
                     clear HO119
                     clear HO122
                     clear HO127
                     clear HO130
                     clear HO138
                     clear HO141
                     clear HB
                     have HO119 := n0_
                     have HO122 := n1_
                     have HO127 := n2_
                     have HO130 := n3_
                     have HO138 := n4_
                     have HO141 := n5_
                     have HO135 := n6_
                     have HB := n7_
                     clear n0_ n1_ n2_ n3_ n4_ n5_ n6_ n7_
                     clear hb ho55
                     refine hK.out _ _ trivial (fun hHeld => ?_)
                     clear hK K
                     refine norm_ (a' := ?_) ?_ ?_
                     rotate_left
                     ·show Act.put _ (some 61) _ = _
                      simp only [Act.put, LSET9_]
                      rfl
                     exact norm_ (by simp only [putAll, Act.put, PSET] <;> rfl) (hJ0_2_3_4 (v134, v137, v140) _ ⟨(Kd.R_mono HO119.out (fun _ hk => ⟨hk.1.1, ⟨hk.1.2.1, ⟨hk.1.2.2.1, ⟨hk.2, ⟨hk.1.2.2.2.1, hk.1.2.2.2.2⟩⟩⟩⟩⟩)), (Kd.R_mono HO122.out (fun _ hk => ⟨hk.1.1, ⟨hk.1.2.1, ⟨hk.1.2.2.1, ⟨hk.2, ⟨hk.1.2.2.2.1, hk.1.2.2.2.2⟩⟩⟩⟩⟩)), (Kd.R_mono HO127.out (fun _ hk => ⟨hk.1.1, ⟨hk.1.2.1, ⟨hk.1.2.2.1, ⟨hk.2, ⟨hk.1.2.2.2.1, hk.1.2.2.2.2⟩⟩⟩⟩⟩)), (Kd.R_mono HO130.out (fun _ hk => ⟨hk.1.1, ⟨hk.1.2.1, ⟨hk.1.2.2.1, ⟨hk.2, ⟨hk.1.2.2.2.1, hk.1.2.2.2.2⟩⟩⟩⟩⟩)), (Kd.R_mono HO135.out (fun _ hk => ⟨hk.1.1.1.1.1.2, ⟨hk.1.1.1.1.2, ⟨hk.1.1.1.2, ⟨hk.1.1.2, ⟨hk.1.2, hk.2⟩⟩⟩⟩⟩)), (Kd.R_mono HO138.out (fun _ hk => ⟨hk.1.1, ⟨hk.1.2.1, ⟨hk.1.2.2.1, ⟨hk.1.2.2.2.1, ⟨hk.2, hk.1.2.2.2.2⟩⟩⟩⟩⟩)), (Kd.R_mono HO141.out (fun _ hk => ⟨hk.1.1, ⟨hk.1.2.1, ⟨hk.1.2.2.1, ⟨hk.1.2.2.2.1, ⟨hk.2, hk.1.2.2.2.2⟩⟩⟩⟩⟩)), HB.out⟩)
                    ·skip
                     have hcv54 := own_string (P := Try.prog) Try.underlying32 Try.underlying5 Try.underlying9 (Kd.own_of_R HO141.out)
                     refine value_ (w1 := ?_) (v := ?_) (by rfl) rfl ?_ ?_
                     rotate_left 2
                     ·go_simp
                      constructor
                      ·rfl
                      ·rfl
                     clear hcv54
                     refine hK.out _ _ trivial (fun hHeld => ?_)
                     clear hK K
                     refine norm_ (a' := ?_) ?_ ?_
                     rotate_left
                     ·show Act.put _ (some 66) _ = _
                      simp only [Act.put, LSET9_]
                      rfl
                     exact norm_ (by simp only [putAll, Act.put, PSET] <;> rfl) (hJ2_3_4_5 (v137, v140) _ ⟨HO119.out, HO122.out, HO127.out, HO130.out, HO138.out, HO141.out, HB.out⟩)
                  ·skip
                   rintro ⟨v134, v140⟩ w53 ⟨h0_, h1_, h2_, h3_, h4_, h5_, h6_⟩
                   have n0_ : Aside0 (RU w w53 (fun k_ => nq k_ v121 ∧ nq k_ v126 ∧ nq k_ v129 ∧ nq k_ v134 ∧ nq k_ v140) v118 y117) := ⟨h0_⟩
                   have n1_ : Aside0 (RU w w53 (fun k_ => nq k_ v118 ∧ nq k_ v126 ∧ nq k_ v129 ∧ nq k_ v134 ∧ nq k_ v140) v121 y120) := ⟨h1_⟩
                   have n2_ : Aside0 (RU w w53 (fun k_ => nq k_ v118 ∧ nq k_ v121 ∧ nq k_ v129 ∧ nq k_ v134 ∧ nq k_ v140) v126 y125) := ⟨h2_⟩
                   have n3_ : Aside0 (RU w w53 (fun k_ => nq k_ v118 ∧ nq k_ v121 ∧ nq k_ v126 ∧ nq k_ v134 ∧ nq k_ v140) v129 y128) := ⟨h3_⟩
                   have n4_ : Aside0 (RU w w53 (fun k_ => nq k_ v118 ∧ nq k_ v121 ∧ nq k_ v126 ∧ nq k_ v129 ∧ nq k_ v140) v134 y133) := ⟨h4_⟩
                   have n5_ : Aside0 (RU w w53 (fun k_ => nq k_ v118 ∧ nq k_ v121 ∧ nq k_ v126 ∧ nq k_ v129 ∧ nq k_ v134) v140 y139) := ⟨h5_⟩
                   have n6_ : Aside0 (Below w.heap.size w w53) := ⟨h6_⟩
                   clear HO119
                   clear HO122
                   clear HO127
                   clear HO130
                   clear HB
                   clear h0_ h1_ h2_ h3_ h4_ h5_ h6_
                   have HO119 := n0_
                   have HO122 := n1_
                   have HO127 := n2_
                   have HO130 := n3_
                   have HO135 := n4_
                   have HO141 := n5_
                   have HB := n6_
                   clear n0_ n1_ n2_ n3_ n4_ n5_ n6_
                   have hHeld := trivial
                   refine norm_ (a' := ?_) ?_ ?_
                   rotate_left
                   ·simp only [putAll, Act.put, PSET]
                    rfl
                   refine two_ (i := 1) (j := 2) (Ni := some 62) (Nj := some 63) #[true, true, false, false, true, true, false, false, false, false, false, false] #[true, false, true, false, true, true, false, false, false, false, false, false] rfl rfl rfl rfl (two_of HT_.out (by kernel_rfl)) (by decide) (by decide) (fun K hK => ?_) (fun K hK => ?_)
                   ·skip
                    have hcv54 := own_string (P := Try.prog) Try.underlying32 Try.underlying5 Try.underlying9 (Kd.own_of_R HO135.out)
                    refine value_ (w1 := ?_) (v := ?_) (by rfl) rfl ?_ ?_
                    rotate_left 2
                    ·go_simp
                     constructor
                     ·rfl
                     ·rfl
                    clear hcv54
                    refine hK.out _ _ trivial (fun hHeld => ?_)
                    clear hK K
                    refine norm_ (a' := ?_) ?_ ?_
                    rotate_left
                    ·show Act.put _ (some 62) _ = _
                     simp only [Act.put, LSET9_]
                     rfl
                    exact norm_ (by simp only [putAll, Act.put, PSET] <;> rfl) (hJ0_1_4_5 (v134, v140) _ ⟨HO119.out, HO122.out, HO127.out, HO130.out, HO135.out, HO141.out, HB.out⟩)
                   ·skip
                    refine Kd.R_make_step (Kd.int .u8) _ 5 (by rfl) (N := 63) rfl 32 _ _ rfl 12 rfl rfl Try.underlying32 (.int .u8 0) 1 info5 rfl (by decide) (by omega) 0 (ok := fun _ => True) (okp := fun _ => True) rfl (fun _ hk => hk) trivial (by omega) (by omega) (Below.refl _ _) (Nat.le_refl _) ?_
                    intro v137 w54 ho55 hb hg_ hnew_
                    clear hg_ hnew_
                    (first | rw [← Ny136.out] at ho55 | (simp only [Int.reduceToNat] at ho55; rw [← Ny136.out] at ho55))
                    have n0_ := Aside0.mk (Kd.R_elder' HO119.out (Kd.R_base ho55) hb)
                    have n1_ := Aside0.mk (Kd.R_elder' HO122.out (Kd.R_base ho55) hb)
                    have n2_ := Aside0.mk (Kd.R_elder' HO127.out (Kd.R_base ho55) hb)
                    have n3_ := Aside0.mk (Kd.R_elder' HO130.out (Kd.R_base ho55) hb)
                    have n4_ := Aside0.mk (Kd.R_elder' HO135.out (Kd.R_base ho55) hb)
                    have n5_ := Aside0.mk (Kd.R_elder' HO141.out (Kd.R_base ho55) hb)
                    have n6_ := Aside0.mk (Kd.R_lower (Kd.R_new' (Kd.R_new' (Kd.R_new' (Kd.R_new' (Kd.R_new' (Kd.R_new' ho55 (Kd.R_lt HO119.out)) (Kd.R_lt HO122.out)) (Kd.R_lt HO127.out)) (Kd.R_lt HO130.out)) (Kd.R_lt HO135.out)) (Kd.R_lt HO141.out)) (below_size HB.out))
                    have n7_ := Aside0.mk (below_step HB.out hb)
                    clear HO119
                    clear HO122
                    clear HO127
                    clear HO130
                    clear HO135
                    clear HO141
                    clear HB
                    have HO119 := n0_
                    have HO122 := n1_
                    have HO127 := n2_
                    have HO130 := n3_
                    have HO135 := n4_
                    have HO141 := n5_
                    have HO138 := n6_
                    have HB := n7_
                    clear n0_ n1_ n2_ n3_ n4_ n5_ n6_ n7_
                    clear hb ho55
                    refine hK.out _ _ trivial (fun hHeld => ?_)
                    clear hK K
                    refine norm_ (a' := ?_) ?_ ?_
                    rotate_left
                    ·show Act.put _ (some 63) _ = _
                     simp only [Act.put, LSET9_]
                     rfl
                    exact norm_ (by simp only [putAll, Act.put, PSET] <;> rfl) (hJ0_2_4_5 (v134, v137, v140) _ ⟨(Kd.R_mono HO119.out (fun _ hk => ⟨hk.1.1, ⟨hk.1.2.1, ⟨hk.1.2.2.1, ⟨hk.1.2.2.2.1, ⟨hk.2, hk.1.2.2.2.2⟩⟩⟩⟩⟩)), (Kd.R_mono HO122.out (fun _ hk => ⟨hk.1.1, ⟨hk.1.2.1, ⟨hk.1.2.2.1, ⟨hk.1.2.2.2.1, ⟨hk.2, hk.1.2.2.2.2⟩⟩⟩⟩⟩)), (Kd.R_mono HO127.out (fun _ hk => ⟨hk.1.1, ⟨hk.1.2.1, ⟨hk.1.2.2.1, ⟨hk.1.2.2.2.1, ⟨hk.2, hk.1.2.2.2.2⟩⟩⟩⟩⟩)), (Kd.R_mono HO130.out (fun _ hk => ⟨hk.1.1, ⟨hk.1.2.1, ⟨hk.1.2.2.1, ⟨hk.1.2.2.2.1, ⟨hk.2, hk.1.2.2.2.2⟩⟩⟩⟩⟩)), (Kd.R_mono HO135.out (fun _ hk => ⟨hk.1.1, ⟨hk.1.2.1, ⟨hk.1.2.2.1, ⟨hk.1.2.2.2.1, ⟨hk.2, hk.1.2.2.2.2⟩⟩⟩⟩⟩)), (Kd.R_mono HO138.out (fun _ hk => ⟨hk.1.1.1.1.1.2, ⟨hk.1.1.1.1.2, ⟨hk.1.1.1.2, ⟨hk.1.1.2, ⟨hk.1.2, hk.2⟩⟩⟩⟩⟩)), (Kd.R_mono HO141.out (fun _ hk => ⟨hk.1.1, ⟨hk.1.2.1, ⟨hk.1.2.2.1, ⟨hk.1.2.2.2.1, ⟨hk.1.2.2.2.2, hk.2⟩⟩⟩⟩⟩)), HB.out⟩)
                 ·skip
                  rintro ⟨v134, v137, v140⟩ w54 ⟨h0_, h1_, h2_, h3_, h4_, h5_, h6_, h7_⟩
                  have n0_ : Aside0 (RU w w54 (fun k_ => nq k_ v121 ∧ nq k_ v126 ∧ nq k_ v129 ∧ nq k_ v134 ∧ nq k_ v137 ∧ nq k_ v140) v118 y117) := ⟨h0_⟩
                  have n1_ : Aside0 (RU w w54 (fun k_ => nq k_ v118 ∧ nq k_ v126 ∧ nq k_ v129 ∧ nq k_ v134 ∧ nq k_ v137 ∧ nq k_ v140) v121 y120) := ⟨h1_⟩
                  have n2_ : Aside0 (RU w w54 (fun k_ => nq k_ v118 ∧ nq k_ v121 ∧ nq k_ v129 ∧ nq k_ v134 ∧ nq k_ v137 ∧ nq k_ v140) v126 y125) := ⟨h2_⟩
                  have n3_ : Aside0 (RU w w54 (fun k_ => nq k_ v118 ∧ nq k_ v121 ∧ nq k_ v126 ∧ nq k_ v134 ∧ nq k_ v137 ∧ nq k_ v140) v129 y128) := ⟨h3_⟩
                  have n4_ : Aside0 (RU w w54 (fun k_ => nq k_ v118 ∧ nq k_ v121 ∧ nq k_ v126 ∧ nq k_ v129 ∧ nq k_ v137 ∧ nq k_ v140) v134 y133) := ⟨h4_⟩
                  have n5_ : Aside0 (RU w w54 (fun k_ => nq k_ v118 ∧ nq k_ v121 ∧ nq k_ v126 ∧ nq k_ v129 ∧ nq k_ v134 ∧ nq k_ v140) v137 y136) := ⟨h5_⟩
                  have n6_ : Aside0 (RU w w54 (fun k_ => nq k_ v118 ∧ nq k_ v121 ∧ nq k_ v126 ∧ nq k_ v129 ∧ nq k_ v134 ∧ nq k_ v137) v140 y139) := ⟨h6_⟩
                  have n7_ : Aside0 (Below w.heap.size w w54) := ⟨h7_⟩
                  clear HO119
                  clear HO122
                  clear HO127
                  clear HO130
                  clear HB
                  clear h0_ h1_ h2_ h3_ h4_ h5_ h6_ h7_
                  have HO119 := n0_
                  have HO122 := n1_
                  have HO127 := n2_
                  have HO130 := n3_
                  have HO135 := n4_
                  have HO138 := n5_
                  have HO141 := n6_
                  have HB := n7_
                  clear n0_ n1_ n2_ n3_ n4_ n5_ n6_ n7_
                  have hHeld := trivial
                  refine norm_ (a' := ?_) ?_ ?_
                  rotate_left
                  ·simp only [putAll, Act.put, PSET]
                   rfl
                  refine three_ (i := 1) (j := 3) (k := 5) (Ni := some 62) (Nj := some 64) (Nk := some 66) #[true, true, true, false, true, false, false, false, false, false, false, false] #[true, false, true, true, true, false, false, false, false, false, false, false] #[true, false, true, false, true, true, false, false, false, false, false, false] rfl rfl rfl rfl rfl rfl (three_of HT_.out (by kernel_rfl)) (by decide) (by decide) (by decide) (fun K hK => ?_) (fun K hK => ?_) (fun K hK => ?_)
                  ·skip
                   have hcv55 := own_string (P := Try.prog) Try.underlying32 Try.underlying5 Try.underlying9 (Kd.own_of_R HO135.out)
                   refine value_ (w1 := ?_) (v := ?_) (by rfl) rfl ?_ ?_
                   rotate_left 2
                   ·go_simp
                    constructor
                    ·rfl
                    ·rfl
                   clear hcv55
                   refine hK.out _ _ trivial (fun hHeld => ?_)
                   clear hK K
                   refine norm_ (a' := ?_) ?_ ?_
                   rotate_left
                   ·show Act.put _ (some 62) _ = _
                    simp only [Act.put, LSET9_]
                    rfl
                   exact norm_ (by simp only [putAll, Act.put, PSET] <;> rfl) (hJ0_1_2_4 (v134, v137, v140) _ ⟨HO119.out, HO122.out, HO127.out, HO130.out, HO135.out, HO138.out, HO141.out, HB.out⟩)
                  ·skip
                   have hcv55 := own_string (P := Try.prog) Try.underlying32 Try.underlying5 Try.underlying9 (Kd.own_of_R HO138.out)
                   refine value_ (w1 := ?_) (v := ?_) (by rfl) rfl ?_ ?_
                   rotate_left 2
                   ·go_simp
                    constructor
                    ·rfl
                    ·rfl
                   clear hcv55
                   refine hK.out _ _ trivial (fun hHeld => ?_)
                   clear hK K
                   refine norm_ (a' := ?_) ?_ ?_
                   rotate_left
                   ·show Act.put _ (some 64) _ = _
                    simp only [Act.put, LSET9_]
                    rfl
                   exact norm_ (by simp only [putAll, Act.put, PSET] <;> rfl) (hJ0_2_3_4 (v134, v137, v140) _ ⟨HO119.out, HO122.out, HO127.out, HO130.out, HO135.out, HO138.out, HO141.out, HB.out⟩)
                  ·skip
                   have hcv55 := own_string (P := Try.prog) Try.underlying32 Try.underlying5 Try.underlying9 (Kd.own_of_R HO141.out)
                   refine value_ (w1 := ?_) (v := ?_) (by rfl) rfl ?_ ?_
                   rotate_left 2
                   ·go_simp
                    constructor
                    ·rfl
                    ·rfl
                   clear hcv55
                   refine hK.out _ _ trivial (fun hHeld => ?_)
                   clear hK K
                   refine norm_ (a' := ?_) ?_ ?_
                   rotate_left
                   ·show Act.put _ (some 66) _ = _
                    simp only [Act.put, LSET9_]
                    rfl
                   exact norm_ (by simp only [putAll, Act.put, PSET] <;> rfl) (hJ0_2_4_5 (v134, v137, v140) _ ⟨HO119.out, HO122.out, HO127.out, HO130.out, HO135.out, HO138.out, HO141.out, HB.out⟩)
                ·skip
                 rintro ⟨v134, v137⟩ w53 ⟨h0_, h1_, h2_, h3_, h4_, h5_, h6_⟩
                 have n0_ : Aside0 (RU w w53 (fun k_ => nq k_ v121 ∧ nq k_ v126 ∧ nq k_ v129 ∧ nq k_ v134 ∧ nq k_ v137) v118 y117) := ⟨h0_⟩
                 have n1_ : Aside0 (RU w w53 (fun k_ => nq k_ v118 ∧ nq k_ v126 ∧ nq k_ v129 ∧ nq k_ v134 ∧ nq k_ v137) v121 y120) := ⟨h1_⟩
                 have n2_ : Aside0 (RU w w53 (fun k_ => nq k_ v118 ∧ nq k_ v121 ∧ nq k_ v129 ∧ nq k_ v134 ∧ nq k_ v137) v126 y125) := ⟨h2_⟩
                 have n3_ : Aside0 (RU w w53 (fun k_ => nq k_ v118 ∧ nq k_ v121 ∧ nq k_ v126 ∧ nq k_ v134 ∧ nq k_ v137) v129 y128) := ⟨h3_⟩
                 have n4_ : Aside0 (RU w w53 (fun k_ => nq k_ v118 ∧ nq k_ v121 ∧ nq k_ v126 ∧ nq k_ v129 ∧ nq k_ v137) v134 y133) := ⟨h4_⟩
                 have n5_ : Aside0 (RU w w53 (fun k_ => nq k_ v118 ∧ nq k_ v121 ∧ nq k_ v126 ∧ nq k_ v129 ∧ nq k_ v134) v137 y136) := ⟨h5_⟩
                 have n6_ : Aside0 (Below w.heap.size w w53) := ⟨h6_⟩
                 clear HO119
                 clear HO122
                 clear HO127
                 clear HO130
                 clear HB
                 clear h0_ h1_ h2_ h3_ h4_ h5_ h6_
                 have HO119 := n0_
                 have HO122 := n1_
                 have HO127 := n2_
                 have HO130 := n3_
                 have HO135 := n4_
                 have HO138 := n5_
                 have HB := n6_
                 clear n0_ n1_ n2_ n3_ n4_ n5_ n6_
                 have hHeld := trivial
                 refine norm_ (a' := ?_) ?_ ?_
                 rotate_left
                 ·simp only [putAll, Act.put, PSET]
                  rfl
                 refine two_ (i := 1) (j := 4) (Ni := some 62) (Nj := some 65) #[true, true, true, true, false, false, false, false, false, false, false, false] #[true, false, true, true, true, false, false, false, false, false, false, false] rfl rfl rfl rfl (two_of HT_.out (by kernel_rfl)) (by decide) (by decide) (fun K hK => ?_) (fun K hK => ?_)
                 ·skip
                  have hcv54 := own_string (P := Try.prog) Try.underlying32 Try.underlying5 Try.underlying9 (Kd.own_of_R HO135.out)
                  refine value_ (w1 := ?_) (v := ?_) (by rfl) rfl ?_ ?_
                  rotate_left 2
                  ·go_simp
                   constructor
                   ·rfl
                   ·rfl
                  clear hcv54
                  refine hK.out _ _ trivial (fun hHeld => ?_)
                  clear hK K
                  refine norm_ (a' := ?_) ?_ ?_
                  rotate_left
                  ·show Act.put _ (some 62) _ = _
                   simp only [Act.put, LSET9_]
                   rfl
                  exact norm_ (by simp only [putAll, Act.put, PSET] <;> rfl) (hJ0_1_2_3 (v134, v137) _ ⟨HO119.out, HO122.out, HO127.out, HO130.out, HO135.out, HO138.out, HB.out⟩)
                 ·skip
                  refine Kd.R_make_step (Kd.int .u8) _ 5 (by rfl) (N := 65) rfl 32 _ _ rfl 65537 rfl rfl Try.underlying32 (.int .u8 0) 1 info5 rfl (by decide) (by omega) 0 (ok := fun _ => True) (okp := fun _ => True) rfl (fun _ hk => hk) trivial (by omega) (by omega) (Below.refl _ _) (Nat.le_refl _) ?_
                  intro v140 w54 ho55 hb hg_ hnew_
                  clear hg_ hnew_
                  (first | rw [← Ny139.out] at ho55 | (simp only [Int.reduceToNat] at ho55; rw [← Ny139.out] at ho55))
                  have n0_ := Aside0.mk (Kd.R_elder' HO119.out (Kd.R_base ho55) hb)
                  have n1_ := Aside0.mk (Kd.R_elder' HO122.out (Kd.R_base ho55) hb)
                  have n2_ := Aside0.mk (Kd.R_elder' HO127.out (Kd.R_base ho55) hb)
                  have n3_ := Aside0.mk (Kd.R_elder' HO130.out (Kd.R_base ho55) hb)
                  have n4_ := Aside0.mk (Kd.R_elder' HO135.out (Kd.R_base ho55) hb)
                  have n5_ := Aside0.mk (Kd.R_elder' HO138.out (Kd.R_base ho55) hb)
                  have n6_ := Aside0.mk (Kd.R_lower (Kd.R_new' (Kd.R_new' (Kd.R_new' (Kd.R_new' (Kd.R_new' (Kd.R_new' ho55 (Kd.R_lt HO119.out)) (Kd.R_lt HO122.out)) (Kd.R_lt HO127.out)) (Kd.R_lt HO130.out)) (Kd.R_lt HO135.out)) (Kd.R_lt HO138.out)) (below_size HB.out))
                  have n7_ := Aside0.mk (below_step HB.out hb)
                  clear HO119
                  clear HO122
                  clear HO127
                  clear HO130
                  clear HO135
                  clear HO138
                  clear HB
                  have HO119 := n0_
                  have HO122 := n1_
                  have HO127 := n2_
                  have HO130 := n3_
                  have HO135 := n4_
                  have HO138 := n5_
                  have HO141 := n6_
                  have HB := n7_
                  clear n0_ n1_ n2_ n3_ n4_ n5_ n6_ n7_
                  clear hb ho55
                  refine hK.out _ _ trivial (fun hHeld => ?_)
                  clear hK K
                  refine norm_ (a' := ?_) ?_ ?_
                  rotate_left
                  ·show Act.put _ (some 65) _ = _
                   simp only [Act.put, LSET9_]
                   rfl
                  exact norm_ (by simp only [putAll, Act.put, PSET] <;> rfl) (hJ0_2_3_4 (v134, v137, v140) _ ⟨(Kd.R_mono HO119.out (fun _ hk => ⟨hk.1.1, ⟨hk.1.2.1, ⟨hk.1.2.2.1, ⟨hk.1.2.2.2.1, ⟨hk.1.2.2.2.2, hk.2⟩⟩⟩⟩⟩)), (Kd.R_mono HO122.out (fun _ hk => ⟨hk.1.1, ⟨hk.1.2.1, ⟨hk.1.2.2.1, ⟨hk.1.2.2.2.1, ⟨hk.1.2.2.2.2, hk.2⟩⟩⟩⟩⟩)), (Kd.R_mono HO127.out (fun _ hk => ⟨hk.1.1, ⟨hk.1.2.1, ⟨hk.1.2.2.1, ⟨hk.1.2.2.2.1, ⟨hk.1.2.2.2.2, hk.2⟩⟩⟩⟩⟩)), (Kd.R_mono HO130.out (fun _ hk => ⟨hk.1.1, ⟨hk.1.2.1, ⟨hk.1.2.2.1, ⟨hk.1.2.2.2.1, ⟨hk.1.2.2.2.2, hk.2⟩⟩⟩⟩⟩)), (Kd.R_mono HO135.out (fun _ hk => ⟨hk.1.1, ⟨hk.1.2.1, ⟨hk.1.2.2.1, ⟨hk.1.2.2.2.1, ⟨hk.1.2.2.2.2, hk.2⟩⟩⟩⟩⟩)), (Kd.R_mono HO138.out (fun _ hk => ⟨hk.1.1, ⟨hk.1.2.1, ⟨hk.1.2.2.1, ⟨hk.1.2.2.2.1, ⟨hk.1.2.2.2.2, hk.2⟩⟩⟩⟩⟩)), (Kd.R_mono HO141.out (fun _ hk => ⟨hk.1.1.1.1.1.2, ⟨hk.1.1.1.1.2, ⟨hk.1.1.1.2, ⟨hk.1.1.2, ⟨hk.1.2, hk.2⟩⟩⟩⟩⟩)), HB.out⟩)
               ·skip
                rintro ⟨v134, v140⟩ w53 ⟨h0_, h1_, h2_, h3_, h4_, h5_, h6_⟩
                have n0_ : Aside0 (RU w w53 (fun k_ => nq k_ v121 ∧ nq k_ v126 ∧ nq k_ v129 ∧ nq k_ v134 ∧ nq k_ v140) v118 y117) := ⟨h0_⟩
                have n1_ : Aside0 (RU w w53 (fun k_ => nq k_ v118 ∧ nq k_ v126 ∧ nq k_ v129 ∧ nq k_ v134 ∧ nq k_ v140) v121 y120) := ⟨h1_⟩
                have n2_ : Aside0 (RU w w53 (fun k_ => nq k_ v118 ∧ nq k_ v121 ∧ nq k_ v129 ∧ nq k_ v134 ∧ nq k_ v140) v126 y125) := ⟨h2_⟩
                have n3_ : Aside0 (RU w w53 (fun k_ => nq k_ v118 ∧ nq k_ v121 ∧ nq k_ v126 ∧ nq k_ v134 ∧ nq k_ v140) v129 y128) := ⟨h3_⟩
                have n4_ : Aside0 (RU w w53 (fun k_ => nq k_ v118 ∧ nq k_ v121 ∧ nq k_ v126 ∧ nq k_ v129 ∧ nq k_ v140) v134 y133) := ⟨h4_⟩
                have n5_ : Aside0 (RU w w53 (fun k_ => nq k_ v118 ∧ nq k_ v121 ∧ nq k_ v126 ∧ nq k_ v129 ∧ nq k_ v134) v140 y139) := ⟨h5_⟩
                have n6_ : Aside0 (Below w.heap.size w w53) := ⟨h6_⟩
                clear HO119
                clear HO122
                clear HO127
                clear HO130
                clear HB
                clear h0_ h1_ h2_ h3_ h4_ h5_ h6_
                have HO119 := n0_
                have HO122 := n1_
                have HO127 := n2_
                have HO130 := n3_
                have HO135 := n4_
                have HO141 := n5_
                have HB := n6_
                clear n0_ n1_ n2_ n3_ n4_ n5_ n6_
                have hHeld := trivial
                refine norm_ (a' := ?_) ?_ ?_
                rotate_left
                ·simp only [putAll, Act.put, PSET]
                 rfl
                refine two_ (i := 2) (j := 5) (Ni := some 63) (Nj := some 66) #[true, true, true, false, true, false, false, false, false, false, false, false] #[true, true, false, false, true, true, false, false, false, false, false, false] rfl rfl rfl rfl (two_of HT_.out (by kernel_rfl)) (by decide) (by decide) (fun K hK => ?_) (fun K hK => ?_)
                ·skip
                 refine Kd.R_make_step (Kd.int .u8) _ 5 (by rfl) (N := 63) rfl 32 _ _ rfl 12 rfl rfl Try.underlying32 (.int .u8 0) 1 info5 rfl (by decide) (by omega) 0 (ok := fun _ => True) (okp := fun _ => True) rfl (fun _ hk => hk) trivial (by omega) (by omega) (Below.refl _ _) (Nat.le_refl _) ?_
                 intro v137 w54 ho55 hb hg_ hnew_
                 clear hg_ hnew_
                 (first | rw [← Ny136.out] at ho55 | (simp only [Int.reduceToNat] at ho55; rw [← Ny136.out] at ho55))
                 have n0_ := Aside0.mk (Kd.R_elder' HO119.out (Kd.R_base ho55) hb)
                 have n1_ := Aside0.mk (Kd.R_elder' HO122.out (Kd.R_base ho55) hb)
                 have n2_ := Aside0.mk (Kd.R_elder' HO127.out (Kd.R_base ho55) hb)
                 have n3_ := Aside0.mk (Kd.R_elder' HO130.out (Kd.R_base ho55) hb)
                 have n4_ := Aside0.mk (Kd.R_elder' HO135.out (Kd.R_base ho55) hb)
                 have n5_ := Aside0.mk (Kd.R_elder' HO141.out (Kd.R_base ho55) hb)
                 have n6_ := Aside0.mk (Kd.R_lower (Kd.R_new' (Kd.R_new' (Kd.R_new' (Kd.R_new' (Kd.R_new' (Kd.R_new' ho55 (Kd.R_lt HO119.out)) (Kd.R_lt HO122.out)) (Kd.R_lt HO127.out)) (Kd.R_lt HO130.out)) (Kd.R_lt HO135.out)) (Kd.R_lt HO141.out)) (below_size HB.out))
                 have n7_ := Aside0.mk (below_step HB.out hb)
                 clear HO119
                 clear HO122
                 clear HO127
                 clear HO130
                 clear HO135
                 clear HO141
                 clear HB
                 have HO119 := n0_
                 have HO122 := n1_
                 have HO127 := n2_
                 have HO130 := n3_
                 have HO135 := n4_
                 have HO141 := n5_
                 have HO138 := n6_
                 have HB := n7_
                 clear n0_ n1_ n2_ n3_ n4_ n5_ n6_ n7_
                 clear hb ho55
                 refine hK.out _ _ trivial (fun hHeld => ?_)
                 clear hK K
                 refine norm_ (a' := ?_) ?_ ?_
                 rotate_left
                 ·show Act.put _ (some 63) _ = _
                  simp only [Act.put, LSET9_]
                  rfl
                 exact norm_ (by simp only [putAll, Act.put, PSET] <;> rfl) (hJ0_1_2_4 (v134, v137, v140) _ ⟨(Kd.R_mono HO119.out (fun _ hk => ⟨hk.1.1, ⟨hk.1.2.1, ⟨hk.1.2.2.1, ⟨hk.1.2.2.2.1, ⟨hk.2, hk.1.2.2.2.2⟩⟩⟩⟩⟩)), (Kd.R_mono HO122.out (fun _ hk => ⟨hk.1.1, ⟨hk.1.2.1, ⟨hk.1.2.2.1, ⟨hk.1.2.2.2.1, ⟨hk.2, hk.1.2.2.2.2⟩⟩⟩⟩⟩)), (Kd.R_mono HO127.out (fun _ hk => ⟨hk.1.1, ⟨hk.1.2.1, ⟨hk.1.2.2.1, ⟨hk.1.2.2.2.1, ⟨hk.2, hk.1.2.2.2.2⟩⟩⟩⟩⟩)), (Kd.R_mono HO130.out (fun _ hk => ⟨hk.1.1, ⟨hk.1.2.1, ⟨hk.1.2.2.1, ⟨hk.1.2.2.2.1, ⟨hk.2, hk.1.2.2.2.2⟩⟩⟩⟩⟩)), (Kd.R_mono HO135.out (fun _ hk => ⟨hk.1.1, ⟨hk.1.2.1, ⟨hk.1.2.2.1, ⟨hk.1.2.2.2.1, ⟨hk.2, hk.1.2.2.2.2⟩⟩⟩⟩⟩)), (Kd.R_mono HO138.out (fun _ hk => ⟨hk.1.1.1.1.1.2, ⟨hk.1.1.1.1.2, ⟨hk.1.1.1.2, ⟨hk.1.1.2, ⟨hk.1.2, hk.2⟩⟩⟩⟩⟩)), (Kd.R_mono HO141.out (fun _ hk => ⟨hk.1.1, ⟨hk.1.2.1, ⟨hk.1.2.2.1, ⟨hk.1.2.2.2.1, ⟨hk.1.2.2.2.2, hk.2⟩⟩⟩⟩⟩)), HB.out⟩)
                ·skip
                 have hcv54 := own_string (P := Try.prog) Try.underlying32 Try.underlying5 Try.underlying9 (Kd.own_of_R HO141.out)
                 refine value_ (w1 := ?_) (v := ?_) (by rfl) rfl ?_ ?_
                 rotate_left 2
                 ·go_simp
                  constructor
                  ·rfl
                  ·rfl
                 clear hcv54
                 refine hK.out _ _ trivial (fun hHeld => ?_)
                 clear hK K
                 refine norm_ (a' := ?_) ?_ ?_
                 rotate_left
                 ·show Act.put _ (some 66) _ = _
                  simp only [Act.put, LSET9_]
                  rfl
                 exact norm_ (by simp only [putAll, Act.put, PSET] <;> rfl) (hJ0_1_4_5 (v134, v140) _ ⟨HO119.out, HO122.out, HO127.out, HO130.out, HO135.out, HO141.out, HB.out⟩)
              ·skip
               rintro ⟨v134, v137⟩ w53 ⟨h0_, h1_, h2_, h3_, h4_, h5_, h6_⟩
               have n0_ : Aside0 (RU w w53 (fun k_ => nq k_ v121 ∧ nq k_ v126 ∧ nq k_ v129 ∧ nq k_ v134 ∧ nq k_ v137) v118 y117) := ⟨h0_⟩
               have n1_ : Aside0 (RU w w53 (fun k_ => nq k_ v118 ∧ nq k_ v126 ∧ nq k_ v129 ∧ nq k_ v134 ∧ nq k_ v137) v121 y120) := ⟨h1_⟩
               have n2_ : Aside0 (RU w w53 (fun k_ => nq k_ v118 ∧ nq k_ v121 ∧ nq k_ v129 ∧ nq k_ v134 ∧ nq k_ v137) v126 y125) := ⟨h2_⟩
               have n3_ : Aside0 (RU w w53 (fun k_ => nq k_ v118 ∧ nq k_ v121 ∧ nq k_ v126 ∧ nq k_ v134 ∧ nq k_ v137) v129 y128) := ⟨h3_⟩
               have n4_ : Aside0 (RU w w53 (fun k_ => nq k_ v118 ∧ nq k_ v121 ∧ nq k_ v126 ∧ nq k_ v129 ∧ nq k_ v137) v134 y133) := ⟨h4_⟩
               have n5_ : Aside0 (RU w w53 (fun k_ => nq k_ v118 ∧ nq k_ v121 ∧ nq k_ v126 ∧ nq k_ v129 ∧ nq k_ v134) v137 y136) := ⟨h5_⟩
               have n6_ : Aside0 (Below w.heap.size w w53) := ⟨h6_⟩
               clear HO119
               clear HO122
               clear HO127
               clear HO130
               clear HB
               clear h0_ h1_ h2_ h3_ h4_ h5_ h6_
               have HO119 := n0_
               have HO122 := n1_
               have HO127 := n2_
               have HO130 := n3_
               have HO135 := n4_
               have HO138 := n5_
               have HB := n6_
               clear n0_ n1_ n2_ n3_ n4_ n5_ n6_
               have hHeld := trivial
               refine norm_ (a' := ?_) ?_ ?_
               rotate_left
               ·simp only [putAll, Act.put, PSET]
                rfl
               refine two_ (i := 3) (j := 4) (Ni := some 64) (Nj := some 65) #[true, true, true, true, false, false, false, false, false, false, false, false] #[true, true, true, false, true, false, false, false, false, false, false, false] rfl rfl rfl rfl (two_of HT_.out (by kernel_rfl)) (by decide) (by decide) (fun K hK => ?_) (fun K hK => ?_)
               ·skip
                have hcv54 := own_string (P := Try.prog) Try.underlying32 Try.underlying5 Try.underlying9 (Kd.own_of_R HO138.out)
                refine value_ (w1 := ?_) (v := ?_) (by rfl) rfl ?_ ?_
                rotate_left 2
                ·go_simp
                 constructor
                 ·rfl
                 ·rfl
                clear hcv54
                refine hK.out _ _ trivial (fun hHeld => ?_)
                clear hK K
                refine norm_ (a' := ?_) ?_ ?_
                rotate_left
                ·show Act.put _ (some 64) _ = _
                 simp only [Act.put, LSET9_]
                 rfl
                exact norm_ (by simp only [putAll, Act.put, PSET] <;> rfl) (hJ0_1_2_3 (v134, v137) _ ⟨HO119.out, HO122.out, HO127.out, HO130.out, HO135.out, HO138.out, HB.out⟩)
               ·skip
                refine Kd.R_make_step (Kd.int .u8) _ 5 (by rfl) (N := 65) rfl 32 _ _ rfl 65537 rfl rfl Try.underlying32 (.int .u8 0) 1 info5 rfl (by decide) (by omega) 0 (ok := fun _ => True) (okp := fun _ => True) rfl (fun _ hk => hk) trivial (by omega) (by omega) (Below.refl _ _) (Nat.le_refl _) ?_
                intro v140 w54 ho55 hb hg_ hnew_
                clear hg_ hnew_
                (first | rw [← Ny139.out] at ho55 | (simp only [Int.reduceToNat] at ho55; rw [← Ny139.out] at ho55))
                have n0_ := Aside0.mk (Kd.R_elder' HO119.out (Kd.R_base ho55) hb)
                have n1_ := Aside0.mk (Kd.R_elder' HO122.out (Kd.R_base ho55) hb)
                have n2_ := Aside0.mk (Kd.R_elder' HO127.out (Kd.R_base ho55) hb)
                have n3_ := Aside0.mk (Kd.R_elder' HO130.out (Kd.R_base ho55) hb)
                have n4_ := Aside0.mk (Kd.R_elder' HO135.out (Kd.R_base ho55) hb)
                have n5_ := Aside0.mk (Kd.R_elder' HO138.out (Kd.R_base ho55) hb)
                have n6_ := Aside0.mk (Kd.R_lower (Kd.R_new' (Kd.R_new' (Kd.R_new' (Kd.R_new' (Kd.R_new' (Kd.R_new' ho55 (Kd.R_lt HO119.out)) (Kd.R_lt HO122.out)) (Kd.R_lt HO127.out)) (Kd.R_lt HO130.out)) (Kd.R_lt HO135.out)) (Kd.R_lt HO138.out)) (below_size HB.out))
                have n7_ := Aside0.mk (below_step HB.out hb)
                clear HO119
                clear HO122
                clear HO127
                clear HO130
                clear HO135
                clear HO138
                clear HB
                have HO119 := n0_
                have HO122 := n1_
                have HO127 := n2_
                have HO130 := n3_
                have HO135 := n4_
                have HO138 := n5_
                have HO141 := n6_
                have HB := n7_
                clear n0_ n1_ n2_ n3_ n4_ n5_ n6_ n7_
                clear hb ho55
                refine hK.out _ _ trivial (fun hHeld => ?_)
                clear hK K
                refine norm_ (a' := ?_) ?_ ?_
                rotate_left
                ·show Act.put _ (some 65) _ = _
                 simp only [Act.put, LSET9_]
                 rfl
                exact norm_ (by simp only [putAll, Act.put, PSET] <;> rfl) (hJ0_1_2_4 (v134, v137, v140) _ ⟨(Kd.R_mono HO119.out (fun _ hk => ⟨hk.1.1, ⟨hk.1.2.1, ⟨hk.1.2.2.1, ⟨hk.1.2.2.2.1, ⟨hk.1.2.2.2.2, hk.2⟩⟩⟩⟩⟩)), (Kd.R_mono HO122.out (fun _ hk => ⟨hk.1.1, ⟨hk.1.2.1, ⟨hk.1.2.2.1, ⟨hk.1.2.2.2.1, ⟨hk.1.2.2.2.2, hk.2⟩⟩⟩⟩⟩)), (Kd.R_mono HO127.out (fun _ hk => ⟨hk.1.1, ⟨hk.1.2.1, ⟨hk.1.2.2.1, ⟨hk.1.2.2.2.1, ⟨hk.1.2.2.2.2, hk.2⟩⟩⟩⟩⟩)), (Kd.R_mono HO130.out (fun _ hk => ⟨hk.1.1, ⟨hk.1.2.1, ⟨hk.1.2.2.1, ⟨hk.1.2.2.2.1, ⟨hk.1.2.2.2.2, hk.2⟩⟩⟩⟩⟩)), (Kd.R_mono HO135.out (fun _ hk => ⟨hk.1.1, ⟨hk.1.2.1, ⟨hk.1.2.2.1, ⟨hk.1.2.2.2.1, ⟨hk.1.2.2.2.2, hk.2⟩⟩⟩⟩⟩)), (Kd.R_mono HO138.out (fun _ hk => ⟨hk.1.1, ⟨hk.1.2.1, ⟨hk.1.2.2.1, ⟨hk.1.2.2.2.1, ⟨hk.1.2.2.2.2, hk.2⟩⟩⟩⟩⟩)), (Kd.R_mono HO141.out (fun _ hk => ⟨hk.1.1.1.1.1.2, ⟨hk.1.1.1.1.2, ⟨hk.1.1.1.2, ⟨hk.1.1.2, ⟨hk.1.2, hk.2⟩⟩⟩⟩⟩)), HB.out⟩)
             ·skip
              rintro ⟨v137, v140⟩ w54 ⟨h0_, h1_, h2_, h3_, h4_, h5_, h6_⟩
              have n0_ : Aside0 (RU w w54 (fun k_ => nq k_ v121 ∧ nq k_ v126 ∧ nq k_ v129 ∧ nq k_ v137 ∧ nq k_ v140) v118 y117) := ⟨h0_⟩
              have n1_ : Aside0 (RU w w54 (fun k_ => nq k_ v118 ∧ nq k_ v126 ∧ nq k_ v129 ∧ nq k_ v137 ∧ nq k_ v140) v121 y120) := ⟨h1_⟩
              have n2_ : Aside0 (RU w w54 (fun k_ => nq k_ v118 ∧ nq k_ v121 ∧ nq k_ v129 ∧ nq k_ v137 ∧ nq k_ v140) v126 y125) := ⟨h2_⟩
              have n3_ : Aside0 (RU w w54 (fun k_ => nq k_ v118 ∧ nq k_ v121 ∧ nq k_ v126 ∧ nq k_ v137 ∧ nq k_ v140) v129 y128) := ⟨h3_⟩
              have n4_ : Aside0 (RU w w54 (fun k_ => nq k_ v118 ∧ nq k_ v121 ∧ nq k_ v126 ∧ nq k_ v129 ∧ nq k_ v140) v137 y136) := ⟨h4_⟩
              have n5_ : Aside0 (RU w w54 (fun k_ => nq k_ v118 ∧ nq k_ v121 ∧ nq k_ v126 ∧ nq k_ v129 ∧ nq k_ v137) v140 y139) := ⟨h5_⟩
              have n6_ : Aside0 (Below w.heap.size w w54) := ⟨h6_⟩
              clear HO119
              clear HO122
              clear HO127
              clear HO130
              clear HB
              clear h0_ h1_ h2_ h3_ h4_ h5_ h6_
              have HO119 := n0_
              have HO122 := n1_
              have HO127 := n2_
              have HO130 := n3_
              have HO138 := n4_
              have HO141 := n5_
              have HB := n6_
              clear n0_ n1_ n2_ n3_ n4_ n5_ n6_
              have hHeld := trivial
              refine norm_ (a' := ?_) ?_ ?_
              rotate_left
              ·simp only [putAll, Act.put, PSET]
               rfl
              refine one_ (i := 0) (N := some 61) #[true, false, true, true, true, true, false, false, false, false, false, false] rfl rfl (one_of HT_.out (by kernel_rfl)) (by decide) (fun K hK => ?_)
              refine Kd.R_make_step (Kd.int .u8) _ 5 (by rfl) (N := 61) rfl 32 _ _ rfl 32 rfl rfl Try.underlying32 (.int .u8 0) 1 info5 rfl (by decide) (by omega) 0 (ok := fun _ => True) (okp := fun _ => True) rfl (fun _ hk => hk) trivial (by omega) (by omega) (Below.refl _ _) (Nat.le_refl _) ?_
              intro v134 w55 ho56 hb hg_ hnew_
              clear hg_ hnew_
              (first | rw [← Ny133.out] at ho56 | (simp only [Int.reduceToNat] at ho56; rw [← Ny133.out] at ho56))
              have n0_ := Aside0.mk (Kd.R_elder' HO119.out (Kd.R_base ho56) hb)
              have n1_ := Aside0.mk (Kd.R_elder' HO122.out (Kd.R_base ho56) hb)
              have n2_ := Aside0.mk (Kd.R_elder' HO127.out (Kd.R_base ho56) hb)
              have n3_ := Aside0.mk (Kd.R_elder' HO130.out (Kd.R_base ho56) hb)
              have n4_ := Aside0.mk (Kd.R_elder' HO138.out (Kd.R_base ho56) hb)
              have n5_ := Aside0.mk (Kd.R_elder' HO141.out (Kd.R_base ho56) hb)
              have n6_ := Aside0.mk (Kd.R_lower (Kd.R_new' (Kd.R_new' (Kd.R_new' (Kd.R_new' (Kd.R_new' (Kd.R_new' ho56 (Kd.R_lt HO119.out)) (Kd.R_lt HO122.out)) (Kd.R_lt HO127.out)) (Kd.R_lt HO130.out)) (Kd.R_lt HO138.out)) (Kd.R_lt HO141.out)) (below_size HB.out))
              have n7_ := Aside0.mk (below_step HB.out hb)
              clear HO119
              clear HO122
              clear HO127
              clear HO130
              clear HO138
              clear HO141
              clear HB
              have HO119 := n0_
              have HO122 := n1_
              have HO127 := n2_
              have HO130 := n3_
              have HO138 := n4_
              have HO141 := n5_
              have HO135 := n6_
              have HB := n7_
              clear n0_ n1_ n2_ n3_ n4_ n5_ n6_ n7_
              clear hb ho56
              refine hK.out _ _ trivial (fun hHeld => ?_)
              clear hK K
              refine norm_ (a' := ?_) ?_ ?_
              rotate_left
              ·show Act.put _ (some 61) _ = _
               simp only [Act.put, LSET9_]
               rfl
              exact norm_ (by simp only [putAll, Act.put, PSET] <;> rfl) (hJ0_2_3_4_5 (v134, v137, v140) _ ⟨(Kd.R_mono HO119.out (fun _ hk => ⟨hk.1.1, ⟨hk.1.2.1, ⟨hk.1.2.2.1, ⟨hk.2, ⟨hk.1.2.2.2.1, hk.1.2.2.2.2⟩⟩⟩⟩⟩)), (Kd.R_mono HO122.out (fun _ hk => ⟨hk.1.1, ⟨hk.1.2.1, ⟨hk.1.2.2.1, ⟨hk.2, ⟨hk.1.2.2.2.1, hk.1.2.2.2.2⟩⟩⟩⟩⟩)), (Kd.R_mono HO127.out (fun _ hk => ⟨hk.1.1, ⟨hk.1.2.1, ⟨hk.1.2.2.1, ⟨hk.2, ⟨hk.1.2.2.2.1, hk.1.2.2.2.2⟩⟩⟩⟩⟩)), (Kd.R_mono HO130.out (fun _ hk => ⟨hk.1.1, ⟨hk.1.2.1, ⟨hk.1.2.2.1, ⟨hk.2, ⟨hk.1.2.2.2.1, hk.1.2.2.2.2⟩⟩⟩⟩⟩)), (Kd.R_mono HO135.out (fun _ hk => ⟨hk.1.1.1.1.1.2, ⟨hk.1.1.1.1.2, ⟨hk.1.1.1.2, ⟨hk.1.1.2, ⟨hk.1.2, hk.2⟩⟩⟩⟩⟩)), (Kd.R_mono HO138.out (fun _ hk => ⟨hk.1.1, ⟨hk.1.2.1, ⟨hk.1.2.2.1, ⟨hk.1.2.2.2.1, ⟨hk.2, hk.1.2.2.2.2⟩⟩⟩⟩⟩)), (Kd.R_mono HO141.out (fun _ hk => ⟨hk.1.1, ⟨hk.1.2.1, ⟨hk.1.2.2.1, ⟨hk.1.2.2.2.1, ⟨hk.2, hk.1.2.2.2.2⟩⟩⟩⟩⟩)), HB.out⟩)
            ·skip
             rintro ⟨v134, v137, v140⟩ w55 ⟨h0_, h1_, h2_, h3_, h4_, h5_, h6_, h7_⟩
             have n0_ : Aside0 (RU w w55 (fun k_ => nq k_ v121 ∧ nq k_ v126 ∧ nq k_ v129 ∧ nq k_ v134 ∧ nq k_ v137 ∧ nq k_ v140) v118 y117) := ⟨h0_⟩
             have n1_ : Aside0 (RU w w55 (fun k_ => nq k_ v118 ∧ nq k_ v126 ∧ nq k_ v129 ∧ nq k_ v134 ∧ nq k_ v137 ∧ nq k_ v140) v121 y120) := ⟨h1_⟩
             have n2_ : Aside0 (RU w w55 (fun k_ => nq k_ v118 ∧ nq k_ v121 ∧ nq k_ v129 ∧ nq k_ v134 ∧ nq k_ v137 ∧ nq k_ v140) v126 y125) := ⟨h2_⟩
             have n3_ : Aside0 (RU w w55 (fun k_ => nq k_ v118 ∧ nq k_ v121 ∧ nq k_ v126 ∧ nq k_ v134 ∧ nq k_ v137 ∧ nq k_ v140) v129 y128) := ⟨h3_⟩
             have n4_ : Aside0 (RU w w55 (fun k_ => nq k_ v118 ∧ nq k_ v121 ∧ nq k_ v126 ∧ nq k_ v129 ∧ nq k_ v137 ∧ nq k_ v140) v134 y133) := ⟨h4_⟩
             have n5_ : Aside0 (RU w w55 (fun k_ => nq k_ v118 ∧ nq k_ v121 ∧ nq k_ v126 ∧ nq k_ v129 ∧ nq k_ v134 ∧ nq k_ v140) v137 y136) := ⟨h5_⟩
             have n6_ : Aside0 (RU w w55 (fun k_ => nq k_ v118 ∧ nq k_ v121 ∧ nq k_ v126 ∧ nq k_ v129 ∧ nq k_ v134 ∧ nq k_ v137) v140 y139) := ⟨h6_⟩
             have n7_ : Aside0 (Below w.heap.size w w55) := ⟨h7_⟩
             clear HO119
             clear HO122
             clear HO127
             clear HO130
             clear HB
             clear h0_ h1_ h2_ h3_ h4_ h5_ h6_ h7_
             have HO119 := n0_
             have HO122 := n1_
             have HO127 := n2_
             have HO130 := n3_
             have HO135 := n4_
             have HO138 := n5_
             have HO141 := n6_
             have HB := n7_
             clear n0_ n1_ n2_ n3_ n4_ n5_ n6_ n7_
             have hHeld := trivial
             refine norm_ (a' := ?_) ?_ ?_
             rotate_left
             ·simp only [putAll, Act.put, PSET]
              rfl
             refine two_ (i := 1) (j := 3) (Ni := some 62) (Nj := some 64) #[true, true, true, false, true, true, false, false, false, false, false, false] #[true, false, true, true, true, true, false, false, false, false, false, false] rfl rfl rfl rfl (two_of HT_.out (by kernel_rfl)) (by decide) (by decide) (fun K hK => ?_) (fun K hK => ?_)
             ·skip
              have hcv56 := own_string (P := Try.prog) Try.underlying32 Try.underlying5 Try.underlying9 (Kd.own_of_R HO135.out)
              refine value_ (w1 := ?_) (v := ?_) (by rfl) rfl ?_ ?_
              rotate_left 2
              ·go_simp
               constructor
               ·rfl
               ·rfl
              clear hcv56
              refine hK.out _ _ trivial (fun hHeld => ?_)
              clear hK K
              refine norm_ (a' := ?_) ?_ ?_
              rotate_left
              ·show Act.put _ (some 62) _ = _
               simp only [Act.put, LSET9_]
               rfl
              exact norm_ (by simp only [putAll, Act.put, PSET] <;> rfl) (hJ0_1_2_4_5 (v134, v137, v140) _ ⟨HO119.out, HO122.out, HO127.out, HO130.out, HO135.out, HO138.out, HO141.out, HB.out⟩)
             ·skip
              have hcv56 := own_string (P := Try.prog) Try.underlying32 Try.underlying5 Try.underlying9 (Kd.own_of_R HO138.out)
              refine value_ (w1 := ?_) (v := ?_) (by rfl) rfl ?_ ?_
              rotate_left 2
              ·go_simp
               constructor
               ·rfl
               ·rfl
              clear hcv56
              refine hK.out _ _ trivial (fun hHeld => ?_)
              clear hK K
              refine norm_ (a' := ?_) ?_ ?_
              rotate_left
              ·show Act.put _ (some 64) _ = _
               simp only [Act.put, LSET9_]
               rfl
              exact norm_ (by simp only [putAll, Act.put, PSET] <;> rfl) (hJ0_2_3_4_5 (v134, v137, v140) _ ⟨HO119.out, HO122.out, HO127.out, HO130.out, HO135.out, HO138.out, HO141.out, HB.out⟩)
           ·skip
            rintro ⟨v134, v137, v140⟩ w55 ⟨h0_, h1_, h2_, h3_, h4_, h5_, h6_, h7_⟩
            have n0_ : Aside0 (RU w w55 (fun k_ => nq k_ v121 ∧ nq k_ v126 ∧ nq k_ v129 ∧ nq k_ v134 ∧ nq k_ v137 ∧ nq k_ v140) v118 y117) := ⟨h0_⟩
            have n1_ : Aside0 (RU w w55 (fun k_ => nq k_ v118 ∧ nq k_ v126 ∧ nq k_ v129 ∧ nq k_ v134 ∧ nq k_ v137 ∧ nq k_ v140) v121 y120) := ⟨h1_⟩
            have n2_ : Aside0 (RU w w55 (fun k_ => nq k_ v118 ∧ nq k_ v121 ∧ nq k_ v129 ∧ nq k_ v134 ∧ nq k_ v137 ∧ nq k_ v140) v126 y125) := ⟨h2_⟩
            have n3_ : Aside0 (RU w w55 (fun k_ => nq k_ v118 ∧ nq k_ v121 ∧ nq k_ v126 ∧ nq k_ v134 ∧ nq k_ v137 ∧ nq k_ v140) v129 y128) := ⟨h3_⟩
            have n4_ : Aside0 (RU w w55 (fun k_ => nq k_ v118 ∧ nq k_ v121 ∧ nq k_ v126 ∧ nq k_ v129 ∧ nq k_ v137 ∧ nq k_ v140) v134 y133) := ⟨h4_⟩
            have n5_ : Aside0 (RU w w55 (fun k_ => nq k_ v118 ∧ nq k_ v121 ∧ nq k_ v126 ∧ nq k_ v129 ∧ nq k_ v134 ∧ nq k_ v140) v137 y136) := ⟨h5_⟩
            have n6_ : Aside0 (RU w w55 (fun k_ => nq k_ v118 ∧ nq k_ v121 ∧ nq k_ v126 ∧ nq k_ v129 ∧ nq k_ v134 ∧ nq k_ v137) v140 y139) := ⟨h6_⟩
            have n7_ : Aside0 (Below w.heap.size w w55) := ⟨h7_⟩
            clear HO119
            clear HO122
            clear HO127
            clear HO130
            clear HB
            clear h0_ h1_ h2_ h3_ h4_ h5_ h6_ h7_
            have HO119 := n0_
            have HO122 := n1_
            have HO127 := n2_
            have HO130 := n3_
            have HO135 := n4_
            have HO138 := n5_
            have HO141 := n6_
            have HB := n7_
            clear n0_ n1_ n2_ n3_ n4_ n5_ n6_ n7_
            have hHeld := trivial
            refine norm_ (a' := ?_) ?_ ?_
            rotate_left
            ·simp only [putAll, Act.put, PSET]
             rfl
            refine two_ (i := 1) (j := 5) (Ni := some 62) (Nj := some 66) #[true, true, true, true, true, false, false, false, false, false, false, false] #[true, false, true, true, true, true, false, false, false, false, false, false] rfl rfl rfl rfl (two_of HT_.out (by kernel_rfl)) (by decide) (by decide) (fun K hK => ?_) (fun K hK => ?_)
            ·skip
             have hcv56 := own_string (P := Try.prog) Try.underlying32 Try.underlying5 Try.underlying9 (Kd.own_of_R HO135.out)
             refine value_ (w1 := ?_) (v := ?_) (by rfl) rfl ?_ ?_
             rotate_left 2
             ·go_simp
              constructor
              ·rfl
              ·rfl
             clear hcv56
             refine hK.out _ _ trivial (fun hHeld => ?_)
             clear hK K
             refine norm_ (a' := ?_) ?_ ?_
             rotate_left
             ·show Act.put _ (some 62) _ = _
              simp only [Act.put, LSET9_]
              rfl
             exact norm_ (by simp only [putAll, Act.put, PSET] <;> rfl) (hJ0_1_2_3_4 (v134, v137, v140) _ ⟨HO119.out, HO122.out, HO127.out, HO130.out, HO135.out, HO138.out, HO141.out, HB.out⟩)
            ·skip
             have hcv56 := own_string (P := Try.prog) Try.underlying32 Try.underlying5 Try.underlying9 (Kd.own_of_R HO141.out)
             refine value_ (w1 := ?_) (v := ?_) (by rfl) rfl ?_ ?_
             rotate_left 2
             ·go_simp
              constructor
              ·rfl
              ·rfl
             clear hcv56
             refine hK.out _ _ trivial (fun hHeld => ?_)
             clear hK K
             refine norm_ (a' := ?_) ?_ ?_
             rotate_left
             ·show Act.put _ (some 66) _ = _
              simp only [Act.put, LSET9_]
              rfl
             exact norm_ (by simp only [putAll, Act.put, PSET] <;> rfl) (hJ0_2_3_4_5 (v134, v137, v140) _ ⟨HO119.out, HO122.out, HO127.out, HO130.out, HO135.out, HO138.out, HO141.out, HB.out⟩)
          ·skip
           rintro ⟨v134, v140⟩ w54 ⟨h0_, h1_, h2_, h3_, h4_, h5_, h6_⟩
           have n0_ : Aside0 (RU w w54 (fun k_ => nq k_ v121 ∧ nq k_ v126 ∧ nq k_ v129 ∧ nq k_ v134 ∧ nq k_ v140) v118 y117) := ⟨h0_⟩
           have n1_ : Aside0 (RU w w54 (fun k_ => nq k_ v118 ∧ nq k_ v126 ∧ nq k_ v129 ∧ nq k_ v134 ∧ nq k_ v140) v121 y120) := ⟨h1_⟩
           have n2_ : Aside0 (RU w w54 (fun k_ => nq k_ v118 ∧ nq k_ v121 ∧ nq k_ v129 ∧ nq k_ v134 ∧ nq k_ v140) v126 y125) := ⟨h2_⟩
           have n3_ : Aside0 (RU w w54 (fun k_ => nq k_ v118 ∧ nq k_ v121 ∧ nq k_ v126 ∧ nq k_ v134 ∧ nq k_ v140) v129 y128) := ⟨h3_⟩
           have n4_ : Aside0 (RU w w54 (fun k_ => nq k_ v118 ∧ nq k_ v121 ∧ nq k_ v126 ∧ nq k_ v129 ∧ nq k_ v140) v134 y133) := ⟨h4_⟩
           have n5_ : Aside0 (RU w w54 (fun k_ => nq k_ v118 ∧ nq k_ v121 ∧ nq k_ v126 ∧ nq k_ v129 ∧ nq k_ v134) v140 y139) := ⟨h5_⟩
           have n6_ : Aside0 (Below w.heap.size w w54) := ⟨h6_⟩
           clear HO119
           clear HO122
           clear HO127
           clear HO130
           clear HB
           clear h0_ h1_ h2_ h3_ h4_ h5_ h6_
           have HO119 := n0_
           have HO122 := n1_
           have HO127 := n2_
           have HO130 := n3_
           have HO135 := n4_
           have HO141 := n5_
           have HB := n6_
           clear n0_ n1_ n2_ n3_ n4_ n5_ n6_
           have hHeld := trivial
           refine norm_ (a' := ?_) ?_ ?_
           rotate_left
           ·simp only [putAll, Act.put, PSET]
            rfl
           refine one_ (i := 2) (N := some 63) #[true, true, true, false, true, true, false, false, false, false, false, false] rfl rfl (one_of HT_.out (by kernel_rfl)) (by decide) (fun K hK => ?_)
           refine Kd.R_make_step (Kd.int .u8) _ 5 (by rfl) (N := 63) rfl 32 _ _ rfl 12 rfl rfl Try.underlying32 (.int .u8 0) 1 info5 rfl (by decide) (by omega) 0 (ok := fun _ => True) (okp := fun _ => True) rfl (fun _ hk => hk) trivial (by omega) (by omega) (Below.refl _ _) (Nat.le_refl _) ?_
           intro v137 w55 ho56 hb hg_ hnew_
           clear hg_ hnew_
           (first | rw [← Ny136.out] at ho56 | (simp only [Int.reduceToNat] at ho56; rw [← Ny136.out] at ho56))
           have n0_ := Aside0.mk (Kd.R_elder' HO119.out (Kd.R_base ho56) hb)
           have n1_ := Aside0.mk (Kd.R_elder' HO122.out (Kd.R_base ho56) hb)
           have n2_ := Aside0.mk (Kd.R_elder' HO127.out (Kd.R_base ho56) hb)
           have n3_ := Aside0.mk (Kd.R_elder' HO130.out (Kd.R_base ho56) hb)
           have n4_ := Aside0.mk (Kd.R_elder' HO135.out (Kd.R_base ho56) hb)
           have n5_ := Aside0.mk (Kd.R_elder' HO141.out (Kd.R_base ho56) hb)
           have n6_ := Aside0.mk (Kd.R_lower (Kd.R_new' (Kd.R_new' (Kd.R_new' (Kd.R_new' (Kd.R_new' (Kd.R_new' ho56 (Kd.R_lt HO119.out)) (Kd.R_lt HO122.out)) (Kd.R_lt HO127.out)) (Kd.R_lt HO130.out)) (Kd.R_lt HO135.out)) (Kd.R_lt HO141.out)) (below_size HB.out))
           have n7_ := Aside0.mk (below_step HB.out hb)
           clear HO119
           clear HO122
           clear HO127
           clear HO130
           clear HO135
           clear HO141
           clear HB
           have HO119 := n0_
           have HO122 := n1_
           have HO127 := n2_
           have HO130 := n3_
           have HO135 := n4_
           have HO141 := n5_
           have HO138 := n6_
           have HB := n7_
           clear n0_ n1_ n2_ n3_ n4_ n5_ n6_ n7_
           clear hb ho56
           refine hK.out _ _ trivial (fun hHeld => ?_)
           clear hK K
           refine norm_ (a' := ?_) ?_ ?_
           rotate_left
           ·show Act.put _ (some 63) _ = _
            simp only [Act.put, LSET9_]
            rfl
           exact norm_ (by simp only [putAll, Act.put, PSET] <;> rfl) (hJ0_1_2_4_5 (v134, v137, v140) _ ⟨(Kd.R_mono HO119.out (fun _ hk => ⟨hk.1.1, ⟨hk.1.2.1, ⟨hk.1.2.2.1, ⟨hk.1.2.2.2.1, ⟨hk.2, hk.1.2.2.2.2⟩⟩⟩⟩⟩)), (Kd.R_mono HO122.out (fun _ hk => ⟨hk.1.1, ⟨hk.1.2.1, ⟨hk.1.2.2.1, ⟨hk.1.2.2.2.1, ⟨hk.2, hk.1.2.2.2.2⟩⟩⟩⟩⟩)), (Kd.R_mono HO127.out (fun _ hk => ⟨hk.1.1, ⟨hk.1.2.1, ⟨hk.1.2.2.1, ⟨hk.1.2.2.2.1, ⟨hk.2, hk.1.2.2.2.2⟩⟩⟩⟩⟩)), (Kd.R_mono HO130.out (fun _ hk => ⟨hk.1.1, ⟨hk.1.2.1, ⟨hk.1.2.2.1, ⟨hk.1.2.2.2.1, ⟨hk.2, hk.1.2.2.2.2⟩⟩⟩⟩⟩)), (Kd.R_mono HO135.out (fun _ hk => ⟨hk.1.1, ⟨hk.1.2.1, ⟨hk.1.2.2.1, ⟨hk.1.2.2.2.1, ⟨hk.2, hk.1.2.2.2.2⟩⟩⟩⟩⟩)), (Kd.R_mono HO138.out (fun _ hk => ⟨hk.1.1.1.1.1.2, ⟨hk.1.1.1.1.2, ⟨hk.1.1.1.2, ⟨hk.1.1.2, ⟨hk.1.2, hk.2⟩⟩⟩⟩⟩)), (Kd.R_mono HO141.out (fun _ hk => ⟨hk.1.1, ⟨hk.1.2.1, ⟨hk.1.2.2.1, ⟨hk.1.2.2.2.1, ⟨hk.1.2.2.2.2, hk.2⟩⟩⟩⟩⟩)), HB.out⟩)
         ·skip
          rintro ⟨v134, v137, v140⟩ w55 ⟨h0_, h1_, h2_, h3_, h4_, h5_, h6_, h7_⟩
          have n0_ : Aside0 (RU w w55 (fun k_ => nq k_ v121 ∧ nq k_ v126 ∧ nq k_ v129 ∧ nq k_ v134 ∧ nq k_ v137 ∧ nq k_ v140) v118 y117) := ⟨h0_⟩
          have n1_ : Aside0 (RU w w55 (fun k_ => nq k_ v118 ∧ nq k_ v126 ∧ nq k_ v129 ∧ nq k_ v134 ∧ nq k_ v137 ∧ nq k_ v140) v121 y120) := ⟨h1_⟩
          have n2_ : Aside0 (RU w w55 (fun k_ => nq k_ v118 ∧ nq k_ v121 ∧ nq k_ v129 ∧ nq k_ v134 ∧ nq k_ v137 ∧ nq k_ v140) v126 y125) := ⟨h2_⟩
          have n3_ : Aside0 (RU w w55 (fun k_ => nq k_ v118 ∧ nq k_ v121 ∧ nq k_ v126 ∧ nq k_ v134 ∧ nq k_ v137 ∧ nq k_ v140) v129 y128) := ⟨h3_⟩
          have n4_ : Aside0 (RU w w55 (fun k_ => nq k_ v118 ∧ nq k_ v121 ∧ nq k_ v126 ∧ nq k_ v129 ∧ nq k_ v137 ∧ nq k_ v140) v134 y133) := ⟨h4_⟩
          have n5_ : Aside0 (RU w w55 (fun k_ => nq k_ v118 ∧ nq k_ v121 ∧ nq k_ v126 ∧ nq k_ v129 ∧ nq k_ v134 ∧ nq k_ v140) v137 y136) := ⟨h5_⟩
          have n6_ : Aside0 (RU w w55 (fun k_ => nq k_ v118 ∧ nq k_ v121 ∧ nq k_ v126 ∧ nq k_ v129 ∧ nq k_ v134 ∧ nq k_ v137) v140 y139) := ⟨h6_⟩
          have n7_ : Aside0 (Below w.heap.size w w55) := ⟨h7_⟩
          clear HO119
          clear HO122
          clear HO127
          clear HO130
          clear HB
          clear h0_ h1_ h2_ h3_ h4_ h5_ h6_ h7_
          have HO119 := n0_
          have HO122 := n1_
          have HO127 := n2_
          have HO130 := n3_
          have HO135 := n4_
          have HO138 := n5_
          have HO141 := n6_
          have HB := n7_
          clear n0_ n1_ n2_ n3_ n4_ n5_ n6_ n7_
          have hHeld := trivial
          refine norm_ (a' := ?_) ?_ ?_
          rotate_left
          ·simp only [putAll, Act.put, PSET]
           rfl
          refine two_ (i := 3) (j := 5) (Ni := some 64) (Nj := some 66) #[true, true, true, true, true, false, false, false, false, false, false, false] #[true, true, true, false, true, true, false, false, false, false, false, false] rfl rfl rfl rfl (two_of HT_.out (by kernel_rfl)) (by decide) (by decide) (fun K hK => ?_) (fun K hK => ?_)
          ·skip
           have hcv56 := own_string (P := Try.prog) Try.underlying32 Try.underlying5 Try.underlying9 (Kd.own_of_R HO138.out)
           refine value_ (w1 := ?_) (v := ?_) (by rfl) rfl ?_ ?_
           rotate_left 2
           ·go_simp
            constructor
            ·rfl
            ·rfl
           clear hcv56
           refine hK.out _ _ trivial (fun hHeld => ?_)
           clear hK K
           refine norm_ (a' := ?_) ?_ ?_
           rotate_left
           ·show Act.put _ (some 64) _ = _
            simp only [Act.put, LSET9_]
            rfl
           exact norm_ (by simp only [putAll, Act.put, PSET] <;> rfl) (hJ0_1_2_3_4 (v134, v137, v140) _ ⟨HO119.out, HO122.out, HO127.out, HO130.out, HO135.out, HO138.out, HO141.out, HB.out⟩)
          ·skip
           have hcv56 := own_string (P := Try.prog) Try.underlying32 Try.underlying5 Try.underlying9 (Kd.own_of_R HO141.out)
           refine value_ (w1 := ?_) (v := ?_) (by rfl) rfl ?_ ?_
           rotate_left 2
           ·go_simp
            constructor
            ·rfl
            ·rfl
           clear hcv56
           refine hK.out _ _ trivial (fun hHeld => ?_)
           clear hK K
           refine norm_ (a' := ?_) ?_ ?_
           rotate_left
           ·show Act.put _ (some 66) _ = _
            simp only [Act.put, LSET9_]
            rfl
           exact norm_ (by simp only [putAll, Act.put, PSET] <;> rfl) (hJ0_1_2_4_5 (v134, v137, v140) _ ⟨HO119.out, HO122.out, HO127.out, HO130.out, HO135.out, HO138.out, HO141.out, HB.out⟩)
        ·skip
         rintro ⟨v134, v137⟩ w54 ⟨h0_, h1_, h2_, h3_, h4_, h5_, h6_⟩
         have n0_ : Aside0 (RU w w54 (fun k_ => nq k_ v121 ∧ nq k_ v126 ∧ nq k_ v129 ∧ nq k_ v134 ∧ nq k_ v137) v118 y117) := ⟨h0_⟩
         have n1_ : Aside0 (RU w w54 (fun k_ => nq k_ v118 ∧ nq k_ v126 ∧ nq k_ v129 ∧ nq k_ v134 ∧ nq k_ v137) v121 y120) := ⟨h1_⟩
         have n2_ : Aside0 (RU w w54 (fun k_ => nq k_ v118 ∧ nq k_ v121 ∧ nq k_ v129 ∧ nq k_ v134 ∧ nq k_ v137) v126 y125) := ⟨h2_⟩
         have n3_ : Aside0 (RU w w54 (fun k_ => nq k_ v118 ∧ nq k_ v121 ∧ nq k_ v126 ∧ nq k_ v134 ∧ nq k_ v137) v129 y128) := ⟨h3_⟩
         have n4_ : Aside0 (RU w w54 (fun k_ => nq k_ v118 ∧ nq k_ v121 ∧ nq k_ v126 ∧ nq k_ v129 ∧ nq k_ v137) v134 y133) := ⟨h4_⟩
         have n5_ : Aside0 (RU w w54 (fun k_ => nq k_ v118 ∧ nq k_ v121 ∧ nq k_ v126 ∧ nq k_ v129 ∧ nq k_ v134) v137 y136) := ⟨h5_⟩
         have n6_ : Aside0 (Below w.heap.size w w54) := ⟨h6_⟩
         clear HO119
         clear HO122
         clear HO127
         clear HO130
         clear HB
         clear h0_ h1_ h2_ h3_ h4_ h5_ h6_
         have HO119 := n0_
         have HO122 := n1_
         have HO127 := n2_
         have HO130 := n3_
         have HO135 := n4_
         have HO138 := n5_
         have HB := n6_
         clear n0_ n1_ n2_ n3_ n4_ n5_ n6_
         have hHeld := trivial
         refine norm_ (a' := ?_) ?_ ?_
         rotate_left
         ·simp only [putAll, Act.put, PSET]
          rfl
         refine one_ (i := 4) (N := some 65) #[true, true, true, true, true, false, false, false, false, false, false, false] rfl rfl (one_of HT_.out (by kernel_rfl)) (by decide) (fun K hK => ?_)
         refine Kd.R_make_step (Kd.int .u8) _ 5 (by rfl) (N := 65) rfl 32 _ _ rfl 65537 rfl rfl Try.underlying32 (.int .u8 0) 1 info5 rfl (by decide) (by omega) 0 (ok := fun _ => True) (okp := fun _ => True) rfl (fun _ hk => hk) trivial (by omega) (by omega) (Below.refl _ _) (Nat.le_refl _) ?_
         intro v140 w55 ho56 hb hg_ hnew_
         clear hg_ hnew_
         (first | rw [← Ny139.out] at ho56 | (simp only [Int.reduceToNat] at ho56; rw [← Ny139.out] at ho56))
         have n0_ := Aside0.mk (Kd.R_elder' HO119.out (Kd.R_base ho56) hb)
         have n1_ := Aside0.mk (Kd.R_elder' HO122.out (Kd.R_base ho56) hb)
         have n2_ := Aside0.mk (Kd.R_elder' HO127.out (Kd.R_base ho56) hb)
         have n3_ := Aside0.mk (Kd.R_elder' HO130.out (Kd.R_base ho56) hb)
         have n4_ := Aside0.mk (Kd.R_elder' HO135.out (Kd.R_base ho56) hb)
         have n5_ := Aside0.mk (Kd.R_elder' HO138.out (Kd.R_base ho56) hb)
         have n6_ := Aside0.mk (Kd.R_lower (Kd.R_new' (Kd.R_new' (Kd.R_new' (Kd.R_new' (Kd.R_new' (Kd.R_new' ho56 (Kd.R_lt HO119.out)) (Kd.R_lt HO122.out)) (Kd.R_lt HO127.out)) (Kd.R_lt HO130.out)) (Kd.R_lt HO135.out)) (Kd.R_lt HO138.out)) (below_size HB.out))
         have n7_ := Aside0.mk (below_step HB.out hb)
         clear HO119
         clear HO122
         clear HO127
         clear HO130
         clear HO135
         clear HO138
         clear HB
         have HO119 := n0_
         have HO122 := n1_
         have HO127 := n2_
         have HO130 := n3_
         have HO135 := n4_
         have HO138 := n5_
         have HO141 := n6_
         have HB := n7_
         clear n0_ n1_ n2_ n3_ n4_ n5_ n6_ n7_
         clear hb ho56
         refine hK.out _ _ trivial (fun hHeld => ?_)
         clear hK K
         refine norm_ (a' := ?_) ?_ ?_
         rotate_left
         ·show Act.put _ (some 65) _ = _
          simp only [Act.put, LSET9_]
          rfl
         exact norm_ (by simp only [putAll, Act.put, PSET] <;> rfl) (hJ0_1_2_3_4 (v134, v137, v140) _ ⟨(Kd.R_mono HO119.out (fun _ hk => ⟨hk.1.1, ⟨hk.1.2.1, ⟨hk.1.2.2.1, ⟨hk.1.2.2.2.1, ⟨hk.1.2.2.2.2, hk.2⟩⟩⟩⟩⟩)), (Kd.R_mono HO122.out (fun _ hk => ⟨hk.1.1, ⟨hk.1.2.1, ⟨hk.1.2.2.1, ⟨hk.1.2.2.2.1, ⟨hk.1.2.2.2.2, hk.2⟩⟩⟩⟩⟩)), (Kd.R_mono HO127.out (fun _ hk => ⟨hk.1.1, ⟨hk.1.2.1, ⟨hk.1.2.2.1, ⟨hk.1.2.2.2.1, ⟨hk.1.2.2.2.2, hk.2⟩⟩⟩⟩⟩)), (Kd.R_mono HO130.out (fun _ hk => ⟨hk.1.1, ⟨hk.1.2.1, ⟨hk.1.2.2.1, ⟨hk.1.2.2.2.1, ⟨hk.1.2.2.2.2, hk.2⟩⟩⟩⟩⟩)), (Kd.R_mono HO135.out (fun _ hk => ⟨hk.1.1, ⟨hk.1.2.1, ⟨hk.1.2.2.1, ⟨hk.1.2.2.2.1, ⟨hk.1.2.2.2.2, hk.2⟩⟩⟩⟩⟩)), (Kd.R_mono HO138.out (fun _ hk => ⟨hk.1.1, ⟨hk.1.2.1, ⟨hk.1.2.2.1, ⟨hk.1.2.2.2.1, ⟨hk.1.2.2.2.2, hk.2⟩⟩⟩⟩⟩)), (Kd.R_mono HO141.out (fun _ hk => ⟨hk.1.1.1.1.1.2, ⟨hk.1.1.1.1.2, ⟨hk.1.1.1.2, ⟨hk.1.1.2, ⟨hk.1.2, hk.2⟩⟩⟩⟩⟩)), HB.out⟩)
       ·skip
        rintro ⟨v134, v137, v140⟩ w56 ⟨h0_, h1_, h2_, h3_, h4_, h5_, h6_, h7_⟩
        have n0_ : Aside0 (RU w w56 (fun k_ => nq k_ v121 ∧ nq k_ v126 ∧ nq k_ v129 ∧ nq k_ v134 ∧ nq k_ v137 ∧ nq k_ v140) v118 y117) := ⟨h0_⟩
        have n1_ : Aside0 (RU w w56 (fun k_ => nq k_ v118 ∧ nq k_ v126 ∧ nq k_ v129 ∧ nq k_ v134 ∧ nq k_ v137 ∧ nq k_ v140) v121 y120) := ⟨h1_⟩
        have n2_ : Aside0 (RU w w56 (fun k_ => nq k_ v118 ∧ nq k_ v121 ∧ nq k_ v129 ∧ nq k_ v134 ∧ nq k_ v137 ∧ nq k_ v140) v126 y125) := ⟨h2_⟩
        have n3_ : Aside0 (RU w w56 (fun k_ => nq k_ v118 ∧ nq k_ v121 ∧ nq k_ v126 ∧ nq k_ v134 ∧ nq k_ v137 ∧ nq k_ v140) v129 y128) := ⟨h3_⟩
        have n4_ : Aside0 (RU w w56 (fun k_ => nq k_ v118 ∧ nq k_ v121 ∧ nq k_ v126 ∧ nq k_ v129 ∧ nq k_ v137 ∧ nq k_ v140) v134 y133) := ⟨h4_⟩
        have n5_ : Aside0 (RU w w56 (fun k_ => nq k_ v118 ∧ nq k_ v121 ∧ nq k_ v126 ∧ nq k_ v129 ∧ nq k_ v134 ∧ nq k_ v140) v137 y136) := ⟨h5_⟩
        have n6_ : Aside0 (RU w w56 (fun k_ => nq k_ v118 ∧ nq k_ v121 ∧ nq k_ v126 ∧ nq k_ v129 ∧ nq k_ v134 ∧ nq k_ v137) v140 y139) := ⟨h6_⟩
        have n7_ : Aside0 (Below w.heap.size w w56) := ⟨h7_⟩
        clear HO119
        clear HO122
        clear HO127
        clear HO130
        clear HB
        clear h0_ h1_ h2_ h3_ h4_ h5_ h6_ h7_
        have HO119 := n0_
        have HO122 := n1_
        have HO127 := n2_
        have HO130 := n3_
        have HO135 := n4_
        have HO138 := n5_
        have HO141 := n6_
        have HB := n7_
        clear n0_ n1_ n2_ n3_ n4_ n5_ n6_ n7_
        have hHeld := trivial
        refine norm_ (a' := ?_) ?_ ?_
        rotate_left
        ·simp only [putAll, Act.put, PSET]
         rfl
        refine one_ (i := 1) (N := some 62) #[true, true, true, true, true, true, false, false, false, false, false, false] rfl rfl (one_of HT_.out (by kernel_rfl)) (by decide) (fun K hK => ?_)
        have hcv57 := own_string (P := Try.prog) Try.underlying32 Try.underlying5 Try.underlying9 (Kd.own_of_R HO135.out)
        refine value_ (w1 := ?_) (v := ?_) (by rfl) rfl ?_ ?_
        rotate_left 2
        ·go_simp
         constructor
         ·rfl
         ·rfl
        clear hcv57
        refine hK.out _ _ trivial (fun hHeld => ?_)
        clear hK K
        refine norm_ (a' := ?_) ?_ ?_
        rotate_left
        ·show Act.put _ (some 62) _ = _
         simp only [Act.put, LSET9_]
         rfl
        exact norm_ (by simp only [putAll, Act.put, PSET] <;> rfl) (hJ0_1_2_3_4_5 (v134, v137, v140) _ ⟨HO119.out, HO122.out, HO127.out, HO130.out, HO135.out, HO138.out, HO141.out, HB.out⟩)
      ·skip
       rintro ⟨v134, v137, v140⟩ w56 ⟨h0_, h1_, h2_, h3_, h4_, h5_, h6_, h7_⟩
       have n0_ : Aside0 (RU w w56 (fun k_ => nq k_ v121 ∧ nq k_ v126 ∧ nq k_ v129 ∧ nq k_ v134 ∧ nq k_ v137 ∧ nq k_ v140) v118 y117) := ⟨h0_⟩
       have n1_ : Aside0 (RU w w56 (fun k_ => nq k_ v118 ∧ nq k_ v126 ∧ nq k_ v129 ∧ nq k_ v134 ∧ nq k_ v137 ∧ nq k_ v140) v121 y120) := ⟨h1_⟩
       have n2_ : Aside0 (RU w w56 (fun k_ => nq k_ v118 ∧ nq k_ v121 ∧ nq k_ v129 ∧ nq k_ v134 ∧ nq k_ v137 ∧ nq k_ v140) v126 y125) := ⟨h2_⟩
       have n3_ : Aside0 (RU w w56 (fun k_ => nq k_ v118 ∧ nq k_ v121 ∧ nq k_ v126 ∧ nq k_ v134 ∧ nq k_ v137 ∧ nq k_ v140) v129 y128) := ⟨h3_⟩
       have n4_ : Aside0 (RU w w56 (fun k_ => nq k_ v118 ∧ nq k_ v121 ∧ nq k_ v126 ∧ nq k_ v129 ∧ nq k_ v137 ∧ nq k_ v140) v134 y133) := ⟨h4_⟩
       have n5_ : Aside0 (RU w w56 (fun k_ => nq k_ v118 ∧ nq k_ v121 ∧ nq k_ v126 ∧ nq k_ v129 ∧ nq k_ v134 ∧ nq k_ v140) v137 y136) := ⟨h5_⟩
       have n6_ : Aside0 (RU w w56 (fun k_ => nq k_ v118 ∧ nq k_ v121 ∧ nq k_ v126 ∧ nq k_ v129 ∧ nq k_ v134 ∧ nq k_ v137) v140 y139) := ⟨h6_⟩
       have n7_ : Aside0 (Below w.heap.size w w56) := ⟨h7_⟩
       clear HO119
       clear HO122
       clear HO127
       clear HO130
       clear HB
       clear h0_ h1_ h2_ h3_ h4_ h5_ h6_ h7_
       have HO119 := n0_
       have HO122 := n1_
       have HO127 := n2_
       have HO130 := n3_
       have HO135 := n4_
       have HO138 := n5_
       have HO141 := n6_
       have HB := n7_
       clear n0_ n1_ n2_ n3_ n4_ n5_ n6_ n7_
       have hHeld := trivial
       refine norm_ (a' := ?_) ?_ ?_
       rotate_left
       ·simp only [putAll, Act.put, PSET]
        rfl
       refine one_ (i := 3) (N := some 64) #[true, true, true, true, true, true, false, false, false, false, false, false] rfl rfl (one_of HT_.out (by kernel_rfl)) (by decide) (fun K hK => ?_)
       have hcv57 := own_string (P := Try.prog) Try.underlying32 Try.underlying5 Try.underlying9 (Kd.own_of_R HO138.out)
       refine value_ (w1 := ?_) (v := ?_) (by rfl) rfl ?_ ?_
       rotate_left 2
       ·go_simp
        constructor
        ·rfl
        ·rfl
       clear hcv57
       refine hK.out _ _ trivial (fun hHeld => ?_)
       clear hK K
       refine norm_ (a' := ?_) ?_ ?_
       rotate_left
       ·show Act.put _ (some 64) _ = _
        simp only [Act.put, LSET9_]
        rfl
       exact norm_ (by simp only [putAll, Act.put, PSET] <;> rfl) (hJ0_1_2_3_4_5 (v134, v137, v140) _ ⟨HO119.out, HO122.out, HO127.out, HO130.out, HO135.out, HO138.out, HO141.out, HB.out⟩)
     ·skip
      rintro ⟨v134, v137, v140⟩ w56 ⟨h0_, h1_, h2_, h3_, h4_, h5_, h6_, h7_⟩
      have n0_ : Aside0 (RU w w56 (fun k_ => nq k_ v121 ∧ nq k_ v126 ∧ nq k_ v129 ∧ nq k_ v134 ∧ nq k_ v137 ∧ nq k_ v140) v118 y117) := ⟨h0_⟩
      have n1_ : Aside0 (RU w w56 (fun k_ => nq k_ v118 ∧ nq k_ v126 ∧ nq k_ v129 ∧ nq k_ v134 ∧ nq k_ v137 ∧ nq k_ v140) v121 y120) := ⟨h1_⟩
      have n2_ : Aside0 (RU w w56 (fun k_ => nq k_ v118 ∧ nq k_ v121 ∧ nq k_ v129 ∧ nq k_ v134 ∧ nq k_ v137 ∧ nq k_ v140) v126 y125) := ⟨h2_⟩
      have n3_ : Aside0 (RU w w56 (fun k_ => nq k_ v118 ∧ nq k_ v121 ∧ nq k_ v126 ∧ nq k_ v134 ∧ nq k_ v137 ∧ nq k_ v140) v129 y128) := ⟨h3_⟩
      have n4_ : Aside0 (RU w w56 (fun k_ => nq k_ v118 ∧ nq k_ v121 ∧ nq k_ v126 ∧ nq k_ v129 ∧ nq k_ v137 ∧ nq k_ v140) v134 y133) := ⟨h4_⟩
      have n5_ : Aside0 (RU w w56 (fun k_ => nq k_ v118 ∧ nq k_ v121 ∧ nq k_ v126 ∧ nq k_ v129 ∧ nq k_ v134 ∧ nq k_ v140) v137 y136) := ⟨h5_⟩
      have n6_ : Aside0 (RU w w56 (fun k_ => nq k_ v118 ∧ nq k_ v121 ∧ nq k_ v126 ∧ nq k_ v129 ∧ nq k_ v134 ∧ nq k_ v137) v140 y139) := ⟨h6_⟩
      have n7_ : Aside0 (Below w.heap.size w w56) := ⟨h7_⟩
      clear HO119
      clear HO122
      clear HO127
      clear HO130
      clear HB
      clear h0_ h1_ h2_ h3_ h4_ h5_ h6_ h7_
      have HO119 := n0_
      have HO122 := n1_
      have HO127 := n2_
      have HO130 := n3_
      have HO135 := n4_
      have HO138 := n5_
      have HO141 := n6_
      have HB := n7_
      clear n0_ n1_ n2_ n3_ n4_ n5_ n6_ n7_
      have hHeld := trivial
      refine norm_ (a' := ?_) ?_ ?_
      rotate_left
      ·simp only [putAll, Act.put, PSET]
       rfl
      refine one_ (i := 5) (N := some 66) #[true, true, true, true, true, true, false, false, false, false, false, false] rfl rfl (one_of HT_.out (by kernel_rfl)) (by decide) (fun K hK => ?_)
      have hcv57 := own_string (P := Try.prog) Try.underlying32 Try.underlying5 Try.underlying9 (Kd.own_of_R HO141.out)
      refine value_ (w1 := ?_) (v := ?_) (by rfl) rfl ?_ ?_
      rotate_left 2
      ·go_simp
       constructor
       ·rfl
       ·rfl
      clear hcv57
      refine hK.out _ _ trivial (fun hHeld => ?_)
      clear hK K
      refine norm_ (a' := ?_) ?_ ?_
      rotate_left
      ·show Act.put _ (some 66) _ = _
       simp only [Act.put, LSET9_]
       rfl
      exact norm_ (by simp only [putAll, Act.put, PSET] <;> rfl) (hJ0_1_2_3_4_5 (v134, v137, v140) _ ⟨HO119.out, HO122.out, HO127.out, HO130.out, HO135.out, HO138.out, HO141.out, HB.out⟩)
    rintro ⟨v134, v137, v140⟩ w57 ⟨h0_, h1_, h2_, h3_, h4_, h5_, h6_, h7_⟩
    have n0_ : Aside0 (RU w w57 (fun k_ => nq k_ v121 ∧ nq k_ v126 ∧ nq k_ v129 ∧ nq k_ v134 ∧ nq k_ v137 ∧ nq k_ v140) v118 y117) := ⟨h0_⟩
    have n1_ : Aside0 (RU w w57 (fun k_ => nq k_ v118 ∧ nq k_ v126 ∧ nq k_ v129 ∧ nq k_ v134 ∧ nq k_ v137 ∧ nq k_ v140) v121 y120) := ⟨h1_⟩
    have n2_ : Aside0 (RU w w57 (fun k_ => nq k_ v118 ∧ nq k_ v121 ∧ nq k_ v129 ∧ nq k_ v134 ∧ nq k_ v137 ∧ nq k_ v140) v126 y125) := ⟨h2_⟩
    have n3_ : Aside0 (RU w w57 (fun k_ => nq k_ v118 ∧ nq k_ v121 ∧ nq k_ v126 ∧ nq k_ v134 ∧ nq k_ v137 ∧ nq k_ v140) v129 y128) := ⟨h3_⟩
    have n4_ : Aside0 (RU w w57 (fun k_ => nq k_ v118 ∧ nq k_ v121 ∧ nq k_ v126 ∧ nq k_ v129 ∧ nq k_ v137 ∧ nq k_ v140) v134 y133) := ⟨h4_⟩
    have n5_ : Aside0 (RU w w57 (fun k_ => nq k_ v118 ∧ nq k_ v121 ∧ nq k_ v126 ∧ nq k_ v129 ∧ nq k_ v134 ∧ nq k_ v140) v137 y136) := ⟨h5_⟩
    have n6_ : Aside0 (RU w w57 (fun k_ => nq k_ v118 ∧ nq k_ v121 ∧ nq k_ v126 ∧ nq k_ v129 ∧ nq k_ v134 ∧ nq k_ v137) v140 y139) := ⟨h6_⟩
    have n7_ : Aside0 (Below w.heap.size w w57) := ⟨h7_⟩
    clear HO119
    clear HO122
    clear HO127
    clear HO130
    clear HB
    clear h0_ h1_ h2_ h3_ h4_ h5_ h6_ h7_
    have HO119 := n0_
    have HO122 := n1_
    have HO127 := n2_
    have HO130 := n3_
    have HO135 := n4_
    have HO138 := n5_
    have HO141 := n6_
    have HB := n7_
    clear n0_ n1_ n2_ n3_ n4_ n5_ n6_ n7_
    have hHeld := trivial
    refine norm_ (a' := ?_) ?_ ?_
    rotate_left
    ·simp only [putAll, Act.put, PSET]
     rfl
    refine one_ (i := 6) (N := some 67) #[true, true, true, true, true, true, true, false, false, false, false, false] rfl rfl (one_of HT_.out (by kernel_rfl)) (by decide) (fun K hK => ?_)
    refine goes_ Try.func14 (by kernel_rfl) rfl #[.string (strOfNums y133), .int .i64 0, .string (strOfNums y136), .string (strOfNums y139)] (by rfl) rfl rfl (by (try simp only [List.map_toArray, List.map_cons, List.map_nil]); first | done | rfl | (simp only [List.length_drop, List.length_take]; rfl)) ?_
    with_reducible refine (chacha_Xor.calls (strOfNums y133) 0 (strOfNums y136) (strOfNums y139) t142 t143 _ A22.out).mono ?_
    rintro e w58 ⟨rfl, hb⟩
    refine ⟨_, rfl, ?_⟩
    have n0_ := Aside0.mk (Kd.R_below HO119.out hb)
    have n1_ := Aside0.mk (Kd.R_below HO122.out hb)
    have n2_ := Aside0.mk (Kd.R_below HO127.out hb)
    have n3_ := Aside0.mk (Kd.R_below HO130.out hb)
    have n4_ := Aside0.mk (Kd.R_below HO135.out hb)
    have n5_ := Aside0.mk (Kd.R_below HO138.out hb)
    have n6_ := Aside0.mk (Kd.R_below HO141.out hb)
    have n7_ := Aside0.mk (below_step HB.out hb)
    clear HO119
    clear HO122
    clear HO127
    clear HO130
    clear HO135
    clear HO138
    clear HO141
    clear HB
    have HO119 := n0_
    have HO122 := n1_
    have HO127 := n2_
    have HO130 := n3_
    have HO135 := n4_
    have HO138 := n5_
    have HO141 := n6_
    have HB := n7_
    clear n0_ n1_ n2_ n3_ n4_ n5_ n6_ n7_
    (try clear hb)
    (try clear hb2)
    (try clear hk)
    (try clear hi)
    refine hK.out _ _ trivial (fun hHeld => ?_)
    clear hK K
    refine norm_ (a' := ?_) ?_ ?_
    rotate_left
    ·show Act.put _ (some 67) _ = _
     simp only [Act.put, LSET9_]
     rfl
    refine pure_ (i := 7) (N := some 60) (v := ?_) (a' := ?_) #[true, true, true, true, true, true, true, true, false, false, false, false] rfl rfl (any_of HT_.out (by kernel_rfl)) (fun _ _ _ h => h) (Or.inl ⟨by rfl, ?_⟩) ?_ ?_; rotate_left; (· intro w'; go_simp; with_reducible rfl); rotate_left; (· simp only [Act.put, LSET9_]; rfl)
    refine pure_ (i := 8) (N := some 68) (v := ?_) (a' := ?_) #[true, true, true, true, true, true, true, true, true, false, false, false] rfl rfl (any_of HT_.out (by kernel_rfl)) (fun _ _ _ h => h) (Or.inl ⟨by rfl, ?_⟩) ?_ ?_; rotate_left; (· intro w'; go_simp; with_reducible rfl); rotate_left; (· simp only [Act.put, LSET9_]; rfl)
    refine pure_ (i := 9) (N := some 69) (v := ?_) (a' := ?_) #[true, true, true, true, true, true, true, true, true, true, false, false] rfl rfl (any_of HT_.out (by kernel_rfl)) (fun _ _ _ h => h) (Or.inl ⟨by rfl, ?_⟩) ?_ ?_; rotate_left; (· intro w'; go_simp; with_reducible rfl); rotate_left; (· simp only [Act.put, LSET9_]; rfl)
    refine pure_ (i := 10) (N := some 14) (v := ?_) (a' := ?_) #[true, true, true, true, true, true, true, true, true, true, true, false] rfl rfl (any_of HT_.out (by kernel_rfl)) (fun _ _ _ h => h) (Or.inl ⟨by rfl, ?_⟩) ?_ ?_; rotate_left; (· intro w'; go_simp; with_reducible rfl); rotate_left; (· simp only [Act.put, LSET9_]; rfl)
    refine pure_ (i := 11) (N := some 15) (v := ?_) (a' := ?_) #[true, true, true, true, true, true, true, true, true, true, true, true] rfl rfl (any_of HT_.out (by kernel_rfl)) (fun _ _ _ h => h) (Or.inl ⟨by rfl, ?_⟩) ?_ ?_; rotate_left; (· intro w'; go_simp; with_reducible rfl); rotate_left; (· simp only [Act.put, LSET9_]; rfl)
    refine done_ (done_of HT_.out (by kernel_rfl)) ?_
    have H := HH.out
    clear HH
    by_cases c24 : t144 = 0
    ·rw [if_pos c24] at H
     have c24b0 : (t144 == 0) = true := beq_iff_eq.mpr c24
     have c24b1 : (t144 != 0) = false := bne_eq_false_iff_eq.mpr c24
     clear c24
     by_cases c25 : x9_5 = true
     ·subst c25
      have H1 : ((halberdlaw0_Num.f t132).bind fun t145 => (if t145 = 0 then ((halberdlaw0_Num.f t143).bind fun t146 => (some (t146 == 600))) else (some false))) = some r := by rw [if_pos rfl] at H; exact H
      clear H
      have H := H1
      clear H1
      replace H := Option.bind_eq_some_iff.mp H
      obtain ⟨t145, A260, H⟩ := H
      replace H : (if t145 = 0 then ((halberdlaw0_Num.f t143).bind fun t146 => (some (t146 == 600))) else (some false)) = some r := H
      have A26 := Aside0.mk A260
      clear A260
      by_cases c27 : t145 = 0
      ·rw [if_pos c27] at H
       have c27b0 : (t145 == 0) = true := beq_iff_eq.mpr c27
       have c27b1 : (t145 != 0) = false := bne_eq_false_iff_eq.mpr c27
       clear c27
       replace H := Option.bind_eq_some_iff.mp H
       obtain ⟨t146, A280, H⟩ := H
       replace H : (some (t146 == 600)) = some r := H
       have A28 := Aside0.mk A280
       clear A280
       obtain rfl := Option.some.inj H
       try go_wp2_with (first | ((with_reducible refine gate_callee (f := 16) rfl ?_); refine goesL_ (some 71) rfl rfl Try.func16 (by kernel_rfl) rfl #[.int .i64 t124] rfl (by (try simp only [List.map_toArray, List.map_cons, List.map_nil]); first | done | rfl | (simp only [List.length_drop, List.length_take]; rfl)) ?_; (with_reducible refine (halberdlaw0_Num.calls t124 t144 _ A23.out).mono ?_); rintro e w' ⟨rfl, ⟨nd, rfl⟩⟩; refine ⟨_, rfl, ?_⟩) | (go_at_call 16; (with_reducible refine (halberdlaw0_Num.calls t132 t145 _ A26.out).mono ?_); rintro e w' ⟨rfl, ⟨nd, rfl⟩⟩) | (go_at_call 16; (with_reducible refine (halberdlaw0_Num.calls t143 t146 _ A28.out).mono ?_); rintro e w' ⟨rfl, ⟨nd, rfl⟩⟩))
       all_goals go_ret
       all_goals exact ⟨by first | rfl | (simp [errW_none, errW_some] <;> rfl) | (simp only [← hji11, ← hji14]; first | rfl | (simp [errW_none, errW_some] <;> rfl)) | (simp [*, errW_none, errW_some] <;> rfl), by repeat (first | (with_reducible first | exact HB.out | apply below_alloc | apply pw_below_drewN | apply below_drew1) | exact HB.out)⟩
      ·rw [if_neg c27] at H
       have c27b0 : (t145 == 0) = false := beq_eq_false_iff_ne.mpr c27
       have c27b1 : (t145 != 0) = true := bne_iff_ne.mpr c27
       exact absurd ((Option.some.inj H).trans hr.out) (by decide)
     ·replace c25 := Bool.eq_false_iff.mpr c25
      subst c25
      have H1 : (some false) = some r := by rw [if_neg (show ¬ (false = true) by decide)] at H; exact H
      clear H
      have H := H1
      clear H1
      exact absurd ((Option.some.inj H).trans hr.out) (by decide)
    ·rw [if_neg c24] at H
     have c24b0 : (t144 == 0) = false := beq_eq_false_iff_ne.mpr c24
     have c24b1 : (t144 != 0) = true := bne_iff_ne.mpr c24
     by_cases c59 : x9_5 = true
     ·subst c59
      have H1 : (some false) = some r := by rw [if_pos rfl] at H; exact H
      clear H
      have H := H1
      clear H1
      exact absurd ((Option.some.inj H).trans hr.out) (by decide)
     ·replace c59 := Bool.eq_false_iff.mpr c59
      subst c59
      have H1 : ((halberdlaw0_Num.f t132).bind fun t147 => (if t147 = 0 then (some false) else ((halberdlaw0_Num.f t124).bind fun t148 => (if t148 = 600 then ((halberdlaw0_Num.f t132).bind fun t149 => (if t149 = 600 then ((halberdlaw0_Num.f t143).bind fun t150 => (some (t150 == 600))) else (some false))) else (some false))))) = some r := by rw [if_neg (show ¬ (false = true) by decide)] at H; exact H
      clear H
      have H := H1
      clear H1
      replace H := Option.bind_eq_some_iff.mp H
      obtain ⟨t147, A600, H⟩ := H
      replace H : (if t147 = 0 then (some false) else ((halberdlaw0_Num.f t124).bind fun t148 => (if t148 = 600 then ((halberdlaw0_Num.f t132).bind fun t149 => (if t149 = 600 then ((halberdlaw0_Num.f t143).bind fun t150 => (some (t150 == 600))) else (some false))) else (some false)))) = some r := H
      have A60 := Aside0.mk A600
      clear A600
      by_cases c61 : t147 = 0
      ·rw [if_pos c61] at H
       have c61b0 : (t147 == 0) = true := beq_iff_eq.mpr c61
       have c61b1 : (t147 != 0) = false := bne_eq_false_iff_eq.mpr c61
       clear c61
       exact absurd ((Option.some.inj H).trans hr.out) (by decide)
      ·rw [if_neg c61] at H
       have c61b0 : (t147 == 0) = false := beq_eq_false_iff_ne.mpr c61
       have c61b1 : (t147 != 0) = true := bne_iff_ne.mpr c61
       replace H := Option.bind_eq_some_iff.mp H
       obtain ⟨t148, A620, H⟩ := H
       replace H : (if t148 = 600 then ((halberdlaw0_Num.f t132).bind fun t149 => (if t149 = 600 then ((halberdlaw0_Num.f t143).bind fun t150 => (some (t150 == 600))) else (some false))) else (some false)) = some r := H
       have A62 := Aside0.mk A620
       clear A620
       by_cases c63 : t148 = 600
       ·rw [if_pos c63] at H
        have c63b0 : (t148 == 600) = true := beq_iff_eq.mpr c63
        have c63b1 : (t148 != 600) = false := bne_eq_false_iff_eq.mpr c63
        clear c63
        replace H := Option.bind_eq_some_iff.mp H
        obtain ⟨t149, A640, H⟩ := H
        replace H : (if t149 = 600 then ((halberdlaw0_Num.f t143).bind fun t150 => (some (t150 == 600))) else (some false)) = some r := H
        have A64 := Aside0.mk A640
        clear A640
        by_cases c65 : t149 = 600
        ·rw [if_pos c65] at H
         have c65b0 : (t149 == 600) = true := beq_iff_eq.mpr c65
         have c65b1 : (t149 != 600) = false := bne_eq_false_iff_eq.mpr c65
         clear c65
         replace H := Option.bind_eq_some_iff.mp H
         obtain ⟨t150, A660, H⟩ := H
         replace H : (some (t150 == 600)) = some r := H
         have A66 := Aside0.mk A660
         clear A660
         obtain rfl := Option.some.inj H
         obtain rfl : t149 = t147 := Option.some.inj (A64.out.symm.trans A60.out)
         obtain rfl : t148 = t144 := Option.some.inj (A62.out.symm.trans A23.out)
         try go_wp2_with (first | ((with_reducible refine gate_callee (f := 16) rfl ?_); refine goesL_ (some 71) rfl rfl Try.func16 (by kernel_rfl) rfl #[.int .i64 t124] rfl (by (try simp only [List.map_toArray, List.map_cons, List.map_nil]); first | done | rfl | (simp only [List.length_drop, List.length_take]; rfl)) ?_; (with_reducible refine (halberdlaw0_Num.calls t124 t144 _ A23.out).mono ?_); rintro e w' ⟨rfl, ⟨nd, rfl⟩⟩; refine ⟨_, rfl, ?_⟩) | (go_at_call 16; (with_reducible refine (halberdlaw0_Num.calls t132 t147 _ A60.out).mono ?_); rintro e w' ⟨rfl, ⟨nd, rfl⟩⟩) | (go_at_call 16; (with_reducible refine (halberdlaw0_Num.calls t124 t148 _ A62.out).mono ?_); rintro e w' ⟨rfl, ⟨nd, rfl⟩⟩) | (go_at_call 16; (with_reducible refine (halberdlaw0_Num.calls t132 t149 _ A64.out).mono ?_); rintro e w' ⟨rfl, ⟨nd, rfl⟩⟩) | (go_at_call 16; (with_reducible refine (halberdlaw0_Num.calls t143 t150 _ A66.out).mono ?_); rintro e w' ⟨rfl, ⟨nd, rfl⟩⟩))
         all_goals go_ret
         all_goals exact ⟨by first | rfl | (simp [errW_none, errW_some] <;> rfl) | (simp only [← hji11, ← hji14]; first | rfl | (simp [errW_none, errW_some] <;> rfl)) | (simp [*, errW_none, errW_some] <;> rfl), by repeat (first | (with_reducible first | exact HB.out | apply below_alloc | apply pw_below_drewN | apply below_drew1) | exact HB.out)⟩
        ·rw [if_neg c65] at H
         have c65b0 : (t149 == 600) = false := beq_eq_false_iff_ne.mpr c65
         have c65b1 : (t149 != 600) = true := bne_iff_ne.mpr c65
         exact absurd ((Option.some.inj H).trans hr.out) (by decide)
       ·rw [if_neg c63] at H
        have c63b0 : (t148 == 600) = false := beq_eq_false_iff_ne.mpr c63
        have c63b1 : (t148 != 600) = true := bne_iff_ne.mpr c63
        exact absurd ((Option.some.inj H).trans hr.out) (by decide)
 ·replace c5 := Bool.eq_false_iff.mpr c5
  subst c5
  have H1 : (some false) = some r := by rw [if_neg (show ¬ (false = true) by decide)] at H; exact H
  clear H
  have H := H1
  clear H1
  exact absurd ((Option.some.inj H).trans hr.out) (by decide)

/-- THE ONE PURE STATEMENT of halberdlaw6_ChachaForms: yours. -/
def halberdlaw6_ChachaForms.Pure : Prop := ∀ (a0 : Int) (a1 : Int) (a2 : Int), (Lit.int .i64 a0).wf = true → (Lit.int .i64 a1).wf = true → (Lit.int .i64 a2).wf = true → ∃ k, halberdlaw6_ChachaForms.f k a0 a1 a2 = some true
theorem halberdlaw6_ChachaForms.walk (P : halberdlaw6_ChachaForms.Pure) (a0 : Int) (a1 : Int) (a2 : Int) (w : World) (w0 : (Lit.int .i64 a0).wf = true) (w1 : (Lit.int .i64 a1).wf = true) (w2 : (Lit.int .i64 a2).wf = true) :
  Calls Try.prog 6 #[.int .i64 a0, .int .i64 a1, .int .i64 a2] w fun e w' => e = .returned (.bool true) ∧ Below w.heap.size w w' := by
 obtain ⟨k, h⟩ := P a0 a1 a2 w0 w1 w2
 refine (halberdlaw6_ChachaForms.calls k a0 a1 a2 true w h ⟨rfl⟩).mono ?_
 rintro e w' ⟨rfl, hd⟩
 exact ⟨rfl, hd⟩

end Go.Proofs.Ytocckplgjbhlbaa.V
