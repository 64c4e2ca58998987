-- Written by a program of this session (wip/tools/xprint.py), over the kit's printer.
import Derived.Test.YtonemdclfgckoaaXx0
namespace Go.Proofs.Ytonemdclfgckoaa.X
open Go.RowKit Go.Proofs.YtonemdclfgckoaaW.PrintWords Go.Proofs.YtonemdclfgckoaaW.PrintLast Go.Proofs.YtonemdclfgckoaaW.PrintMore
attribute [local go_sem] max2_int min2_int max_two min_two max_three min_three max_four min_four   -- for this text's walks alone
set_option linter.unusedVariables false
set_option linter.unusedSimpArgs false

/-! ### der_length: function 29 -/
def der_length.j0 : Nat → ByteArray → Int → Int → Int → Option (Int × Int)
 | 0,_,_,_,_ => none
 | k + 1,x0,x1,x6,x7 => if (wrap64 (x1 + 1)) ≥ (x0.size : Int) then (some (0,(-1))) else (if 0 ≤ (wrap64 (x1 + 1)) then (if (wrap64 (x1 + 1)) < (x0.size : Int) then (if (Go.bits .or .i64 (wrap64 (x6 * 256)) (wrap64 (bt x0 (wrap64 (x1 + 1))))) < (wrap64 (x7 + 128)) then (some (0,(-1))) else (some (Go.bits .or .i64 (wrap64 (x6 * 256)) (wrap64 (bt x0 (wrap64 (x1 + 1)))),wrap64 (x1 + 2)))) else (none)) else (none))
def der_length.f (k : Nat) (a0 : ByteArray) (a1 : Int) : Option (Int × Int) := if a1 ≥ (a0.size : Int) then (some (0,(-1))) else (if 0 ≤ a1 then (if a1 < (a0.size : Int) then (if (wrap64 (bt a0 a1)) < 128 then (some (wrap64 (bt a0 a1),wrap64 (a1 + 1))) else (if (wrap64 (bt a0 a1)) = 130 then (if (wrap64 (a1 + 2)) ≥ (a0.size : Int) then (some (0,(-1))) else (if 0 ≤ (wrap64 (a1 + 1)) then (if (wrap64 (a1 + 1)) < (a0.size : Int) then (der_length.j0 k a0 (wrap64 (a1 + 1)) (wrap64 (bt a0 (wrap64 (a1 + 1)))) 128) else (none)) else (none))) else (if (wrap64 (bt a0 a1)) = 129 then (der_length.j0 k a0 a1 0 0) else (some (0,(-1)))))) else (none)) else (none))
theorem der_length.mono_l : ∀ k,(∀ y0 y1 y2 y3,LeO (der_length.j0 k y0 y1 y2 y3) (der_length.j0 (k + 1) y0 y1 y2 y3))
 | 0 => fun _ _ _ _ r h => by simp [der_length.j0] at h
 | k + 1 => by
  have ih0 := der_length.mono_l k
  ·intro y0 y1 y2 y3
   unfold der_length.j0
   repeat' first
   | (with_reducible exact ih0 _ _ _ _)
   | (with_reducible exact LeO.refl _)
   | (with_reducible exact LeO.none _)
   | (with_reducible refine LeO.ite ?_ ?_)
   | (with_reducible refine LeO.bind ?_ (fun _ => ?_))
   | exact ih0 _ _ _ _
   | exact LeO.none _
   | refine LeO.ite ?_ ?_
   | refine LeO.bind ?_ (fun _ => ?_)
theorem der_length.mono : ∀ a0 a1 k,LeO (der_length.f k a0 a1) (der_length.f (k + 1) a0 a1) := by
 intro a0 a1 k
 have ih0 := der_length.mono_l k
 unfold der_length.f
 repeat' first
   | (with_reducible exact ih0 _ _ _ _)
   | (with_reducible exact LeO.refl _)
   | (with_reducible exact LeO.none _)
   | (with_reducible refine LeO.ite ?_ ?_)
   | (with_reducible refine LeO.bind ?_ (fun _ => ?_))
   | exact ih0 _ _ _ _
   | exact LeO.none _
   | refine LeO.ite ?_ ?_
   | refine LeO.bind ?_ (fun _ => ?_)
set_option maxHeartbeats 8000000 in
set_option maxRecDepth 100000 in
theorem der_length.calls (k : Nat) (a0 : ByteArray) (a1 : Int) (r1 : Int) (r2 : Int) (w : World) (h : der_length.f k a0 a1 = some (r1,r2)) :
  Calls Try.prog 29 #[.string a0,.int .i64 a1] w fun e w' => e = .returned (.tuple #[.int .i64 r1,.int .i64 r2]) ∧ Drawn0 w w' := by
 have H : (if a1 ≥ (a0.size : Int) then (some (0,(-1))) else (if 0 ≤ a1 then (if a1 < (a0.size : Int) then (if (wrap64 (bt a0 a1)) < 128 then (some (wrap64 (bt a0 a1),wrap64 (a1 + 1))) else (if (wrap64 (bt a0 a1)) = 130 then (if (wrap64 (a1 + 2)) ≥ (a0.size : Int) then (some (0,(-1))) else (if 0 ≤ (wrap64 (a1 + 1)) then (if (wrap64 (a1 + 1)) < (a0.size : Int) then (der_length.j0 k a0 (wrap64 (a1 + 1)) (wrap64 (bt a0 (wrap64 (a1 + 1)))) 128) else (none)) else (none))) else (if (wrap64 (bt a0 a1)) = 129 then (der_length.j0 k a0 a1 0 0) else (some (0,(-1)))))) else (none)) else (none))) = some (r1,r2) := h
 clear h
 by_cases c3 : a1 ≥ (a0.size : Int)
 ·rw [if_pos c3] at H
  have c3b0 : decide ((a0.size : Int) ≤ a1) = true := decide_eq_true c3
  clear c3
  simp only [Option.some.injEq,Prod.mk.injEq] at H
  obtain ⟨rfl,rfl⟩ := H
  go_enter Try.func29,Try.ntmps29
  go_wp2
  go_ret2
  exact ⟨by first | rfl | (simp; done) | (simp [*]; done),by repeat (first | exact Drawn0.refl _ | apply Drawn0.step)⟩
 ·rw [if_neg c3] at H
  have c3b0 : decide ((a0.size : Int) ≤ a1) = false := decide_eq_false c3
  clear c3
  by_cases c4 : 0 ≤ a1
  ·rw [if_pos c4] at H
   have c4b0 : decide (0 ≤ a1) = true := decide_eq_true c4
   clear c4
   by_cases c5 : a1 < (a0.size : Int)
   ·rw [if_pos c5] at H
    have c5b0 : decide (a1 < (a0.size : Int)) = true := decide_eq_true c5
    clear c5
    have HC7 := Aside0.mk H
    clear H
    have p6 : 0 ≤ (a1 : Int) := of_decide_eq_true (by first | (with_reducible assumption) | assumption)
    have q6 : a1 < (a0.size : Int) := of_decide_eq_true (by first | (with_reducible assumption) | assumption)
    have hx6 := bt_at a0 a1
    replace p6 := eq_true p6
    replace q6 := eq_true q6
    go_enter Try.func29,Try.ntmps29
    go_upto_block 3 with (fail)
    go_cut [1,6,7] (fun v1 v6 v7 wc => ∃ (kq : Nat) (x1_6 : Int) (x6_6 : Int) (x7_6 : Int),v1 = .int .i64 x1_6 ∧ v6 = .int .i64 x6_6 ∧ v7 = .int .i64 x7_6 ∧ Aside0 (der_length.j0 kq a0 x1_6 x6_6 x7_6 = some (r1,r2)) ∧ Aside0 (kq ≤ k) ∧ Drawn0 w wc)
    case first =>
     have H := HC7.out
     clear HC7
     by_cases c8 : (wrap64 (bt a0 a1)) < 128
     ·rw [if_pos c8] at H
      have c8b0 : decide ((wrap64 (bt a0 a1)) < 128) = true := decide_eq_true c8
      clear c8
      (first | rw [c8b0] | (simp only [i64_w,i32_w]; rw [c8b0]) | skip)
      simp only [Option.some.injEq,Prod.mk.injEq] at H
      obtain ⟨rfl,rfl⟩ := H
      go_wp2
      go_ret2
      exact ⟨by first | rfl | (simp; done) | (simp [*]; done),by repeat (first | exact Drawn0.refl _ | apply Drawn0.step)⟩
     ·rw [if_neg c8] at H
      have c8b0 : decide ((wrap64 (bt a0 a1)) < 128) = false := decide_eq_false c8
      clear c8
      (first | rw [c8b0] | (simp only [i64_w,i32_w]; rw [c8b0]) | skip)
      by_cases c9 : (wrap64 (bt a0 a1)) = 130
      ·rw [if_pos c9] at H
       have c9b0 : ((wrap64 (bt a0 a1)) == 130) = true := beq_iff_eq.mpr c9
       have c9b1 : ((wrap64 (bt a0 a1)) != 130) = false := bne_eq_false_iff_eq.mpr c9
       clear c9
       by_cases c10 : (wrap64 (a1 + 2)) ≥ (a0.size : Int)
       ·rw [if_pos c10] at H
        have c10b0 : decide ((a0.size : Int) ≤ (wrap64 (a1 + 2))) = true := decide_eq_true c10
        clear c10
        simp only [Option.some.injEq,Prod.mk.injEq] at H
        obtain ⟨rfl,rfl⟩ := H
        go_wp2
        go_ret2
        exact ⟨by first | rfl | (simp; done) | (simp [*]; done),by repeat (first | exact Drawn0.refl _ | apply Drawn0.step)⟩
       ·rw [if_neg c10] at H
        have c10b0 : decide ((a0.size : Int) ≤ (wrap64 (a1 + 2))) = false := decide_eq_false c10
        clear c10
        obtain ⟨ji11,hji11⟩ : ∃ j_ : Int,(wrap64 (a1 + 1)) = j_ := ⟨_,rfl⟩
        replace H : (if 0 ≤ (ji11) then (if (ji11) < (a0.size : Int) then (der_length.j0 k a0 ji11 (wrap64 (bt a0 (ji11))) 128) else (none)) else (none)) = some (r1,r2) := by first | (rw [hji11] at H; exact H) | (simp only [hji11] at H ⊢; exact H)
        have hji11w : (IntKind.i64.wrap (a1 + 1)) = ji11 := (i64_w _).trans hji11
        by_cases c12 : 0 ≤ (ji11)
        ·rw [if_pos c12] at H
         have c12b0 : decide (0 ≤ (ji11)) = true := decide_eq_true c12
         clear c12
         by_cases c13 : (ji11) < (a0.size : Int)
         ·rw [if_pos c13] at H
          have c13b0 : decide ((ji11) < (a0.size : Int)) = true := decide_eq_true c13
          clear c13
          have H' := Aside0.mk H
          clear H
          have p14 : 0 ≤ ((ji11) : Int) := of_decide_eq_true (by first | (with_reducible assumption) | assumption)
          have q14 : (ji11) < (a0.size : Int) := of_decide_eq_true (by first | (with_reducible assumption) | assumption)
          have hx14 := bt_at a0 (ji11)
          replace p14 := eq_true p14
          replace q14 := eq_true q14
          go_wp2
          go_meet
          case rel => exact ⟨_,(ji11),(wrap64 (bt a0 (ji11))),(128),(by first | rfl | (simp; done) | (simp only [← hji11] <;> (first | rfl | simp)) | (simp [*]; done)),(by first | rfl | (simp; done) | (simp only [← hji11] <;> (first | rfl | simp)) | (simp [*]; done)),(by first | rfl | (simp; done) | (simp [*]; done)),H',⟨by first | omega | exact Nat.le_refl _⟩,by repeat (first | exact Drawn0.refl _ | apply Drawn0.step)⟩
         ·rw [if_neg c13] at H
          exact absurd H (by simp)
        ·rw [if_neg c12] at H
         exact absurd H (by simp)
      ·rw [if_neg c9] at H
       have c9b0 : ((wrap64 (bt a0 a1)) == 130) = false := beq_eq_false_iff_ne.mpr c9
       have c9b1 : ((wrap64 (bt a0 a1)) != 130) = true := bne_iff_ne.mpr c9
       by_cases c15 : (wrap64 (bt a0 a1)) = 129
       ·rw [if_pos c15] at H
        have c15b0 : ((wrap64 (bt a0 a1)) == 129) = true := beq_iff_eq.mpr c15
        have c15b1 : ((wrap64 (bt a0 a1)) != 129) = false := bne_eq_false_iff_eq.mpr c15
        clear c15
        have H' := Aside0.mk H
        clear H
        go_wp2
        go_meet
        case rel => exact ⟨_,(a1),(0),(0),(by first | rfl | (simp; done) | (simp [*]; done)),(by first | rfl | (simp; done) | (simp [*]; done)),(by first | rfl | (simp; done) | (simp [*]; done)),H',⟨by first | omega | exact Nat.le_refl _⟩,by repeat (first | exact Drawn0.refl _ | apply Drawn0.step)⟩
       ·rw [if_neg c15] at H
        have c15b0 : ((wrap64 (bt a0 a1)) == 129) = false := beq_eq_false_iff_ne.mpr c15
        have c15b1 : ((wrap64 (bt a0 a1)) != 129) = true := bne_iff_ne.mpr c15
        simp only [Option.some.injEq,Prod.mk.injEq] at H
        obtain ⟨rfl,rfl⟩ := H
        go_wp2
        go_ret2
        exact ⟨by first | rfl | (simp; done) | (simp [*]; done),by repeat (first | exact Drawn0.refl _ | apply Drawn0.step)⟩
    case rest =>
     clear HC7
     try clear c1
     try clear p1
     try clear q1
     try clear hx1
     try clear c2
     try clear p2
     try clear c3
     try clear c3b0
     try clear c4
     try clear c4b0
     try clear c5
     try clear c5b0
     try clear p6
     try clear q6
     try clear hx6
     try clear c8
     try clear c8b0
     try clear c9
     try clear c9b0
     try clear c9b1
     try clear c10
     try clear c10b0
     try clear c12
     try clear c12b0
     try clear c13
     try clear c13b0
     try clear p14
     try clear q14
     try clear hx14
     try clear c15
     try clear c15b0
     try clear c15b1
     try clear p14
     try clear p6
     try clear q14
     try clear q6
     obtain ⟨kq,x1_6,x6_6,x7_6,rfl,rfl,rfl,HA,HJ6,⟨mc6,rfl⟩⟩ := hcut
     cases kq with
     | zero => exact absurd HA.out (by simp [der_length.j0])
     | succ kj6 =>
      have H := HA.out
      clear HA
      simp only [der_length.j0] at H
      by_cases c16 : (wrap64 (x1_6 + 1)) ≥ (a0.size : Int)
      ·rw [if_pos c16] at H
       have c16b0 : decide ((a0.size : Int) ≤ (wrap64 (x1_6 + 1))) = true := decide_eq_true c16
       clear c16
       simp only [Option.some.injEq,Prod.mk.injEq] at H
       obtain ⟨rfl,rfl⟩ := H
       go_wp2
       go_ret2
       exact ⟨by first | rfl | (simp; done) | (simp [*]; done),by repeat (first | exact Drawn0.refl _ | apply Drawn0.step)⟩
      ·rw [if_neg c16] at H
       have c16b0 : decide ((a0.size : Int) ≤ (wrap64 (x1_6 + 1))) = false := decide_eq_false c16
       clear c16
       obtain ⟨ji17,hji17⟩ : ∃ j_ : Int,(wrap64 (x1_6 + 1)) = j_ := ⟨_,rfl⟩
       replace H : (if 0 ≤ (ji17) then (if (ji17) < (a0.size : Int) then (if (Go.bits .or .i64 (wrap64 (x6_6 * 256)) (wrap64 (bt a0 (ji17)))) < (wrap64 (x7_6 + 128)) then (some (0,(-1))) else (some (Go.bits .or .i64 (wrap64 (x6_6 * 256)) (wrap64 (bt a0 (ji17))),wrap64 (x1_6 + 2)))) else (none)) else (none)) = some (r1,r2) := by first | (rw [hji17] at H; exact H) | (simp only [hji17] at H ⊢; exact H)
       (try rw [hji17] at c16b0)
       have hji17w : (IntKind.i64.wrap (x1_6 + 1)) = ji17 := (i64_w _).trans hji17
       by_cases c18 : 0 ≤ (ji17)
       ·rw [if_pos c18] at H
        have c18b0 : decide (0 ≤ (ji17)) = true := decide_eq_true c18
        clear c18
        by_cases c19 : (ji17) < (a0.size : Int)
        ·rw [if_pos c19] at H
         have c19b0 : decide ((ji17) < (a0.size : Int)) = true := decide_eq_true c19
         clear c19
         by_cases c21 : (Go.bits .or .i64 (wrap64 (x6_6 * 256)) (wrap64 (bt a0 (ji17)))) < (wrap64 (x7_6 + 128))
         ·rw [if_pos c21] at H
          have c21b0 : decide ((Go.bits .or .i64 (wrap64 (x6_6 * 256)) (wrap64 (bt a0 (ji17)))) < (wrap64 (x7_6 + 128))) = true := decide_eq_true c21
          clear c21
          simp only [Option.some.injEq,Prod.mk.injEq] at H
          obtain ⟨rfl,rfl⟩ := H
          have p20 : 0 ≤ ((ji17) : Int) := of_decide_eq_true (by first | (with_reducible assumption) | assumption)
          have q20 : (ji17) < (a0.size : Int) := of_decide_eq_true (by first | (with_reducible assumption) | assumption)
          have hx20 := bt_at a0 (ji17)
          replace p20 := eq_true p20
          replace q20 := eq_true q20
          go_wp2
          go_ret2
          exact ⟨by first | rfl | (simp; done) | (simp only [← hji17] <;> (first | rfl | simp)) | (simp [*]; done),by repeat (first | exact Drawn0.refl _ | apply Drawn0.step)⟩
         ·rw [if_neg c21] at H
          have c21b0 : decide ((Go.bits .or .i64 (wrap64 (x6_6 * 256)) (wrap64 (bt a0 (ji17)))) < (wrap64 (x7_6 + 128))) = false := decide_eq_false c21
          clear c21
          simp only [Option.some.injEq,Prod.mk.injEq] at H
          obtain ⟨rfl,rfl⟩ := H
          have p20 : 0 ≤ ((ji17) : Int) := of_decide_eq_true (by first | (with_reducible assumption) | assumption)
          have q20 : (ji17) < (a0.size : Int) := of_decide_eq_true (by first | (with_reducible assumption) | assumption)
          have hx20 := bt_at a0 (ji17)
          replace p20 := eq_true p20
          replace q20 := eq_true q20
          go_wp2
          go_ret2
          exact ⟨by first | rfl | (simp; done) | (simp only [← hji17] <;> (first | rfl | simp)) | (simp [*]; done),by repeat (first | exact Drawn0.refl _ | apply Drawn0.step)⟩
        ·rw [if_neg c19] at H
         exact absurd H (by simp)
       ·rw [if_neg c18] at H
        exact absurd H (by simp)
   ·rw [if_neg c5] at H
    exact absurd H (by simp)
  ·rw [if_neg c4] at H
   exact absurd H (by simp)

end Go.Proofs.Ytonemdclfgckoaa.X
