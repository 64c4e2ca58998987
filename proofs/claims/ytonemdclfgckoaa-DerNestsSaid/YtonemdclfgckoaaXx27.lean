-- Written by a program of this session (wip/tools/xprint.py), over the kit's printer.
import Derived.Test.YtonemdclfgckoaaXx0
import Derived.Test.YtonemdclfgckoaaXx1
import Derived.Test.YtonemdclfgckoaaXx3
import Derived.Test.YtonemdclfgckoaaXx16
import Derived.Test.YtonemdclfgckoaaXx19
import Derived.Test.YtonemdclfgckoaaXx20
namespace Go.Proofs.Ytonemdclfgckoaa.X
open Go.RowKit Go.Proofs.YtonemdclfgckoaaW.PrintWords Go.Proofs.YtonemdclfgckoaaW.PrintLast Go.Proofs.YtonemdclfgckoaaW.PrintMore
attribute [local go_sem] max2_int min2_int max_two min_two max_three min_three max_four min_four   -- for this text's walks alone
set_option linter.unusedVariables false
set_option linter.unusedSimpArgs false

attribute [local go_sem high] eqA40
/-! ### halberdlaw13_DerNests: function 9 -/
mutual
def halberdlaw13_DerNests.j0 : Nat → Int → Int → ByteArray → Option (Bool)
 | 0, _, _, _ => none
 | k + 1, x1, x2, x7 => halberdlaw13_DerNests.l0 k x7 (wrap64 (1 + (wrap64 (Int.tmod (IntKind.u64.wrap (x2)) 29)))) (Go.bits .and .i64 x1 63) x7 0
def halberdlaw13_DerNests.l0 : Nat → ByteArray → Int → Int → ByteArray → Int → Option (Bool)
 | 0, _, _, _, _, _ => none
 | k + 1, x7, x8, x9, x10, x11 => if x11 < x9 then ((der_Put.f k x8 (([x10] : List ByteArray))).bind fun bt510 => ((halberdlaw0_Num.f bt510.2).bind fun t512 => (if t512 = 0 then (halberdlaw13_DerNests.l0 k x7 x8 x9 bt510.1 (wrap64 (x11 + 1))) else (some false)))) else (halberdlaw13_DerNests.l1 k x7 x8 x9 x10 0)
def halberdlaw13_DerNests.l1 : Nat → ByteArray → Int → Int → ByteArray → Int → Option (Bool)
 | 0, _, _, _, _, _ => none
 | k + 1, x7, x8, x9, x10, x14 => if x14 < x9 then ((der_All.f k x10).bind fun bt513 => ((halberdlaw0_Num.f bt513.2).bind fun t517 => (if t517 = 0 then (if (bt513.1.length : Int) = 1 then (if 0 < (bt513.1.length : Int) then (if (!(((rd_T40 bt513.1 0).f0) == x8)) = true then (some false) else (halberdlaw13_DerNests.l1 k x7 x8 x9 ((rd_T40 bt513.1 0).f1) (wrap64 (x14 + 1)))) else (none)) else (some false)) else (some false)))) else (some (x10.toList == x7.toList))
end
def halberdlaw13_DerNests.f (k : Nat) (a0 : ByteArray) (a1 : Int) (a2 : Int) : Option (Bool) := (halberdlaw13_awake.f).bind fun t506 => (if t506 = true then (if (a0.size : Int) > 3000 then (if 0 ≤ 3000 then (if 3000 ≤ (a0.size : Int) then (halberdlaw13_DerNests.j0 k a1 a2 (a0.extract 0 3000)) else (none)) else (none)) else (halberdlaw13_DerNests.j0 k a1 a2 a0)) else (some false))
theorem halberdlaw13_DerNests.mono_l : ∀ k, (∀ y0 y1 y2, LeO (halberdlaw13_DerNests.j0 k y0 y1 y2) (halberdlaw13_DerNests.j0 (k + 1) y0 y1 y2)) ∧ (∀ y0 y1 y2 y3 y4, LeO (halberdlaw13_DerNests.l0 k y0 y1 y2 y3 y4) (halberdlaw13_DerNests.l0 (k + 1) y0 y1 y2 y3 y4)) ∧ (∀ y0 y1 y2 y3 y4, LeO (halberdlaw13_DerNests.l1 k y0 y1 y2 y3 y4) (halberdlaw13_DerNests.l1 (k + 1) y0 y1 y2 y3 y4))
 | 0 => ⟨fun _ _ _ r h => by simp [halberdlaw13_DerNests.j0] at h, fun _ _ _ _ _ r h => by simp [halberdlaw13_DerNests.l0] at h, fun _ _ _ _ _ r h => by simp [halberdlaw13_DerNests.l1] at h⟩
 | k + 1 => by
  obtain ⟨ih0, ih1, ih2⟩ := halberdlaw13_DerNests.mono_l k
  refine ⟨?_, ?_, ?_⟩
  ·intro y0 y1 y2
   unfold halberdlaw13_DerNests.j0
   repeat' first
   | (with_reducible exact ih0 _ _ _)
   | (with_reducible exact ih1 _ _ _ _ _)
   | (with_reducible exact ih2 _ _ _ _ _)
   | (with_reducible exact der_All.mono _ _)
   | (with_reducible exact der_Put.mono _ _ _)
   | (with_reducible exact LeO.refl _)
   | (with_reducible exact LeO.none _)
   | (with_reducible refine LeO.ite ?_ ?_)
   | (with_reducible refine LeO.bind ?_ (fun _ => ?_))
   | exact ih0 _ _ _
   | exact ih1 _ _ _ _ _
   | exact ih2 _ _ _ _ _
   | exact der_All.mono _ _
   | exact der_Put.mono _ _ _
   | exact LeO.none _
   | refine LeO.ite ?_ ?_
   | refine LeO.bind ?_ (fun _ => ?_)
  ·intro y0 y1 y2 y3 y4
   unfold halberdlaw13_DerNests.l0
   repeat' first
   | (with_reducible exact ih0 _ _ _)
   | (with_reducible exact ih1 _ _ _ _ _)
   | (with_reducible exact ih2 _ _ _ _ _)
   | (with_reducible exact der_All.mono _ _)
   | (with_reducible exact der_Put.mono _ _ _)
   | (with_reducible exact LeO.refl _)
   | (with_reducible exact LeO.none _)
   | (with_reducible refine LeO.ite ?_ ?_)
   | (with_reducible refine LeO.bind ?_ (fun _ => ?_))
   | exact ih0 _ _ _
   | exact ih1 _ _ _ _ _
   | exact ih2 _ _ _ _ _
   | exact der_All.mono _ _
   | exact der_Put.mono _ _ _
   | exact LeO.none _
   | refine LeO.ite ?_ ?_
   | refine LeO.bind ?_ (fun _ => ?_)
  ·intro y0 y1 y2 y3 y4
   unfold halberdlaw13_DerNests.l1
   repeat' first
   | (with_reducible exact ih0 _ _ _)
   | (with_reducible exact ih1 _ _ _ _ _)
   | (with_reducible exact ih2 _ _ _ _ _)
   | (with_reducible exact der_All.mono _ _)
   | (with_reducible exact der_Put.mono _ _ _)
   | (with_reducible exact LeO.refl _)
   | (with_reducible exact LeO.none _)
   | (with_reducible refine LeO.ite ?_ ?_)
   | (with_reducible refine LeO.bind ?_ (fun _ => ?_))
   | exact ih0 _ _ _
   | exact ih1 _ _ _ _ _
   | exact ih2 _ _ _ _ _
   | exact der_All.mono _ _
   | exact der_Put.mono _ _ _
   | exact LeO.none _
   | refine LeO.ite ?_ ?_
   | refine LeO.bind ?_ (fun _ => ?_)
theorem halberdlaw13_DerNests.mono : ∀ a0 a1 a2 k, LeO (halberdlaw13_DerNests.f k a0 a1 a2) (halberdlaw13_DerNests.f (k + 1) a0 a1 a2) := by
 intro a0 a1 a2 k
 obtain ⟨ih0, ih1, ih2⟩ := halberdlaw13_DerNests.mono_l k
 unfold halberdlaw13_DerNests.f
 repeat' first
   | (with_reducible exact ih0 _ _ _)
   | (with_reducible exact ih1 _ _ _ _ _)
   | (with_reducible exact ih2 _ _ _ _ _)
   | (with_reducible exact der_All.mono _ _)
   | (with_reducible exact der_Put.mono _ _ _)
   | (with_reducible exact LeO.refl _)
   | (with_reducible exact LeO.none _)
   | (with_reducible refine LeO.ite ?_ ?_)
   | (with_reducible refine LeO.bind ?_ (fun _ => ?_))
   | exact ih0 _ _ _
   | exact ih1 _ _ _ _ _
   | exact ih2 _ _ _ _ _
   | exact der_All.mono _ _
   | exact der_Put.mono _ _ _
   | exact LeO.none _
   | refine LeO.ite ?_ ?_
   | refine LeO.bind ?_ (fun _ => ?_)
set_option maxHeartbeats 8000000 in
set_option maxRecDepth 100000 in
theorem halberdlaw13_DerNests.calls (k : Nat) (a0 : ByteArray) (a1 : Int) (a2 : Int) (r : Bool) (w : World) (h : halberdlaw13_DerNests.f k a0 a1 a2 = some r) (hr : Aside0 (r = true)) :
  Calls Try.prog 9 #[.string a0, .int .i64 a1, .int .i64 a2] w fun e w' => e = .returned (.bool r) ∧ Below w.heap.size w w' := by
 have hu40 := Try.underlying40
 have HB := Aside0.mk (Below.refl w.heap.size w)
 have H : ((halberdlaw13_awake.f).bind fun t506 => (if t506 = true then (if (a0.size : Int) > 3000 then (if 0 ≤ 3000 then (if 3000 ≤ (a0.size : Int) then (halberdlaw13_DerNests.j0 k a1 a2 (a0.extract 0 3000)) else (none)) else (none)) else (halberdlaw13_DerNests.j0 k a1 a2 a0)) else (some false))) = some r := h
 clear h
 replace H := Option.bind_eq_some_iff.mp H
 obtain ⟨t506, A40, H⟩ := H
 replace H : (if t506 = true then (if (a0.size : Int) > 3000 then (if 0 ≤ 3000 then (if 3000 ≤ (a0.size : Int) then (halberdlaw13_DerNests.j0 k a1 a2 (a0.extract 0 3000)) else (none)) else (none)) else (halberdlaw13_DerNests.j0 k a1 a2 a0)) else (some false)) = some r := H
 have A4 := Aside0.mk A40
 clear A40
 by_cases c5 : t506 = true
 ·subst c5
  have H1 : (if (a0.size : Int) > 3000 then (if 0 ≤ 3000 then (if 3000 ≤ (a0.size : Int) then (halberdlaw13_DerNests.j0 k a1 a2 (a0.extract 0 3000)) else (none)) else (none)) else (halberdlaw13_DerNests.j0 k a1 a2 a0)) = some r := by rw [if_pos rfl] at H; exact H
  clear H
  have H := H1
  clear H1
  have HC6 := Aside0.mk H
  clear H
  go_enter Try.func9, Try.ntmps9
  go_upto_if 22 with (first | (go_at_call 17; (with_reducible refine (halberdlaw13_awake.calls  true _ A4.out).mono ?_); rintro e w7 ⟨rfl, hb⟩; have n0_ := Aside0.mk (below_step (by repeat (first | (with_reducible first | exact HB.out | apply below_alloc | apply pw_below_drewN | apply below_drew1) | exact HB.out)) hb); clear HB; have HB := n0_; clear n0_; (try clear hb); (try clear hb2); (try clear hk); (try clear hi)))
  repeat (go_quiet (first | (go_at_call 17; (with_reducible refine (halberdlaw13_awake.calls  true _ A4.out).mono ?_); rintro e w7 ⟨rfl, hb⟩; have n0_ := Aside0.mk (below_step (by repeat (first | (with_reducible first | exact HB.out | apply below_alloc | apply pw_below_drewN | apply below_drew1) | exact HB.out)) hb); clear HB; have HB := n0_; clear n0_; (try clear hb); (try clear hb2); (try clear hk); (try clear hi))); go_upto_if 22 with (first | (go_at_call 17; (with_reducible refine (halberdlaw13_awake.calls  true _ A4.out).mono ?_); rintro e w7 ⟨rfl, hb⟩; have n0_ := Aside0.mk (below_step (by repeat (first | (with_reducible first | exact HB.out | apply below_alloc | apply pw_below_drewN | apply below_drew1) | exact HB.out)) hb); clear HB; have HB := n0_; clear n0_; (try clear hb); (try clear hb2); (try clear hk); (try clear hi))))
  (try simp only [Act.put, List.setIfInBounds_toArray, List.set_cons_zero, List.set_cons_succ])
  go_cut [7] (fun v7 wc => ∃ (kq : Nat) (x7_5 : ByteArray), v7 = .string x7_5 ∧ Aside0 (halberdlaw13_DerNests.j0 kq a1 a2 x7_5 = some r) ∧ Aside0 (kq ≤ k) ∧ Aside0 (Below w.heap.size w wc))
  case first =>
   have H := HC6.out
   clear HC6
   by_cases c8 : (a0.size : Int) > 3000
   ·rw [if_pos c8] at H
    have c8b0 : decide (3000 < (a0.size : Int)) = true := decide_eq_true c8
    have c8b1 : decide (3000 < a0.size) = true := decide_eq_true (by omega)
    clear c8
    (first | rw [c8b0] | (simp only [i64_w, i32_w]; rw [c8b0]) | skip)
    by_cases c9 : 0 ≤ 3000
    ·rw [if_pos c9] at H
     have c9b0 := eq_true c9
     have c9b1 : decide (0 ≤ 3000) = true := decide_eq_true c9
     clear c9
     by_cases c10 : 3000 ≤ (a0.size : Int)
     ·rw [if_pos c10] at H
      have c10b0 := eq_true c10
      have c10b1 : decide (3000 ≤ (a0.size : Int)) = true := decide_eq_true c10
      clear c10
      have H' := Aside0.mk H
      clear H
      go_wp2
      repeat (go_quiet (fail); try go_wp2)
      go_meet
      case rel => exact ⟨_, (a0.extract 0 3000), (by first | rfl | (simp; done) | (simp [*]; done)), H', ⟨by first | omega | exact Nat.le_refl _⟩, ⟨by repeat (first | (with_reducible first | exact HB.out | apply below_alloc | apply pw_below_drewN | apply below_drew1) | exact HB.out)⟩⟩
     ·rw [if_neg c10] at H
      exact absurd H (by simp)
    ·rw [if_neg c9] at H
     exact absurd H (by simp)
   ·rw [if_neg c8] at H
    have c8b0 : decide (3000 < (a0.size : Int)) = false := decide_eq_false c8
    have c8b1 : decide (3000 < a0.size) = false := decide_eq_false (by omega)
    clear c8
    (first | rw [c8b0] | (simp only [i64_w, i32_w]; rw [c8b0]) | skip)
    have H' := Aside0.mk H
    clear H
    go_wp2
    repeat (go_quiet (fail); try go_wp2)
    go_meet
    case rel => exact ⟨_, (a0), (by first | rfl | (simp; done) | (simp [*]; done)), H', ⟨by first | omega | exact Nat.le_refl _⟩, ⟨by repeat (first | (with_reducible first | exact HB.out | apply below_alloc | apply pw_below_drewN | apply below_drew1) | exact HB.out)⟩⟩
  case rest =>
   clear HC6
   try clear c1
   try clear p2
   try clear c5
   try clear c8
   try clear c8b0
   try clear c8b1
   try clear c9
   try clear c9b0
   try clear c9b1
   try clear c10
   try clear c10b0
   try clear c10b1
   obtain ⟨kq, x7_5, rfl, HA, HJ5, HB⟩ := hcut
   cases kq with
   | zero => exact absurd HA.out (by simp [halberdlaw13_DerNests.j0])
   | succ kj5 =>
    have H := HA.out
    clear HA
    simp only [halberdlaw13_DerNests.j0] at H
    have H' := Aside0.mk H
    clear H
    go_wp2
    repeat (go_quiet (fail); try go_wp2)
    go_loopg [10, 11] kj5 (fun kq v10 v11 w' => ∃ (x10_2 : ByteArray) (x11_2 : Int), v10 = .string x10_2 ∧ v11 = .int .i64 x11_2 ∧ Aside0 (halberdlaw13_DerNests.l0 kq x7_5 (wrap64 (1 + (wrap64 (Int.tmod (IntKind.u64.wrap (a2)) 29)))) (Go.bits .and .i64 a1 63) x10_2 x11_2 = some r) ∧ Aside0 (kq ≤ kj5) ∧ Aside0 (Below w.heap.size w w'))
    case atStart => exact ⟨(x7_5), (0), (by first | rfl | (simp; done) | (simp [*]; done)), (by first | rfl | (simp; done) | (simp [*]; done)), H', ⟨Nat.le_refl _⟩, ⟨by repeat (first | (with_reducible first | exact HB.out | apply below_alloc | apply pw_below_drewN | apply below_drew1) | exact HB.out)⟩⟩
    case round =>
     clear H'
     try clear c1
     try clear p2
     try clear c5
     try clear p6
     try clear c8
     try clear c8b0
     try clear c8b1
     try clear c9
     try clear c9b0
     try clear c9b1
     try clear c10
     try clear c10b0
     try clear c10b1
     try clear p2
     obtain ⟨x10_2, x11_2, rfl, rfl, HA, HK2, HB⟩ := hrel
     cases gk with
     | zero => exact absurd HA.out (by simp [halberdlaw13_DerNests.l0])
     | succ k2 =>
      have H := HA.out
      clear HA
      simp only [halberdlaw13_DerNests.l0] at H
      by_cases c11 : x11_2 < (Go.bits .and .i64 a1 63)
      ·rw [if_pos c11] at H
       have c11b0 : decide (x11_2 < (Go.bits .and .i64 a1 63)) = true := decide_eq_true c11
       clear c11
       obtain ⟨y507, hy507⟩ : ∃ y_ : List ByteArray, y_ = (([x10_2] : List ByteArray)) := ⟨_, rfl⟩
       replace H : ((der_Put.f k2 (wrap64 (1 + (wrap64 (Int.tmod (IntKind.u64.wrap (a2)) 29)))) y507).bind fun bt510 => ((halberdlaw0_Num.f bt510.2).bind fun t512 => (if t512 = 0 then (halberdlaw13_DerNests.l0 k2 x7_5 (wrap64 (1 + (wrap64 (Int.tmod (IntKind.u64.wrap (a2)) 29)))) (Go.bits .and .i64 a1 63) bt510.1 (wrap64 (x11_2 + 1))) else (some false)))) = some r := by first | (rw [hy507]; with_reducible exact H) | (have H2_ := (Option.bind_some _ _).symm.trans H; rw [hy507]; with_reducible exact H2_) | (have H2_ := (Option.bind_some _ _).symm.trans H; with_reducible exact H2_) | with_reducible exact H | (rw [hy507]; exact H) | exact H
       have Ny507 := Aside0.mk hy507
       clear hy507
       replace H := Option.bind_eq_some_iff.mp H
       obtain ⟨⟨t510, t511⟩, A120, H⟩ := H
       replace H : ((halberdlaw0_Num.f t511).bind fun t512 => (if t512 = 0 then (halberdlaw13_DerNests.l0 k2 x7_5 (wrap64 (1 + (wrap64 (Int.tmod (IntKind.u64.wrap (a2)) 29)))) (Go.bits .and .i64 a1 63) t510 (wrap64 (x11_2 + 1))) else (some false))) = some r := H
       have A12 := Aside0.mk A120
       clear A120
       replace H := Option.bind_eq_some_iff.mp H
       obtain ⟨t512, A130, H⟩ := H
       replace H : (if t512 = 0 then (halberdlaw13_DerNests.l0 k2 x7_5 (wrap64 (1 + (wrap64 (Int.tmod (IntKind.u64.wrap (a2)) 29)))) (Go.bits .and .i64 a1 63) t510 (wrap64 (x11_2 + 1))) else (some false)) = some r := H
       have A13 := Aside0.mk A130
       clear A130
       by_cases c14 : t512 = 0
       ·rw [if_pos c14] at H
        have c14b0 : (t512 == 0) = true := beq_iff_eq.mpr c14
        have c14b1 : (t512 != 0) = false := bne_eq_false_iff_eq.mpr c14
        clear c14
        have H' := Aside0.mk H
        clear H
        go_wp2_with (first | ((with_reducible refine gate_dst (N := 41) rfl ?_); (try (refine gate_guard (by rfl) ?_; dsimp only)); refine Kd.R_lit Kd.string _ 9 ?hg (N := 41) ?hd (xs := ([x10_2] : List ByteArray)) (inner := [.string x10_2]) (ok := fun _ => True) (okp := fun _ => True) ?hr ?hp (fun _ hk => hk) trivial (Below.refl _ _) (Nat.le_refl _) (by simp) ?_; (case hd => rfl); (case hg => rfl); (case hr => first | (go_simp; done) | (go_simp; rfl)); (case hp => exact (Reps.one (show Kd.M Kd.string _ _ _ x10_2 [.string x10_2] from rfl) (Reps.none _ _))); intro v508 w15 ho16 hb hg_ hnew_; clear hg_ hnew_; (first | rw [← Ny507.out] at ho16 | (simp only [Int.reduceToNat] at ho16; rw [← Ny507.out] at ho16)); have n0_ := Aside0.mk (Kd.R_lower ho16 (below_size (by repeat (first | (with_reducible first | exact HB.out | apply below_alloc | apply pw_below_drewN | apply below_drew1) | exact HB.out)))); have n1_ := Aside0.mk (below_step (by repeat (first | (with_reducible first | exact HB.out | apply below_alloc | apply pw_below_drewN | apply below_drew1) | exact HB.out)) hb); clear HB; have HO509 := n0_; have HB := n1_; clear n0_ n1_; clear hb ho16; obtain ⟨Ao17, co17, eo17⟩ := Kd.R_slice HO509.out; subst eo17) | (go_at_call 18; (with_reducible refine (der_Put.calls k2 (wrap64 (1 + (wrap64 (Int.tmod (IntKind.u64.wrap (a2)) 29)))) _ _ y507 t510 t511 _ ?side1 ?side2 A12.out).mono ?_); (case side1 => repeat (first | exact (Kd.R_reads' HO509.out).2.2 | (with_reducible refine Kd.C_alloc ?_ _) | (with_reducible refine Kd.C_drewN ?_ _) | (with_reducible refine Kd.C_drew ?_))); (case side2 => exact (Kd.R_reads' HO509.out).2.1); rintro e w18 ⟨rfl, hb⟩; have n0_ := Aside0.mk (Kd.R_below (by (with_reducible repeat (first | apply Kd.R_alloc | apply Kd.R_drewN | apply Kd.R_drew)); exact HO509.out) hb); have n1_ := Aside0.mk (below_step (by repeat (first | (with_reducible first | exact HB.out | apply below_alloc | apply pw_below_drewN | apply below_drew1) | exact HB.out)) hb); clear HO509; clear HB; have HO509 := n0_; have HB := n1_; clear n0_ n1_; (try clear hb); (try clear hb2); (try clear hk); (try clear hi)) | (go_at_call 16; (with_reducible refine (halberdlaw0_Num.calls t511 t512 _ A13.out).mono ?_); rintro e w' ⟨rfl, ⟨nd, rfl⟩⟩; (try first | exact ⟨rfl, _, World.drewN_drewN _ _ _⟩ | exact ⟨rfl, _, Eq.trans (World.drewN_drewN _ _ _) (congrArg (World.drewN _) (Nat.add_assoc _ _ _))⟩)))
        repeat (go_quiet (first | ((with_reducible refine gate_dst (N := 41) rfl ?_); (try (refine gate_guard (by rfl) ?_; dsimp only)); refine Kd.R_lit Kd.string _ 9 ?hg (N := 41) ?hd (xs := ([x10_2] : List ByteArray)) (inner := [.string x10_2]) (ok := fun _ => True) (okp := fun _ => True) ?hr ?hp (fun _ hk => hk) trivial (Below.refl _ _) (Nat.le_refl _) (by simp) ?_; (case hd => rfl); (case hg => rfl); (case hr => first | (go_simp; done) | (go_simp; rfl)); (case hp => exact (Reps.one (show Kd.M Kd.string _ _ _ x10_2 [.string x10_2] from rfl) (Reps.none _ _))); intro v508 w15 ho16 hb hg_ hnew_; clear hg_ hnew_; (first | rw [← Ny507.out] at ho16 | (simp only [Int.reduceToNat] at ho16; rw [← Ny507.out] at ho16)); have n0_ := Aside0.mk (Kd.R_lower ho16 (below_size (by repeat (first | (with_reducible first | exact HB.out | apply below_alloc | apply pw_below_drewN | apply below_drew1) | exact HB.out)))); have n1_ := Aside0.mk (below_step (by repeat (first | (with_reducible first | exact HB.out | apply below_alloc | apply pw_below_drewN | apply below_drew1) | exact HB.out)) hb); clear HB; have HO509 := n0_; have HB := n1_; clear n0_ n1_; clear hb ho16; obtain ⟨Ao17, co17, eo17⟩ := Kd.R_slice HO509.out; subst eo17) | (go_at_call 18; (with_reducible refine (der_Put.calls k2 (wrap64 (1 + (wrap64 (Int.tmod (IntKind.u64.wrap (a2)) 29)))) _ _ y507 t510 t511 _ ?side1 ?side2 A12.out).mono ?_); (case side1 => repeat (first | exact (Kd.R_reads' HO509.out).2.2 | (with_reducible refine Kd.C_alloc ?_ _) | (with_reducible refine Kd.C_drewN ?_ _) | (with_reducible refine Kd.C_drew ?_))); (case side2 => exact (Kd.R_reads' HO509.out).2.1); rintro e w18 ⟨rfl, hb⟩; have n0_ := Aside0.mk (Kd.R_below (by (with_reducible repeat (first | apply Kd.R_alloc | apply Kd.R_drewN | apply Kd.R_drew)); exact HO509.out) hb); have n1_ := Aside0.mk (below_step (by repeat (first | (with_reducible first | exact HB.out | apply below_alloc | apply pw_below_drewN | apply below_drew1) | exact HB.out)) hb); clear HO509; clear HB; have HO509 := n0_; have HB := n1_; clear n0_ n1_; (try clear hb); (try clear hb2); (try clear hk); (try clear hi)) | (go_at_call 16; (with_reducible refine (halberdlaw0_Num.calls t511 t512 _ A13.out).mono ?_); rintro e w' ⟨rfl, ⟨nd, rfl⟩⟩; (try first | exact ⟨rfl, _, World.drewN_drewN _ _ _⟩ | exact ⟨rfl, _, Eq.trans (World.drewN_drewN _ _ _) (congrArg (World.drewN _) (Nat.add_assoc _ _ _))⟩))); try go_wp2_with (first | ((with_reducible refine gate_dst (N := 41) rfl ?_); (try (refine gate_guard (by rfl) ?_; dsimp only)); refine Kd.R_lit Kd.string _ 9 ?hg (N := 41) ?hd (xs := ([x10_2] : List ByteArray)) (inner := [.string x10_2]) (ok := fun _ => True) (okp := fun _ => True) ?hr ?hp (fun _ hk => hk) trivial (Below.refl _ _) (Nat.le_refl _) (by simp) ?_; (case hd => rfl); (case hg => rfl); (case hr => first | (go_simp; done) | (go_simp; rfl)); (case hp => exact (Reps.one (show Kd.M Kd.string _ _ _ x10_2 [.string x10_2] from rfl) (Reps.none _ _))); intro v508 w15 ho16 hb hg_ hnew_; clear hg_ hnew_; (first | rw [← Ny507.out] at ho16 | (simp only [Int.reduceToNat] at ho16; rw [← Ny507.out] at ho16)); have n0_ := Aside0.mk (Kd.R_lower ho16 (below_size (by repeat (first | (with_reducible first | exact HB.out | apply below_alloc | apply pw_below_drewN | apply below_drew1) | exact HB.out)))); have n1_ := Aside0.mk (below_step (by repeat (first | (with_reducible first | exact HB.out | apply below_alloc | apply pw_below_drewN | apply below_drew1) | exact HB.out)) hb); clear HB; have HO509 := n0_; have HB := n1_; clear n0_ n1_; clear hb ho16; obtain ⟨Ao17, co17, eo17⟩ := Kd.R_slice HO509.out; subst eo17) | (go_at_call 18; (with_reducible refine (der_Put.calls k2 (wrap64 (1 + (wrap64 (Int.tmod (IntKind.u64.wrap (a2)) 29)))) _ _ y507 t510 t511 _ ?side1 ?side2 A12.out).mono ?_); (case side1 => repeat (first | exact (Kd.R_reads' HO509.out).2.2 | (with_reducible refine Kd.C_alloc ?_ _) | (with_reducible refine Kd.C_drewN ?_ _) | (with_reducible refine Kd.C_drew ?_))); (case side2 => exact (Kd.R_reads' HO509.out).2.1); rintro e w18 ⟨rfl, hb⟩; have n0_ := Aside0.mk (Kd.R_below (by (with_reducible repeat (first | apply Kd.R_alloc | apply Kd.R_drewN | apply Kd.R_drew)); exact HO509.out) hb); have n1_ := Aside0.mk (below_step (by repeat (first | (with_reducible first | exact HB.out | apply below_alloc | apply pw_below_drewN | apply below_drew1) | exact HB.out)) hb); clear HO509; clear HB; have HO509 := n0_; have HB := n1_; clear n0_ n1_; (try clear hb); (try clear hb2); (try clear hk); (try clear hi)) | (go_at_call 16; (with_reducible refine (halberdlaw0_Num.calls t511 t512 _ A13.out).mono ?_); rintro e w' ⟨rfl, ⟨nd, rfl⟩⟩; (try first | exact ⟨rfl, _, World.drewN_drewN _ _ _⟩ | exact ⟨rfl, _, Eq.trans (World.drewN_drewN _ _ _) (congrArg (World.drewN _) (Nat.add_assoc _ _ _))⟩))))
        go_roundg k2
        case measure => have := HJ5.out; have := HK2.out; omega
        case rel => exact ⟨(t510), (wrap64 (x11_2 + 1)), (by first | rfl | (simp; done) | (simp [*]; done)), (by first | rfl | (simp; done) | (simp [*]; done)), H', ⟨by have := HJ5.out; have := HK2.out; omega⟩, ⟨by repeat (first | (with_reducible first | exact HB.out | apply below_alloc | apply pw_below_drewN | apply below_drew1) | exact HB.out)⟩⟩
       ·rw [if_neg c14] at H
        have c14b0 : (t512 == 0) = false := beq_eq_false_iff_ne.mpr c14
        have c14b1 : (t512 != 0) = true := bne_iff_ne.mpr c14
        exact absurd ((Option.some.inj H).trans hr.out) (by decide)
      ·rw [if_neg c11] at H
       have c11b0 : decide (x11_2 < (Go.bits .and .i64 a1 63)) = false := decide_eq_false c11
       clear c11
       have H' := Aside0.mk H
       clear H
       go_wp2
       repeat (go_quiet (fail); try go_wp2)
       go_loopg [10, 14] k2 (fun kq v10 v14 w' => ∃ (x10_3 : ByteArray) (x14_3 : Int), v10 = .string x10_3 ∧ v14 = .int .i64 x14_3 ∧ Aside0 (halberdlaw13_DerNests.l1 kq x7_5 (wrap64 (1 + (wrap64 (Int.tmod (IntKind.u64.wrap (a2)) 29)))) (Go.bits .and .i64 a1 63) x10_3 x14_3 = some r) ∧ Aside0 (kq ≤ k2) ∧ Aside0 (Below w.heap.size w w'))
       case atStart => exact ⟨(x10_2), (0), (by first | rfl | (simp; done) | (simp [*]; done)), (by first | rfl | (simp; done) | (simp [*]; done)), H', ⟨Nat.le_refl _⟩, ⟨by repeat (first | (with_reducible first | exact HB.out | apply below_alloc | apply pw_below_drewN | apply below_drew1) | exact HB.out)⟩⟩
       case round =>
        clear H'
        try clear c1
        try clear p2
        try clear c5
        try clear p6
        try clear c8
        try clear c8b0
        try clear c8b1
        try clear c9
        try clear c9b0
        try clear c9b1
        try clear c10
        try clear c10b0
        try clear c10b1
        try clear c11
        try clear c11b0
        try clear c14
        try clear c14b0
        try clear c14b1
        try clear p2
        try clear p6
        obtain ⟨x10_3, x14_3, rfl, rfl, HA, HK3, HB⟩ := hrel
        cases gk with
        | zero => exact absurd HA.out (by simp [halberdlaw13_DerNests.l1])
        | succ k3 =>
         have H := HA.out
         clear HA
         simp only [halberdlaw13_DerNests.l1] at H
         by_cases c19 : x14_3 < (Go.bits .and .i64 a1 63)
         ·rw [if_pos c19] at H
          have c19b0 : decide (x14_3 < (Go.bits .and .i64 a1 63)) = true := decide_eq_true c19
          clear c19
          replace H := Option.bind_eq_some_iff.mp H
          obtain ⟨⟨t513, t514⟩, A200, H⟩ := H
          replace H : ((halberdlaw0_Num.f t514).bind fun t517 => (if t517 = 0 then (if (t513.length : Int) = 1 then (if 0 < (t513.length : Int) then (if (!(((rd_T40 t513 0).f0) == (wrap64 (1 + (wrap64 (Int.tmod (IntKind.u64.wrap (a2)) 29)))))) = true then (some false) else (halberdlaw13_DerNests.l1 k3 x7_5 (wrap64 (1 + (wrap64 (Int.tmod (IntKind.u64.wrap (a2)) 29)))) (Go.bits .and .i64 a1 63) ((rd_T40 t513 0).f1) (wrap64 (x14_3 + 1)))) else (none)) else (some false)) else (some false))) = some r := H
          have A20 := Aside0.mk A200
          clear A200
          replace H := Option.bind_eq_some_iff.mp H
          obtain ⟨t517, A210, H⟩ := H
          replace H : (if t517 = 0 then (if (t513.length : Int) = 1 then (if 0 < (t513.length : Int) then (if (!(((rd_T40 t513 0).f0) == (wrap64 (1 + (wrap64 (Int.tmod (IntKind.u64.wrap (a2)) 29)))))) = true then (some false) else (halberdlaw13_DerNests.l1 k3 x7_5 (wrap64 (1 + (wrap64 (Int.tmod (IntKind.u64.wrap (a2)) 29)))) (Go.bits .and .i64 a1 63) ((rd_T40 t513 0).f1) (wrap64 (x14_3 + 1)))) else (none)) else (some false)) else (some false)) = some r := H
          have A21 := Aside0.mk A210
          clear A210
          by_cases c22 : t517 = 0
          ·rw [if_pos c22] at H
           have c22b0 : (t517 == 0) = true := beq_iff_eq.mpr c22
           have c22b1 : (t517 != 0) = false := bne_eq_false_iff_eq.mpr c22
           clear c22
           by_cases c23 : (t513.length : Int) = 1
           ·rw [if_pos c23] at H
            have c23b0 : ((t513.length : Int) == 1) = true := beq_iff_eq.mpr c23
            have c23b1 : ((t513.length : Int) != 1) = false := bne_eq_false_iff_eq.mpr c23
            clear c23
            by_cases c24 : 0 < (t513.length : Int)
            ·rw [if_pos c24] at H
             have c24b0 : decide (0 < (t513.length : Int)) = true := decide_eq_true c24
             have c24b1 : decide (0 < t513.length) = true := decide_eq_true (by omega)
             clear c24
             by_cases c25 : (!(((rd_T40 t513 0).f0) == (wrap64 (1 + (wrap64 (Int.tmod (IntKind.u64.wrap (a2)) 29)))))) = true
             ·rw [if_pos c25] at H
              have c25b0 : (!(((rd_T40 t513 0).f0) == (wrap64 (1 + (wrap64 (Int.tmod (IntKind.u64.wrap (a2)) 29)))))) = true := c25
              clear c25
              exact absurd ((Option.some.inj H).trans hr.out) (by decide)
             ·rw [if_neg c25] at H
              have c25b0 : (!(((rd_T40 t513 0).f0) == (wrap64 (1 + (wrap64 (Int.tmod (IntKind.u64.wrap (a2)) 29)))))) = false := by simpa using c25
              clear c25
              have H' := Aside0.mk H
              clear H
              go_wp2_with (first | (go_at_call 20; (with_reducible refine (der_All.calls k3 x10_3 t513 t514 _ A20.out).mono ?_); rintro e w26 ⟨v515, rfl, ho0, hb⟩; have n0_ := Aside0.mk (Kd.R_lower ho0 (below_size (by repeat (first | (with_reducible first | exact HB.out | apply below_alloc | apply pw_below_drewN | apply below_drew1) | exact HB.out)))); have n1_ := Aside0.mk (below_step (by repeat (first | (with_reducible first | exact HB.out | apply below_alloc | apply pw_below_drewN | apply below_drew1) | exact HB.out)) hb); clear HB; have HO516 := n0_; have HB := n1_; clear n0_ n1_; (try clear hb); (try clear hb2); (try clear hk); (try clear hi); (try clear ho0)) | (go_at_call 16; (with_reducible refine (halberdlaw0_Num.calls t514 t517 _ A21.out).mono ?_); rintro e w' ⟨rfl, ⟨nd, rfl⟩⟩; (try first | exact ⟨rfl, _, World.drewN_drewN _ _ _⟩ | exact ⟨rfl, _, Eq.trans (World.drewN_drewN _ _ _) (congrArg (World.drewN _) (Nat.add_assoc _ _ _))⟩); obtain ⟨Ao27, co27, eo27⟩ := Kd.R_slice HO516.out; subst eo27; have p518 : 0 ≤ (0 : Int) := (by omega); have q518 : 0 < (t513.length : Int) := of_decide_eq_true (by first | (with_reducible assumption) | assumption); obtain ⟨ad518, e518, hx518_0, hx518_1⟩ := at_T40 (Kd.R_reads' HO516.out).2.2 0 p518 q518; cases e518; have qi518 : (0 < t513.length) = True := eq_true (by omega); (try rw [show ((0 : Int)).toNat = 0 from rfl] at hx518_0); (try rw [show 0 * 2 = 0 from rfl] at hx518_0); (try rw [Addr.add_zero'] at hx518_0); (try rw [show ((0 : Int)).toNat = 0 from rfl] at hx518_1); (try rw [show 0 * 2 = 0 from rfl] at hx518_1); (try rw [Addr.add_zero'] at hx518_1); replace p518 := eq_true p518; replace q518 := eq_true q518; have p519 : 0 ≤ (0 : Int) := (by omega); have q519 : 0 < (t513.length : Int) := of_decide_eq_true (by first | (with_reducible assumption) | assumption); obtain ⟨ad519, e519, hx519_0, hx519_1⟩ := at_T40 (Kd.R_reads' HO516.out).2.2 0 p519 q519; obtain rfl : ad518 = ad519 := (by injection e519); have qi519 : (0 < t513.length) = True := eq_true (by omega); (try rw [show ((0 : Int)).toNat = 0 from rfl] at hx519_0); (try rw [show 0 * 2 = 0 from rfl] at hx519_0); (try rw [Addr.add_zero'] at hx519_0); (try rw [show ((0 : Int)).toNat = 0 from rfl] at hx519_1); (try rw [show 0 * 2 = 0 from rfl] at hx519_1); (try rw [Addr.add_zero'] at hx519_1); replace p519 := eq_true p519; replace q519 := eq_true q519; have p520 : 0 ≤ (0 : Int) := (by omega); have q520 : 0 < (t513.length : Int) := of_decide_eq_true (by first | (with_reducible assumption) | assumption); obtain ⟨ad520, e520, hx520_0, hx520_1⟩ := at_T40 (Kd.R_reads' HO516.out).2.2 0 p520 q520; obtain rfl : ad518 = ad520 := (by injection e520); have qi520 : (0 < t513.length) = True := eq_true (by omega); (try rw [show ((0 : Int)).toNat = 0 from rfl] at hx520_0); (try rw [show 0 * 2 = 0 from rfl] at hx520_0); (try rw [Addr.add_zero'] at hx520_0); (try rw [show ((0 : Int)).toNat = 0 from rfl] at hx520_1); (try rw [show 0 * 2 = 0 from rfl] at hx520_1); (try rw [Addr.add_zero'] at hx520_1); replace p520 := eq_true p520; replace q520 := eq_true q520))
              repeat (go_quiet (first | (go_at_call 20; (with_reducible refine (der_All.calls k3 x10_3 t513 t514 _ A20.out).mono ?_); rintro e w26 ⟨v515, rfl, ho0, hb⟩; have n0_ := Aside0.mk (Kd.R_lower ho0 (below_size (by repeat (first | (with_reducible first | exact HB.out | apply below_alloc | apply pw_below_drewN | apply below_drew1) | exact HB.out)))); have n1_ := Aside0.mk (below_step (by repeat (first | (with_reducible first | exact HB.out | apply below_alloc | apply pw_below_drewN | apply below_drew1) | exact HB.out)) hb); clear HB; have HO516 := n0_; have HB := n1_; clear n0_ n1_; (try clear hb); (try clear hb2); (try clear hk); (try clear hi); (try clear ho0)) | (go_at_call 16; (with_reducible refine (halberdlaw0_Num.calls t514 t517 _ A21.out).mono ?_); rintro e w' ⟨rfl, ⟨nd, rfl⟩⟩; (try first | exact ⟨rfl, _, World.drewN_drewN _ _ _⟩ | exact ⟨rfl, _, Eq.trans (World.drewN_drewN _ _ _) (congrArg (World.drewN _) (Nat.add_assoc _ _ _))⟩); obtain ⟨Ao27, co27, eo27⟩ := Kd.R_slice HO516.out; subst eo27; have p518 : 0 ≤ (0 : Int) := (by omega); have q518 : 0 < (t513.length : Int) := of_decide_eq_true (by first | (with_reducible assumption) | assumption); obtain ⟨ad518, e518, hx518_0, hx518_1⟩ := at_T40 (Kd.R_reads' HO516.out).2.2 0 p518 q518; cases e518; have qi518 : (0 < t513.length) = True := eq_true (by omega); (try rw [show ((0 : Int)).toNat = 0 from rfl] at hx518_0); (try rw [show 0 * 2 = 0 from rfl] at hx518_0); (try rw [Addr.add_zero'] at hx518_0); (try rw [show ((0 : Int)).toNat = 0 from rfl] at hx518_1); (try rw [show 0 * 2 = 0 from rfl] at hx518_1); (try rw [Addr.add_zero'] at hx518_1); replace p518 := eq_true p518; replace q518 := eq_true q518; have p519 : 0 ≤ (0 : Int) := (by omega); have q519 : 0 < (t513.length : Int) := of_decide_eq_true (by first | (with_reducible assumption) | assumption); obtain ⟨ad519, e519, hx519_0, hx519_1⟩ := at_T40 (Kd.R_reads' HO516.out).2.2 0 p519 q519; obtain rfl : ad518 = ad519 := (by injection e519); have qi519 : (0 < t513.length) = True := eq_true (by omega); (try rw [show ((0 : Int)).toNat = 0 from rfl] at hx519_0); (try rw [show 0 * 2 = 0 from rfl] at hx519_0); (try rw [Addr.add_zero'] at hx519_0); (try rw [show ((0 : Int)).toNat = 0 from rfl] at hx519_1); (try rw [show 0 * 2 = 0 from rfl] at hx519_1); (try rw [Addr.add_zero'] at hx519_1); replace p519 := eq_true p519; replace q519 := eq_true q519; have p520 : 0 ≤ (0 : Int) := (by omega); have q520 : 0 < (t513.length : Int) := of_decide_eq_true (by first | (with_reducible assumption) | assumption); obtain ⟨ad520, e520, hx520_0, hx520_1⟩ := at_T40 (Kd.R_reads' HO516.out).2.2 0 p520 q520; obtain rfl : ad518 = ad520 := (by injection e520); have qi520 : (0 < t513.length) = True := eq_true (by omega); (try rw [show ((0 : Int)).toNat = 0 from rfl] at hx520_0); (try rw [show 0 * 2 = 0 from rfl] at hx520_0); (try rw [Addr.add_zero'] at hx520_0); (try rw [show ((0 : Int)).toNat = 0 from rfl] at hx520_1); (try rw [show 0 * 2 = 0 from rfl] at hx520_1); (try rw [Addr.add_zero'] at hx520_1); replace p520 := eq_true p520; replace q520 := eq_true q520)); try go_wp2_with (first | (go_at_call 20; (with_reducible refine (der_All.calls k3 x10_3 t513 t514 _ A20.out).mono ?_); rintro e w26 ⟨v515, rfl, ho0, hb⟩; have n0_ := Aside0.mk (Kd.R_lower ho0 (below_size (by repeat (first | (with_reducible first | exact HB.out | apply below_alloc | apply pw_below_drewN | apply below_drew1) | exact HB.out)))); have n1_ := Aside0.mk (below_step (by repeat (first | (with_reducible first | exact HB.out | apply below_alloc | apply pw_below_drewN | apply below_drew1) | exact HB.out)) hb); clear HB; have HO516 := n0_; have HB := n1_; clear n0_ n1_; (try clear hb); (try clear hb2); (try clear hk); (try clear hi); (try clear ho0)) | (go_at_call 16; (with_reducible refine (halberdlaw0_Num.calls t514 t517 _ A21.out).mono ?_); rintro e w' ⟨rfl, ⟨nd, rfl⟩⟩; (try first | exact ⟨rfl, _, World.drewN_drewN _ _ _⟩ | exact ⟨rfl, _, Eq.trans (World.drewN_drewN _ _ _) (congrArg (World.drewN _) (Nat.add_assoc _ _ _))⟩); obtain ⟨Ao27, co27, eo27⟩ := Kd.R_slice HO516.out; subst eo27; have p518 : 0 ≤ (0 : Int) := (by omega); have q518 : 0 < (t513.length : Int) := of_decide_eq_true (by first | (with_reducible assumption) | assumption); obtain ⟨ad518, e518, hx518_0, hx518_1⟩ := at_T40 (Kd.R_reads' HO516.out).2.2 0 p518 q518; cases e518; have qi518 : (0 < t513.length) = True := eq_true (by omega); (try rw [show ((0 : Int)).toNat = 0 from rfl] at hx518_0); (try rw [show 0 * 2 = 0 from rfl] at hx518_0); (try rw [Addr.add_zero'] at hx518_0); (try rw [show ((0 : Int)).toNat = 0 from rfl] at hx518_1); (try rw [show 0 * 2 = 0 from rfl] at hx518_1); (try rw [Addr.add_zero'] at hx518_1); replace p518 := eq_true p518; replace q518 := eq_true q518; have p519 : 0 ≤ (0 : Int) := (by omega); have q519 : 0 < (t513.length : Int) := of_decide_eq_true (by first | (with_reducible assumption) | assumption); obtain ⟨ad519, e519, hx519_0, hx519_1⟩ := at_T40 (Kd.R_reads' HO516.out).2.2 0 p519 q519; obtain rfl : ad518 = ad519 := (by injection e519); have qi519 : (0 < t513.length) = True := eq_true (by omega); (try rw [show ((0 : Int)).toNat = 0 from rfl] at hx519_0); (try rw [show 0 * 2 = 0 from rfl] at hx519_0); (try rw [Addr.add_zero'] at hx519_0); (try rw [show ((0 : Int)).toNat = 0 from rfl] at hx519_1); (try rw [show 0 * 2 = 0 from rfl] at hx519_1); (try rw [Addr.add_zero'] at hx519_1); replace p519 := eq_true p519; replace q519 := eq_true q519; have p520 : 0 ≤ (0 : Int) := (by omega); have q520 : 0 < (t513.length : Int) := of_decide_eq_true (by first | (with_reducible assumption) | assumption); obtain ⟨ad520, e520, hx520_0, hx520_1⟩ := at_T40 (Kd.R_reads' HO516.out).2.2 0 p520 q520; obtain rfl : ad518 = ad520 := (by injection e520); have qi520 : (0 < t513.length) = True := eq_true (by omega); (try rw [show ((0 : Int)).toNat = 0 from rfl] at hx520_0); (try rw [show 0 * 2 = 0 from rfl] at hx520_0); (try rw [Addr.add_zero'] at hx520_0); (try rw [show ((0 : Int)).toNat = 0 from rfl] at hx520_1); (try rw [show 0 * 2 = 0 from rfl] at hx520_1); (try rw [Addr.add_zero'] at hx520_1); replace p520 := eq_true p520; replace q520 := eq_true q520)))
              go_roundg k3
              case measure => have := HJ5.out; have := HK2.out; have := HK3.out; omega
              case rel => exact ⟨((rd_T40 t513 0).f1), (wrap64 (x14_3 + 1)), (by first | rfl | (simp; done) | (simp [*]; done)), (by first | rfl | (simp; done) | (simp [*]; done)), H', ⟨by have := HJ5.out; have := HK2.out; have := HK3.out; omega⟩, ⟨by repeat (first | (with_reducible first | exact HB.out | apply below_alloc | apply pw_below_drewN | apply below_drew1) | exact HB.out)⟩⟩
            ·rw [if_neg c24] at H
             exact absurd H (by simp)
           ·rw [if_neg c23] at H
            have c23b0 : ((t513.length : Int) == 1) = false := beq_eq_false_iff_ne.mpr c23
            have c23b1 : ((t513.length : Int) != 1) = true := bne_iff_ne.mpr c23
            exact absurd ((Option.some.inj H).trans hr.out) (by decide)
          ·rw [if_neg c22] at H
           have c22b0 : (t517 == 0) = false := beq_eq_false_iff_ne.mpr c22
           have c22b1 : (t517 != 0) = true := bne_iff_ne.mpr c22
           exact absurd ((Option.some.inj H).trans hr.out) (by decide)
         ·rw [if_neg c19] at H
          have c19b0 : decide (x14_3 < (Go.bits .and .i64 a1 63)) = false := decide_eq_false c19
          clear c19
          obtain rfl := Option.some.inj H
          go_wp2
          repeat (go_quiet (fail); try go_wp2)
          go_ret
          exact ⟨by first | rfl | (simp [errW_none, errW_some] <;> rfl) | (simp [*, errW_none, errW_some] <;> rfl), by repeat (first | (with_reducible first | exact HB.out | apply below_alloc | apply pw_below_drewN | apply below_drew1) | exact HB.out)⟩
 ·replace c5 := Bool.eq_false_iff.mpr c5
  subst c5
  have H1 : (some false) = some r := by rw [if_neg (show ¬ (false = true) by decide)] at H; exact H
  clear H
  have H := H1
  clear H1
  exact absurd ((Option.some.inj H).trans hr.out) (by decide)

/-- THE ONE PURE STATEMENT of halberdlaw13_DerNests: yours. -/
def halberdlaw13_DerNests.Pure : Prop := ∀ (a0 : ByteArray) (a1 : Int) (a2 : Int), a0.size ≤ 140737488351232 → (Lit.int .i64 a1).wf = true → (Lit.int .i64 a2).wf = true → ∃ k, halberdlaw13_DerNests.f k a0 a1 a2 = some true
theorem halberdlaw13_DerNests.walk (P : halberdlaw13_DerNests.Pure) (a0 : ByteArray) (a1 : Int) (a2 : Int) (w : World) (w0 : a0.size ≤ 140737488351232) (w1 : (Lit.int .i64 a1).wf = true) (w2 : (Lit.int .i64 a2).wf = true) :
  Calls Try.prog 9 #[.string a0, .int .i64 a1, .int .i64 a2] w fun e w' => e = .returned (.bool true) ∧ Below w.heap.size w w' := by
 obtain ⟨k, h⟩ := P a0 a1 a2 w0 w1 w2
 refine (halberdlaw13_DerNests.calls k a0 a1 a2 true w h ⟨rfl⟩).mono ?_
 rintro e w' ⟨rfl, hd⟩
 exact ⟨rfl, hd⟩

end Go.Proofs.Ytonemdclfgckoaa.X
