-- Written by a program of this session (wip/tools/xprint.py), over the kit's printer.
import Derived.Test.YtocckplgjbhlbaaPx0
import Derived.Test.YtocckplgjbhlbaaPx1
import Derived.Test.YtocckplgjbhlbaaPx2
import Derived.Test.YtocckplgjbhlbaaPx4
namespace Go.Proofs.Ytocckplgjbhlbaa.P
open Go.RowKit Go.Proofs.YtocckplgjbhlbaaW.PrintWords Go.Proofs.YtocckplgjbhlbaaW.PrintLast Go.Proofs.YtocckplgjbhlbaaW.PrintMore
attribute [local go_sem] max2_int min2_int max_two min_two max_three min_three max_four min_four   -- for this text's walks alone
set_option linter.unusedVariables false
set_option linter.unusedSimpArgs false

/-! ### halberdlaw7_PolyParts: function 11 -/
mutual
def halberdlaw7_PolyParts.j0 : Nat → ByteArray → ByteArray → ByteArray → Bool → Option (Bool)
  | 0, _, _, _, _ => none
  | k + 1, x0, x1, x2, x30 => if x30 = true then (some true) else (if 44 ≤ 281474976710656 then (halberdlaw7_PolyParts.l0 k x0 x1 x2 (List.replicate 44 0) 0) else (none))
def halberdlaw7_PolyParts.j2 : Nat → ByteArray → ByteArray → List Int → Option (Bool)
  | 0, _, _, _ => none
  | k + 1, x1, x2, x7 => if 32 ≤ (x7.length : Int) then ((some (x7.take 32 : List Int)).bind fun y199 => ((some (x7.drop 32 : List Int)).bind fun y203 => ((poly_Seal.f (strOfNums y199) (strOfNums y203) x1 x2).bind fun bt207 => ((chacha_Xor.f (strOfNums y199) 1 (strOfNums y203) x2).bind fun bt209 => ((chacha_Block.f (strOfNums y199) 0 (strOfNums y203)).bind fun bt211 => ((halberdlaw0_Num.f bt207.2).bind fun t213 => (if t213 = 0 then ((halberdlaw0_Num.f bt209.2).bind fun t214 => (if t214 = 0 then ((halberdlaw0_Num.f bt211.2).bind fun t215 => (if t215 = 0 then (halberdlaw7_PolyParts.j3 k x1 x2 bt207.1 bt209.1 bt211.1 ((bt211.1.size : Int) != 64)) else (halberdlaw7_PolyParts.j3 k x1 x2 bt207.1 bt209.1 bt211.1 true))) else (halberdlaw7_PolyParts.j3 k x1 x2 bt207.1 bt209.1 bt211.1 true))) else (halberdlaw7_PolyParts.j3 k x1 x2 bt207.1 bt209.1 bt211.1 true)))))))) else (none)
def halberdlaw7_PolyParts.j3 : Nat → ByteArray → ByteArray → ByteArray → ByteArray → ByteArray → Bool → Option (Bool)
  | 0, _, _, _, _, _, _ => none
  | k + 1, x1, x2, x11, x13, x15, x92 => if x92 = true then (some false) else ((some (([(Go.bits .and .i64 (x1.size : Int) 255) % 256, ((x1.size : Int) / 256) % 256, 0, 0, 0, 0, 0, 0, (Go.bits .and .i64 (x2.size : Int) 255) % 256, ((x2.size : Int) / 256) % 256, 0, 0, 0, 0, 0, 0] : List Int) : List Int)).bind fun y216 => (if 0 ≤ ((16 - ((x1.size : Int) % 16)) % 16) then (if ((16 - ((x1.size : Int) % 16)) % 16 : Int).toNat ≤ 281474976710656 then ((some (List.replicate ((16 - ((x1.size : Int) % 16)) % 16 : Int).toNat 0 : List Int)).bind fun y219 => (if x1.size + (strOfNums y219).size ≤ 9223372036854775807 then ((some (x1 ++ (strOfNums y219) : ByteArray)).bind fun ys222 => (if ys222.size + x13.size ≤ 9223372036854775807 then ((some (ys222 ++ x13 : ByteArray)).bind fun ys223 => (if 0 ≤ ((16 - ((x13.size : Int) % 16)) % 16) then (if ((16 - ((x13.size : Int) % 16)) % 16 : Int).toNat ≤ 281474976710656 then ((some (List.replicate ((16 - ((x13.size : Int) % 16)) % 16 : Int).toNat 0 : List Int)).bind fun y224 => (if ys223.size + (strOfNums y224).size ≤ 9223372036854775807 then ((some (ys223 ++ (strOfNums y224) : ByteArray)).bind fun ys227 => (if ys227.size + (strOfNums y216).size ≤ 9223372036854775807 then (if 0 ≤ 32 then (if 32 ≤ (x15.size : Int) then ((poly_Mac.f (x15.extract 0 32) (ys227 ++ (strOfNums y216))).bind fun bt229 => ((halberdlaw0_Num.f bt229.2).bind fun t231 => (if t231 = 0 then (if x13.size + bt229.1.size ≤ 9223372036854775807 then (some (x11.toList == (x13 ++ bt229.1).toList)) else (none)) else (some false)))) else (none)) else (none)) else (none))) else (none))) else (none)) else (none))) else (none))) else (none))) else (none)) else (none)))
def halberdlaw7_PolyParts.l0 : Nat → ByteArray → ByteArray → ByteArray → List Int → Int → Option (Bool)
  | 0, _, _, _, _, _ => none
  | k + 1, x0, x1, x2, x7, x8 => if x8 < 44 then (if x8 < (x0.size : Int) then (if 0 ≤ x8 then (if x8 < (x7.length : Int) then (halberdlaw7_PolyParts.l0 k x0 x1 x2 (x7.set (x8 : Int).toNat (bt x0 x8)) (wrap64 (x8 + 1))) else (none)) else (none)) else (halberdlaw7_PolyParts.j2 k x1 x2 x7)) else (halberdlaw7_PolyParts.j2 k x1 x2 x7)
end
def halberdlaw7_PolyParts.f (k : Nat) (a0 : ByteArray) (a1 : ByteArray) (a2 : ByteArray) : Option (Bool) := (halberdlaw7_awake.f).bind fun t194 => (if t194 = true then (if (a2.size : Int) > 2000 then (halberdlaw7_PolyParts.j0 k a0 a1 a2 true) else (halberdlaw7_PolyParts.j0 k a0 a1 a2 (decide ((a1.size : Int) > 2000)))) else (some false))
theorem halberdlaw7_PolyParts.mono_l : ∀ k, (∀ y0 y1 y2 y3, LeO (halberdlaw7_PolyParts.j0 k y0 y1 y2 y3) (halberdlaw7_PolyParts.j0 (k + 1) y0 y1 y2 y3)) ∧ (∀ y0 y1 y2, LeO (halberdlaw7_PolyParts.j2 k y0 y1 y2) (halberdlaw7_PolyParts.j2 (k + 1) y0 y1 y2)) ∧ (∀ y0 y1 y2 y3 y4 y5, LeO (halberdlaw7_PolyParts.j3 k y0 y1 y2 y3 y4 y5) (halberdlaw7_PolyParts.j3 (k + 1) y0 y1 y2 y3 y4 y5)) ∧ (∀ y0 y1 y2 y3 y4, LeO (halberdlaw7_PolyParts.l0 k y0 y1 y2 y3 y4) (halberdlaw7_PolyParts.l0 (k + 1) y0 y1 y2 y3 y4))
  | 0 => ⟨fun _ _ _ _ r h => by simp [halberdlaw7_PolyParts.j0] at h, fun _ _ _ r h => by simp [halberdlaw7_PolyParts.j2] at h, fun _ _ _ _ _ _ r h => by simp [halberdlaw7_PolyParts.j3] at h, fun _ _ _ _ _ r h => by simp [halberdlaw7_PolyParts.l0] at h⟩
  | k + 1 => by
    obtain ⟨ih0, ih1, ih2, ih3⟩ := halberdlaw7_PolyParts.mono_l k
    refine ⟨?_, ?_, ?_, ?_⟩
    · intro y0 y1 y2 y3
      unfold halberdlaw7_PolyParts.j0
      repeat' first
      | (with_reducible exact ih0 _ _ _ _)
      | (with_reducible exact ih1 _ _ _)
      | (with_reducible exact ih2 _ _ _ _ _ _)
      | (with_reducible exact ih3 _ _ _ _ _)
      | (with_reducible exact LeO.refl _)
      | (with_reducible exact LeO.none _)
      | (with_reducible refine LeO.ite ?_ ?_)
      | (with_reducible refine LeO.bind ?_ (fun _ => ?_))
      | exact ih0 _ _ _ _
      | exact ih1 _ _ _
      | exact ih2 _ _ _ _ _ _
      | exact ih3 _ _ _ _ _
      | exact LeO.none _
      | refine LeO.ite ?_ ?_
      | refine LeO.bind ?_ (fun _ => ?_)
    · intro y0 y1 y2
      unfold halberdlaw7_PolyParts.j2
      repeat' first
      | (with_reducible exact ih0 _ _ _ _)
      | (with_reducible exact ih1 _ _ _)
      | (with_reducible exact ih2 _ _ _ _ _ _)
      | (with_reducible exact ih3 _ _ _ _ _)
      | (with_reducible exact LeO.refl _)
      | (with_reducible exact LeO.none _)
      | (with_reducible refine LeO.ite ?_ ?_)
      | (with_reducible refine LeO.bind ?_ (fun _ => ?_))
      | exact ih0 _ _ _ _
      | exact ih1 _ _ _
      | exact ih2 _ _ _ _ _ _
      | exact ih3 _ _ _ _ _
      | exact LeO.none _
      | refine LeO.ite ?_ ?_
      | refine LeO.bind ?_ (fun _ => ?_)
    · intro y0 y1 y2 y3 y4 y5
      unfold halberdlaw7_PolyParts.j3
      repeat' first
      | (with_reducible exact ih0 _ _ _ _)
      | (with_reducible exact ih1 _ _ _)
      | (with_reducible exact ih2 _ _ _ _ _ _)
      | (with_reducible exact ih3 _ _ _ _ _)
      | (with_reducible exact LeO.refl _)
      | (with_reducible exact LeO.none _)
      | (with_reducible refine LeO.ite ?_ ?_)
      | (with_reducible refine LeO.bind ?_ (fun _ => ?_))
      | exact ih0 _ _ _ _
      | exact ih1 _ _ _
      | exact ih2 _ _ _ _ _ _
      | exact ih3 _ _ _ _ _
      | exact LeO.none _
      | refine LeO.ite ?_ ?_
      | refine LeO.bind ?_ (fun _ => ?_)
    · intro y0 y1 y2 y3 y4
      unfold halberdlaw7_PolyParts.l0
      repeat' first
      | (with_reducible exact ih0 _ _ _ _)
      | (with_reducible exact ih1 _ _ _)
      | (with_reducible exact ih2 _ _ _ _ _ _)
      | (with_reducible exact ih3 _ _ _ _ _)
      | (with_reducible exact LeO.refl _)
      | (with_reducible exact LeO.none _)
      | (with_reducible refine LeO.ite ?_ ?_)
      | (with_reducible refine LeO.bind ?_ (fun _ => ?_))
      | exact ih0 _ _ _ _
      | exact ih1 _ _ _
      | exact ih2 _ _ _ _ _ _
      | exact ih3 _ _ _ _ _
      | exact LeO.none _
      | refine LeO.ite ?_ ?_
      | refine LeO.bind ?_ (fun _ => ?_)
theorem halberdlaw7_PolyParts.mono : ∀ a0 a1 a2 k, LeO (halberdlaw7_PolyParts.f k a0 a1 a2) (halberdlaw7_PolyParts.f (k + 1) a0 a1 a2) := by
  intro a0 a1 a2 k
  obtain ⟨ih0, ih1, ih2, ih3⟩ := halberdlaw7_PolyParts.mono_l k
  unfold halberdlaw7_PolyParts.f
  repeat' first
      | (with_reducible exact ih0 _ _ _ _)
      | (with_reducible exact ih1 _ _ _)
      | (with_reducible exact ih2 _ _ _ _ _ _)
      | (with_reducible exact ih3 _ _ _ _ _)
      | (with_reducible exact LeO.refl _)
      | (with_reducible exact LeO.none _)
      | (with_reducible refine LeO.ite ?_ ?_)
      | (with_reducible refine LeO.bind ?_ (fun _ => ?_))
      | exact ih0 _ _ _ _
      | exact ih1 _ _ _
      | exact ih2 _ _ _ _ _ _
      | exact ih3 _ _ _ _ _
      | exact LeO.none _
      | refine LeO.ite ?_ ?_
      | refine LeO.bind ?_ (fun _ => ?_)
def halberdlaw7_PolyParts.T10 : Bool × List (List Nat × List Nat) := (true, [([], []), ([0], [0]), ([1], [1]), ([], []), ([3], [3]), ([4], [4]), ([2, 0, 1, 2], [2]), ([5, 6, 0, 1, 2, 3, 4, 5, 6], [5])])
def halberdlaw7_PolyParts.B10 : List Nat := [0, 1, 3, 0, 8, 24, 7, 127]
theorem halberdlaw7_PolyParts.tab10 : rtab .any (opsOf Try.f11 10) = halberdlaw7_PolyParts.T10 := by kernel_rfl
theorem halberdlaw7_PolyParts.bits10 : waitsOk halberdlaw7_PolyParts.T10.2 halberdlaw7_PolyParts.B10 = true := by kernel_rfl
def halberdlaw7_PolyParts.T17 : Bool × List (List Nat × List Nat) := (true, [([], []), ([], []), ([1], [1]), ([2], [2]), ([3], [3]), ([4], [4]), ([5, 5], [5]), ([6], [6]), ([0, 7], [0, 7]), ([], []), ([8, 9], [8, 9]), ([], []), ([11], [11]), ([12], [12]), ([13], [13]), ([14], [14]), ([15, 15], [15]), ([16], [16]), ([10, 17], [10, 17]), ([], []), ([18, 19], [18, 19]), ([20, 0, 1, 2, 3, 4, 5, 6, 7, 8, 9, 10, 11, 12, 13, 14, 15, 16, 17, 18, 19, 20], [20])])
def halberdlaw7_PolyParts.B17 : List Nat := [0, 0, 2, 6, 14, 30, 62, 126, 255, 0, 1023, 0, 2048, 6144, 14336, 30720, 63488, 129024, 262143, 0, 1048575, 2097151]
theorem halberdlaw7_PolyParts.tab17 : rtab .any (opsOf Try.f11 17) = halberdlaw7_PolyParts.T17 := by kernel_rfl
theorem halberdlaw7_PolyParts.bits17 : waitsOk halberdlaw7_PolyParts.T17.2 halberdlaw7_PolyParts.B17 = true := by kernel_rfl
set_option maxHeartbeats 8000000 in
set_option maxRecDepth 100000 in
theorem halberdlaw7_PolyParts.calls (k : Nat) (a0 : ByteArray) (a1 : ByteArray) (a2 : ByteArray) (r : Bool) (w : World) (h : halberdlaw7_PolyParts.f k a0 a1 a2 = some r) (hr : Aside0 (r = true)) :
    Calls Try.prog 11 #[.string a0, .string a1, .string a2] w fun e w' => e = .returned (.bool r) ∧ Below w.heap.size w w' := by
  have HB := Aside0.mk (Below.refl w.heap.size w)
  have H : ((halberdlaw7_awake.f).bind fun t194 => (if t194 = true then (if (a2.size : Int) > 2000 then (halberdlaw7_PolyParts.j0 k a0 a1 a2 true) else (halberdlaw7_PolyParts.j0 k a0 a1 a2 (decide ((a1.size : Int) > 2000)))) else (some false))) = some r := h
  clear h
  replace H := Option.bind_eq_some_iff.mp H
  obtain ⟨t194, A40, H⟩ := H
  replace H : (if t194 = true then (if (a2.size : Int) > 2000 then (halberdlaw7_PolyParts.j0 k a0 a1 a2 true) else (halberdlaw7_PolyParts.j0 k a0 a1 a2 (decide ((a1.size : Int) > 2000)))) else (some false)) = some r := H
  have A4 := Aside0.mk A40
  clear A40
  by_cases c5 : t194 = true
  · subst c5
    have H1 : (if (a2.size : Int) > 2000 then (halberdlaw7_PolyParts.j0 k a0 a1 a2 true) else (halberdlaw7_PolyParts.j0 k a0 a1 a2 (decide ((a1.size : Int) > 2000)))) = some r := by rw [if_pos rfl] at H; exact H
    clear H
    have H := H1
    clear H1
    have HC6 := Aside0.mk H
    clear H
    go_enter Try.func11, Try.ntmps11
    go_upto_region 3 with (first | ((with_reducible refine gate_callee (f := 24) rfl ?_); refine goesL_ (some 21) rfl rfl Try.func24 (by kernel_rfl) rfl #[] rfl (by (try simp only [List.map_toArray, List.map_cons, List.map_nil]); first | done | rfl | (simp only [List.length_drop, List.length_take]; rfl)) ?_; (with_reducible refine (halberdlaw7_awake.calls  true _ A4.out).mono ?_); rintro e w7 ⟨rfl, hb⟩; refine ⟨_, rfl, ?_⟩; have n0_ := Aside0.mk (below_step (by repeat (first | (with_reducible first | exact HB.out | apply below_alloc | apply pw_below_drewN | apply below_drew1) | exact HB.out)) hb); clear HB; have HB := n0_; clear n0_; (try clear hb); (try clear hb2); (try clear hk); (try clear hi)))
    (try simp only [Act.put, List.setIfInBounds_toArray, List.set_cons_zero, List.set_cons_succ])
    go_cut [30] (fun v30 wc => ∃ (kq : Nat) (x30_5 : Bool), v30 = .bool x30_5 ∧ Aside0 (halberdlaw7_PolyParts.j0 kq a0 a1 a2 x30_5 = some r) ∧ Aside0 (kq ≤ k) ∧ Aside0 (Below w.heap.size w wc))
    case first =>
      have H := HC6.out
      clear HC6
      by_cases c8 : (a2.size : Int) > 2000
      · rw [if_pos c8] at H
        have c8b0 : decide (2000 < (a2.size : Int)) = true := decide_eq_true c8
        have c8b1 : decide (2000 < a2.size) = true := decide_eq_true (by omega)
        clear c8
        (first | rw [c8b0] | (simp only [i64_w, i32_w]; rw [c8b0]) | skip)
        have H' := Aside0.mk H
        clear H
        go_wp2
        go_meet
        case rel => exact ⟨_, (true), (by first | rfl | (simp; done) | (simp [*]; done)), H', ⟨by first | omega | exact Nat.le_refl _⟩, ⟨by repeat (first | (with_reducible first | exact HB.out | apply below_alloc | apply pw_below_drewN | apply below_drew1) | exact HB.out)⟩⟩
      · rw [if_neg c8] at H
        have c8b0 : decide (2000 < (a2.size : Int)) = false := decide_eq_false c8
        have c8b1 : decide (2000 < a2.size) = false := decide_eq_false (by omega)
        clear c8
        (first | rw [c8b0] | (simp only [i64_w, i32_w]; rw [c8b0]) | skip)
        have H' := Aside0.mk H
        clear H
        go_wp2
        go_meet
        case rel => exact ⟨_, (decide ((a1.size : Int) > 2000)), (by first | rfl | (simp; done) | (simp [*]; done)), H', ⟨by first | omega | exact Nat.le_refl _⟩, ⟨by repeat (first | (with_reducible first | exact HB.out | apply below_alloc | apply pw_below_drewN | apply below_drew1) | exact HB.out)⟩⟩
    case rest =>
      clear HC6
      try clear c1
      try clear c2
      try clear p2
      try clear c5
      try clear c8
      try clear c8b0
      try clear c8b1
      obtain ⟨kq, x30_5, rfl, HA, HJ5, HB⟩ := hcut
      cases kq with
      | zero => exact absurd HA.out (by simp [halberdlaw7_PolyParts.j0])
      | succ kj5 =>
        have H := HA.out
        clear HA
        simp only [halberdlaw7_PolyParts.j0] at H
        by_cases c9 : x30_5 = true
        · subst c9
          have H1 : (some true) = some r := by rw [if_pos rfl] at H; exact H
          clear H
          have H := H1
          clear H1
          obtain rfl := Option.some.inj H
          go_wp2
          go_ret
          exact ⟨by first | rfl | (simp [errW_none, errW_some] <;> rfl) | (simp [*, errW_none, errW_some] <;> rfl), by repeat (first | (with_reducible first | exact HB.out | apply below_alloc | apply pw_below_drewN | apply below_drew1) | exact HB.out)⟩
        · replace c9 := Bool.eq_false_iff.mpr c9
          subst c9
          have H1 : (if 44 ≤ 281474976710656 then (halberdlaw7_PolyParts.l0 kj5 a0 a1 a2 (List.replicate 44 0) 0) else (none)) = some r := by rw [if_neg (show ¬ (false = true) by decide)] at H; exact H
          clear H
          have H := H1
          clear H1
          by_cases c10 : 44 ≤ 281474976710656
          · rw [if_pos c10] at H
            have c10b0 := eq_true c10
            have c10b1 : decide (44 ≤ 281474976710656) = true := decide_eq_true c10
            clear c10
            obtain ⟨y195, hy195⟩ : ∃ y_ : List Int, y_ = (List.replicate 44 0) := ⟨_, rfl⟩
            replace H : (halberdlaw7_PolyParts.l0 kj5 a0 a1 a2 y195 0) = some r := by first | (rw [hy195]; with_reducible exact H) | (have H2_ := (Option.bind_some _ _).symm.trans H; rw [hy195]; with_reducible exact H2_) | (have H2_ := (Option.bind_some _ _).symm.trans H; with_reducible exact H2_) | with_reducible exact H | (rw [hy195]; exact H) | exact H
            have Ny195 := Aside0.mk hy195
            clear hy195
            have HC11 := Aside0.mk H
            clear H
            go_upto_block 0 with (first | ((with_reducible refine gate_dst (N := 31) rfl ?_); (try (refine gate_guard (by rfl) ?_; dsimp only)); refine Kd.R_make (Kd.int .u8) _ 5 rfl (N := 31) rfl 32 _ _ rfl 44 rfl rfl Try.underlying32 (.int .u8 0) 1 info5 rfl (by decide) (by omega) 0 (ok := fun _ => True) (okp := fun _ => True) rfl (fun _ hk => hk) trivial (by omega) (by omega) (Below.refl _ _) (Nat.le_refl _) ?_; intro v196 w12 ho13 hb hg_ hnew_; clear hg_ hnew_; (first | rw [← Ny195.out] at ho13 | (simp only [Int.reduceToNat] at ho13; rw [← Ny195.out] at ho13)); have n0_ := Aside0.mk (Kd.R_lower ho13 (below_size (by repeat (first | (with_reducible first | exact HB.out | apply below_alloc | apply pw_below_drewN | apply below_drew1) | exact HB.out)))); have n1_ := Aside0.mk (below_step (by repeat (first | (with_reducible first | exact HB.out | apply below_alloc | apply pw_below_drewN | apply below_drew1) | exact HB.out)) hb); clear HB; have HO197 := n0_; have HB := n1_; clear n0_ n1_; clear hb ho13))
            (try simp only [Act.put, List.setIfInBounds_toArray, List.set_cons_zero, List.set_cons_succ])
            go_cut [] (fun wc => ∃ (kq : Nat) (x7_10 : List Int), Aside0 (halberdlaw7_PolyParts.j2 kq a1 a2 x7_10 = some r) ∧ Aside0 (kq ≤ kj5) ∧ Aside0 (Kd.R (Kd.int .u8) 5 wc w.heap.size (fun _ => True) v196 x7_10) ∧ Aside0 (Below w.heap.size w wc))
            case first =>
              have H := HC11.out
              clear HC11
              have H' := Aside0.mk H
              clear H
              go_wp2
              go_loopg [8] kj5 (fun kq v8 w' => ∃ (x7_2 : List Int) (x8_2 : Int), v8 = .int .i64 x8_2 ∧ Aside0 (halberdlaw7_PolyParts.l0 kq a0 a1 a2 x7_2 x8_2 = some r) ∧ Aside0 (kq ≤ kj5) ∧ Aside0 (Kd.R (Kd.int .u8) 5 w' w.heap.size (fun _ => True) v196 x7_2) ∧ Aside0 (Below w.heap.size w w'))
              case atStart => exact ⟨(y195), (0), (by first | rfl | (simp; done) | (simp [*]; done)), H', ⟨Nat.le_refl _⟩, ⟨by (with_reducible repeat (first | apply Kd.R_alloc | apply Kd.R_drewN | apply Kd.R_drew)); exact HO197.out⟩, ⟨by repeat (first | (with_reducible first | exact HB.out | apply below_alloc | apply pw_below_drewN | apply below_drew1) | exact HB.out)⟩⟩
              case round =>
                clear H'
                try clear c1
                try clear c2
                try clear p2
                try clear c5
                try clear c8
                try clear c8b0
                try clear c8b1
                try clear c9
                try clear c10
                try clear c10b0
                try clear c10b1
                try clear c11
                try clear p2
                obtain ⟨x7_2, x8_2, rfl, HA, HK2, HO_7, HB⟩ := hrel
                cases gk with
                | zero => exact absurd HA.out (by simp [halberdlaw7_PolyParts.l0])
                | succ k2 =>
                  have H := HA.out
                  clear HA
                  simp only [halberdlaw7_PolyParts.l0] at H
                  by_cases c14 : x8_2 < 44
                  · rw [if_pos c14] at H
                    have c14b0 : decide (x8_2 < 44) = true := decide_eq_true c14
                    clear c14
                    (first | rw [c14b0] | (simp only [i64_w, i32_w]; rw [c14b0]) | skip)
                    by_cases c15 : x8_2 < (a0.size : Int)
                    · rw [if_pos c15] at H
                      have c15b0 : decide (x8_2 < (a0.size : Int)) = true := decide_eq_true c15
                      clear c15
                      by_cases c16 : 0 ≤ x8_2
                      · rw [if_pos c16] at H
                        have c16b0 : decide (0 ≤ x8_2) = true := decide_eq_true c16
                        clear c16
                        by_cases c18 : x8_2 < (x7_2.length : Int)
                        · rw [if_pos c18] at H
                          have c18b0 : decide (x8_2 < (x7_2.length : Int)) = true := decide_eq_true c18
                          clear c18
                          obtain ⟨y198, hy198⟩ : ∃ y_ : List Int, y_ = (x7_2.set (x8_2 : Int).toNat (bt a0 x8_2)) := ⟨_, rfl⟩
                          replace H : (halberdlaw7_PolyParts.l0 k2 a0 a1 a2 y198 (wrap64 (x8_2 + 1))) = some r := by first | (rw [hy198]; with_reducible exact H) | (have H2_ := (Option.bind_some _ _).symm.trans H; rw [hy198]; with_reducible exact H2_) | (have H2_ := (Option.bind_some _ _).symm.trans H; with_reducible exact H2_) | with_reducible exact H | (rw [hy198]; exact H) | exact H
                          have Ny198 := Aside0.mk hy198
                          clear hy198
                          have H' := Aside0.mk H
                          clear H
                          have p17 : 0 ≤ (x8_2 : Int) := of_decide_eq_true (by first | (with_reducible assumption) | assumption)
                          have q17 : x8_2 < (a0.size : Int) := of_decide_eq_true (by first | (with_reducible assumption) | assumption)
                          have hx17 := bt_at a0 x8_2
                          replace p17 := eq_true p17
                          replace q17 := eq_true q17
                          have p19 : 0 ≤ (x8_2 : Int) := of_decide_eq_true (by first | (with_reducible assumption) | assumption)
                          have q19 : (x8_2 : Int) < ((x7_2.length : Int) : Int) := of_decide_eq_true (by first | (with_reducible assumption) | assumption)
                          obtain ⟨go19, co19, eo19, gb19, gl19, cl19, HG19⟩ := Kd.R_form HO_7.out (by omega)
                          (first | cases eo19 | (injection eo19 with ea_ en_ ec_; (first | subst ea_ | (injection ea_ with ea_; subst ea_)); subst ec_; clear en_))
                          have GB19 := Aside0.mk gb19
                          have GG19 := Aside0.mk HG19
                          clear gb19 gl19 HG19
                          obtain ⟨hx19_0, hf19_0⟩ := Kd.R_celln 0 HO_7.out (x8_2 : Int) p19 q19
                          replace p19 := eq_true p19
                          replace q19 := eq_true q19
                          have HP20 := Kd.R_putg HO_7.out (x8_2 : Int) (bt a0 x8_2)
                          go_wp2_with (first | ((with_reducible refine gate_store (t := 5) (p := 47) rfl ?_); refine store_event (t := 5) (p := 47) (v := ?vo_w21) (w1 := (wr.setCell ⟨go19, (x8_2 : Int).toNat, none⟩ (.int .u8 (bt a0 x8_2)))) ?hg ?ho ?hn ?hr ?_; (case ho => rfl); (case hg => rfl); (case hn => rfl); (case hr => first | (go_simp; done) | (go_simp; rfl)); intro w21 hw; have hg : wr.grownBy w21 (some go19) := (by rw [hw]; exact HP20.2); have hp_ : Kd.R (Kd.int .u8) 5 w21 w.heap.size (fun _ => True) (.slice (some ⟨go19, 0, none⟩) x7_2.length co19) y198 := (by rw [hw, Ny198.out]; exact HP20.1); clear HP20; have n0_ := Aside0.mk (hp_); have n1_ := Aside0.mk ((by rw [hw]; exact below_set (HB.out) GB19.out : Below w.heap.size w w21)); clear HO_7; clear HB; have HO_7 := n0_; have HB := n1_; clear n0_ n1_; clear hg hw hp_))
                          go_roundg k2
                          case measure => have := HJ5.out; have := HK2.out; omega
                          case rel => exact ⟨(y198), (wrap64 (x8_2 + 1)), (by first | rfl | (simp; done) | (simp [*]; done)), H', ⟨by have := HJ5.out; have := HK2.out; omega⟩, ⟨by (with_reducible repeat (first | apply Kd.R_alloc | apply Kd.R_drewN | apply Kd.R_drew)); exact HO_7.out⟩, ⟨by repeat (first | (with_reducible first | exact HB.out | apply below_alloc | apply pw_below_drewN | apply below_drew1) | exact HB.out)⟩⟩
                        · rw [if_neg c18] at H
                          exact absurd H (by simp)
                      · rw [if_neg c16] at H
                        exact absurd H (by simp)
                    · rw [if_neg c15] at H
                      have c15b0 : decide (x8_2 < (a0.size : Int)) = false := decide_eq_false c15
                      clear c15
                      have H' := Aside0.mk H
                      clear H
                      go_wp2
                      go_meet
                      case rel => exact ⟨_, (x7_2), H', ⟨by have := HJ5.out; have := HK2.out; first | omega | exact Nat.le_refl _⟩, ⟨by (with_reducible repeat (first | apply Kd.R_alloc | apply Kd.R_drewN | apply Kd.R_drew)); exact HO_7.out⟩, ⟨by repeat (first | (with_reducible first | exact HB.out | apply below_alloc | apply pw_below_drewN | apply below_drew1) | exact HB.out)⟩⟩
                  · rw [if_neg c14] at H
                    have c14b0 : decide (x8_2 < 44) = false := decide_eq_false c14
                    clear c14
                    (first | rw [c14b0] | (simp only [i64_w, i32_w]; rw [c14b0]) | skip)
                    have H' := Aside0.mk H
                    clear H
                    go_wp2
                    go_meet
                    case rel => exact ⟨_, (x7_2), H', ⟨by have := HJ5.out; have := HK2.out; first | omega | exact Nat.le_refl _⟩, ⟨by (with_reducible repeat (first | apply Kd.R_alloc | apply Kd.R_drewN | apply Kd.R_drew)); exact HO_7.out⟩, ⟨by repeat (first | (with_reducible first | exact HB.out | apply below_alloc | apply pw_below_drewN | apply below_drew1) | exact HB.out)⟩⟩
            case rest =>
              clear HC11
              try clear c1
              try clear p1
              try clear q1
              try clear hx1
              try clear c2
              try clear p2
              try clear c5
              try clear p6
              try clear c8
              try clear c8b0
              try clear c8b1
              try clear c9
              try clear c10
              try clear c10b0
              try clear c10b1
              try clear c11
              try clear c14
              try clear c14b0
              try clear c15
              try clear c15b0
              try clear c16
              try clear c16b0
              try clear p17
              try clear q17
              try clear hx17
              try clear c18
              try clear c18b0
              try clear p19
              try clear q19
              try clear hx19
              try clear hf19
              try clear hx19_0
              try clear p17
              try clear p19
              try clear p2
              try clear q17
              try clear q19
              obtain ⟨kq, x7_10, HA, HJ10, HO_7, HB⟩ := hcut
              cases kq with
              | zero => exact absurd HA.out (by simp [halberdlaw7_PolyParts.j2])
              | succ kj10 =>
                have H := HA.out
                clear HA
                simp only [halberdlaw7_PolyParts.j2] at H
                by_cases c22 : 32 ≤ (x7_10.length : Int)
                · rw [if_pos c22] at H
                  have c22b0 := eq_true c22
                  have c22b1 : decide (32 ≤ (x7_10.length : Int)) = true := decide_eq_true c22
                  clear c22
                  obtain ⟨y199, hy199⟩ : ∃ y_ : List Int, y_ = (x7_10.take 32) := ⟨_, rfl⟩
                  replace H : ((some (x7_10.drop 32 : List Int)).bind fun y203 => ((poly_Seal.f (strOfNums y199) (strOfNums y203) a1 a2).bind fun bt207 => ((chacha_Xor.f (strOfNums y199) 1 (strOfNums y203) a2).bind fun bt209 => ((chacha_Block.f (strOfNums y199) 0 (strOfNums y203)).bind fun bt211 => ((halberdlaw0_Num.f bt207.2).bind fun t213 => (if t213 = 0 then ((halberdlaw0_Num.f bt209.2).bind fun t214 => (if t214 = 0 then ((halberdlaw0_Num.f bt211.2).bind fun t215 => (if t215 = 0 then (halberdlaw7_PolyParts.j3 kj10 a1 a2 bt207.1 bt209.1 bt211.1 ((bt211.1.size : Int) != 64)) else (halberdlaw7_PolyParts.j3 kj10 a1 a2 bt207.1 bt209.1 bt211.1 true))) else (halberdlaw7_PolyParts.j3 kj10 a1 a2 bt207.1 bt209.1 bt211.1 true))) else (halberdlaw7_PolyParts.j3 kj10 a1 a2 bt207.1 bt209.1 bt211.1 true))))))) = some r := by first | (rw [hy199]; with_reducible exact H) | (have H2_ := (Option.bind_some _ _).symm.trans H; rw [hy199]; with_reducible exact H2_) | (have H2_ := (Option.bind_some _ _).symm.trans H; with_reducible exact H2_) | with_reducible exact H | (rw [hy199]; exact H) | exact H
                  have Ny199 := Aside0.mk hy199
                  clear hy199
                  have c23b0 := eq_true (of_decide_eq_true (by first | (with_reducible assumption) | assumption) : 32 ≤ (x7_10.length : Int))
                  obtain ⟨y203, hy203⟩ : ∃ y_ : List Int, y_ = (x7_10.drop 32) := ⟨_, rfl⟩
                  replace H : ((poly_Seal.f (strOfNums y199) (strOfNums y203) a1 a2).bind fun bt207 => ((chacha_Xor.f (strOfNums y199) 1 (strOfNums y203) a2).bind fun bt209 => ((chacha_Block.f (strOfNums y199) 0 (strOfNums y203)).bind fun bt211 => ((halberdlaw0_Num.f bt207.2).bind fun t213 => (if t213 = 0 then ((halberdlaw0_Num.f bt209.2).bind fun t214 => (if t214 = 0 then ((halberdlaw0_Num.f bt211.2).bind fun t215 => (if t215 = 0 then (halberdlaw7_PolyParts.j3 kj10 a1 a2 bt207.1 bt209.1 bt211.1 ((bt211.1.size : Int) != 64)) else (halberdlaw7_PolyParts.j3 kj10 a1 a2 bt207.1 bt209.1 bt211.1 true))) else (halberdlaw7_PolyParts.j3 kj10 a1 a2 bt207.1 bt209.1 bt211.1 true))) else (halberdlaw7_PolyParts.j3 kj10 a1 a2 bt207.1 bt209.1 bt211.1 true)))))) = some r := by first | (rw [hy203]; with_reducible exact H) | (have H2_ := (Option.bind_some _ _).symm.trans H; rw [hy203]; with_reducible exact H2_) | (have H2_ := (Option.bind_some _ _).symm.trans H; with_reducible exact H2_) | with_reducible exact H | (rw [hy203]; exact H) | exact H
                  have Ny203 := Aside0.mk hy203
                  clear hy203
                  replace H := Option.bind_eq_some_iff.mp H
                  obtain ⟨⟨t207, t208⟩, A240, H⟩ := H
                  replace H : ((chacha_Xor.f (strOfNums y199) 1 (strOfNums y203) a2).bind fun bt209 => ((chacha_Block.f (strOfNums y199) 0 (strOfNums y203)).bind fun bt211 => ((halberdlaw0_Num.f t208).bind fun t213 => (if t213 = 0 then ((halberdlaw0_Num.f bt209.2).bind fun t214 => (if t214 = 0 then ((halberdlaw0_Num.f bt211.2).bind fun t215 => (if t215 = 0 then (halberdlaw7_PolyParts.j3 kj10 a1 a2 t207 bt209.1 bt211.1 ((bt211.1.size : Int) != 64)) else (halberdlaw7_PolyParts.j3 kj10 a1 a2 t207 bt209.1 bt211.1 true))) else (halberdlaw7_PolyParts.j3 kj10 a1 a2 t207 bt209.1 bt211.1 true))) else (halberdlaw7_PolyParts.j3 kj10 a1 a2 t207 bt209.1 bt211.1 true))))) = some r := H
                  have A24 := Aside0.mk A240
                  clear A240
                  replace H := Option.bind_eq_some_iff.mp H
                  obtain ⟨⟨t209, t210⟩, A250, H⟩ := H
                  replace H : ((chacha_Block.f (strOfNums y199) 0 (strOfNums y203)).bind fun bt211 => ((halberdlaw0_Num.f t208).bind fun t213 => (if t213 = 0 then ((halberdlaw0_Num.f t210).bind fun t214 => (if t214 = 0 then ((halberdlaw0_Num.f bt211.2).bind fun t215 => (if t215 = 0 then (halberdlaw7_PolyParts.j3 kj10 a1 a2 t207 t209 bt211.1 ((bt211.1.size : Int) != 64)) else (halberdlaw7_PolyParts.j3 kj10 a1 a2 t207 t209 bt211.1 true))) else (halberdlaw7_PolyParts.j3 kj10 a1 a2 t207 t209 bt211.1 true))) else (halberdlaw7_PolyParts.j3 kj10 a1 a2 t207 t209 bt211.1 true)))) = some r := H
                  have A25 := Aside0.mk A250
                  clear A250
                  replace H := Option.bind_eq_some_iff.mp H
                  obtain ⟨⟨t211, t212⟩, A260, H⟩ := H
                  replace H : ((halberdlaw0_Num.f t208).bind fun t213 => (if t213 = 0 then ((halberdlaw0_Num.f t210).bind fun t214 => (if t214 = 0 then ((halberdlaw0_Num.f t212).bind fun t215 => (if t215 = 0 then (halberdlaw7_PolyParts.j3 kj10 a1 a2 t207 t209 t211 ((t211.size : Int) != 64)) else (halberdlaw7_PolyParts.j3 kj10 a1 a2 t207 t209 t211 true))) else (halberdlaw7_PolyParts.j3 kj10 a1 a2 t207 t209 t211 true))) else (halberdlaw7_PolyParts.j3 kj10 a1 a2 t207 t209 t211 true))) = some r := H
                  have A26 := Aside0.mk A260
                  clear A260
                  have HC27 := Aside0.mk H
                  clear H
                  try go_wp2
                  have n0_ := Aside0.mk (Kd.R_drew HO_7.out)
                  have n1_ := Aside0.mk (below_drew1 HB.out)
                  clear HO_7
                  clear HB
                  have HO_7 := n0_
                  have HB := n1_
                  clear n0_ n1_
                  obtain ⟨Ao30, co30, eo30⟩ := Kd.R_slice HO_7.out
                  (first | subst eo30 | (injection eo30 with f1_ f2_ f3_; have f4_ := f1_.symm; have f5_ := f3_.symm; clear f1_ f2_ f3_; subst f4_; subst f5_))
                  have q29 : (32 : Int) ≤ ((x7_10.length : Int) : Int) := of_decide_eq_true (by first | (with_reducible assumption) | assumption)
                  obtain ⟨i029, hi029, _, hsz29, _⟩ := info_parts info5
                  have hroom29 : x7_10.length ≤ co30 := (Kd.R_reads' HO_7.out).2.1
                  have hC29 : Kd.C (Kd.int .u8) _ Ao30 x7_10.length x7_10 := (Kd.R_reads' HO_7.out).2.2
                  have hcut29 := cut_to (P := Try.prog) 32 5 .i64 Try.underlying32 hi029 Ao30 x7_10.length co30 32 (by omega) q29 hroom29
                  have hr29 := Kd.C_take (m := 32) hC29 (by omega)
                  have hy29 : y199.length = (32 : Int).toNat := (by rw [Ny199.out, List.length_take]; omega)
                  rw [← Ny199.out] at hr29
                  rw [← hy29] at hcut29
                  have HR202 := Aside0.mk hr29
                  have HC202 := Aside0.mk (show y199.length ≤ co30 from by omega)
                  clear hr29 hC29 hroom29 hi029 hsz29
                  have KY29 := Aside0.mk hy29
                  clear hy29
                  have KL29 := Aside0.mk (show 32 ≤ x7_10.length from by omega)
                  replace q29 := eq_true q29
                  have q31 : (32 : Int) ≤ ((x7_10.length : Int) : Int) := of_decide_eq_true (by first | (with_reducible assumption) | assumption)
                  obtain ⟨i031, hi031, _, hsz31, _⟩ := info_parts info5
                  have hroom31 : x7_10.length ≤ co30 := (Kd.R_reads' HO_7.out).2.1
                  have hC31 : Kd.C (Kd.int .u8) _ Ao30 x7_10.length x7_10 := (Kd.R_reads' HO_7.out).2.2
                  have hcut31 := cut_from (P := Try.prog) 32 5 .i64 Try.underlying32 hi031 1 hsz31 Ao30 x7_10.length co30 32 (by omega) q31
                  have hr31 := Kd.C_drop (m := (32 : Int).toNat) (c := co30) hC31 (by omega) hroom31
                  obtain ⟨A31, hA31⟩ : ∃ A1, A1 = (if co30 = (32 : Int).toNat then Ao30 else (Ao30 : Option Addr).map (·.add ((32 : Int).toNat * 1))) := ⟨_, rfl⟩
                  obtain ⟨c31, hc31⟩ : ∃ c1, c1 = co30 - (32 : Int).toNat := ⟨_, rfl⟩
                  have hy31 : y203.length = x7_10.length - (32 : Int).toNat := (by rw [Ny203.out, List.length_drop] <;> omega)
                  rw [show (x7_10).drop (32 : Int).toNat = y203 from Ny203.out.symm] at hr31
                  replace hr31 : Kd.C (Kd.int .u8) _ A31 y203.length y203 := (by rw [hA31]; exact hr31)
                  rw [← hy31, ← hA31, ← hc31] at hcut31
                  have HR206 := Aside0.mk hr31
                  have HC206 := Aside0.mk (show y203.length ≤ c31 from by rw [hy31, hc31]; exact Nat.sub_le_sub_right hroom31 _)
                  clear hr31 hC31 hroom31 hi031 hsz31 hc31
                  have KY31 := Aside0.mk hy31
                  have KA31 := Aside0.mk hA31
                  clear hy31 hA31
                  have KL31 := Aside0.mk (show 32 ≤ x7_10.length from by omega)
                  replace q31 := eq_true q31
                  have hcv32 := Kd.C_string (P := Try.prog) (A := Ao30) (c := co30) Try.underlying32 Try.underlying5 Try.underlying9 (by repeat (first | (with_reducible exact HR202.out) | (with_reducible refine Kd.C_alloc ?_ _) | (with_reducible refine Kd.C_drewN ?_ _) | (with_reducible refine Kd.C_drew ?_) | exact HR202.out))
                  have hcv33 := Kd.C_string (P := Try.prog) (A := A31) (c := c31) Try.underlying32 Try.underlying5 Try.underlying9 (by repeat (first | (with_reducible exact HR206.out) | (with_reducible refine Kd.C_alloc ?_ _) | (with_reducible refine Kd.C_drewN ?_ _) | (with_reducible refine Kd.C_drew ?_) | exact HR206.out))
                  refine start_ (n := 8) (S := fun w' => (convert 32 9 (.slice Ao30 y199.length co30)).run Try.prog w' = .ok (.string (strOfNums y199)) w' ∧ (convert 32 9 (.slice A31 y203.length c31)).run Try.prog w' = .ok (.string (strOfNums y203)) w') (ds := []) #[false, false, false, false, false, false, false, false] (by kernel_rfl) rfl rfl ⟨Kd.C_string (P := Try.prog) (A := Ao30) (c := co30) Try.underlying32 Try.underlying5 Try.underlying9 (by repeat (first | (with_reducible exact HR202.out) | (with_reducible refine Kd.C_alloc ?_ _) | (with_reducible refine Kd.C_drewN ?_ _) | (with_reducible refine Kd.C_drew ?_) | exact HR202.out)), Kd.C_string (P := Try.prog) (A := A31) (c := c31) Try.underlying32 Try.underlying5 Try.underlying9 (by repeat (first | (with_reducible exact HR206.out) | (with_reducible refine Kd.C_alloc ?_ _) | (with_reducible refine Kd.C_drewN ?_ _) | (with_reducible refine Kd.C_drew ?_) | exact HR206.out))⟩ (fun hHeld => ?_); refine with_tabW halberdlaw7_PolyParts.tab10 halberdlaw7_PolyParts.bits10 (fun HT_ HW_ => ?_)
                  generalize wc.drew = w28 at HO_7 HB HR202 HR206 hHeld ⊢
                  refine pure_ (i := 0) (N := some 48) (v := ?_) (a' := ?_) #[true, false, false, false, false, false, false, false] rfl rfl (any_of HT_.out (by kernel_rfl)) (fun _ _ _ h => h) (Or.inl ⟨by rfl, ?_⟩) ?_ ?_
                  rotate_left
                  · intro w'
                    go_simp
                    with_reducible rfl
                  rotate_left
                  · simp only [Act.put, List.setIfInBounds_toArray, List.set_cons_zero, List.set_cons_succ, i64_w, i32_w]
                    rfl
                  refine pure_ (i := 1) (N := some 49) (v := ?_) (a' := ?_) #[true, true, false, false, false, false, false, false] rfl rfl (any_of HT_.out (by kernel_rfl)) (fun _ _ _ h => h) (Or.inl ⟨by rfl, ?_⟩) ?_ ?_
                  rotate_left
                  · intro w'
                    go_simp
                    with_reducible rfl
                  rotate_left
                  · simp only [Act.put, List.setIfInBounds_toArray, List.set_cons_zero, List.set_cons_succ, i64_w, i32_w]
                    rfl
                  refine take_ (i := 2) (N := some 50) (v := ?_) (a' := ?_) #[true, true, true, false, false, false, false, false] rfl rfl (take_ofW HT_.out HW_.out (by kernel_rfl)) (fun _ _ _ h => h) (Or.inl ⟨by rfl, ?_⟩) hHeld ?_ ?_
                  rotate_left
                  · rintro w' ⟨s0_, s1_⟩
                    go_simp
                    with_reducible rfl
                  rotate_left
                  · simp only [Act.put, List.setIfInBounds_toArray, List.set_cons_zero, List.set_cons_succ, i64_w, i32_w]
                    rfl
                  refine pure_ (i := 3) (N := some 51) (v := ?_) (a' := ?_) #[true, true, true, true, false, false, false, false] rfl rfl (any_of HT_.out (by kernel_rfl)) (fun _ _ _ h => h) (Or.inl ⟨by rfl, ?_⟩) ?_ ?_
                  rotate_left
                  · intro w'
                    go_simp
                    with_reducible rfl
                  rotate_left
                  · simp only [Act.put, List.setIfInBounds_toArray, List.set_cons_zero, List.set_cons_succ, i64_w, i32_w]
                    rfl
                  refine pure_ (i := 4) (N := some 52) (v := ?_) (a' := ?_) #[true, true, true, true, true, false, false, false] rfl rfl (any_of HT_.out (by kernel_rfl)) (fun _ _ _ h => h) (Or.inl ⟨by rfl, ?_⟩) ?_ ?_
                  rotate_left
                  · intro w'
                    go_simp
                    with_reducible rfl
                  rotate_left
                  · simp only [Act.put, List.setIfInBounds_toArray, List.set_cons_zero, List.set_cons_succ, i64_w, i32_w]
                    rfl
                  refine take_ (i := 5) (N := some 53) (v := ?_) (a' := ?_) #[true, true, true, true, true, true, false, false] rfl rfl (take_ofW HT_.out HW_.out (by kernel_rfl)) (fun _ _ _ h => h) (Or.inl ⟨by rfl, ?_⟩) hHeld ?_ ?_
                  rotate_left
                  · rintro w' ⟨s0_, s1_⟩
                    go_simp
                    with_reducible rfl
                  rotate_left
                  · simp only [Act.put, List.setIfInBounds_toArray, List.set_cons_zero, List.set_cons_succ, i64_w, i32_w]
                    rfl
                  refine pure_ (i := 6) (N := some 9) (v := ?_) (a' := ?_) #[true, true, true, true, true, true, true, false] rfl rfl (any_of HT_.out (by kernel_rfl)) (fun _ _ _ h => h) (Or.inl ⟨by rfl, ?_⟩) ?_ ?_
                  rotate_left
                  · intro w'
                    go_simp
                    with_reducible rfl
                  rotate_left
                  · simp only [Act.put, List.setIfInBounds_toArray, List.set_cons_zero, List.set_cons_succ, i64_w, i32_w]
                    rfl
                  refine pure_ (i := 7) (N := some 10) (v := ?_) (a' := ?_) #[true, true, true, true, true, true, true, true] rfl rfl (any_of HT_.out (by kernel_rfl)) (fun _ _ _ h => h) (Or.inl ⟨by rfl, ?_⟩) ?_ ?_
                  rotate_left
                  · intro w'
                    go_simp
                    with_reducible rfl
                  rotate_left
                  · simp only [Act.put, List.setIfInBounds_toArray, List.set_cons_zero, List.set_cons_succ, i64_w, i32_w]
                    rfl
                  refine done_ (done_of HT_.out (by kernel_rfl)) ?_
                  go_upto_region 14 with (first | ((with_reducible refine gate_callee (f := 20) rfl ?_); refine goesL_ (some 59) rfl rfl Try.func20 (by kernel_rfl) rfl #[.string (strOfNums y199), .string (strOfNums y203), .string a1, .string a2] rfl (by (try simp only [List.map_toArray, List.map_cons, List.map_nil]); first | done | rfl | (simp only [List.length_drop, List.length_take]; rfl)) ?_; (with_reducible refine (poly_Seal.calls (strOfNums y199) (strOfNums y203) a1 a2 t207 t208 _ A24.out).mono ?_); rintro e w35 ⟨rfl, hb⟩; refine ⟨_, rfl, ?_⟩; have n0_ := Aside0.mk (Kd.R_below (by (with_reducible repeat (first | apply Kd.R_alloc | apply Kd.R_drewN | apply Kd.R_drew)); exact HO_7.out) hb); have n1_ := Aside0.mk (below_step (by repeat (first | (with_reducible first | exact HB.out | apply below_alloc | apply pw_below_drewN | apply below_drew1) | exact HB.out)) hb); clear HO_7; clear HB; have HO_7 := n0_; have HB := n1_; clear n0_ n1_; (try clear hb); (try clear hb2); (try clear hk); (try clear hi)) | ((with_reducible refine gate_callee (f := 14) rfl ?_); refine goesL_ (some 66) rfl rfl Try.func14 (by kernel_rfl) rfl #[.string (strOfNums y199), .int .i64 1, .string (strOfNums y203), .string a2] rfl (by (try simp only [List.map_toArray, List.map_cons, List.map_nil]); first | done | rfl | (simp only [List.length_drop, List.length_take]; rfl)) ?_; (with_reducible refine (chacha_Xor.calls (strOfNums y199) 1 (strOfNums y203) a2 t209 t210 _ A25.out).mono ?_); rintro e w36 ⟨rfl, hb⟩; refine ⟨_, rfl, ?_⟩; have n0_ := Aside0.mk (Kd.R_below (by (with_reducible repeat (first | apply Kd.R_alloc | apply Kd.R_drewN | apply Kd.R_drew)); exact HO_7.out) hb); have n1_ := Aside0.mk (below_step (by repeat (first | (with_reducible first | exact HB.out | apply below_alloc | apply pw_below_drewN | apply below_drew1) | exact HB.out)) hb); clear HO_7; clear HB; have HO_7 := n0_; have HB := n1_; clear n0_ n1_; (try clear hb); (try clear hb2); (try clear hk); (try clear hi)) | ((with_reducible refine gate_callee (f := 12) rfl ?_); refine goesL_ (some 72) rfl rfl Try.func12 (by kernel_rfl) rfl #[.string (strOfNums y199), .int .i64 0, .string (strOfNums y203)] rfl (by (try simp only [List.map_toArray, List.map_cons, List.map_nil]); first | done | rfl | (simp only [List.length_drop, List.length_take]; rfl)) ?_; (with_reducible refine (chacha_Block.calls (strOfNums y199) 0 (strOfNums y203) t211 t212 _ A26.out).mono ?_); rintro e w37 ⟨rfl, hb⟩; refine ⟨_, rfl, ?_⟩; have n0_ := Aside0.mk (Kd.R_below (by (with_reducible repeat (first | apply Kd.R_alloc | apply Kd.R_drewN | apply Kd.R_drew)); exact HO_7.out) hb); have n1_ := Aside0.mk (below_step (by repeat (first | (with_reducible first | exact HB.out | apply below_alloc | apply pw_below_drewN | apply below_drew1) | exact HB.out)) hb); clear HO_7; clear HB; have HO_7 := n0_; have HB := n1_; clear n0_ n1_; (try clear hb); (try clear hb2); (try clear hk); (try clear hi)))
                  (try simp only [Act.put, List.setIfInBounds_toArray, List.set_cons_zero, List.set_cons_succ])
                  go_cut [92] (fun v92 wc => ∃ (kq : Nat) (x92_26 : Bool), v92 = .bool x92_26 ∧ Aside0 (halberdlaw7_PolyParts.j3 kq a1 a2 t207 t209 t211 x92_26 = some r) ∧ Aside0 (kq ≤ kj10) ∧ Aside0 (Below w.heap.size w wc))
                  case first =>
                    have H := HC27.out
                    clear HC27
                    replace H := Option.bind_eq_some_iff.mp H
                    obtain ⟨t213, A380, H⟩ := H
                    replace H : (if t213 = 0 then ((halberdlaw0_Num.f t210).bind fun t214 => (if t214 = 0 then ((halberdlaw0_Num.f t212).bind fun t215 => (if t215 = 0 then (halberdlaw7_PolyParts.j3 kj10 a1 a2 t207 t209 t211 ((t211.size : Int) != 64)) else (halberdlaw7_PolyParts.j3 kj10 a1 a2 t207 t209 t211 true))) else (halberdlaw7_PolyParts.j3 kj10 a1 a2 t207 t209 t211 true))) else (halberdlaw7_PolyParts.j3 kj10 a1 a2 t207 t209 t211 true)) = some r := H
                    have A38 := Aside0.mk A380
                    clear A380
                    by_cases c39 : t213 = 0
                    · rw [if_pos c39] at H
                      have c39b0 : (t213 == 0) = true := beq_iff_eq.mpr c39
                      have c39b1 : (t213 != 0) = false := bne_eq_false_iff_eq.mpr c39
                      clear c39
                      (first | rw [c39b0] | (simp only [i64_w, i32_w]; rw [c39b0]) | skip)
                      replace H := Option.bind_eq_some_iff.mp H
                      obtain ⟨t214, A400, H⟩ := H
                      replace H : (if t214 = 0 then ((halberdlaw0_Num.f t212).bind fun t215 => (if t215 = 0 then (halberdlaw7_PolyParts.j3 kj10 a1 a2 t207 t209 t211 ((t211.size : Int) != 64)) else (halberdlaw7_PolyParts.j3 kj10 a1 a2 t207 t209 t211 true))) else (halberdlaw7_PolyParts.j3 kj10 a1 a2 t207 t209 t211 true)) = some r := H
                      have A40 := Aside0.mk A400
                      clear A400
                      by_cases c41 : t214 = 0
                      · rw [if_pos c41] at H
                        have c41b0 : (t214 == 0) = true := beq_iff_eq.mpr c41
                        have c41b1 : (t214 != 0) = false := bne_eq_false_iff_eq.mpr c41
                        clear c41
                        replace H := Option.bind_eq_some_iff.mp H
                        obtain ⟨t215, A420, H⟩ := H
                        replace H : (if t215 = 0 then (halberdlaw7_PolyParts.j3 kj10 a1 a2 t207 t209 t211 ((t211.size : Int) != 64)) else (halberdlaw7_PolyParts.j3 kj10 a1 a2 t207 t209 t211 true)) = some r := H
                        have A42 := Aside0.mk A420
                        clear A420
                        by_cases c43 : t215 = 0
                        · rw [if_pos c43] at H
                          have c43b0 : (t215 == 0) = true := beq_iff_eq.mpr c43
                          have c43b1 : (t215 != 0) = false := bne_eq_false_iff_eq.mpr c43
                          clear c43
                          have H' := Aside0.mk H
                          clear H
                          go_wp2_with (first | ((with_reducible refine gate_callee (f := 16) rfl ?_); refine goesL_ (some 76) rfl rfl Try.func16 (by kernel_rfl) rfl #[.int .i64 t208] rfl (by (try simp only [List.map_toArray, List.map_cons, List.map_nil]); first | done | rfl | (simp only [List.length_drop, List.length_take]; rfl)) ?_; (with_reducible refine (halberdlaw0_Num.calls t208 t213 _ A38.out).mono ?_); rintro e w' ⟨rfl, ⟨nd, rfl⟩⟩; refine ⟨_, rfl, ?_⟩) | (go_at_call 16; (with_reducible refine (halberdlaw0_Num.calls t210 t214 _ A40.out).mono ?_); rintro e w' ⟨rfl, ⟨nd, rfl⟩⟩) | (go_at_call 16; (with_reducible refine (halberdlaw0_Num.calls t212 t215 _ A42.out).mono ?_); rintro e w' ⟨rfl, ⟨nd, rfl⟩⟩))
                          go_meet
                          case rel => exact ⟨_, (((t211.size : Int) != 64)), (by first | rfl | (simp; done) | (simp [*]; done)), H', ⟨by have := HJ5.out; have := HJ10.out; first | omega | exact Nat.le_refl _⟩, ⟨by repeat (first | (with_reducible first | exact HB.out | apply below_alloc | apply pw_below_drewN | apply below_drew1) | exact HB.out)⟩⟩
                        · rw [if_neg c43] at H
                          have c43b0 : (t215 == 0) = false := beq_eq_false_iff_ne.mpr c43
                          have c43b1 : (t215 != 0) = true := bne_iff_ne.mpr c43
                          have H' := Aside0.mk H
                          clear H
                          go_wp2_with (first | ((with_reducible refine gate_callee (f := 16) rfl ?_); refine goesL_ (some 76) rfl rfl Try.func16 (by kernel_rfl) rfl #[.int .i64 t208] rfl (by (try simp only [List.map_toArray, List.map_cons, List.map_nil]); first | done | rfl | (simp only [List.length_drop, List.length_take]; rfl)) ?_; (with_reducible refine (halberdlaw0_Num.calls t208 t213 _ A38.out).mono ?_); rintro e w' ⟨rfl, ⟨nd, rfl⟩⟩; refine ⟨_, rfl, ?_⟩) | (go_at_call 16; (with_reducible refine (halberdlaw0_Num.calls t210 t214 _ A40.out).mono ?_); rintro e w' ⟨rfl, ⟨nd, rfl⟩⟩) | (go_at_call 16; (with_reducible refine (halberdlaw0_Num.calls t212 t215 _ A42.out).mono ?_); rintro e w' ⟨rfl, ⟨nd, rfl⟩⟩))
                          go_meet
                          case rel => exact ⟨_, (true), (by first | rfl | (simp; done) | (simp [*]; done)), H', ⟨by have := HJ5.out; have := HJ10.out; first | omega | exact Nat.le_refl _⟩, ⟨by repeat (first | (with_reducible first | exact HB.out | apply below_alloc | apply pw_below_drewN | apply below_drew1) | exact HB.out)⟩⟩
                      · rw [if_neg c41] at H
                        have c41b0 : (t214 == 0) = false := beq_eq_false_iff_ne.mpr c41
                        have c41b1 : (t214 != 0) = true := bne_iff_ne.mpr c41
                        have H' := Aside0.mk H
                        clear H
                        go_wp2_with (first | ((with_reducible refine gate_callee (f := 16) rfl ?_); refine goesL_ (some 76) rfl rfl Try.func16 (by kernel_rfl) rfl #[.int .i64 t208] rfl (by (try simp only [List.map_toArray, List.map_cons, List.map_nil]); first | done | rfl | (simp only [List.length_drop, List.length_take]; rfl)) ?_; (with_reducible refine (halberdlaw0_Num.calls t208 t213 _ A38.out).mono ?_); rintro e w' ⟨rfl, ⟨nd, rfl⟩⟩; refine ⟨_, rfl, ?_⟩) | (go_at_call 16; (with_reducible refine (halberdlaw0_Num.calls t210 t214 _ A40.out).mono ?_); rintro e w' ⟨rfl, ⟨nd, rfl⟩⟩))
                        go_meet
                        case rel => exact ⟨_, (true), (by first | rfl | (simp; done) | (simp [*]; done)), H', ⟨by have := HJ5.out; have := HJ10.out; first | omega | exact Nat.le_refl _⟩, ⟨by repeat (first | (with_reducible first | exact HB.out | apply below_alloc | apply pw_below_drewN | apply below_drew1) | exact HB.out)⟩⟩
                    · rw [if_neg c39] at H
                      have c39b0 : (t213 == 0) = false := beq_eq_false_iff_ne.mpr c39
                      have c39b1 : (t213 != 0) = true := bne_iff_ne.mpr c39
                      (first | rw [c39b0] | (simp only [i64_w, i32_w]; rw [c39b0]) | skip)
                      have H' := Aside0.mk H
                      clear H
                      go_wp2_with (first | ((with_reducible refine gate_callee (f := 16) rfl ?_); refine goesL_ (some 76) rfl rfl Try.func16 (by kernel_rfl) rfl #[.int .i64 t208] rfl (by (try simp only [List.map_toArray, List.map_cons, List.map_nil]); first | done | rfl | (simp only [List.length_drop, List.length_take]; rfl)) ?_; (with_reducible refine (halberdlaw0_Num.calls t208 t213 _ A38.out).mono ?_); rintro e w' ⟨rfl, ⟨nd, rfl⟩⟩; refine ⟨_, rfl, ?_⟩))
                      go_meet
                      case rel => exact ⟨_, (true), (by first | rfl | (simp; done) | (simp [*]; done)), H', ⟨by have := HJ5.out; have := HJ10.out; first | omega | exact Nat.le_refl _⟩, ⟨by repeat (first | (with_reducible first | exact HB.out | apply below_alloc | apply pw_below_drewN | apply below_drew1) | exact HB.out)⟩⟩
                  case rest =>
                    clear HC27
                    try clear c1
                    try clear p1
                    try clear q1
                    try clear hx1
                    try clear c2
                    try clear p2
                    try clear q2
                    try clear c3
                    try clear q3
                    try clear hcv3
                    try clear c4
                    try clear c5
                    try clear p6
                    try clear c8
                    try clear c8b0
                    try clear c8b1
                    try clear c9
                    try clear c10
                    try clear c10b0
                    try clear c10b1
                    try clear c11
                    try clear c12
                    try clear c14
                    try clear c14b0
                    try clear c15
                    try clear c15b0
                    try clear c16
                    try clear c16b0
                    try clear p17
                    try clear q17
                    try clear hx17
                    try clear c18
                    try clear c18b0
                    try clear p19
                    try clear q19
                    try clear hx19
                    try clear hf19
                    try clear c20
                    try clear c22
                    try clear c22b0
                    try clear c22b1
                    try clear c23
                    try clear c23b0
                    try clear c24
                    try clear q29
                    try clear c31
                    try clear q31
                    try clear hcv32
                    try clear hcv33
                    try clear c39
                    try clear c39b0
                    try clear c39b1
                    try clear c41
                    try clear c41b0
                    try clear c41b1
                    try clear c43
                    try clear c43b0
                    try clear c43b1
                    try clear hx19_0
                    try clear p1
                    try clear p17
                    try clear p19
                    try clear p2
                    try clear p6
                    try clear q1
                    try clear q17
                    try clear q19
                    try clear q29
                    try clear q31
                    obtain ⟨kq, x92_26, rfl, HA, HJ26, HB⟩ := hcut
                    cases kq with
                    | zero => exact absurd HA.out (by simp [halberdlaw7_PolyParts.j3])
                    | succ kj26 =>
                      have H := HA.out
                      clear HA
                      simp only [halberdlaw7_PolyParts.j3] at H
                      by_cases c44 : x92_26 = true
                      · subst c44
                        have H1 : (some false) = some r := by rw [if_pos rfl] at H; exact H
                        clear H
                        have H := H1
                        clear H1
                        exact absurd ((Option.some.inj H).trans hr.out) (by decide)
                      · replace c44 := Bool.eq_false_iff.mpr c44
                        subst c44
                        have H1 : ((some (([(Go.bits .and .i64 (a1.size : Int) 255) % 256, ((a1.size : Int) / 256) % 256, 0, 0, 0, 0, 0, 0, (Go.bits .and .i64 (a2.size : Int) 255) % 256, ((a2.size : Int) / 256) % 256, 0, 0, 0, 0, 0, 0] : List Int) : List Int)).bind fun y216 => (if 0 ≤ ((16 - ((a1.size : Int) % 16)) % 16) then (if ((16 - ((a1.size : Int) % 16)) % 16 : Int).toNat ≤ 281474976710656 then ((some (List.replicate ((16 - ((a1.size : Int) % 16)) % 16 : Int).toNat 0 : List Int)).bind fun y219 => (if a1.size + (strOfNums y219).size ≤ 9223372036854775807 then ((some (a1 ++ (strOfNums y219) : ByteArray)).bind fun ys222 => (if ys222.size + t209.size ≤ 9223372036854775807 then ((some (ys222 ++ t209 : ByteArray)).bind fun ys223 => (if 0 ≤ ((16 - ((t209.size : Int) % 16)) % 16) then (if ((16 - ((t209.size : Int) % 16)) % 16 : Int).toNat ≤ 281474976710656 then ((some (List.replicate ((16 - ((t209.size : Int) % 16)) % 16 : Int).toNat 0 : List Int)).bind fun y224 => (if ys223.size + (strOfNums y224).size ≤ 9223372036854775807 then ((some (ys223 ++ (strOfNums y224) : ByteArray)).bind fun ys227 => (if ys227.size + (strOfNums y216).size ≤ 9223372036854775807 then (if 0 ≤ 32 then (if 32 ≤ (t211.size : Int) then ((poly_Mac.f (t211.extract 0 32) (ys227 ++ (strOfNums y216))).bind fun bt229 => ((halberdlaw0_Num.f bt229.2).bind fun t231 => (if t231 = 0 then (if t209.size + bt229.1.size ≤ 9223372036854775807 then (some (t207.toList == (t209 ++ bt229.1).toList)) else (none)) else (some false)))) else (none)) else (none)) else (none))) else (none))) else (none)) else (none))) else (none))) else (none))) else (none)) else (none))) = some r := by rw [if_neg (show ¬ (false = true) by decide)] at H; exact H
                        clear H
                        have H := H1
                        clear H1
                        obtain ⟨y216, hy216⟩ : ∃ y_ : List Int, y_ = (([(Go.bits .and .i64 (a1.size : Int) 255) % 256, ((a1.size : Int) / 256) % 256, 0, 0, 0, 0, 0, 0, (Go.bits .and .i64 (a2.size : Int) 255) % 256, ((a2.size : Int) / 256) % 256, 0, 0, 0, 0, 0, 0] : List Int)) := ⟨_, rfl⟩
                        replace H : (if 0 ≤ ((16 - ((a1.size : Int) % 16)) % 16) then (if ((16 - ((a1.size : Int) % 16)) % 16 : Int).toNat ≤ 281474976710656 then ((some (List.replicate ((16 - ((a1.size : Int) % 16)) % 16 : Int).toNat 0 : List Int)).bind fun y219 => (if a1.size + (strOfNums y219).size ≤ 9223372036854775807 then ((some (a1 ++ (strOfNums y219) : ByteArray)).bind fun ys222 => (if ys222.size + t209.size ≤ 9223372036854775807 then ((some (ys222 ++ t209 : ByteArray)).bind fun ys223 => (if 0 ≤ ((16 - ((t209.size : Int) % 16)) % 16) then (if ((16 - ((t209.size : Int) % 16)) % 16 : Int).toNat ≤ 281474976710656 then ((some (List.replicate ((16 - ((t209.size : Int) % 16)) % 16 : Int).toNat 0 : List Int)).bind fun y224 => (if ys223.size + (strOfNums y224).size ≤ 9223372036854775807 then ((some (ys223 ++ (strOfNums y224) : ByteArray)).bind fun ys227 => (if ys227.size + (strOfNums y216).size ≤ 9223372036854775807 then (if 0 ≤ 32 then (if 32 ≤ (t211.size : Int) then ((poly_Mac.f (t211.extract 0 32) (ys227 ++ (strOfNums y216))).bind fun bt229 => ((halberdlaw0_Num.f bt229.2).bind fun t231 => (if t231 = 0 then (if t209.size + bt229.1.size ≤ 9223372036854775807 then (some (t207.toList == (t209 ++ bt229.1).toList)) else (none)) else (some false)))) else (none)) else (none)) else (none))) else (none))) else (none)) else (none))) else (none))) else (none))) else (none)) else (none)) = some r := by first | (rw [hy216]; with_reducible exact H) | (have H2_ := (Option.bind_some _ _).symm.trans H; rw [hy216]; with_reducible exact H2_) | (have H2_ := (Option.bind_some _ _).symm.trans H; with_reducible exact H2_) | with_reducible exact H | (rw [hy216]; exact H) | exact H
                        have Ny216 := Aside0.mk hy216
                        clear hy216
                        obtain ⟨ji45, hji45⟩ : ∃ j_ : Int, ((16 - ((a1.size : Int) % 16)) % 16) = j_ := ⟨_, rfl⟩
                        have hjt45 : Int.tmod (wrap64 (16 - Int.tmod (a1.size : Int) 16)) 16 = ji45 := by
                          rw [← hji45, Int.tmod_eq_emod_of_nonneg (Int.natCast_nonneg _), show wrap64 (16 - (a1.size : Int) % 16) = 16 - (a1.size : Int) % 16 from by unfold wrap64; omega, Int.tmod_eq_emod_of_nonneg (by omega)]
                        replace H : (if 0 ≤ (ji45) then (if (ji45 : Int).toNat ≤ 281474976710656 then ((some (List.replicate (ji45 : Int).toNat 0 : List Int)).bind fun y219 => (if a1.size + (strOfNums y219).size ≤ 9223372036854775807 then ((some (a1 ++ (strOfNums y219) : ByteArray)).bind fun ys222 => (if ys222.size + t209.size ≤ 9223372036854775807 then ((some (ys222 ++ t209 : ByteArray)).bind fun ys223 => (if 0 ≤ ((16 - ((t209.size : Int) % 16)) % 16) then (if ((16 - ((t209.size : Int) % 16)) % 16 : Int).toNat ≤ 281474976710656 then ((some (List.replicate ((16 - ((t209.size : Int) % 16)) % 16 : Int).toNat 0 : List Int)).bind fun y224 => (if ys223.size + (strOfNums y224).size ≤ 9223372036854775807 then ((some (ys223 ++ (strOfNums y224) : ByteArray)).bind fun ys227 => (if ys227.size + (strOfNums y216).size ≤ 9223372036854775807 then (if 0 ≤ 32 then (if 32 ≤ (t211.size : Int) then ((poly_Mac.f (t211.extract 0 32) (ys227 ++ (strOfNums y216))).bind fun bt229 => ((halberdlaw0_Num.f bt229.2).bind fun t231 => (if t231 = 0 then (if t209.size + bt229.1.size ≤ 9223372036854775807 then (some (t207.toList == (t209 ++ bt229.1).toList)) else (none)) else (some false)))) else (none)) else (none)) else (none))) else (none))) else (none)) else (none))) else (none))) else (none))) else (none)) else (none)) = some r := by first | (rw [hji45] at H; exact H) | (simp only [hji45] at H ⊢; exact H)
                        by_cases c46 : 0 ≤ (ji45)
                        · rw [if_pos c46] at H
                          have c46b0 := eq_true c46
                          have c46b1 : decide (0 ≤ (ji45)) = true := decide_eq_true c46
                          clear c46
                          by_cases c47 : (ji45 : Int).toNat ≤ 281474976710656
                          · rw [if_pos c47] at H
                            have c47b0 := eq_true c47
                            have c47b1 : decide ((ji45 : Int).toNat ≤ 281474976710656) = true := decide_eq_true c47
                            clear c47
                            obtain ⟨y219, hy219⟩ : ∃ y_ : List Int, y_ = (List.replicate (ji45 : Int).toNat 0) := ⟨_, rfl⟩
                            replace H : (if a1.size + (strOfNums y219).size ≤ 9223372036854775807 then ((some (a1 ++ (strOfNums y219) : ByteArray)).bind fun ys222 => (if ys222.size + t209.size ≤ 9223372036854775807 then ((some (ys222 ++ t209 : ByteArray)).bind fun ys223 => (if 0 ≤ ((16 - ((t209.size : Int) % 16)) % 16) then (if ((16 - ((t209.size : Int) % 16)) % 16 : Int).toNat ≤ 281474976710656 then ((some (List.replicate ((16 - ((t209.size : Int) % 16)) % 16 : Int).toNat 0 : List Int)).bind fun y224 => (if ys223.size + (strOfNums y224).size ≤ 9223372036854775807 then ((some (ys223 ++ (strOfNums y224) : ByteArray)).bind fun ys227 => (if ys227.size + (strOfNums y216).size ≤ 9223372036854775807 then (if 0 ≤ 32 then (if 32 ≤ (t211.size : Int) then ((poly_Mac.f (t211.extract 0 32) (ys227 ++ (strOfNums y216))).bind fun bt229 => ((halberdlaw0_Num.f bt229.2).bind fun t231 => (if t231 = 0 then (if t209.size + bt229.1.size ≤ 9223372036854775807 then (some (t207.toList == (t209 ++ bt229.1).toList)) else (none)) else (some false)))) else (none)) else (none)) else (none))) else (none))) else (none)) else (none))) else (none))) else (none)) = some r := by first | (rw [hy219]; with_reducible exact H) | (have H2_ := (Option.bind_some _ _).symm.trans H; rw [hy219]; with_reducible exact H2_) | (have H2_ := (Option.bind_some _ _).symm.trans H; with_reducible exact H2_) | with_reducible exact H | (rw [hy219]; exact H) | exact H
                            have Ny219 := Aside0.mk hy219
                            clear hy219
                            by_cases c48 : a1.size + (strOfNums y219).size ≤ 9223372036854775807
                            · rw [if_pos c48] at H
                              have c48b0 := eq_true c48
                              have c48b1 : decide (a1.size + (strOfNums y219).size ≤ 9223372036854775807) = true := decide_eq_true c48
                              try have c48b2 : (9223372036854775807 < a1.size + (strOfNums y219).size) = False := eq_false (Nat.not_lt.2 c48)
                              obtain ⟨ys222, hys222⟩ : ∃ y_ : ByteArray, y_ = (a1 ++ (strOfNums y219)) := ⟨_, rfl⟩
                              replace H : (if ys222.size + t209.size ≤ 9223372036854775807 then ((some (ys222 ++ t209 : ByteArray)).bind fun ys223 => (if 0 ≤ ((16 - ((t209.size : Int) % 16)) % 16) then (if ((16 - ((t209.size : Int) % 16)) % 16 : Int).toNat ≤ 281474976710656 then ((some (List.replicate ((16 - ((t209.size : Int) % 16)) % 16 : Int).toNat 0 : List Int)).bind fun y224 => (if ys223.size + (strOfNums y224).size ≤ 9223372036854775807 then ((some (ys223 ++ (strOfNums y224) : ByteArray)).bind fun ys227 => (if ys227.size + (strOfNums y216).size ≤ 9223372036854775807 then (if 0 ≤ 32 then (if 32 ≤ (t211.size : Int) then ((poly_Mac.f (t211.extract 0 32) (ys227 ++ (strOfNums y216))).bind fun bt229 => ((halberdlaw0_Num.f bt229.2).bind fun t231 => (if t231 = 0 then (if t209.size + bt229.1.size ≤ 9223372036854775807 then (some (t207.toList == (t209 ++ bt229.1).toList)) else (none)) else (some false)))) else (none)) else (none)) else (none))) else (none))) else (none)) else (none))) else (none)) = some r := by first | (rw [hys222]; with_reducible exact H) | (have H2_ := (Option.bind_some _ _).symm.trans H; rw [hys222]; with_reducible exact H2_) | (have H2_ := (Option.bind_some _ _).symm.trans H; with_reducible exact H2_) | with_reducible exact H | (rw [hys222]; exact H) | exact H
                              have Nys222 := Aside0.mk hys222
                              clear hys222
                              have Sys222 := Nys222.out.symm
                              by_cases c49 : ys222.size + t209.size ≤ 9223372036854775807
                              · rw [if_pos c49] at H
                                have c49b0 := eq_true c49
                                have c49b1 : decide (ys222.size + t209.size ≤ 9223372036854775807) = true := decide_eq_true c49
                                try have c49b2 : (9223372036854775807 < ys222.size + t209.size) = False := eq_false (Nat.not_lt.2 c49)
                                obtain ⟨ys223, hys223⟩ : ∃ y_ : ByteArray, y_ = (ys222 ++ t209) := ⟨_, rfl⟩
                                replace H : (if 0 ≤ ((16 - ((t209.size : Int) % 16)) % 16) then (if ((16 - ((t209.size : Int) % 16)) % 16 : Int).toNat ≤ 281474976710656 then ((some (List.replicate ((16 - ((t209.size : Int) % 16)) % 16 : Int).toNat 0 : List Int)).bind fun y224 => (if ys223.size + (strOfNums y224).size ≤ 9223372036854775807 then ((some (ys223 ++ (strOfNums y224) : ByteArray)).bind fun ys227 => (if ys227.size + (strOfNums y216).size ≤ 9223372036854775807 then (if 0 ≤ 32 then (if 32 ≤ (t211.size : Int) then ((poly_Mac.f (t211.extract 0 32) (ys227 ++ (strOfNums y216))).bind fun bt229 => ((halberdlaw0_Num.f bt229.2).bind fun t231 => (if t231 = 0 then (if t209.size + bt229.1.size ≤ 9223372036854775807 then (some (t207.toList == (t209 ++ bt229.1).toList)) else (none)) else (some false)))) else (none)) else (none)) else (none))) else (none))) else (none)) else (none)) = some r := by first | (rw [hys223]; with_reducible exact H) | (have H2_ := (Option.bind_some _ _).symm.trans H; rw [hys223]; with_reducible exact H2_) | (have H2_ := (Option.bind_some _ _).symm.trans H; with_reducible exact H2_) | with_reducible exact H | (rw [hys223]; exact H) | exact H
                                have Nys223 := Aside0.mk hys223
                                clear hys223
                                have Sys223 := Nys223.out.symm
                                obtain ⟨ji50, hji50⟩ : ∃ j_ : Int, ((16 - ((t209.size : Int) % 16)) % 16) = j_ := ⟨_, rfl⟩
                                have hjt50 : Int.tmod (wrap64 (16 - Int.tmod (t209.size : Int) 16)) 16 = ji50 := by
                                  rw [← hji50, Int.tmod_eq_emod_of_nonneg (Int.natCast_nonneg _), show wrap64 (16 - (t209.size : Int) % 16) = 16 - (t209.size : Int) % 16 from by unfold wrap64; omega, Int.tmod_eq_emod_of_nonneg (by omega)]
                                replace H : (if 0 ≤ (ji50) then (if (ji50 : Int).toNat ≤ 281474976710656 then ((some (List.replicate (ji50 : Int).toNat 0 : List Int)).bind fun y224 => (if ys223.size + (strOfNums y224).size ≤ 9223372036854775807 then ((some (ys223 ++ (strOfNums y224) : ByteArray)).bind fun ys227 => (if ys227.size + (strOfNums y216).size ≤ 9223372036854775807 then (if 0 ≤ 32 then (if 32 ≤ (t211.size : Int) then ((poly_Mac.f (t211.extract 0 32) (ys227 ++ (strOfNums y216))).bind fun bt229 => ((halberdlaw0_Num.f bt229.2).bind fun t231 => (if t231 = 0 then (if t209.size + bt229.1.size ≤ 9223372036854775807 then (some (t207.toList == (t209 ++ bt229.1).toList)) else (none)) else (some false)))) else (none)) else (none)) else (none))) else (none))) else (none)) else (none)) = some r := by first | (rw [hji50] at H; exact H) | (simp only [hji50] at H ⊢; exact H)
                                by_cases c51 : 0 ≤ (ji50)
                                · rw [if_pos c51] at H
                                  have c51b0 := eq_true c51
                                  have c51b1 : decide (0 ≤ (ji50)) = true := decide_eq_true c51
                                  clear c51
                                  by_cases c52 : (ji50 : Int).toNat ≤ 281474976710656
                                  · rw [if_pos c52] at H
                                    have c52b0 := eq_true c52
                                    have c52b1 : decide ((ji50 : Int).toNat ≤ 281474976710656) = true := decide_eq_true c52
                                    clear c52
                                    obtain ⟨y224, hy224⟩ : ∃ y_ : List Int, y_ = (List.replicate (ji50 : Int).toNat 0) := ⟨_, rfl⟩
                                    replace H : (if ys223.size + (strOfNums y224).size ≤ 9223372036854775807 then ((some (ys223 ++ (strOfNums y224) : ByteArray)).bind fun ys227 => (if ys227.size + (strOfNums y216).size ≤ 9223372036854775807 then (if 0 ≤ 32 then (if 32 ≤ (t211.size : Int) then ((poly_Mac.f (t211.extract 0 32) (ys227 ++ (strOfNums y216))).bind fun bt229 => ((halberdlaw0_Num.f bt229.2).bind fun t231 => (if t231 = 0 then (if t209.size + bt229.1.size ≤ 9223372036854775807 then (some (t207.toList == (t209 ++ bt229.1).toList)) else (none)) else (some false)))) else (none)) else (none)) else (none))) else (none)) = some r := by first | (rw [hy224]; with_reducible exact H) | (have H2_ := (Option.bind_some _ _).symm.trans H; rw [hy224]; with_reducible exact H2_) | (have H2_ := (Option.bind_some _ _).symm.trans H; with_reducible exact H2_) | with_reducible exact H | (rw [hy224]; exact H) | exact H
                                    have Ny224 := Aside0.mk hy224
                                    clear hy224
                                    by_cases c53 : ys223.size + (strOfNums y224).size ≤ 9223372036854775807
                                    · rw [if_pos c53] at H
                                      have c53b0 := eq_true c53
                                      have c53b1 : decide (ys223.size + (strOfNums y224).size ≤ 9223372036854775807) = true := decide_eq_true c53
                                      try have c53b2 : (9223372036854775807 < ys223.size + (strOfNums y224).size) = False := eq_false (Nat.not_lt.2 c53)
                                      obtain ⟨ys227, hys227⟩ : ∃ y_ : ByteArray, y_ = (ys223 ++ (strOfNums y224)) := ⟨_, rfl⟩
                                      replace H : (if ys227.size + (strOfNums y216).size ≤ 9223372036854775807 then (if 0 ≤ 32 then (if 32 ≤ (t211.size : Int) then ((poly_Mac.f (t211.extract 0 32) (ys227 ++ (strOfNums y216))).bind fun bt229 => ((halberdlaw0_Num.f bt229.2).bind fun t231 => (if t231 = 0 then (if t209.size + bt229.1.size ≤ 9223372036854775807 then (some (t207.toList == (t209 ++ bt229.1).toList)) else (none)) else (some false)))) else (none)) else (none)) else (none)) = some r := by first | (rw [hys227]; with_reducible exact H) | (have H2_ := (Option.bind_some _ _).symm.trans H; rw [hys227]; with_reducible exact H2_) | (have H2_ := (Option.bind_some _ _).symm.trans H; with_reducible exact H2_) | with_reducible exact H | (rw [hys227]; exact H) | exact H
                                      have Nys227 := Aside0.mk hys227
                                      clear hys227
                                      have Sys227 := Nys227.out.symm
                                      by_cases c54 : ys227.size + (strOfNums y216).size ≤ 9223372036854775807
                                      · rw [if_pos c54] at H
                                        have c54b0 := eq_true c54
                                        have c54b1 : decide (ys227.size + (strOfNums y216).size ≤ 9223372036854775807) = true := decide_eq_true c54
                                        try have c54b2 : (9223372036854775807 < ys227.size + (strOfNums y216).size) = False := eq_false (Nat.not_lt.2 c54)
                                        obtain ⟨ys228, hys228⟩ : ∃ y_ : ByteArray, y_ = (ys227 ++ (strOfNums y216)) := ⟨_, rfl⟩
                                        replace H : (if 0 ≤ 32 then (if 32 ≤ (t211.size : Int) then ((poly_Mac.f (t211.extract 0 32) ys228).bind fun bt229 => ((halberdlaw0_Num.f bt229.2).bind fun t231 => (if t231 = 0 then (if t209.size + bt229.1.size ≤ 9223372036854775807 then (some (t207.toList == (t209 ++ bt229.1).toList)) else (none)) else (some false)))) else (none)) else (none)) = some r := by first | (rw [hys228]; with_reducible exact H) | (have H2_ := (Option.bind_some _ _).symm.trans H; rw [hys228]; with_reducible exact H2_) | (have H2_ := (Option.bind_some _ _).symm.trans H; with_reducible exact H2_) | with_reducible exact H | (rw [hys228]; exact H) | exact H
                                        have Nys228 := Aside0.mk hys228
                                        clear hys228
                                        have Sys228 := Nys228.out.symm
                                        by_cases c55 : 0 ≤ 32
                                        · rw [if_pos c55] at H
                                          have c55b0 := eq_true c55
                                          have c55b1 : decide (0 ≤ 32) = true := decide_eq_true c55
                                          clear c55
                                          by_cases c56 : 32 ≤ (t211.size : Int)
                                          · rw [if_pos c56] at H
                                            have c56b0 := eq_true c56
                                            have c56b1 : decide (32 ≤ (t211.size : Int)) = true := decide_eq_true c56
                                            clear c56
                                            replace H := Option.bind_eq_some_iff.mp H
                                            obtain ⟨⟨t229, t230⟩, A570, H⟩ := H
                                            replace H : ((halberdlaw0_Num.f t230).bind fun t231 => (if t231 = 0 then (if t209.size + t229.size ≤ 9223372036854775807 then (some (t207.toList == (t209 ++ t229).toList)) else (none)) else (some false))) = some r := H
                                            have A57 := Aside0.mk A570
                                            clear A570
                                            replace H := Option.bind_eq_some_iff.mp H
                                            obtain ⟨t231, A580, H⟩ := H
                                            replace H : (if t231 = 0 then (if t209.size + t229.size ≤ 9223372036854775807 then (some (t207.toList == (t209 ++ t229).toList)) else (none)) else (some false)) = some r := H
                                            have A58 := Aside0.mk A580
                                            clear A580
                                            by_cases c59 : t231 = 0
                                            · rw [if_pos c59] at H
                                              have c59b0 : (t231 == 0) = true := beq_iff_eq.mpr c59
                                              have c59b1 : (t231 != 0) = false := bne_eq_false_iff_eq.mpr c59
                                              clear c59
                                              by_cases c60 : t209.size + t229.size ≤ 9223372036854775807
                                              · rw [if_pos c60] at H
                                                have c60b0 := eq_true c60
                                                have c60b1 : decide (t209.size + t229.size ≤ 9223372036854775807) = true := decide_eq_true c60
                                                try have c60b2 : (9223372036854775807 < t209.size + t229.size) = False := eq_false (Nat.not_lt.2 c60)
                                                obtain ⟨ys232, hys232⟩ : ∃ y_ : ByteArray, y_ = (t209 ++ t229) := ⟨_, rfl⟩
                                                replace H : (some (t207.toList == ys232.toList)) = some r := by first | (rw [hys232]; with_reducible exact H) | (have H2_ := (Option.bind_some _ _).symm.trans H; rw [hys232]; with_reducible exact H2_) | (have H2_ := (Option.bind_some _ _).symm.trans H; with_reducible exact H2_) | with_reducible exact H | (rw [hys232]; exact H) | exact H
                                                have Nys232 := Aside0.mk hys232
                                                clear hys232
                                                have Sys232 := Nys232.out.symm
                                                obtain rfl := Option.some.inj H
                                                try go_wp2_with (first | ((with_reducible refine gate_dst (N := 109) rfl ?_); (try (refine gate_guard (by rfl) ?_; dsimp only)); refine Kd.R_lit (Kd.int .u8) _ 5 ?hg (N := 109) ?hd (xs := ([(Go.bits .and .i64 (a1.size : Int) 255) % 256, ((a1.size : Int) / 256) % 256, 0, 0, 0, 0, 0, 0, (Go.bits .and .i64 (a2.size : Int) 255) % 256, ((a2.size : Int) / 256) % 256, 0, 0, 0, 0, 0, 0] : List Int)) (inner := [.int .u8 ((Go.bits .and .i64 (a1.size : Int) 255) % 256), .int .u8 (((a1.size : Int) / 256) % 256), .int .u8 0, .int .u8 0, .int .u8 0, .int .u8 0, .int .u8 0, .int .u8 0, .int .u8 ((Go.bits .and .i64 (a2.size : Int) 255) % 256), .int .u8 (((a2.size : Int) / 256) % 256), .int .u8 0, .int .u8 0, .int .u8 0, .int .u8 0, .int .u8 0, .int .u8 0]) (ok := fun _ => True) (okp := fun _ => True) ?hr ?hp (fun _ hk => hk) trivial (Below.refl _ _) (Nat.le_refl _) (by simp) ?_; (case hd => rfl); (case hg => rfl); (case hr => first | (go_simp; done) | (go_simp; rfl)); (case hp => exact (Reps.one (show Kd.M (Kd.int .u8) _ _ _ ((Go.bits .and .i64 (a1.size : Int) 255) % 256) [.int .u8 ((Go.bits .and .i64 (a1.size : Int) 255) % 256)] from rfl) (Reps.one (show Kd.M (Kd.int .u8) _ _ _ (((a1.size : Int) / 256) % 256) [.int .u8 (((a1.size : Int) / 256) % 256)] from rfl) (Reps.one (show Kd.M (Kd.int .u8) _ _ _ 0 [.int .u8 0] from rfl) (Reps.one (show Kd.M (Kd.int .u8) _ _ _ 0 [.int .u8 0] from rfl) (Reps.one (show Kd.M (Kd.int .u8) _ _ _ 0 [.int .u8 0] from rfl) (Reps.one (show Kd.M (Kd.int .u8) _ _ _ 0 [.int .u8 0] from rfl) (Reps.one (show Kd.M (Kd.int .u8) _ _ _ 0 [.int .u8 0] from rfl) (Reps.one (show Kd.M (Kd.int .u8) _ _ _ 0 [.int .u8 0] from rfl) (Reps.one (show Kd.M (Kd.int .u8) _ _ _ ((Go.bits .and .i64 (a2.size : Int) 255) % 256) [.int .u8 ((Go.bits .and .i64 (a2.size : Int) 255) % 256)] from rfl) (Reps.one (show Kd.M (Kd.int .u8) _ _ _ (((a2.size : Int) / 256) % 256) [.int .u8 (((a2.size : Int) / 256) % 256)] from rfl) (Reps.one (show Kd.M (Kd.int .u8) _ _ _ 0 [.int .u8 0] from rfl) (Reps.one (show Kd.M (Kd.int .u8) _ _ _ 0 [.int .u8 0] from rfl) (Reps.one (show Kd.M (Kd.int .u8) _ _ _ 0 [.int .u8 0] from rfl) (Reps.one (show Kd.M (Kd.int .u8) _ _ _ 0 [.int .u8 0] from rfl) (Reps.one (show Kd.M (Kd.int .u8) _ _ _ 0 [.int .u8 0] from rfl) (Reps.one (show Kd.M (Kd.int .u8) _ _ _ 0 [.int .u8 0] from rfl) (Reps.none _ _)))))))))))))))))); intro v217 w61 ho62 hb hg_ hnew_; clear hg_ hnew_; (first | rw [← Ny216.out] at ho62 | (simp only [Int.reduceToNat] at ho62; rw [← Ny216.out] at ho62)); have n0_ := Aside0.mk (Kd.R_lower ho62 (below_size (by repeat (first | (with_reducible first | exact HB.out | apply below_alloc | apply pw_below_drewN | apply below_drew1) | exact HB.out)))); have n1_ := Aside0.mk (below_step (by repeat (first | (with_reducible first | exact HB.out | apply below_alloc | apply pw_below_drewN | apply below_drew1) | exact HB.out)) hb); clear HB; have HO218 := n0_; have HB := n1_; clear n0_ n1_; clear hb ho62; have hcv63 := own_string (P := Try.prog) Try.underlying32 Try.underlying5 Try.underlying9 (Kd.own_of_R HO218.out)))
                                                have n0_ := Aside0.mk (Kd.R_drew HO218.out)
                                                have n1_ := Aside0.mk (below_drew1 HB.out)
                                                clear HO218
                                                clear HB
                                                have HO218 := n0_
                                                have HB := n1_
                                                clear n0_ n1_
                                                refine start_ (n := 22) (S := fun w' => True) (ds := []) #[false, false, false, false, false, false, false, false, false, false, false, false, false, false, false, false, false, false, false, false, false, false] (by kernel_rfl) rfl rfl trivial (fun hHeld => ?_); refine with_tabW halberdlaw7_PolyParts.tab17 halberdlaw7_PolyParts.bits17 (fun HT_ HW_ => ?_)
                                                generalize w61.drew = w64 at HO218 HB hHeld ⊢
                                                refine pure_ (i := 0) (N := some 111) (v := ?_) (a' := ?_) #[true, false, false, false, false, false, false, false, false, false, false, false, false, false, false, false, false, false, false, false, false, false] rfl rfl (any_of HT_.out (by kernel_rfl)) (fun _ _ _ h => h) (Or.inl ⟨by rfl, ?_⟩) ?_ ?_
                                                rotate_left
                                                · intro w'
                                                  go_simp
                                                  with_reducible rfl
                                                rotate_left
                                                · simp only [Act.put, List.setIfInBounds_toArray, List.set_cons_zero, List.set_cons_succ, i64_w, i32_w]
                                                  rfl
                                                refine pure_ (i := 1) (N := some 112) (v := ?_) (a' := ?_) #[true, true, false, false, false, false, false, false, false, false, false, false, false, false, false, false, false, false, false, false, false, false] rfl rfl (any_of HT_.out (by kernel_rfl)) (fun _ _ _ h => h) (Or.inl ⟨by rfl, ?_⟩) ?_ ?_
                                                rotate_left
                                                · intro w'
                                                  go_simp
                                                  with_reducible rfl
                                                rotate_left
                                                · simp only [Act.put, List.setIfInBounds_toArray, List.set_cons_zero, List.set_cons_succ, i64_w, i32_w]
                                                  rfl
                                                refine pure_ (i := 2) (N := some 113) (v := ?_) (a' := ?_) #[true, true, true, false, false, false, false, false, false, false, false, false, false, false, false, false, false, false, false, false, false, false] rfl rfl (any_of HT_.out (by kernel_rfl)) (fun _ _ _ h => h) (Or.inl ⟨by rfl, ?_⟩) ?_ ?_
                                                rotate_left
                                                · intro w'
                                                  go_simp
                                                  with_reducible rfl
                                                rotate_left
                                                · simp only [Act.put, List.setIfInBounds_toArray, List.set_cons_zero, List.set_cons_succ, i64_w, i32_w]
                                                  rfl
                                                refine pure_ (i := 3) (N := some 114) (v := ?_) (a' := ?_) #[true, true, true, true, false, false, false, false, false, false, false, false, false, false, false, false, false, false, false, false, false, false] rfl rfl (any_of HT_.out (by kernel_rfl)) (fun _ _ _ h => h) (Or.inl ⟨by rfl, ?_⟩) ?_ ?_
                                                rotate_left
                                                · intro w'
                                                  go_simp
                                                  with_reducible rfl
                                                rotate_left
                                                · simp only [Act.put, List.setIfInBounds_toArray, List.set_cons_zero, List.set_cons_succ, i64_w, i32_w]
                                                  rfl
                                                refine pure_ (i := 4) (N := some 115) (v := ?_) (a' := ?_) #[true, true, true, true, true, false, false, false, false, false, false, false, false, false, false, false, false, false, false, false, false, false] rfl rfl (any_of HT_.out (by kernel_rfl)) (fun _ _ _ h => h) (Or.inl ⟨by rfl, ?_⟩) ?_ ?_
                                                rotate_left
                                                · intro w'
                                                  go_simp
                                                  with_reducible rfl
                                                rotate_left
                                                · simp only [Act.put, List.setIfInBounds_toArray, List.set_cons_zero, List.set_cons_succ, i64_w, i32_w]
                                                  rfl
                                                refine pure_ (i := 5) (N := some 116) (v := ?_) (a' := ?_) #[true, true, true, true, true, true, false, false, false, false, false, false, false, false, false, false, false, false, false, false, false, false] rfl rfl (any_of HT_.out (by kernel_rfl)) (fun _ _ _ h => h) (Or.inl ⟨by rfl, ?_⟩) ?_ ?_
                                                rotate_left
                                                · intro w'
                                                  go_simp
                                                  with_reducible rfl
                                                rotate_left
                                                · simp only [Act.put, List.setIfInBounds_toArray, List.set_cons_zero, List.set_cons_succ, i64_w, i32_w, hjt45, hjt50]
                                                  rfl
                                                refine pure_ (i := 9) (N := some 120) (v := ?_) (a' := ?_) #[true, true, true, true, true, true, false, false, false, true, false, false, false, false, false, false, false, false, false, false, false, false] rfl rfl (any_of HT_.out (by kernel_rfl)) (fun _ _ _ h => h) (Or.inl ⟨by rfl, ?_⟩) ?_ ?_
                                                rotate_left
                                                · intro w'
                                                  go_simp
                                                  with_reducible rfl
                                                rotate_left
                                                · simp only [Act.put, List.setIfInBounds_toArray, List.set_cons_zero, List.set_cons_succ, i64_w, i32_w]
                                                  rfl
                                                refine pure_ (i := 11) (N := some 122) (v := ?_) (a' := ?_) #[true, true, true, true, true, true, false, false, false, true, false, true, false, false, false, false, false, false, false, false, false, false] rfl rfl (any_of HT_.out (by kernel_rfl)) (fun _ _ _ h => h) (Or.inl ⟨by rfl, ?_⟩) ?_ ?_
                                                rotate_left
                                                · intro w'
                                                  go_simp
                                                  with_reducible rfl
                                                rotate_left
                                                · simp only [Act.put, List.setIfInBounds_toArray, List.set_cons_zero, List.set_cons_succ, i64_w, i32_w]
                                                  rfl
                                                refine pure_ (i := 12) (N := some 123) (v := ?_) (a' := ?_) #[true, true, true, true, true, true, false, false, false, true, false, true, true, false, false, false, false, false, false, false, false, false] rfl rfl (any_of HT_.out (by kernel_rfl)) (fun _ _ _ h => h) (Or.inl ⟨by rfl, ?_⟩) ?_ ?_
                                                rotate_left
                                                · intro w'
                                                  go_simp
                                                  with_reducible rfl
                                                rotate_left
                                                · simp only [Act.put, List.setIfInBounds_toArray, List.set_cons_zero, List.set_cons_succ, i64_w, i32_w]
                                                  rfl
                                                refine pure_ (i := 13) (N := some 124) (v := ?_) (a' := ?_) #[true, true, true, true, true, true, false, false, false, true, false, true, true, true, false, false, false, false, false, false, false, false] rfl rfl (any_of HT_.out (by kernel_rfl)) (fun _ _ _ h => h) (Or.inl ⟨by rfl, ?_⟩) ?_ ?_
                                                rotate_left
                                                · intro w'
                                                  go_simp
                                                  with_reducible rfl
                                                rotate_left
                                                · simp only [Act.put, List.setIfInBounds_toArray, List.set_cons_zero, List.set_cons_succ, i64_w, i32_w]
                                                  rfl
                                                refine pure_ (i := 14) (N := some 125) (v := ?_) (a' := ?_) #[true, true, true, true, true, true, false, false, false, true, false, true, true, true, true, false, false, false, false, false, false, false] rfl rfl (any_of HT_.out (by kernel_rfl)) (fun _ _ _ h => h) (Or.inl ⟨by rfl, ?_⟩) ?_ ?_
                                                rotate_left
                                                · intro w'
                                                  go_simp
                                                  with_reducible rfl
                                                rotate_left
                                                · simp only [Act.put, List.setIfInBounds_toArray, List.set_cons_zero, List.set_cons_succ, i64_w, i32_w]
                                                  rfl
                                                refine pure_ (i := 15) (N := some 126) (v := ?_) (a' := ?_) #[true, true, true, true, true, true, false, false, false, true, false, true, true, true, true, true, false, false, false, false, false, false] rfl rfl (any_of HT_.out (by kernel_rfl)) (fun _ _ _ h => h) (Or.inl ⟨by rfl, ?_⟩) ?_ ?_
                                                rotate_left
                                                · intro w'
                                                  go_simp
                                                  with_reducible rfl
                                                rotate_left
                                                · simp only [Act.put, List.setIfInBounds_toArray, List.set_cons_zero, List.set_cons_succ, i64_w, i32_w, hjt45, hjt50]
                                                  rfl
                                                refine pure_ (i := 19) (N := some 130) (v := ?_) (a' := ?_) #[true, true, true, true, true, true, false, false, false, true, false, true, true, true, true, true, false, false, false, true, false, false] rfl rfl (any_of HT_.out (by kernel_rfl)) (fun _ _ _ h => h) (Or.inl ⟨by rfl, ?_⟩) ?_ ?_
                                                rotate_left
                                                · intro w'
                                                  go_simp
                                                  with_reducible rfl
                                                rotate_left
                                                · simp only [Act.put, List.setIfInBounds_toArray, List.set_cons_zero, List.set_cons_succ, i64_w, i32_w]
                                                  rfl
                                                refine join_ (σ := Value × Value) 3 #[true, true, true, true, true, true, true, true, true, true, true, true, true, true, true, true, true, true, false, true, false, false] (fun s_ => [(117, s_.1), (118, .string (strOfNums y219)), (127, s_.2), (128, .string (strOfNums y224)), (119, .string ys222), (121, .string ys223)]) (fun s_ w' => (Kd.R (Kd.int .u8) 5 w' w.heap.size (fun k_ => some k_ ≠ (s_.1 : Value).ownBlock ∧ some k_ ≠ (s_.2 : Value).ownBlock) v217 y216) ∧ (Kd.R (Kd.int .u8) 5 w' w.heap.size (fun k_ => some k_ ≠ (v217 : Value).ownBlock ∧ some k_ ≠ (s_.2 : Value).ownBlock) s_.1 y219) ∧ (Kd.R (Kd.int .u8) 5 w' w.heap.size (fun k_ => some k_ ≠ (v217 : Value).ownBlock ∧ some k_ ≠ (s_.1 : Value).ownBlock) s_.2 y224) ∧ (Below w.heap.size w w')) ?_ ?_
                                                rotate_left
                                                · intro hJ6_7_16_17
                                                  refine join_ (σ := Value × Value) 4 #[true, true, true, true, true, true, true, true, true, true, true, true, true, true, true, true, true, false, false, true, false, false] (fun s_ => [(117, s_.1), (118, .string (strOfNums y219)), (127, s_.2), (119, .string ys222), (121, .string ys223)]) (fun s_ w' => (Kd.R (Kd.int .u8) 5 w' w.heap.size (fun k_ => some k_ ≠ (s_.1 : Value).ownBlock ∧ some k_ ≠ (s_.2 : Value).ownBlock) v217 y216) ∧ (Kd.R (Kd.int .u8) 5 w' w.heap.size (fun k_ => some k_ ≠ (v217 : Value).ownBlock ∧ some k_ ≠ (s_.2 : Value).ownBlock) s_.1 y219) ∧ (Kd.R (Kd.int .u8) 5 w' w.heap.size (fun k_ => some k_ ≠ (v217 : Value).ownBlock ∧ some k_ ≠ (s_.1 : Value).ownBlock) s_.2 y224) ∧ (Below w.heap.size w w')) ?_ ?_
                                                  rotate_left
                                                  · intro hJ6_7_16
                                                    refine join_ (σ := Value × Value) 6 #[true, true, true, true, true, true, true, false, false, true, false, true, true, true, true, true, true, true, false, true, false, false] (fun s_ => [(117, s_.1), (127, s_.2), (128, .string (strOfNums y224))]) (fun s_ w' => (Kd.R (Kd.int .u8) 5 w' w.heap.size (fun k_ => some k_ ≠ (s_.1 : Value).ownBlock ∧ some k_ ≠ (s_.2 : Value).ownBlock) v217 y216) ∧ (Kd.R (Kd.int .u8) 5 w' w.heap.size (fun k_ => some k_ ≠ (v217 : Value).ownBlock ∧ some k_ ≠ (s_.2 : Value).ownBlock) s_.1 y219) ∧ (Kd.R (Kd.int .u8) 5 w' w.heap.size (fun k_ => some k_ ≠ (v217 : Value).ownBlock ∧ some k_ ≠ (s_.1 : Value).ownBlock) s_.2 y224) ∧ (Below w.heap.size w w')) ?_ ?_
                                                    rotate_left
                                                    · intro hJ6_16_17
                                                      refine join_ (σ := Value) 5 #[true, true, true, true, true, true, true, true, true, true, true, true, true, true, true, true, false, false, false, true, false, false] (fun s_ => [(117, s_), (118, .string (strOfNums y219)), (119, .string ys222), (121, .string ys223)]) (fun s_ w' => (Kd.R (Kd.int .u8) 5 w' w.heap.size (fun k_ => some k_ ≠ (s_ : Value).ownBlock) v217 y216) ∧ (Kd.R (Kd.int .u8) 5 w' w.heap.size (fun k_ => some k_ ≠ (v217 : Value).ownBlock) s_ y219) ∧ (Below w.heap.size w w')) ?_ ?_
                                                      rotate_left
                                                      · intro hJ6_7
                                                        refine join_ (σ := Value × Value) 7 #[true, true, true, true, true, true, true, false, false, true, false, true, true, true, true, true, true, false, false, true, false, false] (fun s_ => [(117, s_.1), (127, s_.2)]) (fun s_ w' => (Kd.R (Kd.int .u8) 5 w' w.heap.size (fun k_ => some k_ ≠ (s_.1 : Value).ownBlock ∧ some k_ ≠ (s_.2 : Value).ownBlock) v217 y216) ∧ (Kd.R (Kd.int .u8) 5 w' w.heap.size (fun k_ => some k_ ≠ (v217 : Value).ownBlock ∧ some k_ ≠ (s_.2 : Value).ownBlock) s_.1 y219) ∧ (Kd.R (Kd.int .u8) 5 w' w.heap.size (fun k_ => some k_ ≠ (v217 : Value).ownBlock ∧ some k_ ≠ (s_.1 : Value).ownBlock) s_.2 y224) ∧ (Below w.heap.size w w')) ?_ ?_
                                                        rotate_left
                                                        · intro hJ6_16
                                                          refine join_ (σ := Value) 7 #[true, true, true, true, true, true, false, false, false, true, false, true, true, true, true, true, true, true, false, true, false, false] (fun s_ => [(127, s_), (128, .string (strOfNums y224))]) (fun s_ w' => (Kd.R (Kd.int .u8) 5 w' w.heap.size (fun k_ => some k_ ≠ (s_ : Value).ownBlock) v217 y216) ∧ (Kd.R (Kd.int .u8) 5 w' w.heap.size (fun k_ => some k_ ≠ (v217 : Value).ownBlock) s_ y224) ∧ (Below w.heap.size w w')) ?_ ?_
                                                          rotate_left
                                                          · intro hJ16_17
                                                            refine join_ (σ := Value) 8 #[true, true, true, true, true, true, true, false, false, true, false, true, true, true, true, true, false, false, false, true, false, false] (fun s_ => [(117, s_)]) (fun s_ w' => (Kd.R (Kd.int .u8) 5 w' w.heap.size (fun k_ => some k_ ≠ (s_ : Value).ownBlock) v217 y216) ∧ (Kd.R (Kd.int .u8) 5 w' w.heap.size (fun k_ => some k_ ≠ (v217 : Value).ownBlock) s_ y219) ∧ (Below w.heap.size w w')) ?_ ?_
                                                            rotate_left
                                                            · intro hJ6
                                                              refine join_ (σ := Value) 8 #[true, true, true, true, true, true, false, false, false, true, false, true, true, true, true, true, true, false, false, true, false, false] (fun s_ => [(127, s_)]) (fun s_ w' => (Kd.R (Kd.int .u8) 5 w' w.heap.size (fun k_ => some k_ ≠ (s_ : Value).ownBlock) v217 y216) ∧ (Kd.R (Kd.int .u8) 5 w' w.heap.size (fun k_ => some k_ ≠ (v217 : Value).ownBlock) s_ y224) ∧ (Below w.heap.size w w')) ?_ ?_
                                                              rotate_left
                                                              · intro hJ16
                                                                refine two_ (i := 6) (j := 16) (Ni := some 117) (Nj := some 127) #[true, true, true, true, true, true, true, false, false, true, false, true, true, true, true, true, false, false, false, true, false, false] #[true, true, true, true, true, true, false, false, false, true, false, true, true, true, true, true, true, false, false, true, false, false] rfl rfl rfl rfl (two_of HT_.out (by kernel_rfl)) (by decide) (by decide) (fun K hK => ?_) (fun K hK => ?_)
                                                                · skip
                                                                  refine Kd.R_make_step (Kd.int .u8) _ 5 (by rfl) (N := 117) rfl 32 _ _ rfl ji45 rfl rfl Try.underlying32 (.int .u8 0) 1 info5 rfl (by decide) (by omega) 0 (ok := fun _ => True) (okp := fun _ => True) rfl (fun _ hk => hk) trivial (of_decide_eq_true (by first | (with_reducible assumption) | assumption)) (Nat.le_trans (Nat.mul_le_mul_right _ (of_decide_eq_true (by first | (with_reducible assumption) | assumption) : ji45.toNat ≤ 281474976710656)) (by omega)) (Below.refl _ _) (Nat.le_refl _) ?_
                                                                  intro v220 w65 ho66 hb hg_ hnew_
                                                                  clear hg_ hnew_
                                                                  (first | rw [← Ny219.out] at ho66 | (simp only [Int.reduceToNat] at ho66; rw [← Ny219.out] at ho66))
                                                                  have n0_ := Aside0.mk (Kd.R_elder' (by (with_reducible repeat (first | apply Kd.R_alloc | apply Kd.R_drewN | apply Kd.R_drew)); exact HO218.out) (Kd.R_base ho66) hb)
                                                                  have n1_ := Aside0.mk (Kd.R_lower (Kd.R_new' ho66 (Kd.R_lt (by (with_reducible repeat (first | apply Kd.R_alloc | apply Kd.R_drewN | apply Kd.R_drew)); exact HO218.out))) (below_size (by repeat (first | (with_reducible first | exact HB.out | apply below_alloc | apply pw_below_drewN | apply below_drew1) | exact HB.out))))
                                                                  have n2_ := Aside0.mk (below_step (by repeat (first | (with_reducible first | exact HB.out | apply below_alloc | apply pw_below_drewN | apply below_drew1) | exact HB.out)) hb)
                                                                  clear HO218
                                                                  clear HB
                                                                  have HO218 := n0_
                                                                  have HO221 := n1_
                                                                  have HB := n2_
                                                                  clear n0_ n1_ n2_
                                                                  clear hb ho66
                                                                  refine hK.out _ _ trivial (fun hHeld => ?_)
                                                                  clear hK K
                                                                  refine norm_ (a' := ?_) ?_ ?_
                                                                  rotate_left
                                                                  · show Act.put _ (some 117) _ = _
                                                                    simp only [Act.put, List.setIfInBounds_toArray, List.set_cons_zero, List.set_cons_succ, i64_w, i32_w]
                                                                    rfl
                                                                  exact norm_ (by first | (simp only [putAll, Act.put, List.setIfInBounds_toArray, List.set_cons_zero, List.set_cons_succ]; done) | (simp only [putAll, Act.put, List.setIfInBounds_toArray, List.set_cons_zero, List.set_cons_succ]; rfl)) (hJ6 (v220) _ ⟨(by (with_reducible repeat (first | apply Kd.R_alloc | apply Kd.R_drewN | apply Kd.R_drew)); exact Kd.R_mono HO218.out (fun _ hk => hk.2)), (by (with_reducible repeat (first | apply Kd.R_alloc | apply Kd.R_drewN | apply Kd.R_drew)); exact Kd.R_mono HO221.out (fun _ hk => hk.2)), (by repeat (first | (with_reducible first | exact HB.out | apply below_alloc | apply pw_below_drewN | apply below_drew1) | exact HB.out))⟩)
                                                                · skip
                                                                  refine Kd.R_make_step (Kd.int .u8) _ 5 (by rfl) (N := 127) rfl 32 _ _ rfl ji50 rfl rfl Try.underlying32 (.int .u8 0) 1 info5 rfl (by decide) (by omega) 0 (ok := fun _ => True) (okp := fun _ => True) rfl (fun _ hk => hk) trivial (of_decide_eq_true (by first | (with_reducible assumption) | assumption)) (Nat.le_trans (Nat.mul_le_mul_right _ (of_decide_eq_true (by first | (with_reducible assumption) | assumption) : ji50.toNat ≤ 281474976710656)) (by omega)) (Below.refl _ _) (Nat.le_refl _) ?_
                                                                  intro v225 w65 ho66 hb hg_ hnew_
                                                                  clear hg_ hnew_
                                                                  (first | rw [← Ny224.out] at ho66 | (simp only [Int.reduceToNat] at ho66; rw [← Ny224.out] at ho66))
                                                                  have n0_ := Aside0.mk (Kd.R_elder' (by (with_reducible repeat (first | apply Kd.R_alloc | apply Kd.R_drewN | apply Kd.R_drew)); exact HO218.out) (Kd.R_base ho66) hb)
                                                                  have n1_ := Aside0.mk (Kd.R_lower (Kd.R_new' ho66 (Kd.R_lt (by (with_reducible repeat (first | apply Kd.R_alloc | apply Kd.R_drewN | apply Kd.R_drew)); exact HO218.out))) (below_size (by repeat (first | (with_reducible first | exact HB.out | apply below_alloc | apply pw_below_drewN | apply below_drew1) | exact HB.out))))
                                                                  have n2_ := Aside0.mk (below_step (by repeat (first | (with_reducible first | exact HB.out | apply below_alloc | apply pw_below_drewN | apply below_drew1) | exact HB.out)) hb)
                                                                  clear HO218
                                                                  clear HB
                                                                  have HO218 := n0_
                                                                  have HO226 := n1_
                                                                  have HB := n2_
                                                                  clear n0_ n1_ n2_
                                                                  clear hb ho66
                                                                  refine hK.out _ _ trivial (fun hHeld => ?_)
                                                                  clear hK K
                                                                  refine norm_ (a' := ?_) ?_ ?_
                                                                  rotate_left
                                                                  · show Act.put _ (some 127) _ = _
                                                                    simp only [Act.put, List.setIfInBounds_toArray, List.set_cons_zero, List.set_cons_succ, i64_w, i32_w]
                                                                    rfl
                                                                  exact norm_ (by first | (simp only [putAll, Act.put, List.setIfInBounds_toArray, List.set_cons_zero, List.set_cons_succ]; done) | (simp only [putAll, Act.put, List.setIfInBounds_toArray, List.set_cons_zero, List.set_cons_succ]; rfl)) (hJ16 (v225) _ ⟨(by (with_reducible repeat (first | apply Kd.R_alloc | apply Kd.R_drewN | apply Kd.R_drew)); exact Kd.R_mono HO218.out (fun _ hk => hk.2)), (by (with_reducible repeat (first | apply Kd.R_alloc | apply Kd.R_drewN | apply Kd.R_drew)); exact Kd.R_mono HO226.out (fun _ hk => hk.2)), (by repeat (first | (with_reducible first | exact HB.out | apply below_alloc | apply pw_below_drewN | apply below_drew1) | exact HB.out))⟩)
                                                              · skip
                                                                rintro v225 w67 ⟨h0_, h1_, h2_⟩
                                                                have n0_ : Aside0 (Kd.R (Kd.int .u8) 5 w67 w.heap.size (fun k_ => some k_ ≠ (v225 : Value).ownBlock) v217 y216) := ⟨h0_⟩
                                                                have n1_ : Aside0 (Kd.R (Kd.int .u8) 5 w67 w.heap.size (fun k_ => some k_ ≠ (v217 : Value).ownBlock) v225 y224) := ⟨h1_⟩
                                                                have n2_ : Aside0 (Below w.heap.size w w67) := ⟨h2_⟩
                                                                clear HO218
                                                                clear HB
                                                                clear h0_ h1_ h2_
                                                                have HO218 := n0_
                                                                have HO226 := n1_
                                                                have HB := n2_
                                                                clear n0_ n1_ n2_
                                                                have hHeld := trivial
                                                                refine norm_ (a' := ?_) ?_ ?_
                                                                rotate_left
                                                                · simp only [putAll, Act.put, List.setIfInBounds_toArray, List.set_cons_zero, List.set_cons_succ]
                                                                  rfl
                                                                refine two_ (i := 6) (j := 17) (Ni := some 117) (Nj := some 128) #[true, true, true, true, true, true, true, false, false, true, false, true, true, true, true, true, true, false, false, true, false, false] #[true, true, true, true, true, true, false, false, false, true, false, true, true, true, true, true, true, true, false, true, false, false] rfl rfl rfl rfl (two_of HT_.out (by kernel_rfl)) (by decide) (by decide) (fun K hK => ?_) (fun K hK => ?_)
                                                                · skip
                                                                  refine Kd.R_make_step (Kd.int .u8) _ 5 (by rfl) (N := 117) rfl 32 _ _ rfl ji45 rfl rfl Try.underlying32 (.int .u8 0) 1 info5 rfl (by decide) (by omega) 0 (ok := fun _ => True) (okp := fun _ => True) rfl (fun _ hk => hk) trivial (of_decide_eq_true (by first | (with_reducible assumption) | assumption)) (Nat.le_trans (Nat.mul_le_mul_right _ (of_decide_eq_true (by first | (with_reducible assumption) | assumption) : ji45.toNat ≤ 281474976710656)) (by omega)) (Below.refl _ _) (Nat.le_refl _) ?_
                                                                  intro v220 w68 ho69 hb hg_ hnew_
                                                                  clear hg_ hnew_
                                                                  (first | rw [← Ny219.out] at ho69 | (simp only [Int.reduceToNat] at ho69; rw [← Ny219.out] at ho69))
                                                                  have n0_ := Aside0.mk (Kd.R_elder' (by (with_reducible repeat (first | apply Kd.R_alloc | apply Kd.R_drewN | apply Kd.R_drew)); exact HO218.out) (Kd.R_base ho69) hb)
                                                                  have n1_ := Aside0.mk (Kd.R_elder' (by (with_reducible repeat (first | apply Kd.R_alloc | apply Kd.R_drewN | apply Kd.R_drew)); exact HO226.out) (Kd.R_base ho69) hb)
                                                                  have n2_ := Aside0.mk (Kd.R_lower (Kd.R_new' (Kd.R_new' ho69 (Kd.R_lt (by (with_reducible repeat (first | apply Kd.R_alloc | apply Kd.R_drewN | apply Kd.R_drew)); exact HO218.out))) (Kd.R_lt (by (with_reducible repeat (first | apply Kd.R_alloc | apply Kd.R_drewN | apply Kd.R_drew)); exact HO226.out))) (below_size (by repeat (first | (with_reducible first | exact HB.out | apply below_alloc | apply pw_below_drewN | apply below_drew1) | exact HB.out))))
                                                                  have n3_ := Aside0.mk (below_step (by repeat (first | (with_reducible first | exact HB.out | apply below_alloc | apply pw_below_drewN | apply below_drew1) | exact HB.out)) hb)
                                                                  clear HO218
                                                                  clear HO226
                                                                  clear HB
                                                                  have HO218 := n0_
                                                                  have HO226 := n1_
                                                                  have HO221 := n2_
                                                                  have HB := n3_
                                                                  clear n0_ n1_ n2_ n3_
                                                                  clear hb ho69
                                                                  refine hK.out _ _ trivial (fun hHeld => ?_)
                                                                  clear hK K
                                                                  refine norm_ (a' := ?_) ?_ ?_
                                                                  rotate_left
                                                                  · show Act.put _ (some 117) _ = _
                                                                    simp only [Act.put, List.setIfInBounds_toArray, List.set_cons_zero, List.set_cons_succ, i64_w, i32_w]
                                                                    rfl
                                                                  exact norm_ (by first | (simp only [putAll, Act.put, List.setIfInBounds_toArray, List.set_cons_zero, List.set_cons_succ]; done) | (simp only [putAll, Act.put, List.setIfInBounds_toArray, List.set_cons_zero, List.set_cons_succ]; rfl)) (hJ6_16 (v220, v225) _ ⟨(by (with_reducible repeat (first | apply Kd.R_alloc | apply Kd.R_drewN | apply Kd.R_drew)); exact Kd.R_mono HO218.out (fun _ hk => ⟨hk.2, hk.1⟩)), (by (with_reducible repeat (first | apply Kd.R_alloc | apply Kd.R_drewN | apply Kd.R_drew)); exact Kd.R_mono HO221.out (fun _ hk => ⟨hk.1.2, hk.2⟩)), (by (with_reducible repeat (first | apply Kd.R_alloc | apply Kd.R_drewN | apply Kd.R_drew)); exact HO226.out), (by repeat (first | (with_reducible first | exact HB.out | apply below_alloc | apply pw_below_drewN | apply below_drew1) | exact HB.out))⟩)
                                                                · skip
                                                                  have hcv68 := own_string (P := Try.prog) Try.underlying32 Try.underlying5 Try.underlying9 (Kd.own_of_R HO226.out)
                                                                  refine value_ (w1 := ?_) (v := ?_) (by rfl) rfl ?_ ?_
                                                                  rotate_left 2
                                                                  · go_simp
                                                                    constructor
                                                                    · rfl
                                                                    · rfl
                                                                  clear hcv68
                                                                  refine hK.out _ _ trivial (fun hHeld => ?_)
                                                                  clear hK K
                                                                  refine norm_ (a' := ?_) ?_ ?_
                                                                  rotate_left
                                                                  · show Act.put _ (some 128) _ = _
                                                                    simp only [Act.put, List.setIfInBounds_toArray, List.set_cons_zero, List.set_cons_succ, i64_w, i32_w]
                                                                    rfl
                                                                  exact norm_ (by first | (simp only [putAll, Act.put, List.setIfInBounds_toArray, List.set_cons_zero, List.set_cons_succ]; done) | (simp only [putAll, Act.put, List.setIfInBounds_toArray, List.set_cons_zero, List.set_cons_succ]; rfl)) (hJ16_17 (v225) _ ⟨(by (with_reducible repeat (first | apply Kd.R_alloc | apply Kd.R_drewN | apply Kd.R_drew)); exact HO218.out), (by (with_reducible repeat (first | apply Kd.R_alloc | apply Kd.R_drewN | apply Kd.R_drew)); exact HO226.out), (by repeat (first | (with_reducible first | exact HB.out | apply below_alloc | apply pw_below_drewN | apply below_drew1) | exact HB.out))⟩)
                                                            · skip
                                                              rintro v220 w67 ⟨h0_, h1_, h2_⟩
                                                              have n0_ : Aside0 (Kd.R (Kd.int .u8) 5 w67 w.heap.size (fun k_ => some k_ ≠ (v220 : Value).ownBlock) v217 y216) := ⟨h0_⟩
                                                              have n1_ : Aside0 (Kd.R (Kd.int .u8) 5 w67 w.heap.size (fun k_ => some k_ ≠ (v217 : Value).ownBlock) v220 y219) := ⟨h1_⟩
                                                              have n2_ : Aside0 (Below w.heap.size w w67) := ⟨h2_⟩
                                                              clear HO218
                                                              clear HB
                                                              clear h0_ h1_ h2_
                                                              have HO218 := n0_
                                                              have HO221 := n1_
                                                              have HB := n2_
                                                              clear n0_ n1_ n2_
                                                              have hHeld := trivial
                                                              refine norm_ (a' := ?_) ?_ ?_
                                                              rotate_left
                                                              · simp only [putAll, Act.put, List.setIfInBounds_toArray, List.set_cons_zero, List.set_cons_succ]
                                                                rfl
                                                              refine two_ (i := 7) (j := 16) (Ni := some 118) (Nj := some 127) #[true, true, true, true, true, true, true, true, false, true, false, true, true, true, true, true, false, false, false, true, false, false] #[true, true, true, true, true, true, true, false, false, true, false, true, true, true, true, true, true, false, false, true, false, false] rfl rfl rfl rfl (two_of HT_.out (by kernel_rfl)) (by decide) (by decide) (fun K hK => ?_) (fun K hK => ?_)
                                                              · skip
                                                                have hcv68 := own_string (P := Try.prog) Try.underlying32 Try.underlying5 Try.underlying9 (Kd.own_of_R HO221.out)
                                                                refine value_ (w1 := ?_) (v := ?_) (by rfl) rfl ?_ ?_
                                                                rotate_left 2
                                                                · go_simp
                                                                  constructor
                                                                  · rfl
                                                                  · rfl
                                                                clear hcv68
                                                                refine hK.out _ _ trivial (fun hHeld => ?_)
                                                                clear hK K
                                                                refine norm_ (a' := ?_) ?_ ?_
                                                                rotate_left
                                                                · show Act.put _ (some 118) _ = _
                                                                  simp only [Act.put, List.setIfInBounds_toArray, List.set_cons_zero, List.set_cons_succ, i64_w, i32_w]
                                                                  rfl
                                                                refine pure_ (i := 8) (N := some 119) (v := ?_) (a' := ?_) #[true, true, true, true, true, true, true, true, true, true, false, true, true, true, true, true, false, false, false, true, false, false] rfl rfl (any_of HT_.out (by kernel_rfl)) (fun _ _ _ h => h) (Or.inl ⟨by rfl, ?_⟩) ?_ ?_
                                                                rotate_left
                                                                · intro w'
                                                                  go_simp
                                                                  with_reducible rfl
                                                                rotate_left
                                                                · simp only [Act.put, List.setIfInBounds_toArray, List.set_cons_zero, List.set_cons_succ, i64_w, i32_w]
                                                                  rfl
                                                                refine pure_ (i := 10) (N := some 121) (v := ?_) (a' := ?_) #[true, true, true, true, true, true, true, true, true, true, true, true, true, true, true, true, false, false, false, true, false, false] rfl rfl (any_of HT_.out (by kernel_rfl)) (fun _ _ _ h => h) (Or.inl ⟨by rfl, ?_⟩) ?_ ?_
                                                                rotate_left
                                                                · intro w'
                                                                  go_simp
                                                                  with_reducible rfl
                                                                rotate_left
                                                                · simp only [Act.put, List.setIfInBounds_toArray, List.set_cons_zero, List.set_cons_succ, i64_w, i32_w]
                                                                  rfl
                                                                exact norm_ (by first | (simp only [putAll, Act.put, List.setIfInBounds_toArray, List.set_cons_zero, List.set_cons_succ]; done) | (simp only [putAll, Act.put, List.setIfInBounds_toArray, List.set_cons_zero, List.set_cons_succ]; rfl)) (hJ6_7 (v220) _ ⟨(by (with_reducible repeat (first | apply Kd.R_alloc | apply Kd.R_drewN | apply Kd.R_drew)); exact HO218.out), (by (with_reducible repeat (first | apply Kd.R_alloc | apply Kd.R_drewN | apply Kd.R_drew)); exact HO221.out), (by repeat (first | (with_reducible first | exact HB.out | apply below_alloc | apply pw_below_drewN | apply below_drew1) | exact HB.out))⟩)
                                                              · skip
                                                                refine Kd.R_make_step (Kd.int .u8) _ 5 (by rfl) (N := 127) rfl 32 _ _ rfl ji50 rfl rfl Try.underlying32 (.int .u8 0) 1 info5 rfl (by decide) (by omega) 0 (ok := fun _ => True) (okp := fun _ => True) rfl (fun _ hk => hk) trivial (of_decide_eq_true (by first | (with_reducible assumption) | assumption)) (Nat.le_trans (Nat.mul_le_mul_right _ (of_decide_eq_true (by first | (with_reducible assumption) | assumption) : ji50.toNat ≤ 281474976710656)) (by omega)) (Below.refl _ _) (Nat.le_refl _) ?_
                                                                intro v225 w68 ho69 hb hg_ hnew_
                                                                clear hg_ hnew_
                                                                (first | rw [← Ny224.out] at ho69 | (simp only [Int.reduceToNat] at ho69; rw [← Ny224.out] at ho69))
                                                                have n0_ := Aside0.mk (Kd.R_elder' (by (with_reducible repeat (first | apply Kd.R_alloc | apply Kd.R_drewN | apply Kd.R_drew)); exact HO218.out) (Kd.R_base ho69) hb)
                                                                have n1_ := Aside0.mk (Kd.R_elder' (by (with_reducible repeat (first | apply Kd.R_alloc | apply Kd.R_drewN | apply Kd.R_drew)); exact HO221.out) (Kd.R_base ho69) hb)
                                                                have n2_ := Aside0.mk (Kd.R_lower (Kd.R_new' (Kd.R_new' ho69 (Kd.R_lt (by (with_reducible repeat (first | apply Kd.R_alloc | apply Kd.R_drewN | apply Kd.R_drew)); exact HO218.out))) (Kd.R_lt (by (with_reducible repeat (first | apply Kd.R_alloc | apply Kd.R_drewN | apply Kd.R_drew)); exact HO221.out))) (below_size (by repeat (first | (with_reducible first | exact HB.out | apply below_alloc | apply pw_below_drewN | apply below_drew1) | exact HB.out))))
                                                                have n3_ := Aside0.mk (below_step (by repeat (first | (with_reducible first | exact HB.out | apply below_alloc | apply pw_below_drewN | apply below_drew1) | exact HB.out)) hb)
                                                                clear HO218
                                                                clear HO221
                                                                clear HB
                                                                have HO218 := n0_
                                                                have HO221 := n1_
                                                                have HO226 := n2_
                                                                have HB := n3_
                                                                clear n0_ n1_ n2_ n3_
                                                                clear hb ho69
                                                                refine hK.out _ _ trivial (fun hHeld => ?_)
                                                                clear hK K
                                                                refine norm_ (a' := ?_) ?_ ?_
                                                                rotate_left
                                                                · show Act.put _ (some 127) _ = _
                                                                  simp only [Act.put, List.setIfInBounds_toArray, List.set_cons_zero, List.set_cons_succ, i64_w, i32_w]
                                                                  rfl
                                                                exact norm_ (by first | (simp only [putAll, Act.put, List.setIfInBounds_toArray, List.set_cons_zero, List.set_cons_succ]; done) | (simp only [putAll, Act.put, List.setIfInBounds_toArray, List.set_cons_zero, List.set_cons_succ]; rfl)) (hJ6_16 (v220, v225) _ ⟨(by (with_reducible repeat (first | apply Kd.R_alloc | apply Kd.R_drewN | apply Kd.R_drew)); exact HO218.out), (by (with_reducible repeat (first | apply Kd.R_alloc | apply Kd.R_drewN | apply Kd.R_drew)); exact HO221.out), (by (with_reducible repeat (first | apply Kd.R_alloc | apply Kd.R_drewN | apply Kd.R_drew)); exact Kd.R_mono HO226.out (fun _ hk => ⟨hk.1.2, hk.2⟩)), (by repeat (first | (with_reducible first | exact HB.out | apply below_alloc | apply pw_below_drewN | apply below_drew1) | exact HB.out))⟩)
                                                          · skip
                                                            rintro v225 w68 ⟨h0_, h1_, h2_⟩
                                                            have n0_ : Aside0 (Kd.R (Kd.int .u8) 5 w68 w.heap.size (fun k_ => some k_ ≠ (v225 : Value).ownBlock) v217 y216) := ⟨h0_⟩
                                                            have n1_ : Aside0 (Kd.R (Kd.int .u8) 5 w68 w.heap.size (fun k_ => some k_ ≠ (v217 : Value).ownBlock) v225 y224) := ⟨h1_⟩
                                                            have n2_ : Aside0 (Below w.heap.size w w68) := ⟨h2_⟩
                                                            clear HO218
                                                            clear HB
                                                            clear h0_ h1_ h2_
                                                            have HO218 := n0_
                                                            have HO226 := n1_
                                                            have HB := n2_
                                                            clear n0_ n1_ n2_
                                                            have hHeld := trivial
                                                            refine norm_ (a' := ?_) ?_ ?_
                                                            rotate_left
                                                            · simp only [putAll, Act.put, List.setIfInBounds_toArray, List.set_cons_zero, List.set_cons_succ]
                                                              rfl
                                                            refine one_ (i := 6) (N := some 117) #[true, true, true, true, true, true, true, false, false, true, false, true, true, true, true, true, true, true, false, true, false, false] rfl rfl (one_of HT_.out (by kernel_rfl)) (by decide) (fun K hK => ?_)
                                                            refine Kd.R_make_step (Kd.int .u8) _ 5 (by rfl) (N := 117) rfl 32 _ _ rfl ji45 rfl rfl Try.underlying32 (.int .u8 0) 1 info5 rfl (by decide) (by omega) 0 (ok := fun _ => True) (okp := fun _ => True) rfl (fun _ hk => hk) trivial (of_decide_eq_true (by first | (with_reducible assumption) | assumption)) (Nat.le_trans (Nat.mul_le_mul_right _ (of_decide_eq_true (by first | (with_reducible assumption) | assumption) : ji45.toNat ≤ 281474976710656)) (by omega)) (Below.refl _ _) (Nat.le_refl _) ?_
                                                            intro v220 w69 ho70 hb hg_ hnew_
                                                            clear hg_ hnew_
                                                            (first | rw [← Ny219.out] at ho70 | (simp only [Int.reduceToNat] at ho70; rw [← Ny219.out] at ho70))
                                                            have n0_ := Aside0.mk (Kd.R_elder' (by (with_reducible repeat (first | apply Kd.R_alloc | apply Kd.R_drewN | apply Kd.R_drew)); exact HO218.out) (Kd.R_base ho70) hb)
                                                            have n1_ := Aside0.mk (Kd.R_elder' (by (with_reducible repeat (first | apply Kd.R_alloc | apply Kd.R_drewN | apply Kd.R_drew)); exact HO226.out) (Kd.R_base ho70) hb)
                                                            have n2_ := Aside0.mk (Kd.R_lower (Kd.R_new' (Kd.R_new' ho70 (Kd.R_lt (by (with_reducible repeat (first | apply Kd.R_alloc | apply Kd.R_drewN | apply Kd.R_drew)); exact HO218.out))) (Kd.R_lt (by (with_reducible repeat (first | apply Kd.R_alloc | apply Kd.R_drewN | apply Kd.R_drew)); exact HO226.out))) (below_size (by repeat (first | (with_reducible first | exact HB.out | apply below_alloc | apply pw_below_drewN | apply below_drew1) | exact HB.out))))
                                                            have n3_ := Aside0.mk (below_step (by repeat (first | (with_reducible first | exact HB.out | apply below_alloc | apply pw_below_drewN | apply below_drew1) | exact HB.out)) hb)
                                                            clear HO218
                                                            clear HO226
                                                            clear HB
                                                            have HO218 := n0_
                                                            have HO226 := n1_
                                                            have HO221 := n2_
                                                            have HB := n3_
                                                            clear n0_ n1_ n2_ n3_
                                                            clear hb ho70
                                                            refine hK.out _ _ trivial (fun hHeld => ?_)
                                                            clear hK K
                                                            refine norm_ (a' := ?_) ?_ ?_
                                                            rotate_left
                                                            · show Act.put _ (some 117) _ = _
                                                              simp only [Act.put, List.setIfInBounds_toArray, List.set_cons_zero, List.set_cons_succ, i64_w, i32_w]
                                                              rfl
                                                            exact norm_ (by first | (simp only [putAll, Act.put, List.setIfInBounds_toArray, List.set_cons_zero, List.set_cons_succ]; done) | (simp only [putAll, Act.put, List.setIfInBounds_toArray, List.set_cons_zero, List.set_cons_succ]; rfl)) (hJ6_16_17 (v220, v225) _ ⟨(by (with_reducible repeat (first | apply Kd.R_alloc | apply Kd.R_drewN | apply Kd.R_drew)); exact Kd.R_mono HO218.out (fun _ hk => ⟨hk.2, hk.1⟩)), (by (with_reducible repeat (first | apply Kd.R_alloc | apply Kd.R_drewN | apply Kd.R_drew)); exact Kd.R_mono HO221.out (fun _ hk => ⟨hk.1.2, hk.2⟩)), (by (with_reducible repeat (first | apply Kd.R_alloc | apply Kd.R_drewN | apply Kd.R_drew)); exact HO226.out), (by repeat (first | (with_reducible first | exact HB.out | apply below_alloc | apply pw_below_drewN | apply below_drew1) | exact HB.out))⟩)
                                                        · skip
                                                          rintro ⟨v220, v225⟩ w69 ⟨h0_, h1_, h2_, h3_⟩
                                                          have n0_ : Aside0 (Kd.R (Kd.int .u8) 5 w69 w.heap.size (fun k_ => some k_ ≠ (v220 : Value).ownBlock ∧ some k_ ≠ (v225 : Value).ownBlock) v217 y216) := ⟨h0_⟩
                                                          have n1_ : Aside0 (Kd.R (Kd.int .u8) 5 w69 w.heap.size (fun k_ => some k_ ≠ (v217 : Value).ownBlock ∧ some k_ ≠ (v225 : Value).ownBlock) v220 y219) := ⟨h1_⟩
                                                          have n2_ : Aside0 (Kd.R (Kd.int .u8) 5 w69 w.heap.size (fun k_ => some k_ ≠ (v217 : Value).ownBlock ∧ some k_ ≠ (v220 : Value).ownBlock) v225 y224) := ⟨h2_⟩
                                                          have n3_ : Aside0 (Below w.heap.size w w69) := ⟨h3_⟩
                                                          clear HO218
                                                          clear HB
                                                          clear h0_ h1_ h2_ h3_
                                                          have HO218 := n0_
                                                          have HO221 := n1_
                                                          have HO226 := n2_
                                                          have HB := n3_
                                                          clear n0_ n1_ n2_ n3_
                                                          have hHeld := trivial
                                                          refine norm_ (a' := ?_) ?_ ?_
                                                          rotate_left
                                                          · simp only [putAll, Act.put, List.setIfInBounds_toArray, List.set_cons_zero, List.set_cons_succ]
                                                            rfl
                                                          refine two_ (i := 7) (j := 17) (Ni := some 118) (Nj := some 128) #[true, true, true, true, true, true, true, true, false, true, false, true, true, true, true, true, true, false, false, true, false, false] #[true, true, true, true, true, true, true, false, false, true, false, true, true, true, true, true, true, true, false, true, false, false] rfl rfl rfl rfl (two_of HT_.out (by kernel_rfl)) (by decide) (by decide) (fun K hK => ?_) (fun K hK => ?_)
                                                          · skip
                                                            have hcv70 := own_string (P := Try.prog) Try.underlying32 Try.underlying5 Try.underlying9 (Kd.own_of_R HO221.out)
                                                            refine value_ (w1 := ?_) (v := ?_) (by rfl) rfl ?_ ?_
                                                            rotate_left 2
                                                            · go_simp
                                                              constructor
                                                              · rfl
                                                              · rfl
                                                            clear hcv70
                                                            refine hK.out _ _ trivial (fun hHeld => ?_)
                                                            clear hK K
                                                            refine norm_ (a' := ?_) ?_ ?_
                                                            rotate_left
                                                            · show Act.put _ (some 118) _ = _
                                                              simp only [Act.put, List.setIfInBounds_toArray, List.set_cons_zero, List.set_cons_succ, i64_w, i32_w]
                                                              rfl
                                                            refine pure_ (i := 8) (N := some 119) (v := ?_) (a' := ?_) #[true, true, true, true, true, true, true, true, true, true, false, true, true, true, true, true, true, false, false, true, false, false] rfl rfl (any_of HT_.out (by kernel_rfl)) (fun _ _ _ h => h) (Or.inl ⟨by rfl, ?_⟩) ?_ ?_
                                                            rotate_left
                                                            · intro w'
                                                              go_simp
                                                              with_reducible rfl
                                                            rotate_left
                                                            · simp only [Act.put, List.setIfInBounds_toArray, List.set_cons_zero, List.set_cons_succ, i64_w, i32_w]
                                                              rfl
                                                            refine pure_ (i := 10) (N := some 121) (v := ?_) (a' := ?_) #[true, true, true, true, true, true, true, true, true, true, true, true, true, true, true, true, true, false, false, true, false, false] rfl rfl (any_of HT_.out (by kernel_rfl)) (fun _ _ _ h => h) (Or.inl ⟨by rfl, ?_⟩) ?_ ?_
                                                            rotate_left
                                                            · intro w'
                                                              go_simp
                                                              with_reducible rfl
                                                            rotate_left
                                                            · simp only [Act.put, List.setIfInBounds_toArray, List.set_cons_zero, List.set_cons_succ, i64_w, i32_w]
                                                              rfl
                                                            exact norm_ (by first | (simp only [putAll, Act.put, List.setIfInBounds_toArray, List.set_cons_zero, List.set_cons_succ]; done) | (simp only [putAll, Act.put, List.setIfInBounds_toArray, List.set_cons_zero, List.set_cons_succ]; rfl)) (hJ6_7_16 (v220, v225) _ ⟨(by (with_reducible repeat (first | apply Kd.R_alloc | apply Kd.R_drewN | apply Kd.R_drew)); exact HO218.out), (by (with_reducible repeat (first | apply Kd.R_alloc | apply Kd.R_drewN | apply Kd.R_drew)); exact HO221.out), (by (with_reducible repeat (first | apply Kd.R_alloc | apply Kd.R_drewN | apply Kd.R_drew)); exact HO226.out), (by repeat (first | (with_reducible first | exact HB.out | apply below_alloc | apply pw_below_drewN | apply below_drew1) | exact HB.out))⟩)
                                                          · skip
                                                            have hcv70 := own_string (P := Try.prog) Try.underlying32 Try.underlying5 Try.underlying9 (Kd.own_of_R HO226.out)
                                                            refine value_ (w1 := ?_) (v := ?_) (by rfl) rfl ?_ ?_
                                                            rotate_left 2
                                                            · go_simp
                                                              constructor
                                                              · rfl
                                                              · rfl
                                                            clear hcv70
                                                            refine hK.out _ _ trivial (fun hHeld => ?_)
                                                            clear hK K
                                                            refine norm_ (a' := ?_) ?_ ?_
                                                            rotate_left
                                                            · show Act.put _ (some 128) _ = _
                                                              simp only [Act.put, List.setIfInBounds_toArray, List.set_cons_zero, List.set_cons_succ, i64_w, i32_w]
                                                              rfl
                                                            exact norm_ (by first | (simp only [putAll, Act.put, List.setIfInBounds_toArray, List.set_cons_zero, List.set_cons_succ]; done) | (simp only [putAll, Act.put, List.setIfInBounds_toArray, List.set_cons_zero, List.set_cons_succ]; rfl)) (hJ6_16_17 (v220, v225) _ ⟨(by (with_reducible repeat (first | apply Kd.R_alloc | apply Kd.R_drewN | apply Kd.R_drew)); exact HO218.out), (by (with_reducible repeat (first | apply Kd.R_alloc | apply Kd.R_drewN | apply Kd.R_drew)); exact HO221.out), (by (with_reducible repeat (first | apply Kd.R_alloc | apply Kd.R_drewN | apply Kd.R_drew)); exact HO226.out), (by repeat (first | (with_reducible first | exact HB.out | apply below_alloc | apply pw_below_drewN | apply below_drew1) | exact HB.out))⟩)
                                                      · skip
                                                        rintro v220 w68 ⟨h0_, h1_, h2_⟩
                                                        have n0_ : Aside0 (Kd.R (Kd.int .u8) 5 w68 w.heap.size (fun k_ => some k_ ≠ (v220 : Value).ownBlock) v217 y216) := ⟨h0_⟩
                                                        have n1_ : Aside0 (Kd.R (Kd.int .u8) 5 w68 w.heap.size (fun k_ => some k_ ≠ (v217 : Value).ownBlock) v220 y219) := ⟨h1_⟩
                                                        have n2_ : Aside0 (Below w.heap.size w w68) := ⟨h2_⟩
                                                        clear HO218
                                                        clear HB
                                                        clear h0_ h1_ h2_
                                                        have HO218 := n0_
                                                        have HO221 := n1_
                                                        have HB := n2_
                                                        clear n0_ n1_ n2_
                                                        have hHeld := trivial
                                                        refine norm_ (a' := ?_) ?_ ?_
                                                        rotate_left
                                                        · simp only [putAll, Act.put, List.setIfInBounds_toArray, List.set_cons_zero, List.set_cons_succ]
                                                          rfl
                                                        refine one_ (i := 16) (N := some 127) #[true, true, true, true, true, true, true, true, true, true, true, true, true, true, true, true, true, false, false, true, false, false] rfl rfl (one_of HT_.out (by kernel_rfl)) (by decide) (fun K hK => ?_)
                                                        refine Kd.R_make_step (Kd.int .u8) _ 5 (by rfl) (N := 127) rfl 32 _ _ rfl ji50 rfl rfl Try.underlying32 (.int .u8 0) 1 info5 rfl (by decide) (by omega) 0 (ok := fun _ => True) (okp := fun _ => True) rfl (fun _ hk => hk) trivial (of_decide_eq_true (by first | (with_reducible assumption) | assumption)) (Nat.le_trans (Nat.mul_le_mul_right _ (of_decide_eq_true (by first | (with_reducible assumption) | assumption) : ji50.toNat ≤ 281474976710656)) (by omega)) (Below.refl _ _) (Nat.le_refl _) ?_
                                                        intro v225 w69 ho70 hb hg_ hnew_
                                                        clear hg_ hnew_
                                                        (first | rw [← Ny224.out] at ho70 | (simp only [Int.reduceToNat] at ho70; rw [← Ny224.out] at ho70))
                                                        have n0_ := Aside0.mk (Kd.R_elder' (by (with_reducible repeat (first | apply Kd.R_alloc | apply Kd.R_drewN | apply Kd.R_drew)); exact HO218.out) (Kd.R_base ho70) hb)
                                                        have n1_ := Aside0.mk (Kd.R_elder' (by (with_reducible repeat (first | apply Kd.R_alloc | apply Kd.R_drewN | apply Kd.R_drew)); exact HO221.out) (Kd.R_base ho70) hb)
                                                        have n2_ := Aside0.mk (Kd.R_lower (Kd.R_new' (Kd.R_new' ho70 (Kd.R_lt (by (with_reducible repeat (first | apply Kd.R_alloc | apply Kd.R_drewN | apply Kd.R_drew)); exact HO218.out))) (Kd.R_lt (by (with_reducible repeat (first | apply Kd.R_alloc | apply Kd.R_drewN | apply Kd.R_drew)); exact HO221.out))) (below_size (by repeat (first | (with_reducible first | exact HB.out | apply below_alloc | apply pw_below_drewN | apply below_drew1) | exact HB.out))))
                                                        have n3_ := Aside0.mk (below_step (by repeat (first | (with_reducible first | exact HB.out | apply below_alloc | apply pw_below_drewN | apply below_drew1) | exact HB.out)) hb)
                                                        clear HO218
                                                        clear HO221
                                                        clear HB
                                                        have HO218 := n0_
                                                        have HO221 := n1_
                                                        have HO226 := n2_
                                                        have HB := n3_
                                                        clear n0_ n1_ n2_ n3_
                                                        clear hb ho70
                                                        refine hK.out _ _ trivial (fun hHeld => ?_)
                                                        clear hK K
                                                        refine norm_ (a' := ?_) ?_ ?_
                                                        rotate_left
                                                        · show Act.put _ (some 127) _ = _
                                                          simp only [Act.put, List.setIfInBounds_toArray, List.set_cons_zero, List.set_cons_succ, i64_w, i32_w]
                                                          rfl
                                                        exact norm_ (by first | (simp only [putAll, Act.put, List.setIfInBounds_toArray, List.set_cons_zero, List.set_cons_succ]; done) | (simp only [putAll, Act.put, List.setIfInBounds_toArray, List.set_cons_zero, List.set_cons_succ]; rfl)) (hJ6_7_16 (v220, v225) _ ⟨(by (with_reducible repeat (first | apply Kd.R_alloc | apply Kd.R_drewN | apply Kd.R_drew)); exact HO218.out), (by (with_reducible repeat (first | apply Kd.R_alloc | apply Kd.R_drewN | apply Kd.R_drew)); exact HO221.out), (by (with_reducible repeat (first | apply Kd.R_alloc | apply Kd.R_drewN | apply Kd.R_drew)); exact Kd.R_mono HO226.out (fun _ hk => ⟨hk.1.2, hk.2⟩)), (by repeat (first | (with_reducible first | exact HB.out | apply below_alloc | apply pw_below_drewN | apply below_drew1) | exact HB.out))⟩)
                                                    · skip
                                                      rintro ⟨v220, v225⟩ w70 ⟨h0_, h1_, h2_, h3_⟩
                                                      have n0_ : Aside0 (Kd.R (Kd.int .u8) 5 w70 w.heap.size (fun k_ => some k_ ≠ (v220 : Value).ownBlock ∧ some k_ ≠ (v225 : Value).ownBlock) v217 y216) := ⟨h0_⟩
                                                      have n1_ : Aside0 (Kd.R (Kd.int .u8) 5 w70 w.heap.size (fun k_ => some k_ ≠ (v217 : Value).ownBlock ∧ some k_ ≠ (v225 : Value).ownBlock) v220 y219) := ⟨h1_⟩
                                                      have n2_ : Aside0 (Kd.R (Kd.int .u8) 5 w70 w.heap.size (fun k_ => some k_ ≠ (v217 : Value).ownBlock ∧ some k_ ≠ (v220 : Value).ownBlock) v225 y224) := ⟨h2_⟩
                                                      have n3_ : Aside0 (Below w.heap.size w w70) := ⟨h3_⟩
                                                      clear HO218
                                                      clear HB
                                                      clear h0_ h1_ h2_ h3_
                                                      have HO218 := n0_
                                                      have HO221 := n1_
                                                      have HO226 := n2_
                                                      have HB := n3_
                                                      clear n0_ n1_ n2_ n3_
                                                      have hHeld := trivial
                                                      refine norm_ (a' := ?_) ?_ ?_
                                                      rotate_left
                                                      · simp only [putAll, Act.put, List.setIfInBounds_toArray, List.set_cons_zero, List.set_cons_succ]
                                                        rfl
                                                      refine one_ (i := 7) (N := some 118) #[true, true, true, true, true, true, true, true, false, true, false, true, true, true, true, true, true, true, false, true, false, false] rfl rfl (one_of HT_.out (by kernel_rfl)) (by decide) (fun K hK => ?_)
                                                      have hcv71 := own_string (P := Try.prog) Try.underlying32 Try.underlying5 Try.underlying9 (Kd.own_of_R HO221.out)
                                                      refine value_ (w1 := ?_) (v := ?_) (by rfl) rfl ?_ ?_
                                                      rotate_left 2
                                                      · go_simp
                                                        constructor
                                                        · rfl
                                                        · rfl
                                                      clear hcv71
                                                      refine hK.out _ _ trivial (fun hHeld => ?_)
                                                      clear hK K
                                                      refine norm_ (a' := ?_) ?_ ?_
                                                      rotate_left
                                                      · show Act.put _ (some 118) _ = _
                                                        simp only [Act.put, List.setIfInBounds_toArray, List.set_cons_zero, List.set_cons_succ, i64_w, i32_w]
                                                        rfl
                                                      refine pure_ (i := 8) (N := some 119) (v := ?_) (a' := ?_) #[true, true, true, true, true, true, true, true, true, true, false, true, true, true, true, true, true, true, false, true, false, false] rfl rfl (any_of HT_.out (by kernel_rfl)) (fun _ _ _ h => h) (Or.inl ⟨by rfl, ?_⟩) ?_ ?_
                                                      rotate_left
                                                      · intro w'
                                                        go_simp
                                                        with_reducible rfl
                                                      rotate_left
                                                      · simp only [Act.put, List.setIfInBounds_toArray, List.set_cons_zero, List.set_cons_succ, i64_w, i32_w]
                                                        rfl
                                                      refine pure_ (i := 10) (N := some 121) (v := ?_) (a' := ?_) #[true, true, true, true, true, true, true, true, true, true, true, true, true, true, true, true, true, true, false, true, false, false] rfl rfl (any_of HT_.out (by kernel_rfl)) (fun _ _ _ h => h) (Or.inl ⟨by rfl, ?_⟩) ?_ ?_
                                                      rotate_left
                                                      · intro w'
                                                        go_simp
                                                        with_reducible rfl
                                                      rotate_left
                                                      · simp only [Act.put, List.setIfInBounds_toArray, List.set_cons_zero, List.set_cons_succ, i64_w, i32_w]
                                                        rfl
                                                      exact norm_ (by first | (simp only [putAll, Act.put, List.setIfInBounds_toArray, List.set_cons_zero, List.set_cons_succ]; done) | (simp only [putAll, Act.put, List.setIfInBounds_toArray, List.set_cons_zero, List.set_cons_succ]; rfl)) (hJ6_7_16_17 (v220, v225) _ ⟨(by (with_reducible repeat (first | apply Kd.R_alloc | apply Kd.R_drewN | apply Kd.R_drew)); exact HO218.out), (by (with_reducible repeat (first | apply Kd.R_alloc | apply Kd.R_drewN | apply Kd.R_drew)); exact HO221.out), (by (with_reducible repeat (first | apply Kd.R_alloc | apply Kd.R_drewN | apply Kd.R_drew)); exact HO226.out), (by repeat (first | (with_reducible first | exact HB.out | apply below_alloc | apply pw_below_drewN | apply below_drew1) | exact HB.out))⟩)
                                                  · skip
                                                    rintro ⟨v220, v225⟩ w70 ⟨h0_, h1_, h2_, h3_⟩
                                                    have n0_ : Aside0 (Kd.R (Kd.int .u8) 5 w70 w.heap.size (fun k_ => some k_ ≠ (v220 : Value).ownBlock ∧ some k_ ≠ (v225 : Value).ownBlock) v217 y216) := ⟨h0_⟩
                                                    have n1_ : Aside0 (Kd.R (Kd.int .u8) 5 w70 w.heap.size (fun k_ => some k_ ≠ (v217 : Value).ownBlock ∧ some k_ ≠ (v225 : Value).ownBlock) v220 y219) := ⟨h1_⟩
                                                    have n2_ : Aside0 (Kd.R (Kd.int .u8) 5 w70 w.heap.size (fun k_ => some k_ ≠ (v217 : Value).ownBlock ∧ some k_ ≠ (v220 : Value).ownBlock) v225 y224) := ⟨h2_⟩
                                                    have n3_ : Aside0 (Below w.heap.size w w70) := ⟨h3_⟩
                                                    clear HO218
                                                    clear HB
                                                    clear h0_ h1_ h2_ h3_
                                                    have HO218 := n0_
                                                    have HO221 := n1_
                                                    have HO226 := n2_
                                                    have HB := n3_
                                                    clear n0_ n1_ n2_ n3_
                                                    have hHeld := trivial
                                                    refine norm_ (a' := ?_) ?_ ?_
                                                    rotate_left
                                                    · simp only [putAll, Act.put, List.setIfInBounds_toArray, List.set_cons_zero, List.set_cons_succ]
                                                      rfl
                                                    refine one_ (i := 17) (N := some 128) #[true, true, true, true, true, true, true, true, true, true, true, true, true, true, true, true, true, true, false, true, false, false] rfl rfl (one_of HT_.out (by kernel_rfl)) (by decide) (fun K hK => ?_)
                                                    have hcv71 := own_string (P := Try.prog) Try.underlying32 Try.underlying5 Try.underlying9 (Kd.own_of_R HO226.out)
                                                    refine value_ (w1 := ?_) (v := ?_) (by rfl) rfl ?_ ?_
                                                    rotate_left 2
                                                    · go_simp
                                                      constructor
                                                      · rfl
                                                      · rfl
                                                    clear hcv71
                                                    refine hK.out _ _ trivial (fun hHeld => ?_)
                                                    clear hK K
                                                    refine norm_ (a' := ?_) ?_ ?_
                                                    rotate_left
                                                    · show Act.put _ (some 128) _ = _
                                                      simp only [Act.put, List.setIfInBounds_toArray, List.set_cons_zero, List.set_cons_succ, i64_w, i32_w]
                                                      rfl
                                                    exact norm_ (by first | (simp only [putAll, Act.put, List.setIfInBounds_toArray, List.set_cons_zero, List.set_cons_succ]; done) | (simp only [putAll, Act.put, List.setIfInBounds_toArray, List.set_cons_zero, List.set_cons_succ]; rfl)) (hJ6_7_16_17 (v220, v225) _ ⟨(by (with_reducible repeat (first | apply Kd.R_alloc | apply Kd.R_drewN | apply Kd.R_drew)); exact HO218.out), (by (with_reducible repeat (first | apply Kd.R_alloc | apply Kd.R_drewN | apply Kd.R_drew)); exact HO221.out), (by (with_reducible repeat (first | apply Kd.R_alloc | apply Kd.R_drewN | apply Kd.R_drew)); exact HO226.out), (by repeat (first | (with_reducible first | exact HB.out | apply below_alloc | apply pw_below_drewN | apply below_drew1) | exact HB.out))⟩)
                                                rintro ⟨v220, v225⟩ w71 ⟨h0_, h1_, h2_, h3_⟩
                                                have n0_ : Aside0 (Kd.R (Kd.int .u8) 5 w71 w.heap.size (fun k_ => some k_ ≠ (v220 : Value).ownBlock ∧ some k_ ≠ (v225 : Value).ownBlock) v217 y216) := ⟨h0_⟩
                                                have n1_ : Aside0 (Kd.R (Kd.int .u8) 5 w71 w.heap.size (fun k_ => some k_ ≠ (v217 : Value).ownBlock ∧ some k_ ≠ (v225 : Value).ownBlock) v220 y219) := ⟨h1_⟩
                                                have n2_ : Aside0 (Kd.R (Kd.int .u8) 5 w71 w.heap.size (fun k_ => some k_ ≠ (v217 : Value).ownBlock ∧ some k_ ≠ (v220 : Value).ownBlock) v225 y224) := ⟨h2_⟩
                                                have n3_ : Aside0 (Below w.heap.size w w71) := ⟨h3_⟩
                                                clear HO218
                                                clear HB
                                                clear h0_ h1_ h2_ h3_
                                                have HO218 := n0_
                                                have HO221 := n1_
                                                have HO226 := n2_
                                                have HB := n3_
                                                clear n0_ n1_ n2_ n3_
                                                have hHeld := trivial
                                                refine norm_ (a' := ?_) ?_ ?_
                                                rotate_left
                                                · simp only [putAll, Act.put, List.setIfInBounds_toArray, List.set_cons_zero, List.set_cons_succ]
                                                  rfl
                                                refine pure_ (i := 18) (N := some 129) (v := ?_) (a' := ?_) #[true, true, true, true, true, true, true, true, true, true, true, true, true, true, true, true, true, true, true, true, false, false] rfl rfl (any_of HT_.out (by kernel_rfl)) (fun _ _ _ h => h) (Or.inl ⟨by rfl, ?_⟩) ?_ ?_
                                                rotate_left
                                                · intro w'
                                                  go_simp
                                                  with_reducible rfl
                                                rotate_left
                                                · simp only [Act.put, List.setIfInBounds_toArray, List.set_cons_zero, List.set_cons_succ, i64_w, i32_w]
                                                  rfl
                                                refine pure_ (i := 20) (N := some 131) (v := ?_) (a' := ?_) #[true, true, true, true, true, true, true, true, true, true, true, true, true, true, true, true, true, true, true, true, true, false] rfl rfl (any_of HT_.out (by kernel_rfl)) (fun _ _ _ h => h) (Or.inl ⟨by rfl, ?_⟩) ?_ ?_
                                                rotate_left
                                                · intro w'
                                                  go_simp
                                                  with_reducible rfl
                                                rotate_left
                                                · simp only [Act.put, List.setIfInBounds_toArray, List.set_cons_zero, List.set_cons_succ, i64_w, i32_w]
                                                  rfl
                                                refine pure_ (i := 21) (N := some 18) (v := ?_) (a' := ?_) #[true, true, true, true, true, true, true, true, true, true, true, true, true, true, true, true, true, true, true, true, true, true] rfl rfl (any_of HT_.out (by kernel_rfl)) (fun _ _ _ h => h) (Or.inl ⟨by rfl, ?_⟩) ?_ ?_
                                                rotate_left
                                                · intro w'
                                                  go_simp
                                                  with_reducible rfl
                                                rotate_left
                                                · simp only [Act.put, List.setIfInBounds_toArray, List.set_cons_zero, List.set_cons_succ, i64_w, i32_w]
                                                  rfl
                                                refine done_ (done_of HT_.out (by kernel_rfl)) ?_
                                                try go_wp2_with (first | ((with_reducible refine gate_callee (f := 18) rfl ?_); refine goesL_ (some 136) rfl rfl Try.func18 (by kernel_rfl) rfl #[.string (t211.extract 0 32), .string ys228] rfl (by (try simp only [List.map_toArray, List.map_cons, List.map_nil]); first | done | rfl | (simp only [List.length_drop, List.length_take]; rfl)) ?_; (with_reducible refine (poly_Mac.calls (t211.extract 0 32) ys228 t229 t230 _ A57.out).mono ?_); rintro e w72 ⟨rfl, hb⟩; refine ⟨_, rfl, ?_⟩; have n0_ := Aside0.mk (Kd.R_below (by (with_reducible repeat (first | apply Kd.R_alloc | apply Kd.R_drewN | apply Kd.R_drew)); exact HO218.out) hb); have n1_ := Aside0.mk (Kd.R_below (by (with_reducible repeat (first | apply Kd.R_alloc | apply Kd.R_drewN | apply Kd.R_drew)); exact HO221.out) hb); have n2_ := Aside0.mk (Kd.R_below (by (with_reducible repeat (first | apply Kd.R_alloc | apply Kd.R_drewN | apply Kd.R_drew)); exact HO226.out) hb); have n3_ := Aside0.mk (below_step (by repeat (first | (with_reducible first | exact HB.out | apply below_alloc | apply pw_below_drewN | apply below_drew1) | exact HB.out)) hb); clear HO218; clear HO221; clear HO226; clear HB; have HO218 := n0_; have HO221 := n1_; have HO226 := n2_; have HB := n3_; clear n0_ n1_ n2_ n3_; (try clear hb); (try clear hb2); (try clear hk); (try clear hi)) | ((with_reducible refine gate_callee (f := 16) rfl ?_); refine goesL_ (some 140) rfl rfl Try.func16 (by kernel_rfl) rfl #[.int .i64 t230] rfl (by (try simp only [List.map_toArray, List.map_cons, List.map_nil]); first | done | rfl | (simp only [List.length_drop, List.length_take]; rfl)) ?_; (with_reducible refine (halberdlaw0_Num.calls t230 t231 _ A58.out).mono ?_); rintro e w' ⟨rfl, ⟨nd, rfl⟩⟩; refine ⟨_, rfl, ?_⟩))
                                                go_ret
                                                exact ⟨by first | rfl | (simp [errW_none, errW_some] <;> rfl) | (simp only [← hji45, ← hji50]; first | rfl | (simp [errW_none, errW_some] <;> rfl)) | (simp [*, errW_none, errW_some] <;> rfl), by repeat (first | (with_reducible first | exact HB.out | apply below_alloc | apply pw_below_drewN | apply below_drew1) | exact HB.out)⟩
                                              · rw [if_neg c60] at H
                                                exact absurd H (by simp)
                                            · rw [if_neg c59] at H
                                              have c59b0 : (t231 == 0) = false := beq_eq_false_iff_ne.mpr c59
                                              have c59b1 : (t231 != 0) = true := bne_iff_ne.mpr c59
                                              exact absurd ((Option.some.inj H).trans hr.out) (by decide)
                                          · rw [if_neg c56] at H
                                            exact absurd H (by simp)
                                        · rw [if_neg c55] at H
                                          exact absurd H (by simp)
                                      · rw [if_neg c54] at H
                                        exact absurd H (by simp)
                                    · rw [if_neg c53] at H
                                      exact absurd H (by simp)
                                  · rw [if_neg c52] at H
                                    exact absurd H (by simp)
                                · rw [if_neg c51] at H
                                  exact absurd H (by simp)
                              · rw [if_neg c49] at H
                                exact absurd H (by simp)
                            · rw [if_neg c48] at H
                              exact absurd H (by simp)
                          · rw [if_neg c47] at H
                            exact absurd H (by simp)
                        · rw [if_neg c46] at H
                          exact absurd H (by simp)
                · rw [if_neg c22] at H
                  exact absurd H (by simp)
          · rw [if_neg c10] at H
            exact absurd H (by simp)
  · replace c5 := Bool.eq_false_iff.mpr c5
    subst c5
    have H1 : (some false) = some r := by rw [if_neg (show ¬ (false = true) by decide)] at H; exact H
    clear H
    have H := H1
    clear H1
    exact absurd ((Option.some.inj H).trans hr.out) (by decide)

/-- THE ONE PURE STATEMENT of halberdlaw7_PolyParts: yours. -/
def halberdlaw7_PolyParts.Pure : Prop := ∀ (a0 : ByteArray) (a1 : ByteArray) (a2 : ByteArray), a0.size ≤ 140737488351232 → a1.size ≤ 140737488351232 → a2.size ≤ 140737488351232 → ∃ k, halberdlaw7_PolyParts.f k a0 a1 a2 = some true
theorem halberdlaw7_PolyParts.walk (P : halberdlaw7_PolyParts.Pure) (a0 : ByteArray) (a1 : ByteArray) (a2 : ByteArray) (w : World) (w0 : a0.size ≤ 140737488351232) (w1 : a1.size ≤ 140737488351232) (w2 : a2.size ≤ 140737488351232) :
    Calls Try.prog 11 #[.string a0, .string a1, .string a2] w fun e w' => e = .returned (.bool true) ∧ Below w.heap.size w w' := by
  obtain ⟨k, h⟩ := P a0 a1 a2 w0 w1 w2
  refine (halberdlaw7_PolyParts.calls k a0 a1 a2 true w h ⟨rfl⟩).mono ?_
  rintro e w' ⟨rfl, hd⟩
  exact ⟨rfl, hd⟩

end Go.Proofs.Ytocckplgjbhlbaa.P
