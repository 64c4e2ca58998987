-- Written by a program of this session (wip/tools/xprint.py), over the kit's printer.
import Derived.Test.YtggnmnpmhknjgaaYx0
import Derived.Test.YtggnmnpmhknjgaaYx1
import Derived.Test.YtggnmnpmhknjgaaYx2
import Derived.Test.YtggnmnpmhknjgaaYx3
namespace Go.Proofs.Ytggnmnpmhknjgaa.Y
open Go.RowKit Go.Proofs.YtggnmnpmhknjgaaW.PrintWords Go.Proofs.YtggnmnpmhknjgaaW.PrintLast Go.Proofs.YtggnmnpmhknjgaaW.PrintMore
attribute [local go_sem] max2_int min2_int max_two min_two max_three min_three max_four min_four   -- for this text's walks alone
set_option linter.unusedVariables false
set_option linter.unusedSimpArgs false

/-! ### halberdlaw18_IncrBytes: function 6 -/
mutual
def halberdlaw18_IncrBytes.j0 : Nat → Int → ByteArray → ByteArray → Option (Bool)
  | 0, _, _, _ => none
  | k + 1, x0, x2, x7 => (some (([(x0) % 256, 0, ((x7.size : Int) / 256) % 256, ((x7.size : Int)) % 256] : List Int) : List Int)).bind fun y173 => (if (strOfNums y173).size + x7.size ≤ 9223372036854775807 then ((incr_New.f).bind fun bt177 => (halberdlaw18_IncrBytes.l0 k x2 ((strOfNums y173) ++ x7) 0 bt177.1 bt177.2)) else (none))
def halberdlaw18_IncrBytes.l0 : Nat → ByteArray → ByteArray → Int → ByteArray → Bool → Option (Bool)
  | 0, _, _, _, _, _ => none
  | k + 1, x2, x8, x10, x180000, x180001 => if x10 < (x8.size : Int) then ((incr_Decoder_Feed.f k x180000 x180001 (⟨#[]⟩ : ByteArray)).bind fun bt191 => (if 0 ≤ x10 then (if x10 ≤ (wrap64 (x10 + 1)) then (if (wrap64 (x10 + 1)) ≤ (x8.size : Int) then ((incr_Decoder_Feed.f k bt191.2.2.1 bt191.2.2.2 (x8.extract (x10 : Int).toNat ((wrap64 (x10 + 1)) : Int).toNat)).bind fun bt197 => ((halberdlaw0_Num.f bt191.2.1).bind fun t203 => (if t203 = 0 then ((halberdlaw0_Num.f bt197.2.1).bind fun t204 => (if t204 = 0 then (if (bt191.1.length : Int) = 0 then (if (wrap64 (x10 + 1)) = (x8.size : Int) then (if (bt197.1.length : Int) = 1 then (if 0 < (bt197.1.length : Int) then (if (rdOf ByteArray.empty bt197.1 0).toList = x8.toList then (halberdlaw18_IncrBytes.l0 k x2 x8 (wrap64 (x10 + 1)) bt197.2.2.1 bt197.2.2.2) else (some false)) else (none)) else (some false)) else (if (bt197.1.length : Int) = 1 then (some false) else ((incr_Decoder_Held.f bt197.2.2.1 bt197.2.2.2).bind fun bt206 => (if bt206.1 = (wrap64 (x10 + 1)) then (halberdlaw18_IncrBytes.l0 k x2 x8 (wrap64 (x10 + 1)) bt206.2.1 bt206.2.2) else (some false))))) else (some false)) else (some false))) else (some false)))) else (none)) else (none)) else (none))) else (if 0 ≤ (mn (x2.size : Int) 2) then (if (mn (x2.size : Int) 2) ≤ (x2.size : Int) then (if 1 + (x2.extract 0 ((mn (x2.size : Int) 2) : Int).toNat).size ≤ 9223372036854775807 then ((incr_Decoder_Feed.f k x180000 x180001 ((⟨#[0]⟩ : ByteArray) ++ (x2.extract 0 ((mn (x2.size : Int) 2) : Int).toNat))).bind fun bt181 => (if (bt181.1.length : Int) = 0 then ((halberdlaw0_Num.f bt181.2.1).bind fun t187 => (if t187 = 0 then ((incr_Decoder_Held.f bt181.2.2.1 bt181.2.2.2).bind fun bt188 => (some (bt188.1 == (1 + (mn (x2.size : Int) 2))))) else (some false))) else (some false))) else (none)) else (none)) else (none))
end
def halberdlaw18_IncrBytes.f (k : Nat) (a0 : Int) (a1 : ByteArray) (a2 : ByteArray) : Option (Bool) := (halberdlaw18_awake.f).bind fun t172 => (if t172 = true then (if (a1.size : Int) > 400 then (if 0 ≤ 400 then (if 400 ≤ (a1.size : Int) then (halberdlaw18_IncrBytes.j0 k a0 a2 (a1.extract 0 400)) else (none)) else (none)) else (halberdlaw18_IncrBytes.j0 k a0 a2 a1)) else (some false))
theorem halberdlaw18_IncrBytes.mono_l : ∀ k, (∀ y0 y1 y2, LeO (halberdlaw18_IncrBytes.j0 k y0 y1 y2) (halberdlaw18_IncrBytes.j0 (k + 1) y0 y1 y2)) ∧ (∀ y0 y1 y2 y3 y4, LeO (halberdlaw18_IncrBytes.l0 k y0 y1 y2 y3 y4) (halberdlaw18_IncrBytes.l0 (k + 1) y0 y1 y2 y3 y4))
  | 0 => ⟨fun _ _ _ r h => by simp [halberdlaw18_IncrBytes.j0] at h, fun _ _ _ _ _ r h => by simp [halberdlaw18_IncrBytes.l0] at h⟩
  | k + 1 => by
    obtain ⟨ih0, ih1⟩ := halberdlaw18_IncrBytes.mono_l k
    refine ⟨?_, ?_⟩
    · intro y0 y1 y2
      unfold halberdlaw18_IncrBytes.j0
      repeat' first
      | (with_reducible exact ih0 _ _ _)
      | (with_reducible exact ih1 _ _ _ _ _)
      | (with_reducible exact incr_Decoder_Feed.mono _ _ _ _)
      | (with_reducible exact LeO.refl _)
      | (with_reducible exact LeO.none _)
      | (with_reducible refine LeO.ite ?_ ?_)
      | (with_reducible refine LeO.bind ?_ (fun _ => ?_))
      | exact ih0 _ _ _
      | exact ih1 _ _ _ _ _
      | exact incr_Decoder_Feed.mono _ _ _ _
      | exact LeO.none _
      | refine LeO.ite ?_ ?_
      | refine LeO.bind ?_ (fun _ => ?_)
    · intro y0 y1 y2 y3 y4
      unfold halberdlaw18_IncrBytes.l0
      repeat' first
      | (with_reducible exact ih0 _ _ _)
      | (with_reducible exact ih1 _ _ _ _ _)
      | (with_reducible exact incr_Decoder_Feed.mono _ _ _ _)
      | (with_reducible exact LeO.refl _)
      | (with_reducible exact LeO.none _)
      | (with_reducible refine LeO.ite ?_ ?_)
      | (with_reducible refine LeO.bind ?_ (fun _ => ?_))
      | exact ih0 _ _ _
      | exact ih1 _ _ _ _ _
      | exact incr_Decoder_Feed.mono _ _ _ _
      | exact LeO.none _
      | refine LeO.ite ?_ ?_
      | refine LeO.bind ?_ (fun _ => ?_)
theorem halberdlaw18_IncrBytes.mono : ∀ a0 a1 a2 k, LeO (halberdlaw18_IncrBytes.f k a0 a1 a2) (halberdlaw18_IncrBytes.f (k + 1) a0 a1 a2) := by
  intro a0 a1 a2 k
  obtain ⟨ih0, ih1⟩ := halberdlaw18_IncrBytes.mono_l k
  unfold halberdlaw18_IncrBytes.f
  repeat' first
      | (with_reducible exact ih0 _ _ _)
      | (with_reducible exact ih1 _ _ _ _ _)
      | (with_reducible exact incr_Decoder_Feed.mono _ _ _ _)
      | (with_reducible exact LeO.refl _)
      | (with_reducible exact LeO.none _)
      | (with_reducible refine LeO.ite ?_ ?_)
      | (with_reducible refine LeO.bind ?_ (fun _ => ?_))
      | exact ih0 _ _ _
      | exact ih1 _ _ _ _ _
      | exact incr_Decoder_Feed.mono _ _ _ _
      | exact LeO.none _
      | refine LeO.ite ?_ ?_
      | refine LeO.bind ?_ (fun _ => ?_)
set_option maxHeartbeats 8000000 in
set_option maxRecDepth 100000 in
theorem halberdlaw18_IncrBytes.calls (k : Nat) (a0 : Int) (a1 : ByteArray) (a2 : ByteArray) (r : Bool) (w : World) (h : halberdlaw18_IncrBytes.f k a0 a1 a2 = some r) (hr : Aside0 (r = true)) :
    Calls Try.prog 6 #[.int .i64 a0, .string a1, .string a2] w fun e w' => e = .returned (.bool r) ∧ Below w.heap.size w w' := by
  have HB := Aside0.mk (Below.refl w.heap.size w)
  have H : ((halberdlaw18_awake.f).bind fun t172 => (if t172 = true then (if (a1.size : Int) > 400 then (if 0 ≤ 400 then (if 400 ≤ (a1.size : Int) then (halberdlaw18_IncrBytes.j0 k a0 a2 (a1.extract 0 400)) else (none)) else (none)) else (halberdlaw18_IncrBytes.j0 k a0 a2 a1)) else (some false))) = some r := h
  clear h
  replace H := Option.bind_eq_some_iff.mp H
  obtain ⟨t172, A40, H⟩ := H
  replace H : (if t172 = true then (if (a1.size : Int) > 400 then (if 0 ≤ 400 then (if 400 ≤ (a1.size : Int) then (halberdlaw18_IncrBytes.j0 k a0 a2 (a1.extract 0 400)) else (none)) else (none)) else (halberdlaw18_IncrBytes.j0 k a0 a2 a1)) else (some false)) = some r := H
  have A4 := Aside0.mk A40
  clear A40
  by_cases c5 : t172 = true
  · subst c5
    have H1 : (if (a1.size : Int) > 400 then (if 0 ≤ 400 then (if 400 ≤ (a1.size : Int) then (halberdlaw18_IncrBytes.j0 k a0 a2 (a1.extract 0 400)) else (none)) else (none)) else (halberdlaw18_IncrBytes.j0 k a0 a2 a1)) = some r := by rw [if_pos rfl] at H; exact H
    clear H
    have H := H1
    clear H1
    have HC6 := Aside0.mk H
    clear H
    go_enter Try.func6, Try.ntmps6
    go_upto_if 23 with (first | ((with_reducible refine gate_callee (f := 32) rfl ?_); refine goesL_ (some 18) rfl rfl Try.func32 (by kernel_rfl) rfl #[] rfl (by (try simp only [List.map_toArray, List.map_cons, List.map_nil]); first | done | rfl | (simp only [List.length_drop, List.length_take]; rfl)) ?_; (with_reducible refine (halberdlaw18_awake.calls  true _ A4.out).mono ?_); rintro e w7 ⟨rfl, hb⟩; refine ⟨_, rfl, ?_⟩; have n0_ := Aside0.mk (below_step (by repeat (first | (with_reducible first | exact HB.out | apply below_alloc | apply pw_below_drewN | apply below_drew1) | exact HB.out)) hb); clear HB; have HB := n0_; clear n0_; (try clear hb); (try clear hb2); (try clear hk); (try clear hi)))
    (try simp only [Act.put, List.setIfInBounds_toArray, List.set_cons_zero, List.set_cons_succ])
    go_cut [7] (fun v7 wc => ∃ (kq : Nat) (x7_5 : ByteArray), v7 = .string x7_5 ∧ Aside0 (halberdlaw18_IncrBytes.j0 kq a0 a2 x7_5 = some r) ∧ Aside0 (kq ≤ k) ∧ Aside0 (Below w.heap.size w wc))
    case first =>
      have H := HC6.out
      clear HC6
      by_cases c8 : (a1.size : Int) > 400
      · rw [if_pos c8] at H
        have c8b0 : decide (400 < (a1.size : Int)) = true := decide_eq_true c8
        have c8b1 : decide (400 < a1.size) = true := decide_eq_true (by omega)
        clear c8
        (first | rw [c8b0] | (simp only [i64_w, i32_w]; rw [c8b0]) | skip)
        by_cases c9 : 0 ≤ 400
        · rw [if_pos c9] at H
          have c9b0 := eq_true c9
          have c9b1 : decide (0 ≤ 400) = true := decide_eq_true c9
          clear c9
          by_cases c10 : 400 ≤ (a1.size : Int)
          · rw [if_pos c10] at H
            have c10b0 := eq_true c10
            have c10b1 : decide (400 ≤ (a1.size : Int)) = true := decide_eq_true c10
            clear c10
            have H' := Aside0.mk H
            clear H
            go_wp2
            go_meet
            case rel => exact ⟨_, (a1.extract 0 400), (by first | rfl | (simp; done) | (simp [*]; done)), H', ⟨by first | omega | exact Nat.le_refl _⟩, ⟨by repeat (first | (with_reducible first | exact HB.out | apply below_alloc | apply pw_below_drewN | apply below_drew1) | exact HB.out)⟩⟩
          · rw [if_neg c10] at H
            exact absurd H (by simp)
        · rw [if_neg c9] at H
          exact absurd H (by simp)
      · rw [if_neg c8] at H
        have c8b0 : decide (400 < (a1.size : Int)) = false := decide_eq_false c8
        have c8b1 : decide (400 < a1.size) = false := decide_eq_false (by omega)
        clear c8
        (first | rw [c8b0] | (simp only [i64_w, i32_w]; rw [c8b0]) | skip)
        have H' := Aside0.mk H
        clear H
        go_wp2
        go_meet
        case rel => exact ⟨_, (a1), (by first | rfl | (simp; done) | (simp [*]; done)), H', ⟨by first | omega | exact Nat.le_refl _⟩, ⟨by repeat (first | (with_reducible first | exact HB.out | apply below_alloc | apply pw_below_drewN | apply below_drew1) | exact HB.out)⟩⟩
    case rest =>
      clear HC6
      try clear c1
      try clear p2
      try clear c3
      try clear c5
      try clear c6
      try clear c8
      try clear c8b0
      try clear c8b1
      try clear c9
      try clear c9b0
      try clear c9b1
      try clear c10
      try clear c10b0
      try clear c10b1
      obtain ⟨kq, x7_5, rfl, HA, HJ5, HB⟩ := hcut
      cases kq with
      | zero => exact absurd HA.out (by simp [halberdlaw18_IncrBytes.j0])
      | succ kj5 =>
        have H := HA.out
        clear HA
        simp only [halberdlaw18_IncrBytes.j0] at H
        obtain ⟨y173, hy173⟩ : ∃ y_ : List Int, y_ = (([(a0) % 256, 0, ((x7_5.size : Int) / 256) % 256, ((x7_5.size : Int)) % 256] : List Int)) := ⟨_, rfl⟩
        replace H : (if (strOfNums y173).size + x7_5.size ≤ 9223372036854775807 then ((incr_New.f).bind fun bt177 => (halberdlaw18_IncrBytes.l0 kj5 a2 ((strOfNums y173) ++ x7_5) 0 bt177.1 bt177.2)) else (none)) = some r := by first | (rw [hy173]; with_reducible exact H) | (have H2_ := (Option.bind_some _ _).symm.trans H; rw [hy173]; with_reducible exact H2_) | (have H2_ := (Option.bind_some _ _).symm.trans H; with_reducible exact H2_) | with_reducible exact H | (rw [hy173]; exact H) | exact H
        have Ny173 := Aside0.mk hy173
        clear hy173
        by_cases c11 : (strOfNums y173).size + x7_5.size ≤ 9223372036854775807
        · rw [if_pos c11] at H
          have c11b0 := eq_true c11
          have c11b1 : decide ((strOfNums y173).size + x7_5.size ≤ 9223372036854775807) = true := decide_eq_true c11
          try have c11b2 : (9223372036854775807 < (strOfNums y173).size + x7_5.size) = False := eq_false (Nat.not_lt.2 c11)
          obtain ⟨ys176, hys176⟩ : ∃ y_ : ByteArray, y_ = ((strOfNums y173) ++ x7_5) := ⟨_, rfl⟩
          replace H : ((incr_New.f).bind fun bt177 => (halberdlaw18_IncrBytes.l0 kj5 a2 ys176 0 bt177.1 bt177.2)) = some r := by first | (rw [hys176]; with_reducible exact H) | (have H2_ := (Option.bind_some _ _).symm.trans H; rw [hys176]; with_reducible exact H2_) | (have H2_ := (Option.bind_some _ _).symm.trans H; with_reducible exact H2_) | with_reducible exact H | (rw [hys176]; exact H) | exact H
          have Nys176 := Aside0.mk hys176
          clear hys176
          have Sys176 := Nys176.out.symm
          replace H := Option.bind_eq_some_iff.mp H
          obtain ⟨⟨t177, t178⟩, A120, H⟩ := H
          replace H : (halberdlaw18_IncrBytes.l0 kj5 a2 ys176 0 t177 t178) = some r := H
          have A12 := Aside0.mk A120
          clear A120
          have H' := Aside0.mk H
          clear H
          go_wp2_with (first | ((with_reducible refine gate_dst (N := 35) rfl ?_); (try (refine gate_guard (by rfl) ?_; dsimp only)); refine Kd.R_lit (Kd.int .u8) _ 5 ?hg (N := 35) ?hd (xs := ([(a0) % 256, 0, ((x7_5.size : Int) / 256) % 256, ((x7_5.size : Int)) % 256] : List Int)) (inner := [.int .u8 ((a0) % 256), .int .u8 0, .int .u8 (((x7_5.size : Int) / 256) % 256), .int .u8 (((x7_5.size : Int)) % 256)]) (ok := fun _ => True) (okp := fun _ => True) ?hr ?hp (fun _ hk => hk) trivial (Below.refl _ _) (Nat.le_refl _) (by simp) ?_; (case hd => rfl); (case hg => rfl); (case hr => first | (go_simp; done) | (go_simp; rfl)); (case hp => exact (Reps.one (show Kd.M (Kd.int .u8) _ _ _ ((a0) % 256) [.int .u8 ((a0) % 256)] from rfl) (Reps.one (show Kd.M (Kd.int .u8) _ _ _ 0 [.int .u8 0] from rfl) (Reps.one (show Kd.M (Kd.int .u8) _ _ _ (((x7_5.size : Int) / 256) % 256) [.int .u8 (((x7_5.size : Int) / 256) % 256)] from rfl) (Reps.one (show Kd.M (Kd.int .u8) _ _ _ (((x7_5.size : Int)) % 256) [.int .u8 (((x7_5.size : Int)) % 256)] from rfl) (Reps.none _ _)))))); intro v174 w13 ho14 hb hg_ hnew_; clear hg_ hnew_; (first | rw [← Ny173.out] at ho14 | (simp only [Int.reduceToNat] at ho14; rw [← Ny173.out] at ho14)); have n0_ := Aside0.mk (Kd.R_lower ho14 (below_size (by repeat (first | (with_reducible first | exact HB.out | apply below_alloc | apply pw_below_drewN | apply below_drew1) | exact HB.out)))); have n1_ := Aside0.mk (below_step (by repeat (first | (with_reducible first | exact HB.out | apply below_alloc | apply pw_below_drewN | apply below_drew1) | exact HB.out)) hb); clear HB; have HO175 := n0_; have HB := n1_; clear n0_ n1_; clear hb ho14; have hcv15 := own_string (P := Try.prog) Try.underlying40 Try.underlying5 Try.underlying9 (Kd.own_of_R HO175.out)) | ((with_reducible refine gate_callee (f := 24) rfl ?_); refine goesL_ (some 39) rfl rfl Try.func24 (by kernel_rfl) rfl #[] rfl (by (try simp only [List.map_toArray, List.map_cons, List.map_nil]); first | done | rfl | (simp only [List.length_drop, List.length_take]; rfl)) ?_; (with_reducible refine (incr_New.calls  t177 t178 w _ ?side1 A12.out).mono ?_); (case side1 => repeat (first | (with_reducible first | exact HB.out | apply below_alloc | apply pw_below_drewN | apply below_drew1) | exact HB.out)); rintro e w16 ⟨g179, rfl, hi, hb, hb2⟩; refine ⟨_, rfl, ?_⟩; have n0_ := Aside0.mk (Kd.R_below (by (with_reducible repeat (first | apply Kd.R_alloc | apply Kd.R_drewN | apply Kd.R_drew)); exact HO175.out) hb2); have n1_ := Aside0.mk (hb); have n2_ := Aside0.mk (hi); clear HO175; clear HB; have HO175 := n0_; have HB := n1_; have HI179 := n2_; clear n0_ n1_ n2_; (try clear hb); (try clear hb2); (try clear hk); (try clear hi)))
          go_loopg [10] kj5 (fun kq v10 w' => ∃ (x10_2 : Int) (x180000_2 : ByteArray) (x180001_2 : Bool), v10 = .int .i64 x10_2 ∧ Aside0 (halberdlaw18_IncrBytes.l0 kq a2 ys176 x10_2 x180000_2 x180001_2 = some r) ∧ Aside0 (kq ≤ kj5) ∧ Aside0 (IsS63 w w' g179 x180000_2 x180001_2) ∧ Aside0 (Below w.heap.size w w'))
          case atStart => exact ⟨(0), (t177), (t178), (by first | rfl | (simp; done) | (simp [*]; done)), H', ⟨Nat.le_refl _⟩, ⟨by repeat (first | (with_reducible first | exact HI179.out | apply IsS63.alloc | apply IsS63.drewN | apply IsS63.drew | apply IsS63.set_0 | apply IsS63.set_1) | exact HI179.out)⟩, ⟨by repeat (first | (with_reducible first | exact HB.out | apply below_alloc | apply pw_below_drewN | apply below_drew1 | refine below_set ?_ (IsS63.ge HI179.out)) | exact HB.out)⟩⟩
          case round =>
            clear H'
            try clear c1
            try clear hcv1
            try clear c2
            try clear p2
            try clear c3
            try clear c5
            try clear c6
            try clear c8
            try clear c8b0
            try clear c8b1
            try clear c9
            try clear c9b0
            try clear c9b1
            try clear c10
            try clear c10b0
            try clear c10b1
            try clear c11
            try clear c11b0
            try clear c11b1
            try clear c11b2
            try clear hcv15
            try clear p2
            obtain ⟨x10_2, x180000_2, x180001_2, rfl, HA, HK2, HI179, HB⟩ := hrel
            cases gk with
            | zero => exact absurd HA.out (by simp [halberdlaw18_IncrBytes.l0])
            | succ k2 =>
              have H := HA.out
              clear HA
              simp only [halberdlaw18_IncrBytes.l0] at H
              by_cases c17 : x10_2 < (ys176.size : Int)
              · rw [if_pos c17] at H
                have c17b0 : decide (x10_2 < (ys176.size : Int)) = true := decide_eq_true c17
                clear c17
                replace H := Option.bind_eq_some_iff.mp H
                obtain ⟨⟨t191, t194, t195, t196⟩, A180, H⟩ := H
                replace H : (if 0 ≤ x10_2 then (if x10_2 ≤ (wrap64 (x10_2 + 1)) then (if (wrap64 (x10_2 + 1)) ≤ (ys176.size : Int) then ((incr_Decoder_Feed.f k2 t195 t196 (ys176.extract (x10_2 : Int).toNat ((wrap64 (x10_2 + 1)) : Int).toNat)).bind fun bt197 => ((halberdlaw0_Num.f t194).bind fun t203 => (if t203 = 0 then ((halberdlaw0_Num.f bt197.2.1).bind fun t204 => (if t204 = 0 then (if (t191.length : Int) = 0 then (if (wrap64 (x10_2 + 1)) = (ys176.size : Int) then (if (bt197.1.length : Int) = 1 then (if 0 < (bt197.1.length : Int) then (if (rdOf ByteArray.empty bt197.1 0).toList = ys176.toList then (halberdlaw18_IncrBytes.l0 k2 a2 ys176 (wrap64 (x10_2 + 1)) bt197.2.2.1 bt197.2.2.2) else (some false)) else (none)) else (some false)) else (if (bt197.1.length : Int) = 1 then (some false) else ((incr_Decoder_Held.f bt197.2.2.1 bt197.2.2.2).bind fun bt206 => (if bt206.1 = (wrap64 (x10_2 + 1)) then (halberdlaw18_IncrBytes.l0 k2 a2 ys176 (wrap64 (x10_2 + 1)) bt206.2.1 bt206.2.2) else (some false))))) else (some false)) else (some false))) else (some false)))) else (none)) else (none)) else (none)) = some r := H
                have A18 := Aside0.mk A180
                clear A180
                by_cases c19 : 0 ≤ x10_2
                · rw [if_pos c19] at H
                  have c19b0 := eq_true c19
                  have c19b1 : decide (0 ≤ x10_2) = true := decide_eq_true c19
                  clear c19
                  by_cases c20 : x10_2 ≤ (wrap64 (x10_2 + 1))
                  · rw [if_pos c20] at H
                    have c20b0 := eq_true c20
                    have c20b1 : decide (x10_2 ≤ (wrap64 (x10_2 + 1))) = true := decide_eq_true c20
                    by_cases c21 : (wrap64 (x10_2 + 1)) ≤ (ys176.size : Int)
                    · rw [if_pos c21] at H
                      have c21b0 := eq_true c21
                      have c21b1 : decide ((wrap64 (x10_2 + 1)) ≤ (ys176.size : Int)) = true := decide_eq_true c21
                      replace H := Option.bind_eq_some_iff.mp H
                      obtain ⟨⟨t197, t200, t201, t202⟩, A220, H⟩ := H
                      replace H : ((halberdlaw0_Num.f t194).bind fun t203 => (if t203 = 0 then ((halberdlaw0_Num.f t200).bind fun t204 => (if t204 = 0 then (if (t191.length : Int) = 0 then (if (wrap64 (x10_2 + 1)) = (ys176.size : Int) then (if (t197.length : Int) = 1 then (if 0 < (t197.length : Int) then (if (rdOf ByteArray.empty t197 0).toList = ys176.toList then (halberdlaw18_IncrBytes.l0 k2 a2 ys176 (wrap64 (x10_2 + 1)) t201 t202) else (some false)) else (none)) else (some false)) else (if (t197.length : Int) = 1 then (some false) else ((incr_Decoder_Held.f t201 t202).bind fun bt206 => (if bt206.1 = (wrap64 (x10_2 + 1)) then (halberdlaw18_IncrBytes.l0 k2 a2 ys176 (wrap64 (x10_2 + 1)) bt206.2.1 bt206.2.2) else (some false))))) else (some false)) else (some false))) else (some false))) = some r := H
                      have A22 := Aside0.mk A220
                      clear A220
                      replace H := Option.bind_eq_some_iff.mp H
                      obtain ⟨t203, A230, H⟩ := H
                      replace H : (if t203 = 0 then ((halberdlaw0_Num.f t200).bind fun t204 => (if t204 = 0 then (if (t191.length : Int) = 0 then (if (wrap64 (x10_2 + 1)) = (ys176.size : Int) then (if (t197.length : Int) = 1 then (if 0 < (t197.length : Int) then (if (rdOf ByteArray.empty t197 0).toList = ys176.toList then (halberdlaw18_IncrBytes.l0 k2 a2 ys176 (wrap64 (x10_2 + 1)) t201 t202) else (some false)) else (none)) else (some false)) else (if (t197.length : Int) = 1 then (some false) else ((incr_Decoder_Held.f t201 t202).bind fun bt206 => (if bt206.1 = (wrap64 (x10_2 + 1)) then (halberdlaw18_IncrBytes.l0 k2 a2 ys176 (wrap64 (x10_2 + 1)) bt206.2.1 bt206.2.2) else (some false))))) else (some false)) else (some false))) else (some false)) = some r := H
                      have A23 := Aside0.mk A230
                      clear A230
                      by_cases c24 : t203 = 0
                      · rw [if_pos c24] at H
                        have c24b0 : (t203 == 0) = true := beq_iff_eq.mpr c24
                        have c24b1 : (t203 != 0) = false := bne_eq_false_iff_eq.mpr c24
                        clear c24
                        replace H := Option.bind_eq_some_iff.mp H
                        obtain ⟨t204, A250, H⟩ := H
                        replace H : (if t204 = 0 then (if (t191.length : Int) = 0 then (if (wrap64 (x10_2 + 1)) = (ys176.size : Int) then (if (t197.length : Int) = 1 then (if 0 < (t197.length : Int) then (if (rdOf ByteArray.empty t197 0).toList = ys176.toList then (halberdlaw18_IncrBytes.l0 k2 a2 ys176 (wrap64 (x10_2 + 1)) t201 t202) else (some false)) else (none)) else (some false)) else (if (t197.length : Int) = 1 then (some false) else ((incr_Decoder_Held.f t201 t202).bind fun bt206 => (if bt206.1 = (wrap64 (x10_2 + 1)) then (halberdlaw18_IncrBytes.l0 k2 a2 ys176 (wrap64 (x10_2 + 1)) bt206.2.1 bt206.2.2) else (some false))))) else (some false)) else (some false)) = some r := H
                        have A25 := Aside0.mk A250
                        clear A250
                        by_cases c26 : t204 = 0
                        · rw [if_pos c26] at H
                          have c26b0 : (t204 == 0) = true := beq_iff_eq.mpr c26
                          have c26b1 : (t204 != 0) = false := bne_eq_false_iff_eq.mpr c26
                          clear c26
                          by_cases c27 : (t191.length : Int) = 0
                          · rw [if_pos c27] at H
                            have c27b0 : ((t191.length : Int) == 0) = true := beq_iff_eq.mpr c27
                            have c27b1 : ((t191.length : Int) != 0) = false := bne_eq_false_iff_eq.mpr c27
                            clear c27
                            by_cases c28 : (wrap64 (x10_2 + 1)) = (ys176.size : Int)
                            · rw [if_pos c28] at H
                              have c28b0 : ((wrap64 (x10_2 + 1)) == (ys176.size : Int)) = true := beq_iff_eq.mpr c28
                              have c28b1 : ((wrap64 (x10_2 + 1)) != (ys176.size : Int)) = false := bne_eq_false_iff_eq.mpr c28
                              clear c28
                              by_cases c29 : (t197.length : Int) = 1
                              · rw [if_pos c29] at H
                                have c29b0 : ((t197.length : Int) == 1) = true := beq_iff_eq.mpr c29
                                have c29b1 : ((t197.length : Int) != 1) = false := bne_eq_false_iff_eq.mpr c29
                                clear c29
                                by_cases c30 : 0 < (t197.length : Int)
                                · rw [if_pos c30] at H
                                  have c30b0 : decide (0 < (t197.length : Int)) = true := decide_eq_true c30
                                  have c30b1 : decide (0 < t197.length) = true := decide_eq_true (by omega)
                                  clear c30
                                  by_cases c31 : (rdOf ByteArray.empty t197 0).toList = ys176.toList
                                  · rw [if_pos c31] at H
                                    have c31b0 : ((rdOf ByteArray.empty t197 0).toList == ys176.toList) = true := beq_iff_eq.mpr c31
                                    have c31b1 : ((rdOf ByteArray.empty t197 0).toList != ys176.toList) = false := bne_eq_false_iff_eq.mpr c31
                                    clear c31
                                    have H' := Aside0.mk H
                                    clear H
                                    go_wp2_with (first | ((with_reducible refine gate_callee (f := 25) rfl ?_); refine goesL_ (some 48) rfl rfl Try.func25 (by kernel_rfl) rfl #[.pointer (some ⟨g179, 0, none⟩), .string (⟨#[]⟩ : ByteArray)] rfl (by (try simp only [List.map_toArray, List.map_cons, List.map_nil]); first | done | rfl | (simp only [List.length_drop, List.length_take]; rfl)) ?_; (with_reducible refine (incr_Decoder_Feed.calls k2 g179 x180000_2 x180001_2 (⟨#[]⟩ : ByteArray) t191 t194 t195 t196 w _ ?side1 ?side2 A18.out).mono ?_); (case side1 => repeat (first | (with_reducible first | exact HI179.out | apply IsS63.alloc | apply IsS63.drewN | apply IsS63.drew | apply IsS63.set_0 | apply IsS63.set_1) | exact HI179.out)); (case side2 => repeat (first | (with_reducible first | exact HB.out | apply below_alloc | apply pw_below_drewN | apply below_drew1 | refine below_set ?_ (IsS63.ge HI179.out)) | exact HB.out)); rintro e w32 ⟨v192, rfl, ho0, hi, hb, hk⟩; refine ⟨_, rfl, ?_⟩; have n0_ := Aside0.mk (Kd.R_lower ho0 (below_size (by repeat (first | (with_reducible first | exact HB.out | apply below_alloc | apply pw_below_drewN | apply below_drew1 | refine below_set ?_ (IsS63.ge HI179.out)) | exact HB.out)))); have n1_ := Aside0.mk (hb); have n2_ := Aside0.mk (hi); clear HB; clear HI179; have HO193 := n0_; have HB := n1_; have HI179 := n2_; clear n0_ n1_ n2_; (try clear hb); (try clear hb2); (try clear hk); (try clear hi); (try clear ho0)) | ((with_reducible refine gate_callee (f := 25) rfl ?_); refine goesL_ (some 58) rfl rfl Try.func25 (by kernel_rfl) rfl #[.pointer (some ⟨g179, 0, none⟩), .string (ys176.extract (x10_2 : Int).toNat ((wrap64 (x10_2 + 1)) : Int).toNat)] rfl (by (try simp only [List.map_toArray, List.map_cons, List.map_nil]); first | done | rfl | (simp only [List.length_drop, List.length_take]; rfl)) ?_; (with_reducible refine (incr_Decoder_Feed.calls k2 g179 t195 t196 (ys176.extract (x10_2 : Int).toNat ((wrap64 (x10_2 + 1)) : Int).toNat) t197 t200 t201 t202 w _ ?side1 ?side2 A22.out).mono ?_); (case side1 => repeat (first | (with_reducible first | exact HI179.out | apply IsS63.alloc | apply IsS63.drewN | apply IsS63.drew | apply IsS63.set_0 | apply IsS63.set_1) | exact HI179.out)); (case side2 => repeat (first | (with_reducible first | exact HB.out | apply below_alloc | apply pw_below_drewN | apply below_drew1 | refine below_set ?_ (IsS63.ge HI179.out)) | exact HB.out)); rintro e w33 ⟨v198, rfl, ho0, hi, hb, hk⟩; refine ⟨_, rfl, ?_⟩; have n0_ := Aside0.mk (Kd.R_mono (Kd.R_told (Kd.R_oldK (IsS63.apart (show IsS63 w _ g179 t195 t196 from by repeat (first | (with_reducible first | exact HI179.out | apply IsS63.alloc | apply IsS63.drewN | apply IsS63.drew | apply IsS63.set_0 | apply IsS63.set_1) | exact HI179.out)) (by (with_reducible repeat (first | apply Kd.R_alloc | apply Kd.R_drewN | apply Kd.R_drew)); exact HO193.out) (by decide)) hk) (Kd.R_base ho0)) (fun _ h_ => h_.1)); have n1_ := Aside0.mk (Kd.R_lower (Kd.R_new' ho0 (Kd.R_lt (by (with_reducible repeat (first | apply Kd.R_alloc | apply Kd.R_drewN | apply Kd.R_drew)); exact HO193.out))) (below_size (by repeat (first | (with_reducible first | exact HB.out | apply below_alloc | apply pw_below_drewN | apply below_drew1 | refine below_set ?_ (IsS63.ge HI179.out)) | exact HB.out)))); have n2_ := Aside0.mk (hb); have n3_ := Aside0.mk (hi); clear HO193; clear HB; clear HI179; have HO193 := n0_; have HO199 := n1_; have HB := n2_; have HI179 := n3_; clear n0_ n1_ n2_ n3_; (try clear hb); (try clear hb2); (try clear hk); (try clear hi); (try clear ho0)) | ((with_reducible refine gate_callee (f := 28) rfl ?_); refine goesL_ (some 67) rfl rfl Try.func28 (by kernel_rfl) rfl #[.int .i64 t194] rfl (by (try simp only [List.map_toArray, List.map_cons, List.map_nil]); first | done | rfl | (simp only [List.length_drop, List.length_take]; rfl)) ?_; (with_reducible refine (halberdlaw0_Num.calls t194 t203 _ A23.out).mono ?_); rintro e w' ⟨rfl, ⟨nd, rfl⟩⟩; refine ⟨_, rfl, ?_⟩) | (go_at_call 28; (with_reducible refine (halberdlaw0_Num.calls t200 t204 _ A25.out).mono ?_); rintro e w' ⟨rfl, ⟨nd, rfl⟩⟩; obtain ⟨Ao34, co34, eo34⟩ := Kd.R_slice HO193.out; subst eo34; obtain ⟨Ao35, co35, eo35⟩ := Kd.R_slice HO199.out; subst eo35; have p205 : 0 ≤ (0 : Int) := (by omega); have q205 : 0 < (t197.length : Int) := of_decide_eq_true (by first | (with_reducible assumption) | assumption); obtain ⟨ad205, e205, hx205_0⟩ := Kd.at_string (Kd.R_reads' HO199.out).2.2 0 p205 q205; cases e205; have qi205 : (0 < t197.length) = True := eq_true (by omega); (try rw [show ((0 : Int)).toNat = 0 from rfl] at hx205_0); (try rw [Addr.add_zero'] at hx205_0); replace p205 := eq_true p205; replace q205 := eq_true q205))
                                    go_roundg k2
                                    case measure => have := HJ5.out; have := HK2.out; omega
                                    case rel => exact ⟨(wrap64 (x10_2 + 1)), (t201), (t202), (by first | rfl | (simp; done) | (simp [*]; done)), H', ⟨by have := HJ5.out; have := HK2.out; omega⟩, ⟨by repeat (first | (with_reducible first | exact HI179.out | apply IsS63.alloc | apply IsS63.drewN | apply IsS63.drew | apply IsS63.set_0 | apply IsS63.set_1) | exact HI179.out)⟩, ⟨by repeat (first | (with_reducible first | exact HB.out | apply below_alloc | apply pw_below_drewN | apply below_drew1 | refine below_set ?_ (IsS63.ge HI179.out)) | exact HB.out)⟩⟩
                                  · rw [if_neg c31] at H
                                    have c31b0 : ((rdOf ByteArray.empty t197 0).toList == ys176.toList) = false := beq_eq_false_iff_ne.mpr c31
                                    have c31b1 : ((rdOf ByteArray.empty t197 0).toList != ys176.toList) = true := bne_iff_ne.mpr c31
                                    exact absurd ((Option.some.inj H).trans hr.out) (by decide)
                                · rw [if_neg c30] at H
                                  exact absurd H (by simp)
                              · rw [if_neg c29] at H
                                have c29b0 : ((t197.length : Int) == 1) = false := beq_eq_false_iff_ne.mpr c29
                                have c29b1 : ((t197.length : Int) != 1) = true := bne_iff_ne.mpr c29
                                exact absurd ((Option.some.inj H).trans hr.out) (by decide)
                            · rw [if_neg c28] at H
                              have c28b0 : ((wrap64 (x10_2 + 1)) == (ys176.size : Int)) = false := beq_eq_false_iff_ne.mpr c28
                              have c28b1 : ((wrap64 (x10_2 + 1)) != (ys176.size : Int)) = true := bne_iff_ne.mpr c28
                              by_cases c36 : (t197.length : Int) = 1
                              · rw [if_pos c36] at H
                                have c36b0 : ((t197.length : Int) == 1) = true := beq_iff_eq.mpr c36
                                have c36b1 : ((t197.length : Int) != 1) = false := bne_eq_false_iff_eq.mpr c36
                                clear c36
                                exact absurd ((Option.some.inj H).trans hr.out) (by decide)
                              · rw [if_neg c36] at H
                                have c36b0 : ((t197.length : Int) == 1) = false := beq_eq_false_iff_ne.mpr c36
                                have c36b1 : ((t197.length : Int) != 1) = true := bne_iff_ne.mpr c36
                                replace H := Option.bind_eq_some_iff.mp H
                                obtain ⟨⟨t206, t207, t208⟩, A370, H⟩ := H
                                replace H : (if t206 = (wrap64 (x10_2 + 1)) then (halberdlaw18_IncrBytes.l0 k2 a2 ys176 (wrap64 (x10_2 + 1)) t207 t208) else (some false)) = some r := H
                                have A37 := Aside0.mk A370
                                clear A370
                                by_cases c38 : t206 = (wrap64 (x10_2 + 1))
                                · rw [if_pos c38] at H
                                  have c38b0 : (t206 == (wrap64 (x10_2 + 1))) = true := beq_iff_eq.mpr c38
                                  have c38b1 : (t206 != (wrap64 (x10_2 + 1))) = false := bne_eq_false_iff_eq.mpr c38
                                  clear c38
                                  have H' := Aside0.mk H
                                  clear H
                                  go_wp2_with (first | ((with_reducible refine gate_callee (f := 25) rfl ?_); refine goesL_ (some 48) rfl rfl Try.func25 (by kernel_rfl) rfl #[.pointer (some ⟨g179, 0, none⟩), .string (⟨#[]⟩ : ByteArray)] rfl (by (try simp only [List.map_toArray, List.map_cons, List.map_nil]); first | done | rfl | (simp only [List.length_drop, List.length_take]; rfl)) ?_; (with_reducible refine (incr_Decoder_Feed.calls k2 g179 x180000_2 x180001_2 (⟨#[]⟩ : ByteArray) t191 t194 t195 t196 w _ ?side1 ?side2 A18.out).mono ?_); (case side1 => repeat (first | (with_reducible first | exact HI179.out | apply IsS63.alloc | apply IsS63.drewN | apply IsS63.drew | apply IsS63.set_0 | apply IsS63.set_1) | exact HI179.out)); (case side2 => repeat (first | (with_reducible first | exact HB.out | apply below_alloc | apply pw_below_drewN | apply below_drew1 | refine below_set ?_ (IsS63.ge HI179.out)) | exact HB.out)); rintro e w39 ⟨v192, rfl, ho0, hi, hb, hk⟩; refine ⟨_, rfl, ?_⟩; have n0_ := Aside0.mk (Kd.R_lower ho0 (below_size (by repeat (first | (with_reducible first | exact HB.out | apply below_alloc | apply pw_below_drewN | apply below_drew1 | refine below_set ?_ (IsS63.ge HI179.out)) | exact HB.out)))); have n1_ := Aside0.mk (hb); have n2_ := Aside0.mk (hi); clear HB; clear HI179; have HO193 := n0_; have HB := n1_; have HI179 := n2_; clear n0_ n1_ n2_; (try clear hb); (try clear hb2); (try clear hk); (try clear hi); (try clear ho0)) | ((with_reducible refine gate_callee (f := 25) rfl ?_); refine goesL_ (some 58) rfl rfl Try.func25 (by kernel_rfl) rfl #[.pointer (some ⟨g179, 0, none⟩), .string (ys176.extract (x10_2 : Int).toNat ((wrap64 (x10_2 + 1)) : Int).toNat)] rfl (by (try simp only [List.map_toArray, List.map_cons, List.map_nil]); first | done | rfl | (simp only [List.length_drop, List.length_take]; rfl)) ?_; (with_reducible refine (incr_Decoder_Feed.calls k2 g179 t195 t196 (ys176.extract (x10_2 : Int).toNat ((wrap64 (x10_2 + 1)) : Int).toNat) t197 t200 t201 t202 w _ ?side1 ?side2 A22.out).mono ?_); (case side1 => repeat (first | (with_reducible first | exact HI179.out | apply IsS63.alloc | apply IsS63.drewN | apply IsS63.drew | apply IsS63.set_0 | apply IsS63.set_1) | exact HI179.out)); (case side2 => repeat (first | (with_reducible first | exact HB.out | apply below_alloc | apply pw_below_drewN | apply below_drew1 | refine below_set ?_ (IsS63.ge HI179.out)) | exact HB.out)); rintro e w40 ⟨v198, rfl, ho0, hi, hb, hk⟩; refine ⟨_, rfl, ?_⟩; have n0_ := Aside0.mk (Kd.R_mono (Kd.R_told (Kd.R_oldK (IsS63.apart (show IsS63 w _ g179 t195 t196 from by repeat (first | (with_reducible first | exact HI179.out | apply IsS63.alloc | apply IsS63.drewN | apply IsS63.drew | apply IsS63.set_0 | apply IsS63.set_1) | exact HI179.out)) (by (with_reducible repeat (first | apply Kd.R_alloc | apply Kd.R_drewN | apply Kd.R_drew)); exact HO193.out) (by decide)) hk) (Kd.R_base ho0)) (fun _ h_ => h_.1)); have n1_ := Aside0.mk (Kd.R_lower (Kd.R_new' ho0 (Kd.R_lt (by (with_reducible repeat (first | apply Kd.R_alloc | apply Kd.R_drewN | apply Kd.R_drew)); exact HO193.out))) (below_size (by repeat (first | (with_reducible first | exact HB.out | apply below_alloc | apply pw_below_drewN | apply below_drew1 | refine below_set ?_ (IsS63.ge HI179.out)) | exact HB.out)))); have n2_ := Aside0.mk (hb); have n3_ := Aside0.mk (hi); clear HO193; clear HB; clear HI179; have HO193 := n0_; have HO199 := n1_; have HB := n2_; have HI179 := n3_; clear n0_ n1_ n2_ n3_; (try clear hb); (try clear hb2); (try clear hk); (try clear hi); (try clear ho0)) | ((with_reducible refine gate_callee (f := 28) rfl ?_); refine goesL_ (some 67) rfl rfl Try.func28 (by kernel_rfl) rfl #[.int .i64 t194] rfl (by (try simp only [List.map_toArray, List.map_cons, List.map_nil]); first | done | rfl | (simp only [List.length_drop, List.length_take]; rfl)) ?_; (with_reducible refine (halberdlaw0_Num.calls t194 t203 _ A23.out).mono ?_); rintro e w' ⟨rfl, ⟨nd, rfl⟩⟩; refine ⟨_, rfl, ?_⟩) | (go_at_call 28; (with_reducible refine (halberdlaw0_Num.calls t200 t204 _ A25.out).mono ?_); rintro e w' ⟨rfl, ⟨nd, rfl⟩⟩; obtain ⟨Ao41, co41, eo41⟩ := Kd.R_slice HO193.out; subst eo41; obtain ⟨Ao42, co42, eo42⟩ := Kd.R_slice HO199.out; subst eo42) | (go_at_call 29; (with_reducible refine (incr_Decoder_Held.calls g179 t201 t202 t206 t207 t208 w _ ?side1 ?side2 A37.out).mono ?_); (case side1 => repeat (first | (with_reducible first | exact HI179.out | apply IsS63.alloc | apply IsS63.drewN | apply IsS63.drew | apply IsS63.set_0 | apply IsS63.set_1) | exact HI179.out)); (case side2 => repeat (first | (with_reducible first | exact HB.out | apply below_alloc | apply pw_below_drewN | apply below_drew1 | refine below_set ?_ (IsS63.ge HI179.out)) | exact HB.out)); rintro e w43 ⟨rfl, hi, hb, hk⟩; have n0_ := Aside0.mk (Kd.R_mono (Kd.R_keep (IsS63.apart (show IsS63 w _ g179 t201 t202 from by repeat (first | (with_reducible first | exact HI179.out | apply IsS63.alloc | apply IsS63.drewN | apply IsS63.drew | apply IsS63.set_0 | apply IsS63.set_1) | exact HI179.out)) (by (with_reducible repeat (first | apply Kd.R_alloc | apply Kd.R_drewN | apply Kd.R_drew)); exact HO193.out) (by decide)) hk (fun _ h => h.2)) (fun _ h => h.1)); have n1_ := Aside0.mk (Kd.R_mono (Kd.R_keep (IsS63.apart (show IsS63 w _ g179 t201 t202 from by repeat (first | (with_reducible first | exact HI179.out | apply IsS63.alloc | apply IsS63.drewN | apply IsS63.drew | apply IsS63.set_0 | apply IsS63.set_1) | exact HI179.out)) (by (with_reducible repeat (first | apply Kd.R_alloc | apply Kd.R_drewN | apply Kd.R_drew)); exact HO199.out) (by decide)) hk (fun _ h => h.2)) (fun _ h => h.1)); have n2_ := Aside0.mk (hb); have n3_ := Aside0.mk (hi); clear HO193; clear HO199; clear HB; clear HI179; have HO193 := n0_; have HO199 := n1_; have HB := n2_; have HI179 := n3_; clear n0_ n1_ n2_ n3_; (try clear hb); (try clear hb2); (try clear hk); (try clear hi)))
                                  go_roundg k2
                                  case measure => have := HJ5.out; have := HK2.out; omega
                                  case rel => exact ⟨(wrap64 (x10_2 + 1)), (t207), (t208), (by first | rfl | (simp; done) | (simp [*]; done)), H', ⟨by have := HJ5.out; have := HK2.out; omega⟩, ⟨by repeat (first | (with_reducible first | exact HI179.out | apply IsS63.alloc | apply IsS63.drewN | apply IsS63.drew | apply IsS63.set_0 | apply IsS63.set_1) | exact HI179.out)⟩, ⟨by repeat (first | (with_reducible first | exact HB.out | apply below_alloc | apply pw_below_drewN | apply below_drew1 | refine below_set ?_ (IsS63.ge HI179.out)) | exact HB.out)⟩⟩
                                · rw [if_neg c38] at H
                                  have c38b0 : (t206 == (wrap64 (x10_2 + 1))) = false := beq_eq_false_iff_ne.mpr c38
                                  have c38b1 : (t206 != (wrap64 (x10_2 + 1))) = true := bne_iff_ne.mpr c38
                                  exact absurd ((Option.some.inj H).trans hr.out) (by decide)
                          · rw [if_neg c27] at H
                            have c27b0 : ((t191.length : Int) == 0) = false := beq_eq_false_iff_ne.mpr c27
                            have c27b1 : ((t191.length : Int) != 0) = true := bne_iff_ne.mpr c27
                            have c27b2 : ¬ (t191 = []) := fun h_ => c27 (by rw [h_]; rfl)
                            exact absurd ((Option.some.inj H).trans hr.out) (by decide)
                        · rw [if_neg c26] at H
                          have c26b0 : (t204 == 0) = false := beq_eq_false_iff_ne.mpr c26
                          have c26b1 : (t204 != 0) = true := bne_iff_ne.mpr c26
                          exact absurd ((Option.some.inj H).trans hr.out) (by decide)
                      · rw [if_neg c24] at H
                        have c24b0 : (t203 == 0) = false := beq_eq_false_iff_ne.mpr c24
                        have c24b1 : (t203 != 0) = true := bne_iff_ne.mpr c24
                        exact absurd ((Option.some.inj H).trans hr.out) (by decide)
                    · rw [if_neg c21] at H
                      exact absurd H (by simp)
                  · rw [if_neg c20] at H
                    exact absurd H (by simp)
                · rw [if_neg c19] at H
                  exact absurd H (by simp)
              · rw [if_neg c17] at H
                have c17b0 : decide (x10_2 < (ys176.size : Int)) = false := decide_eq_false c17
                clear c17
                obtain ⟨ji44, hji44⟩ : ∃ j_ : Int, (mn (a2.size : Int) 2) = j_ := ⟨_, rfl⟩
                replace H : (if 0 ≤ (ji44) then (if (ji44) ≤ (a2.size : Int) then (if 1 + (a2.extract 0 ((ji44) : Int).toNat).size ≤ 9223372036854775807 then ((incr_Decoder_Feed.f k2 x180000_2 x180001_2 ((⟨#[0]⟩ : ByteArray) ++ (a2.extract 0 ((ji44) : Int).toNat))).bind fun bt181 => (if (bt181.1.length : Int) = 0 then ((halberdlaw0_Num.f bt181.2.1).bind fun t187 => (if t187 = 0 then ((incr_Decoder_Held.f bt181.2.2.1 bt181.2.2.2).bind fun bt188 => (some (bt188.1 == (1 + (ji44))))) else (some false))) else (some false))) else (none)) else (none)) else (none)) = some r := by first | (rw [hji44] at H; exact H) | (simp only [hji44] at H ⊢; exact H)
                have hji44_ : (if 2 < (a2.size : Int) then 2 else (a2.size : Int)) = ji44 := hji44
                by_cases c45 : 0 ≤ (ji44)
                · rw [if_pos c45] at H
                  have c45b0 := eq_true c45
                  have c45b1 : decide (0 ≤ (ji44)) = true := decide_eq_true c45
                  clear c45
                  by_cases c46 : (ji44) ≤ (a2.size : Int)
                  · rw [if_pos c46] at H
                    have c46b0 := eq_true c46
                    have c46b1 : decide ((ji44) ≤ (a2.size : Int)) = true := decide_eq_true c46
                    clear c46
                    by_cases c47 : 1 + (a2.extract 0 ((ji44) : Int).toNat).size ≤ 9223372036854775807
                    · rw [if_pos c47] at H
                      have c47b0 := eq_true c47
                      have c47b1 : decide (1 + (a2.extract 0 ((ji44) : Int).toNat).size ≤ 9223372036854775807) = true := decide_eq_true c47
                      try have c47b2 : (9223372036854775807 < 1 + (a2.extract 0 ((ji44) : Int).toNat).size) = False := eq_false (Nat.not_lt.2 c47)
                      obtain ⟨ys180, hys180⟩ : ∃ y_ : ByteArray, y_ = ((⟨#[0]⟩ : ByteArray) ++ (a2.extract 0 ((ji44) : Int).toNat)) := ⟨_, rfl⟩
                      replace H : ((incr_Decoder_Feed.f k2 x180000_2 x180001_2 ys180).bind fun bt181 => (if (bt181.1.length : Int) = 0 then ((halberdlaw0_Num.f bt181.2.1).bind fun t187 => (if t187 = 0 then ((incr_Decoder_Held.f bt181.2.2.1 bt181.2.2.2).bind fun bt188 => (some (bt188.1 == (1 + (ji44))))) else (some false))) else (some false))) = some r := by first | (rw [hys180]; with_reducible exact H) | (have H2_ := (Option.bind_some _ _).symm.trans H; rw [hys180]; with_reducible exact H2_) | (have H2_ := (Option.bind_some _ _).symm.trans H; with_reducible exact H2_) | with_reducible exact H | (rw [hys180]; exact H) | exact H
                      have Nys180 := Aside0.mk hys180
                      clear hys180
                      have Sys180 := Nys180.out.symm
                      replace H := Option.bind_eq_some_iff.mp H
                      obtain ⟨⟨t181, t184, t185, t186⟩, A480, H⟩ := H
                      replace H : (if (t181.length : Int) = 0 then ((halberdlaw0_Num.f t184).bind fun t187 => (if t187 = 0 then ((incr_Decoder_Held.f t185 t186).bind fun bt188 => (some (bt188.1 == (1 + (ji44))))) else (some false))) else (some false)) = some r := H
                      have A48 := Aside0.mk A480
                      clear A480
                      by_cases c49 : (t181.length : Int) = 0
                      · rw [if_pos c49] at H
                        have c49b0 : ((t181.length : Int) == 0) = true := beq_iff_eq.mpr c49
                        have c49b1 : ((t181.length : Int) != 0) = false := bne_eq_false_iff_eq.mpr c49
                        clear c49
                        replace H := Option.bind_eq_some_iff.mp H
                        obtain ⟨t187, A500, H⟩ := H
                        replace H : (if t187 = 0 then ((incr_Decoder_Held.f t185 t186).bind fun bt188 => (some (bt188.1 == (1 + (ji44))))) else (some false)) = some r := H
                        have A50 := Aside0.mk A500
                        clear A500
                        by_cases c51 : t187 = 0
                        · rw [if_pos c51] at H
                          have c51b0 : (t187 == 0) = true := beq_iff_eq.mpr c51
                          have c51b1 : (t187 != 0) = false := bne_eq_false_iff_eq.mpr c51
                          clear c51
                          replace H := Option.bind_eq_some_iff.mp H
                          obtain ⟨⟨t188, t189, t190⟩, A520, H⟩ := H
                          replace H : (some (t188 == (1 + (ji44)))) = some r := H
                          have A52 := Aside0.mk A520
                          clear A520
                          obtain rfl := Option.some.inj H
                          go_wp2_with (first | ((with_reducible refine gate_callee (f := 25) rfl ?_); refine goesL_ (some 115) rfl rfl Try.func25 (by kernel_rfl) rfl #[.pointer (some ⟨g179, 0, none⟩), .string ys180] rfl (by (try simp only [List.map_toArray, List.map_cons, List.map_nil]); first | done | rfl | (simp only [List.length_drop, List.length_take]; rfl)) ?_; (with_reducible refine (incr_Decoder_Feed.calls k2 g179 x180000_2 x180001_2 ys180 t181 t184 t185 t186 w _ ?side1 ?side2 A48.out).mono ?_); (case side1 => repeat (first | (with_reducible first | exact HI179.out | apply IsS63.alloc | apply IsS63.drewN | apply IsS63.drew | apply IsS63.set_0 | apply IsS63.set_1) | exact HI179.out)); (case side2 => repeat (first | (with_reducible first | exact HB.out | apply below_alloc | apply pw_below_drewN | apply below_drew1 | refine below_set ?_ (IsS63.ge HI179.out)) | exact HB.out)); rintro e w53 ⟨v182, rfl, ho0, hi, hb, hk⟩; refine ⟨_, rfl, ?_⟩; have n0_ := Aside0.mk (Kd.R_lower ho0 (below_size (by repeat (first | (with_reducible first | exact HB.out | apply below_alloc | apply pw_below_drewN | apply below_drew1 | refine below_set ?_ (IsS63.ge HI179.out)) | exact HB.out)))); have n1_ := Aside0.mk (hb); have n2_ := Aside0.mk (hi); clear HB; clear HI179; have HO183 := n0_; have HB := n1_; have HI179 := n2_; clear n0_ n1_ n2_; (try clear hb); (try clear hb2); (try clear hk); (try clear hi); (try clear ho0); obtain ⟨Ao54, co54, eo54⟩ := Kd.R_slice HO183.out; subst eo54) | (go_at_call 28; (with_reducible refine (halberdlaw0_Num.calls t184 t187 _ A50.out).mono ?_); rintro e w' ⟨rfl, ⟨nd, rfl⟩⟩) | (go_at_call 29; (with_reducible refine (incr_Decoder_Held.calls g179 t185 t186 t188 t189 t190 w _ ?side1 ?side2 A52.out).mono ?_); (case side1 => repeat (first | (with_reducible first | exact HI179.out | apply IsS63.alloc | apply IsS63.drewN | apply IsS63.drew | apply IsS63.set_0 | apply IsS63.set_1) | exact HI179.out)); (case side2 => repeat (first | (with_reducible first | exact HB.out | apply below_alloc | apply pw_below_drewN | apply below_drew1 | refine below_set ?_ (IsS63.ge HI179.out)) | exact HB.out)); rintro e w55 ⟨rfl, hi, hb, hk⟩; have n0_ := Aside0.mk (Kd.R_mono (Kd.R_keep (IsS63.apart (show IsS63 w _ g179 t185 t186 from by repeat (first | (with_reducible first | exact HI179.out | apply IsS63.alloc | apply IsS63.drewN | apply IsS63.drew | apply IsS63.set_0 | apply IsS63.set_1) | exact HI179.out)) (by (with_reducible repeat (first | apply Kd.R_alloc | apply Kd.R_drewN | apply Kd.R_drew)); exact HO183.out) (by decide)) hk (fun _ h => h.2)) (fun _ h => h.1)); have n1_ := Aside0.mk (hb); have n2_ := Aside0.mk (hi); clear HO183; clear HB; clear HI179; have HO183 := n0_; have HB := n1_; have HI179 := n2_; clear n0_ n1_ n2_; (try clear hb); (try clear hb2); (try clear hk); (try clear hi)))
                          go_ret
                          exact ⟨by first | rfl | (simp [errW_none, errW_some] <;> rfl) | (simp only [← hji44]; first | rfl | (simp [errW_none, errW_some] <;> rfl)) | (simp [*, errW_none, errW_some] <;> rfl), by repeat (first | (with_reducible first | exact HB.out | apply below_alloc | apply pw_below_drewN | apply below_drew1 | refine below_set ?_ (IsS63.ge HI179.out)) | exact HB.out)⟩
                        · rw [if_neg c51] at H
                          have c51b0 : (t187 == 0) = false := beq_eq_false_iff_ne.mpr c51
                          have c51b1 : (t187 != 0) = true := bne_iff_ne.mpr c51
                          exact absurd ((Option.some.inj H).trans hr.out) (by decide)
                      · rw [if_neg c49] at H
                        have c49b0 : ((t181.length : Int) == 0) = false := beq_eq_false_iff_ne.mpr c49
                        have c49b1 : ((t181.length : Int) != 0) = true := bne_iff_ne.mpr c49
                        have c49b2 : ¬ (t181 = []) := fun h_ => c49 (by rw [h_]; rfl)
                        exact absurd ((Option.some.inj H).trans hr.out) (by decide)
                    · rw [if_neg c47] at H
                      exact absurd H (by simp)
                  · rw [if_neg c46] at H
                    exact absurd H (by simp)
                · rw [if_neg c45] at H
                  exact absurd H (by simp)
        · rw [if_neg c11] at H
          exact absurd H (by simp)
  · replace c5 := Bool.eq_false_iff.mpr c5
    subst c5
    have H1 : (some false) = some r := by rw [if_neg (show ¬ (false = true) by decide)] at H; exact H
    clear H
    have H := H1
    clear H1
    exact absurd ((Option.some.inj H).trans hr.out) (by decide)

/-- THE ONE PURE STATEMENT of halberdlaw18_IncrBytes: yours. -/
def halberdlaw18_IncrBytes.Pure : Prop := ∀ (a0 : Int) (a1 : ByteArray) (a2 : ByteArray), (Lit.int .i64 a0).wf = true → a1.size ≤ 140737488351232 → a2.size ≤ 140737488351232 → ∃ k, halberdlaw18_IncrBytes.f k a0 a1 a2 = some true
theorem halberdlaw18_IncrBytes.walk (P : halberdlaw18_IncrBytes.Pure) (a0 : Int) (a1 : ByteArray) (a2 : ByteArray) (w : World) (w0 : (Lit.int .i64 a0).wf = true) (w1 : a1.size ≤ 140737488351232) (w2 : a2.size ≤ 140737488351232) :
    Calls Try.prog 6 #[.int .i64 a0, .string a1, .string a2] w fun e w' => e = .returned (.bool true) ∧ Below w.heap.size w w' := by
  obtain ⟨k, h⟩ := P a0 a1 a2 w0 w1 w2
  refine (halberdlaw18_IncrBytes.calls k a0 a1 a2 true w h ⟨rfl⟩).mono ?_
  rintro e w' ⟨rfl, hd⟩
  exact ⟨rfl, hd⟩

end Go.Proofs.Ytggnmnpmhknjgaa.Y
