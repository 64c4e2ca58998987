-- Written by a program of this session (wip/tools/xprint.py), over the kit's printer.
import Derived.Test.YtlkebjkpmiehcaaEx0
import Derived.Test.YtlkebjkpmiehcaaEx3
import Derived.Test.YtlkebjkpmiehcaaEx4
import Derived.Test.YtlkebjkpmiehcaaEx5
import Derived.Test.YtlkebjkpmiehcaaEx7
import Derived.Test.YtlkebjkpmiehcaaEx9
import Derived.Test.YtlkebjkpmiehcaaEx11
import Derived.Test.YtlkebjkpmiehcaaEx12
namespace Go.Proofs.Ytlkebjkpmiehcaa.E
open Go.RowKit Go.Proofs.YtlkebjkpmiehcaaW.PrintWords Go.Proofs.YtlkebjkpmiehcaaW.PrintLast Go.Proofs.YtlkebjkpmiehcaaW.PrintMore
attribute [local go_sem] max2_int min2_int max_two min_two max_three min_three max_four min_four   -- for this text's walks alone
set_option linter.unusedVariables false
set_option linter.unusedSimpArgs false

/-! ### halberdlaw16_Exts: function 3 -/
def halberdlaw16_Exts.j0 : Nat → ByteArray → List (S41) → List (S41) → Bool → Option (Bool)
  | 0, _, _, _, _ => none
  | k + 1, x0, x5, x7, x64 => if x64 = true then (some false) else ((halberdlaw0_SpoilExts.f k x5).bind fun t368 => ((ext_Get.f k x0).bind fun bt369 => ((halberdlaw0_SameExts.f k bt369.1 x7).bind fun t373 => (if t373 = true then ((halberdlaw16_awake.f).bind fun t374 => (some t374)) else (some false)))))
def halberdlaw16_Exts.f (k : Nat) (a0 : ByteArray) (l1 : List (S41)) : Option (Bool) := (ext_Get.f k a0).bind fun bt349 => ((halberdref16_Exts.f k a0).bind fun bt353 => ((halberdlaw0_LendExts.f l1).bind fun t357 => ((ext_Put.f k t357).bind fun bt360 => ((halberdref16_PutExts.f k l1).bind fun bt362 => ((halberdlaw0_SameExts.f k bt349.1 bt353.1).bind fun t364 => (if t364 = true then ((halberdlaw0_Num.f bt349.2).bind fun t365 => (if t365 = bt353.2 then (if bt360.1.toList = bt362.1.toList then ((halberdlaw0_Num.f bt360.2).bind fun t366 => (if t366 = bt362.2 then ((halberdlaw0_KeptExts.f k t357 l1).bind fun t367 => (halberdlaw16_Exts.j0 k a0 bt349.1 bt353.1 (!t367))) else (halberdlaw16_Exts.j0 k a0 bt349.1 bt353.1 true))) else (halberdlaw16_Exts.j0 k a0 bt349.1 bt353.1 true)) else (halberdlaw16_Exts.j0 k a0 bt349.1 bt353.1 true))) else (halberdlaw16_Exts.j0 k a0 bt349.1 bt353.1 true)))))))
theorem halberdlaw16_Exts.mono_l : ∀ k, (∀ y0 y1 y2 y3, LeO (halberdlaw16_Exts.j0 k y0 y1 y2 y3) (halberdlaw16_Exts.j0 (k + 1) y0 y1 y2 y3))
  | 0 => fun _ _ _ _ r h => by simp [halberdlaw16_Exts.j0] at h
  | k + 1 => by
    have ih0 := halberdlaw16_Exts.mono_l k
    · intro y0 y1 y2 y3
      unfold halberdlaw16_Exts.j0
      repeat' first
      | (with_reducible exact ih0 _ _ _ _)
      | (with_reducible exact ext_Get.mono _ _)
      | (with_reducible exact ext_Put.mono _ _)
      | (with_reducible exact halberdlaw0_KeptExts.mono _ _ _)
      | (with_reducible exact halberdlaw0_SameExts.mono _ _ _)
      | (with_reducible exact halberdlaw0_SpoilExts.mono _ _)
      | (with_reducible exact halberdref16_Exts.mono _ _)
      | (with_reducible exact halberdref16_PutExts.mono _ _)
      | (with_reducible exact LeO.refl _)
      | (with_reducible exact LeO.none _)
      | (with_reducible refine LeO.ite ?_ ?_)
      | (with_reducible refine LeO.bind ?_ (fun _ => ?_))
      | exact ih0 _ _ _ _
      | exact ext_Get.mono _ _
      | exact ext_Put.mono _ _
      | exact halberdlaw0_KeptExts.mono _ _ _
      | exact halberdlaw0_SameExts.mono _ _ _
      | exact halberdlaw0_SpoilExts.mono _ _
      | exact halberdref16_Exts.mono _ _
      | exact halberdref16_PutExts.mono _ _
      | exact LeO.none _
      | refine LeO.ite ?_ ?_
      | refine LeO.bind ?_ (fun _ => ?_)
theorem halberdlaw16_Exts.mono : ∀ a0 a1 k, LeO (halberdlaw16_Exts.f k a0 a1) (halberdlaw16_Exts.f (k + 1) a0 a1) := by
  intro a0 a1 k
  have ih0 := halberdlaw16_Exts.mono_l k
  unfold halberdlaw16_Exts.f
  repeat' first
      | (with_reducible exact ih0 _ _ _ _)
      | (with_reducible exact ext_Get.mono _ _)
      | (with_reducible exact ext_Put.mono _ _)
      | (with_reducible exact halberdlaw0_KeptExts.mono _ _ _)
      | (with_reducible exact halberdlaw0_SameExts.mono _ _ _)
      | (with_reducible exact halberdlaw0_SpoilExts.mono _ _)
      | (with_reducible exact halberdref16_Exts.mono _ _)
      | (with_reducible exact halberdref16_PutExts.mono _ _)
      | (with_reducible exact LeO.refl _)
      | (with_reducible exact LeO.none _)
      | (with_reducible refine LeO.ite ?_ ?_)
      | (with_reducible refine LeO.bind ?_ (fun _ => ?_))
      | exact ih0 _ _ _ _
      | exact ext_Get.mono _ _
      | exact ext_Put.mono _ _
      | exact halberdlaw0_KeptExts.mono _ _ _
      | exact halberdlaw0_SameExts.mono _ _ _
      | exact halberdlaw0_SpoilExts.mono _ _
      | exact halberdref16_Exts.mono _ _
      | exact halberdref16_PutExts.mono _ _
      | exact LeO.none _
      | refine LeO.ite ?_ ?_
      | refine LeO.bind ?_ (fun _ => ?_)
set_option maxHeartbeats 8000000 in
set_option maxRecDepth 100000 in
theorem halberdlaw16_Exts.calls (k : Nat) (a0 : ByteArray) (A1 : Option Addr) (c1 : Nat) (l1 : List (S41)) (r : Bool) (w : World) (hr1 : Kd.C k41 w A1 l1.length l1) (hc1 : l1.length ≤ c1) (h : halberdlaw16_Exts.f k a0 l1 = some r) (hr : Aside0 (r = true)) :
    Calls Try.prog 3 #[.string a0, .slice A1 l1.length c1] w fun e w' => e = .returned (.bool r) ∧ Below w.heap.size w w' := by
  have HR1 := Aside0.mk hr1
  have HC1 := Aside0.mk hc1
  clear hr1 hc1
  have HB := Aside0.mk (Below.refl w.heap.size w)
  have H : ((ext_Get.f k a0).bind fun bt349 => ((halberdref16_Exts.f k a0).bind fun bt353 => ((halberdlaw0_LendExts.f l1).bind fun t357 => ((ext_Put.f k t357).bind fun bt360 => ((halberdref16_PutExts.f k l1).bind fun bt362 => ((halberdlaw0_SameExts.f k bt349.1 bt353.1).bind fun t364 => (if t364 = true then ((halberdlaw0_Num.f bt349.2).bind fun t365 => (if t365 = bt353.2 then (if bt360.1.toList = bt362.1.toList then ((halberdlaw0_Num.f bt360.2).bind fun t366 => (if t366 = bt362.2 then ((halberdlaw0_KeptExts.f k t357 l1).bind fun t367 => (halberdlaw16_Exts.j0 k a0 bt349.1 bt353.1 (!t367))) else (halberdlaw16_Exts.j0 k a0 bt349.1 bt353.1 true))) else (halberdlaw16_Exts.j0 k a0 bt349.1 bt353.1 true)) else (halberdlaw16_Exts.j0 k a0 bt349.1 bt353.1 true))) else (halberdlaw16_Exts.j0 k a0 bt349.1 bt353.1 true)))))))) = some r := h
  clear h
  replace H := Option.bind_eq_some_iff.mp H
  obtain ⟨⟨t349, t350⟩, A30, H⟩ := H
  replace H : ((halberdref16_Exts.f k a0).bind fun bt353 => ((halberdlaw0_LendExts.f l1).bind fun t357 => ((ext_Put.f k t357).bind fun bt360 => ((halberdref16_PutExts.f k l1).bind fun bt362 => ((halberdlaw0_SameExts.f k t349 bt353.1).bind fun t364 => (if t364 = true then ((halberdlaw0_Num.f t350).bind fun t365 => (if t365 = bt353.2 then (if bt360.1.toList = bt362.1.toList then ((halberdlaw0_Num.f bt360.2).bind fun t366 => (if t366 = bt362.2 then ((halberdlaw0_KeptExts.f k t357 l1).bind fun t367 => (halberdlaw16_Exts.j0 k a0 t349 bt353.1 (!t367))) else (halberdlaw16_Exts.j0 k a0 t349 bt353.1 true))) else (halberdlaw16_Exts.j0 k a0 t349 bt353.1 true)) else (halberdlaw16_Exts.j0 k a0 t349 bt353.1 true))) else (halberdlaw16_Exts.j0 k a0 t349 bt353.1 true))))))) = some r := H
  have A3 := Aside0.mk A30
  clear A30
  replace H := Option.bind_eq_some_iff.mp H
  obtain ⟨⟨t353, t354⟩, A40, H⟩ := H
  replace H : ((halberdlaw0_LendExts.f l1).bind fun t357 => ((ext_Put.f k t357).bind fun bt360 => ((halberdref16_PutExts.f k l1).bind fun bt362 => ((halberdlaw0_SameExts.f k t349 t353).bind fun t364 => (if t364 = true then ((halberdlaw0_Num.f t350).bind fun t365 => (if t365 = t354 then (if bt360.1.toList = bt362.1.toList then ((halberdlaw0_Num.f bt360.2).bind fun t366 => (if t366 = bt362.2 then ((halberdlaw0_KeptExts.f k t357 l1).bind fun t367 => (halberdlaw16_Exts.j0 k a0 t349 t353 (!t367))) else (halberdlaw16_Exts.j0 k a0 t349 t353 true))) else (halberdlaw16_Exts.j0 k a0 t349 t353 true)) else (halberdlaw16_Exts.j0 k a0 t349 t353 true))) else (halberdlaw16_Exts.j0 k a0 t349 t353 true)))))) = some r := H
  have A4 := Aside0.mk A40
  clear A40
  replace H := Option.bind_eq_some_iff.mp H
  obtain ⟨t357, A50, H⟩ := H
  replace H : ((ext_Put.f k t357).bind fun bt360 => ((halberdref16_PutExts.f k l1).bind fun bt362 => ((halberdlaw0_SameExts.f k t349 t353).bind fun t364 => (if t364 = true then ((halberdlaw0_Num.f t350).bind fun t365 => (if t365 = t354 then (if bt360.1.toList = bt362.1.toList then ((halberdlaw0_Num.f bt360.2).bind fun t366 => (if t366 = bt362.2 then ((halberdlaw0_KeptExts.f k t357 l1).bind fun t367 => (halberdlaw16_Exts.j0 k a0 t349 t353 (!t367))) else (halberdlaw16_Exts.j0 k a0 t349 t353 true))) else (halberdlaw16_Exts.j0 k a0 t349 t353 true)) else (halberdlaw16_Exts.j0 k a0 t349 t353 true))) else (halberdlaw16_Exts.j0 k a0 t349 t353 true))))) = some r := H
  have A5 := Aside0.mk A50
  clear A50
  replace H := Option.bind_eq_some_iff.mp H
  obtain ⟨⟨t360, t361⟩, A60, H⟩ := H
  replace H : ((halberdref16_PutExts.f k l1).bind fun bt362 => ((halberdlaw0_SameExts.f k t349 t353).bind fun t364 => (if t364 = true then ((halberdlaw0_Num.f t350).bind fun t365 => (if t365 = t354 then (if t360.toList = bt362.1.toList then ((halberdlaw0_Num.f t361).bind fun t366 => (if t366 = bt362.2 then ((halberdlaw0_KeptExts.f k t357 l1).bind fun t367 => (halberdlaw16_Exts.j0 k a0 t349 t353 (!t367))) else (halberdlaw16_Exts.j0 k a0 t349 t353 true))) else (halberdlaw16_Exts.j0 k a0 t349 t353 true)) else (halberdlaw16_Exts.j0 k a0 t349 t353 true))) else (halberdlaw16_Exts.j0 k a0 t349 t353 true)))) = some r := H
  have A6 := Aside0.mk A60
  clear A60
  replace H := Option.bind_eq_some_iff.mp H
  obtain ⟨⟨t362, t363⟩, A70, H⟩ := H
  replace H : ((halberdlaw0_SameExts.f k t349 t353).bind fun t364 => (if t364 = true then ((halberdlaw0_Num.f t350).bind fun t365 => (if t365 = t354 then (if t360.toList = t362.toList then ((halberdlaw0_Num.f t361).bind fun t366 => (if t366 = t363 then ((halberdlaw0_KeptExts.f k t357 l1).bind fun t367 => (halberdlaw16_Exts.j0 k a0 t349 t353 (!t367))) else (halberdlaw16_Exts.j0 k a0 t349 t353 true))) else (halberdlaw16_Exts.j0 k a0 t349 t353 true)) else (halberdlaw16_Exts.j0 k a0 t349 t353 true))) else (halberdlaw16_Exts.j0 k a0 t349 t353 true))) = some r := H
  have A7 := Aside0.mk A70
  clear A70
  have HC8 := Aside0.mk H
  clear H
  go_enter Try.func3, Try.ntmps3
  go_upto_region 6 with (first | ((with_reducible refine gate_callee (f := 12) rfl ?_); refine goesL_ (some 18) rfl rfl Try.func12 (by kernel_rfl) rfl #[.string a0] rfl (by (try simp only [List.map_toArray, List.map_cons, List.map_nil]); first | done | rfl | (simp only [List.length_drop, List.length_take]; rfl)) ?_; (with_reducible refine (ext_Get.calls k a0 t349 t350 _ A3.out).mono ?_); rintro e w9 ⟨v351, rfl, ho0, hb⟩; refine ⟨_, rfl, ?_⟩; have n0_ := Aside0.mk (Kd.R_lower ho0 (below_size (by repeat (first | (with_reducible first | exact HB.out | apply below_alloc | apply pw_below_drewN | apply below_drew1) | exact HB.out)))); have n1_ := Aside0.mk (below_step (by repeat (first | (with_reducible first | exact HB.out | apply below_alloc | apply pw_below_drewN | apply below_drew1) | exact HB.out)) hb); clear HB; have HO352 := n0_; have HB := n1_; clear n0_ n1_; (try clear hb); (try clear hb2); (try clear hk); (try clear hi); (try clear ho0)) | ((with_reducible refine gate_callee (f := 13) rfl ?_); refine goesL_ (some 23) rfl rfl Try.func13 (by kernel_rfl) rfl #[.string a0] rfl (by (try simp only [List.map_toArray, List.map_cons, List.map_nil]); first | done | rfl | (simp only [List.length_drop, List.length_take]; rfl)) ?_; (with_reducible refine (halberdref16_Exts.calls k a0 t353 t354 _ A4.out).mono ?_); rintro e w10 ⟨v355, rfl, ho0, hb⟩; refine ⟨_, rfl, ?_⟩; have n0_ := Aside0.mk (Kd.R_elder' (by (with_reducible repeat (first | apply Kd.R_alloc | apply Kd.R_drewN | apply Kd.R_drew)); exact HO352.out) (Kd.R_base ho0) hb); have n1_ := Aside0.mk (Kd.R_lower (Kd.R_new' ho0 (Kd.R_lt (by (with_reducible repeat (first | apply Kd.R_alloc | apply Kd.R_drewN | apply Kd.R_drew)); exact HO352.out))) (below_size (by repeat (first | (with_reducible first | exact HB.out | apply below_alloc | apply pw_below_drewN | apply below_drew1) | exact HB.out)))); have n2_ := Aside0.mk (below_step (by repeat (first | (with_reducible first | exact HB.out | apply below_alloc | apply pw_below_drewN | apply below_drew1) | exact HB.out)) hb); clear HO352; clear HB; have HO352 := n0_; have HO356 := n1_; have HB := n2_; clear n0_ n1_ n2_; (try clear hb); (try clear hb2); (try clear hk); (try clear hi); (try clear ho0)) | ((with_reducible refine gate_callee (f := 14) rfl ?_); refine goesL_ (some 27) rfl rfl Try.func14 (by kernel_rfl) rfl #[.slice A1 l1.length c1] rfl (by (try simp only [List.map_toArray, List.map_cons, List.map_nil]); first | done | rfl | (simp only [List.length_drop, List.length_take]; rfl)) ?_; (with_reducible refine (halberdlaw0_LendExts.calls _ _ l1 t357 _ ?side1 ?side2 A5.out).mono ?_); (case side1 => repeat (first | exact (Kd.C_below HR1.out HB.out) | (with_reducible refine Kd.C_alloc ?_ _) | (with_reducible refine Kd.C_drewN ?_ _) | (with_reducible refine Kd.C_drew ?_))); (case side2 => exact HC1.out); rintro e w11 ⟨v358, rfl, ho0, hb⟩; refine ⟨_, rfl, ?_⟩; have n0_ := Aside0.mk (Kd.R_elder' (by (with_reducible repeat (first | apply Kd.R_alloc | apply Kd.R_drewN | apply Kd.R_drew)); exact HO352.out) (Kd.R_base ho0) hb); have n1_ := Aside0.mk (Kd.R_elder' (by (with_reducible repeat (first | apply Kd.R_alloc | apply Kd.R_drewN | apply Kd.R_drew)); exact HO356.out) (Kd.R_base ho0) hb); have n2_ := Aside0.mk (Kd.R_lower (Kd.R_new' (Kd.R_new' ho0 (Kd.R_lt (by (with_reducible repeat (first | apply Kd.R_alloc | apply Kd.R_drewN | apply Kd.R_drew)); exact HO352.out))) (Kd.R_lt (by (with_reducible repeat (first | apply Kd.R_alloc | apply Kd.R_drewN | apply Kd.R_drew)); exact HO356.out))) (below_size (by repeat (first | (with_reducible first | exact HB.out | apply below_alloc | apply pw_below_drewN | apply below_drew1) | exact HB.out)))); have n3_ := Aside0.mk (below_step (by repeat (first | (with_reducible first | exact HB.out | apply below_alloc | apply pw_below_drewN | apply below_drew1) | exact HB.out)) hb); clear HO352; clear HO356; clear HB; have HO352 := n0_; have HO356 := n1_; have HO359 := n2_; have HB := n3_; clear n0_ n1_ n2_ n3_; (try clear hb); (try clear hb2); (try clear hk); (try clear hi); (try clear ho0); obtain ⟨Ao12, co12, eo12⟩ := Kd.R_slice HO359.out; subst eo12) | ((with_reducible refine gate_callee (f := 15) rfl ?_); refine goesL_ (some 30) rfl rfl Try.func15 (by kernel_rfl) rfl #[.slice Ao12 t357.length co12] rfl (by (try simp only [List.map_toArray, List.map_cons, List.map_nil]); first | done | rfl | (simp only [List.length_drop, List.length_take]; rfl)) ?_; (with_reducible refine (ext_Put.calls k _ _ t357 t360 t361 _ ?side1 ?side2 A6.out).mono ?_); (case side1 => repeat (first | exact (Kd.R_reads' HO359.out).2.2 | (with_reducible refine Kd.C_alloc ?_ _) | (with_reducible refine Kd.C_drewN ?_ _) | (with_reducible refine Kd.C_drew ?_))); (case side2 => exact (Kd.R_reads' HO359.out).2.1); rintro e w13 ⟨rfl, hb⟩; refine ⟨_, rfl, ?_⟩; have n0_ := Aside0.mk (Kd.R_below (by (with_reducible repeat (first | apply Kd.R_alloc | apply Kd.R_drewN | apply Kd.R_drew)); exact HO352.out) hb); have n1_ := Aside0.mk (Kd.R_below (by (with_reducible repeat (first | apply Kd.R_alloc | apply Kd.R_drewN | apply Kd.R_drew)); exact HO356.out) hb); have n2_ := Aside0.mk (Kd.R_below (by (with_reducible repeat (first | apply Kd.R_alloc | apply Kd.R_drewN | apply Kd.R_drew)); exact HO359.out) hb); have n3_ := Aside0.mk (below_step (by repeat (first | (with_reducible first | exact HB.out | apply below_alloc | apply pw_below_drewN | apply below_drew1) | exact HB.out)) hb); clear HO352; clear HO356; clear HO359; clear HB; have HO352 := n0_; have HO356 := n1_; have HO359 := n2_; have HB := n3_; clear n0_ n1_ n2_ n3_; (try clear hb); (try clear hb2); (try clear hk); (try clear hi)) | ((with_reducible refine gate_callee (f := 16) rfl ?_); refine goesL_ (some 35) rfl rfl Try.func16 (by kernel_rfl) rfl #[.slice A1 l1.length c1] rfl (by (try simp only [List.map_toArray, List.map_cons, List.map_nil]); first | done | rfl | (simp only [List.length_drop, List.length_take]; rfl)) ?_; (with_reducible refine (halberdref16_PutExts.calls k _ _ l1 t362 t363 _ ?side1 ?side2 A7.out).mono ?_); (case side1 => repeat (first | exact (Kd.C_below HR1.out HB.out) | (with_reducible refine Kd.C_alloc ?_ _) | (with_reducible refine Kd.C_drewN ?_ _) | (with_reducible refine Kd.C_drew ?_))); (case side2 => exact HC1.out); rintro e w14 ⟨rfl, hb⟩; refine ⟨_, rfl, ?_⟩; have n0_ := Aside0.mk (Kd.R_below (by (with_reducible repeat (first | apply Kd.R_alloc | apply Kd.R_drewN | apply Kd.R_drew)); exact HO352.out) hb); have n1_ := Aside0.mk (Kd.R_below (by (with_reducible repeat (first | apply Kd.R_alloc | apply Kd.R_drewN | apply Kd.R_drew)); exact HO356.out) hb); have n2_ := Aside0.mk (Kd.R_below (by (with_reducible repeat (first | apply Kd.R_alloc | apply Kd.R_drewN | apply Kd.R_drew)); exact HO359.out) hb); have n3_ := Aside0.mk (below_step (by repeat (first | (with_reducible first | exact HB.out | apply below_alloc | apply pw_below_drewN | apply below_drew1) | exact HB.out)) hb); clear HO352; clear HO356; clear HO359; clear HB; have HO352 := n0_; have HO356 := n1_; have HO359 := n2_; have HB := n3_; clear n0_ n1_ n2_ n3_; (try clear hb); (try clear hb2); (try clear hk); (try clear hi)))
  (try simp only [Act.put, List.setIfInBounds_toArray, List.set_cons_zero, List.set_cons_succ])
  go_cut [64] (fun v64 wc => ∃ (kq : Nat) (x64_7 : Bool), v64 = .bool x64_7 ∧ Aside0 (halberdlaw16_Exts.j0 kq a0 t349 t353 x64_7 = some r) ∧ Aside0 (kq ≤ k) ∧ Aside0 (Kd.R k41 41 wc w.heap.size (fun k_ => some k_ ≠ (v355 : Value).ownBlock) v351 t349) ∧ Aside0 (Kd.R k41 41 wc w.heap.size (fun k_ => some k_ ≠ (v351 : Value).ownBlock) v355 t353) ∧ Aside0 (Below w.heap.size w wc))
  case first =>
    have H := HC8.out
    clear HC8
    replace H := Option.bind_eq_some_iff.mp H
    obtain ⟨t364, A150, H⟩ := H
    replace H : (if t364 = true then ((halberdlaw0_Num.f t350).bind fun t365 => (if t365 = t354 then (if t360.toList = t362.toList then ((halberdlaw0_Num.f t361).bind fun t366 => (if t366 = t363 then ((halberdlaw0_KeptExts.f k t357 l1).bind fun t367 => (halberdlaw16_Exts.j0 k a0 t349 t353 (!t367))) else (halberdlaw16_Exts.j0 k a0 t349 t353 true))) else (halberdlaw16_Exts.j0 k a0 t349 t353 true)) else (halberdlaw16_Exts.j0 k a0 t349 t353 true))) else (halberdlaw16_Exts.j0 k a0 t349 t353 true)) = some r := H
    have A15 := Aside0.mk A150
    clear A150
    by_cases c16 : t364 = true
    · subst c16
      have H1 : ((halberdlaw0_Num.f t350).bind fun t365 => (if t365 = t354 then (if t360.toList = t362.toList then ((halberdlaw0_Num.f t361).bind fun t366 => (if t366 = t363 then ((halberdlaw0_KeptExts.f k t357 l1).bind fun t367 => (halberdlaw16_Exts.j0 k a0 t349 t353 (!t367))) else (halberdlaw16_Exts.j0 k a0 t349 t353 true))) else (halberdlaw16_Exts.j0 k a0 t349 t353 true)) else (halberdlaw16_Exts.j0 k a0 t349 t353 true))) = some r := by rw [if_pos rfl] at H; exact H
      clear H
      have H := H1
      clear H1
      replace H := Option.bind_eq_some_iff.mp H
      obtain ⟨t365, A170, H⟩ := H
      replace H : (if t365 = t354 then (if t360.toList = t362.toList then ((halberdlaw0_Num.f t361).bind fun t366 => (if t366 = t363 then ((halberdlaw0_KeptExts.f k t357 l1).bind fun t367 => (halberdlaw16_Exts.j0 k a0 t349 t353 (!t367))) else (halberdlaw16_Exts.j0 k a0 t349 t353 true))) else (halberdlaw16_Exts.j0 k a0 t349 t353 true)) else (halberdlaw16_Exts.j0 k a0 t349 t353 true)) = some r := H
      have A17 := Aside0.mk A170
      clear A170
      by_cases c18 : t365 = t354
      · rw [if_pos c18] at H
        have c18b0 : (t365 == t354) = true := beq_iff_eq.mpr c18
        have c18b1 : (t365 != t354) = false := bne_eq_false_iff_eq.mpr c18
        clear c18
        (first | rw [c18b0] | (simp only [i64_w, i32_w]; rw [c18b0]) | skip)
        by_cases c19 : t360.toList = t362.toList
        · rw [if_pos c19] at H
          have c19b0 : (t360.toList == t362.toList) = true := beq_iff_eq.mpr c19
          have c19b1 : (t360.toList != t362.toList) = false := bne_eq_false_iff_eq.mpr c19
          clear c19
          replace H := Option.bind_eq_some_iff.mp H
          obtain ⟨t366, A200, H⟩ := H
          replace H : (if t366 = t363 then ((halberdlaw0_KeptExts.f k t357 l1).bind fun t367 => (halberdlaw16_Exts.j0 k a0 t349 t353 (!t367))) else (halberdlaw16_Exts.j0 k a0 t349 t353 true)) = some r := H
          have A20 := Aside0.mk A200
          clear A200
          by_cases c21 : t366 = t363
          · rw [if_pos c21] at H
            have c21b0 : (t366 == t363) = true := beq_iff_eq.mpr c21
            have c21b1 : (t366 != t363) = false := bne_eq_false_iff_eq.mpr c21
            clear c21
            replace H := Option.bind_eq_some_iff.mp H
            obtain ⟨t367, A220, H⟩ := H
            replace H : (halberdlaw16_Exts.j0 k a0 t349 t353 (!t367)) = some r := H
            have A22 := Aside0.mk A220
            clear A220
            have H' := Aside0.mk H
            clear H
            obtain ⟨Ao23, co23, eo23⟩ := Kd.R_slice HO352.out
            subst eo23
            obtain ⟨Ao24, co24, eo24⟩ := Kd.R_slice HO356.out
            subst eo24
            go_wp2_with (first | ((with_reducible refine gate_callee (f := 17) rfl ?_); refine goesL_ (some 40) rfl rfl Try.func17 (by kernel_rfl) rfl #[.slice Ao23 t349.length co23, .slice Ao24 t353.length co24] rfl (by (try simp only [List.map_toArray, List.map_cons, List.map_nil]); first | done | rfl | (simp only [List.length_drop, List.length_take]; rfl)) ?_; (with_reducible refine (halberdlaw0_SameExts.calls k _ _ t349 _ _ t353 true _ ?side1 ?side2 ?side3 ?side4 A15.out).mono ?_); (case side1 => repeat (first | exact (Kd.R_reads' HO352.out).2.2 | (with_reducible refine Kd.C_alloc ?_ _) | (with_reducible refine Kd.C_drewN ?_ _) | (with_reducible refine Kd.C_drew ?_))); (case side2 => exact (Kd.R_reads' HO352.out).2.1); (case side3 => repeat (first | exact (Kd.R_reads' HO356.out).2.2 | (with_reducible refine Kd.C_alloc ?_ _) | (with_reducible refine Kd.C_drewN ?_ _) | (with_reducible refine Kd.C_drew ?_))); (case side4 => exact (Kd.R_reads' HO356.out).2.1); rintro e w' ⟨rfl, ⟨nd, rfl⟩⟩; refine ⟨_, rfl, ?_⟩) | (go_at_call 18; (with_reducible refine (halberdlaw0_Num.calls t350 t365 _ A17.out).mono ?_); rintro e w' ⟨rfl, ⟨nd, rfl⟩⟩) | (go_at_call 18; (with_reducible refine (halberdlaw0_Num.calls t361 t366 _ A20.out).mono ?_); rintro e w' ⟨rfl, ⟨nd, rfl⟩⟩) | (go_at_call 19; (with_reducible refine (halberdlaw0_KeptExts.calls k _ _ t357 _ _ l1 t367 _ ?side1 ?side2 ?side3 ?side4 A22.out).mono ?_); (case side1 => repeat (first | exact (Kd.R_reads' HO359.out).2.2 | (with_reducible refine Kd.C_alloc ?_ _) | (with_reducible refine Kd.C_drewN ?_ _) | (with_reducible refine Kd.C_drew ?_))); (case side2 => exact (Kd.R_reads' HO359.out).2.1); (case side3 => repeat (first | exact (Kd.C_below HR1.out (by repeat (first | (with_reducible first | exact HB.out | apply below_alloc | apply pw_below_drewN | apply below_drew1) | exact HB.out))) | (with_reducible refine Kd.C_alloc ?_ _) | (with_reducible refine Kd.C_drewN ?_ _) | (with_reducible refine Kd.C_drew ?_))); (case side4 => exact HC1.out); rintro e w' ⟨rfl, ⟨nd, rfl⟩⟩))
            go_meet
            case rel => exact ⟨_, (!t367), (by first | rfl | (simp; done) | (simp [*]; done)), H', ⟨by first | omega | exact Nat.le_refl _⟩, ⟨by (with_reducible repeat (first | apply Kd.R_alloc | apply Kd.R_drewN | apply Kd.R_drew)); exact Kd.R_mono HO352.out (fun _ hk => hk.1.2)⟩, ⟨by (with_reducible repeat (first | apply Kd.R_alloc | apply Kd.R_drewN | apply Kd.R_drew)); exact Kd.R_mono HO356.out (fun _ hk => hk.1.2)⟩, ⟨by repeat (first | (with_reducible first | exact HB.out | apply below_alloc | apply pw_below_drewN | apply below_drew1) | exact HB.out)⟩⟩
          · rw [if_neg c21] at H
            have c21b0 : (t366 == t363) = false := beq_eq_false_iff_ne.mpr c21
            have c21b1 : (t366 != t363) = true := bne_iff_ne.mpr c21
            have H' := Aside0.mk H
            clear H
            obtain ⟨Ao25, co25, eo25⟩ := Kd.R_slice HO352.out
            subst eo25
            obtain ⟨Ao26, co26, eo26⟩ := Kd.R_slice HO356.out
            subst eo26
            go_wp2_with (first | ((with_reducible refine gate_callee (f := 17) rfl ?_); refine goesL_ (some 40) rfl rfl Try.func17 (by kernel_rfl) rfl #[.slice Ao25 t349.length co25, .slice Ao26 t353.length co26] rfl (by (try simp only [List.map_toArray, List.map_cons, List.map_nil]); first | done | rfl | (simp only [List.length_drop, List.length_take]; rfl)) ?_; (with_reducible refine (halberdlaw0_SameExts.calls k _ _ t349 _ _ t353 true _ ?side1 ?side2 ?side3 ?side4 A15.out).mono ?_); (case side1 => repeat (first | exact (Kd.R_reads' HO352.out).2.2 | (with_reducible refine Kd.C_alloc ?_ _) | (with_reducible refine Kd.C_drewN ?_ _) | (with_reducible refine Kd.C_drew ?_))); (case side2 => exact (Kd.R_reads' HO352.out).2.1); (case side3 => repeat (first | exact (Kd.R_reads' HO356.out).2.2 | (with_reducible refine Kd.C_alloc ?_ _) | (with_reducible refine Kd.C_drewN ?_ _) | (with_reducible refine Kd.C_drew ?_))); (case side4 => exact (Kd.R_reads' HO356.out).2.1); rintro e w' ⟨rfl, ⟨nd, rfl⟩⟩; refine ⟨_, rfl, ?_⟩) | (go_at_call 18; (with_reducible refine (halberdlaw0_Num.calls t350 t365 _ A17.out).mono ?_); rintro e w' ⟨rfl, ⟨nd, rfl⟩⟩) | (go_at_call 18; (with_reducible refine (halberdlaw0_Num.calls t361 t366 _ A20.out).mono ?_); rintro e w' ⟨rfl, ⟨nd, rfl⟩⟩))
            go_meet
            case rel => exact ⟨_, (true), (by first | rfl | (simp; done) | (simp [*]; done)), H', ⟨by first | omega | exact Nat.le_refl _⟩, ⟨by (with_reducible repeat (first | apply Kd.R_alloc | apply Kd.R_drewN | apply Kd.R_drew)); exact Kd.R_mono HO352.out (fun _ hk => hk.1.2)⟩, ⟨by (with_reducible repeat (first | apply Kd.R_alloc | apply Kd.R_drewN | apply Kd.R_drew)); exact Kd.R_mono HO356.out (fun _ hk => hk.1.2)⟩, ⟨by repeat (first | (with_reducible first | exact HB.out | apply below_alloc | apply pw_below_drewN | apply below_drew1) | exact HB.out)⟩⟩
        · rw [if_neg c19] at H
          have c19b0 : (t360.toList == t362.toList) = false := beq_eq_false_iff_ne.mpr c19
          have c19b1 : (t360.toList != t362.toList) = true := bne_iff_ne.mpr c19
          have H' := Aside0.mk H
          clear H
          obtain ⟨Ao27, co27, eo27⟩ := Kd.R_slice HO352.out
          subst eo27
          obtain ⟨Ao28, co28, eo28⟩ := Kd.R_slice HO356.out
          subst eo28
          go_wp2_with (first | ((with_reducible refine gate_callee (f := 17) rfl ?_); refine goesL_ (some 40) rfl rfl Try.func17 (by kernel_rfl) rfl #[.slice Ao27 t349.length co27, .slice Ao28 t353.length co28] rfl (by (try simp only [List.map_toArray, List.map_cons, List.map_nil]); first | done | rfl | (simp only [List.length_drop, List.length_take]; rfl)) ?_; (with_reducible refine (halberdlaw0_SameExts.calls k _ _ t349 _ _ t353 true _ ?side1 ?side2 ?side3 ?side4 A15.out).mono ?_); (case side1 => repeat (first | exact (Kd.R_reads' HO352.out).2.2 | (with_reducible refine Kd.C_alloc ?_ _) | (with_reducible refine Kd.C_drewN ?_ _) | (with_reducible refine Kd.C_drew ?_))); (case side2 => exact (Kd.R_reads' HO352.out).2.1); (case side3 => repeat (first | exact (Kd.R_reads' HO356.out).2.2 | (with_reducible refine Kd.C_alloc ?_ _) | (with_reducible refine Kd.C_drewN ?_ _) | (with_reducible refine Kd.C_drew ?_))); (case side4 => exact (Kd.R_reads' HO356.out).2.1); rintro e w' ⟨rfl, ⟨nd, rfl⟩⟩; refine ⟨_, rfl, ?_⟩) | (go_at_call 18; (with_reducible refine (halberdlaw0_Num.calls t350 t365 _ A17.out).mono ?_); rintro e w' ⟨rfl, ⟨nd, rfl⟩⟩))
          go_meet
          case rel => exact ⟨_, (true), (by first | rfl | (simp; done) | (simp [*]; done)), H', ⟨by first | omega | exact Nat.le_refl _⟩, ⟨by (with_reducible repeat (first | apply Kd.R_alloc | apply Kd.R_drewN | apply Kd.R_drew)); exact Kd.R_mono HO352.out (fun _ hk => hk.1.2)⟩, ⟨by (with_reducible repeat (first | apply Kd.R_alloc | apply Kd.R_drewN | apply Kd.R_drew)); exact Kd.R_mono HO356.out (fun _ hk => hk.1.2)⟩, ⟨by repeat (first | (with_reducible first | exact HB.out | apply below_alloc | apply pw_below_drewN | apply below_drew1) | exact HB.out)⟩⟩
      · rw [if_neg c18] at H
        have c18b0 : (t365 == t354) = false := beq_eq_false_iff_ne.mpr c18
        have c18b1 : (t365 != t354) = true := bne_iff_ne.mpr c18
        (first | rw [c18b0] | (simp only [i64_w, i32_w]; rw [c18b0]) | skip)
        have H' := Aside0.mk H
        clear H
        obtain ⟨Ao29, co29, eo29⟩ := Kd.R_slice HO352.out
        subst eo29
        obtain ⟨Ao30, co30, eo30⟩ := Kd.R_slice HO356.out
        subst eo30
        go_wp2_with (first | ((with_reducible refine gate_callee (f := 17) rfl ?_); refine goesL_ (some 40) rfl rfl Try.func17 (by kernel_rfl) rfl #[.slice Ao29 t349.length co29, .slice Ao30 t353.length co30] rfl (by (try simp only [List.map_toArray, List.map_cons, List.map_nil]); first | done | rfl | (simp only [List.length_drop, List.length_take]; rfl)) ?_; (with_reducible refine (halberdlaw0_SameExts.calls k _ _ t349 _ _ t353 true _ ?side1 ?side2 ?side3 ?side4 A15.out).mono ?_); (case side1 => repeat (first | exact (Kd.R_reads' HO352.out).2.2 | (with_reducible refine Kd.C_alloc ?_ _) | (with_reducible refine Kd.C_drewN ?_ _) | (with_reducible refine Kd.C_drew ?_))); (case side2 => exact (Kd.R_reads' HO352.out).2.1); (case side3 => repeat (first | exact (Kd.R_reads' HO356.out).2.2 | (with_reducible refine Kd.C_alloc ?_ _) | (with_reducible refine Kd.C_drewN ?_ _) | (with_reducible refine Kd.C_drew ?_))); (case side4 => exact (Kd.R_reads' HO356.out).2.1); rintro e w' ⟨rfl, ⟨nd, rfl⟩⟩; refine ⟨_, rfl, ?_⟩) | (go_at_call 18; (with_reducible refine (halberdlaw0_Num.calls t350 t365 _ A17.out).mono ?_); rintro e w' ⟨rfl, ⟨nd, rfl⟩⟩))
        go_meet
        case rel => exact ⟨_, (true), (by first | rfl | (simp; done) | (simp [*]; done)), H', ⟨by first | omega | exact Nat.le_refl _⟩, ⟨by (with_reducible repeat (first | apply Kd.R_alloc | apply Kd.R_drewN | apply Kd.R_drew)); exact Kd.R_mono HO352.out (fun _ hk => hk.1.2)⟩, ⟨by (with_reducible repeat (first | apply Kd.R_alloc | apply Kd.R_drewN | apply Kd.R_drew)); exact Kd.R_mono HO356.out (fun _ hk => hk.1.2)⟩, ⟨by repeat (first | (with_reducible first | exact HB.out | apply below_alloc | apply pw_below_drewN | apply below_drew1) | exact HB.out)⟩⟩
    · replace c16 := Bool.eq_false_iff.mpr c16
      subst c16
      have H1 : (halberdlaw16_Exts.j0 k a0 t349 t353 true) = some r := by rw [if_neg (show ¬ (false = true) by decide)] at H; exact H
      clear H
      have H := H1
      clear H1
      have H' := Aside0.mk H
      clear H
      obtain ⟨Ao31, co31, eo31⟩ := Kd.R_slice HO352.out
      subst eo31
      obtain ⟨Ao32, co32, eo32⟩ := Kd.R_slice HO356.out
      subst eo32
      go_wp2_with (first | ((with_reducible refine gate_callee (f := 17) rfl ?_); refine goesL_ (some 40) rfl rfl Try.func17 (by kernel_rfl) rfl #[.slice Ao31 t349.length co31, .slice Ao32 t353.length co32] rfl (by (try simp only [List.map_toArray, List.map_cons, List.map_nil]); first | done | rfl | (simp only [List.length_drop, List.length_take]; rfl)) ?_; (with_reducible refine (halberdlaw0_SameExts.calls k _ _ t349 _ _ t353 false _ ?side1 ?side2 ?side3 ?side4 A15.out).mono ?_); (case side1 => repeat (first | exact (Kd.R_reads' HO352.out).2.2 | (with_reducible refine Kd.C_alloc ?_ _) | (with_reducible refine Kd.C_drewN ?_ _) | (with_reducible refine Kd.C_drew ?_))); (case side2 => exact (Kd.R_reads' HO352.out).2.1); (case side3 => repeat (first | exact (Kd.R_reads' HO356.out).2.2 | (with_reducible refine Kd.C_alloc ?_ _) | (with_reducible refine Kd.C_drewN ?_ _) | (with_reducible refine Kd.C_drew ?_))); (case side4 => exact (Kd.R_reads' HO356.out).2.1); rintro e w' ⟨rfl, ⟨nd, rfl⟩⟩; refine ⟨_, rfl, ?_⟩))
      go_meet
      case rel => exact ⟨_, (true), (by first | rfl | (simp; done) | (simp [*]; done)), H', ⟨by first | omega | exact Nat.le_refl _⟩, ⟨by (with_reducible repeat (first | apply Kd.R_alloc | apply Kd.R_drewN | apply Kd.R_drew)); exact Kd.R_mono HO352.out (fun _ hk => hk.1.2)⟩, ⟨by (with_reducible repeat (first | apply Kd.R_alloc | apply Kd.R_drewN | apply Kd.R_drew)); exact Kd.R_mono HO356.out (fun _ hk => hk.1.2)⟩, ⟨by repeat (first | (with_reducible first | exact HB.out | apply below_alloc | apply pw_below_drewN | apply below_drew1) | exact HB.out)⟩⟩
  case rest =>
    clear HC8
    try clear c1
    try clear c2
    try clear p2
    try clear c3
    try clear c12
    try clear c13
    try clear c14
    try clear c15
    try clear c16
    try clear c17
    try clear c18
    try clear c18b0
    try clear c18b1
    try clear c19
    try clear c19b0
    try clear c19b1
    try clear c21
    try clear c21b0
    try clear c21b1
    obtain ⟨kq, x64_7, rfl, HA, HJ7, HO_5, HO_7, HB⟩ := hcut
    cases kq with
    | zero => exact absurd HA.out (by simp [halberdlaw16_Exts.j0])
    | succ kj7 =>
      have H := HA.out
      clear HA
      simp only [halberdlaw16_Exts.j0] at H
      by_cases c33 : x64_7 = true
      · subst c33
        have H1 : (some false) = some r := by rw [if_pos rfl] at H; exact H
        clear H
        have H := H1
        clear H1
        exact absurd ((Option.some.inj H).trans hr.out) (by decide)
      · replace c33 := Bool.eq_false_iff.mpr c33
        subst c33
        have H1 : ((halberdlaw0_SpoilExts.f kj7 t349).bind fun t368 => ((ext_Get.f kj7 a0).bind fun bt369 => ((halberdlaw0_SameExts.f kj7 bt369.1 t353).bind fun t373 => (if t373 = true then ((halberdlaw16_awake.f).bind fun t374 => (some t374)) else (some false))))) = some r := by rw [if_neg (show ¬ (false = true) by decide)] at H; exact H
        clear H
        have H := H1
        clear H1
        replace H := Option.bind_eq_some_iff.mp H
        obtain ⟨t368, A340, H⟩ := H
        replace H : ((ext_Get.f kj7 a0).bind fun bt369 => ((halberdlaw0_SameExts.f kj7 bt369.1 t353).bind fun t373 => (if t373 = true then ((halberdlaw16_awake.f).bind fun t374 => (some t374)) else (some false)))) = some r := H
        have A34 := Aside0.mk A340
        clear A340
        replace H := Option.bind_eq_some_iff.mp H
        obtain ⟨⟨t369, t370⟩, A350, H⟩ := H
        replace H : ((halberdlaw0_SameExts.f kj7 t369 t353).bind fun t373 => (if t373 = true then ((halberdlaw16_awake.f).bind fun t374 => (some t374)) else (some false))) = some r := H
        have A35 := Aside0.mk A350
        clear A350
        replace H := Option.bind_eq_some_iff.mp H
        obtain ⟨t373, A360, H⟩ := H
        replace H : (if t373 = true then ((halberdlaw16_awake.f).bind fun t374 => (some t374)) else (some false)) = some r := H
        have A36 := Aside0.mk A360
        clear A360
        by_cases c37 : t373 = true
        · subst c37
          have H1 : ((halberdlaw16_awake.f).bind fun t374 => (some t374)) = some r := by rw [if_pos rfl] at H; exact H
          clear H
          have H := H1
          clear H1
          replace H := Option.bind_eq_some_iff.mp H
          obtain ⟨t374, A380, H⟩ := H
          replace H : (some t374) = some r := H
          have A38 := Aside0.mk A380
          clear A380
          obtain rfl := Option.some.inj H
          obtain ⟨Ao39, co39, eo39⟩ := Kd.R_slice HO_5.out
          subst eo39
          go_wp2_with (first | ((with_reducible refine gate_callee (f := 20) rfl ?_); refine goesL_ (some 66) rfl rfl Try.func20 (by kernel_rfl) rfl #[.slice Ao39 t349.length co39] rfl (by (try simp only [List.map_toArray, List.map_cons, List.map_nil]); first | done | rfl | (simp only [List.length_drop, List.length_take]; rfl)) ?_; (with_reducible refine (halberdlaw0_SpoilExts.calls kj7 (fun k_ => some k_ = (.slice Ao39 t349.length co39 : Value).ownBlock) (.slice Ao39 t349.length co39) t349 t368 w _ ?side1 ?side2 A34.out).mono ?_); (case side1 => repeat (first | (with_reducible first | exact HB.out | apply below_alloc | apply pw_below_drewN | apply below_drew1) | exact HB.out)); (case side2 => exact Kd.R_tight rfl HO_5.out); rintro e w40 ⟨rfl, hy0, hb, hkp⟩; refine ⟨_, rfl, ?_⟩; have n0_ := Aside0.mk (Kd.R_reok rfl hy0 (fun k_ e_ => HO_5.out.1 k_ e_)); have n1_ := Aside0.mk (Kd.R_mono (ok' := fun k_ => some k_ ≠ (.slice Ao39 t349.length co39 : Value).ownBlock) (Kd.R_keptB (HO_7.out) hkp (fun k_ hk_ hs_ => (hk_) hs_)) (fun k_ hk_ => hk_.1)); have n2_ := Aside0.mk (hb); clear HO_5; clear HO_7; clear HB; have HO_5 := n0_; have HO_7 := n1_; have HB := n2_; clear n0_ n1_ n2_; (try clear hb); (try clear hkp); (try clear hy0)) | ((with_reducible refine gate_callee (f := 12) rfl ?_); refine goesL_ (some 69) rfl rfl Try.func12 (by kernel_rfl) rfl #[.string a0] rfl (by (try simp only [List.map_toArray, List.map_cons, List.map_nil]); first | done | rfl | (simp only [List.length_drop, List.length_take]; rfl)) ?_; (with_reducible refine (ext_Get.calls kj7 a0 t369 t370 _ A35.out).mono ?_); rintro e w41 ⟨v371, rfl, ho0, hb⟩; refine ⟨_, rfl, ?_⟩; have n0_ := Aside0.mk (Kd.R_elder' (by (with_reducible repeat (first | apply Kd.R_alloc | apply Kd.R_drewN | apply Kd.R_drew)); exact HO_5.out) (Kd.R_base ho0) hb); have n1_ := Aside0.mk (Kd.R_elder' (by (with_reducible repeat (first | apply Kd.R_alloc | apply Kd.R_drewN | apply Kd.R_drew)); exact HO_7.out) (Kd.R_base ho0) hb); have n2_ := Aside0.mk (Kd.R_lower (Kd.R_new' (Kd.R_new' ho0 (Kd.R_lt (by (with_reducible repeat (first | apply Kd.R_alloc | apply Kd.R_drewN | apply Kd.R_drew)); exact HO_5.out))) (Kd.R_lt (by (with_reducible repeat (first | apply Kd.R_alloc | apply Kd.R_drewN | apply Kd.R_drew)); exact HO_7.out))) (below_size (by repeat (first | (with_reducible first | exact HB.out | apply below_alloc | apply pw_below_drewN | apply below_drew1) | exact HB.out)))); have n3_ := Aside0.mk (below_step (by repeat (first | (with_reducible first | exact HB.out | apply below_alloc | apply pw_below_drewN | apply below_drew1) | exact HB.out)) hb); clear HO_5; clear HO_7; clear HB; have HO_5 := n0_; have HO_7 := n1_; have HO372 := n2_; have HB := n3_; clear n0_ n1_ n2_ n3_; (try clear hb); (try clear hb2); (try clear hk); (try clear hi); (try clear ho0); obtain ⟨Ao42, co42, eo42⟩ := Kd.R_slice HO372.out; subst eo42; obtain ⟨Ao43, co43, eo43⟩ := Kd.R_slice HO_7.out; subst eo43) | ((with_reducible refine gate_callee (f := 17) rfl ?_); refine goesL_ (some 74) rfl rfl Try.func17 (by kernel_rfl) rfl #[.slice Ao42 t369.length co42, .slice Ao43 t353.length co43] rfl (by (try simp only [List.map_toArray, List.map_cons, List.map_nil]); first | done | rfl | (simp only [List.length_drop, List.length_take]; rfl)) ?_; (with_reducible refine (halberdlaw0_SameExts.calls kj7 _ _ t369 _ _ t353 true _ ?side1 ?side2 ?side3 ?side4 A36.out).mono ?_); (case side1 => repeat (first | exact (Kd.R_reads' HO372.out).2.2 | (with_reducible refine Kd.C_alloc ?_ _) | (with_reducible refine Kd.C_drewN ?_ _) | (with_reducible refine Kd.C_drew ?_))); (case side2 => exact (Kd.R_reads' HO372.out).2.1); (case side3 => repeat (first | exact (Kd.R_reads' HO_7.out).2.2 | (with_reducible refine Kd.C_alloc ?_ _) | (with_reducible refine Kd.C_drewN ?_ _) | (with_reducible refine Kd.C_drew ?_))); (case side4 => exact (Kd.R_reads' HO_7.out).2.1); rintro e w' ⟨rfl, ⟨nd, rfl⟩⟩; refine ⟨_, rfl, ?_⟩) | (go_at_call 21; (with_reducible refine (halberdlaw16_awake.calls  t374 _ A38.out).mono ?_); rintro e w44 ⟨rfl, hb⟩; have n0_ := Aside0.mk (Kd.R_below (by (with_reducible repeat (first | apply Kd.R_alloc | apply Kd.R_drewN | apply Kd.R_drew)); exact HO_5.out) hb); have n1_ := Aside0.mk (Kd.R_below (by (with_reducible repeat (first | apply Kd.R_alloc | apply Kd.R_drewN | apply Kd.R_drew)); exact HO_7.out) hb); have n2_ := Aside0.mk (Kd.R_below (by (with_reducible repeat (first | apply Kd.R_alloc | apply Kd.R_drewN | apply Kd.R_drew)); exact HO372.out) hb); have n3_ := Aside0.mk (below_step (by repeat (first | (with_reducible first | exact HB.out | apply below_alloc | apply pw_below_drewN | apply below_drew1) | exact HB.out)) hb); clear HO_5; clear HO_7; clear HO372; clear HB; have HO_5 := n0_; have HO_7 := n1_; have HO372 := n2_; have HB := n3_; clear n0_ n1_ n2_ n3_; (try clear hb); (try clear hb2); (try clear hk); (try clear hi)))
          go_ret
          exact ⟨by first | rfl | (simp [errW_none, errW_some] <;> rfl) | (simp [*, errW_none, errW_some] <;> rfl), by repeat (first | (with_reducible first | exact HB.out | apply below_alloc | apply pw_below_drewN | apply below_drew1) | exact HB.out)⟩
        · replace c37 := Bool.eq_false_iff.mpr c37
          subst c37
          have H1 : (some false) = some r := by rw [if_neg (show ¬ (false = true) by decide)] at H; exact H
          clear H
          have H := H1
          clear H1
          exact absurd ((Option.some.inj H).trans hr.out) (by decide)

end Go.Proofs.Ytlkebjkpmiehcaa.E
