-- Written by a program of this session (wip/tools/xprint.py), over the kit's printer.
import Derived.Test.YtonemdclfgckoaaXx0
import Derived.Test.YtonemdclfgckoaaXx10
import Derived.Test.YtonemdclfgckoaaXx14
import Derived.Test.YtonemdclfgckoaaXx16
import Derived.Test.YtonemdclfgckoaaXx20
namespace Go.Proofs.Ytonemdclfgckoaa.X
open Go.RowKit Go.Proofs.YtonemdclfgckoaaW.PrintWords Go.Proofs.YtonemdclfgckoaaW.PrintLast Go.Proofs.YtonemdclfgckoaaW.PrintMore
attribute [local go_sem] max2_int min2_int max_two min_two max_three min_three max_four min_four   -- for this text's walks alone
set_option linter.unusedVariables false
set_option linter.unusedSimpArgs false

/-! ### halberdlaw13_DerDays: function 5 -/
def halberdlaw13_DerDays.j0 : Nat → Int → Int → ByteArray → ByteArray → Bool → Option (Bool)
 | 0, _, _, _, _, _ => none
 | k + 1, x5, x6, x7, x9, x55 => if x55 = true then (some false) else (if 2 ≤ (x7.size : Int) then ((der_Untime.f k (x7.extract 2 x7.size)).bind fun bt364 => (if 2 ≤ (x9.size : Int) then ((der_Untime.f k (x9.extract 2 x9.size)).bind fun bt366 => (if x6 ≥ 946684800 then ((halberdlaw0_Num.f bt364.2).bind fun t368 => (if t368 = 0 then (if bt364.1 = x5 then ((halberdlaw0_Num.f bt366.2).bind fun t369 => (if t369 = 0 then (if bt366.1 = x6 then (if x5 ≥ 946684800 then (if x5 < x6 then (if (Op.bytesLess x7.toList x9.toList) = true then (if x5 = x6 then (some (x7.toList == x9.toList)) else (some (!(x7.toList == x9.toList)))) else (some false)) else (if (Op.bytesLess x7.toList x9.toList) = true then (some false) else (if x5 = x6 then (some (x7.toList == x9.toList)) else (some (!(x7.toList == x9.toList)))))) else (if x5 = x6 then (some (x7.toList == x9.toList)) else (some (!(x7.toList == x9.toList))))) else (some false)) else (some false))) else (some false)) else (some false))) else ((halberdlaw0_Num.f bt364.2).bind fun t370 => (if t370 = 0 then (if bt364.1 = x5 then ((halberdlaw0_Num.f bt366.2).bind fun t371 => (if t371 = 0 then (if bt366.1 = x6 then (if x5 ≥ 946684800 then (if x5 = x6 then (some (x7.toList == x9.toList)) else (some (!(x7.toList == x9.toList)))) else (if x5 < x6 then (if (Op.bytesLess x7.toList x9.toList) = true then (if x5 = x6 then (some (x7.toList == x9.toList)) else (some (!(x7.toList == x9.toList)))) else (some false)) else (if (Op.bytesLess x7.toList x9.toList) = true then (some false) else (if x5 = x6 then (some (x7.toList == x9.toList)) else (some (!(x7.toList == x9.toList))))))) else (some false)) else (some false))) else (some false)) else (some false))))) else (none))) else (none))
def halberdlaw13_DerDays.f (k : Nat) (a0 : Int) (a1 : Int) : Option (Bool) := (halberdlaw13_awake.f).bind fun t357 => (if t357 = true then ((der_Time.f k (wrap64 (Int.tmod (IntKind.u64.wrap (a0)) 2524608000))).bind fun bt358 => ((der_Time.f k (mn (wrap64 ((wrap64 (Int.tmod (IntKind.u64.wrap (a0)) 2524608000)) + (Go.bits .and .i64 a1 1048575))) 2524607999)).bind fun bt360 => ((halberdlaw0_Num.f bt358.2).bind fun t362 => (if t362 = 0 then ((halberdlaw0_Num.f bt360.2).bind fun t363 => (if t363 = 0 then (if (bt358.1.size : Int) = 15 then (halberdlaw13_DerDays.j0 k (wrap64 (Int.tmod (IntKind.u64.wrap (a0)) 2524608000)) (mn (wrap64 ((wrap64 (Int.tmod (IntKind.u64.wrap (a0)) 2524608000)) + (Go.bits .and .i64 a1 1048575))) 2524607999) bt358.1 bt360.1 ((bt360.1.size : Int) != 15)) else (halberdlaw13_DerDays.j0 k (wrap64 (Int.tmod (IntKind.u64.wrap (a0)) 2524608000)) (mn (wrap64 ((wrap64 (Int.tmod (IntKind.u64.wrap (a0)) 2524608000)) + (Go.bits .and .i64 a1 1048575))) 2524607999) bt358.1 bt360.1 true)) else (halberdlaw13_DerDays.j0 k (wrap64 (Int.tmod (IntKind.u64.wrap (a0)) 2524608000)) (mn (wrap64 ((wrap64 (Int.tmod (IntKind.u64.wrap (a0)) 2524608000)) + (Go.bits .and .i64 a1 1048575))) 2524607999) bt358.1 bt360.1 true))) else (halberdlaw13_DerDays.j0 k (wrap64 (Int.tmod (IntKind.u64.wrap (a0)) 2524608000)) (mn (wrap64 ((wrap64 (Int.tmod (IntKind.u64.wrap (a0)) 2524608000)) + (Go.bits .and .i64 a1 1048575))) 2524607999) bt358.1 bt360.1 true))))) else (some false))
theorem halberdlaw13_DerDays.mono_l : ∀ k, (∀ y0 y1 y2 y3 y4, LeO (halberdlaw13_DerDays.j0 k y0 y1 y2 y3 y4) (halberdlaw13_DerDays.j0 (k + 1) y0 y1 y2 y3 y4))
 | 0 => fun _ _ _ _ _ r h => by simp [halberdlaw13_DerDays.j0] at h
 | k + 1 => by
  have ih0 := halberdlaw13_DerDays.mono_l k
  ·intro y0 y1 y2 y3 y4
   unfold halberdlaw13_DerDays.j0
   repeat' first
   | (with_reducible exact ih0 _ _ _ _ _)
   | (with_reducible exact der_Time.mono _ _)
   | (with_reducible exact der_Untime.mono _ _)
   | (with_reducible exact LeO.refl _)
   | (with_reducible exact LeO.none _)
   | (with_reducible refine LeO.ite ?_ ?_)
   | (with_reducible refine LeO.bind ?_ (fun _ => ?_))
   | exact ih0 _ _ _ _ _
   | exact der_Time.mono _ _
   | exact der_Untime.mono _ _
   | exact LeO.none _
   | refine LeO.ite ?_ ?_
   | refine LeO.bind ?_ (fun _ => ?_)
theorem halberdlaw13_DerDays.mono : ∀ a0 a1 k, LeO (halberdlaw13_DerDays.f k a0 a1) (halberdlaw13_DerDays.f (k + 1) a0 a1) := by
 intro a0 a1 k
 have ih0 := halberdlaw13_DerDays.mono_l k
 unfold halberdlaw13_DerDays.f
 repeat' first
   | (with_reducible exact ih0 _ _ _ _ _)
   | (with_reducible exact der_Time.mono _ _)
   | (with_reducible exact der_Untime.mono _ _)
   | (with_reducible exact LeO.refl _)
   | (with_reducible exact LeO.none _)
   | (with_reducible refine LeO.ite ?_ ?_)
   | (with_reducible refine LeO.bind ?_ (fun _ => ?_))
   | exact ih0 _ _ _ _ _
   | exact der_Time.mono _ _
   | exact der_Untime.mono _ _
   | exact LeO.none _
   | refine LeO.ite ?_ ?_
   | refine LeO.bind ?_ (fun _ => ?_)
set_option maxHeartbeats 8000000 in
set_option maxRecDepth 100000 in
theorem halberdlaw13_DerDays.calls (k : Nat) (a0 : Int) (a1 : Int) (r : Bool) (w : World) (h : halberdlaw13_DerDays.f k a0 a1 = some r) (hr : Aside0 (r = true)) :
  Calls Try.prog 5 #[.int .i64 a0, .int .i64 a1] w fun e w' => e = .returned (.bool r) ∧ Below w.heap.size w w' := by
 have HB := Aside0.mk (Below.refl w.heap.size w)
 have H : ((halberdlaw13_awake.f).bind fun t357 => (if t357 = true then ((der_Time.f k (wrap64 (Int.tmod (IntKind.u64.wrap (a0)) 2524608000))).bind fun bt358 => ((der_Time.f k (mn (wrap64 ((wrap64 (Int.tmod (IntKind.u64.wrap (a0)) 2524608000)) + (Go.bits .and .i64 a1 1048575))) 2524607999)).bind fun bt360 => ((halberdlaw0_Num.f bt358.2).bind fun t362 => (if t362 = 0 then ((halberdlaw0_Num.f bt360.2).bind fun t363 => (if t363 = 0 then (if (bt358.1.size : Int) = 15 then (halberdlaw13_DerDays.j0 k (wrap64 (Int.tmod (IntKind.u64.wrap (a0)) 2524608000)) (mn (wrap64 ((wrap64 (Int.tmod (IntKind.u64.wrap (a0)) 2524608000)) + (Go.bits .and .i64 a1 1048575))) 2524607999) bt358.1 bt360.1 ((bt360.1.size : Int) != 15)) else (halberdlaw13_DerDays.j0 k (wrap64 (Int.tmod (IntKind.u64.wrap (a0)) 2524608000)) (mn (wrap64 ((wrap64 (Int.tmod (IntKind.u64.wrap (a0)) 2524608000)) + (Go.bits .and .i64 a1 1048575))) 2524607999) bt358.1 bt360.1 true)) else (halberdlaw13_DerDays.j0 k (wrap64 (Int.tmod (IntKind.u64.wrap (a0)) 2524608000)) (mn (wrap64 ((wrap64 (Int.tmod (IntKind.u64.wrap (a0)) 2524608000)) + (Go.bits .and .i64 a1 1048575))) 2524607999) bt358.1 bt360.1 true))) else (halberdlaw13_DerDays.j0 k (wrap64 (Int.tmod (IntKind.u64.wrap (a0)) 2524608000)) (mn (wrap64 ((wrap64 (Int.tmod (IntKind.u64.wrap (a0)) 2524608000)) + (Go.bits .and .i64 a1 1048575))) 2524607999) bt358.1 bt360.1 true))))) else (some false))) = some r := h
 clear h
 replace H := Option.bind_eq_some_iff.mp H
 obtain ⟨t357, A30, H⟩ := H
 replace H : (if t357 = true then ((der_Time.f k (wrap64 (Int.tmod (IntKind.u64.wrap (a0)) 2524608000))).bind fun bt358 => ((der_Time.f k (mn (wrap64 ((wrap64 (Int.tmod (IntKind.u64.wrap (a0)) 2524608000)) + (Go.bits .and .i64 a1 1048575))) 2524607999)).bind fun bt360 => ((halberdlaw0_Num.f bt358.2).bind fun t362 => (if t362 = 0 then ((halberdlaw0_Num.f bt360.2).bind fun t363 => (if t363 = 0 then (if (bt358.1.size : Int) = 15 then (halberdlaw13_DerDays.j0 k (wrap64 (Int.tmod (IntKind.u64.wrap (a0)) 2524608000)) (mn (wrap64 ((wrap64 (Int.tmod (IntKind.u64.wrap (a0)) 2524608000)) + (Go.bits .and .i64 a1 1048575))) 2524607999) bt358.1 bt360.1 ((bt360.1.size : Int) != 15)) else (halberdlaw13_DerDays.j0 k (wrap64 (Int.tmod (IntKind.u64.wrap (a0)) 2524608000)) (mn (wrap64 ((wrap64 (Int.tmod (IntKind.u64.wrap (a0)) 2524608000)) + (Go.bits .and .i64 a1 1048575))) 2524607999) bt358.1 bt360.1 true)) else (halberdlaw13_DerDays.j0 k (wrap64 (Int.tmod (IntKind.u64.wrap (a0)) 2524608000)) (mn (wrap64 ((wrap64 (Int.tmod (IntKind.u64.wrap (a0)) 2524608000)) + (Go.bits .and .i64 a1 1048575))) 2524607999) bt358.1 bt360.1 true))) else (halberdlaw13_DerDays.j0 k (wrap64 (Int.tmod (IntKind.u64.wrap (a0)) 2524608000)) (mn (wrap64 ((wrap64 (Int.tmod (IntKind.u64.wrap (a0)) 2524608000)) + (Go.bits .and .i64 a1 1048575))) 2524607999) bt358.1 bt360.1 true))))) else (some false)) = some r := H
 have A3 := Aside0.mk A30
 clear A30
 by_cases c4 : t357 = true
 ·subst c4
  have H1 : ((der_Time.f k (wrap64 (Int.tmod (IntKind.u64.wrap (a0)) 2524608000))).bind fun bt358 => ((der_Time.f k (mn (wrap64 ((wrap64 (Int.tmod (IntKind.u64.wrap (a0)) 2524608000)) + (Go.bits .and .i64 a1 1048575))) 2524607999)).bind fun bt360 => ((halberdlaw0_Num.f bt358.2).bind fun t362 => (if t362 = 0 then ((halberdlaw0_Num.f bt360.2).bind fun t363 => (if t363 = 0 then (if (bt358.1.size : Int) = 15 then (halberdlaw13_DerDays.j0 k (wrap64 (Int.tmod (IntKind.u64.wrap (a0)) 2524608000)) (mn (wrap64 ((wrap64 (Int.tmod (IntKind.u64.wrap (a0)) 2524608000)) + (Go.bits .and .i64 a1 1048575))) 2524607999) bt358.1 bt360.1 ((bt360.1.size : Int) != 15)) else (halberdlaw13_DerDays.j0 k (wrap64 (Int.tmod (IntKind.u64.wrap (a0)) 2524608000)) (mn (wrap64 ((wrap64 (Int.tmod (IntKind.u64.wrap (a0)) 2524608000)) + (Go.bits .and .i64 a1 1048575))) 2524607999) bt358.1 bt360.1 true)) else (halberdlaw13_DerDays.j0 k (wrap64 (Int.tmod (IntKind.u64.wrap (a0)) 2524608000)) (mn (wrap64 ((wrap64 (Int.tmod (IntKind.u64.wrap (a0)) 2524608000)) + (Go.bits .and .i64 a1 1048575))) 2524607999) bt358.1 bt360.1 true))) else (halberdlaw13_DerDays.j0 k (wrap64 (Int.tmod (IntKind.u64.wrap (a0)) 2524608000)) (mn (wrap64 ((wrap64 (Int.tmod (IntKind.u64.wrap (a0)) 2524608000)) + (Go.bits .and .i64 a1 1048575))) 2524607999) bt358.1 bt360.1 true))))) = some r := by rw [if_pos rfl] at H; exact H
  clear H
  have H := H1
  clear H1
  obtain ⟨ji5, hji5⟩ : ∃ j_ : Int, (mn (wrap64 ((wrap64 (Int.tmod (IntKind.u64.wrap (a0)) 2524608000)) + (Go.bits .and .i64 a1 1048575))) 2524607999) = j_ := ⟨_, rfl⟩
  replace H : ((der_Time.f k (wrap64 (Int.tmod (IntKind.u64.wrap (a0)) 2524608000))).bind fun bt358 => ((der_Time.f k (ji5)).bind fun bt360 => ((halberdlaw0_Num.f bt358.2).bind fun t362 => (if t362 = 0 then ((halberdlaw0_Num.f bt360.2).bind fun t363 => (if t363 = 0 then (if (bt358.1.size : Int) = 15 then (halberdlaw13_DerDays.j0 k (wrap64 (Int.tmod (IntKind.u64.wrap (a0)) 2524608000)) ji5 bt358.1 bt360.1 ((bt360.1.size : Int) != 15)) else (halberdlaw13_DerDays.j0 k (wrap64 (Int.tmod (IntKind.u64.wrap (a0)) 2524608000)) ji5 bt358.1 bt360.1 true)) else (halberdlaw13_DerDays.j0 k (wrap64 (Int.tmod (IntKind.u64.wrap (a0)) 2524608000)) ji5 bt358.1 bt360.1 true))) else (halberdlaw13_DerDays.j0 k (wrap64 (Int.tmod (IntKind.u64.wrap (a0)) 2524608000)) ji5 bt358.1 bt360.1 true))))) = some r := by first | (rw [hji5] at H; exact H) | (simp only [hji5] at H ⊢; exact H)
  (try rw [hji5] at A3)
  (try (have hji5h : ji5 ≤ 2524607999 := by (rw [← hji5]; unfold mn; (repeat' split) <;> omega)))
  (try (have hji5g : ji5 ≤ 64 := by omega))
  have hji5_ : (if 2524607999 < (wrap64 ((wrap64 (Int.tmod (IntKind.u64.wrap (a0)) 2524608000)) + (Go.bits .and .i64 a1 1048575))) then 2524607999 else (wrap64 ((wrap64 (Int.tmod (IntKind.u64.wrap (a0)) 2524608000)) + (Go.bits .and .i64 a1 1048575)))) = ji5 := hji5
  replace H := Option.bind_eq_some_iff.mp H
  obtain ⟨⟨t358, t359⟩, A60, H⟩ := H
  replace H : ((der_Time.f k (ji5)).bind fun bt360 => ((halberdlaw0_Num.f t359).bind fun t362 => (if t362 = 0 then ((halberdlaw0_Num.f bt360.2).bind fun t363 => (if t363 = 0 then (if (t358.size : Int) = 15 then (halberdlaw13_DerDays.j0 k (wrap64 (Int.tmod (IntKind.u64.wrap (a0)) 2524608000)) ji5 t358 bt360.1 ((bt360.1.size : Int) != 15)) else (halberdlaw13_DerDays.j0 k (wrap64 (Int.tmod (IntKind.u64.wrap (a0)) 2524608000)) ji5 t358 bt360.1 true)) else (halberdlaw13_DerDays.j0 k (wrap64 (Int.tmod (IntKind.u64.wrap (a0)) 2524608000)) ji5 t358 bt360.1 true))) else (halberdlaw13_DerDays.j0 k (wrap64 (Int.tmod (IntKind.u64.wrap (a0)) 2524608000)) ji5 t358 bt360.1 true)))) = some r := H
  have A6 := Aside0.mk A60
  clear A60
  replace H := Option.bind_eq_some_iff.mp H
  obtain ⟨⟨t360, t361⟩, A70, H⟩ := H
  replace H : ((halberdlaw0_Num.f t359).bind fun t362 => (if t362 = 0 then ((halberdlaw0_Num.f t361).bind fun t363 => (if t363 = 0 then (if (t358.size : Int) = 15 then (halberdlaw13_DerDays.j0 k (wrap64 (Int.tmod (IntKind.u64.wrap (a0)) 2524608000)) ji5 t358 t360 ((t360.size : Int) != 15)) else (halberdlaw13_DerDays.j0 k (wrap64 (Int.tmod (IntKind.u64.wrap (a0)) 2524608000)) ji5 t358 t360 true)) else (halberdlaw13_DerDays.j0 k (wrap64 (Int.tmod (IntKind.u64.wrap (a0)) 2524608000)) ji5 t358 t360 true))) else (halberdlaw13_DerDays.j0 k (wrap64 (Int.tmod (IntKind.u64.wrap (a0)) 2524608000)) ji5 t358 t360 true))) = some r := H
  have A7 := Aside0.mk A70
  clear A70
  have HC8 := Aside0.mk H
  clear H
  go_enter Try.func5, Try.ntmps5
  go_upto_region 7 with (first | ((with_reducible refine gate_callee (f := 17) rfl ?_); refine goesL_ (some 17) rfl rfl Try.func17 (by kernel_rfl) rfl #[] rfl (by (try simp only [List.map_toArray, List.map_cons, List.map_nil]); first | done | rfl | (simp only [List.length_drop, List.length_take]; rfl)) ?_; (with_reducible refine (halberdlaw13_awake.calls  true _ A3.out).mono ?_); rintro e w9 ⟨rfl, hb⟩; refine ⟨_, rfl, ?_⟩; have n0_ := Aside0.mk (below_step (by repeat (first | (with_reducible first | exact HB.out | apply below_alloc | apply pw_below_drewN | apply below_drew1) | exact HB.out)) hb); clear HB; have HB := n0_; clear n0_; (try clear hb); (try clear hb2); (try clear hk); (try clear hi)) | ((with_reducible refine gate_callee (f := 12) rfl ?_); refine goesL_ (some 30) rfl rfl Try.func12 (by kernel_rfl) rfl #[.int .i64 (wrap64 (Int.tmod (IntKind.u64.wrap (a0)) 2524608000))] rfl (by (try simp only [List.map_toArray, List.map_cons, List.map_nil]); first | done | rfl | (simp only [List.length_drop, List.length_take]; rfl)) ?_; (with_reducible refine (der_Time.calls k (wrap64 (Int.tmod (IntKind.u64.wrap (a0)) 2524608000)) t358 t359 _ A6.out).mono ?_); rintro e w10 ⟨rfl, hb⟩; refine ⟨_, rfl, ?_⟩; have n0_ := Aside0.mk (below_step (by repeat (first | (with_reducible first | exact HB.out | apply below_alloc | apply pw_below_drewN | apply below_drew1) | exact HB.out)) hb); clear HB; have HB := n0_; clear n0_; (try clear hb); (try clear hb2); (try clear hk); (try clear hi)) | ((with_reducible refine gate_callee (f := 12) rfl ?_); refine goesL_ (some 35) rfl rfl Try.func12 (by kernel_rfl) rfl #[.int .i64 ji5] rfl (by (try simp only [List.map_toArray, List.map_cons, List.map_nil]); first | done | (simp only [hji5]; rfl) | rfl | (simp only [List.length_drop, List.length_take]; rfl)) ?_; (with_reducible refine (der_Time.calls k ji5 t360 t361 _ A7.out).mono ?_); rintro e w11 ⟨rfl, hb⟩; refine ⟨_, rfl, ?_⟩; have n0_ := Aside0.mk (below_step (by repeat (first | (with_reducible first | exact HB.out | apply below_alloc | apply pw_below_drewN | apply below_drew1) | exact HB.out)) hb); clear HB; have HB := n0_; clear n0_; (try clear hb); (try clear hb2); (try clear hk); (try clear hi)))
  (try simp only [Act.put, List.setIfInBounds_toArray, List.set_cons_zero, List.set_cons_succ])
  go_cut [55] (fun v55 wc => ∃ (kq : Nat) (x55_7 : Bool), v55 = .bool x55_7 ∧ Aside0 (halberdlaw13_DerDays.j0 kq (wrap64 (Int.tmod (IntKind.u64.wrap (a0)) 2524608000)) ji5 t358 t360 x55_7 = some r) ∧ Aside0 (kq ≤ k) ∧ Aside0 (Below w.heap.size w wc))
  case first =>
   have H := HC8.out
   clear HC8
   replace H := Option.bind_eq_some_iff.mp H
   obtain ⟨t362, A120, H⟩ := H
   replace H : (if t362 = 0 then ((halberdlaw0_Num.f t361).bind fun t363 => (if t363 = 0 then (if (t358.size : Int) = 15 then (halberdlaw13_DerDays.j0 k (wrap64 (Int.tmod (IntKind.u64.wrap (a0)) 2524608000)) ji5 t358 t360 ((t360.size : Int) != 15)) else (halberdlaw13_DerDays.j0 k (wrap64 (Int.tmod (IntKind.u64.wrap (a0)) 2524608000)) ji5 t358 t360 true)) else (halberdlaw13_DerDays.j0 k (wrap64 (Int.tmod (IntKind.u64.wrap (a0)) 2524608000)) ji5 t358 t360 true))) else (halberdlaw13_DerDays.j0 k (wrap64 (Int.tmod (IntKind.u64.wrap (a0)) 2524608000)) ji5 t358 t360 true)) = some r := H
   have A12 := Aside0.mk A120
   clear A120
   by_cases c13 : t362 = 0
   ·rw [if_pos c13] at H
    have c13b0 : (t362 == 0) = true := beq_iff_eq.mpr c13
    have c13b1 : (t362 != 0) = false := bne_eq_false_iff_eq.mpr c13
    clear c13
    (first | rw [c13b0] | (simp only [i64_w, i32_w]; rw [c13b0]) | skip)
    replace H := Option.bind_eq_some_iff.mp H
    obtain ⟨t363, A140, H⟩ := H
    replace H : (if t363 = 0 then (if (t358.size : Int) = 15 then (halberdlaw13_DerDays.j0 k (wrap64 (Int.tmod (IntKind.u64.wrap (a0)) 2524608000)) ji5 t358 t360 ((t360.size : Int) != 15)) else (halberdlaw13_DerDays.j0 k (wrap64 (Int.tmod (IntKind.u64.wrap (a0)) 2524608000)) ji5 t358 t360 true)) else (halberdlaw13_DerDays.j0 k (wrap64 (Int.tmod (IntKind.u64.wrap (a0)) 2524608000)) ji5 t358 t360 true)) = some r := H
    have A14 := Aside0.mk A140
    clear A140
    by_cases c15 : t363 = 0
    ·rw [if_pos c15] at H
     have c15b0 : (t363 == 0) = true := beq_iff_eq.mpr c15
     have c15b1 : (t363 != 0) = false := bne_eq_false_iff_eq.mpr c15
     clear c15
     by_cases c16 : (t358.size : Int) = 15
     ·rw [if_pos c16] at H
      have c16b0 : ((t358.size : Int) == 15) = true := beq_iff_eq.mpr c16
      have c16b1 : ((t358.size : Int) != 15) = false := bne_eq_false_iff_eq.mpr c16
      clear c16
      have H' := Aside0.mk H
      clear H
      go_wp2_with (first | ((with_reducible refine gate_callee (f := 16) rfl ?_); refine goesL_ (some 39) rfl rfl Try.func16 (by kernel_rfl) rfl #[.int .i64 t359] rfl (by (try simp only [List.map_toArray, List.map_cons, List.map_nil]); first | done | rfl | (simp only [List.length_drop, List.length_take]; rfl)) ?_; (with_reducible refine (halberdlaw0_Num.calls t359 t362 _ A12.out).mono ?_); rintro e w' ⟨rfl, ⟨nd, rfl⟩⟩; refine ⟨_, rfl, ?_⟩) | (go_at_call 16; (with_reducible refine (halberdlaw0_Num.calls t361 t363 _ A14.out).mono ?_); rintro e w' ⟨rfl, ⟨nd, rfl⟩⟩))
      go_meet
      case rel => exact ⟨_, (((t360.size : Int) != 15)), (by first | rfl | (simp; done) | (simp [*]; done)), H', ⟨by first | omega | exact Nat.le_refl _⟩, ⟨by repeat (first | (with_reducible first | exact HB.out | apply below_alloc | apply pw_below_drewN | apply below_drew1) | exact HB.out)⟩⟩
     ·rw [if_neg c16] at H
      have c16b0 : ((t358.size : Int) == 15) = false := beq_eq_false_iff_ne.mpr c16
      have c16b1 : ((t358.size : Int) != 15) = true := bne_iff_ne.mpr c16
      have H' := Aside0.mk H
      clear H
      go_wp2_with (first | ((with_reducible refine gate_callee (f := 16) rfl ?_); refine goesL_ (some 39) rfl rfl Try.func16 (by kernel_rfl) rfl #[.int .i64 t359] rfl (by (try simp only [List.map_toArray, List.map_cons, List.map_nil]); first | done | rfl | (simp only [List.length_drop, List.length_take]; rfl)) ?_; (with_reducible refine (halberdlaw0_Num.calls t359 t362 _ A12.out).mono ?_); rintro e w' ⟨rfl, ⟨nd, rfl⟩⟩; refine ⟨_, rfl, ?_⟩) | (go_at_call 16; (with_reducible refine (halberdlaw0_Num.calls t361 t363 _ A14.out).mono ?_); rintro e w' ⟨rfl, ⟨nd, rfl⟩⟩))
      go_meet
      case rel => exact ⟨_, (true), (by first | rfl | (simp; done) | (simp [*]; done)), H', ⟨by first | omega | exact Nat.le_refl _⟩, ⟨by repeat (first | (with_reducible first | exact HB.out | apply below_alloc | apply pw_below_drewN | apply below_drew1) | exact HB.out)⟩⟩
    ·rw [if_neg c15] at H
     have c15b0 : (t363 == 0) = false := beq_eq_false_iff_ne.mpr c15
     have c15b1 : (t363 != 0) = true := bne_iff_ne.mpr c15
     have H' := Aside0.mk H
     clear H
     go_wp2_with (first | ((with_reducible refine gate_callee (f := 16) rfl ?_); refine goesL_ (some 39) rfl rfl Try.func16 (by kernel_rfl) rfl #[.int .i64 t359] rfl (by (try simp only [List.map_toArray, List.map_cons, List.map_nil]); first | done | rfl | (simp only [List.length_drop, List.length_take]; rfl)) ?_; (with_reducible refine (halberdlaw0_Num.calls t359 t362 _ A12.out).mono ?_); rintro e w' ⟨rfl, ⟨nd, rfl⟩⟩; refine ⟨_, rfl, ?_⟩) | (go_at_call 16; (with_reducible refine (halberdlaw0_Num.calls t361 t363 _ A14.out).mono ?_); rintro e w' ⟨rfl, ⟨nd, rfl⟩⟩))
     go_meet
     case rel => exact ⟨_, (true), (by first | rfl | (simp; done) | (simp [*]; done)), H', ⟨by first | omega | exact Nat.le_refl _⟩, ⟨by repeat (first | (with_reducible first | exact HB.out | apply below_alloc | apply pw_below_drewN | apply below_drew1) | exact HB.out)⟩⟩
   ·rw [if_neg c13] at H
    have c13b0 : (t362 == 0) = false := beq_eq_false_iff_ne.mpr c13
    have c13b1 : (t362 != 0) = true := bne_iff_ne.mpr c13
    (first | rw [c13b0] | (simp only [i64_w, i32_w]; rw [c13b0]) | skip)
    have H' := Aside0.mk H
    clear H
    go_wp2_with (first | ((with_reducible refine gate_callee (f := 16) rfl ?_); refine goesL_ (some 39) rfl rfl Try.func16 (by kernel_rfl) rfl #[.int .i64 t359] rfl (by (try simp only [List.map_toArray, List.map_cons, List.map_nil]); first | done | rfl | (simp only [List.length_drop, List.length_take]; rfl)) ?_; (with_reducible refine (halberdlaw0_Num.calls t359 t362 _ A12.out).mono ?_); rintro e w' ⟨rfl, ⟨nd, rfl⟩⟩; refine ⟨_, rfl, ?_⟩))
    go_meet
    case rel => exact ⟨_, (true), (by first | rfl | (simp; done) | (simp [*]; done)), H', ⟨by first | omega | exact Nat.le_refl _⟩, ⟨by repeat (first | (with_reducible first | exact HB.out | apply below_alloc | apply pw_below_drewN | apply below_drew1) | exact HB.out)⟩⟩
  case rest =>
   clear HC8
   try clear c1
   try clear p2
   try clear c4
   try clear c5
   try clear p6
   try clear c12
   try clear c13
   try clear c13b0
   try clear c13b1
   try clear c15
   try clear c15b0
   try clear c15b1
   try clear c16
   try clear c16b0
   try clear c16b1
   obtain ⟨kq, x55_7, rfl, HA, HJ7, HB⟩ := hcut
   cases kq with
   | zero => exact absurd HA.out (by simp [halberdlaw13_DerDays.j0])
   | succ kj7 =>
    have H := HA.out
    clear HA
    simp only [halberdlaw13_DerDays.j0] at H
    by_cases c17 : x55_7 = true
    ·subst c17
     have H1 : (some false) = some r := by rw [if_pos rfl] at H; exact H
     clear H
     have H := H1
     clear H1
     exact absurd ((Option.some.inj H).trans hr.out) (by decide)
    ·replace c17 := Bool.eq_false_iff.mpr c17
     subst c17
     have H1 : (if 2 ≤ (t358.size : Int) then ((der_Untime.f kj7 (t358.extract 2 t358.size)).bind fun bt364 => (if 2 ≤ (t360.size : Int) then ((der_Untime.f kj7 (t360.extract 2 t360.size)).bind fun bt366 => (if ji5 ≥ 946684800 then ((halberdlaw0_Num.f bt364.2).bind fun t368 => (if t368 = 0 then (if bt364.1 = (wrap64 (Int.tmod (IntKind.u64.wrap (a0)) 2524608000)) then ((halberdlaw0_Num.f bt366.2).bind fun t369 => (if t369 = 0 then (if bt366.1 = ji5 then (if (wrap64 (Int.tmod (IntKind.u64.wrap (a0)) 2524608000)) ≥ 946684800 then (if (wrap64 (Int.tmod (IntKind.u64.wrap (a0)) 2524608000)) < ji5 then (if (Op.bytesLess t358.toList t360.toList) = true then (if (wrap64 (Int.tmod (IntKind.u64.wrap (a0)) 2524608000)) = ji5 then (some (t358.toList == t360.toList)) else (some (!(t358.toList == t360.toList)))) else (some false)) else (if (Op.bytesLess t358.toList t360.toList) = true then (some false) else (if (wrap64 (Int.tmod (IntKind.u64.wrap (a0)) 2524608000)) = ji5 then (some (t358.toList == t360.toList)) else (some (!(t358.toList == t360.toList)))))) else (if (wrap64 (Int.tmod (IntKind.u64.wrap (a0)) 2524608000)) = ji5 then (some (t358.toList == t360.toList)) else (some (!(t358.toList == t360.toList))))) else (some false)) else (some false))) else (some false)) else (some false))) else ((halberdlaw0_Num.f bt364.2).bind fun t370 => (if t370 = 0 then (if bt364.1 = (wrap64 (Int.tmod (IntKind.u64.wrap (a0)) 2524608000)) then ((halberdlaw0_Num.f bt366.2).bind fun t371 => (if t371 = 0 then (if bt366.1 = ji5 then (if (wrap64 (Int.tmod (IntKind.u64.wrap (a0)) 2524608000)) ≥ 946684800 then (if (wrap64 (Int.tmod (IntKind.u64.wrap (a0)) 2524608000)) = ji5 then (some (t358.toList == t360.toList)) else (some (!(t358.toList == t360.toList)))) else (if (wrap64 (Int.tmod (IntKind.u64.wrap (a0)) 2524608000)) < ji5 then (if (Op.bytesLess t358.toList t360.toList) = true then (if (wrap64 (Int.tmod (IntKind.u64.wrap (a0)) 2524608000)) = ji5 then (some (t358.toList == t360.toList)) else (some (!(t358.toList == t360.toList)))) else (some false)) else (if (Op.bytesLess t358.toList t360.toList) = true then (some false) else (if (wrap64 (Int.tmod (IntKind.u64.wrap (a0)) 2524608000)) = ji5 then (some (t358.toList == t360.toList)) else (some (!(t358.toList == t360.toList))))))) else (some false)) else (some false))) else (some false)) else (some false))))) else (none))) else (none)) = some r := by rw [if_neg (show ¬ (false = true) by decide)] at H; exact H
     clear H
     have H := H1
     clear H1
     by_cases c18 : 2 ≤ (t358.size : Int)
     ·rw [if_pos c18] at H
      have c18b0 := eq_true c18
      have c18b1 : decide (2 ≤ (t358.size : Int)) = true := decide_eq_true c18
      clear c18
      replace H := Option.bind_eq_some_iff.mp H
      obtain ⟨⟨t364, t365⟩, A190, H⟩ := H
      replace H : (if 2 ≤ (t360.size : Int) then ((der_Untime.f kj7 (t360.extract 2 t360.size)).bind fun bt366 => (if ji5 ≥ 946684800 then ((halberdlaw0_Num.f t365).bind fun t368 => (if t368 = 0 then (if t364 = (wrap64 (Int.tmod (IntKind.u64.wrap (a0)) 2524608000)) then ((halberdlaw0_Num.f bt366.2).bind fun t369 => (if t369 = 0 then (if bt366.1 = ji5 then (if (wrap64 (Int.tmod (IntKind.u64.wrap (a0)) 2524608000)) ≥ 946684800 then (if (wrap64 (Int.tmod (IntKind.u64.wrap (a0)) 2524608000)) < ji5 then (if (Op.bytesLess t358.toList t360.toList) = true then (if (wrap64 (Int.tmod (IntKind.u64.wrap (a0)) 2524608000)) = ji5 then (some (t358.toList == t360.toList)) else (some (!(t358.toList == t360.toList)))) else (some false)) else (if (Op.bytesLess t358.toList t360.toList) = true then (some false) else (if (wrap64 (Int.tmod (IntKind.u64.wrap (a0)) 2524608000)) = ji5 then (some (t358.toList == t360.toList)) else (some (!(t358.toList == t360.toList)))))) else (if (wrap64 (Int.tmod (IntKind.u64.wrap (a0)) 2524608000)) = ji5 then (some (t358.toList == t360.toList)) else (some (!(t358.toList == t360.toList))))) else (some false)) else (some false))) else (some false)) else (some false))) else ((halberdlaw0_Num.f t365).bind fun t370 => (if t370 = 0 then (if t364 = (wrap64 (Int.tmod (IntKind.u64.wrap (a0)) 2524608000)) then ((halberdlaw0_Num.f bt366.2).bind fun t371 => (if t371 = 0 then (if bt366.1 = ji5 then (if (wrap64 (Int.tmod (IntKind.u64.wrap (a0)) 2524608000)) ≥ 946684800 then (if (wrap64 (Int.tmod (IntKind.u64.wrap (a0)) 2524608000)) = ji5 then (some (t358.toList == t360.toList)) else (some (!(t358.toList == t360.toList)))) else (if (wrap64 (Int.tmod (IntKind.u64.wrap (a0)) 2524608000)) < ji5 then (if (Op.bytesLess t358.toList t360.toList) = true then (if (wrap64 (Int.tmod (IntKind.u64.wrap (a0)) 2524608000)) = ji5 then (some (t358.toList == t360.toList)) else (some (!(t358.toList == t360.toList)))) else (some false)) else (if (Op.bytesLess t358.toList t360.toList) = true then (some false) else (if (wrap64 (Int.tmod (IntKind.u64.wrap (a0)) 2524608000)) = ji5 then (some (t358.toList == t360.toList)) else (some (!(t358.toList == t360.toList))))))) else (some false)) else (some false))) else (some false)) else (some false))))) else (none)) = some r := H
      have A19 := Aside0.mk A190
      clear A190
      by_cases c20 : 2 ≤ (t360.size : Int)
      ·rw [if_pos c20] at H
       have c20b0 := eq_true c20
       have c20b1 : decide (2 ≤ (t360.size : Int)) = true := decide_eq_true c20
       clear c20
       replace H := Option.bind_eq_some_iff.mp H
       obtain ⟨⟨t366, t367⟩, A210, H⟩ := H
       replace H : (if ji5 ≥ 946684800 then ((halberdlaw0_Num.f t365).bind fun t368 => (if t368 = 0 then (if t364 = (wrap64 (Int.tmod (IntKind.u64.wrap (a0)) 2524608000)) then ((halberdlaw0_Num.f t367).bind fun t369 => (if t369 = 0 then (if t366 = ji5 then (if (wrap64 (Int.tmod (IntKind.u64.wrap (a0)) 2524608000)) ≥ 946684800 then (if (wrap64 (Int.tmod (IntKind.u64.wrap (a0)) 2524608000)) < ji5 then (if (Op.bytesLess t358.toList t360.toList) = true then (if (wrap64 (Int.tmod (IntKind.u64.wrap (a0)) 2524608000)) = ji5 then (some (t358.toList == t360.toList)) else (some (!(t358.toList == t360.toList)))) else (some false)) else (if (Op.bytesLess t358.toList t360.toList) = true then (some false) else (if (wrap64 (Int.tmod (IntKind.u64.wrap (a0)) 2524608000)) = ji5 then (some (t358.toList == t360.toList)) else (some (!(t358.toList == t360.toList)))))) else (if (wrap64 (Int.tmod (IntKind.u64.wrap (a0)) 2524608000)) = ji5 then (some (t358.toList == t360.toList)) else (some (!(t358.toList == t360.toList))))) else (some false)) else (some false))) else (some false)) else (some false))) else ((halberdlaw0_Num.f t365).bind fun t370 => (if t370 = 0 then (if t364 = (wrap64 (Int.tmod (IntKind.u64.wrap (a0)) 2524608000)) then ((halberdlaw0_Num.f t367).bind fun t371 => (if t371 = 0 then (if t366 = ji5 then (if (wrap64 (Int.tmod (IntKind.u64.wrap (a0)) 2524608000)) ≥ 946684800 then (if (wrap64 (Int.tmod (IntKind.u64.wrap (a0)) 2524608000)) = ji5 then (some (t358.toList == t360.toList)) else (some (!(t358.toList == t360.toList)))) else (if (wrap64 (Int.tmod (IntKind.u64.wrap (a0)) 2524608000)) < ji5 then (if (Op.bytesLess t358.toList t360.toList) = true then (if (wrap64 (Int.tmod (IntKind.u64.wrap (a0)) 2524608000)) = ji5 then (some (t358.toList == t360.toList)) else (some (!(t358.toList == t360.toList)))) else (some false)) else (if (Op.bytesLess t358.toList t360.toList) = true then (some false) else (if (wrap64 (Int.tmod (IntKind.u64.wrap (a0)) 2524608000)) = ji5 then (some (t358.toList == t360.toList)) else (some (!(t358.toList == t360.toList))))))) else (some false)) else (some false))) else (some false)) else (some false)))) = some r := H
       have A21 := Aside0.mk A210
       clear A210
       by_cases c22 : ji5 ≥ 946684800
       ·rw [if_pos c22] at H
        have c22b0 : decide (946684800 ≤ ji5) = true := decide_eq_true c22
        clear c22
        replace H := Option.bind_eq_some_iff.mp H
        obtain ⟨t368, A230, H⟩ := H
        replace H : (if t368 = 0 then (if t364 = (wrap64 (Int.tmod (IntKind.u64.wrap (a0)) 2524608000)) then ((halberdlaw0_Num.f t367).bind fun t369 => (if t369 = 0 then (if t366 = ji5 then (if (wrap64 (Int.tmod (IntKind.u64.wrap (a0)) 2524608000)) ≥ 946684800 then (if (wrap64 (Int.tmod (IntKind.u64.wrap (a0)) 2524608000)) < ji5 then (if (Op.bytesLess t358.toList t360.toList) = true then (if (wrap64 (Int.tmod (IntKind.u64.wrap (a0)) 2524608000)) = ji5 then (some (t358.toList == t360.toList)) else (some (!(t358.toList == t360.toList)))) else (some false)) else (if (Op.bytesLess t358.toList t360.toList) = true then (some false) else (if (wrap64 (Int.tmod (IntKind.u64.wrap (a0)) 2524608000)) = ji5 then (some (t358.toList == t360.toList)) else (some (!(t358.toList == t360.toList)))))) else (if (wrap64 (Int.tmod (IntKind.u64.wrap (a0)) 2524608000)) = ji5 then (some (t358.toList == t360.toList)) else (some (!(t358.toList == t360.toList))))) else (some false)) else (some false))) else (some false)) else (some false)) = some r := H
        have A23 := Aside0.mk A230
        clear A230
        by_cases c24 : t368 = 0
        ·rw [if_pos c24] at H
         have c24b0 : (t368 == 0) = true := beq_iff_eq.mpr c24
         have c24b1 : (t368 != 0) = false := bne_eq_false_iff_eq.mpr c24
         clear c24
         by_cases c25 : t364 = (wrap64 (Int.tmod (IntKind.u64.wrap (a0)) 2524608000))
         ·rw [if_pos c25] at H
          have c25b0 : (t364 == (wrap64 (Int.tmod (IntKind.u64.wrap (a0)) 2524608000))) = true := beq_iff_eq.mpr c25
          have c25b1 : (t364 != (wrap64 (Int.tmod (IntKind.u64.wrap (a0)) 2524608000))) = false := bne_eq_false_iff_eq.mpr c25
          clear c25
          replace H := Option.bind_eq_some_iff.mp H
          obtain ⟨t369, A260, H⟩ := H
          replace H : (if t369 = 0 then (if t366 = ji5 then (if (wrap64 (Int.tmod (IntKind.u64.wrap (a0)) 2524608000)) ≥ 946684800 then (if (wrap64 (Int.tmod (IntKind.u64.wrap (a0)) 2524608000)) < ji5 then (if (Op.bytesLess t358.toList t360.toList) = true then (if (wrap64 (Int.tmod (IntKind.u64.wrap (a0)) 2524608000)) = ji5 then (some (t358.toList == t360.toList)) else (some (!(t358.toList == t360.toList)))) else (some false)) else (if (Op.bytesLess t358.toList t360.toList) = true then (some false) else (if (wrap64 (Int.tmod (IntKind.u64.wrap (a0)) 2524608000)) = ji5 then (some (t358.toList == t360.toList)) else (some (!(t358.toList == t360.toList)))))) else (if (wrap64 (Int.tmod (IntKind.u64.wrap (a0)) 2524608000)) = ji5 then (some (t358.toList == t360.toList)) else (some (!(t358.toList == t360.toList))))) else (some false)) else (some false)) = some r := H
          have A26 := Aside0.mk A260
          clear A260
          by_cases c27 : t369 = 0
          ·rw [if_pos c27] at H
           have c27b0 : (t369 == 0) = true := beq_iff_eq.mpr c27
           have c27b1 : (t369 != 0) = false := bne_eq_false_iff_eq.mpr c27
           clear c27
           by_cases c28 : t366 = ji5
           ·rw [if_pos c28] at H
            have c28b0 : (t366 == ji5) = true := beq_iff_eq.mpr c28
            have c28b1 : (t366 != ji5) = false := bne_eq_false_iff_eq.mpr c28
            clear c28
            by_cases c29 : (wrap64 (Int.tmod (IntKind.u64.wrap (a0)) 2524608000)) ≥ 946684800
            ·rw [if_pos c29] at H
             have c29b0 : decide (946684800 ≤ (wrap64 (Int.tmod (IntKind.u64.wrap (a0)) 2524608000))) = true := decide_eq_true c29
             clear c29
             by_cases c30 : (wrap64 (Int.tmod (IntKind.u64.wrap (a0)) 2524608000)) < ji5
             ·rw [if_pos c30] at H
              have c30b0 : decide ((wrap64 (Int.tmod (IntKind.u64.wrap (a0)) 2524608000)) < ji5) = true := decide_eq_true c30
              clear c30
              by_cases c31 : (Op.bytesLess t358.toList t360.toList) = true
              ·rw [if_pos c31] at H
               have c31b0 : (Op.bytesLess t358.toList t360.toList) = true := c31
               clear c31
               by_cases c32 : (wrap64 (Int.tmod (IntKind.u64.wrap (a0)) 2524608000)) = ji5
               ·rw [if_pos c32] at H
                have c32b0 : ((wrap64 (Int.tmod (IntKind.u64.wrap (a0)) 2524608000)) == ji5) = true := beq_iff_eq.mpr c32
                have c32b1 : ((wrap64 (Int.tmod (IntKind.u64.wrap (a0)) 2524608000)) != ji5) = false := bne_eq_false_iff_eq.mpr c32
                clear c32
                obtain rfl := Option.some.inj H
                go_wp2_with (first | ((with_reducible refine gate_callee (f := 14) rfl ?_); refine goesL_ (some 59) rfl rfl Try.func14 (by kernel_rfl) rfl #[.string (t358.extract 2 t358.size)] rfl (by (try simp only [List.map_toArray, List.map_cons, List.map_nil]); first | done | rfl | (simp only [List.length_drop, List.length_take]; rfl)) ?_; (with_reducible refine (der_Untime.calls kj7 (t358.extract 2 t358.size) t364 t365 _ A19.out).mono ?_); rintro e w33 ⟨rfl, hb⟩; refine ⟨_, rfl, ?_⟩; have n0_ := Aside0.mk (below_step (by repeat (first | (with_reducible first | exact HB.out | apply below_alloc | apply pw_below_drewN | apply below_drew1) | exact HB.out)) hb); clear HB; have HB := n0_; clear n0_; (try clear hb); (try clear hb2); (try clear hk); (try clear hi)) | ((with_reducible refine gate_callee (f := 14) rfl ?_); refine goesL_ (some 65) rfl rfl Try.func14 (by kernel_rfl) rfl #[.string (t360.extract 2 t360.size)] rfl (by (try simp only [List.map_toArray, List.map_cons, List.map_nil]); first | done | rfl | (simp only [List.length_drop, List.length_take]; rfl)) ?_; (with_reducible refine (der_Untime.calls kj7 (t360.extract 2 t360.size) t366 t367 _ A21.out).mono ?_); rintro e w34 ⟨rfl, hb⟩; refine ⟨_, rfl, ?_⟩; have n0_ := Aside0.mk (below_step (by repeat (first | (with_reducible first | exact HB.out | apply below_alloc | apply pw_below_drewN | apply below_drew1) | exact HB.out)) hb); clear HB; have HB := n0_; clear n0_; (try clear hb); (try clear hb2); (try clear hk); (try clear hi)) | ((with_reducible refine gate_callee (f := 16) rfl ?_); refine goesL_ (some 75) rfl rfl Try.func16 (by kernel_rfl) rfl #[.int .i64 t365] rfl (by (try simp only [List.map_toArray, List.map_cons, List.map_nil]); first | done | rfl | (simp only [List.length_drop, List.length_take]; rfl)) ?_; (with_reducible refine (halberdlaw0_Num.calls t365 t368 _ A23.out).mono ?_); rintro e w' ⟨rfl, ⟨nd, rfl⟩⟩; refine ⟨_, rfl, ?_⟩) | (go_at_call 16; (with_reducible refine (halberdlaw0_Num.calls t367 t369 _ A26.out).mono ?_); rintro e w' ⟨rfl, ⟨nd, rfl⟩⟩))
                go_ret
                exact ⟨by first | rfl | (simp [errW_none, errW_some] <;> rfl) | (simp only [← hji5]; first | rfl | (simp [errW_none, errW_some] <;> rfl)) | (simp [*, errW_none, errW_some] <;> rfl), by repeat (first | (with_reducible first | exact HB.out | apply below_alloc | apply pw_below_drewN | apply below_drew1) | exact HB.out)⟩
               ·rw [if_neg c32] at H
                have c32b0 : ((wrap64 (Int.tmod (IntKind.u64.wrap (a0)) 2524608000)) == ji5) = false := beq_eq_false_iff_ne.mpr c32
                have c32b1 : ((wrap64 (Int.tmod (IntKind.u64.wrap (a0)) 2524608000)) != ji5) = true := bne_iff_ne.mpr c32
                obtain rfl := Option.some.inj H
                go_wp2_with (first | ((with_reducible refine gate_callee (f := 14) rfl ?_); refine goesL_ (some 59) rfl rfl Try.func14 (by kernel_rfl) rfl #[.string (t358.extract 2 t358.size)] rfl (by (try simp only [List.map_toArray, List.map_cons, List.map_nil]); first | done | rfl | (simp only [List.length_drop, List.length_take]; rfl)) ?_; (with_reducible refine (der_Untime.calls kj7 (t358.extract 2 t358.size) t364 t365 _ A19.out).mono ?_); rintro e w35 ⟨rfl, hb⟩; refine ⟨_, rfl, ?_⟩; have n0_ := Aside0.mk (below_step (by repeat (first | (with_reducible first | exact HB.out | apply below_alloc | apply pw_below_drewN | apply below_drew1) | exact HB.out)) hb); clear HB; have HB := n0_; clear n0_; (try clear hb); (try clear hb2); (try clear hk); (try clear hi)) | ((with_reducible refine gate_callee (f := 14) rfl ?_); refine goesL_ (some 65) rfl rfl Try.func14 (by kernel_rfl) rfl #[.string (t360.extract 2 t360.size)] rfl (by (try simp only [List.map_toArray, List.map_cons, List.map_nil]); first | done | rfl | (simp only [List.length_drop, List.length_take]; rfl)) ?_; (with_reducible refine (der_Untime.calls kj7 (t360.extract 2 t360.size) t366 t367 _ A21.out).mono ?_); rintro e w36 ⟨rfl, hb⟩; refine ⟨_, rfl, ?_⟩; have n0_ := Aside0.mk (below_step (by repeat (first | (with_reducible first | exact HB.out | apply below_alloc | apply pw_below_drewN | apply below_drew1) | exact HB.out)) hb); clear HB; have HB := n0_; clear n0_; (try clear hb); (try clear hb2); (try clear hk); (try clear hi)) | ((with_reducible refine gate_callee (f := 16) rfl ?_); refine goesL_ (some 75) rfl rfl Try.func16 (by kernel_rfl) rfl #[.int .i64 t365] rfl (by (try simp only [List.map_toArray, List.map_cons, List.map_nil]); first | done | rfl | (simp only [List.length_drop, List.length_take]; rfl)) ?_; (with_reducible refine (halberdlaw0_Num.calls t365 t368 _ A23.out).mono ?_); rintro e w' ⟨rfl, ⟨nd, rfl⟩⟩; refine ⟨_, rfl, ?_⟩) | (go_at_call 16; (with_reducible refine (halberdlaw0_Num.calls t367 t369 _ A26.out).mono ?_); rintro e w' ⟨rfl, ⟨nd, rfl⟩⟩))
                go_ret
                exact ⟨by first | rfl | (simp [errW_none, errW_some] <;> rfl) | (simp only [← hji5]; first | rfl | (simp [errW_none, errW_some] <;> rfl)) | (simp [*, errW_none, errW_some] <;> rfl), by repeat (first | (with_reducible first | exact HB.out | apply below_alloc | apply pw_below_drewN | apply below_drew1) | exact HB.out)⟩
              ·rw [if_neg c31] at H
               have c31b0 : (Op.bytesLess t358.toList t360.toList) = false := by simpa using c31
               clear c31
               exact absurd ((Option.some.inj H).trans hr.out) (by decide)
             ·rw [if_neg c30] at H
              have c30b0 : decide ((wrap64 (Int.tmod (IntKind.u64.wrap (a0)) 2524608000)) < ji5) = false := decide_eq_false c30
              clear c30
              by_cases c37 : (Op.bytesLess t358.toList t360.toList) = true
              ·rw [if_pos c37] at H
               have c37b0 : (Op.bytesLess t358.toList t360.toList) = true := c37
               clear c37
               exact absurd ((Option.some.inj H).trans hr.out) (by decide)
              ·rw [if_neg c37] at H
               have c37b0 : (Op.bytesLess t358.toList t360.toList) = false := by simpa using c37
               clear c37
               by_cases c38 : (wrap64 (Int.tmod (IntKind.u64.wrap (a0)) 2524608000)) = ji5
               ·rw [if_pos c38] at H
                have c38b0 : ((wrap64 (Int.tmod (IntKind.u64.wrap (a0)) 2524608000)) == ji5) = true := beq_iff_eq.mpr c38
                have c38b1 : ((wrap64 (Int.tmod (IntKind.u64.wrap (a0)) 2524608000)) != ji5) = false := bne_eq_false_iff_eq.mpr c38
                clear c38
                obtain rfl := Option.some.inj H
                go_wp2_with (first | ((with_reducible refine gate_callee (f := 14) rfl ?_); refine goesL_ (some 59) rfl rfl Try.func14 (by kernel_rfl) rfl #[.string (t358.extract 2 t358.size)] rfl (by (try simp only [List.map_toArray, List.map_cons, List.map_nil]); first | done | rfl | (simp only [List.length_drop, List.length_take]; rfl)) ?_; (with_reducible refine (der_Untime.calls kj7 (t358.extract 2 t358.size) t364 t365 _ A19.out).mono ?_); rintro e w39 ⟨rfl, hb⟩; refine ⟨_, rfl, ?_⟩; have n0_ := Aside0.mk (below_step (by repeat (first | (with_reducible first | exact HB.out | apply below_alloc | apply pw_below_drewN | apply below_drew1) | exact HB.out)) hb); clear HB; have HB := n0_; clear n0_; (try clear hb); (try clear hb2); (try clear hk); (try clear hi)) | ((with_reducible refine gate_callee (f := 14) rfl ?_); refine goesL_ (some 65) rfl rfl Try.func14 (by kernel_rfl) rfl #[.string (t360.extract 2 t360.size)] rfl (by (try simp only [List.map_toArray, List.map_cons, List.map_nil]); first | done | rfl | (simp only [List.length_drop, List.length_take]; rfl)) ?_; (with_reducible refine (der_Untime.calls kj7 (t360.extract 2 t360.size) t366 t367 _ A21.out).mono ?_); rintro e w40 ⟨rfl, hb⟩; refine ⟨_, rfl, ?_⟩; have n0_ := Aside0.mk (below_step (by repeat (first | (with_reducible first | exact HB.out | apply below_alloc | apply pw_below_drewN | apply below_drew1) | exact HB.out)) hb); clear HB; have HB := n0_; clear n0_; (try clear hb); (try clear hb2); (try clear hk); (try clear hi)) | ((with_reducible refine gate_callee (f := 16) rfl ?_); refine goesL_ (some 75) rfl rfl Try.func16 (by kernel_rfl) rfl #[.int .i64 t365] rfl (by (try simp only [List.map_toArray, List.map_cons, List.map_nil]); first | done | rfl | (simp only [List.length_drop, List.length_take]; rfl)) ?_; (with_reducible refine (halberdlaw0_Num.calls t365 t368 _ A23.out).mono ?_); rintro e w' ⟨rfl, ⟨nd, rfl⟩⟩; refine ⟨_, rfl, ?_⟩) | (go_at_call 16; (with_reducible refine (halberdlaw0_Num.calls t367 t369 _ A26.out).mono ?_); rintro e w' ⟨rfl, ⟨nd, rfl⟩⟩))
                go_ret
                exact ⟨by first | rfl | (simp [errW_none, errW_some] <;> rfl) | (simp only [← hji5]; first | rfl | (simp [errW_none, errW_some] <;> rfl)) | (simp [*, errW_none, errW_some] <;> rfl), by repeat (first | (with_reducible first | exact HB.out | apply below_alloc | apply pw_below_drewN | apply below_drew1) | exact HB.out)⟩
               ·rw [if_neg c38] at H
                have c38b0 : ((wrap64 (Int.tmod (IntKind.u64.wrap (a0)) 2524608000)) == ji5) = false := beq_eq_false_iff_ne.mpr c38
                have c38b1 : ((wrap64 (Int.tmod (IntKind.u64.wrap (a0)) 2524608000)) != ji5) = true := bne_iff_ne.mpr c38
                obtain rfl := Option.some.inj H
                go_wp2_with (first | ((with_reducible refine gate_callee (f := 14) rfl ?_); refine goesL_ (some 59) rfl rfl Try.func14 (by kernel_rfl) rfl #[.string (t358.extract 2 t358.size)] rfl (by (try simp only [List.map_toArray, List.map_cons, List.map_nil]); first | done | rfl | (simp only [List.length_drop, List.length_take]; rfl)) ?_; (with_reducible refine (der_Untime.calls kj7 (t358.extract 2 t358.size) t364 t365 _ A19.out).mono ?_); rintro e w41 ⟨rfl, hb⟩; refine ⟨_, rfl, ?_⟩; have n0_ := Aside0.mk (below_step (by repeat (first | (with_reducible first | exact HB.out | apply below_alloc | apply pw_below_drewN | apply below_drew1) | exact HB.out)) hb); clear HB; have HB := n0_; clear n0_; (try clear hb); (try clear hb2); (try clear hk); (try clear hi)) | ((with_reducible refine gate_callee (f := 14) rfl ?_); refine goesL_ (some 65) rfl rfl Try.func14 (by kernel_rfl) rfl #[.string (t360.extract 2 t360.size)] rfl (by (try simp only [List.map_toArray, List.map_cons, List.map_nil]); first | done | rfl | (simp only [List.length_drop, List.length_take]; rfl)) ?_; (with_reducible refine (der_Untime.calls kj7 (t360.extract 2 t360.size) t366 t367 _ A21.out).mono ?_); rintro e w42 ⟨rfl, hb⟩; refine ⟨_, rfl, ?_⟩; have n0_ := Aside0.mk (below_step (by repeat (first | (with_reducible first | exact HB.out | apply below_alloc | apply pw_below_drewN | apply below_drew1) | exact HB.out)) hb); clear HB; have HB := n0_; clear n0_; (try clear hb); (try clear hb2); (try clear hk); (try clear hi)) | ((with_reducible refine gate_callee (f := 16) rfl ?_); refine goesL_ (some 75) rfl rfl Try.func16 (by kernel_rfl) rfl #[.int .i64 t365] rfl (by (try simp only [List.map_toArray, List.map_cons, List.map_nil]); first | done | rfl | (simp only [List.length_drop, List.length_take]; rfl)) ?_; (with_reducible refine (halberdlaw0_Num.calls t365 t368 _ A23.out).mono ?_); rintro e w' ⟨rfl, ⟨nd, rfl⟩⟩; refine ⟨_, rfl, ?_⟩) | (go_at_call 16; (with_reducible refine (halberdlaw0_Num.calls t367 t369 _ A26.out).mono ?_); rintro e w' ⟨rfl, ⟨nd, rfl⟩⟩))
                go_ret
                exact ⟨by first | rfl | (simp [errW_none, errW_some] <;> rfl) | (simp only [← hji5]; first | rfl | (simp [errW_none, errW_some] <;> rfl)) | (simp [*, errW_none, errW_some] <;> rfl), by repeat (first | (with_reducible first | exact HB.out | apply below_alloc | apply pw_below_drewN | apply below_drew1) | exact HB.out)⟩
            ·rw [if_neg c29] at H
             have c29b0 : decide (946684800 ≤ (wrap64 (Int.tmod (IntKind.u64.wrap (a0)) 2524608000))) = false := decide_eq_false c29
             clear c29
             by_cases c43 : (wrap64 (Int.tmod (IntKind.u64.wrap (a0)) 2524608000)) = ji5
             ·rw [if_pos c43] at H
              have c43b0 : ((wrap64 (Int.tmod (IntKind.u64.wrap (a0)) 2524608000)) == ji5) = true := beq_iff_eq.mpr c43
              have c43b1 : ((wrap64 (Int.tmod (IntKind.u64.wrap (a0)) 2524608000)) != ji5) = false := bne_eq_false_iff_eq.mpr c43
              clear c43
              obtain rfl := Option.some.inj H
              go_wp2_with (first | ((with_reducible refine gate_callee (f := 14) rfl ?_); refine goesL_ (some 59) rfl rfl Try.func14 (by kernel_rfl) rfl #[.string (t358.extract 2 t358.size)] rfl (by (try simp only [List.map_toArray, List.map_cons, List.map_nil]); first | done | rfl | (simp only [List.length_drop, List.length_take]; rfl)) ?_; (with_reducible refine (der_Untime.calls kj7 (t358.extract 2 t358.size) t364 t365 _ A19.out).mono ?_); rintro e w44 ⟨rfl, hb⟩; refine ⟨_, rfl, ?_⟩; have n0_ := Aside0.mk (below_step (by repeat (first | (with_reducible first | exact HB.out | apply below_alloc | apply pw_below_drewN | apply below_drew1) | exact HB.out)) hb); clear HB; have HB := n0_; clear n0_; (try clear hb); (try clear hb2); (try clear hk); (try clear hi)) | ((with_reducible refine gate_callee (f := 14) rfl ?_); refine goesL_ (some 65) rfl rfl Try.func14 (by kernel_rfl) rfl #[.string (t360.extract 2 t360.size)] rfl (by (try simp only [List.map_toArray, List.map_cons, List.map_nil]); first | done | rfl | (simp only [List.length_drop, List.length_take]; rfl)) ?_; (with_reducible refine (der_Untime.calls kj7 (t360.extract 2 t360.size) t366 t367 _ A21.out).mono ?_); rintro e w45 ⟨rfl, hb⟩; refine ⟨_, rfl, ?_⟩; have n0_ := Aside0.mk (below_step (by repeat (first | (with_reducible first | exact HB.out | apply below_alloc | apply pw_below_drewN | apply below_drew1) | exact HB.out)) hb); clear HB; have HB := n0_; clear n0_; (try clear hb); (try clear hb2); (try clear hk); (try clear hi)) | ((with_reducible refine gate_callee (f := 16) rfl ?_); refine goesL_ (some 75) rfl rfl Try.func16 (by kernel_rfl) rfl #[.int .i64 t365] rfl (by (try simp only [List.map_toArray, List.map_cons, List.map_nil]); first | done | rfl | (simp only [List.length_drop, List.length_take]; rfl)) ?_; (with_reducible refine (halberdlaw0_Num.calls t365 t368 _ A23.out).mono ?_); rintro e w' ⟨rfl, ⟨nd, rfl⟩⟩; refine ⟨_, rfl, ?_⟩) | (go_at_call 16; (with_reducible refine (halberdlaw0_Num.calls t367 t369 _ A26.out).mono ?_); rintro e w' ⟨rfl, ⟨nd, rfl⟩⟩))
              go_ret
              exact ⟨by first | rfl | (simp [errW_none, errW_some] <;> rfl) | (simp only [← hji5]; first | rfl | (simp [errW_none, errW_some] <;> rfl)) | (simp [*, errW_none, errW_some] <;> rfl), by repeat (first | (with_reducible first | exact HB.out | apply below_alloc | apply pw_below_drewN | apply below_drew1) | exact HB.out)⟩
             ·rw [if_neg c43] at H
              have c43b0 : ((wrap64 (Int.tmod (IntKind.u64.wrap (a0)) 2524608000)) == ji5) = false := beq_eq_false_iff_ne.mpr c43
              have c43b1 : ((wrap64 (Int.tmod (IntKind.u64.wrap (a0)) 2524608000)) != ji5) = true := bne_iff_ne.mpr c43
              obtain rfl := Option.some.inj H
              go_wp2_with (first | ((with_reducible refine gate_callee (f := 14) rfl ?_); refine goesL_ (some 59) rfl rfl Try.func14 (by kernel_rfl) rfl #[.string (t358.extract 2 t358.size)] rfl (by (try simp only [List.map_toArray, List.map_cons, List.map_nil]); first | done | rfl | (simp only [List.length_drop, List.length_take]; rfl)) ?_; (with_reducible refine (der_Untime.calls kj7 (t358.extract 2 t358.size) t364 t365 _ A19.out).mono ?_); rintro e w46 ⟨rfl, hb⟩; refine ⟨_, rfl, ?_⟩; have n0_ := Aside0.mk (below_step (by repeat (first | (with_reducible first | exact HB.out | apply below_alloc | apply pw_below_drewN | apply below_drew1) | exact HB.out)) hb); clear HB; have HB := n0_; clear n0_; (try clear hb); (try clear hb2); (try clear hk); (try clear hi)) | ((with_reducible refine gate_callee (f := 14) rfl ?_); refine goesL_ (some 65) rfl rfl Try.func14 (by kernel_rfl) rfl #[.string (t360.extract 2 t360.size)] rfl (by (try simp only [List.map_toArray, List.map_cons, List.map_nil]); first | done | rfl | (simp only [List.length_drop, List.length_take]; rfl)) ?_; (with_reducible refine (der_Untime.calls kj7 (t360.extract 2 t360.size) t366 t367 _ A21.out).mono ?_); rintro e w47 ⟨rfl, hb⟩; refine ⟨_, rfl, ?_⟩; have n0_ := Aside0.mk (below_step (by repeat (first | (with_reducible first | exact HB.out | apply below_alloc | apply pw_below_drewN | apply below_drew1) | exact HB.out)) hb); clear HB; have HB := n0_; clear n0_; (try clear hb); (try clear hb2); (try clear hk); (try clear hi)) | ((with_reducible refine gate_callee (f := 16) rfl ?_); refine goesL_ (some 75) rfl rfl Try.func16 (by kernel_rfl) rfl #[.int .i64 t365] rfl (by (try simp only [List.map_toArray, List.map_cons, List.map_nil]); first | done | rfl | (simp only [List.length_drop, List.length_take]; rfl)) ?_; (with_reducible refine (halberdlaw0_Num.calls t365 t368 _ A23.out).mono ?_); rintro e w' ⟨rfl, ⟨nd, rfl⟩⟩; refine ⟨_, rfl, ?_⟩) | (go_at_call 16; (with_reducible refine (halberdlaw0_Num.calls t367 t369 _ A26.out).mono ?_); rintro e w' ⟨rfl, ⟨nd, rfl⟩⟩))
              go_ret
              exact ⟨by first | rfl | (simp [errW_none, errW_some] <;> rfl) | (simp only [← hji5]; first | rfl | (simp [errW_none, errW_some] <;> rfl)) | (simp [*, errW_none, errW_some] <;> rfl), by repeat (first | (with_reducible first | exact HB.out | apply below_alloc | apply pw_below_drewN | apply below_drew1) | exact HB.out)⟩
           ·rw [if_neg c28] at H
            have c28b0 : (t366 == ji5) = false := beq_eq_false_iff_ne.mpr c28
            have c28b1 : (t366 != ji5) = true := bne_iff_ne.mpr c28
            exact absurd ((Option.some.inj H).trans hr.out) (by decide)
          ·rw [if_neg c27] at H
           have c27b0 : (t369 == 0) = false := beq_eq_false_iff_ne.mpr c27
           have c27b1 : (t369 != 0) = true := bne_iff_ne.mpr c27
           exact absurd ((Option.some.inj H).trans hr.out) (by decide)
         ·rw [if_neg c25] at H
          have c25b0 : (t364 == (wrap64 (Int.tmod (IntKind.u64.wrap (a0)) 2524608000))) = false := beq_eq_false_iff_ne.mpr c25
          have c25b1 : (t364 != (wrap64 (Int.tmod (IntKind.u64.wrap (a0)) 2524608000))) = true := bne_iff_ne.mpr c25
          exact absurd ((Option.some.inj H).trans hr.out) (by decide)
        ·rw [if_neg c24] at H
         have c24b0 : (t368 == 0) = false := beq_eq_false_iff_ne.mpr c24
         have c24b1 : (t368 != 0) = true := bne_iff_ne.mpr c24
         exact absurd ((Option.some.inj H).trans hr.out) (by decide)
       ·rw [if_neg c22] at H
        have c22b0 : decide (946684800 ≤ ji5) = false := decide_eq_false c22
        clear c22
        replace H := Option.bind_eq_some_iff.mp H
        obtain ⟨t370, A480, H⟩ := H
        replace H : (if t370 = 0 then (if t364 = (wrap64 (Int.tmod (IntKind.u64.wrap (a0)) 2524608000)) then ((halberdlaw0_Num.f t367).bind fun t371 => (if t371 = 0 then (if t366 = ji5 then (if (wrap64 (Int.tmod (IntKind.u64.wrap (a0)) 2524608000)) ≥ 946684800 then (if (wrap64 (Int.tmod (IntKind.u64.wrap (a0)) 2524608000)) = ji5 then (some (t358.toList == t360.toList)) else (some (!(t358.toList == t360.toList)))) else (if (wrap64 (Int.tmod (IntKind.u64.wrap (a0)) 2524608000)) < ji5 then (if (Op.bytesLess t358.toList t360.toList) = true then (if (wrap64 (Int.tmod (IntKind.u64.wrap (a0)) 2524608000)) = ji5 then (some (t358.toList == t360.toList)) else (some (!(t358.toList == t360.toList)))) else (some false)) else (if (Op.bytesLess t358.toList t360.toList) = true then (some false) else (if (wrap64 (Int.tmod (IntKind.u64.wrap (a0)) 2524608000)) = ji5 then (some (t358.toList == t360.toList)) else (some (!(t358.toList == t360.toList))))))) else (some false)) else (some false))) else (some false)) else (some false)) = some r := H
        have A48 := Aside0.mk A480
        clear A480
        by_cases c49 : t370 = 0
        ·rw [if_pos c49] at H
         have c49b0 : (t370 == 0) = true := beq_iff_eq.mpr c49
         have c49b1 : (t370 != 0) = false := bne_eq_false_iff_eq.mpr c49
         clear c49
         by_cases c50 : t364 = (wrap64 (Int.tmod (IntKind.u64.wrap (a0)) 2524608000))
         ·rw [if_pos c50] at H
          have c50b0 : (t364 == (wrap64 (Int.tmod (IntKind.u64.wrap (a0)) 2524608000))) = true := beq_iff_eq.mpr c50
          have c50b1 : (t364 != (wrap64 (Int.tmod (IntKind.u64.wrap (a0)) 2524608000))) = false := bne_eq_false_iff_eq.mpr c50
          clear c50
          replace H := Option.bind_eq_some_iff.mp H
          obtain ⟨t371, A510, H⟩ := H
          replace H : (if t371 = 0 then (if t366 = ji5 then (if (wrap64 (Int.tmod (IntKind.u64.wrap (a0)) 2524608000)) ≥ 946684800 then (if (wrap64 (Int.tmod (IntKind.u64.wrap (a0)) 2524608000)) = ji5 then (some (t358.toList == t360.toList)) else (some (!(t358.toList == t360.toList)))) else (if (wrap64 (Int.tmod (IntKind.u64.wrap (a0)) 2524608000)) < ji5 then (if (Op.bytesLess t358.toList t360.toList) = true then (if (wrap64 (Int.tmod (IntKind.u64.wrap (a0)) 2524608000)) = ji5 then (some (t358.toList == t360.toList)) else (some (!(t358.toList == t360.toList)))) else (some false)) else (if (Op.bytesLess t358.toList t360.toList) = true then (some false) else (if (wrap64 (Int.tmod (IntKind.u64.wrap (a0)) 2524608000)) = ji5 then (some (t358.toList == t360.toList)) else (some (!(t358.toList == t360.toList))))))) else (some false)) else (some false)) = some r := H
          have A51 := Aside0.mk A510
          clear A510
          by_cases c52 : t371 = 0
          ·rw [if_pos c52] at H
           have c52b0 : (t371 == 0) = true := beq_iff_eq.mpr c52
           have c52b1 : (t371 != 0) = false := bne_eq_false_iff_eq.mpr c52
           clear c52
           by_cases c53 : t366 = ji5
           ·rw [if_pos c53] at H
            have c53b0 : (t366 == ji5) = true := beq_iff_eq.mpr c53
            have c53b1 : (t366 != ji5) = false := bne_eq_false_iff_eq.mpr c53
            clear c53
            by_cases c54 : (wrap64 (Int.tmod (IntKind.u64.wrap (a0)) 2524608000)) ≥ 946684800
            ·rw [if_pos c54] at H
             have c54b0 : decide (946684800 ≤ (wrap64 (Int.tmod (IntKind.u64.wrap (a0)) 2524608000))) = true := decide_eq_true c54
             clear c54
             by_cases c55 : (wrap64 (Int.tmod (IntKind.u64.wrap (a0)) 2524608000)) = ji5
             ·rw [if_pos c55] at H
              have c55b0 : ((wrap64 (Int.tmod (IntKind.u64.wrap (a0)) 2524608000)) == ji5) = true := beq_iff_eq.mpr c55
              have c55b1 : ((wrap64 (Int.tmod (IntKind.u64.wrap (a0)) 2524608000)) != ji5) = false := bne_eq_false_iff_eq.mpr c55
              clear c55
              obtain rfl := Option.some.inj H
              go_wp2_with (first | ((with_reducible refine gate_callee (f := 14) rfl ?_); refine goesL_ (some 59) rfl rfl Try.func14 (by kernel_rfl) rfl #[.string (t358.extract 2 t358.size)] rfl (by (try simp only [List.map_toArray, List.map_cons, List.map_nil]); first | done | rfl | (simp only [List.length_drop, List.length_take]; rfl)) ?_; (with_reducible refine (der_Untime.calls kj7 (t358.extract 2 t358.size) t364 t365 _ A19.out).mono ?_); rintro e w56 ⟨rfl, hb⟩; refine ⟨_, rfl, ?_⟩; have n0_ := Aside0.mk (below_step (by repeat (first | (with_reducible first | exact HB.out | apply below_alloc | apply pw_below_drewN | apply below_drew1) | exact HB.out)) hb); clear HB; have HB := n0_; clear n0_; (try clear hb); (try clear hb2); (try clear hk); (try clear hi)) | ((with_reducible refine gate_callee (f := 14) rfl ?_); refine goesL_ (some 65) rfl rfl Try.func14 (by kernel_rfl) rfl #[.string (t360.extract 2 t360.size)] rfl (by (try simp only [List.map_toArray, List.map_cons, List.map_nil]); first | done | rfl | (simp only [List.length_drop, List.length_take]; rfl)) ?_; (with_reducible refine (der_Untime.calls kj7 (t360.extract 2 t360.size) t366 t367 _ A21.out).mono ?_); rintro e w57 ⟨rfl, hb⟩; refine ⟨_, rfl, ?_⟩; have n0_ := Aside0.mk (below_step (by repeat (first | (with_reducible first | exact HB.out | apply below_alloc | apply pw_below_drewN | apply below_drew1) | exact HB.out)) hb); clear HB; have HB := n0_; clear n0_; (try clear hb); (try clear hb2); (try clear hk); (try clear hi)) | ((with_reducible refine gate_callee (f := 16) rfl ?_); refine goesL_ (some 75) rfl rfl Try.func16 (by kernel_rfl) rfl #[.int .i64 t365] rfl (by (try simp only [List.map_toArray, List.map_cons, List.map_nil]); first | done | rfl | (simp only [List.length_drop, List.length_take]; rfl)) ?_; (with_reducible refine (halberdlaw0_Num.calls t365 t370 _ A48.out).mono ?_); rintro e w' ⟨rfl, ⟨nd, rfl⟩⟩; refine ⟨_, rfl, ?_⟩) | (go_at_call 16; (with_reducible refine (halberdlaw0_Num.calls t367 t371 _ A51.out).mono ?_); rintro e w' ⟨rfl, ⟨nd, rfl⟩⟩))
              go_ret
              exact ⟨by first | rfl | (simp [errW_none, errW_some] <;> rfl) | (simp only [← hji5]; first | rfl | (simp [errW_none, errW_some] <;> rfl)) | (simp [*, errW_none, errW_some] <;> rfl), by repeat (first | (with_reducible first | exact HB.out | apply below_alloc | apply pw_below_drewN | apply below_drew1) | exact HB.out)⟩
             ·rw [if_neg c55] at H
              have c55b0 : ((wrap64 (Int.tmod (IntKind.u64.wrap (a0)) 2524608000)) == ji5) = false := beq_eq_false_iff_ne.mpr c55
              have c55b1 : ((wrap64 (Int.tmod (IntKind.u64.wrap (a0)) 2524608000)) != ji5) = true := bne_iff_ne.mpr c55
              obtain rfl := Option.some.inj H
              go_wp2_with (first | ((with_reducible refine gate_callee (f := 14) rfl ?_); refine goesL_ (some 59) rfl rfl Try.func14 (by kernel_rfl) rfl #[.string (t358.extract 2 t358.size)] rfl (by (try simp only [List.map_toArray, List.map_cons, List.map_nil]); first | done | rfl | (simp only [List.length_drop, List.length_take]; rfl)) ?_; (with_reducible refine (der_Untime.calls kj7 (t358.extract 2 t358.size) t364 t365 _ A19.out).mono ?_); rintro e w58 ⟨rfl, hb⟩; refine ⟨_, rfl, ?_⟩; have n0_ := Aside0.mk (below_step (by repeat (first | (with_reducible first | exact HB.out | apply below_alloc | apply pw_below_drewN | apply below_drew1) | exact HB.out)) hb); clear HB; have HB := n0_; clear n0_; (try clear hb); (try clear hb2); (try clear hk); (try clear hi)) | ((with_reducible refine gate_callee (f := 14) rfl ?_); refine goesL_ (some 65) rfl rfl Try.func14 (by kernel_rfl) rfl #[.string (t360.extract 2 t360.size)] rfl (by (try simp only [List.map_toArray, List.map_cons, List.map_nil]); first | done | rfl | (simp only [List.length_drop, List.length_take]; rfl)) ?_; (with_reducible refine (der_Untime.calls kj7 (t360.extract 2 t360.size) t366 t367 _ A21.out).mono ?_); rintro e w59 ⟨rfl, hb⟩; refine ⟨_, rfl, ?_⟩; have n0_ := Aside0.mk (below_step (by repeat (first | (with_reducible first | exact HB.out | apply below_alloc | apply pw_below_drewN | apply below_drew1) | exact HB.out)) hb); clear HB; have HB := n0_; clear n0_; (try clear hb); (try clear hb2); (try clear hk); (try clear hi)) | ((with_reducible refine gate_callee (f := 16) rfl ?_); refine goesL_ (some 75) rfl rfl Try.func16 (by kernel_rfl) rfl #[.int .i64 t365] rfl (by (try simp only [List.map_toArray, List.map_cons, List.map_nil]); first | done | rfl | (simp only [List.length_drop, List.length_take]; rfl)) ?_; (with_reducible refine (halberdlaw0_Num.calls t365 t370 _ A48.out).mono ?_); rintro e w' ⟨rfl, ⟨nd, rfl⟩⟩; refine ⟨_, rfl, ?_⟩) | (go_at_call 16; (with_reducible refine (halberdlaw0_Num.calls t367 t371 _ A51.out).mono ?_); rintro e w' ⟨rfl, ⟨nd, rfl⟩⟩))
              go_ret
              exact ⟨by first | rfl | (simp [errW_none, errW_some] <;> rfl) | (simp only [← hji5]; first | rfl | (simp [errW_none, errW_some] <;> rfl)) | (simp [*, errW_none, errW_some] <;> rfl), by repeat (first | (with_reducible first | exact HB.out | apply below_alloc | apply pw_below_drewN | apply below_drew1) | exact HB.out)⟩
            ·rw [if_neg c54] at H
             have c54b0 : decide (946684800 ≤ (wrap64 (Int.tmod (IntKind.u64.wrap (a0)) 2524608000))) = false := decide_eq_false c54
             clear c54
             by_cases c60 : (wrap64 (Int.tmod (IntKind.u64.wrap (a0)) 2524608000)) < ji5
             ·rw [if_pos c60] at H
              have c60b0 : decide ((wrap64 (Int.tmod (IntKind.u64.wrap (a0)) 2524608000)) < ji5) = true := decide_eq_true c60
              clear c60
              by_cases c61 : (Op.bytesLess t358.toList t360.toList) = true
              ·rw [if_pos c61] at H
               have c61b0 : (Op.bytesLess t358.toList t360.toList) = true := c61
               clear c61
               by_cases c62 : (wrap64 (Int.tmod (IntKind.u64.wrap (a0)) 2524608000)) = ji5
               ·rw [if_pos c62] at H
                have c62b0 : ((wrap64 (Int.tmod (IntKind.u64.wrap (a0)) 2524608000)) == ji5) = true := beq_iff_eq.mpr c62
                have c62b1 : ((wrap64 (Int.tmod (IntKind.u64.wrap (a0)) 2524608000)) != ji5) = false := bne_eq_false_iff_eq.mpr c62
                clear c62
                obtain rfl := Option.some.inj H
                go_wp2_with (first | ((with_reducible refine gate_callee (f := 14) rfl ?_); refine goesL_ (some 59) rfl rfl Try.func14 (by kernel_rfl) rfl #[.string (t358.extract 2 t358.size)] rfl (by (try simp only [List.map_toArray, List.map_cons, List.map_nil]); first | done | rfl | (simp only [List.length_drop, List.length_take]; rfl)) ?_; (with_reducible refine (der_Untime.calls kj7 (t358.extract 2 t358.size) t364 t365 _ A19.out).mono ?_); rintro e w63 ⟨rfl, hb⟩; refine ⟨_, rfl, ?_⟩; have n0_ := Aside0.mk (below_step (by repeat (first | (with_reducible first | exact HB.out | apply below_alloc | apply pw_below_drewN | apply below_drew1) | exact HB.out)) hb); clear HB; have HB := n0_; clear n0_; (try clear hb); (try clear hb2); (try clear hk); (try clear hi)) | ((with_reducible refine gate_callee (f := 14) rfl ?_); refine goesL_ (some 65) rfl rfl Try.func14 (by kernel_rfl) rfl #[.string (t360.extract 2 t360.size)] rfl (by (try simp only [List.map_toArray, List.map_cons, List.map_nil]); first | done | rfl | (simp only [List.length_drop, List.length_take]; rfl)) ?_; (with_reducible refine (der_Untime.calls kj7 (t360.extract 2 t360.size) t366 t367 _ A21.out).mono ?_); rintro e w64 ⟨rfl, hb⟩; refine ⟨_, rfl, ?_⟩; have n0_ := Aside0.mk (below_step (by repeat (first | (with_reducible first | exact HB.out | apply below_alloc | apply pw_below_drewN | apply below_drew1) | exact HB.out)) hb); clear HB; have HB := n0_; clear n0_; (try clear hb); (try clear hb2); (try clear hk); (try clear hi)) | ((with_reducible refine gate_callee (f := 16) rfl ?_); refine goesL_ (some 75) rfl rfl Try.func16 (by kernel_rfl) rfl #[.int .i64 t365] rfl (by (try simp only [List.map_toArray, List.map_cons, List.map_nil]); first | done | rfl | (simp only [List.length_drop, List.length_take]; rfl)) ?_; (with_reducible refine (halberdlaw0_Num.calls t365 t370 _ A48.out).mono ?_); rintro e w' ⟨rfl, ⟨nd, rfl⟩⟩; refine ⟨_, rfl, ?_⟩) | (go_at_call 16; (with_reducible refine (halberdlaw0_Num.calls t367 t371 _ A51.out).mono ?_); rintro e w' ⟨rfl, ⟨nd, rfl⟩⟩))
                go_ret
                exact ⟨by first | rfl | (simp [errW_none, errW_some] <;> rfl) | (simp only [← hji5]; first | rfl | (simp [errW_none, errW_some] <;> rfl)) | (simp [*, errW_none, errW_some] <;> rfl), by repeat (first | (with_reducible first | exact HB.out | apply below_alloc | apply pw_below_drewN | apply below_drew1) | exact HB.out)⟩
               ·rw [if_neg c62] at H
                have c62b0 : ((wrap64 (Int.tmod (IntKind.u64.wrap (a0)) 2524608000)) == ji5) = false := beq_eq_false_iff_ne.mpr c62
                have c62b1 : ((wrap64 (Int.tmod (IntKind.u64.wrap (a0)) 2524608000)) != ji5) = true := bne_iff_ne.mpr c62
                obtain rfl := Option.some.inj H
                go_wp2_with (first | ((with_reducible refine gate_callee (f := 14) rfl ?_); refine goesL_ (some 59) rfl rfl Try.func14 (by kernel_rfl) rfl #[.string (t358.extract 2 t358.size)] rfl (by (try simp only [List.map_toArray, List.map_cons, List.map_nil]); first | done | rfl | (simp only [List.length_drop, List.length_take]; rfl)) ?_; (with_reducible refine (der_Untime.calls kj7 (t358.extract 2 t358.size) t364 t365 _ A19.out).mono ?_); rintro e w65 ⟨rfl, hb⟩; refine ⟨_, rfl, ?_⟩; have n0_ := Aside0.mk (below_step (by repeat (first | (with_reducible first | exact HB.out | apply below_alloc | apply pw_below_drewN | apply below_drew1) | exact HB.out)) hb); clear HB; have HB := n0_; clear n0_; (try clear hb); (try clear hb2); (try clear hk); (try clear hi)) | ((with_reducible refine gate_callee (f := 14) rfl ?_); refine goesL_ (some 65) rfl rfl Try.func14 (by kernel_rfl) rfl #[.string (t360.extract 2 t360.size)] rfl (by (try simp only [List.map_toArray, List.map_cons, List.map_nil]); first | done | rfl | (simp only [List.length_drop, List.length_take]; rfl)) ?_; (with_reducible refine (der_Untime.calls kj7 (t360.extract 2 t360.size) t366 t367 _ A21.out).mono ?_); rintro e w66 ⟨rfl, hb⟩; refine ⟨_, rfl, ?_⟩; have n0_ := Aside0.mk (below_step (by repeat (first | (with_reducible first | exact HB.out | apply below_alloc | apply pw_below_drewN | apply below_drew1) | exact HB.out)) hb); clear HB; have HB := n0_; clear n0_; (try clear hb); (try clear hb2); (try clear hk); (try clear hi)) | ((with_reducible refine gate_callee (f := 16) rfl ?_); refine goesL_ (some 75) rfl rfl Try.func16 (by kernel_rfl) rfl #[.int .i64 t365] rfl (by (try simp only [List.map_toArray, List.map_cons, List.map_nil]); first | done | rfl | (simp only [List.length_drop, List.length_take]; rfl)) ?_; (with_reducible refine (halberdlaw0_Num.calls t365 t370 _ A48.out).mono ?_); rintro e w' ⟨rfl, ⟨nd, rfl⟩⟩; refine ⟨_, rfl, ?_⟩) | (go_at_call 16; (with_reducible refine (halberdlaw0_Num.calls t367 t371 _ A51.out).mono ?_); rintro e w' ⟨rfl, ⟨nd, rfl⟩⟩))
                go_ret
                exact ⟨by first | rfl | (simp [errW_none, errW_some] <;> rfl) | (simp only [← hji5]; first | rfl | (simp [errW_none, errW_some] <;> rfl)) | (simp [*, errW_none, errW_some] <;> rfl), by repeat (first | (with_reducible first | exact HB.out | apply below_alloc | apply pw_below_drewN | apply below_drew1) | exact HB.out)⟩
              ·rw [if_neg c61] at H
               have c61b0 : (Op.bytesLess t358.toList t360.toList) = false := by simpa using c61
               clear c61
               exact absurd ((Option.some.inj H).trans hr.out) (by decide)
             ·rw [if_neg c60] at H
              have c60b0 : decide ((wrap64 (Int.tmod (IntKind.u64.wrap (a0)) 2524608000)) < ji5) = false := decide_eq_false c60
              clear c60
              by_cases c67 : (Op.bytesLess t358.toList t360.toList) = true
              ·rw [if_pos c67] at H
               have c67b0 : (Op.bytesLess t358.toList t360.toList) = true := c67
               clear c67
               exact absurd ((Option.some.inj H).trans hr.out) (by decide)
              ·rw [if_neg c67] at H
               have c67b0 : (Op.bytesLess t358.toList t360.toList) = false := by simpa using c67
               clear c67
               by_cases c68 : (wrap64 (Int.tmod (IntKind.u64.wrap (a0)) 2524608000)) = ji5
               ·rw [if_pos c68] at H
                have c68b0 : ((wrap64 (Int.tmod (IntKind.u64.wrap (a0)) 2524608000)) == ji5) = true := beq_iff_eq.mpr c68
                have c68b1 : ((wrap64 (Int.tmod (IntKind.u64.wrap (a0)) 2524608000)) != ji5) = false := bne_eq_false_iff_eq.mpr c68
                clear c68
                obtain rfl := Option.some.inj H
                go_wp2_with (first | ((with_reducible refine gate_callee (f := 14) rfl ?_); refine goesL_ (some 59) rfl rfl Try.func14 (by kernel_rfl) rfl #[.string (t358.extract 2 t358.size)] rfl (by (try simp only [List.map_toArray, List.map_cons, List.map_nil]); first | done | rfl | (simp only [List.length_drop, List.length_take]; rfl)) ?_; (with_reducible refine (der_Untime.calls kj7 (t358.extract 2 t358.size) t364 t365 _ A19.out).mono ?_); rintro e w69 ⟨rfl, hb⟩; refine ⟨_, rfl, ?_⟩; have n0_ := Aside0.mk (below_step (by repeat (first | (with_reducible first | exact HB.out | apply below_alloc | apply pw_below_drewN | apply below_drew1) | exact HB.out)) hb); clear HB; have HB := n0_; clear n0_; (try clear hb); (try clear hb2); (try clear hk); (try clear hi)) | ((with_reducible refine gate_callee (f := 14) rfl ?_); refine goesL_ (some 65) rfl rfl Try.func14 (by kernel_rfl) rfl #[.string (t360.extract 2 t360.size)] rfl (by (try simp only [List.map_toArray, List.map_cons, List.map_nil]); first | done | rfl | (simp only [List.length_drop, List.length_take]; rfl)) ?_; (with_reducible refine (der_Untime.calls kj7 (t360.extract 2 t360.size) t366 t367 _ A21.out).mono ?_); rintro e w70 ⟨rfl, hb⟩; refine ⟨_, rfl, ?_⟩; have n0_ := Aside0.mk (below_step (by repeat (first | (with_reducible first | exact HB.out | apply below_alloc | apply pw_below_drewN | apply below_drew1) | exact HB.out)) hb); clear HB; have HB := n0_; clear n0_; (try clear hb); (try clear hb2); (try clear hk); (try clear hi)) | ((with_reducible refine gate_callee (f := 16) rfl ?_); refine goesL_ (some 75) rfl rfl Try.func16 (by kernel_rfl) rfl #[.int .i64 t365] rfl (by (try simp only [List.map_toArray, List.map_cons, List.map_nil]); first | done | rfl | (simp only [List.length_drop, List.length_take]; rfl)) ?_; (with_reducible refine (halberdlaw0_Num.calls t365 t370 _ A48.out).mono ?_); rintro e w' ⟨rfl, ⟨nd, rfl⟩⟩; refine ⟨_, rfl, ?_⟩) | (go_at_call 16; (with_reducible refine (halberdlaw0_Num.calls t367 t371 _ A51.out).mono ?_); rintro e w' ⟨rfl, ⟨nd, rfl⟩⟩))
                go_ret
                exact ⟨by first | rfl | (simp [errW_none, errW_some] <;> rfl) | (simp only [← hji5]; first | rfl | (simp [errW_none, errW_some] <;> rfl)) | (simp [*, errW_none, errW_some] <;> rfl), by repeat (first | (with_reducible first | exact HB.out | apply below_alloc | apply pw_below_drewN | apply below_drew1) | exact HB.out)⟩
               ·rw [if_neg c68] at H
                have c68b0 : ((wrap64 (Int.tmod (IntKind.u64.wrap (a0)) 2524608000)) == ji5) = false := beq_eq_false_iff_ne.mpr c68
                have c68b1 : ((wrap64 (Int.tmod (IntKind.u64.wrap (a0)) 2524608000)) != ji5) = true := bne_iff_ne.mpr c68
                obtain rfl := Option.some.inj H
                go_wp2_with (first | ((with_reducible refine gate_callee (f := 14) rfl ?_); refine goesL_ (some 59) rfl rfl Try.func14 (by kernel_rfl) rfl #[.string (t358.extract 2 t358.size)] rfl (by (try simp only [List.map_toArray, List.map_cons, List.map_nil]); first | done | rfl | (simp only [List.length_drop, List.length_take]; rfl)) ?_; (with_reducible refine (der_Untime.calls kj7 (t358.extract 2 t358.size) t364 t365 _ A19.out).mono ?_); rintro e w71 ⟨rfl, hb⟩; refine ⟨_, rfl, ?_⟩; have n0_ := Aside0.mk (below_step (by repeat (first | (with_reducible first | exact HB.out | apply below_alloc | apply pw_below_drewN | apply below_drew1) | exact HB.out)) hb); clear HB; have HB := n0_; clear n0_; (try clear hb); (try clear hb2); (try clear hk); (try clear hi)) | ((with_reducible refine gate_callee (f := 14) rfl ?_); refine goesL_ (some 65) rfl rfl Try.func14 (by kernel_rfl) rfl #[.string (t360.extract 2 t360.size)] rfl (by (try simp only [List.map_toArray, List.map_cons, List.map_nil]); first | done | rfl | (simp only [List.length_drop, List.length_take]; rfl)) ?_; (with_reducible refine (der_Untime.calls kj7 (t360.extract 2 t360.size) t366 t367 _ A21.out).mono ?_); rintro e w72 ⟨rfl, hb⟩; refine ⟨_, rfl, ?_⟩; have n0_ := Aside0.mk (below_step (by repeat (first | (with_reducible first | exact HB.out | apply below_alloc | apply pw_below_drewN | apply below_drew1) | exact HB.out)) hb); clear HB; have HB := n0_; clear n0_; (try clear hb); (try clear hb2); (try clear hk); (try clear hi)) | ((with_reducible refine gate_callee (f := 16) rfl ?_); refine goesL_ (some 75) rfl rfl Try.func16 (by kernel_rfl) rfl #[.int .i64 t365] rfl (by (try simp only [List.map_toArray, List.map_cons, List.map_nil]); first | done | rfl | (simp only [List.length_drop, List.length_take]; rfl)) ?_; (with_reducible refine (halberdlaw0_Num.calls t365 t370 _ A48.out).mono ?_); rintro e w' ⟨rfl, ⟨nd, rfl⟩⟩; refine ⟨_, rfl, ?_⟩) | (go_at_call 16; (with_reducible refine (halberdlaw0_Num.calls t367 t371 _ A51.out).mono ?_); rintro e w' ⟨rfl, ⟨nd, rfl⟩⟩))
                go_ret
                exact ⟨by first | rfl | (simp [errW_none, errW_some] <;> rfl) | (simp only [← hji5]; first | rfl | (simp [errW_none, errW_some] <;> rfl)) | (simp [*, errW_none, errW_some] <;> rfl), by repeat (first | (with_reducible first | exact HB.out | apply below_alloc | apply pw_below_drewN | apply below_drew1) | exact HB.out)⟩
           ·rw [if_neg c53] at H
            have c53b0 : (t366 == ji5) = false := beq_eq_false_iff_ne.mpr c53
            have c53b1 : (t366 != ji5) = true := bne_iff_ne.mpr c53
            exact absurd ((Option.some.inj H).trans hr.out) (by decide)
          ·rw [if_neg c52] at H
           have c52b0 : (t371 == 0) = false := beq_eq_false_iff_ne.mpr c52
           have c52b1 : (t371 != 0) = true := bne_iff_ne.mpr c52
           exact absurd ((Option.some.inj H).trans hr.out) (by decide)
         ·rw [if_neg c50] at H
          have c50b0 : (t364 == (wrap64 (Int.tmod (IntKind.u64.wrap (a0)) 2524608000))) = false := beq_eq_false_iff_ne.mpr c50
          have c50b1 : (t364 != (wrap64 (Int.tmod (IntKind.u64.wrap (a0)) 2524608000))) = true := bne_iff_ne.mpr c50
          exact absurd ((Option.some.inj H).trans hr.out) (by decide)
        ·rw [if_neg c49] at H
         have c49b0 : (t370 == 0) = false := beq_eq_false_iff_ne.mpr c49
         have c49b1 : (t370 != 0) = true := bne_iff_ne.mpr c49
         exact absurd ((Option.some.inj H).trans hr.out) (by decide)
      ·rw [if_neg c20] at H
       exact absurd H (by simp)
     ·rw [if_neg c18] at H
      exact absurd H (by simp)
 ·replace c4 := Bool.eq_false_iff.mpr c4
  subst c4
  have H1 : (some false) = some r := by rw [if_neg (show ¬ (false = true) by decide)] at H; exact H
  clear H
  have H := H1
  clear H1
  exact absurd ((Option.some.inj H).trans hr.out) (by decide)

/-- THE ONE PURE STATEMENT of halberdlaw13_DerDays: yours. -/
def halberdlaw13_DerDays.Pure : Prop := ∀ (a0 : Int) (a1 : Int), (Lit.int .i64 a0).wf = true → (Lit.int .i64 a1).wf = true → ∃ k, halberdlaw13_DerDays.f k a0 a1 = some true
theorem halberdlaw13_DerDays.walk (P : halberdlaw13_DerDays.Pure) (a0 : Int) (a1 : Int) (w : World) (w0 : (Lit.int .i64 a0).wf = true) (w1 : (Lit.int .i64 a1).wf = true) :
  Calls Try.prog 5 #[.int .i64 a0, .int .i64 a1] w fun e w' => e = .returned (.bool true) ∧ Below w.heap.size w w' := by
 obtain ⟨k, h⟩ := P a0 a1 w0 w1
 refine (halberdlaw13_DerDays.calls k a0 a1 true w h ⟨rfl⟩).mono ?_
 rintro e w' ⟨rfl, hd⟩
 exact ⟨rfl, hd⟩

end Go.Proofs.Ytonemdclfgckoaa.X
