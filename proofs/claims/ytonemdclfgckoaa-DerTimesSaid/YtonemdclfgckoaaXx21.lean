-- Written by a program of this session (wip/tools/xprint.py), over the kit's printer.
import Derived.Test.YtonemdclfgckoaaXx0
import Derived.Test.YtonemdclfgckoaaXx4
import Derived.Test.YtonemdclfgckoaaXx8
import Derived.Test.YtonemdclfgckoaaXx10
import Derived.Test.YtonemdclfgckoaaXx12
import Derived.Test.YtonemdclfgckoaaXx14
import Derived.Test.YtonemdclfgckoaaXx15
import Derived.Test.YtonemdclfgckoaaXx16
import Derived.Test.YtonemdclfgckoaaXx20
namespace Go.Proofs.Ytonemdclfgckoaa.X
open Go.RowKit Go.Proofs.YtonemdclfgckoaaW.PrintWords Go.Proofs.YtonemdclfgckoaaW.PrintLast Go.Proofs.YtonemdclfgckoaaW.PrintMore
attribute [local go_sem] max2_int min2_int max_two min_two max_three min_three max_four min_four   -- for this text's walks alone
set_option linter.unusedVariables false
set_option linter.unusedSimpArgs false

/-! ### halberdlaw13_DerTimes: function 3 -/
def halberdlaw13_DerTimes.f (k : Nat) (a0 : ByteArray) (a1 : Int) (a2 : ByteArray) : Option (Bool) := (der_Integer.f k a0).bind fun bt299 => ((halberdref13_Integer.f k a0).bind fun bt301 => ((der_Time.f k a1).bind fun bt303 => ((halberdref13_Time.f k a1).bind fun bt305 => ((der_Untime.f k a2).bind fun bt307 => ((halberdref13_Untime.f k a2).bind fun bt309 => (if bt299.1.toList = bt301.1.toList then ((halberdlaw0_Num.f bt299.2).bind fun t311 => (if t311 = bt301.2 then (if bt303.1.toList = bt305.1.toList then ((halberdlaw0_Num.f bt303.2).bind fun t312 => (if t312 = bt305.2 then (if bt307.1 = bt309.1 then ((halberdlaw0_Num.f bt307.2).bind fun t313 => (if t313 = bt309.2 then ((halberdlaw13_awake.f).bind fun t314 => (some t314)) else (some false))) else (some false)) else (some false))) else (some false)) else (some false))) else (some false)))))))
theorem halberdlaw13_DerTimes.mono : ∀ a0 a1 a2 k,LeO (halberdlaw13_DerTimes.f k a0 a1 a2) (halberdlaw13_DerTimes.f (k + 1) a0 a1 a2) := by
 intro a0 a1 a2 k
 unfold halberdlaw13_DerTimes.f
 repeat' first
   | (with_reducible exact der_Integer.mono _ _)
   | (with_reducible exact der_Time.mono _ _)
   | (with_reducible exact der_Untime.mono _ _)
   | (with_reducible exact halberdref13_Integer.mono _ _)
   | (with_reducible exact halberdref13_Time.mono _ _)
   | (with_reducible exact halberdref13_Untime.mono _ _)
   | (with_reducible exact LeO.refl _)
   | (with_reducible exact LeO.none _)
   | (with_reducible refine LeO.ite ?_ ?_)
   | (with_reducible refine LeO.bind ?_ (fun _ => ?_))
   | exact der_Integer.mono _ _
   | exact der_Time.mono _ _
   | exact der_Untime.mono _ _
   | exact halberdref13_Integer.mono _ _
   | exact halberdref13_Time.mono _ _
   | exact halberdref13_Untime.mono _ _
   | exact LeO.none _
   | refine LeO.ite ?_ ?_
   | refine LeO.bind ?_ (fun _ => ?_)
set_option maxHeartbeats 8000000 in
set_option maxRecDepth 100000 in
theorem halberdlaw13_DerTimes.calls (k : Nat) (a0 : ByteArray) (a1 : Int) (a2 : ByteArray) (r : Bool) (w : World) (h : halberdlaw13_DerTimes.f k a0 a1 a2 = some r) (hr : Aside0 (r = true)) :
  Calls Try.prog 3 #[.string a0,.int .i64 a1,.string a2] w fun e w' => e = .returned (.bool r) ∧ Below w.heap.size w w' := by
 have HB := Aside0.mk (Below.refl w.heap.size w)
 have H : ((der_Integer.f k a0).bind fun bt299 => ((halberdref13_Integer.f k a0).bind fun bt301 => ((der_Time.f k a1).bind fun bt303 => ((halberdref13_Time.f k a1).bind fun bt305 => ((der_Untime.f k a2).bind fun bt307 => ((halberdref13_Untime.f k a2).bind fun bt309 => (if bt299.1.toList = bt301.1.toList then ((halberdlaw0_Num.f bt299.2).bind fun t311 => (if t311 = bt301.2 then (if bt303.1.toList = bt305.1.toList then ((halberdlaw0_Num.f bt303.2).bind fun t312 => (if t312 = bt305.2 then (if bt307.1 = bt309.1 then ((halberdlaw0_Num.f bt307.2).bind fun t313 => (if t313 = bt309.2 then ((halberdlaw13_awake.f).bind fun t314 => (some t314)) else (some false))) else (some false)) else (some false))) else (some false)) else (some false))) else (some false)))))))) = some r := h
 clear h
 replace H := Option.bind_eq_some_iff.mp H
 obtain ⟨⟨t299,t300⟩,A40,H⟩ := H
 replace H : ((halberdref13_Integer.f k a0).bind fun bt301 => ((der_Time.f k a1).bind fun bt303 => ((halberdref13_Time.f k a1).bind fun bt305 => ((der_Untime.f k a2).bind fun bt307 => ((halberdref13_Untime.f k a2).bind fun bt309 => (if t299.toList = bt301.1.toList then ((halberdlaw0_Num.f t300).bind fun t311 => (if t311 = bt301.2 then (if bt303.1.toList = bt305.1.toList then ((halberdlaw0_Num.f bt303.2).bind fun t312 => (if t312 = bt305.2 then (if bt307.1 = bt309.1 then ((halberdlaw0_Num.f bt307.2).bind fun t313 => (if t313 = bt309.2 then ((halberdlaw13_awake.f).bind fun t314 => (some t314)) else (some false))) else (some false)) else (some false))) else (some false)) else (some false))) else (some false))))))) = some r := H
 have A4 := Aside0.mk A40
 clear A40
 replace H := Option.bind_eq_some_iff.mp H
 obtain ⟨⟨t301,t302⟩,A50,H⟩ := H
 replace H : ((der_Time.f k a1).bind fun bt303 => ((halberdref13_Time.f k a1).bind fun bt305 => ((der_Untime.f k a2).bind fun bt307 => ((halberdref13_Untime.f k a2).bind fun bt309 => (if t299.toList = t301.toList then ((halberdlaw0_Num.f t300).bind fun t311 => (if t311 = t302 then (if bt303.1.toList = bt305.1.toList then ((halberdlaw0_Num.f bt303.2).bind fun t312 => (if t312 = bt305.2 then (if bt307.1 = bt309.1 then ((halberdlaw0_Num.f bt307.2).bind fun t313 => (if t313 = bt309.2 then ((halberdlaw13_awake.f).bind fun t314 => (some t314)) else (some false))) else (some false)) else (some false))) else (some false)) else (some false))) else (some false)))))) = some r := H
 have A5 := Aside0.mk A50
 clear A50
 replace H := Option.bind_eq_some_iff.mp H
 obtain ⟨⟨t303,t304⟩,A60,H⟩ := H
 replace H : ((halberdref13_Time.f k a1).bind fun bt305 => ((der_Untime.f k a2).bind fun bt307 => ((halberdref13_Untime.f k a2).bind fun bt309 => (if t299.toList = t301.toList then ((halberdlaw0_Num.f t300).bind fun t311 => (if t311 = t302 then (if t303.toList = bt305.1.toList then ((halberdlaw0_Num.f t304).bind fun t312 => (if t312 = bt305.2 then (if bt307.1 = bt309.1 then ((halberdlaw0_Num.f bt307.2).bind fun t313 => (if t313 = bt309.2 then ((halberdlaw13_awake.f).bind fun t314 => (some t314)) else (some false))) else (some false)) else (some false))) else (some false)) else (some false))) else (some false))))) = some r := H
 have A6 := Aside0.mk A60
 clear A60
 replace H := Option.bind_eq_some_iff.mp H
 obtain ⟨⟨t305,t306⟩,A70,H⟩ := H
 replace H : ((der_Untime.f k a2).bind fun bt307 => ((halberdref13_Untime.f k a2).bind fun bt309 => (if t299.toList = t301.toList then ((halberdlaw0_Num.f t300).bind fun t311 => (if t311 = t302 then (if t303.toList = t305.toList then ((halberdlaw0_Num.f t304).bind fun t312 => (if t312 = t306 then (if bt307.1 = bt309.1 then ((halberdlaw0_Num.f bt307.2).bind fun t313 => (if t313 = bt309.2 then ((halberdlaw13_awake.f).bind fun t314 => (some t314)) else (some false))) else (some false)) else (some false))) else (some false)) else (some false))) else (some false)))) = some r := H
 have A7 := Aside0.mk A70
 clear A70
 replace H := Option.bind_eq_some_iff.mp H
 obtain ⟨⟨t307,t308⟩,A80,H⟩ := H
 replace H : ((halberdref13_Untime.f k a2).bind fun bt309 => (if t299.toList = t301.toList then ((halberdlaw0_Num.f t300).bind fun t311 => (if t311 = t302 then (if t303.toList = t305.toList then ((halberdlaw0_Num.f t304).bind fun t312 => (if t312 = t306 then (if t307 = bt309.1 then ((halberdlaw0_Num.f t308).bind fun t313 => (if t313 = bt309.2 then ((halberdlaw13_awake.f).bind fun t314 => (some t314)) else (some false))) else (some false)) else (some false))) else (some false)) else (some false))) else (some false))) = some r := H
 have A8 := Aside0.mk A80
 clear A80
 replace H := Option.bind_eq_some_iff.mp H
 obtain ⟨⟨t309,t310⟩,A90,H⟩ := H
 replace H : (if t299.toList = t301.toList then ((halberdlaw0_Num.f t300).bind fun t311 => (if t311 = t302 then (if t303.toList = t305.toList then ((halberdlaw0_Num.f t304).bind fun t312 => (if t312 = t306 then (if t307 = t309 then ((halberdlaw0_Num.f t308).bind fun t313 => (if t313 = t310 then ((halberdlaw13_awake.f).bind fun t314 => (some t314)) else (some false))) else (some false)) else (some false))) else (some false)) else (some false))) else (some false)) = some r := H
 have A9 := Aside0.mk A90
 clear A90
 by_cases c10 : t299.toList = t301.toList
 ·rw [if_pos c10] at H
  have c10b0 : (t299.toList == t301.toList) = true := beq_iff_eq.mpr c10
  have c10b1 : (t299.toList != t301.toList) = false := bne_eq_false_iff_eq.mpr c10
  clear c10
  replace H := Option.bind_eq_some_iff.mp H
  obtain ⟨t311,A110,H⟩ := H
  replace H : (if t311 = t302 then (if t303.toList = t305.toList then ((halberdlaw0_Num.f t304).bind fun t312 => (if t312 = t306 then (if t307 = t309 then ((halberdlaw0_Num.f t308).bind fun t313 => (if t313 = t310 then ((halberdlaw13_awake.f).bind fun t314 => (some t314)) else (some false))) else (some false)) else (some false))) else (some false)) else (some false)) = some r := H
  have A11 := Aside0.mk A110
  clear A110
  by_cases c12 : t311 = t302
  ·rw [if_pos c12] at H
   have c12b0 : (t311 == t302) = true := beq_iff_eq.mpr c12
   have c12b1 : (t311 != t302) = false := bne_eq_false_iff_eq.mpr c12
   clear c12
   by_cases c13 : t303.toList = t305.toList
   ·rw [if_pos c13] at H
    have c13b0 : (t303.toList == t305.toList) = true := beq_iff_eq.mpr c13
    have c13b1 : (t303.toList != t305.toList) = false := bne_eq_false_iff_eq.mpr c13
    clear c13
    replace H := Option.bind_eq_some_iff.mp H
    obtain ⟨t312,A140,H⟩ := H
    replace H : (if t312 = t306 then (if t307 = t309 then ((halberdlaw0_Num.f t308).bind fun t313 => (if t313 = t310 then ((halberdlaw13_awake.f).bind fun t314 => (some t314)) else (some false))) else (some false)) else (some false)) = some r := H
    have A14 := Aside0.mk A140
    clear A140
    by_cases c15 : t312 = t306
    ·rw [if_pos c15] at H
     have c15b0 : (t312 == t306) = true := beq_iff_eq.mpr c15
     have c15b1 : (t312 != t306) = false := bne_eq_false_iff_eq.mpr c15
     clear c15
     by_cases c16 : t307 = t309
     ·rw [if_pos c16] at H
      have c16b0 : (t307 == t309) = true := beq_iff_eq.mpr c16
      have c16b1 : (t307 != t309) = false := bne_eq_false_iff_eq.mpr c16
      clear c16
      replace H := Option.bind_eq_some_iff.mp H
      obtain ⟨t313,A170,H⟩ := H
      replace H : (if t313 = t310 then ((halberdlaw13_awake.f).bind fun t314 => (some t314)) else (some false)) = some r := H
      have A17 := Aside0.mk A170
      clear A170
      by_cases c18 : t313 = t310
      ·rw [if_pos c18] at H
       have c18b0 : (t313 == t310) = true := beq_iff_eq.mpr c18
       have c18b1 : (t313 != t310) = false := bne_eq_false_iff_eq.mpr c18
       clear c18
       replace H := Option.bind_eq_some_iff.mp H
       obtain ⟨t314,A190,H⟩ := H
       replace H : (some t314) = some r := H
       have A19 := Aside0.mk A190
       clear A190
       obtain rfl := Option.some.inj H
       go_enter Try.func3,Try.ntmps3
       go_wp2_with (first | ((with_reducible refine gate_callee (f := 10) rfl ?_); refine goesL_ (some 21) rfl rfl Try.func10 (by kernel_rfl) rfl #[.string a0] rfl (by (try simp only [List.map_toArray,List.map_cons,List.map_nil]); first | done | rfl | (simp only [List.length_drop,List.length_take]; rfl)) ?_; (with_reducible refine (der_Integer.calls k a0 t299 t300 _ A4.out).mono ?_); rintro e w20 ⟨rfl,hb⟩; refine ⟨_,rfl,?_⟩; have n0_ := Aside0.mk (below_step (by repeat (first | (with_reducible first | exact HB.out | apply below_alloc | apply pw_below_drewN | apply below_drew1) | exact HB.out)) hb); clear HB; have HB := n0_; clear n0_; (try clear hb); (try clear hb2); (try clear hk); (try clear hi)) | ((with_reducible refine gate_callee (f := 11) rfl ?_); refine goesL_ (some 26) rfl rfl Try.func11 (by kernel_rfl) rfl #[.string a0] rfl (by (try simp only [List.map_toArray,List.map_cons,List.map_nil]); first | done | rfl | (simp only [List.length_drop,List.length_take]; rfl)) ?_; (with_reducible refine (halberdref13_Integer.calls k a0 t301 t302 _ A5.out).mono ?_); rintro e w21 ⟨rfl,hb⟩; refine ⟨_,rfl,?_⟩; have n0_ := Aside0.mk (below_step (by repeat (first | (with_reducible first | exact HB.out | apply below_alloc | apply pw_below_drewN | apply below_drew1) | exact HB.out)) hb); clear HB; have HB := n0_; clear n0_; (try clear hb); (try clear hb2); (try clear hk); (try clear hi)) | ((with_reducible refine gate_callee (f := 12) rfl ?_); refine goesL_ (some 31) rfl rfl Try.func12 (by kernel_rfl) rfl #[.int .i64 a1] rfl (by (try simp only [List.map_toArray,List.map_cons,List.map_nil]); first | done | rfl | (simp only [List.length_drop,List.length_take]; rfl)) ?_; (with_reducible refine (der_Time.calls k a1 t303 t304 _ A6.out).mono ?_); rintro e w22 ⟨rfl,hb⟩; refine ⟨_,rfl,?_⟩; have n0_ := Aside0.mk (below_step (by repeat (first | (with_reducible first | exact HB.out | apply below_alloc | apply pw_below_drewN | apply below_drew1) | exact HB.out)) hb); clear HB; have HB := n0_; clear n0_; (try clear hb); (try clear hb2); (try clear hk); (try clear hi)) | ((with_reducible refine gate_callee (f := 13) rfl ?_); refine goesL_ (some 36) rfl rfl Try.func13 (by kernel_rfl) rfl #[.int .i64 a1] rfl (by (try simp only [List.map_toArray,List.map_cons,List.map_nil]); first | done | rfl | (simp only [List.length_drop,List.length_take]; rfl)) ?_; (with_reducible refine (halberdref13_Time.calls k a1 t305 t306 _ A7.out).mono ?_); rintro e w23 ⟨rfl,hb⟩; refine ⟨_,rfl,?_⟩; have n0_ := Aside0.mk (below_step (by repeat (first | (with_reducible first | exact HB.out | apply below_alloc | apply pw_below_drewN | apply below_drew1) | exact HB.out)) hb); clear HB; have HB := n0_; clear n0_; (try clear hb); (try clear hb2); (try clear hk); (try clear hi)) | ((with_reducible refine gate_callee (f := 14) rfl ?_); refine goesL_ (some 41) rfl rfl Try.func14 (by kernel_rfl) rfl #[.string a2] rfl (by (try simp only [List.map_toArray,List.map_cons,List.map_nil]); first | done | rfl | (simp only [List.length_drop,List.length_take]; rfl)) ?_; (with_reducible refine (der_Untime.calls k a2 t307 t308 _ A8.out).mono ?_); rintro e w24 ⟨rfl,hb⟩; refine ⟨_,rfl,?_⟩; have n0_ := Aside0.mk (below_step (by repeat (first | (with_reducible first | exact HB.out | apply below_alloc | apply pw_below_drewN | apply below_drew1) | exact HB.out)) hb); clear HB; have HB := n0_; clear n0_; (try clear hb); (try clear hb2); (try clear hk); (try clear hi)) | ((with_reducible refine gate_callee (f := 15) rfl ?_); refine goesL_ (some 46) rfl rfl Try.func15 (by kernel_rfl) rfl #[.string a2] rfl (by (try simp only [List.map_toArray,List.map_cons,List.map_nil]); first | done | rfl | (simp only [List.length_drop,List.length_take]; rfl)) ?_; (with_reducible refine (halberdref13_Untime.calls k a2 t309 t310 _ A9.out).mono ?_); rintro e w25 ⟨rfl,hb⟩; refine ⟨_,rfl,?_⟩; have n0_ := Aside0.mk (below_step (by repeat (first | (with_reducible first | exact HB.out | apply below_alloc | apply pw_below_drewN | apply below_drew1) | exact HB.out)) hb); clear HB; have HB := n0_; clear n0_; (try clear hb); (try clear hb2); (try clear hk); (try clear hi)) | (go_at_call 16; (with_reducible refine (halberdlaw0_Num.calls t300 t311 _ A11.out).mono ?_); rintro e w' ⟨rfl,⟨nd,rfl⟩⟩) | (go_at_call 16; (with_reducible refine (halberdlaw0_Num.calls t304 t312 _ A14.out).mono ?_); rintro e w' ⟨rfl,⟨nd,rfl⟩⟩) | (go_at_call 16; (with_reducible refine (halberdlaw0_Num.calls t308 t313 _ A17.out).mono ?_); rintro e w' ⟨rfl,⟨nd,rfl⟩⟩) | (go_at_call 17; (with_reducible refine (halberdlaw13_awake.calls  t314 _ A19.out).mono ?_); rintro e w26 ⟨rfl,hb⟩; have n0_ := Aside0.mk (below_step (by repeat (first | (with_reducible first | exact HB.out | apply below_alloc | apply pw_below_drewN | apply below_drew1) | exact HB.out)) hb); clear HB; have HB := n0_; clear n0_; (try clear hb); (try clear hb2); (try clear hk); (try clear hi)))
       go_ret
       exact ⟨by first | rfl | (simp [errW_none,errW_some] <;> rfl) | (simp [*,errW_none,errW_some] <;> rfl),by repeat (first | (with_reducible first | exact HB.out | apply below_alloc | apply pw_below_drewN | apply below_drew1) | exact HB.out)⟩
      ·rw [if_neg c18] at H
       have c18b0 : (t313 == t310) = false := beq_eq_false_iff_ne.mpr c18
       have c18b1 : (t313 != t310) = true := bne_iff_ne.mpr c18
       exact absurd ((Option.some.inj H).trans hr.out) (by decide)
     ·rw [if_neg c16] at H
      have c16b0 : (t307 == t309) = false := beq_eq_false_iff_ne.mpr c16
      have c16b1 : (t307 != t309) = true := bne_iff_ne.mpr c16
      exact absurd ((Option.some.inj H).trans hr.out) (by decide)
    ·rw [if_neg c15] at H
     have c15b0 : (t312 == t306) = false := beq_eq_false_iff_ne.mpr c15
     have c15b1 : (t312 != t306) = true := bne_iff_ne.mpr c15
     exact absurd ((Option.some.inj H).trans hr.out) (by decide)
   ·rw [if_neg c13] at H
    have c13b0 : (t303.toList == t305.toList) = false := beq_eq_false_iff_ne.mpr c13
    have c13b1 : (t303.toList != t305.toList) = true := bne_iff_ne.mpr c13
    exact absurd ((Option.some.inj H).trans hr.out) (by decide)
  ·rw [if_neg c12] at H
   have c12b0 : (t311 == t302) = false := beq_eq_false_iff_ne.mpr c12
   have c12b1 : (t311 != t302) = true := bne_iff_ne.mpr c12
   exact absurd ((Option.some.inj H).trans hr.out) (by decide)
 ·rw [if_neg c10] at H
  have c10b0 : (t299.toList == t301.toList) = false := beq_eq_false_iff_ne.mpr c10
  have c10b1 : (t299.toList != t301.toList) = true := bne_iff_ne.mpr c10
  exact absurd ((Option.some.inj H).trans hr.out) (by decide)

/-- THE ONE PURE STATEMENT of halberdlaw13_DerTimes: yours. -/
def halberdlaw13_DerTimes.Pure : Prop := ∀ (a0 : ByteArray) (a1 : Int) (a2 : ByteArray),a0.size ≤ 140737488351232 → (Lit.int .i64 a1).wf = true → a2.size ≤ 140737488351232 → ∃ k,halberdlaw13_DerTimes.f k a0 a1 a2 = some true
theorem halberdlaw13_DerTimes.walk (P : halberdlaw13_DerTimes.Pure) (a0 : ByteArray) (a1 : Int) (a2 : ByteArray) (w : World) (w0 : a0.size ≤ 140737488351232) (w1 : (Lit.int .i64 a1).wf = true) (w2 : a2.size ≤ 140737488351232) :
  Calls Try.prog 3 #[.string a0,.int .i64 a1,.string a2] w fun e w' => e = .returned (.bool true) ∧ Below w.heap.size w w' := by
 obtain ⟨k,h⟩ := P a0 a1 a2 w0 w1 w2
 refine (halberdlaw13_DerTimes.calls k a0 a1 a2 true w h ⟨rfl⟩).mono ?_
 rintro e w' ⟨rfl,hd⟩
 exact ⟨rfl,hd⟩

end Go.Proofs.Ytonemdclfgckoaa.X
