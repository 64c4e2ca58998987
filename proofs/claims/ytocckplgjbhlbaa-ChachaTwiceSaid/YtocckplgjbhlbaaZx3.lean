-- Written by a program of this session (wip/tools/xprint.py), over the kit's printer.
import Derived.Test.YtocckplgjbhlbaaZx0
import Derived.Test.YtocckplgjbhlbaaZx1
import Derived.Test.YtocckplgjbhlbaaZx2
namespace Go.Proofs.Ytocckplgjbhlbaa.Z
open Go.RowKit Go.Proofs.YtocckplgjbhlbaaW.PrintWords Go.Proofs.YtocckplgjbhlbaaW.PrintLast Go.Proofs.YtocckplgjbhlbaaW.PrintMore
attribute [local go_sem] max2_int min2_int max_two min_two max_three min_three max_four min_four   -- for this text's walks alone
set_option linter.unusedVariables false
set_option linter.unusedSimpArgs false

/-! ### halberdlaw6_awake0: function 17 -/
def halberdlaw6_awake0.f  : Option (Bool) := if 32 ≤ 281474976710656 then ((some (List.replicate 32 0 : List Int)).bind fun y108 => (if 0 ≤ 12 then (if 12 ≤ ((strOfNums y108).size : Int) then ((chacha_Block.f (strOfNums y108) 0 ((strOfNums y108).extract 0 12)).bind fun bt111 => ((chacha_Xor.f (strOfNums y108) 0 ((strOfNums y108).extract 0 12) (⟨#[97, 98, 99]⟩ : ByteArray)).bind fun bt113 => ((chacha_Xor.f (strOfNums y108) 0 ((strOfNums y108).extract 0 12) bt113.1).bind fun bt115 => ((chacha_Block.f (strOfNums y108) (-1) ((strOfNums y108).extract 0 12)).bind fun bt117 => (if (bt111.1.size : Int) = 64 then (if 0 < (bt111.1.size : Int) then (if (bt bt111.1 0) = 118 then (if 1 < (bt111.1.size : Int) then (if (bt bt111.1 1) = 184 then ((halberdlaw0_Num.f bt111.2).bind fun t119 => (if t119 = 0 then ((halberdlaw0_Num.f bt113.2).bind fun t120 => (if t120 = 0 then (if bt115.1.toList = ([97, 98, 99] : List UInt8) then ((halberdlaw0_Num.f bt115.2).bind fun t121 => (if t121 = 0 then ((halberdlaw0_Num.f bt117.2).bind fun t122 => (some (t122 == 600))) else (some false))) else (some false)) else (some false))) else (some false))) else (some false)) else (none)) else (some false)) else (none)) else (some false)))))) else (none)) else (none))) else (none)
set_option maxHeartbeats 8000000 in
set_option maxRecDepth 100000 in
theorem halberdlaw6_awake0.calls  (r : Bool) (w : World) (h : halberdlaw6_awake0.f  = some r) (hr : Aside0 (r = true)) :
    Calls Try.prog 17 #[] w fun e w' => e = .returned (.bool r) ∧ Below w.heap.size w w' := by
  have HB := Aside0.mk (Below.refl w.heap.size w)
  have H : (if 32 ≤ 281474976710656 then ((some (List.replicate 32 0 : List Int)).bind fun y108 => (if 0 ≤ 12 then (if 12 ≤ ((strOfNums y108).size : Int) then ((chacha_Block.f (strOfNums y108) 0 ((strOfNums y108).extract 0 12)).bind fun bt111 => ((chacha_Xor.f (strOfNums y108) 0 ((strOfNums y108).extract 0 12) (⟨#[97, 98, 99]⟩ : ByteArray)).bind fun bt113 => ((chacha_Xor.f (strOfNums y108) 0 ((strOfNums y108).extract 0 12) bt113.1).bind fun bt115 => ((chacha_Block.f (strOfNums y108) (-1) ((strOfNums y108).extract 0 12)).bind fun bt117 => (if (bt111.1.size : Int) = 64 then (if 0 < (bt111.1.size : Int) then (if (bt bt111.1 0) = 118 then (if 1 < (bt111.1.size : Int) then (if (bt bt111.1 1) = 184 then ((halberdlaw0_Num.f bt111.2).bind fun t119 => (if t119 = 0 then ((halberdlaw0_Num.f bt113.2).bind fun t120 => (if t120 = 0 then (if bt115.1.toList = ([97, 98, 99] : List UInt8) then ((halberdlaw0_Num.f bt115.2).bind fun t121 => (if t121 = 0 then ((halberdlaw0_Num.f bt117.2).bind fun t122 => (some (t122 == 600))) else (some false))) else (some false)) else (some false))) else (some false))) else (some false)) else (none)) else (some false)) else (none)) else (some false)))))) else (none)) else (none))) else (none)) = some r := h
  clear h
  by_cases c1 : 32 ≤ 281474976710656
  · rw [if_pos c1] at H
    have c1b0 := eq_true c1
    have c1b1 : decide (32 ≤ 281474976710656) = true := decide_eq_true c1
    clear c1
    obtain ⟨y108, hy108⟩ : ∃ y_ : List Int, y_ = (List.replicate 32 0) := ⟨_, rfl⟩
    replace H : (if 0 ≤ 12 then (if 12 ≤ ((strOfNums y108).size : Int) then ((chacha_Block.f (strOfNums y108) 0 ((strOfNums y108).extract 0 12)).bind fun bt111 => ((chacha_Xor.f (strOfNums y108) 0 ((strOfNums y108).extract 0 12) (⟨#[97, 98, 99]⟩ : ByteArray)).bind fun bt113 => ((chacha_Xor.f (strOfNums y108) 0 ((strOfNums y108).extract 0 12) bt113.1).bind fun bt115 => ((chacha_Block.f (strOfNums y108) (-1) ((strOfNums y108).extract 0 12)).bind fun bt117 => (if (bt111.1.size : Int) = 64 then (if 0 < (bt111.1.size : Int) then (if (bt bt111.1 0) = 118 then (if 1 < (bt111.1.size : Int) then (if (bt bt111.1 1) = 184 then ((halberdlaw0_Num.f bt111.2).bind fun t119 => (if t119 = 0 then ((halberdlaw0_Num.f bt113.2).bind fun t120 => (if t120 = 0 then (if bt115.1.toList = ([97, 98, 99] : List UInt8) then ((halberdlaw0_Num.f bt115.2).bind fun t121 => (if t121 = 0 then ((halberdlaw0_Num.f bt117.2).bind fun t122 => (some (t122 == 600))) else (some false))) else (some false)) else (some false))) else (some false))) else (some false)) else (none)) else (some false)) else (none)) else (some false)))))) else (none)) else (none)) = some r := by first | (rw [hy108]; with_reducible exact H) | (have H2_ := (Option.bind_some _ _).symm.trans H; rw [hy108]; with_reducible exact H2_) | (have H2_ := (Option.bind_some _ _).symm.trans H; with_reducible exact H2_) | with_reducible exact H | (rw [hy108]; exact H) | exact H
    have Ny108 := Aside0.mk hy108
    clear hy108
    by_cases c2 : 0 ≤ 12
    · rw [if_pos c2] at H
      have c2b0 := eq_true c2
      have c2b1 : decide (0 ≤ 12) = true := decide_eq_true c2
      clear c2
      by_cases c3 : 12 ≤ ((strOfNums y108).size : Int)
      · rw [if_pos c3] at H
        have c3b0 := eq_true c3
        have c3b1 : decide (12 ≤ ((strOfNums y108).size : Int)) = true := decide_eq_true c3
        clear c3
        replace H := Option.bind_eq_some_iff.mp H
        obtain ⟨⟨t111, t112⟩, A40, H⟩ := H
        replace H : ((chacha_Xor.f (strOfNums y108) 0 ((strOfNums y108).extract 0 12) (⟨#[97, 98, 99]⟩ : ByteArray)).bind fun bt113 => ((chacha_Xor.f (strOfNums y108) 0 ((strOfNums y108).extract 0 12) bt113.1).bind fun bt115 => ((chacha_Block.f (strOfNums y108) (-1) ((strOfNums y108).extract 0 12)).bind fun bt117 => (if (t111.size : Int) = 64 then (if 0 < (t111.size : Int) then (if (bt t111 0) = 118 then (if 1 < (t111.size : Int) then (if (bt t111 1) = 184 then ((halberdlaw0_Num.f t112).bind fun t119 => (if t119 = 0 then ((halberdlaw0_Num.f bt113.2).bind fun t120 => (if t120 = 0 then (if bt115.1.toList = ([97, 98, 99] : List UInt8) then ((halberdlaw0_Num.f bt115.2).bind fun t121 => (if t121 = 0 then ((halberdlaw0_Num.f bt117.2).bind fun t122 => (some (t122 == 600))) else (some false))) else (some false)) else (some false))) else (some false))) else (some false)) else (none)) else (some false)) else (none)) else (some false))))) = some r := H
        have A4 := Aside0.mk A40
        clear A40
        have c5b0 := eq_true (of_decide_eq_true (by first | (with_reducible assumption) | assumption) : 0 ≤ 12)
        have c6b0 := eq_true (of_decide_eq_true (by first | (with_reducible assumption) | assumption) : 12 ≤ ((strOfNums y108).size : Int))
        replace H := Option.bind_eq_some_iff.mp H
        obtain ⟨⟨t113, t114⟩, A70, H⟩ := H
        replace H : ((chacha_Xor.f (strOfNums y108) 0 ((strOfNums y108).extract 0 12) t113).bind fun bt115 => ((chacha_Block.f (strOfNums y108) (-1) ((strOfNums y108).extract 0 12)).bind fun bt117 => (if (t111.size : Int) = 64 then (if 0 < (t111.size : Int) then (if (bt t111 0) = 118 then (if 1 < (t111.size : Int) then (if (bt t111 1) = 184 then ((halberdlaw0_Num.f t112).bind fun t119 => (if t119 = 0 then ((halberdlaw0_Num.f t114).bind fun t120 => (if t120 = 0 then (if bt115.1.toList = ([97, 98, 99] : List UInt8) then ((halberdlaw0_Num.f bt115.2).bind fun t121 => (if t121 = 0 then ((halberdlaw0_Num.f bt117.2).bind fun t122 => (some (t122 == 600))) else (some false))) else (some false)) else (some false))) else (some false))) else (some false)) else (none)) else (some false)) else (none)) else (some false)))) = some r := H
        have A7 := Aside0.mk A70
        clear A70
        have c8b0 := eq_true (of_decide_eq_true (by first | (with_reducible assumption) | assumption) : 0 ≤ 12)
        have c9b0 := eq_true (of_decide_eq_true (by first | (with_reducible assumption) | assumption) : 12 ≤ ((strOfNums y108).size : Int))
        replace H := Option.bind_eq_some_iff.mp H
        obtain ⟨⟨t115, t116⟩, A100, H⟩ := H
        replace H : ((chacha_Block.f (strOfNums y108) (-1) ((strOfNums y108).extract 0 12)).bind fun bt117 => (if (t111.size : Int) = 64 then (if 0 < (t111.size : Int) then (if (bt t111 0) = 118 then (if 1 < (t111.size : Int) then (if (bt t111 1) = 184 then ((halberdlaw0_Num.f t112).bind fun t119 => (if t119 = 0 then ((halberdlaw0_Num.f t114).bind fun t120 => (if t120 = 0 then (if t115.toList = ([97, 98, 99] : List UInt8) then ((halberdlaw0_Num.f t116).bind fun t121 => (if t121 = 0 then ((halberdlaw0_Num.f bt117.2).bind fun t122 => (some (t122 == 600))) else (some false))) else (some false)) else (some false))) else (some false))) else (some false)) else (none)) else (some false)) else (none)) else (some false))) = some r := H
        have A10 := Aside0.mk A100
        clear A100
        have c11b0 := eq_true (of_decide_eq_true (by first | (with_reducible assumption) | assumption) : 0 ≤ 12)
        have c12b0 := eq_true (of_decide_eq_true (by first | (with_reducible assumption) | assumption) : 12 ≤ ((strOfNums y108).size : Int))
        replace H := Option.bind_eq_some_iff.mp H
        obtain ⟨⟨t117, t118⟩, A130, H⟩ := H
        replace H : (if (t111.size : Int) = 64 then (if 0 < (t111.size : Int) then (if (bt t111 0) = 118 then (if 1 < (t111.size : Int) then (if (bt t111 1) = 184 then ((halberdlaw0_Num.f t112).bind fun t119 => (if t119 = 0 then ((halberdlaw0_Num.f t114).bind fun t120 => (if t120 = 0 then (if t115.toList = ([97, 98, 99] : List UInt8) then ((halberdlaw0_Num.f t116).bind fun t121 => (if t121 = 0 then ((halberdlaw0_Num.f t118).bind fun t122 => (some (t122 == 600))) else (some false))) else (some false)) else (some false))) else (some false))) else (some false)) else (none)) else (some false)) else (none)) else (some false)) = some r := H
        have A13 := Aside0.mk A130
        clear A130
        by_cases c14 : (t111.size : Int) = 64
        · rw [if_pos c14] at H
          have c14b0 : ((t111.size : Int) == 64) = true := beq_iff_eq.mpr c14
          have c14b1 : ((t111.size : Int) != 64) = false := bne_eq_false_iff_eq.mpr c14
          clear c14
          by_cases c15 : 0 < (t111.size : Int)
          · rw [if_pos c15] at H
            have c15b0 : decide (0 < (t111.size : Int)) = true := decide_eq_true c15
            have c15b1 : decide (0 < t111.size) = true := decide_eq_true (by omega)
            clear c15
            by_cases c17 : (bt t111 0) = 118
            · rw [if_pos c17] at H
              have c17b0 : ((bt t111 0) == 118) = true := beq_iff_eq.mpr c17
              have c17b1 : ((bt t111 0) != 118) = false := bne_eq_false_iff_eq.mpr c17
              clear c17
              by_cases c18 : 1 < (t111.size : Int)
              · rw [if_pos c18] at H
                have c18b0 : decide (1 < (t111.size : Int)) = true := decide_eq_true c18
                have c18b1 : decide (1 < t111.size) = true := decide_eq_true (by omega)
                clear c18
                by_cases c20 : (bt t111 1) = 184
                · rw [if_pos c20] at H
                  have c20b0 : ((bt t111 1) == 184) = true := beq_iff_eq.mpr c20
                  have c20b1 : ((bt t111 1) != 184) = false := bne_eq_false_iff_eq.mpr c20
                  clear c20
                  replace H := Option.bind_eq_some_iff.mp H
                  obtain ⟨t119, A210, H⟩ := H
                  replace H : (if t119 = 0 then ((halberdlaw0_Num.f t114).bind fun t120 => (if t120 = 0 then (if t115.toList = ([97, 98, 99] : List UInt8) then ((halberdlaw0_Num.f t116).bind fun t121 => (if t121 = 0 then ((halberdlaw0_Num.f t118).bind fun t122 => (some (t122 == 600))) else (some false))) else (some false)) else (some false))) else (some false)) = some r := H
                  have A21 := Aside0.mk A210
                  clear A210
                  by_cases c22 : t119 = 0
                  · rw [if_pos c22] at H
                    have c22b0 : (t119 == 0) = true := beq_iff_eq.mpr c22
                    have c22b1 : (t119 != 0) = false := bne_eq_false_iff_eq.mpr c22
                    clear c22
                    replace H := Option.bind_eq_some_iff.mp H
                    obtain ⟨t120, A230, H⟩ := H
                    replace H : (if t120 = 0 then (if t115.toList = ([97, 98, 99] : List UInt8) then ((halberdlaw0_Num.f t116).bind fun t121 => (if t121 = 0 then ((halberdlaw0_Num.f t118).bind fun t122 => (some (t122 == 600))) else (some false))) else (some false)) else (some false)) = some r := H
                    have A23 := Aside0.mk A230
                    clear A230
                    by_cases c24 : t120 = 0
                    · rw [if_pos c24] at H
                      have c24b0 : (t120 == 0) = true := beq_iff_eq.mpr c24
                      have c24b1 : (t120 != 0) = false := bne_eq_false_iff_eq.mpr c24
                      clear c24
                      by_cases c25 : t115.toList = ([97, 98, 99] : List UInt8)
                      · rw [if_pos c25] at H
                        have c25b0 : (t115.toList == ([97, 98, 99] : List UInt8)) = true := beq_iff_eq.mpr c25
                        have c25b1 : (t115.toList != ([97, 98, 99] : List UInt8)) = false := bne_eq_false_iff_eq.mpr c25
                        clear c25
                        replace H := Option.bind_eq_some_iff.mp H
                        obtain ⟨t121, A260, H⟩ := H
                        replace H : (if t121 = 0 then ((halberdlaw0_Num.f t118).bind fun t122 => (some (t122 == 600))) else (some false)) = some r := H
                        have A26 := Aside0.mk A260
                        clear A260
                        by_cases c27 : t121 = 0
                        · rw [if_pos c27] at H
                          have c27b0 : (t121 == 0) = true := beq_iff_eq.mpr c27
                          have c27b1 : (t121 != 0) = false := bne_eq_false_iff_eq.mpr c27
                          clear c27
                          replace H := Option.bind_eq_some_iff.mp H
                          obtain ⟨t122, A280, H⟩ := H
                          replace H : (some (t122 == 600)) = some r := H
                          have A28 := Aside0.mk A280
                          clear A280
                          obtain rfl := Option.some.inj H
                          go_enter Try.func17, Try.ntmps17
                          go_wp2_with (first | ((with_reducible refine gate_dst (N := 10) rfl ?_); refine Kd.R_make (Kd.int .u8) _ 5 rfl (N := 10) rfl 32 _ _ rfl 32 rfl rfl Try.underlying32 (.int .u8 0) 1 info5 rfl (by decide) (by omega) 0 (ok := fun _ => True) (okp := fun _ => True) rfl (fun _ hk => hk) trivial (by omega) (by omega) (Below.refl _ _) (Nat.le_refl _) ?_; intro v109 w29 ho30 hb hg_ hnew_; clear hg_ hnew_; (first | rw [← Ny108.out] at ho30 | (simp only [Int.reduceToNat] at ho30; rw [← Ny108.out] at ho30)); have n0_ := Aside0.mk (Kd.R_lower ho30 (below_size (by repeat (first | (with_reducible first | exact HB.out | apply below_alloc | apply pw_below_drewN | apply below_drew1) | exact HB.out)))); have n1_ := Aside0.mk (below_step (by repeat (first | (with_reducible first | exact HB.out | apply below_alloc | apply pw_below_drewN | apply below_drew1) | exact HB.out)) hb); clear HB; have HO110 := n0_; have HB := n1_; clear n0_ n1_; clear hb ho30; have hcv31 := own_string (P := Try.prog) Try.underlying32 Try.underlying5 Try.underlying9 (Kd.own_of_R HO110.out)) | ((with_reducible refine gate_callee (f := 12) rfl ?_); refine goesL_ (some 16) rfl rfl Try.func12 (by kernel_rfl) rfl #[.string (strOfNums y108), .int .i64 0, .string ((strOfNums y108).extract 0 12)] rfl (by (try simp only [List.map_toArray, List.map_cons, List.map_nil]); first | done | rfl | (simp only [List.length_drop, List.length_take]; rfl)) ?_; (with_reducible refine (chacha_Block.calls (strOfNums y108) 0 ((strOfNums y108).extract 0 12) t111 t112 _ A4.out).mono ?_); rintro e w32 ⟨rfl, hb⟩; refine ⟨_, rfl, ?_⟩; have n0_ := Aside0.mk (Kd.R_below (by (with_reducible repeat (first | apply Kd.R_alloc | apply Kd.R_drewN | apply Kd.R_drew)); exact HO110.out) hb); have n1_ := Aside0.mk (below_step (by repeat (first | (with_reducible first | exact HB.out | apply below_alloc | apply pw_below_drewN | apply below_drew1) | exact HB.out)) hb); clear HO110; clear HB; have HO110 := n0_; have HB := n1_; clear n0_ n1_; (try clear hb); (try clear hb2); (try clear hk); (try clear hi)) | ((with_reducible refine gate_callee (f := 14) rfl ?_); refine goesL_ (some 23) rfl rfl Try.func14 (by kernel_rfl) rfl #[.string (strOfNums y108), .int .i64 0, .string ((strOfNums y108).extract 0 12), .string (⟨#[97, 98, 99]⟩ : ByteArray)] rfl (by (try simp only [List.map_toArray, List.map_cons, List.map_nil]); first | done | rfl | (simp only [List.length_drop, List.length_take]; rfl)) ?_; (with_reducible refine (chacha_Xor.calls (strOfNums y108) 0 ((strOfNums y108).extract 0 12) (⟨#[97, 98, 99]⟩ : ByteArray) t113 t114 _ A7.out).mono ?_); rintro e w33 ⟨rfl, hb⟩; refine ⟨_, rfl, ?_⟩; have n0_ := Aside0.mk (Kd.R_below (by (with_reducible repeat (first | apply Kd.R_alloc | apply Kd.R_drewN | apply Kd.R_drew)); exact HO110.out) hb); have n1_ := Aside0.mk (below_step (by repeat (first | (with_reducible first | exact HB.out | apply below_alloc | apply pw_below_drewN | apply below_drew1) | exact HB.out)) hb); clear HO110; clear HB; have HO110 := n0_; have HB := n1_; clear n0_ n1_; (try clear hb); (try clear hb2); (try clear hk); (try clear hi)) | ((with_reducible refine gate_callee (f := 14) rfl ?_); refine goesL_ (some 31) rfl rfl Try.func14 (by kernel_rfl) rfl #[.string (strOfNums y108), .int .i64 0, .string ((strOfNums y108).extract 0 12), .string t113] rfl (by (try simp only [List.map_toArray, List.map_cons, List.map_nil]); first | done | rfl | (simp only [List.length_drop, List.length_take]; rfl)) ?_; (with_reducible refine (chacha_Xor.calls (strOfNums y108) 0 ((strOfNums y108).extract 0 12) t113 t115 t116 _ A10.out).mono ?_); rintro e w34 ⟨rfl, hb⟩; refine ⟨_, rfl, ?_⟩; have n0_ := Aside0.mk (Kd.R_below (by (with_reducible repeat (first | apply Kd.R_alloc | apply Kd.R_drewN | apply Kd.R_drew)); exact HO110.out) hb); have n1_ := Aside0.mk (below_step (by repeat (first | (with_reducible first | exact HB.out | apply below_alloc | apply pw_below_drewN | apply below_drew1) | exact HB.out)) hb); clear HO110; clear HB; have HO110 := n0_; have HB := n1_; clear n0_ n1_; (try clear hb); (try clear hb2); (try clear hk); (try clear hi)) | ((with_reducible refine gate_callee (f := 12) rfl ?_); refine goesL_ (some 38) rfl rfl Try.func12 (by kernel_rfl) rfl #[.string (strOfNums y108), .int .i64 (-1), .string ((strOfNums y108).extract 0 12)] rfl (by (try simp only [List.map_toArray, List.map_cons, List.map_nil]); first | done | rfl | (simp only [List.length_drop, List.length_take]; rfl)) ?_; (with_reducible refine (chacha_Block.calls (strOfNums y108) (-1) ((strOfNums y108).extract 0 12) t117 t118 _ A13.out).mono ?_); rintro e w35 ⟨rfl, hb⟩; refine ⟨_, rfl, ?_⟩; have n0_ := Aside0.mk (Kd.R_below (by (with_reducible repeat (first | apply Kd.R_alloc | apply Kd.R_drewN | apply Kd.R_drew)); exact HO110.out) hb); have n1_ := Aside0.mk (below_step (by repeat (first | (with_reducible first | exact HB.out | apply below_alloc | apply pw_below_drewN | apply below_drew1) | exact HB.out)) hb); clear HO110; clear HB; have HO110 := n0_; have HB := n1_; clear n0_ n1_; (try clear hb); (try clear hb2); (try clear hk); (try clear hi); have p16 : 0 ≤ (0 : Int) := (by omega); have q16 : 0 < t111.size := (by have : (0 : Int) < (t111.size : Int) := of_decide_eq_true (by first | (with_reducible assumption) | assumption); omega); have hx16 : ∀ h : 0 < t111.size, ((t111[0]'h).toNat : Int) = bt t111 0 := bt_at t111 0; clear p16; have qi16 : (0 < (t111.size : Int)) = True := eq_true (of_decide_eq_true (by first | (with_reducible assumption) | assumption)); replace q16 := eq_true q16; have p19 : 0 ≤ (1 : Int) := (by omega); have q19 : 1 < t111.size := (by have : (1 : Int) < (t111.size : Int) := of_decide_eq_true (by first | (with_reducible assumption) | assumption); omega); have hx19 : ∀ h : 1 < t111.size, ((t111[1]'h).toNat : Int) = bt t111 1 := bt_at t111 1; clear p19; have qi19 : (1 < (t111.size : Int)) = True := eq_true (of_decide_eq_true (by first | (with_reducible assumption) | assumption)); replace q19 := eq_true q19) | (go_at_call 16; (with_reducible refine (halberdlaw0_Num.calls t112 t119 _ A21.out).mono ?_); rintro e w' ⟨rfl, ⟨nd, rfl⟩⟩) | (go_at_call 16; (with_reducible refine (halberdlaw0_Num.calls t114 t120 _ A23.out).mono ?_); rintro e w' ⟨rfl, ⟨nd, rfl⟩⟩) | (go_at_call 16; (with_reducible refine (halberdlaw0_Num.calls t116 t121 _ A26.out).mono ?_); rintro e w' ⟨rfl, ⟨nd, rfl⟩⟩) | (go_at_call 16; (with_reducible refine (halberdlaw0_Num.calls t118 t122 _ A28.out).mono ?_); rintro e w' ⟨rfl, ⟨nd, rfl⟩⟩))
                          go_ret
                          exact ⟨by first | rfl | (simp [errW_none, errW_some] <;> rfl) | (simp [*, errW_none, errW_some] <;> rfl), by repeat (first | (with_reducible first | exact HB.out | apply below_alloc | apply pw_below_drewN | apply below_drew1) | exact HB.out)⟩
                        · rw [if_neg c27] at H
                          have c27b0 : (t121 == 0) = false := beq_eq_false_iff_ne.mpr c27
                          have c27b1 : (t121 != 0) = true := bne_iff_ne.mpr c27
                          exact absurd ((Option.some.inj H).trans hr.out) (by decide)
                      · rw [if_neg c25] at H
                        have c25b0 : (t115.toList == ([97, 98, 99] : List UInt8)) = false := beq_eq_false_iff_ne.mpr c25
                        have c25b1 : (t115.toList != ([97, 98, 99] : List UInt8)) = true := bne_iff_ne.mpr c25
                        exact absurd ((Option.some.inj H).trans hr.out) (by decide)
                    · rw [if_neg c24] at H
                      have c24b0 : (t120 == 0) = false := beq_eq_false_iff_ne.mpr c24
                      have c24b1 : (t120 != 0) = true := bne_iff_ne.mpr c24
                      exact absurd ((Option.some.inj H).trans hr.out) (by decide)
                  · rw [if_neg c22] at H
                    have c22b0 : (t119 == 0) = false := beq_eq_false_iff_ne.mpr c22
                    have c22b1 : (t119 != 0) = true := bne_iff_ne.mpr c22
                    exact absurd ((Option.some.inj H).trans hr.out) (by decide)
                · rw [if_neg c20] at H
                  have c20b0 : ((bt t111 1) == 184) = false := beq_eq_false_iff_ne.mpr c20
                  have c20b1 : ((bt t111 1) != 184) = true := bne_iff_ne.mpr c20
                  exact absurd ((Option.some.inj H).trans hr.out) (by decide)
              · rw [if_neg c18] at H
                exact absurd H (by simp)
            · rw [if_neg c17] at H
              have c17b0 : ((bt t111 0) == 118) = false := beq_eq_false_iff_ne.mpr c17
              have c17b1 : ((bt t111 0) != 118) = true := bne_iff_ne.mpr c17
              exact absurd ((Option.some.inj H).trans hr.out) (by decide)
          · rw [if_neg c15] at H
            exact absurd H (by simp)
        · rw [if_neg c14] at H
          have c14b0 : ((t111.size : Int) == 64) = false := beq_eq_false_iff_ne.mpr c14
          have c14b1 : ((t111.size : Int) != 64) = true := bne_iff_ne.mpr c14
          exact absurd ((Option.some.inj H).trans hr.out) (by decide)
      · rw [if_neg c3] at H
        exact absurd H (by simp)
    · rw [if_neg c2] at H
      exact absurd H (by simp)
  · rw [if_neg c1] at H
    exact absurd H (by simp)

/-! ### halberdlaw6_awake: function 17, closed -/
def halberdlaw6_awake.f : Option (Bool) := some true
theorem halberdlaw6_awake.knows : halberdlaw6_awake0.f = some true := by decide +kernel
theorem halberdlaw6_awake.calls (r : Bool) (w : World) (h : halberdlaw6_awake.f = some r) : Calls Try.prog 17 #[] w fun e w' => e = .returned (.bool r) ∧ Below w.heap.size w w' := by
  obtain rfl := Option.some.inj h
  exact halberdlaw6_awake0.calls  true w halberdlaw6_awake.knows ⟨rfl⟩

/-! ### halberdlaw6_Chachas: function 3 -/
def halberdlaw6_Chachas.f (k : Nat) (a0 : ByteArray) (a1 : Int) (a2 : ByteArray) (a3 : ByteArray) : Option (Bool) := (chacha_Block.f a0 a1 a2).bind fun bt123 => ((halberdref4_ChachaBlock.f a0 a1 a2).bind fun bt125 => ((chacha_Xor.f a0 a1 a2 a3).bind fun bt127 => ((halberdref4_Xor.f k a0 a1 a2 a3).bind fun bt129 => (if bt123.1.toList = bt125.1.toList then ((halberdlaw0_Num.f bt123.2).bind fun t131 => (if t131 = bt125.2 then (if bt127.1.toList = bt129.1.toList then ((halberdlaw0_Num.f bt127.2).bind fun t132 => (if t132 = bt129.2 then ((halberdlaw6_awake.f).bind fun t133 => (some t133)) else (some false))) else (some false)) else (some false))) else (some false)))))
theorem halberdlaw6_Chachas.mono : ∀ a0 a1 a2 a3 k, LeO (halberdlaw6_Chachas.f k a0 a1 a2 a3) (halberdlaw6_Chachas.f (k + 1) a0 a1 a2 a3) := by
  intro a0 a1 a2 a3 k
  unfold halberdlaw6_Chachas.f
  repeat' first
      | (with_reducible exact halberdref4_Xor.mono _ _ _ _ _)
      | (with_reducible exact LeO.refl _)
      | (with_reducible exact LeO.none _)
      | (with_reducible refine LeO.ite ?_ ?_)
      | (with_reducible refine LeO.bind ?_ (fun _ => ?_))
      | exact halberdref4_Xor.mono _ _ _ _ _
      | exact LeO.none _
      | refine LeO.ite ?_ ?_
      | refine LeO.bind ?_ (fun _ => ?_)
set_option maxHeartbeats 8000000 in
set_option maxRecDepth 100000 in
theorem halberdlaw6_Chachas.calls (k : Nat) (a0 : ByteArray) (a1 : Int) (a2 : ByteArray) (a3 : ByteArray) (r : Bool) (w : World) (h : halberdlaw6_Chachas.f k a0 a1 a2 a3 = some r) (hr : Aside0 (r = true)) :
    Calls Try.prog 3 #[.string a0, .int .i64 a1, .string a2, .string a3] w fun e w' => e = .returned (.bool r) ∧ Below w.heap.size w w' := by
  have HB := Aside0.mk (Below.refl w.heap.size w)
  have H : ((chacha_Block.f a0 a1 a2).bind fun bt123 => ((halberdref4_ChachaBlock.f a0 a1 a2).bind fun bt125 => ((chacha_Xor.f a0 a1 a2 a3).bind fun bt127 => ((halberdref4_Xor.f k a0 a1 a2 a3).bind fun bt129 => (if bt123.1.toList = bt125.1.toList then ((halberdlaw0_Num.f bt123.2).bind fun t131 => (if t131 = bt125.2 then (if bt127.1.toList = bt129.1.toList then ((halberdlaw0_Num.f bt127.2).bind fun t132 => (if t132 = bt129.2 then ((halberdlaw6_awake.f).bind fun t133 => (some t133)) else (some false))) else (some false)) else (some false))) else (some false)))))) = some r := h
  clear h
  replace H := Option.bind_eq_some_iff.mp H
  obtain ⟨⟨t123, t124⟩, A50, H⟩ := H
  replace H : ((halberdref4_ChachaBlock.f a0 a1 a2).bind fun bt125 => ((chacha_Xor.f a0 a1 a2 a3).bind fun bt127 => ((halberdref4_Xor.f k a0 a1 a2 a3).bind fun bt129 => (if t123.toList = bt125.1.toList then ((halberdlaw0_Num.f t124).bind fun t131 => (if t131 = bt125.2 then (if bt127.1.toList = bt129.1.toList then ((halberdlaw0_Num.f bt127.2).bind fun t132 => (if t132 = bt129.2 then ((halberdlaw6_awake.f).bind fun t133 => (some t133)) else (some false))) else (some false)) else (some false))) else (some false))))) = some r := H
  have A5 := Aside0.mk A50
  clear A50
  replace H := Option.bind_eq_some_iff.mp H
  obtain ⟨⟨t125, t126⟩, A60, H⟩ := H
  replace H : ((chacha_Xor.f a0 a1 a2 a3).bind fun bt127 => ((halberdref4_Xor.f k a0 a1 a2 a3).bind fun bt129 => (if t123.toList = t125.toList then ((halberdlaw0_Num.f t124).bind fun t131 => (if t131 = t126 then (if bt127.1.toList = bt129.1.toList then ((halberdlaw0_Num.f bt127.2).bind fun t132 => (if t132 = bt129.2 then ((halberdlaw6_awake.f).bind fun t133 => (some t133)) else (some false))) else (some false)) else (some false))) else (some false)))) = some r := H
  have A6 := Aside0.mk A60
  clear A60
  replace H := Option.bind_eq_some_iff.mp H
  obtain ⟨⟨t127, t128⟩, A70, H⟩ := H
  replace H : ((halberdref4_Xor.f k a0 a1 a2 a3).bind fun bt129 => (if t123.toList = t125.toList then ((halberdlaw0_Num.f t124).bind fun t131 => (if t131 = t126 then (if t127.toList = bt129.1.toList then ((halberdlaw0_Num.f t128).bind fun t132 => (if t132 = bt129.2 then ((halberdlaw6_awake.f).bind fun t133 => (some t133)) else (some false))) else (some false)) else (some false))) else (some false))) = some r := H
  have A7 := Aside0.mk A70
  clear A70
  replace H := Option.bind_eq_some_iff.mp H
  obtain ⟨⟨t129, t130⟩, A80, H⟩ := H
  replace H : (if t123.toList = t125.toList then ((halberdlaw0_Num.f t124).bind fun t131 => (if t131 = t126 then (if t127.toList = t129.toList then ((halberdlaw0_Num.f t128).bind fun t132 => (if t132 = t130 then ((halberdlaw6_awake.f).bind fun t133 => (some t133)) else (some false))) else (some false)) else (some false))) else (some false)) = some r := H
  have A8 := Aside0.mk A80
  clear A80
  by_cases c9 : t123.toList = t125.toList
  · rw [if_pos c9] at H
    have c9b0 : (t123.toList == t125.toList) = true := beq_iff_eq.mpr c9
    have c9b1 : (t123.toList != t125.toList) = false := bne_eq_false_iff_eq.mpr c9
    clear c9
    replace H := Option.bind_eq_some_iff.mp H
    obtain ⟨t131, A100, H⟩ := H
    replace H : (if t131 = t126 then (if t127.toList = t129.toList then ((halberdlaw0_Num.f t128).bind fun t132 => (if t132 = t130 then ((halberdlaw6_awake.f).bind fun t133 => (some t133)) else (some false))) else (some false)) else (some false)) = some r := H
    have A10 := Aside0.mk A100
    clear A100
    by_cases c11 : t131 = t126
    · rw [if_pos c11] at H
      have c11b0 : (t131 == t126) = true := beq_iff_eq.mpr c11
      have c11b1 : (t131 != t126) = false := bne_eq_false_iff_eq.mpr c11
      clear c11
      by_cases c12 : t127.toList = t129.toList
      · rw [if_pos c12] at H
        have c12b0 : (t127.toList == t129.toList) = true := beq_iff_eq.mpr c12
        have c12b1 : (t127.toList != t129.toList) = false := bne_eq_false_iff_eq.mpr c12
        clear c12
        replace H := Option.bind_eq_some_iff.mp H
        obtain ⟨t132, A130, H⟩ := H
        replace H : (if t132 = t130 then ((halberdlaw6_awake.f).bind fun t133 => (some t133)) else (some false)) = some r := H
        have A13 := Aside0.mk A130
        clear A130
        by_cases c14 : t132 = t130
        · rw [if_pos c14] at H
          have c14b0 : (t132 == t130) = true := beq_iff_eq.mpr c14
          have c14b1 : (t132 != t130) = false := bne_eq_false_iff_eq.mpr c14
          clear c14
          replace H := Option.bind_eq_some_iff.mp H
          obtain ⟨t133, A150, H⟩ := H
          replace H : (some t133) = some r := H
          have A15 := Aside0.mk A150
          clear A150
          obtain rfl := Option.some.inj H
          go_enter Try.func3, Try.ntmps3
          go_wp2_with (first | ((with_reducible refine gate_callee (f := 12) rfl ?_); refine goesL_ (some 21) rfl rfl Try.func12 (by kernel_rfl) rfl #[.string a0, .int .i64 a1, .string a2] rfl (by (try simp only [List.map_toArray, List.map_cons, List.map_nil]); first | done | rfl | (simp only [List.length_drop, List.length_take]; rfl)) ?_; (with_reducible refine (chacha_Block.calls a0 a1 a2 t123 t124 _ A5.out).mono ?_); rintro e w16 ⟨rfl, hb⟩; refine ⟨_, rfl, ?_⟩; have n0_ := Aside0.mk (below_step (by repeat (first | (with_reducible first | exact HB.out | apply below_alloc | apply pw_below_drewN | apply below_drew1) | exact HB.out)) hb); clear HB; have HB := n0_; clear n0_; (try clear hb); (try clear hb2); (try clear hk); (try clear hi)) | ((with_reducible refine gate_callee (f := 13) rfl ?_); refine goesL_ (some 28) rfl rfl Try.func13 (by kernel_rfl) rfl #[.string a0, .int .i64 a1, .string a2] rfl (by (try simp only [List.map_toArray, List.map_cons, List.map_nil]); first | done | rfl | (simp only [List.length_drop, List.length_take]; rfl)) ?_; (with_reducible refine (halberdref4_ChachaBlock.calls a0 a1 a2 t125 t126 _ A6.out).mono ?_); rintro e w17 ⟨rfl, hb⟩; refine ⟨_, rfl, ?_⟩; have n0_ := Aside0.mk (below_step (by repeat (first | (with_reducible first | exact HB.out | apply below_alloc | apply pw_below_drewN | apply below_drew1) | exact HB.out)) hb); clear HB; have HB := n0_; clear n0_; (try clear hb); (try clear hb2); (try clear hk); (try clear hi)) | ((with_reducible refine gate_callee (f := 14) rfl ?_); refine goesL_ (some 36) rfl rfl Try.func14 (by kernel_rfl) rfl #[.string a0, .int .i64 a1, .string a2, .string a3] rfl (by (try simp only [List.map_toArray, List.map_cons, List.map_nil]); first | done | rfl | (simp only [List.length_drop, List.length_take]; rfl)) ?_; (with_reducible refine (chacha_Xor.calls a0 a1 a2 a3 t127 t128 _ A7.out).mono ?_); rintro e w18 ⟨rfl, hb⟩; refine ⟨_, rfl, ?_⟩; have n0_ := Aside0.mk (below_step (by repeat (first | (with_reducible first | exact HB.out | apply below_alloc | apply pw_below_drewN | apply below_drew1) | exact HB.out)) hb); clear HB; have HB := n0_; clear n0_; (try clear hb); (try clear hb2); (try clear hk); (try clear hi)) | ((with_reducible refine gate_callee (f := 15) rfl ?_); refine goesL_ (some 44) rfl rfl Try.func15 (by kernel_rfl) rfl #[.string a0, .int .i64 a1, .string a2, .string a3] rfl (by (try simp only [List.map_toArray, List.map_cons, List.map_nil]); first | done | rfl | (simp only [List.length_drop, List.length_take]; rfl)) ?_; (with_reducible refine (halberdref4_Xor.calls k a0 a1 a2 a3 t129 t130 _ A8.out).mono ?_); rintro e w19 ⟨rfl, hb⟩; refine ⟨_, rfl, ?_⟩; have n0_ := Aside0.mk (below_step (by repeat (first | (with_reducible first | exact HB.out | apply below_alloc | apply pw_below_drewN | apply below_drew1) | exact HB.out)) hb); clear HB; have HB := n0_; clear n0_; (try clear hb); (try clear hb2); (try clear hk); (try clear hi)) | (go_at_call 16; (with_reducible refine (halberdlaw0_Num.calls t124 t131 _ A10.out).mono ?_); rintro e w' ⟨rfl, ⟨nd, rfl⟩⟩) | (go_at_call 16; (with_reducible refine (halberdlaw0_Num.calls t128 t132 _ A13.out).mono ?_); rintro e w' ⟨rfl, ⟨nd, rfl⟩⟩) | (go_at_call 17; (with_reducible refine (halberdlaw6_awake.calls  t133 _ A15.out).mono ?_); rintro e w20 ⟨rfl, hb⟩; have n0_ := Aside0.mk (below_step (by repeat (first | (with_reducible first | exact HB.out | apply below_alloc | apply pw_below_drewN | apply below_drew1) | exact HB.out)) hb); clear HB; have HB := n0_; clear n0_; (try clear hb); (try clear hb2); (try clear hk); (try clear hi)))
          go_ret
          exact ⟨by first | rfl | (simp [errW_none, errW_some] <;> rfl) | (simp [*, errW_none, errW_some] <;> rfl), by repeat (first | (with_reducible first | exact HB.out | apply below_alloc | apply pw_below_drewN | apply below_drew1) | exact HB.out)⟩
        · rw [if_neg c14] at H
          have c14b0 : (t132 == t130) = false := beq_eq_false_iff_ne.mpr c14
          have c14b1 : (t132 != t130) = true := bne_iff_ne.mpr c14
          exact absurd ((Option.some.inj H).trans hr.out) (by decide)
      · rw [if_neg c12] at H
        have c12b0 : (t127.toList == t129.toList) = false := beq_eq_false_iff_ne.mpr c12
        have c12b1 : (t127.toList != t129.toList) = true := bne_iff_ne.mpr c12
        exact absurd ((Option.some.inj H).trans hr.out) (by decide)
    · rw [if_neg c11] at H
      have c11b0 : (t131 == t126) = false := beq_eq_false_iff_ne.mpr c11
      have c11b1 : (t131 != t126) = true := bne_iff_ne.mpr c11
      exact absurd ((Option.some.inj H).trans hr.out) (by decide)
  · rw [if_neg c9] at H
    have c9b0 : (t123.toList == t125.toList) = false := beq_eq_false_iff_ne.mpr c9
    have c9b1 : (t123.toList != t125.toList) = true := bne_iff_ne.mpr c9
    exact absurd ((Option.some.inj H).trans hr.out) (by decide)

/-- THE ONE PURE STATEMENT of halberdlaw6_Chachas: yours. -/
def halberdlaw6_Chachas.Pure : Prop := ∀ (a0 : ByteArray) (a1 : Int) (a2 : ByteArray) (a3 : ByteArray), a0.size ≤ 140737488351232 → (Lit.int .i64 a1).wf = true → a2.size ≤ 140737488351232 → a3.size ≤ 140737488351232 → ∃ k, halberdlaw6_Chachas.f k a0 a1 a2 a3 = some true
theorem halberdlaw6_Chachas.walk (P : halberdlaw6_Chachas.Pure) (a0 : ByteArray) (a1 : Int) (a2 : ByteArray) (a3 : ByteArray) (w : World) (w0 : a0.size ≤ 140737488351232) (w1 : (Lit.int .i64 a1).wf = true) (w2 : a2.size ≤ 140737488351232) (w3 : a3.size ≤ 140737488351232) :
    Calls Try.prog 3 #[.string a0, .int .i64 a1, .string a2, .string a3] w fun e w' => e = .returned (.bool true) ∧ Below w.heap.size w w' := by
  obtain ⟨k, h⟩ := P a0 a1 a2 a3 w0 w1 w2 w3
  refine (halberdlaw6_Chachas.calls k a0 a1 a2 a3 true w h ⟨rfl⟩).mono ?_
  rintro e w' ⟨rfl, hd⟩
  exact ⟨rfl, hd⟩

end Go.Proofs.Ytocckplgjbhlbaa.Z
