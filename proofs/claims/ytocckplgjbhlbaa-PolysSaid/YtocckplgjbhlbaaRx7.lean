-- Written by a program of this session (wip/tools/xprint.py), over the kit's printer.
import Derived.Test.YtocckplgjbhlbaaRx0
import Derived.Test.YtocckplgjbhlbaaRx1
import Derived.Test.YtocckplgjbhlbaaRx2
import Derived.Test.YtocckplgjbhlbaaRx5
import Derived.Test.YtocckplgjbhlbaaRx6
namespace Go.Proofs.Ytocckplgjbhlbaa.R
open Go.RowKit Go.Proofs.YtocckplgjbhlbaaW.PrintWords Go.Proofs.YtocckplgjbhlbaaW.PrintLast Go.Proofs.YtocckplgjbhlbaaW.PrintMore
attribute [local go_sem] max2_int min2_int max_two min_two max_three min_three max_four min_four   -- for this text's walks alone
set_option linter.unusedVariables false
set_option linter.unusedSimpArgs false

/-! ### halberdlaw7_awake0: function 24 -/
def halberdlaw7_awake0.f  : Option (Bool) := if 32 ≤ 281474976710656 then ((some (List.replicate 32 0 : List Int)).bind fun y160 => ((poly_Mac.f (strOfNums y160) (⟨#[97, 98, 99]⟩ : ByteArray)).bind fun bt163 => (if 0 ≤ 12 then (if 12 ≤ ((strOfNums y160).size : Int) then ((poly_Seal.f (strOfNums y160) ((strOfNums y160).extract 0 12) (⟨#[97]⟩ : ByteArray) (⟨#[104, 101, 108, 108, 111]⟩ : ByteArray)).bind fun bt165 => ((poly_Open.f (strOfNums y160) ((strOfNums y160).extract 0 12) (⟨#[97]⟩ : ByteArray) bt165.1).bind fun bt167 => ((poly_Open.f (strOfNums y160) ((strOfNums y160).extract 0 12) (⟨#[98]⟩ : ByteArray) bt165.1).bind fun bt169 => ((poly_Mac.f (⟨#[107]⟩ : ByteArray) (⟨#[]⟩ : ByteArray)).bind fun bt171 => (if 0 ≤ 16 then (if 16 ≤ ((strOfNums y160).size : Int) then (if bt163.1.toList = ((strOfNums y160).extract 0 16).toList then ((halberdlaw0_Num.f bt163.2).bind fun t173 => (if t173 = 0 then (if (bt165.1.size : Int) = 21 then ((halberdlaw0_Num.f bt165.2).bind fun t174 => (if t174 = 0 then (if bt167.1.toList = ([104, 101, 108, 108, 111] : List UInt8) then ((halberdlaw0_Num.f bt167.2).bind fun t175 => (if t175 = 0 then ((halberdlaw0_Num.f bt169.2).bind fun t176 => (if t176 = 700 then ((halberdlaw0_Num.f bt171.2).bind fun t177 => (some (t177 == 700))) else (some false))) else (some false))) else (some false)) else (some false))) else (some false)) else (some false))) else (some false)) else (none)) else (none)))))) else (none)) else (none)))) else (none)
set_option maxHeartbeats 8000000 in
set_option maxRecDepth 100000 in
theorem halberdlaw7_awake0.calls  (r : Bool) (w : World) (h : halberdlaw7_awake0.f  = some r) (hr : Aside0 (r = true)) :
    Calls Try.prog 24 #[] w fun e w' => e = .returned (.bool r) ∧ Below w.heap.size w w' := by
  have HB := Aside0.mk (Below.refl w.heap.size w)
  have H : (if 32 ≤ 281474976710656 then ((some (List.replicate 32 0 : List Int)).bind fun y160 => ((poly_Mac.f (strOfNums y160) (⟨#[97, 98, 99]⟩ : ByteArray)).bind fun bt163 => (if 0 ≤ 12 then (if 12 ≤ ((strOfNums y160).size : Int) then ((poly_Seal.f (strOfNums y160) ((strOfNums y160).extract 0 12) (⟨#[97]⟩ : ByteArray) (⟨#[104, 101, 108, 108, 111]⟩ : ByteArray)).bind fun bt165 => ((poly_Open.f (strOfNums y160) ((strOfNums y160).extract 0 12) (⟨#[97]⟩ : ByteArray) bt165.1).bind fun bt167 => ((poly_Open.f (strOfNums y160) ((strOfNums y160).extract 0 12) (⟨#[98]⟩ : ByteArray) bt165.1).bind fun bt169 => ((poly_Mac.f (⟨#[107]⟩ : ByteArray) (⟨#[]⟩ : ByteArray)).bind fun bt171 => (if 0 ≤ 16 then (if 16 ≤ ((strOfNums y160).size : Int) then (if bt163.1.toList = ((strOfNums y160).extract 0 16).toList then ((halberdlaw0_Num.f bt163.2).bind fun t173 => (if t173 = 0 then (if (bt165.1.size : Int) = 21 then ((halberdlaw0_Num.f bt165.2).bind fun t174 => (if t174 = 0 then (if bt167.1.toList = ([104, 101, 108, 108, 111] : List UInt8) then ((halberdlaw0_Num.f bt167.2).bind fun t175 => (if t175 = 0 then ((halberdlaw0_Num.f bt169.2).bind fun t176 => (if t176 = 700 then ((halberdlaw0_Num.f bt171.2).bind fun t177 => (some (t177 == 700))) else (some false))) else (some false))) else (some false)) else (some false))) else (some false)) else (some false))) else (some false)) else (none)) else (none)))))) else (none)) else (none)))) else (none)) = some r := h
  clear h
  by_cases c1 : 32 ≤ 281474976710656
  · rw [if_pos c1] at H
    have c1b0 := eq_true c1
    have c1b1 : decide (32 ≤ 281474976710656) = true := decide_eq_true c1
    clear c1
    obtain ⟨y160, hy160⟩ : ∃ y_ : List Int, y_ = (List.replicate 32 0) := ⟨_, rfl⟩
    replace H : ((poly_Mac.f (strOfNums y160) (⟨#[97, 98, 99]⟩ : ByteArray)).bind fun bt163 => (if 0 ≤ 12 then (if 12 ≤ ((strOfNums y160).size : Int) then ((poly_Seal.f (strOfNums y160) ((strOfNums y160).extract 0 12) (⟨#[97]⟩ : ByteArray) (⟨#[104, 101, 108, 108, 111]⟩ : ByteArray)).bind fun bt165 => ((poly_Open.f (strOfNums y160) ((strOfNums y160).extract 0 12) (⟨#[97]⟩ : ByteArray) bt165.1).bind fun bt167 => ((poly_Open.f (strOfNums y160) ((strOfNums y160).extract 0 12) (⟨#[98]⟩ : ByteArray) bt165.1).bind fun bt169 => ((poly_Mac.f (⟨#[107]⟩ : ByteArray) (⟨#[]⟩ : ByteArray)).bind fun bt171 => (if 0 ≤ 16 then (if 16 ≤ ((strOfNums y160).size : Int) then (if bt163.1.toList = ((strOfNums y160).extract 0 16).toList then ((halberdlaw0_Num.f bt163.2).bind fun t173 => (if t173 = 0 then (if (bt165.1.size : Int) = 21 then ((halberdlaw0_Num.f bt165.2).bind fun t174 => (if t174 = 0 then (if bt167.1.toList = ([104, 101, 108, 108, 111] : List UInt8) then ((halberdlaw0_Num.f bt167.2).bind fun t175 => (if t175 = 0 then ((halberdlaw0_Num.f bt169.2).bind fun t176 => (if t176 = 700 then ((halberdlaw0_Num.f bt171.2).bind fun t177 => (some (t177 == 700))) else (some false))) else (some false))) else (some false)) else (some false))) else (some false)) else (some false))) else (some false)) else (none)) else (none)))))) else (none)) else (none))) = some r := by first | (rw [hy160]; with_reducible exact H) | (have H2_ := (Option.bind_some _ _).symm.trans H; rw [hy160]; with_reducible exact H2_) | (have H2_ := (Option.bind_some _ _).symm.trans H; with_reducible exact H2_) | with_reducible exact H | (rw [hy160]; exact H) | exact H
    have Ny160 := Aside0.mk hy160
    clear hy160
    replace H := Option.bind_eq_some_iff.mp H
    obtain ⟨⟨t163, t164⟩, A20, H⟩ := H
    replace H : (if 0 ≤ 12 then (if 12 ≤ ((strOfNums y160).size : Int) then ((poly_Seal.f (strOfNums y160) ((strOfNums y160).extract 0 12) (⟨#[97]⟩ : ByteArray) (⟨#[104, 101, 108, 108, 111]⟩ : ByteArray)).bind fun bt165 => ((poly_Open.f (strOfNums y160) ((strOfNums y160).extract 0 12) (⟨#[97]⟩ : ByteArray) bt165.1).bind fun bt167 => ((poly_Open.f (strOfNums y160) ((strOfNums y160).extract 0 12) (⟨#[98]⟩ : ByteArray) bt165.1).bind fun bt169 => ((poly_Mac.f (⟨#[107]⟩ : ByteArray) (⟨#[]⟩ : ByteArray)).bind fun bt171 => (if 0 ≤ 16 then (if 16 ≤ ((strOfNums y160).size : Int) then (if t163.toList = ((strOfNums y160).extract 0 16).toList then ((halberdlaw0_Num.f t164).bind fun t173 => (if t173 = 0 then (if (bt165.1.size : Int) = 21 then ((halberdlaw0_Num.f bt165.2).bind fun t174 => (if t174 = 0 then (if bt167.1.toList = ([104, 101, 108, 108, 111] : List UInt8) then ((halberdlaw0_Num.f bt167.2).bind fun t175 => (if t175 = 0 then ((halberdlaw0_Num.f bt169.2).bind fun t176 => (if t176 = 700 then ((halberdlaw0_Num.f bt171.2).bind fun t177 => (some (t177 == 700))) else (some false))) else (some false))) else (some false)) else (some false))) else (some false)) else (some false))) else (some false)) else (none)) else (none)))))) else (none)) else (none)) = some r := H
    have A2 := Aside0.mk A20
    clear A20
    by_cases c3 : 0 ≤ 12
    · rw [if_pos c3] at H
      have c3b0 := eq_true c3
      have c3b1 : decide (0 ≤ 12) = true := decide_eq_true c3
      clear c3
      by_cases c4 : 12 ≤ ((strOfNums y160).size : Int)
      · rw [if_pos c4] at H
        have c4b0 := eq_true c4
        have c4b1 : decide (12 ≤ ((strOfNums y160).size : Int)) = true := decide_eq_true c4
        clear c4
        replace H := Option.bind_eq_some_iff.mp H
        obtain ⟨⟨t165, t166⟩, A50, H⟩ := H
        replace H : ((poly_Open.f (strOfNums y160) ((strOfNums y160).extract 0 12) (⟨#[97]⟩ : ByteArray) t165).bind fun bt167 => ((poly_Open.f (strOfNums y160) ((strOfNums y160).extract 0 12) (⟨#[98]⟩ : ByteArray) t165).bind fun bt169 => ((poly_Mac.f (⟨#[107]⟩ : ByteArray) (⟨#[]⟩ : ByteArray)).bind fun bt171 => (if 0 ≤ 16 then (if 16 ≤ ((strOfNums y160).size : Int) then (if t163.toList = ((strOfNums y160).extract 0 16).toList then ((halberdlaw0_Num.f t164).bind fun t173 => (if t173 = 0 then (if (t165.size : Int) = 21 then ((halberdlaw0_Num.f t166).bind fun t174 => (if t174 = 0 then (if bt167.1.toList = ([104, 101, 108, 108, 111] : List UInt8) then ((halberdlaw0_Num.f bt167.2).bind fun t175 => (if t175 = 0 then ((halberdlaw0_Num.f bt169.2).bind fun t176 => (if t176 = 700 then ((halberdlaw0_Num.f bt171.2).bind fun t177 => (some (t177 == 700))) else (some false))) else (some false))) else (some false)) else (some false))) else (some false)) else (some false))) else (some false)) else (none)) else (none))))) = some r := H
        have A5 := Aside0.mk A50
        clear A50
        have c6b0 := eq_true (of_decide_eq_true (by first | (with_reducible assumption) | assumption) : 0 ≤ 12)
        have c7b0 := eq_true (of_decide_eq_true (by first | (with_reducible assumption) | assumption) : 12 ≤ ((strOfNums y160).size : Int))
        replace H := Option.bind_eq_some_iff.mp H
        obtain ⟨⟨t167, t168⟩, A80, H⟩ := H
        replace H : ((poly_Open.f (strOfNums y160) ((strOfNums y160).extract 0 12) (⟨#[98]⟩ : ByteArray) t165).bind fun bt169 => ((poly_Mac.f (⟨#[107]⟩ : ByteArray) (⟨#[]⟩ : ByteArray)).bind fun bt171 => (if 0 ≤ 16 then (if 16 ≤ ((strOfNums y160).size : Int) then (if t163.toList = ((strOfNums y160).extract 0 16).toList then ((halberdlaw0_Num.f t164).bind fun t173 => (if t173 = 0 then (if (t165.size : Int) = 21 then ((halberdlaw0_Num.f t166).bind fun t174 => (if t174 = 0 then (if t167.toList = ([104, 101, 108, 108, 111] : List UInt8) then ((halberdlaw0_Num.f t168).bind fun t175 => (if t175 = 0 then ((halberdlaw0_Num.f bt169.2).bind fun t176 => (if t176 = 700 then ((halberdlaw0_Num.f bt171.2).bind fun t177 => (some (t177 == 700))) else (some false))) else (some false))) else (some false)) else (some false))) else (some false)) else (some false))) else (some false)) else (none)) else (none)))) = some r := H
        have A8 := Aside0.mk A80
        clear A80
        have c9b0 := eq_true (of_decide_eq_true (by first | (with_reducible assumption) | assumption) : 0 ≤ 12)
        have c10b0 := eq_true (of_decide_eq_true (by first | (with_reducible assumption) | assumption) : 12 ≤ ((strOfNums y160).size : Int))
        replace H := Option.bind_eq_some_iff.mp H
        obtain ⟨⟨t169, t170⟩, A110, H⟩ := H
        replace H : ((poly_Mac.f (⟨#[107]⟩ : ByteArray) (⟨#[]⟩ : ByteArray)).bind fun bt171 => (if 0 ≤ 16 then (if 16 ≤ ((strOfNums y160).size : Int) then (if t163.toList = ((strOfNums y160).extract 0 16).toList then ((halberdlaw0_Num.f t164).bind fun t173 => (if t173 = 0 then (if (t165.size : Int) = 21 then ((halberdlaw0_Num.f t166).bind fun t174 => (if t174 = 0 then (if t167.toList = ([104, 101, 108, 108, 111] : List UInt8) then ((halberdlaw0_Num.f t168).bind fun t175 => (if t175 = 0 then ((halberdlaw0_Num.f t170).bind fun t176 => (if t176 = 700 then ((halberdlaw0_Num.f bt171.2).bind fun t177 => (some (t177 == 700))) else (some false))) else (some false))) else (some false)) else (some false))) else (some false)) else (some false))) else (some false)) else (none)) else (none))) = some r := H
        have A11 := Aside0.mk A110
        clear A110
        replace H := Option.bind_eq_some_iff.mp H
        obtain ⟨⟨t171, t172⟩, A120, H⟩ := H
        replace H : (if 0 ≤ 16 then (if 16 ≤ ((strOfNums y160).size : Int) then (if t163.toList = ((strOfNums y160).extract 0 16).toList then ((halberdlaw0_Num.f t164).bind fun t173 => (if t173 = 0 then (if (t165.size : Int) = 21 then ((halberdlaw0_Num.f t166).bind fun t174 => (if t174 = 0 then (if t167.toList = ([104, 101, 108, 108, 111] : List UInt8) then ((halberdlaw0_Num.f t168).bind fun t175 => (if t175 = 0 then ((halberdlaw0_Num.f t170).bind fun t176 => (if t176 = 700 then ((halberdlaw0_Num.f t172).bind fun t177 => (some (t177 == 700))) else (some false))) else (some false))) else (some false)) else (some false))) else (some false)) else (some false))) else (some false)) else (none)) else (none)) = some r := H
        have A12 := Aside0.mk A120
        clear A120
        by_cases c13 : 0 ≤ 16
        · rw [if_pos c13] at H
          have c13b0 := eq_true c13
          have c13b1 : decide (0 ≤ 16) = true := decide_eq_true c13
          clear c13
          by_cases c14 : 16 ≤ ((strOfNums y160).size : Int)
          · rw [if_pos c14] at H
            have c14b0 := eq_true c14
            have c14b1 : decide (16 ≤ ((strOfNums y160).size : Int)) = true := decide_eq_true c14
            clear c14
            by_cases c15 : t163.toList = ((strOfNums y160).extract 0 16).toList
            · rw [if_pos c15] at H
              have c15b0 : (t163.toList == ((strOfNums y160).extract 0 16).toList) = true := beq_iff_eq.mpr c15
              have c15b1 : (t163.toList != ((strOfNums y160).extract 0 16).toList) = false := bne_eq_false_iff_eq.mpr c15
              clear c15
              replace H := Option.bind_eq_some_iff.mp H
              obtain ⟨t173, A160, H⟩ := H
              replace H : (if t173 = 0 then (if (t165.size : Int) = 21 then ((halberdlaw0_Num.f t166).bind fun t174 => (if t174 = 0 then (if t167.toList = ([104, 101, 108, 108, 111] : List UInt8) then ((halberdlaw0_Num.f t168).bind fun t175 => (if t175 = 0 then ((halberdlaw0_Num.f t170).bind fun t176 => (if t176 = 700 then ((halberdlaw0_Num.f t172).bind fun t177 => (some (t177 == 700))) else (some false))) else (some false))) else (some false)) else (some false))) else (some false)) else (some false)) = some r := H
              have A16 := Aside0.mk A160
              clear A160
              by_cases c17 : t173 = 0
              · rw [if_pos c17] at H
                have c17b0 : (t173 == 0) = true := beq_iff_eq.mpr c17
                have c17b1 : (t173 != 0) = false := bne_eq_false_iff_eq.mpr c17
                clear c17
                by_cases c18 : (t165.size : Int) = 21
                · rw [if_pos c18] at H
                  have c18b0 : ((t165.size : Int) == 21) = true := beq_iff_eq.mpr c18
                  have c18b1 : ((t165.size : Int) != 21) = false := bne_eq_false_iff_eq.mpr c18
                  clear c18
                  replace H := Option.bind_eq_some_iff.mp H
                  obtain ⟨t174, A190, H⟩ := H
                  replace H : (if t174 = 0 then (if t167.toList = ([104, 101, 108, 108, 111] : List UInt8) then ((halberdlaw0_Num.f t168).bind fun t175 => (if t175 = 0 then ((halberdlaw0_Num.f t170).bind fun t176 => (if t176 = 700 then ((halberdlaw0_Num.f t172).bind fun t177 => (some (t177 == 700))) else (some false))) else (some false))) else (some false)) else (some false)) = some r := H
                  have A19 := Aside0.mk A190
                  clear A190
                  by_cases c20 : t174 = 0
                  · rw [if_pos c20] at H
                    have c20b0 : (t174 == 0) = true := beq_iff_eq.mpr c20
                    have c20b1 : (t174 != 0) = false := bne_eq_false_iff_eq.mpr c20
                    clear c20
                    by_cases c21 : t167.toList = ([104, 101, 108, 108, 111] : List UInt8)
                    · rw [if_pos c21] at H
                      have c21b0 : (t167.toList == ([104, 101, 108, 108, 111] : List UInt8)) = true := beq_iff_eq.mpr c21
                      have c21b1 : (t167.toList != ([104, 101, 108, 108, 111] : List UInt8)) = false := bne_eq_false_iff_eq.mpr c21
                      clear c21
                      replace H := Option.bind_eq_some_iff.mp H
                      obtain ⟨t175, A220, H⟩ := H
                      replace H : (if t175 = 0 then ((halberdlaw0_Num.f t170).bind fun t176 => (if t176 = 700 then ((halberdlaw0_Num.f t172).bind fun t177 => (some (t177 == 700))) else (some false))) else (some false)) = some r := H
                      have A22 := Aside0.mk A220
                      clear A220
                      by_cases c23 : t175 = 0
                      · rw [if_pos c23] at H
                        have c23b0 : (t175 == 0) = true := beq_iff_eq.mpr c23
                        have c23b1 : (t175 != 0) = false := bne_eq_false_iff_eq.mpr c23
                        clear c23
                        replace H := Option.bind_eq_some_iff.mp H
                        obtain ⟨t176, A240, H⟩ := H
                        replace H : (if t176 = 700 then ((halberdlaw0_Num.f t172).bind fun t177 => (some (t177 == 700))) else (some false)) = some r := H
                        have A24 := Aside0.mk A240
                        clear A240
                        by_cases c25 : t176 = 700
                        · rw [if_pos c25] at H
                          have c25b0 : (t176 == 700) = true := beq_iff_eq.mpr c25
                          have c25b1 : (t176 != 700) = false := bne_eq_false_iff_eq.mpr c25
                          clear c25
                          replace H := Option.bind_eq_some_iff.mp H
                          obtain ⟨t177, A260, H⟩ := H
                          replace H : (some (t177 == 700)) = some r := H
                          have A26 := Aside0.mk A260
                          clear A260
                          obtain rfl := Option.some.inj H
                          go_enter Try.func24, Try.ntmps24
                          go_wp2_with (first | ((with_reducible refine gate_dst (N := 12) rfl ?_); (try (refine gate_guard (by rfl) ?_; dsimp only)); refine Kd.R_make (Kd.int .u8) _ 5 rfl (N := 12) rfl 32 _ _ rfl 32 rfl rfl Try.underlying32 (.int .u8 0) 1 info5 rfl (by decide) (by omega) 0 (ok := fun _ => True) (okp := fun _ => True) rfl (fun _ hk => hk) trivial (by omega) (by omega) (Below.refl _ _) (Nat.le_refl _) ?_; intro v161 w27 ho28 hb hg_ hnew_; clear hg_ hnew_; (first | rw [← Ny160.out] at ho28 | (simp only [Int.reduceToNat] at ho28; rw [← Ny160.out] at ho28)); have n0_ := Aside0.mk (Kd.R_lower ho28 (below_size (by repeat (first | (with_reducible first | exact HB.out | apply below_alloc | apply pw_below_drewN | apply below_drew1) | exact HB.out)))); have n1_ := Aside0.mk (below_step (by repeat (first | (with_reducible first | exact HB.out | apply below_alloc | apply pw_below_drewN | apply below_drew1) | exact HB.out)) hb); clear HB; have HO162 := n0_; have HB := n1_; clear n0_ n1_; clear hb ho28; have hcv29 := own_string (P := Try.prog) Try.underlying32 Try.underlying5 Try.underlying9 (Kd.own_of_R HO162.out)) | ((with_reducible refine gate_callee (f := 18) rfl ?_); refine goesL_ (some 16) rfl rfl Try.func18 (by kernel_rfl) rfl #[.string (strOfNums y160), .string (⟨#[97, 98, 99]⟩ : ByteArray)] rfl (by (try simp only [List.map_toArray, List.map_cons, List.map_nil]); first | done | rfl | (simp only [List.length_drop, List.length_take]; rfl)) ?_; (with_reducible refine (poly_Mac.calls (strOfNums y160) (⟨#[97, 98, 99]⟩ : ByteArray) t163 t164 _ A2.out).mono ?_); rintro e w30 ⟨rfl, hb⟩; refine ⟨_, rfl, ?_⟩; have n0_ := Aside0.mk (Kd.R_below (by (with_reducible repeat (first | apply Kd.R_alloc | apply Kd.R_drewN | apply Kd.R_drew)); exact HO162.out) hb); have n1_ := Aside0.mk (below_step (by repeat (first | (with_reducible first | exact HB.out | apply below_alloc | apply pw_below_drewN | apply below_drew1) | exact HB.out)) hb); clear HO162; clear HB; have HO162 := n0_; have HB := n1_; clear n0_ n1_; (try clear hb); (try clear hb2); (try clear hk); (try clear hi)) | ((with_reducible refine gate_callee (f := 20) rfl ?_); refine goesL_ (some 23) rfl rfl Try.func20 (by kernel_rfl) rfl #[.string (strOfNums y160), .string ((strOfNums y160).extract 0 12), .string (⟨#[97]⟩ : ByteArray), .string (⟨#[104, 101, 108, 108, 111]⟩ : ByteArray)] rfl (by (try simp only [List.map_toArray, List.map_cons, List.map_nil]); first | done | rfl | (simp only [List.length_drop, List.length_take]; rfl)) ?_; (with_reducible refine (poly_Seal.calls (strOfNums y160) ((strOfNums y160).extract 0 12) (⟨#[97]⟩ : ByteArray) (⟨#[104, 101, 108, 108, 111]⟩ : ByteArray) t165 t166 _ A5.out).mono ?_); rintro e w31 ⟨rfl, hb⟩; refine ⟨_, rfl, ?_⟩; have n0_ := Aside0.mk (Kd.R_below (by (with_reducible repeat (first | apply Kd.R_alloc | apply Kd.R_drewN | apply Kd.R_drew)); exact HO162.out) hb); have n1_ := Aside0.mk (below_step (by repeat (first | (with_reducible first | exact HB.out | apply below_alloc | apply pw_below_drewN | apply below_drew1) | exact HB.out)) hb); clear HO162; clear HB; have HO162 := n0_; have HB := n1_; clear n0_ n1_; (try clear hb); (try clear hb2); (try clear hk); (try clear hi)) | ((with_reducible refine gate_callee (f := 22) rfl ?_); refine goesL_ (some 31) rfl rfl Try.func22 (by kernel_rfl) rfl #[.string (strOfNums y160), .string ((strOfNums y160).extract 0 12), .string (⟨#[97]⟩ : ByteArray), .string t165] rfl (by (try simp only [List.map_toArray, List.map_cons, List.map_nil]); first | done | rfl | (simp only [List.length_drop, List.length_take]; rfl)) ?_; (with_reducible refine (poly_Open.calls (strOfNums y160) ((strOfNums y160).extract 0 12) (⟨#[97]⟩ : ByteArray) t165 t167 t168 _ A8.out).mono ?_); rintro e w32 ⟨rfl, hb⟩; refine ⟨_, rfl, ?_⟩; have n0_ := Aside0.mk (Kd.R_below (by (with_reducible repeat (first | apply Kd.R_alloc | apply Kd.R_drewN | apply Kd.R_drew)); exact HO162.out) hb); have n1_ := Aside0.mk (below_step (by repeat (first | (with_reducible first | exact HB.out | apply below_alloc | apply pw_below_drewN | apply below_drew1) | exact HB.out)) hb); clear HO162; clear HB; have HO162 := n0_; have HB := n1_; clear n0_ n1_; (try clear hb); (try clear hb2); (try clear hk); (try clear hi)) | ((with_reducible refine gate_callee (f := 22) rfl ?_); refine goesL_ (some 39) rfl rfl Try.func22 (by kernel_rfl) rfl #[.string (strOfNums y160), .string ((strOfNums y160).extract 0 12), .string (⟨#[98]⟩ : ByteArray), .string t165] rfl (by (try simp only [List.map_toArray, List.map_cons, List.map_nil]); first | done | rfl | (simp only [List.length_drop, List.length_take]; rfl)) ?_; (with_reducible refine (poly_Open.calls (strOfNums y160) ((strOfNums y160).extract 0 12) (⟨#[98]⟩ : ByteArray) t165 t169 t170 _ A11.out).mono ?_); rintro e w33 ⟨rfl, hb⟩; refine ⟨_, rfl, ?_⟩; have n0_ := Aside0.mk (Kd.R_below (by (with_reducible repeat (first | apply Kd.R_alloc | apply Kd.R_drewN | apply Kd.R_drew)); exact HO162.out) hb); have n1_ := Aside0.mk (below_step (by repeat (first | (with_reducible first | exact HB.out | apply below_alloc | apply pw_below_drewN | apply below_drew1) | exact HB.out)) hb); clear HO162; clear HB; have HO162 := n0_; have HB := n1_; clear n0_ n1_; (try clear hb); (try clear hb2); (try clear hk); (try clear hi)) | ((with_reducible refine gate_callee (f := 18) rfl ?_); refine goesL_ (some 43) rfl rfl Try.func18 (by kernel_rfl) rfl #[.string (⟨#[107]⟩ : ByteArray), .string (⟨#[]⟩ : ByteArray)] rfl (by (try simp only [List.map_toArray, List.map_cons, List.map_nil]); first | done | rfl | (simp only [List.length_drop, List.length_take]; rfl)) ?_; (with_reducible refine (poly_Mac.calls (⟨#[107]⟩ : ByteArray) (⟨#[]⟩ : ByteArray) t171 t172 _ A12.out).mono ?_); rintro e w34 ⟨rfl, hb⟩; refine ⟨_, rfl, ?_⟩; have n0_ := Aside0.mk (Kd.R_below (by (with_reducible repeat (first | apply Kd.R_alloc | apply Kd.R_drewN | apply Kd.R_drew)); exact HO162.out) hb); have n1_ := Aside0.mk (below_step (by repeat (first | (with_reducible first | exact HB.out | apply below_alloc | apply pw_below_drewN | apply below_drew1) | exact HB.out)) hb); clear HO162; clear HB; have HO162 := n0_; have HB := n1_; clear n0_ n1_; (try clear hb); (try clear hb2); (try clear hk); (try clear hi)) | (go_at_call 16; (with_reducible refine (halberdlaw0_Num.calls t164 t173 _ A16.out).mono ?_); rintro e w' ⟨rfl, ⟨nd, rfl⟩⟩) | (go_at_call 16; (with_reducible refine (halberdlaw0_Num.calls t166 t174 _ A19.out).mono ?_); rintro e w' ⟨rfl, ⟨nd, rfl⟩⟩) | (go_at_call 16; (with_reducible refine (halberdlaw0_Num.calls t168 t175 _ A22.out).mono ?_); rintro e w' ⟨rfl, ⟨nd, rfl⟩⟩) | (go_at_call 16; (with_reducible refine (halberdlaw0_Num.calls t170 t176 _ A24.out).mono ?_); rintro e w' ⟨rfl, ⟨nd, rfl⟩⟩) | (go_at_call 16; (with_reducible refine (halberdlaw0_Num.calls t172 t177 _ A26.out).mono ?_); rintro e w' ⟨rfl, ⟨nd, rfl⟩⟩))
                          go_ret
                          exact ⟨by first | rfl | (simp [errW_none, errW_some] <;> rfl) | (simp [*, errW_none, errW_some] <;> rfl), by repeat (first | (with_reducible first | exact HB.out | apply below_alloc | apply pw_below_drewN | apply below_drew1) | exact HB.out)⟩
                        · rw [if_neg c25] at H
                          have c25b0 : (t176 == 700) = false := beq_eq_false_iff_ne.mpr c25
                          have c25b1 : (t176 != 700) = true := bne_iff_ne.mpr c25
                          exact absurd ((Option.some.inj H).trans hr.out) (by decide)
                      · rw [if_neg c23] at H
                        have c23b0 : (t175 == 0) = false := beq_eq_false_iff_ne.mpr c23
                        have c23b1 : (t175 != 0) = true := bne_iff_ne.mpr c23
                        exact absurd ((Option.some.inj H).trans hr.out) (by decide)
                    · rw [if_neg c21] at H
                      have c21b0 : (t167.toList == ([104, 101, 108, 108, 111] : List UInt8)) = false := beq_eq_false_iff_ne.mpr c21
                      have c21b1 : (t167.toList != ([104, 101, 108, 108, 111] : List UInt8)) = true := bne_iff_ne.mpr c21
                      exact absurd ((Option.some.inj H).trans hr.out) (by decide)
                  · rw [if_neg c20] at H
                    have c20b0 : (t174 == 0) = false := beq_eq_false_iff_ne.mpr c20
                    have c20b1 : (t174 != 0) = true := bne_iff_ne.mpr c20
                    exact absurd ((Option.some.inj H).trans hr.out) (by decide)
                · rw [if_neg c18] at H
                  have c18b0 : ((t165.size : Int) == 21) = false := beq_eq_false_iff_ne.mpr c18
                  have c18b1 : ((t165.size : Int) != 21) = true := bne_iff_ne.mpr c18
                  exact absurd ((Option.some.inj H).trans hr.out) (by decide)
              · rw [if_neg c17] at H
                have c17b0 : (t173 == 0) = false := beq_eq_false_iff_ne.mpr c17
                have c17b1 : (t173 != 0) = true := bne_iff_ne.mpr c17
                exact absurd ((Option.some.inj H).trans hr.out) (by decide)
            · rw [if_neg c15] at H
              have c15b0 : (t163.toList == ((strOfNums y160).extract 0 16).toList) = false := beq_eq_false_iff_ne.mpr c15
              have c15b1 : (t163.toList != ((strOfNums y160).extract 0 16).toList) = true := bne_iff_ne.mpr c15
              exact absurd ((Option.some.inj H).trans hr.out) (by decide)
          · rw [if_neg c14] at H
            exact absurd H (by simp)
        · rw [if_neg c13] at H
          exact absurd H (by simp)
      · rw [if_neg c4] at H
        exact absurd H (by simp)
    · rw [if_neg c3] at H
      exact absurd H (by simp)
  · rw [if_neg c1] at H
    exact absurd H (by simp)

/-! ### halberdlaw7_awake: function 24, closed -/
def halberdlaw7_awake.f : Option (Bool) := some true
theorem halberdlaw7_awake.knows : halberdlaw7_awake0.f = some true := by decide +kernel
theorem halberdlaw7_awake.calls (r : Bool) (w : World) (h : halberdlaw7_awake.f = some r) : Calls Try.prog 24 #[] w fun e w' => e = .returned (.bool r) ∧ Below w.heap.size w w' := by
  obtain rfl := Option.some.inj h
  exact halberdlaw7_awake0.calls  true w halberdlaw7_awake.knows ⟨rfl⟩

/-! ### halberdlaw7_Polys: function 7 -/
def halberdlaw7_Polys.f (k : Nat) (a0 : ByteArray) (a1 : ByteArray) (a2 : ByteArray) (a3 : ByteArray) : Option (Bool) := (poly_Mac.f a0 a3).bind fun bt178 => ((halberdref4_Poly.f a0 a3).bind fun bt180 => ((poly_Seal.f a0 a1 a2 a3).bind fun bt182 => ((halberdref4_PolySeal.f k a0 a1 a2 a3).bind fun bt184 => ((poly_Open.f a0 a1 a2 a3).bind fun bt186 => ((halberdref4_PolyOpen.f k a0 a1 a2 a3).bind fun bt188 => (if bt178.1.toList = bt180.1.toList then ((halberdlaw0_Num.f bt178.2).bind fun t190 => (if t190 = bt180.2 then (if bt182.1.toList = bt184.1.toList then ((halberdlaw0_Num.f bt182.2).bind fun t191 => (if t191 = bt184.2 then (if bt186.1.toList = bt188.1.toList then ((halberdlaw0_Num.f bt186.2).bind fun t192 => (if t192 = bt188.2 then ((halberdlaw7_awake.f).bind fun t193 => (some t193)) else (some false))) else (some false)) else (some false))) else (some false)) else (some false))) else (some false)))))))
theorem halberdlaw7_Polys.mono : ∀ a0 a1 a2 a3 k, LeO (halberdlaw7_Polys.f k a0 a1 a2 a3) (halberdlaw7_Polys.f (k + 1) a0 a1 a2 a3) := by
  intro a0 a1 a2 a3 k
  unfold halberdlaw7_Polys.f
  repeat' first
      | (with_reducible exact halberdref4_PolyOpen.mono _ _ _ _ _)
      | (with_reducible exact halberdref4_PolySeal.mono _ _ _ _ _)
      | (with_reducible exact LeO.refl _)
      | (with_reducible exact LeO.none _)
      | (with_reducible refine LeO.ite ?_ ?_)
      | (with_reducible refine LeO.bind ?_ (fun _ => ?_))
      | exact halberdref4_PolyOpen.mono _ _ _ _ _
      | exact halberdref4_PolySeal.mono _ _ _ _ _
      | exact LeO.none _
      | refine LeO.ite ?_ ?_
      | refine LeO.bind ?_ (fun _ => ?_)
set_option maxHeartbeats 8000000 in
set_option maxRecDepth 100000 in
theorem halberdlaw7_Polys.calls (k : Nat) (a0 : ByteArray) (a1 : ByteArray) (a2 : ByteArray) (a3 : ByteArray) (r : Bool) (w : World) (h : halberdlaw7_Polys.f k a0 a1 a2 a3 = some r) (hr : Aside0 (r = true)) :
    Calls Try.prog 7 #[.string a0, .string a1, .string a2, .string a3] w fun e w' => e = .returned (.bool r) ∧ Below w.heap.size w w' := by
  have HB := Aside0.mk (Below.refl w.heap.size w)
  have H : ((poly_Mac.f a0 a3).bind fun bt178 => ((halberdref4_Poly.f a0 a3).bind fun bt180 => ((poly_Seal.f a0 a1 a2 a3).bind fun bt182 => ((halberdref4_PolySeal.f k a0 a1 a2 a3).bind fun bt184 => ((poly_Open.f a0 a1 a2 a3).bind fun bt186 => ((halberdref4_PolyOpen.f k a0 a1 a2 a3).bind fun bt188 => (if bt178.1.toList = bt180.1.toList then ((halberdlaw0_Num.f bt178.2).bind fun t190 => (if t190 = bt180.2 then (if bt182.1.toList = bt184.1.toList then ((halberdlaw0_Num.f bt182.2).bind fun t191 => (if t191 = bt184.2 then (if bt186.1.toList = bt188.1.toList then ((halberdlaw0_Num.f bt186.2).bind fun t192 => (if t192 = bt188.2 then ((halberdlaw7_awake.f).bind fun t193 => (some t193)) else (some false))) else (some false)) else (some false))) else (some false)) else (some false))) else (some false)))))))) = some r := h
  clear h
  replace H := Option.bind_eq_some_iff.mp H
  obtain ⟨⟨t178, t179⟩, A50, H⟩ := H
  replace H : ((halberdref4_Poly.f a0 a3).bind fun bt180 => ((poly_Seal.f a0 a1 a2 a3).bind fun bt182 => ((halberdref4_PolySeal.f k a0 a1 a2 a3).bind fun bt184 => ((poly_Open.f a0 a1 a2 a3).bind fun bt186 => ((halberdref4_PolyOpen.f k a0 a1 a2 a3).bind fun bt188 => (if t178.toList = bt180.1.toList then ((halberdlaw0_Num.f t179).bind fun t190 => (if t190 = bt180.2 then (if bt182.1.toList = bt184.1.toList then ((halberdlaw0_Num.f bt182.2).bind fun t191 => (if t191 = bt184.2 then (if bt186.1.toList = bt188.1.toList then ((halberdlaw0_Num.f bt186.2).bind fun t192 => (if t192 = bt188.2 then ((halberdlaw7_awake.f).bind fun t193 => (some t193)) else (some false))) else (some false)) else (some false))) else (some false)) else (some false))) else (some false))))))) = some r := H
  have A5 := Aside0.mk A50
  clear A50
  replace H := Option.bind_eq_some_iff.mp H
  obtain ⟨⟨t180, t181⟩, A60, H⟩ := H
  replace H : ((poly_Seal.f a0 a1 a2 a3).bind fun bt182 => ((halberdref4_PolySeal.f k a0 a1 a2 a3).bind fun bt184 => ((poly_Open.f a0 a1 a2 a3).bind fun bt186 => ((halberdref4_PolyOpen.f k a0 a1 a2 a3).bind fun bt188 => (if t178.toList = t180.toList then ((halberdlaw0_Num.f t179).bind fun t190 => (if t190 = t181 then (if bt182.1.toList = bt184.1.toList then ((halberdlaw0_Num.f bt182.2).bind fun t191 => (if t191 = bt184.2 then (if bt186.1.toList = bt188.1.toList then ((halberdlaw0_Num.f bt186.2).bind fun t192 => (if t192 = bt188.2 then ((halberdlaw7_awake.f).bind fun t193 => (some t193)) else (some false))) else (some false)) else (some false))) else (some false)) else (some false))) else (some false)))))) = some r := H
  have A6 := Aside0.mk A60
  clear A60
  replace H := Option.bind_eq_some_iff.mp H
  obtain ⟨⟨t182, t183⟩, A70, H⟩ := H
  replace H : ((halberdref4_PolySeal.f k a0 a1 a2 a3).bind fun bt184 => ((poly_Open.f a0 a1 a2 a3).bind fun bt186 => ((halberdref4_PolyOpen.f k a0 a1 a2 a3).bind fun bt188 => (if t178.toList = t180.toList then ((halberdlaw0_Num.f t179).bind fun t190 => (if t190 = t181 then (if t182.toList = bt184.1.toList then ((halberdlaw0_Num.f t183).bind fun t191 => (if t191 = bt184.2 then (if bt186.1.toList = bt188.1.toList then ((halberdlaw0_Num.f bt186.2).bind fun t192 => (if t192 = bt188.2 then ((halberdlaw7_awake.f).bind fun t193 => (some t193)) else (some false))) else (some false)) else (some false))) else (some false)) else (some false))) else (some false))))) = some r := H
  have A7 := Aside0.mk A70
  clear A70
  replace H := Option.bind_eq_some_iff.mp H
  obtain ⟨⟨t184, t185⟩, A80, H⟩ := H
  replace H : ((poly_Open.f a0 a1 a2 a3).bind fun bt186 => ((halberdref4_PolyOpen.f k a0 a1 a2 a3).bind fun bt188 => (if t178.toList = t180.toList then ((halberdlaw0_Num.f t179).bind fun t190 => (if t190 = t181 then (if t182.toList = t184.toList then ((halberdlaw0_Num.f t183).bind fun t191 => (if t191 = t185 then (if bt186.1.toList = bt188.1.toList then ((halberdlaw0_Num.f bt186.2).bind fun t192 => (if t192 = bt188.2 then ((halberdlaw7_awake.f).bind fun t193 => (some t193)) else (some false))) else (some false)) else (some false))) else (some false)) else (some false))) else (some false)))) = some r := H
  have A8 := Aside0.mk A80
  clear A80
  replace H := Option.bind_eq_some_iff.mp H
  obtain ⟨⟨t186, t187⟩, A90, H⟩ := H
  replace H : ((halberdref4_PolyOpen.f k a0 a1 a2 a3).bind fun bt188 => (if t178.toList = t180.toList then ((halberdlaw0_Num.f t179).bind fun t190 => (if t190 = t181 then (if t182.toList = t184.toList then ((halberdlaw0_Num.f t183).bind fun t191 => (if t191 = t185 then (if t186.toList = bt188.1.toList then ((halberdlaw0_Num.f t187).bind fun t192 => (if t192 = bt188.2 then ((halberdlaw7_awake.f).bind fun t193 => (some t193)) else (some false))) else (some false)) else (some false))) else (some false)) else (some false))) else (some false))) = some r := H
  have A9 := Aside0.mk A90
  clear A90
  replace H := Option.bind_eq_some_iff.mp H
  obtain ⟨⟨t188, t189⟩, A100, H⟩ := H
  replace H : (if t178.toList = t180.toList then ((halberdlaw0_Num.f t179).bind fun t190 => (if t190 = t181 then (if t182.toList = t184.toList then ((halberdlaw0_Num.f t183).bind fun t191 => (if t191 = t185 then (if t186.toList = t188.toList then ((halberdlaw0_Num.f t187).bind fun t192 => (if t192 = t189 then ((halberdlaw7_awake.f).bind fun t193 => (some t193)) else (some false))) else (some false)) else (some false))) else (some false)) else (some false))) else (some false)) = some r := H
  have A10 := Aside0.mk A100
  clear A100
  by_cases c11 : t178.toList = t180.toList
  · rw [if_pos c11] at H
    have c11b0 : (t178.toList == t180.toList) = true := beq_iff_eq.mpr c11
    have c11b1 : (t178.toList != t180.toList) = false := bne_eq_false_iff_eq.mpr c11
    clear c11
    replace H := Option.bind_eq_some_iff.mp H
    obtain ⟨t190, A120, H⟩ := H
    replace H : (if t190 = t181 then (if t182.toList = t184.toList then ((halberdlaw0_Num.f t183).bind fun t191 => (if t191 = t185 then (if t186.toList = t188.toList then ((halberdlaw0_Num.f t187).bind fun t192 => (if t192 = t189 then ((halberdlaw7_awake.f).bind fun t193 => (some t193)) else (some false))) else (some false)) else (some false))) else (some false)) else (some false)) = some r := H
    have A12 := Aside0.mk A120
    clear A120
    by_cases c13 : t190 = t181
    · rw [if_pos c13] at H
      have c13b0 : (t190 == t181) = true := beq_iff_eq.mpr c13
      have c13b1 : (t190 != t181) = false := bne_eq_false_iff_eq.mpr c13
      clear c13
      by_cases c14 : t182.toList = t184.toList
      · rw [if_pos c14] at H
        have c14b0 : (t182.toList == t184.toList) = true := beq_iff_eq.mpr c14
        have c14b1 : (t182.toList != t184.toList) = false := bne_eq_false_iff_eq.mpr c14
        clear c14
        replace H := Option.bind_eq_some_iff.mp H
        obtain ⟨t191, A150, H⟩ := H
        replace H : (if t191 = t185 then (if t186.toList = t188.toList then ((halberdlaw0_Num.f t187).bind fun t192 => (if t192 = t189 then ((halberdlaw7_awake.f).bind fun t193 => (some t193)) else (some false))) else (some false)) else (some false)) = some r := H
        have A15 := Aside0.mk A150
        clear A150
        by_cases c16 : t191 = t185
        · rw [if_pos c16] at H
          have c16b0 : (t191 == t185) = true := beq_iff_eq.mpr c16
          have c16b1 : (t191 != t185) = false := bne_eq_false_iff_eq.mpr c16
          clear c16
          by_cases c17 : t186.toList = t188.toList
          · rw [if_pos c17] at H
            have c17b0 : (t186.toList == t188.toList) = true := beq_iff_eq.mpr c17
            have c17b1 : (t186.toList != t188.toList) = false := bne_eq_false_iff_eq.mpr c17
            clear c17
            replace H := Option.bind_eq_some_iff.mp H
            obtain ⟨t192, A180, H⟩ := H
            replace H : (if t192 = t189 then ((halberdlaw7_awake.f).bind fun t193 => (some t193)) else (some false)) = some r := H
            have A18 := Aside0.mk A180
            clear A180
            by_cases c19 : t192 = t189
            · rw [if_pos c19] at H
              have c19b0 : (t192 == t189) = true := beq_iff_eq.mpr c19
              have c19b1 : (t192 != t189) = false := bne_eq_false_iff_eq.mpr c19
              clear c19
              replace H := Option.bind_eq_some_iff.mp H
              obtain ⟨t193, A200, H⟩ := H
              replace H : (some t193) = some r := H
              have A20 := Aside0.mk A200
              clear A200
              obtain rfl := Option.some.inj H
              go_enter Try.func7, Try.ntmps7
              go_wp2_with (first | ((with_reducible refine gate_callee (f := 18) rfl ?_); refine goesL_ (some 24) rfl rfl Try.func18 (by kernel_rfl) rfl #[.string a0, .string a3] rfl (by (try simp only [List.map_toArray, List.map_cons, List.map_nil]); first | done | rfl | (simp only [List.length_drop, List.length_take]; rfl)) ?_; (with_reducible refine (poly_Mac.calls a0 a3 t178 t179 _ A5.out).mono ?_); rintro e w21 ⟨rfl, hb⟩; refine ⟨_, rfl, ?_⟩; have n0_ := Aside0.mk (below_step (by repeat (first | (with_reducible first | exact HB.out | apply below_alloc | apply pw_below_drewN | apply below_drew1) | exact HB.out)) hb); clear HB; have HB := n0_; clear n0_; (try clear hb); (try clear hb2); (try clear hk); (try clear hi)) | ((with_reducible refine gate_callee (f := 19) rfl ?_); refine goesL_ (some 30) rfl rfl Try.func19 (by kernel_rfl) rfl #[.string a0, .string a3] rfl (by (try simp only [List.map_toArray, List.map_cons, List.map_nil]); first | done | rfl | (simp only [List.length_drop, List.length_take]; rfl)) ?_; (with_reducible refine (halberdref4_Poly.calls a0 a3 t180 t181 _ A6.out).mono ?_); rintro e w22 ⟨rfl, hb⟩; refine ⟨_, rfl, ?_⟩; have n0_ := Aside0.mk (below_step (by repeat (first | (with_reducible first | exact HB.out | apply below_alloc | apply pw_below_drewN | apply below_drew1) | exact HB.out)) hb); clear HB; have HB := n0_; clear n0_; (try clear hb); (try clear hb2); (try clear hk); (try clear hi)) | ((with_reducible refine gate_callee (f := 20) rfl ?_); refine goesL_ (some 38) rfl rfl Try.func20 (by kernel_rfl) rfl #[.string a0, .string a1, .string a2, .string a3] rfl (by (try simp only [List.map_toArray, List.map_cons, List.map_nil]); first | done | rfl | (simp only [List.length_drop, List.length_take]; rfl)) ?_; (with_reducible refine (poly_Seal.calls a0 a1 a2 a3 t182 t183 _ A7.out).mono ?_); rintro e w23 ⟨rfl, hb⟩; refine ⟨_, rfl, ?_⟩; have n0_ := Aside0.mk (below_step (by repeat (first | (with_reducible first | exact HB.out | apply below_alloc | apply pw_below_drewN | apply below_drew1) | exact HB.out)) hb); clear HB; have HB := n0_; clear n0_; (try clear hb); (try clear hb2); (try clear hk); (try clear hi)) | ((with_reducible refine gate_callee (f := 21) rfl ?_); refine goesL_ (some 46) rfl rfl Try.func21 (by kernel_rfl) rfl #[.string a0, .string a1, .string a2, .string a3] rfl (by (try simp only [List.map_toArray, List.map_cons, List.map_nil]); first | done | rfl | (simp only [List.length_drop, List.length_take]; rfl)) ?_; (with_reducible refine (halberdref4_PolySeal.calls k a0 a1 a2 a3 t184 t185 _ A8.out).mono ?_); rintro e w24 ⟨rfl, hb⟩; refine ⟨_, rfl, ?_⟩; have n0_ := Aside0.mk (below_step (by repeat (first | (with_reducible first | exact HB.out | apply below_alloc | apply pw_below_drewN | apply below_drew1) | exact HB.out)) hb); clear HB; have HB := n0_; clear n0_; (try clear hb); (try clear hb2); (try clear hk); (try clear hi)) | ((with_reducible refine gate_callee (f := 22) rfl ?_); refine goesL_ (some 54) rfl rfl Try.func22 (by kernel_rfl) rfl #[.string a0, .string a1, .string a2, .string a3] rfl (by (try simp only [List.map_toArray, List.map_cons, List.map_nil]); first | done | rfl | (simp only [List.length_drop, List.length_take]; rfl)) ?_; (with_reducible refine (poly_Open.calls a0 a1 a2 a3 t186 t187 _ A9.out).mono ?_); rintro e w25 ⟨rfl, hb⟩; refine ⟨_, rfl, ?_⟩; have n0_ := Aside0.mk (below_step (by repeat (first | (with_reducible first | exact HB.out | apply below_alloc | apply pw_below_drewN | apply below_drew1) | exact HB.out)) hb); clear HB; have HB := n0_; clear n0_; (try clear hb); (try clear hb2); (try clear hk); (try clear hi)) | ((with_reducible refine gate_callee (f := 23) rfl ?_); refine goesL_ (some 62) rfl rfl Try.func23 (by kernel_rfl) rfl #[.string a0, .string a1, .string a2, .string a3] rfl (by (try simp only [List.map_toArray, List.map_cons, List.map_nil]); first | done | rfl | (simp only [List.length_drop, List.length_take]; rfl)) ?_; (with_reducible refine (halberdref4_PolyOpen.calls k a0 a1 a2 a3 t188 t189 _ A10.out).mono ?_); rintro e w26 ⟨rfl, hb⟩; refine ⟨_, rfl, ?_⟩; have n0_ := Aside0.mk (below_step (by repeat (first | (with_reducible first | exact HB.out | apply below_alloc | apply pw_below_drewN | apply below_drew1) | exact HB.out)) hb); clear HB; have HB := n0_; clear n0_; (try clear hb); (try clear hb2); (try clear hk); (try clear hi)) | (go_at_call 16; (with_reducible refine (halberdlaw0_Num.calls t179 t190 _ A12.out).mono ?_); rintro e w' ⟨rfl, ⟨nd, rfl⟩⟩) | (go_at_call 16; (with_reducible refine (halberdlaw0_Num.calls t183 t191 _ A15.out).mono ?_); rintro e w' ⟨rfl, ⟨nd, rfl⟩⟩) | (go_at_call 16; (with_reducible refine (halberdlaw0_Num.calls t187 t192 _ A18.out).mono ?_); rintro e w' ⟨rfl, ⟨nd, rfl⟩⟩) | (go_at_call 24; (with_reducible refine (halberdlaw7_awake.calls  t193 _ A20.out).mono ?_); rintro e w27 ⟨rfl, hb⟩; have n0_ := Aside0.mk (below_step (by repeat (first | (with_reducible first | exact HB.out | apply below_alloc | apply pw_below_drewN | apply below_drew1) | exact HB.out)) hb); clear HB; have HB := n0_; clear n0_; (try clear hb); (try clear hb2); (try clear hk); (try clear hi)))
              go_ret
              exact ⟨by first | rfl | (simp [errW_none, errW_some] <;> rfl) | (simp [*, errW_none, errW_some] <;> rfl), by repeat (first | (with_reducible first | exact HB.out | apply below_alloc | apply pw_below_drewN | apply below_drew1) | exact HB.out)⟩
            · rw [if_neg c19] at H
              have c19b0 : (t192 == t189) = false := beq_eq_false_iff_ne.mpr c19
              have c19b1 : (t192 != t189) = true := bne_iff_ne.mpr c19
              exact absurd ((Option.some.inj H).trans hr.out) (by decide)
          · rw [if_neg c17] at H
            have c17b0 : (t186.toList == t188.toList) = false := beq_eq_false_iff_ne.mpr c17
            have c17b1 : (t186.toList != t188.toList) = true := bne_iff_ne.mpr c17
            exact absurd ((Option.some.inj H).trans hr.out) (by decide)
        · rw [if_neg c16] at H
          have c16b0 : (t191 == t185) = false := beq_eq_false_iff_ne.mpr c16
          have c16b1 : (t191 != t185) = true := bne_iff_ne.mpr c16
          exact absurd ((Option.some.inj H).trans hr.out) (by decide)
      · rw [if_neg c14] at H
        have c14b0 : (t182.toList == t184.toList) = false := beq_eq_false_iff_ne.mpr c14
        have c14b1 : (t182.toList != t184.toList) = true := bne_iff_ne.mpr c14
        exact absurd ((Option.some.inj H).trans hr.out) (by decide)
    · rw [if_neg c13] at H
      have c13b0 : (t190 == t181) = false := beq_eq_false_iff_ne.mpr c13
      have c13b1 : (t190 != t181) = true := bne_iff_ne.mpr c13
      exact absurd ((Option.some.inj H).trans hr.out) (by decide)
  · rw [if_neg c11] at H
    have c11b0 : (t178.toList == t180.toList) = false := beq_eq_false_iff_ne.mpr c11
    have c11b1 : (t178.toList != t180.toList) = true := bne_iff_ne.mpr c11
    exact absurd ((Option.some.inj H).trans hr.out) (by decide)

/-- THE ONE PURE STATEMENT of halberdlaw7_Polys: yours. -/
def halberdlaw7_Polys.Pure : Prop := ∀ (a0 : ByteArray) (a1 : ByteArray) (a2 : ByteArray) (a3 : ByteArray), a0.size ≤ 140737488351232 → a1.size ≤ 140737488351232 → a2.size ≤ 140737488351232 → a3.size ≤ 140737488351232 → ∃ k, halberdlaw7_Polys.f k a0 a1 a2 a3 = some true
theorem halberdlaw7_Polys.walk (P : halberdlaw7_Polys.Pure) (a0 : ByteArray) (a1 : ByteArray) (a2 : ByteArray) (a3 : ByteArray) (w : World) (w0 : a0.size ≤ 140737488351232) (w1 : a1.size ≤ 140737488351232) (w2 : a2.size ≤ 140737488351232) (w3 : a3.size ≤ 140737488351232) :
    Calls Try.prog 7 #[.string a0, .string a1, .string a2, .string a3] w fun e w' => e = .returned (.bool true) ∧ Below w.heap.size w w' := by
  obtain ⟨k, h⟩ := P a0 a1 a2 a3 w0 w1 w2 w3
  refine (halberdlaw7_Polys.calls k a0 a1 a2 a3 true w h ⟨rfl⟩).mono ?_
  rintro e w' ⟨rfl, hd⟩
  exact ⟨rfl, hd⟩

end Go.Proofs.Ytocckplgjbhlbaa.R
