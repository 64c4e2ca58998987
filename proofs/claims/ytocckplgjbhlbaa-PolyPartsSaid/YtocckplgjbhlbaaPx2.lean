-- Written by a program of this session (wip/tools/xprint.py), over the kit's printer.
import Derived.Test.YtocckplgjbhlbaaPx0
import Derived.Test.YtocckplgjbhlbaaPx1
namespace Go.Proofs.Ytocckplgjbhlbaa.P
open Go.RowKit Go.Proofs.YtocckplgjbhlbaaW.PrintWords Go.Proofs.YtocckplgjbhlbaaW.PrintLast Go.Proofs.YtocckplgjbhlbaaW.PrintMore
attribute [local go_sem] max2_int min2_int max_two min_two max_three min_three max_four min_four   -- for this text's walks alone
set_option linter.unusedVariables false
set_option linter.unusedSimpArgs false

/-! ### halberdlaw7_awake0: function 24 -/
def halberdlaw7_awake0.f  : Option (Bool) := if 32 ≤ 281474976710656 then ((some (List.replicate 32 0 : List Int)).bind fun y136 => ((poly_Mac.f (strOfNums y136) (⟨#[97, 98, 99]⟩ : ByteArray)).bind fun bt139 => (if 0 ≤ 12 then (if 12 ≤ ((strOfNums y136).size : Int) then ((poly_Seal.f (strOfNums y136) ((strOfNums y136).extract 0 12) (⟨#[97]⟩ : ByteArray) (⟨#[104, 101, 108, 108, 111]⟩ : ByteArray)).bind fun bt141 => ((poly_Open.f (strOfNums y136) ((strOfNums y136).extract 0 12) (⟨#[97]⟩ : ByteArray) bt141.1).bind fun bt143 => ((poly_Open.f (strOfNums y136) ((strOfNums y136).extract 0 12) (⟨#[98]⟩ : ByteArray) bt141.1).bind fun bt145 => ((poly_Mac.f (⟨#[107]⟩ : ByteArray) (⟨#[]⟩ : ByteArray)).bind fun bt147 => (if 0 ≤ 16 then (if 16 ≤ ((strOfNums y136).size : Int) then (if bt139.1.toList = ((strOfNums y136).extract 0 16).toList then ((halberdlaw0_Num.f bt139.2).bind fun t149 => (if t149 = 0 then (if (bt141.1.size : Int) = 21 then ((halberdlaw0_Num.f bt141.2).bind fun t150 => (if t150 = 0 then (if bt143.1.toList = ([104, 101, 108, 108, 111] : List UInt8) then ((halberdlaw0_Num.f bt143.2).bind fun t151 => (if t151 = 0 then ((halberdlaw0_Num.f bt145.2).bind fun t152 => (if t152 = 700 then ((halberdlaw0_Num.f bt147.2).bind fun t153 => (some (t153 == 700))) else (some false))) else (some false))) else (some false)) else (some false))) else (some false)) else (some false))) else (some false)) else (none)) else (none)))))) else (none)) else (none)))) else (none)
set_option maxHeartbeats 8000000 in
set_option maxRecDepth 100000 in
theorem halberdlaw7_awake0.calls  (r : Bool) (w : World) (h : halberdlaw7_awake0.f  = some r) (hr : Aside0 (r = true)) :
    Calls Try.prog 24 #[] w fun e w' => e = .returned (.bool r) ∧ Below w.heap.size w w' := by
  have HB := Aside0.mk (Below.refl w.heap.size w)
  have H : (if 32 ≤ 281474976710656 then ((some (List.replicate 32 0 : List Int)).bind fun y136 => ((poly_Mac.f (strOfNums y136) (⟨#[97, 98, 99]⟩ : ByteArray)).bind fun bt139 => (if 0 ≤ 12 then (if 12 ≤ ((strOfNums y136).size : Int) then ((poly_Seal.f (strOfNums y136) ((strOfNums y136).extract 0 12) (⟨#[97]⟩ : ByteArray) (⟨#[104, 101, 108, 108, 111]⟩ : ByteArray)).bind fun bt141 => ((poly_Open.f (strOfNums y136) ((strOfNums y136).extract 0 12) (⟨#[97]⟩ : ByteArray) bt141.1).bind fun bt143 => ((poly_Open.f (strOfNums y136) ((strOfNums y136).extract 0 12) (⟨#[98]⟩ : ByteArray) bt141.1).bind fun bt145 => ((poly_Mac.f (⟨#[107]⟩ : ByteArray) (⟨#[]⟩ : ByteArray)).bind fun bt147 => (if 0 ≤ 16 then (if 16 ≤ ((strOfNums y136).size : Int) then (if bt139.1.toList = ((strOfNums y136).extract 0 16).toList then ((halberdlaw0_Num.f bt139.2).bind fun t149 => (if t149 = 0 then (if (bt141.1.size : Int) = 21 then ((halberdlaw0_Num.f bt141.2).bind fun t150 => (if t150 = 0 then (if bt143.1.toList = ([104, 101, 108, 108, 111] : List UInt8) then ((halberdlaw0_Num.f bt143.2).bind fun t151 => (if t151 = 0 then ((halberdlaw0_Num.f bt145.2).bind fun t152 => (if t152 = 700 then ((halberdlaw0_Num.f bt147.2).bind fun t153 => (some (t153 == 700))) else (some false))) else (some false))) else (some false)) else (some false))) else (some false)) else (some false))) else (some false)) else (none)) else (none)))))) else (none)) else (none)))) else (none)) = some r := h
  clear h
  by_cases c1 : 32 ≤ 281474976710656
  · rw [if_pos c1] at H
    have c1b0 := eq_true c1
    have c1b1 : decide (32 ≤ 281474976710656) = true := decide_eq_true c1
    clear c1
    obtain ⟨y136, hy136⟩ : ∃ y_ : List Int, y_ = (List.replicate 32 0) := ⟨_, rfl⟩
    replace H : ((poly_Mac.f (strOfNums y136) (⟨#[97, 98, 99]⟩ : ByteArray)).bind fun bt139 => (if 0 ≤ 12 then (if 12 ≤ ((strOfNums y136).size : Int) then ((poly_Seal.f (strOfNums y136) ((strOfNums y136).extract 0 12) (⟨#[97]⟩ : ByteArray) (⟨#[104, 101, 108, 108, 111]⟩ : ByteArray)).bind fun bt141 => ((poly_Open.f (strOfNums y136) ((strOfNums y136).extract 0 12) (⟨#[97]⟩ : ByteArray) bt141.1).bind fun bt143 => ((poly_Open.f (strOfNums y136) ((strOfNums y136).extract 0 12) (⟨#[98]⟩ : ByteArray) bt141.1).bind fun bt145 => ((poly_Mac.f (⟨#[107]⟩ : ByteArray) (⟨#[]⟩ : ByteArray)).bind fun bt147 => (if 0 ≤ 16 then (if 16 ≤ ((strOfNums y136).size : Int) then (if bt139.1.toList = ((strOfNums y136).extract 0 16).toList then ((halberdlaw0_Num.f bt139.2).bind fun t149 => (if t149 = 0 then (if (bt141.1.size : Int) = 21 then ((halberdlaw0_Num.f bt141.2).bind fun t150 => (if t150 = 0 then (if bt143.1.toList = ([104, 101, 108, 108, 111] : List UInt8) then ((halberdlaw0_Num.f bt143.2).bind fun t151 => (if t151 = 0 then ((halberdlaw0_Num.f bt145.2).bind fun t152 => (if t152 = 700 then ((halberdlaw0_Num.f bt147.2).bind fun t153 => (some (t153 == 700))) else (some false))) else (some false))) else (some false)) else (some false))) else (some false)) else (some false))) else (some false)) else (none)) else (none)))))) else (none)) else (none))) = some r := by first | (rw [hy136]; with_reducible exact H) | (have H2_ := (Option.bind_some _ _).symm.trans H; rw [hy136]; with_reducible exact H2_) | (have H2_ := (Option.bind_some _ _).symm.trans H; with_reducible exact H2_) | with_reducible exact H | (rw [hy136]; exact H) | exact H
    have Ny136 := Aside0.mk hy136
    clear hy136
    replace H := Option.bind_eq_some_iff.mp H
    obtain ⟨⟨t139, t140⟩, A20, H⟩ := H
    replace H : (if 0 ≤ 12 then (if 12 ≤ ((strOfNums y136).size : Int) then ((poly_Seal.f (strOfNums y136) ((strOfNums y136).extract 0 12) (⟨#[97]⟩ : ByteArray) (⟨#[104, 101, 108, 108, 111]⟩ : ByteArray)).bind fun bt141 => ((poly_Open.f (strOfNums y136) ((strOfNums y136).extract 0 12) (⟨#[97]⟩ : ByteArray) bt141.1).bind fun bt143 => ((poly_Open.f (strOfNums y136) ((strOfNums y136).extract 0 12) (⟨#[98]⟩ : ByteArray) bt141.1).bind fun bt145 => ((poly_Mac.f (⟨#[107]⟩ : ByteArray) (⟨#[]⟩ : ByteArray)).bind fun bt147 => (if 0 ≤ 16 then (if 16 ≤ ((strOfNums y136).size : Int) then (if t139.toList = ((strOfNums y136).extract 0 16).toList then ((halberdlaw0_Num.f t140).bind fun t149 => (if t149 = 0 then (if (bt141.1.size : Int) = 21 then ((halberdlaw0_Num.f bt141.2).bind fun t150 => (if t150 = 0 then (if bt143.1.toList = ([104, 101, 108, 108, 111] : List UInt8) then ((halberdlaw0_Num.f bt143.2).bind fun t151 => (if t151 = 0 then ((halberdlaw0_Num.f bt145.2).bind fun t152 => (if t152 = 700 then ((halberdlaw0_Num.f bt147.2).bind fun t153 => (some (t153 == 700))) else (some false))) else (some false))) else (some false)) else (some false))) else (some false)) else (some false))) else (some false)) else (none)) else (none)))))) else (none)) else (none)) = some r := H
    have A2 := Aside0.mk A20
    clear A20
    by_cases c3 : 0 ≤ 12
    · rw [if_pos c3] at H
      have c3b0 := eq_true c3
      have c3b1 : decide (0 ≤ 12) = true := decide_eq_true c3
      clear c3
      by_cases c4 : 12 ≤ ((strOfNums y136).size : Int)
      · rw [if_pos c4] at H
        have c4b0 := eq_true c4
        have c4b1 : decide (12 ≤ ((strOfNums y136).size : Int)) = true := decide_eq_true c4
        clear c4
        replace H := Option.bind_eq_some_iff.mp H
        obtain ⟨⟨t141, t142⟩, A50, H⟩ := H
        replace H : ((poly_Open.f (strOfNums y136) ((strOfNums y136).extract 0 12) (⟨#[97]⟩ : ByteArray) t141).bind fun bt143 => ((poly_Open.f (strOfNums y136) ((strOfNums y136).extract 0 12) (⟨#[98]⟩ : ByteArray) t141).bind fun bt145 => ((poly_Mac.f (⟨#[107]⟩ : ByteArray) (⟨#[]⟩ : ByteArray)).bind fun bt147 => (if 0 ≤ 16 then (if 16 ≤ ((strOfNums y136).size : Int) then (if t139.toList = ((strOfNums y136).extract 0 16).toList then ((halberdlaw0_Num.f t140).bind fun t149 => (if t149 = 0 then (if (t141.size : Int) = 21 then ((halberdlaw0_Num.f t142).bind fun t150 => (if t150 = 0 then (if bt143.1.toList = ([104, 101, 108, 108, 111] : List UInt8) then ((halberdlaw0_Num.f bt143.2).bind fun t151 => (if t151 = 0 then ((halberdlaw0_Num.f bt145.2).bind fun t152 => (if t152 = 700 then ((halberdlaw0_Num.f bt147.2).bind fun t153 => (some (t153 == 700))) else (some false))) else (some false))) else (some false)) else (some false))) else (some false)) else (some false))) else (some false)) else (none)) else (none))))) = some r := H
        have A5 := Aside0.mk A50
        clear A50
        have c6b0 := eq_true (of_decide_eq_true (by first | (with_reducible assumption) | assumption) : 0 ≤ 12)
        have c7b0 := eq_true (of_decide_eq_true (by first | (with_reducible assumption) | assumption) : 12 ≤ ((strOfNums y136).size : Int))
        replace H := Option.bind_eq_some_iff.mp H
        obtain ⟨⟨t143, t144⟩, A80, H⟩ := H
        replace H : ((poly_Open.f (strOfNums y136) ((strOfNums y136).extract 0 12) (⟨#[98]⟩ : ByteArray) t141).bind fun bt145 => ((poly_Mac.f (⟨#[107]⟩ : ByteArray) (⟨#[]⟩ : ByteArray)).bind fun bt147 => (if 0 ≤ 16 then (if 16 ≤ ((strOfNums y136).size : Int) then (if t139.toList = ((strOfNums y136).extract 0 16).toList then ((halberdlaw0_Num.f t140).bind fun t149 => (if t149 = 0 then (if (t141.size : Int) = 21 then ((halberdlaw0_Num.f t142).bind fun t150 => (if t150 = 0 then (if t143.toList = ([104, 101, 108, 108, 111] : List UInt8) then ((halberdlaw0_Num.f t144).bind fun t151 => (if t151 = 0 then ((halberdlaw0_Num.f bt145.2).bind fun t152 => (if t152 = 700 then ((halberdlaw0_Num.f bt147.2).bind fun t153 => (some (t153 == 700))) else (some false))) else (some false))) else (some false)) else (some false))) else (some false)) else (some false))) else (some false)) else (none)) else (none)))) = some r := H
        have A8 := Aside0.mk A80
        clear A80
        have c9b0 := eq_true (of_decide_eq_true (by first | (with_reducible assumption) | assumption) : 0 ≤ 12)
        have c10b0 := eq_true (of_decide_eq_true (by first | (with_reducible assumption) | assumption) : 12 ≤ ((strOfNums y136).size : Int))
        replace H := Option.bind_eq_some_iff.mp H
        obtain ⟨⟨t145, t146⟩, A110, H⟩ := H
        replace H : ((poly_Mac.f (⟨#[107]⟩ : ByteArray) (⟨#[]⟩ : ByteArray)).bind fun bt147 => (if 0 ≤ 16 then (if 16 ≤ ((strOfNums y136).size : Int) then (if t139.toList = ((strOfNums y136).extract 0 16).toList then ((halberdlaw0_Num.f t140).bind fun t149 => (if t149 = 0 then (if (t141.size : Int) = 21 then ((halberdlaw0_Num.f t142).bind fun t150 => (if t150 = 0 then (if t143.toList = ([104, 101, 108, 108, 111] : List UInt8) then ((halberdlaw0_Num.f t144).bind fun t151 => (if t151 = 0 then ((halberdlaw0_Num.f t146).bind fun t152 => (if t152 = 700 then ((halberdlaw0_Num.f bt147.2).bind fun t153 => (some (t153 == 700))) else (some false))) else (some false))) else (some false)) else (some false))) else (some false)) else (some false))) else (some false)) else (none)) else (none))) = some r := H
        have A11 := Aside0.mk A110
        clear A110
        replace H := Option.bind_eq_some_iff.mp H
        obtain ⟨⟨t147, t148⟩, A120, H⟩ := H
        replace H : (if 0 ≤ 16 then (if 16 ≤ ((strOfNums y136).size : Int) then (if t139.toList = ((strOfNums y136).extract 0 16).toList then ((halberdlaw0_Num.f t140).bind fun t149 => (if t149 = 0 then (if (t141.size : Int) = 21 then ((halberdlaw0_Num.f t142).bind fun t150 => (if t150 = 0 then (if t143.toList = ([104, 101, 108, 108, 111] : List UInt8) then ((halberdlaw0_Num.f t144).bind fun t151 => (if t151 = 0 then ((halberdlaw0_Num.f t146).bind fun t152 => (if t152 = 700 then ((halberdlaw0_Num.f t148).bind fun t153 => (some (t153 == 700))) else (some false))) else (some false))) else (some false)) else (some false))) else (some false)) else (some false))) else (some false)) else (none)) else (none)) = some r := H
        have A12 := Aside0.mk A120
        clear A120
        by_cases c13 : 0 ≤ 16
        · rw [if_pos c13] at H
          have c13b0 := eq_true c13
          have c13b1 : decide (0 ≤ 16) = true := decide_eq_true c13
          clear c13
          by_cases c14 : 16 ≤ ((strOfNums y136).size : Int)
          · rw [if_pos c14] at H
            have c14b0 := eq_true c14
            have c14b1 : decide (16 ≤ ((strOfNums y136).size : Int)) = true := decide_eq_true c14
            clear c14
            by_cases c15 : t139.toList = ((strOfNums y136).extract 0 16).toList
            · rw [if_pos c15] at H
              have c15b0 : (t139.toList == ((strOfNums y136).extract 0 16).toList) = true := beq_iff_eq.mpr c15
              have c15b1 : (t139.toList != ((strOfNums y136).extract 0 16).toList) = false := bne_eq_false_iff_eq.mpr c15
              clear c15
              replace H := Option.bind_eq_some_iff.mp H
              obtain ⟨t149, A160, H⟩ := H
              replace H : (if t149 = 0 then (if (t141.size : Int) = 21 then ((halberdlaw0_Num.f t142).bind fun t150 => (if t150 = 0 then (if t143.toList = ([104, 101, 108, 108, 111] : List UInt8) then ((halberdlaw0_Num.f t144).bind fun t151 => (if t151 = 0 then ((halberdlaw0_Num.f t146).bind fun t152 => (if t152 = 700 then ((halberdlaw0_Num.f t148).bind fun t153 => (some (t153 == 700))) else (some false))) else (some false))) else (some false)) else (some false))) else (some false)) else (some false)) = some r := H
              have A16 := Aside0.mk A160
              clear A160
              by_cases c17 : t149 = 0
              · rw [if_pos c17] at H
                have c17b0 : (t149 == 0) = true := beq_iff_eq.mpr c17
                have c17b1 : (t149 != 0) = false := bne_eq_false_iff_eq.mpr c17
                clear c17
                by_cases c18 : (t141.size : Int) = 21
                · rw [if_pos c18] at H
                  have c18b0 : ((t141.size : Int) == 21) = true := beq_iff_eq.mpr c18
                  have c18b1 : ((t141.size : Int) != 21) = false := bne_eq_false_iff_eq.mpr c18
                  clear c18
                  replace H := Option.bind_eq_some_iff.mp H
                  obtain ⟨t150, A190, H⟩ := H
                  replace H : (if t150 = 0 then (if t143.toList = ([104, 101, 108, 108, 111] : List UInt8) then ((halberdlaw0_Num.f t144).bind fun t151 => (if t151 = 0 then ((halberdlaw0_Num.f t146).bind fun t152 => (if t152 = 700 then ((halberdlaw0_Num.f t148).bind fun t153 => (some (t153 == 700))) else (some false))) else (some false))) else (some false)) else (some false)) = some r := H
                  have A19 := Aside0.mk A190
                  clear A190
                  by_cases c20 : t150 = 0
                  · rw [if_pos c20] at H
                    have c20b0 : (t150 == 0) = true := beq_iff_eq.mpr c20
                    have c20b1 : (t150 != 0) = false := bne_eq_false_iff_eq.mpr c20
                    clear c20
                    by_cases c21 : t143.toList = ([104, 101, 108, 108, 111] : List UInt8)
                    · rw [if_pos c21] at H
                      have c21b0 : (t143.toList == ([104, 101, 108, 108, 111] : List UInt8)) = true := beq_iff_eq.mpr c21
                      have c21b1 : (t143.toList != ([104, 101, 108, 108, 111] : List UInt8)) = false := bne_eq_false_iff_eq.mpr c21
                      clear c21
                      replace H := Option.bind_eq_some_iff.mp H
                      obtain ⟨t151, A220, H⟩ := H
                      replace H : (if t151 = 0 then ((halberdlaw0_Num.f t146).bind fun t152 => (if t152 = 700 then ((halberdlaw0_Num.f t148).bind fun t153 => (some (t153 == 700))) else (some false))) else (some false)) = some r := H
                      have A22 := Aside0.mk A220
                      clear A220
                      by_cases c23 : t151 = 0
                      · rw [if_pos c23] at H
                        have c23b0 : (t151 == 0) = true := beq_iff_eq.mpr c23
                        have c23b1 : (t151 != 0) = false := bne_eq_false_iff_eq.mpr c23
                        clear c23
                        replace H := Option.bind_eq_some_iff.mp H
                        obtain ⟨t152, A240, H⟩ := H
                        replace H : (if t152 = 700 then ((halberdlaw0_Num.f t148).bind fun t153 => (some (t153 == 700))) else (some false)) = some r := H
                        have A24 := Aside0.mk A240
                        clear A240
                        by_cases c25 : t152 = 700
                        · rw [if_pos c25] at H
                          have c25b0 : (t152 == 700) = true := beq_iff_eq.mpr c25
                          have c25b1 : (t152 != 700) = false := bne_eq_false_iff_eq.mpr c25
                          clear c25
                          replace H := Option.bind_eq_some_iff.mp H
                          obtain ⟨t153, A260, H⟩ := H
                          replace H : (some (t153 == 700)) = some r := H
                          have A26 := Aside0.mk A260
                          clear A260
                          obtain rfl := Option.some.inj H
                          go_enter Try.func24, Try.ntmps24
                          go_wp2_with (first | ((with_reducible refine gate_dst (N := 12) rfl ?_); (try (refine gate_guard (by rfl) ?_; dsimp only)); refine Kd.R_make (Kd.int .u8) _ 5 rfl (N := 12) rfl 32 _ _ rfl 32 rfl rfl Try.underlying32 (.int .u8 0) 1 info5 rfl (by decide) (by omega) 0 (ok := fun _ => True) (okp := fun _ => True) rfl (fun _ hk => hk) trivial (by omega) (by omega) (Below.refl _ _) (Nat.le_refl _) ?_; intro v137 w27 ho28 hb hg_ hnew_; clear hg_ hnew_; (first | rw [← Ny136.out] at ho28 | (simp only [Int.reduceToNat] at ho28; rw [← Ny136.out] at ho28)); have n0_ := Aside0.mk (Kd.R_lower ho28 (below_size (by repeat (first | (with_reducible first | exact HB.out | apply below_alloc | apply pw_below_drewN | apply below_drew1) | exact HB.out)))); have n1_ := Aside0.mk (below_step (by repeat (first | (with_reducible first | exact HB.out | apply below_alloc | apply pw_below_drewN | apply below_drew1) | exact HB.out)) hb); clear HB; have HO138 := n0_; have HB := n1_; clear n0_ n1_; clear hb ho28; have hcv29 := own_string (P := Try.prog) Try.underlying32 Try.underlying5 Try.underlying9 (Kd.own_of_R HO138.out)) | ((with_reducible refine gate_callee (f := 18) rfl ?_); refine goesL_ (some 16) rfl rfl Try.func18 (by kernel_rfl) rfl #[.string (strOfNums y136), .string (⟨#[97, 98, 99]⟩ : ByteArray)] rfl (by (try simp only [List.map_toArray, List.map_cons, List.map_nil]); first | done | rfl | (simp only [List.length_drop, List.length_take]; rfl)) ?_; (with_reducible refine (poly_Mac.calls (strOfNums y136) (⟨#[97, 98, 99]⟩ : ByteArray) t139 t140 _ A2.out).mono ?_); rintro e w30 ⟨rfl, hb⟩; refine ⟨_, rfl, ?_⟩; have n0_ := Aside0.mk (Kd.R_below (by (with_reducible repeat (first | apply Kd.R_alloc | apply Kd.R_drewN | apply Kd.R_drew)); exact HO138.out) hb); have n1_ := Aside0.mk (below_step (by repeat (first | (with_reducible first | exact HB.out | apply below_alloc | apply pw_below_drewN | apply below_drew1) | exact HB.out)) hb); clear HO138; clear HB; have HO138 := n0_; have HB := n1_; clear n0_ n1_; (try clear hb); (try clear hb2); (try clear hk); (try clear hi)) | ((with_reducible refine gate_callee (f := 20) rfl ?_); refine goesL_ (some 23) rfl rfl Try.func20 (by kernel_rfl) rfl #[.string (strOfNums y136), .string ((strOfNums y136).extract 0 12), .string (⟨#[97]⟩ : ByteArray), .string (⟨#[104, 101, 108, 108, 111]⟩ : ByteArray)] rfl (by (try simp only [List.map_toArray, List.map_cons, List.map_nil]); first | done | rfl | (simp only [List.length_drop, List.length_take]; rfl)) ?_; (with_reducible refine (poly_Seal.calls (strOfNums y136) ((strOfNums y136).extract 0 12) (⟨#[97]⟩ : ByteArray) (⟨#[104, 101, 108, 108, 111]⟩ : ByteArray) t141 t142 _ A5.out).mono ?_); rintro e w31 ⟨rfl, hb⟩; refine ⟨_, rfl, ?_⟩; have n0_ := Aside0.mk (Kd.R_below (by (with_reducible repeat (first | apply Kd.R_alloc | apply Kd.R_drewN | apply Kd.R_drew)); exact HO138.out) hb); have n1_ := Aside0.mk (below_step (by repeat (first | (with_reducible first | exact HB.out | apply below_alloc | apply pw_below_drewN | apply below_drew1) | exact HB.out)) hb); clear HO138; clear HB; have HO138 := n0_; have HB := n1_; clear n0_ n1_; (try clear hb); (try clear hb2); (try clear hk); (try clear hi)) | ((with_reducible refine gate_callee (f := 22) rfl ?_); refine goesL_ (some 31) rfl rfl Try.func22 (by kernel_rfl) rfl #[.string (strOfNums y136), .string ((strOfNums y136).extract 0 12), .string (⟨#[97]⟩ : ByteArray), .string t141] rfl (by (try simp only [List.map_toArray, List.map_cons, List.map_nil]); first | done | rfl | (simp only [List.length_drop, List.length_take]; rfl)) ?_; (with_reducible refine (poly_Open.calls (strOfNums y136) ((strOfNums y136).extract 0 12) (⟨#[97]⟩ : ByteArray) t141 t143 t144 _ A8.out).mono ?_); rintro e w32 ⟨rfl, hb⟩; refine ⟨_, rfl, ?_⟩; have n0_ := Aside0.mk (Kd.R_below (by (with_reducible repeat (first | apply Kd.R_alloc | apply Kd.R_drewN | apply Kd.R_drew)); exact HO138.out) hb); have n1_ := Aside0.mk (below_step (by repeat (first | (with_reducible first | exact HB.out | apply below_alloc | apply pw_below_drewN | apply below_drew1) | exact HB.out)) hb); clear HO138; clear HB; have HO138 := n0_; have HB := n1_; clear n0_ n1_; (try clear hb); (try clear hb2); (try clear hk); (try clear hi)) | ((with_reducible refine gate_callee (f := 22) rfl ?_); refine goesL_ (some 39) rfl rfl Try.func22 (by kernel_rfl) rfl #[.string (strOfNums y136), .string ((strOfNums y136).extract 0 12), .string (⟨#[98]⟩ : ByteArray), .string t141] rfl (by (try simp only [List.map_toArray, List.map_cons, List.map_nil]); first | done | rfl | (simp only [List.length_drop, List.length_take]; rfl)) ?_; (with_reducible refine (poly_Open.calls (strOfNums y136) ((strOfNums y136).extract 0 12) (⟨#[98]⟩ : ByteArray) t141 t145 t146 _ A11.out).mono ?_); rintro e w33 ⟨rfl, hb⟩; refine ⟨_, rfl, ?_⟩; have n0_ := Aside0.mk (Kd.R_below (by (with_reducible repeat (first | apply Kd.R_alloc | apply Kd.R_drewN | apply Kd.R_drew)); exact HO138.out) hb); have n1_ := Aside0.mk (below_step (by repeat (first | (with_reducible first | exact HB.out | apply below_alloc | apply pw_below_drewN | apply below_drew1) | exact HB.out)) hb); clear HO138; clear HB; have HO138 := n0_; have HB := n1_; clear n0_ n1_; (try clear hb); (try clear hb2); (try clear hk); (try clear hi)) | ((with_reducible refine gate_callee (f := 18) rfl ?_); refine goesL_ (some 43) rfl rfl Try.func18 (by kernel_rfl) rfl #[.string (⟨#[107]⟩ : ByteArray), .string (⟨#[]⟩ : ByteArray)] rfl (by (try simp only [List.map_toArray, List.map_cons, List.map_nil]); first | done | rfl | (simp only [List.length_drop, List.length_take]; rfl)) ?_; (with_reducible refine (poly_Mac.calls (⟨#[107]⟩ : ByteArray) (⟨#[]⟩ : ByteArray) t147 t148 _ A12.out).mono ?_); rintro e w34 ⟨rfl, hb⟩; refine ⟨_, rfl, ?_⟩; have n0_ := Aside0.mk (Kd.R_below (by (with_reducible repeat (first | apply Kd.R_alloc | apply Kd.R_drewN | apply Kd.R_drew)); exact HO138.out) hb); have n1_ := Aside0.mk (below_step (by repeat (first | (with_reducible first | exact HB.out | apply below_alloc | apply pw_below_drewN | apply below_drew1) | exact HB.out)) hb); clear HO138; clear HB; have HO138 := n0_; have HB := n1_; clear n0_ n1_; (try clear hb); (try clear hb2); (try clear hk); (try clear hi)) | (go_at_call 16; (with_reducible refine (halberdlaw0_Num.calls t140 t149 _ A16.out).mono ?_); rintro e w' ⟨rfl, ⟨nd, rfl⟩⟩) | (go_at_call 16; (with_reducible refine (halberdlaw0_Num.calls t142 t150 _ A19.out).mono ?_); rintro e w' ⟨rfl, ⟨nd, rfl⟩⟩) | (go_at_call 16; (with_reducible refine (halberdlaw0_Num.calls t144 t151 _ A22.out).mono ?_); rintro e w' ⟨rfl, ⟨nd, rfl⟩⟩) | (go_at_call 16; (with_reducible refine (halberdlaw0_Num.calls t146 t152 _ A24.out).mono ?_); rintro e w' ⟨rfl, ⟨nd, rfl⟩⟩) | (go_at_call 16; (with_reducible refine (halberdlaw0_Num.calls t148 t153 _ A26.out).mono ?_); rintro e w' ⟨rfl, ⟨nd, rfl⟩⟩))
                          go_ret
                          exact ⟨by first | rfl | (simp [errW_none, errW_some] <;> rfl) | (simp [*, errW_none, errW_some] <;> rfl), by repeat (first | (with_reducible first | exact HB.out | apply below_alloc | apply pw_below_drewN | apply below_drew1) | exact HB.out)⟩
                        · rw [if_neg c25] at H
                          have c25b0 : (t152 == 700) = false := beq_eq_false_iff_ne.mpr c25
                          have c25b1 : (t152 != 700) = true := bne_iff_ne.mpr c25
                          exact absurd ((Option.some.inj H).trans hr.out) (by decide)
                      · rw [if_neg c23] at H
                        have c23b0 : (t151 == 0) = false := beq_eq_false_iff_ne.mpr c23
                        have c23b1 : (t151 != 0) = true := bne_iff_ne.mpr c23
                        exact absurd ((Option.some.inj H).trans hr.out) (by decide)
                    · rw [if_neg c21] at H
                      have c21b0 : (t143.toList == ([104, 101, 108, 108, 111] : List UInt8)) = false := beq_eq_false_iff_ne.mpr c21
                      have c21b1 : (t143.toList != ([104, 101, 108, 108, 111] : List UInt8)) = true := bne_iff_ne.mpr c21
                      exact absurd ((Option.some.inj H).trans hr.out) (by decide)
                  · rw [if_neg c20] at H
                    have c20b0 : (t150 == 0) = false := beq_eq_false_iff_ne.mpr c20
                    have c20b1 : (t150 != 0) = true := bne_iff_ne.mpr c20
                    exact absurd ((Option.some.inj H).trans hr.out) (by decide)
                · rw [if_neg c18] at H
                  have c18b0 : ((t141.size : Int) == 21) = false := beq_eq_false_iff_ne.mpr c18
                  have c18b1 : ((t141.size : Int) != 21) = true := bne_iff_ne.mpr c18
                  exact absurd ((Option.some.inj H).trans hr.out) (by decide)
              · rw [if_neg c17] at H
                have c17b0 : (t149 == 0) = false := beq_eq_false_iff_ne.mpr c17
                have c17b1 : (t149 != 0) = true := bne_iff_ne.mpr c17
                exact absurd ((Option.some.inj H).trans hr.out) (by decide)
            · rw [if_neg c15] at H
              have c15b0 : (t139.toList == ((strOfNums y136).extract 0 16).toList) = false := beq_eq_false_iff_ne.mpr c15
              have c15b1 : (t139.toList != ((strOfNums y136).extract 0 16).toList) = true := bne_iff_ne.mpr c15
              exact absurd ((Option.some.inj H).trans hr.out) (by decide)
          · rw [if_neg c14] at H
            exact absurd H (by simp)
        · rw [if_neg c13] at H
          exact absurd H (by simp)
      · rw [if_neg c4] at H
        exact absurd H (by simp)
    · rw [if_neg c3] at H
      exact absurd H (by simp)
  · rw [if_neg c1] at H
    exact absurd H (by simp)

/-! ### halberdlaw7_awake: function 24, closed -/
def halberdlaw7_awake.f : Option (Bool) := some true
theorem halberdlaw7_awake.knows : halberdlaw7_awake0.f = some true := by decide +kernel
theorem halberdlaw7_awake.calls (r : Bool) (w : World) (h : halberdlaw7_awake.f = some r) : Calls Try.prog 24 #[] w fun e w' => e = .returned (.bool r) ∧ Below w.heap.size w w' := by
  obtain rfl := Option.some.inj h
  exact halberdlaw7_awake0.calls  true w halberdlaw7_awake.knows ⟨rfl⟩

end Go.Proofs.Ytocckplgjbhlbaa.P
