-- Written by a program of this session (wip/tools/xprint.py), over the kit's printer.
import Derived.Test.YtlkebjkpmiehcaaEx0
import Derived.Test.YtlkebjkpmiehcaaEx3
import Derived.Test.YtlkebjkpmiehcaaEx4
namespace Go.Proofs.Ytlkebjkpmiehcaa.E
open Go.RowKit Go.Proofs.YtlkebjkpmiehcaaW.PrintWords Go.Proofs.YtlkebjkpmiehcaaW.PrintLast Go.Proofs.YtlkebjkpmiehcaaW.PrintMore
attribute [local go_sem] max2_int min2_int max_two min_two max_three min_three max_four min_four   -- for this text's walks alone
set_option linter.unusedVariables false
set_option linter.unusedSimpArgs false

/-! ### halberdlaw16_awake0: function 21 -/
def halberdlaw16_awake0.f (k : Nat)  : Option (Bool) := (ext_Put.f k (([(⟨5, (⟨#[97, 98]⟩ : ByteArray)⟩ : S41), (⟨6, (⟨#[]⟩ : ByteArray)⟩ : S41)] : List (S41)))).bind fun bt183 => ((ext_Get.f k bt183.1).bind fun bt185 => (if bt183.1.size + bt183.1.size ≤ 9223372036854775807 then ((ext_Get.f k (bt183.1 ++ bt183.1)).bind fun bt190 => (if bt183.1.size + 1 ≤ 9223372036854775807 then ((ext_Get.f k (bt183.1 ++ (⟨#[120]⟩ : ByteArray))).bind fun bt195 => ((ext_Put.f k (([(⟨(-1), (⟨#[]⟩ : ByteArray)⟩ : S41)] : List (S41)))).bind fun bt202 => (if bt183.1.toList = ([0, 5, 0, 2, 97, 98, 0, 6, 0, 0] : List UInt8) then ((halberdlaw0_Num.f bt183.2).bind fun t204 => (if t204 = 0 then (if (bt185.1.length : Int) = 2 then (if 0 < (bt185.1.length : Int) then (if ((rd_T41 bt185.1 0).f1).toList = ([97, 98] : List UInt8) then ((halberdlaw0_Num.f bt185.2).bind fun t206 => (if t206 = 0 then ((halberdlaw0_Num.f bt190.2).bind fun t207 => (if t207 = 1601 then ((halberdlaw0_Num.f bt195.2).bind fun t208 => (if t208 = 1600 then ((halberdlaw0_Num.f bt202.2).bind fun t209 => (some (t209 == 1600))) else (some false))) else (some false))) else (some false))) else (some false)) else (none)) else (some false)) else (some false))) else (some false)))) else (none))) else (none)))
theorem halberdlaw16_awake0.mono : ∀ k, LeO (halberdlaw16_awake0.f k ) (halberdlaw16_awake0.f (k + 1) ) := by
  intro  k
  unfold halberdlaw16_awake0.f
  repeat' first
      | (with_reducible exact ext_Get.mono _ _)
      | (with_reducible exact ext_Put.mono _ _)
      | (with_reducible exact LeO.refl _)
      | (with_reducible exact LeO.none _)
      | (with_reducible refine LeO.ite ?_ ?_)
      | (with_reducible refine LeO.bind ?_ (fun _ => ?_))
      | exact ext_Get.mono _ _
      | exact ext_Put.mono _ _
      | exact LeO.none _
      | refine LeO.ite ?_ ?_
      | refine LeO.bind ?_ (fun _ => ?_)
set_option maxHeartbeats 8000000 in
set_option maxRecDepth 100000 in
theorem halberdlaw16_awake0.calls (k : Nat)  (r : Bool) (w : World) (h : halberdlaw16_awake0.f k  = some r) (hr : Aside0 (r = true)) :
    Calls Try.prog 21 #[] w fun e w' => e = .returned (.bool r) ∧ Below w.heap.size w w' := by
  have hu41 := Try.underlying41
  have HB := Aside0.mk (Below.refl w.heap.size w)
  have H : ((ext_Put.f k (([(⟨5, (⟨#[97, 98]⟩ : ByteArray)⟩ : S41), (⟨6, (⟨#[]⟩ : ByteArray)⟩ : S41)] : List (S41)))).bind fun bt183 => ((ext_Get.f k bt183.1).bind fun bt185 => (if bt183.1.size + bt183.1.size ≤ 9223372036854775807 then ((ext_Get.f k (bt183.1 ++ bt183.1)).bind fun bt190 => (if bt183.1.size + 1 ≤ 9223372036854775807 then ((ext_Get.f k (bt183.1 ++ (⟨#[120]⟩ : ByteArray))).bind fun bt195 => ((ext_Put.f k (([(⟨(-1), (⟨#[]⟩ : ByteArray)⟩ : S41)] : List (S41)))).bind fun bt202 => (if bt183.1.toList = ([0, 5, 0, 2, 97, 98, 0, 6, 0, 0] : List UInt8) then ((halberdlaw0_Num.f bt183.2).bind fun t204 => (if t204 = 0 then (if (bt185.1.length : Int) = 2 then (if 0 < (bt185.1.length : Int) then (if ((rd_T41 bt185.1 0).f1).toList = ([97, 98] : List UInt8) then ((halberdlaw0_Num.f bt185.2).bind fun t206 => (if t206 = 0 then ((halberdlaw0_Num.f bt190.2).bind fun t207 => (if t207 = 1601 then ((halberdlaw0_Num.f bt195.2).bind fun t208 => (if t208 = 1600 then ((halberdlaw0_Num.f bt202.2).bind fun t209 => (some (t209 == 1600))) else (some false))) else (some false))) else (some false))) else (some false)) else (none)) else (some false)) else (some false))) else (some false)))) else (none))) else (none)))) = some r := h
  clear h
  obtain ⟨y180, hy180⟩ : ∃ y_ : List (S41), y_ = (([(⟨5, (⟨#[97, 98]⟩ : ByteArray)⟩ : S41), (⟨6, (⟨#[]⟩ : ByteArray)⟩ : S41)] : List (S41))) := ⟨_, rfl⟩
  replace H : ((ext_Put.f k y180).bind fun bt183 => ((ext_Get.f k bt183.1).bind fun bt185 => (if bt183.1.size + bt183.1.size ≤ 9223372036854775807 then ((ext_Get.f k (bt183.1 ++ bt183.1)).bind fun bt190 => (if bt183.1.size + 1 ≤ 9223372036854775807 then ((ext_Get.f k (bt183.1 ++ (⟨#[120]⟩ : ByteArray))).bind fun bt195 => ((ext_Put.f k (([(⟨(-1), (⟨#[]⟩ : ByteArray)⟩ : S41)] : List (S41)))).bind fun bt202 => (if bt183.1.toList = ([0, 5, 0, 2, 97, 98, 0, 6, 0, 0] : List UInt8) then ((halberdlaw0_Num.f bt183.2).bind fun t204 => (if t204 = 0 then (if (bt185.1.length : Int) = 2 then (if 0 < (bt185.1.length : Int) then (if ((rd_T41 bt185.1 0).f1).toList = ([97, 98] : List UInt8) then ((halberdlaw0_Num.f bt185.2).bind fun t206 => (if t206 = 0 then ((halberdlaw0_Num.f bt190.2).bind fun t207 => (if t207 = 1601 then ((halberdlaw0_Num.f bt195.2).bind fun t208 => (if t208 = 1600 then ((halberdlaw0_Num.f bt202.2).bind fun t209 => (some (t209 == 1600))) else (some false))) else (some false))) else (some false))) else (some false)) else (none)) else (some false)) else (some false))) else (some false)))) else (none))) else (none)))) = some r := by first | (rw [hy180]; with_reducible exact H) | (have H2_ := (Option.bind_some _ _).symm.trans H; rw [hy180]; with_reducible exact H2_) | (have H2_ := (Option.bind_some _ _).symm.trans H; with_reducible exact H2_) | with_reducible exact H | (rw [hy180]; exact H) | exact H
  have Ny180 := Aside0.mk hy180
  clear hy180
  replace H := Option.bind_eq_some_iff.mp H
  obtain ⟨⟨t183, t184⟩, A10, H⟩ := H
  replace H : ((ext_Get.f k t183).bind fun bt185 => (if t183.size + t183.size ≤ 9223372036854775807 then ((ext_Get.f k (t183 ++ t183)).bind fun bt190 => (if t183.size + 1 ≤ 9223372036854775807 then ((ext_Get.f k (t183 ++ (⟨#[120]⟩ : ByteArray))).bind fun bt195 => ((ext_Put.f k (([(⟨(-1), (⟨#[]⟩ : ByteArray)⟩ : S41)] : List (S41)))).bind fun bt202 => (if t183.toList = ([0, 5, 0, 2, 97, 98, 0, 6, 0, 0] : List UInt8) then ((halberdlaw0_Num.f t184).bind fun t204 => (if t204 = 0 then (if (bt185.1.length : Int) = 2 then (if 0 < (bt185.1.length : Int) then (if ((rd_T41 bt185.1 0).f1).toList = ([97, 98] : List UInt8) then ((halberdlaw0_Num.f bt185.2).bind fun t206 => (if t206 = 0 then ((halberdlaw0_Num.f bt190.2).bind fun t207 => (if t207 = 1601 then ((halberdlaw0_Num.f bt195.2).bind fun t208 => (if t208 = 1600 then ((halberdlaw0_Num.f bt202.2).bind fun t209 => (some (t209 == 1600))) else (some false))) else (some false))) else (some false))) else (some false)) else (none)) else (some false)) else (some false))) else (some false)))) else (none))) else (none))) = some r := H
  have A1 := Aside0.mk A10
  clear A10
  replace H := Option.bind_eq_some_iff.mp H
  obtain ⟨⟨t185, t186⟩, A20, H⟩ := H
  replace H : (if t183.size + t183.size ≤ 9223372036854775807 then ((ext_Get.f k (t183 ++ t183)).bind fun bt190 => (if t183.size + 1 ≤ 9223372036854775807 then ((ext_Get.f k (t183 ++ (⟨#[120]⟩ : ByteArray))).bind fun bt195 => ((ext_Put.f k (([(⟨(-1), (⟨#[]⟩ : ByteArray)⟩ : S41)] : List (S41)))).bind fun bt202 => (if t183.toList = ([0, 5, 0, 2, 97, 98, 0, 6, 0, 0] : List UInt8) then ((halberdlaw0_Num.f t184).bind fun t204 => (if t204 = 0 then (if (t185.length : Int) = 2 then (if 0 < (t185.length : Int) then (if ((rd_T41 t185 0).f1).toList = ([97, 98] : List UInt8) then ((halberdlaw0_Num.f t186).bind fun t206 => (if t206 = 0 then ((halberdlaw0_Num.f bt190.2).bind fun t207 => (if t207 = 1601 then ((halberdlaw0_Num.f bt195.2).bind fun t208 => (if t208 = 1600 then ((halberdlaw0_Num.f bt202.2).bind fun t209 => (some (t209 == 1600))) else (some false))) else (some false))) else (some false))) else (some false)) else (none)) else (some false)) else (some false))) else (some false)))) else (none))) else (none)) = some r := H
  have A2 := Aside0.mk A20
  clear A20
  by_cases c3 : t183.size + t183.size ≤ 9223372036854775807
  · rw [if_pos c3] at H
    have c3b0 := eq_true c3
    have c3b1 : decide (t183.size + t183.size ≤ 9223372036854775807) = true := decide_eq_true c3
    try have c3b2 : (9223372036854775807 < t183.size + t183.size) = False := eq_false (Nat.not_lt.2 c3)
    obtain ⟨ys189, hys189⟩ : ∃ y_ : ByteArray, y_ = (t183 ++ t183) := ⟨_, rfl⟩
    replace H : ((ext_Get.f k ys189).bind fun bt190 => (if t183.size + 1 ≤ 9223372036854775807 then ((ext_Get.f k (t183 ++ (⟨#[120]⟩ : ByteArray))).bind fun bt195 => ((ext_Put.f k (([(⟨(-1), (⟨#[]⟩ : ByteArray)⟩ : S41)] : List (S41)))).bind fun bt202 => (if t183.toList = ([0, 5, 0, 2, 97, 98, 0, 6, 0, 0] : List UInt8) then ((halberdlaw0_Num.f t184).bind fun t204 => (if t204 = 0 then (if (t185.length : Int) = 2 then (if 0 < (t185.length : Int) then (if ((rd_T41 t185 0).f1).toList = ([97, 98] : List UInt8) then ((halberdlaw0_Num.f t186).bind fun t206 => (if t206 = 0 then ((halberdlaw0_Num.f bt190.2).bind fun t207 => (if t207 = 1601 then ((halberdlaw0_Num.f bt195.2).bind fun t208 => (if t208 = 1600 then ((halberdlaw0_Num.f bt202.2).bind fun t209 => (some (t209 == 1600))) else (some false))) else (some false))) else (some false))) else (some false)) else (none)) else (some false)) else (some false))) else (some false)))) else (none))) = some r := by first | (rw [hys189]; with_reducible exact H) | (have H2_ := (Option.bind_some _ _).symm.trans H; rw [hys189]; with_reducible exact H2_) | (have H2_ := (Option.bind_some _ _).symm.trans H; with_reducible exact H2_) | with_reducible exact H | (rw [hys189]; exact H) | exact H
    have Nys189 := Aside0.mk hys189
    clear hys189
    have Sys189 := Nys189.out.symm
    replace H := Option.bind_eq_some_iff.mp H
    obtain ⟨⟨t190, t191⟩, A40, H⟩ := H
    replace H : (if t183.size + 1 ≤ 9223372036854775807 then ((ext_Get.f k (t183 ++ (⟨#[120]⟩ : ByteArray))).bind fun bt195 => ((ext_Put.f k (([(⟨(-1), (⟨#[]⟩ : ByteArray)⟩ : S41)] : List (S41)))).bind fun bt202 => (if t183.toList = ([0, 5, 0, 2, 97, 98, 0, 6, 0, 0] : List UInt8) then ((halberdlaw0_Num.f t184).bind fun t204 => (if t204 = 0 then (if (t185.length : Int) = 2 then (if 0 < (t185.length : Int) then (if ((rd_T41 t185 0).f1).toList = ([97, 98] : List UInt8) then ((halberdlaw0_Num.f t186).bind fun t206 => (if t206 = 0 then ((halberdlaw0_Num.f t191).bind fun t207 => (if t207 = 1601 then ((halberdlaw0_Num.f bt195.2).bind fun t208 => (if t208 = 1600 then ((halberdlaw0_Num.f bt202.2).bind fun t209 => (some (t209 == 1600))) else (some false))) else (some false))) else (some false))) else (some false)) else (none)) else (some false)) else (some false))) else (some false)))) else (none)) = some r := H
    have A4 := Aside0.mk A40
    clear A40
    by_cases c5 : t183.size + 1 ≤ 9223372036854775807
    · rw [if_pos c5] at H
      have c5b0 := eq_true c5
      have c5b1 : decide (t183.size + 1 ≤ 9223372036854775807) = true := decide_eq_true c5
      try have c5b2 : (9223372036854775807 < t183.size + 1) = False := eq_false (Nat.not_lt.2 c5)
      obtain ⟨ys194, hys194⟩ : ∃ y_ : ByteArray, y_ = (t183 ++ (⟨#[120]⟩ : ByteArray)) := ⟨_, rfl⟩
      replace H : ((ext_Get.f k ys194).bind fun bt195 => ((ext_Put.f k (([(⟨(-1), (⟨#[]⟩ : ByteArray)⟩ : S41)] : List (S41)))).bind fun bt202 => (if t183.toList = ([0, 5, 0, 2, 97, 98, 0, 6, 0, 0] : List UInt8) then ((halberdlaw0_Num.f t184).bind fun t204 => (if t204 = 0 then (if (t185.length : Int) = 2 then (if 0 < (t185.length : Int) then (if ((rd_T41 t185 0).f1).toList = ([97, 98] : List UInt8) then ((halberdlaw0_Num.f t186).bind fun t206 => (if t206 = 0 then ((halberdlaw0_Num.f t191).bind fun t207 => (if t207 = 1601 then ((halberdlaw0_Num.f bt195.2).bind fun t208 => (if t208 = 1600 then ((halberdlaw0_Num.f bt202.2).bind fun t209 => (some (t209 == 1600))) else (some false))) else (some false))) else (some false))) else (some false)) else (none)) else (some false)) else (some false))) else (some false)))) = some r := by first | (rw [hys194]; with_reducible exact H) | (have H2_ := (Option.bind_some _ _).symm.trans H; rw [hys194]; with_reducible exact H2_) | (have H2_ := (Option.bind_some _ _).symm.trans H; with_reducible exact H2_) | with_reducible exact H | (rw [hys194]; exact H) | exact H
      have Nys194 := Aside0.mk hys194
      clear hys194
      have Sys194 := Nys194.out.symm
      replace H := Option.bind_eq_some_iff.mp H
      obtain ⟨⟨t195, t196⟩, A60, H⟩ := H
      replace H : ((ext_Put.f k (([(⟨(-1), (⟨#[]⟩ : ByteArray)⟩ : S41)] : List (S41)))).bind fun bt202 => (if t183.toList = ([0, 5, 0, 2, 97, 98, 0, 6, 0, 0] : List UInt8) then ((halberdlaw0_Num.f t184).bind fun t204 => (if t204 = 0 then (if (t185.length : Int) = 2 then (if 0 < (t185.length : Int) then (if ((rd_T41 t185 0).f1).toList = ([97, 98] : List UInt8) then ((halberdlaw0_Num.f t186).bind fun t206 => (if t206 = 0 then ((halberdlaw0_Num.f t191).bind fun t207 => (if t207 = 1601 then ((halberdlaw0_Num.f t196).bind fun t208 => (if t208 = 1600 then ((halberdlaw0_Num.f bt202.2).bind fun t209 => (some (t209 == 1600))) else (some false))) else (some false))) else (some false))) else (some false)) else (none)) else (some false)) else (some false))) else (some false))) = some r := H
      have A6 := Aside0.mk A60
      clear A60
      obtain ⟨y199, hy199⟩ : ∃ y_ : List (S41), y_ = (([(⟨(-1), (⟨#[]⟩ : ByteArray)⟩ : S41)] : List (S41))) := ⟨_, rfl⟩
      replace H : ((ext_Put.f k y199).bind fun bt202 => (if t183.toList = ([0, 5, 0, 2, 97, 98, 0, 6, 0, 0] : List UInt8) then ((halberdlaw0_Num.f t184).bind fun t204 => (if t204 = 0 then (if (t185.length : Int) = 2 then (if 0 < (t185.length : Int) then (if ((rd_T41 t185 0).f1).toList = ([97, 98] : List UInt8) then ((halberdlaw0_Num.f t186).bind fun t206 => (if t206 = 0 then ((halberdlaw0_Num.f t191).bind fun t207 => (if t207 = 1601 then ((halberdlaw0_Num.f t196).bind fun t208 => (if t208 = 1600 then ((halberdlaw0_Num.f bt202.2).bind fun t209 => (some (t209 == 1600))) else (some false))) else (some false))) else (some false))) else (some false)) else (none)) else (some false)) else (some false))) else (some false))) = some r := by first | (rw [hy199]; with_reducible exact H) | (have H2_ := (Option.bind_some _ _).symm.trans H; rw [hy199]; with_reducible exact H2_) | (have H2_ := (Option.bind_some _ _).symm.trans H; with_reducible exact H2_) | with_reducible exact H | (rw [hy199]; exact H) | exact H
      have Ny199 := Aside0.mk hy199
      clear hy199
      replace H := Option.bind_eq_some_iff.mp H
      obtain ⟨⟨t202, t203⟩, A70, H⟩ := H
      replace H : (if t183.toList = ([0, 5, 0, 2, 97, 98, 0, 6, 0, 0] : List UInt8) then ((halberdlaw0_Num.f t184).bind fun t204 => (if t204 = 0 then (if (t185.length : Int) = 2 then (if 0 < (t185.length : Int) then (if ((rd_T41 t185 0).f1).toList = ([97, 98] : List UInt8) then ((halberdlaw0_Num.f t186).bind fun t206 => (if t206 = 0 then ((halberdlaw0_Num.f t191).bind fun t207 => (if t207 = 1601 then ((halberdlaw0_Num.f t196).bind fun t208 => (if t208 = 1600 then ((halberdlaw0_Num.f t203).bind fun t209 => (some (t209 == 1600))) else (some false))) else (some false))) else (some false))) else (some false)) else (none)) else (some false)) else (some false))) else (some false)) = some r := H
      have A7 := Aside0.mk A70
      clear A70
      by_cases c8 : t183.toList = ([0, 5, 0, 2, 97, 98, 0, 6, 0, 0] : List UInt8)
      · rw [if_pos c8] at H
        have c8b0 : (t183.toList == ([0, 5, 0, 2, 97, 98, 0, 6, 0, 0] : List UInt8)) = true := beq_iff_eq.mpr c8
        have c8b1 : (t183.toList != ([0, 5, 0, 2, 97, 98, 0, 6, 0, 0] : List UInt8)) = false := bne_eq_false_iff_eq.mpr c8
        clear c8
        replace H := Option.bind_eq_some_iff.mp H
        obtain ⟨t204, A90, H⟩ := H
        replace H : (if t204 = 0 then (if (t185.length : Int) = 2 then (if 0 < (t185.length : Int) then (if ((rd_T41 t185 0).f1).toList = ([97, 98] : List UInt8) then ((halberdlaw0_Num.f t186).bind fun t206 => (if t206 = 0 then ((halberdlaw0_Num.f t191).bind fun t207 => (if t207 = 1601 then ((halberdlaw0_Num.f t196).bind fun t208 => (if t208 = 1600 then ((halberdlaw0_Num.f t203).bind fun t209 => (some (t209 == 1600))) else (some false))) else (some false))) else (some false))) else (some false)) else (none)) else (some false)) else (some false)) = some r := H
        have A9 := Aside0.mk A90
        clear A90
        by_cases c10 : t204 = 0
        · rw [if_pos c10] at H
          have c10b0 : (t204 == 0) = true := beq_iff_eq.mpr c10
          have c10b1 : (t204 != 0) = false := bne_eq_false_iff_eq.mpr c10
          clear c10
          by_cases c11 : (t185.length : Int) = 2
          · rw [if_pos c11] at H
            have c11b0 : ((t185.length : Int) == 2) = true := beq_iff_eq.mpr c11
            have c11b1 : ((t185.length : Int) != 2) = false := bne_eq_false_iff_eq.mpr c11
            clear c11
            by_cases c12 : 0 < (t185.length : Int)
            · rw [if_pos c12] at H
              have c12b0 : decide (0 < (t185.length : Int)) = true := decide_eq_true c12
              have c12b1 : decide (0 < t185.length) = true := decide_eq_true (by omega)
              clear c12
              by_cases c13 : ((rd_T41 t185 0).f1).toList = ([97, 98] : List UInt8)
              · rw [if_pos c13] at H
                have c13b0 : (((rd_T41 t185 0).f1).toList == ([97, 98] : List UInt8)) = true := beq_iff_eq.mpr c13
                have c13b1 : (((rd_T41 t185 0).f1).toList != ([97, 98] : List UInt8)) = false := bne_eq_false_iff_eq.mpr c13
                clear c13
                replace H := Option.bind_eq_some_iff.mp H
                obtain ⟨t206, A140, H⟩ := H
                replace H : (if t206 = 0 then ((halberdlaw0_Num.f t191).bind fun t207 => (if t207 = 1601 then ((halberdlaw0_Num.f t196).bind fun t208 => (if t208 = 1600 then ((halberdlaw0_Num.f t203).bind fun t209 => (some (t209 == 1600))) else (some false))) else (some false))) else (some false)) = some r := H
                have A14 := Aside0.mk A140
                clear A140
                by_cases c15 : t206 = 0
                · rw [if_pos c15] at H
                  have c15b0 : (t206 == 0) = true := beq_iff_eq.mpr c15
                  have c15b1 : (t206 != 0) = false := bne_eq_false_iff_eq.mpr c15
                  clear c15
                  replace H := Option.bind_eq_some_iff.mp H
                  obtain ⟨t207, A160, H⟩ := H
                  replace H : (if t207 = 1601 then ((halberdlaw0_Num.f t196).bind fun t208 => (if t208 = 1600 then ((halberdlaw0_Num.f t203).bind fun t209 => (some (t209 == 1600))) else (some false))) else (some false)) = some r := H
                  have A16 := Aside0.mk A160
                  clear A160
                  by_cases c17 : t207 = 1601
                  · rw [if_pos c17] at H
                    have c17b0 : (t207 == 1601) = true := beq_iff_eq.mpr c17
                    have c17b1 : (t207 != 1601) = false := bne_eq_false_iff_eq.mpr c17
                    clear c17
                    replace H := Option.bind_eq_some_iff.mp H
                    obtain ⟨t208, A180, H⟩ := H
                    replace H : (if t208 = 1600 then ((halberdlaw0_Num.f t203).bind fun t209 => (some (t209 == 1600))) else (some false)) = some r := H
                    have A18 := Aside0.mk A180
                    clear A180
                    by_cases c19 : t208 = 1600
                    · rw [if_pos c19] at H
                      have c19b0 : (t208 == 1600) = true := beq_iff_eq.mpr c19
                      have c19b1 : (t208 != 1600) = false := bne_eq_false_iff_eq.mpr c19
                      clear c19
                      replace H := Option.bind_eq_some_iff.mp H
                      obtain ⟨t209, A200, H⟩ := H
                      replace H : (some (t209 == 1600)) = some r := H
                      have A20 := Aside0.mk A200
                      clear A200
                      obtain rfl := Option.some.inj H
                      go_enter Try.func21, Try.ntmps21
                      go_wp2_with (first | ((with_reducible refine gate_dst (N := 14) rfl ?_); (try (refine gate_guard (by rfl) ?_; dsimp only)); refine Kd.R_lit k41 _ 41 ?hg (N := 14) ?hd (xs := ([(⟨5, (⟨#[97, 98]⟩ : ByteArray)⟩ : S41), (⟨6, (⟨#[]⟩ : ByteArray)⟩ : S41)] : List (S41))) (inner := [.int .i64 5, .string (⟨#[97, 98]⟩ : ByteArray), .int .i64 6, .string (⟨#[]⟩ : ByteArray)]) (ok := fun _ => True) (okp := fun _ => True) ?hr ?hp (fun _ hk => hk) trivial (Below.refl _ _) (Nat.le_refl _) (by simp) ?_; (case hd => rfl); (case hg => rfl); (case hr => first | (go_simp; done) | (go_simp; rfl)); (case hp => exact (Reps.c2 (show Kd.M k41 _ _ _ (⟨5, (⟨#[97, 98]⟩ : ByteArray)⟩ : S41) [.int .i64 5, .string (⟨#[97, 98]⟩ : ByteArray)] from (k41_mkM _ _ _ (⟨5, (⟨#[97, 98]⟩ : ByteArray)⟩ : S41) )) (Reps.c2 (show Kd.M k41 _ _ _ (⟨6, (⟨#[]⟩ : ByteArray)⟩ : S41) [.int .i64 6, .string (⟨#[]⟩ : ByteArray)] from (k41_mkM _ _ _ (⟨6, (⟨#[]⟩ : ByteArray)⟩ : S41) )) (Reps.none _ _)))); intro v181 w21 ho22 hb hg_ hnew_; clear hg_ hnew_; (first | rw [← Ny180.out] at ho22 | (simp only [Int.reduceToNat] at ho22; rw [← Ny180.out] at ho22)); have n0_ := Aside0.mk (Kd.R_lower ho22 (below_size (by repeat (first | (with_reducible first | exact HB.out | apply below_alloc | apply pw_below_drewN | apply below_drew1) | exact HB.out)))); have n1_ := Aside0.mk (below_step (by repeat (first | (with_reducible first | exact HB.out | apply below_alloc | apply pw_below_drewN | apply below_drew1) | exact HB.out)) hb); clear HB; have HO182 := n0_; have HB := n1_; clear n0_ n1_; clear hb ho22; obtain ⟨Ao23, co23, eo23⟩ := Kd.R_slice HO182.out; subst eo23) | ((with_reducible refine gate_callee (f := 15) rfl ?_); refine goesL_ (some 15) rfl rfl Try.func15 (by kernel_rfl) rfl #[.slice Ao23 y180.length co23] rfl (by (try simp only [List.map_toArray, List.map_cons, List.map_nil]); first | done | rfl | (simp only [List.length_drop, List.length_take]; rfl)) ?_; (with_reducible refine (ext_Put.calls k _ _ y180 t183 t184 _ ?side1 ?side2 A1.out).mono ?_); (case side1 => repeat (first | exact (Kd.R_reads' HO182.out).2.2 | (with_reducible refine Kd.C_alloc ?_ _) | (with_reducible refine Kd.C_drewN ?_ _) | (with_reducible refine Kd.C_drew ?_))); (case side2 => exact (Kd.R_reads' HO182.out).2.1); rintro e w24 ⟨rfl, hb⟩; refine ⟨_, rfl, ?_⟩; have n0_ := Aside0.mk (Kd.R_below (by (with_reducible repeat (first | apply Kd.R_alloc | apply Kd.R_drewN | apply Kd.R_drew)); exact HO182.out) hb); have n1_ := Aside0.mk (below_step (by repeat (first | (with_reducible first | exact HB.out | apply below_alloc | apply pw_below_drewN | apply below_drew1) | exact HB.out)) hb); clear HO182; clear HB; have HO182 := n0_; have HB := n1_; clear n0_ n1_; (try clear hb); (try clear hb2); (try clear hk); (try clear hi)) | ((with_reducible refine gate_callee (f := 12) rfl ?_); refine goesL_ (some 20) rfl rfl Try.func12 (by kernel_rfl) rfl #[.string t183] rfl (by (try simp only [List.map_toArray, List.map_cons, List.map_nil]); first | done | rfl | (simp only [List.length_drop, List.length_take]; rfl)) ?_; (with_reducible refine (ext_Get.calls k t183 t185 t186 _ A2.out).mono ?_); rintro e w25 ⟨v187, rfl, ho0, hb⟩; refine ⟨_, rfl, ?_⟩; have n0_ := Aside0.mk (Kd.R_elder' (by (with_reducible repeat (first | apply Kd.R_alloc | apply Kd.R_drewN | apply Kd.R_drew)); exact HO182.out) (Kd.R_base ho0) hb); have n1_ := Aside0.mk (Kd.R_lower (Kd.R_new' ho0 (Kd.R_lt (by (with_reducible repeat (first | apply Kd.R_alloc | apply Kd.R_drewN | apply Kd.R_drew)); exact HO182.out))) (below_size (by repeat (first | (with_reducible first | exact HB.out | apply below_alloc | apply pw_below_drewN | apply below_drew1) | exact HB.out)))); have n2_ := Aside0.mk (below_step (by repeat (first | (with_reducible first | exact HB.out | apply below_alloc | apply pw_below_drewN | apply below_drew1) | exact HB.out)) hb); clear HO182; clear HB; have HO182 := n0_; have HO188 := n1_; have HB := n2_; clear n0_ n1_ n2_; (try clear hb); (try clear hb2); (try clear hk); (try clear hi); (try clear ho0)) | ((with_reducible refine gate_callee (f := 12) rfl ?_); refine goesL_ (some 27) rfl rfl Try.func12 (by kernel_rfl) rfl #[.string ys189] rfl (by (try simp only [List.map_toArray, List.map_cons, List.map_nil]); first | done | rfl | (simp only [List.length_drop, List.length_take]; rfl)) ?_; (with_reducible refine (ext_Get.calls k ys189 t190 t191 _ A4.out).mono ?_); rintro e w26 ⟨v192, rfl, ho0, hb⟩; refine ⟨_, rfl, ?_⟩; have n0_ := Aside0.mk (Kd.R_elder' (by (with_reducible repeat (first | apply Kd.R_alloc | apply Kd.R_drewN | apply Kd.R_drew)); exact HO182.out) (Kd.R_base ho0) hb); have n1_ := Aside0.mk (Kd.R_elder' (by (with_reducible repeat (first | apply Kd.R_alloc | apply Kd.R_drewN | apply Kd.R_drew)); exact HO188.out) (Kd.R_base ho0) hb); have n2_ := Aside0.mk (Kd.R_lower (Kd.R_new' (Kd.R_new' ho0 (Kd.R_lt (by (with_reducible repeat (first | apply Kd.R_alloc | apply Kd.R_drewN | apply Kd.R_drew)); exact HO182.out))) (Kd.R_lt (by (with_reducible repeat (first | apply Kd.R_alloc | apply Kd.R_drewN | apply Kd.R_drew)); exact HO188.out))) (below_size (by repeat (first | (with_reducible first | exact HB.out | apply below_alloc | apply pw_below_drewN | apply below_drew1) | exact HB.out)))); have n3_ := Aside0.mk (below_step (by repeat (first | (with_reducible first | exact HB.out | apply below_alloc | apply pw_below_drewN | apply below_drew1) | exact HB.out)) hb); clear HO182; clear HO188; clear HB; have HO182 := n0_; have HO188 := n1_; have HO193 := n2_; have HB := n3_; clear n0_ n1_ n2_ n3_; (try clear hb); (try clear hb2); (try clear hk); (try clear hi); (try clear ho0)) | ((with_reducible refine gate_callee (f := 12) rfl ?_); refine goesL_ (some 33) rfl rfl Try.func12 (by kernel_rfl) rfl #[.string ys194] rfl (by (try simp only [List.map_toArray, List.map_cons, List.map_nil]); first | done | rfl | (simp only [List.length_drop, List.length_take]; rfl)) ?_; (with_reducible refine (ext_Get.calls k ys194 t195 t196 _ A6.out).mono ?_); rintro e w27 ⟨v197, rfl, ho0, hb⟩; refine ⟨_, rfl, ?_⟩; have n0_ := Aside0.mk (Kd.R_elder' (by (with_reducible repeat (first | apply Kd.R_alloc | apply Kd.R_drewN | apply Kd.R_drew)); exact HO182.out) (Kd.R_base ho0) hb); have n1_ := Aside0.mk (Kd.R_elder' (by (with_reducible repeat (first | apply Kd.R_alloc | apply Kd.R_drewN | apply Kd.R_drew)); exact HO188.out) (Kd.R_base ho0) hb); have n2_ := Aside0.mk (Kd.R_elder' (by (with_reducible repeat (first | apply Kd.R_alloc | apply Kd.R_drewN | apply Kd.R_drew)); exact HO193.out) (Kd.R_base ho0) hb); have n3_ := Aside0.mk (Kd.R_lower (Kd.R_new' (Kd.R_new' (Kd.R_new' ho0 (Kd.R_lt (by (with_reducible repeat (first | apply Kd.R_alloc | apply Kd.R_drewN | apply Kd.R_drew)); exact HO182.out))) (Kd.R_lt (by (with_reducible repeat (first | apply Kd.R_alloc | apply Kd.R_drewN | apply Kd.R_drew)); exact HO188.out))) (Kd.R_lt (by (with_reducible repeat (first | apply Kd.R_alloc | apply Kd.R_drewN | apply Kd.R_drew)); exact HO193.out))) (below_size (by repeat (first | (with_reducible first | exact HB.out | apply below_alloc | apply pw_below_drewN | apply below_drew1) | exact HB.out)))); have n4_ := Aside0.mk (below_step (by repeat (first | (with_reducible first | exact HB.out | apply below_alloc | apply pw_below_drewN | apply below_drew1) | exact HB.out)) hb); clear HO182; clear HO188; clear HO193; clear HB; have HO182 := n0_; have HO188 := n1_; have HO193 := n2_; have HO198 := n3_; have HB := n4_; clear n0_ n1_ n2_ n3_ n4_; (try clear hb); (try clear hb2); (try clear hk); (try clear hi); (try clear ho0)) | ((with_reducible refine gate_dst (N := 38) rfl ?_); (try (refine gate_guard (by rfl) ?_; dsimp only)); refine Kd.R_lit k41 _ 41 ?hg (N := 38) ?hd (xs := ([(⟨(-1), (⟨#[]⟩ : ByteArray)⟩ : S41)] : List (S41))) (inner := [.int .i64 (-1), .string (⟨#[]⟩ : ByteArray)]) (ok := fun _ => True) (okp := fun _ => True) ?hr ?hp (fun _ hk => hk) trivial (Below.refl _ _) (Nat.le_refl _) (by simp) ?_; (case hd => rfl); (case hg => rfl); (case hr => first | (go_simp; done) | (go_simp; rfl)); (case hp => exact (Reps.c2 (show Kd.M k41 _ _ _ (⟨(-1), (⟨#[]⟩ : ByteArray)⟩ : S41) [.int .i64 (-1), .string (⟨#[]⟩ : ByteArray)] from (k41_mkM _ _ _ (⟨(-1), (⟨#[]⟩ : ByteArray)⟩ : S41) )) (Reps.none _ _))); intro v200 w28 ho29 hb hg_ hnew_; clear hg_ hnew_; (first | rw [← Ny199.out] at ho29 | (simp only [Int.reduceToNat] at ho29; rw [← Ny199.out] at ho29)); have n0_ := Aside0.mk (Kd.R_elder' (by (with_reducible repeat (first | apply Kd.R_alloc | apply Kd.R_drewN | apply Kd.R_drew)); exact HO182.out) (Kd.R_base ho29) hb); have n1_ := Aside0.mk (Kd.R_elder' (by (with_reducible repeat (first | apply Kd.R_alloc | apply Kd.R_drewN | apply Kd.R_drew)); exact HO188.out) (Kd.R_base ho29) hb); have n2_ := Aside0.mk (Kd.R_elder' (by (with_reducible repeat (first | apply Kd.R_alloc | apply Kd.R_drewN | apply Kd.R_drew)); exact HO193.out) (Kd.R_base ho29) hb); have n3_ := Aside0.mk (Kd.R_elder' (by (with_reducible repeat (first | apply Kd.R_alloc | apply Kd.R_drewN | apply Kd.R_drew)); exact HO198.out) (Kd.R_base ho29) hb); have n4_ := Aside0.mk (Kd.R_lower (Kd.R_new' (Kd.R_new' (Kd.R_new' (Kd.R_new' ho29 (Kd.R_lt (by (with_reducible repeat (first | apply Kd.R_alloc | apply Kd.R_drewN | apply Kd.R_drew)); exact HO182.out))) (Kd.R_lt (by (with_reducible repeat (first | apply Kd.R_alloc | apply Kd.R_drewN | apply Kd.R_drew)); exact HO188.out))) (Kd.R_lt (by (with_reducible repeat (first | apply Kd.R_alloc | apply Kd.R_drewN | apply Kd.R_drew)); exact HO193.out))) (Kd.R_lt (by (with_reducible repeat (first | apply Kd.R_alloc | apply Kd.R_drewN | apply Kd.R_drew)); exact HO198.out))) (below_size (by repeat (first | (with_reducible first | exact HB.out | apply below_alloc | apply pw_below_drewN | apply below_drew1) | exact HB.out)))); have n5_ := Aside0.mk (below_step (by repeat (first | (with_reducible first | exact HB.out | apply below_alloc | apply pw_below_drewN | apply below_drew1) | exact HB.out)) hb); clear HO182; clear HO188; clear HO193; clear HO198; clear HB; have HO182 := n0_; have HO188 := n1_; have HO193 := n2_; have HO198 := n3_; have HO201 := n4_; have HB := n5_; clear n0_ n1_ n2_ n3_ n4_ n5_; clear hb ho29; obtain ⟨Ao30, co30, eo30⟩ := Kd.R_slice HO201.out; subst eo30) | ((with_reducible refine gate_callee (f := 15) rfl ?_); refine goesL_ (some 39) rfl rfl Try.func15 (by kernel_rfl) rfl #[.slice Ao30 y199.length co30] rfl (by (try simp only [List.map_toArray, List.map_cons, List.map_nil]); first | done | rfl | (simp only [List.length_drop, List.length_take]; rfl)) ?_; (with_reducible refine (ext_Put.calls k _ _ y199 t202 t203 _ ?side1 ?side2 A7.out).mono ?_); (case side1 => repeat (first | exact (Kd.R_reads' HO201.out).2.2 | (with_reducible refine Kd.C_alloc ?_ _) | (with_reducible refine Kd.C_drewN ?_ _) | (with_reducible refine Kd.C_drew ?_))); (case side2 => exact (Kd.R_reads' HO201.out).2.1); rintro e w31 ⟨rfl, hb⟩; refine ⟨_, rfl, ?_⟩; have n0_ := Aside0.mk (Kd.R_below (by (with_reducible repeat (first | apply Kd.R_alloc | apply Kd.R_drewN | apply Kd.R_drew)); exact HO182.out) hb); have n1_ := Aside0.mk (Kd.R_below (by (with_reducible repeat (first | apply Kd.R_alloc | apply Kd.R_drewN | apply Kd.R_drew)); exact HO188.out) hb); have n2_ := Aside0.mk (Kd.R_below (by (with_reducible repeat (first | apply Kd.R_alloc | apply Kd.R_drewN | apply Kd.R_drew)); exact HO193.out) hb); have n3_ := Aside0.mk (Kd.R_below (by (with_reducible repeat (first | apply Kd.R_alloc | apply Kd.R_drewN | apply Kd.R_drew)); exact HO198.out) hb); have n4_ := Aside0.mk (Kd.R_below (by (with_reducible repeat (first | apply Kd.R_alloc | apply Kd.R_drewN | apply Kd.R_drew)); exact HO201.out) hb); have n5_ := Aside0.mk (below_step (by repeat (first | (with_reducible first | exact HB.out | apply below_alloc | apply pw_below_drewN | apply below_drew1) | exact HB.out)) hb); clear HO182; clear HO188; clear HO193; clear HO198; clear HO201; clear HB; have HO182 := n0_; have HO188 := n1_; have HO193 := n2_; have HO198 := n3_; have HO201 := n4_; have HB := n5_; clear n0_ n1_ n2_ n3_ n4_ n5_; (try clear hb); (try clear hb2); (try clear hk); (try clear hi)) | (go_at_call 18; (with_reducible refine (halberdlaw0_Num.calls t184 t204 _ A9.out).mono ?_); rintro e w' ⟨rfl, ⟨nd, rfl⟩⟩; obtain ⟨Ao32, co32, eo32⟩ := Kd.R_slice HO188.out; subst eo32; have p205 : 0 ≤ (0 : Int) := (by omega); have q205 : 0 < (t185.length : Int) := of_decide_eq_true (by first | (with_reducible assumption) | assumption); obtain ⟨ad205, e205, hx205_0, hx205_1⟩ := at_T41 (Kd.R_reads' HO188.out).2.2 0 p205 q205; cases e205; have qi205 : (0 < t185.length) = True := eq_true (by omega); (try rw [show ((0 : Int)).toNat = 0 from rfl] at hx205_0); (try rw [show 0 * 2 = 0 from rfl] at hx205_0); (try rw [Addr.add_zero'] at hx205_0); (try rw [show ((0 : Int)).toNat = 0 from rfl] at hx205_1); (try rw [show 0 * 2 = 0 from rfl] at hx205_1); (try rw [Addr.add_zero'] at hx205_1); replace p205 := eq_true p205; replace q205 := eq_true q205) | (go_at_call 18; (with_reducible refine (halberdlaw0_Num.calls t186 t206 _ A14.out).mono ?_); rintro e w' ⟨rfl, ⟨nd, rfl⟩⟩) | (go_at_call 18; (with_reducible refine (halberdlaw0_Num.calls t191 t207 _ A16.out).mono ?_); rintro e w' ⟨rfl, ⟨nd, rfl⟩⟩) | (go_at_call 18; (with_reducible refine (halberdlaw0_Num.calls t196 t208 _ A18.out).mono ?_); rintro e w' ⟨rfl, ⟨nd, rfl⟩⟩) | (go_at_call 18; (with_reducible refine (halberdlaw0_Num.calls t203 t209 _ A20.out).mono ?_); rintro e w' ⟨rfl, ⟨nd, rfl⟩⟩))
                      go_ret
                      exact ⟨by first | rfl | (simp [errW_none, errW_some] <;> rfl) | (simp [*, errW_none, errW_some] <;> rfl), by repeat (first | (with_reducible first | exact HB.out | apply below_alloc | apply pw_below_drewN | apply below_drew1) | exact HB.out)⟩
                    · rw [if_neg c19] at H
                      have c19b0 : (t208 == 1600) = false := beq_eq_false_iff_ne.mpr c19
                      have c19b1 : (t208 != 1600) = true := bne_iff_ne.mpr c19
                      exact absurd ((Option.some.inj H).trans hr.out) (by decide)
                  · rw [if_neg c17] at H
                    have c17b0 : (t207 == 1601) = false := beq_eq_false_iff_ne.mpr c17
                    have c17b1 : (t207 != 1601) = true := bne_iff_ne.mpr c17
                    exact absurd ((Option.some.inj H).trans hr.out) (by decide)
                · rw [if_neg c15] at H
                  have c15b0 : (t206 == 0) = false := beq_eq_false_iff_ne.mpr c15
                  have c15b1 : (t206 != 0) = true := bne_iff_ne.mpr c15
                  exact absurd ((Option.some.inj H).trans hr.out) (by decide)
              · rw [if_neg c13] at H
                have c13b0 : (((rd_T41 t185 0).f1).toList == ([97, 98] : List UInt8)) = false := beq_eq_false_iff_ne.mpr c13
                have c13b1 : (((rd_T41 t185 0).f1).toList != ([97, 98] : List UInt8)) = true := bne_iff_ne.mpr c13
                exact absurd ((Option.some.inj H).trans hr.out) (by decide)
            · rw [if_neg c12] at H
              exact absurd H (by simp)
          · rw [if_neg c11] at H
            have c11b0 : ((t185.length : Int) == 2) = false := beq_eq_false_iff_ne.mpr c11
            have c11b1 : ((t185.length : Int) != 2) = true := bne_iff_ne.mpr c11
            exact absurd ((Option.some.inj H).trans hr.out) (by decide)
        · rw [if_neg c10] at H
          have c10b0 : (t204 == 0) = false := beq_eq_false_iff_ne.mpr c10
          have c10b1 : (t204 != 0) = true := bne_iff_ne.mpr c10
          exact absurd ((Option.some.inj H).trans hr.out) (by decide)
      · rw [if_neg c8] at H
        have c8b0 : (t183.toList == ([0, 5, 0, 2, 97, 98, 0, 6, 0, 0] : List UInt8)) = false := beq_eq_false_iff_ne.mpr c8
        have c8b1 : (t183.toList != ([0, 5, 0, 2, 97, 98, 0, 6, 0, 0] : List UInt8)) = true := bne_iff_ne.mpr c8
        exact absurd ((Option.some.inj H).trans hr.out) (by decide)
    · rw [if_neg c5] at H
      exact absurd H (by simp)
  · rw [if_neg c3] at H
    exact absurd H (by simp)

/-! ### halberdlaw16_awake: function 21, closed -/
def halberdlaw16_awake.f : Option (Bool) := some true
theorem halberdlaw16_awake.knows : halberdlaw16_awake0.f 40 = some true := by decide +kernel
theorem halberdlaw16_awake.calls (r : Bool) (w : World) (h : halberdlaw16_awake.f = some r) : Calls Try.prog 21 #[] w fun e w' => e = .returned (.bool r) ∧ Below w.heap.size w w' := by
  obtain rfl := Option.some.inj h
  exact halberdlaw16_awake0.calls 40  true w halberdlaw16_awake.knows ⟨rfl⟩

end Go.Proofs.Ytlkebjkpmiehcaa.E
