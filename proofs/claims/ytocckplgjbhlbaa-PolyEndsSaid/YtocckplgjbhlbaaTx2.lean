-- Written by a program of this session (wip/tools/xprint.py), over the kit's printer.
import Derived.Test.YtocckplgjbhlbaaTx0
import Derived.Test.YtocckplgjbhlbaaTx1
namespace Go.Proofs.Ytocckplgjbhlbaa.T
open Go.RowKit Go.Proofs.YtocckplgjbhlbaaW.PrintWords Go.Proofs.YtocckplgjbhlbaaW.PrintLast Go.Proofs.YtocckplgjbhlbaaW.PrintMore
attribute [local go_sem] max2_int min2_int max_two min_two max_three min_three max_four min_four   -- for this text's walks alone
set_option linter.unusedVariables false
set_option linter.unusedSimpArgs false

/-! ### poly_length: function 48 -/
def poly_length.f (a0 : Int) : Option ByteArray := if 0 ≤ a0 then some (Pol.len8 a0.toNat) else none
theorem poly_length.calls (a0 : Int) (r : ByteArray) (w : World) (h : poly_length.f a0 = some r) :
    Calls Try.prog 48 #[.int .i64 a0] w fun e w' => e = .returned (.string r) ∧ Below w.heap.size w w' := by
  unfold poly_length.f at h
  by_cases hm : 0 ≤ a0
  · rw [if_pos hm] at h
    have e := Int.toNat_of_nonneg hm
    rw [← Option.some.inj h]
    have := Pol.length_calls a0.toNat w
    rw [e] at this
    exact this
  · rw [if_neg hm] at h
    cases h

-- NOT PRINTED: function 36 (poly_Tag)

/-! ### poly_Seal: function 20 -/
def poly_Seal.f (a0 : ByteArray) (a1 : ByteArray) (a2 : ByteArray) (a3 : ByteArray) : Option (ByteArray × Int) := some (if Pol.PMay a0 a1 a2 a3.size then (Pol.sealedOf a0 a1 a2 a3, 0) else (ByteArray.empty, 700))
theorem poly_Seal.calls (a0 : ByteArray) (a1 : ByteArray) (a2 : ByteArray) (a3 : ByteArray) (r1 : ByteArray) (r2 : Int) (w : World) (h : poly_Seal.f a0 a1 a2 a3 = some (r1, r2)) :
    Calls Try.prog 20 #[.string a0, .string a1, .string a2, .string a3] w fun e w' => e = .returned (.tuple #[.string r1, .int .i64 r2]) ∧ Below w.heap.size w w' := by
  unfold poly_Seal.f at h
  have h := Option.some.inj h
  by_cases hm : Pol.PMay a0 a1 a2 a3.size
  · rw [if_pos hm] at h
    rw [← (Prod.mk.inj h).1, ← (Prod.mk.inj h).2]
    exact Pol.seal_yes a0 a1 a2 a3 hm w
  · rw [if_neg hm] at h
    rw [← (Prod.mk.inj h).1, ← (Prod.mk.inj h).2]
    exact Pol.seal_no a0 a1 a2 a3 hm w

/-! ### poly_Open: function 22 -/
instance poly_Open.dec (a0 a1 a2 a3 : ByteArray) : Decidable (Pol.Fits a0 a1 a2 a3) := by unfold Pol.Fits; infer_instance
def poly_Open.f (a0 : ByteArray) (a1 : ByteArray) (a2 : ByteArray) (a3 : ByteArray) : Option (ByteArray × Int) := if a3.size ≤ 9223372036854775807 then some (if Pol.OMay a0 a1 a2 a3 ∧ Pol.Fits a0 a1 a2 a3 then (Cha.xorOut a0 a1 1 (Pol.front a3), 0) else (ByteArray.empty, 700)) else none
theorem poly_Open.calls (a0 : ByteArray) (a1 : ByteArray) (a2 : ByteArray) (a3 : ByteArray) (r1 : ByteArray) (r2 : Int) (w : World) (h : poly_Open.f a0 a1 a2 a3 = some (r1, r2)) :
    Calls Try.prog 22 #[.string a0, .string a1, .string a2, .string a3] w fun e w' => e = .returned (.tuple #[.string r1, .int .i64 r2]) ∧ Below w.heap.size w w' := by
  unfold poly_Open.f at h
  by_cases hz : a3.size ≤ 9223372036854775807
  · rw [if_pos hz] at h
    have h := Option.some.inj h
    by_cases hm : Pol.OMay a0 a1 a2 a3
    · by_cases hf : Pol.Fits a0 a1 a2 a3
      · rw [if_pos ⟨hm, hf⟩] at h
        rw [← (Prod.mk.inj h).1, ← (Prod.mk.inj h).2]
        exact Pol.open_yes a0 a1 a2 a3 hm hf w
      · rw [if_neg (fun e => hf e.2)] at h
        rw [← (Prod.mk.inj h).1, ← (Prod.mk.inj h).2]
        exact Pol.open_bad a0 a1 a2 a3 hm hf w
    · rw [if_neg (fun e => hm e.1)] at h
      rw [← (Prod.mk.inj h).1, ← (Prod.mk.inj h).2]
      exact Pol.open_no a0 a1 a2 a3 hm hz w
  · rw [if_neg hz] at h
    cases h

/-! ### halberdlaw7_awake0: function 24 -/
def halberdlaw7_awake0.f  : Option (Bool) := if 32 ≤ 281474976710656 then ((some (List.replicate 32 0 : List Int)).bind fun y137 => ((poly_Mac.f (strOfNums y137) (⟨#[97, 98, 99]⟩ : ByteArray)).bind fun bt140 => (if 0 ≤ 12 then (if 12 ≤ ((strOfNums y137).size : Int) then ((poly_Seal.f (strOfNums y137) ((strOfNums y137).extract 0 12) (⟨#[97]⟩ : ByteArray) (⟨#[104, 101, 108, 108, 111]⟩ : ByteArray)).bind fun bt142 => ((poly_Open.f (strOfNums y137) ((strOfNums y137).extract 0 12) (⟨#[97]⟩ : ByteArray) bt142.1).bind fun bt144 => ((poly_Open.f (strOfNums y137) ((strOfNums y137).extract 0 12) (⟨#[98]⟩ : ByteArray) bt142.1).bind fun bt146 => ((poly_Mac.f (⟨#[107]⟩ : ByteArray) (⟨#[]⟩ : ByteArray)).bind fun bt148 => (if 0 ≤ 16 then (if 16 ≤ ((strOfNums y137).size : Int) then (if bt140.1.toList = ((strOfNums y137).extract 0 16).toList then ((halberdlaw0_Num.f bt140.2).bind fun t150 => (if t150 = 0 then (if (bt142.1.size : Int) = 21 then ((halberdlaw0_Num.f bt142.2).bind fun t151 => (if t151 = 0 then (if bt144.1.toList = ([104, 101, 108, 108, 111] : List UInt8) then ((halberdlaw0_Num.f bt144.2).bind fun t152 => (if t152 = 0 then ((halberdlaw0_Num.f bt146.2).bind fun t153 => (if t153 = 700 then ((halberdlaw0_Num.f bt148.2).bind fun t154 => (some (t154 == 700))) else (some false))) else (some false))) else (some false)) else (some false))) else (some false)) else (some false))) else (some false)) else (none)) else (none)))))) else (none)) else (none)))) else (none)
set_option maxHeartbeats 8000000 in
set_option maxRecDepth 100000 in
theorem halberdlaw7_awake0.calls  (r : Bool) (w : World) (h : halberdlaw7_awake0.f  = some r) (hr : Aside0 (r = true)) :
    Calls Try.prog 24 #[] w fun e w' => e = .returned (.bool r) ∧ Below w.heap.size w w' := by
  have HB := Aside0.mk (Below.refl w.heap.size w)
  have H : (if 32 ≤ 281474976710656 then ((some (List.replicate 32 0 : List Int)).bind fun y137 => ((poly_Mac.f (strOfNums y137) (⟨#[97, 98, 99]⟩ : ByteArray)).bind fun bt140 => (if 0 ≤ 12 then (if 12 ≤ ((strOfNums y137).size : Int) then ((poly_Seal.f (strOfNums y137) ((strOfNums y137).extract 0 12) (⟨#[97]⟩ : ByteArray) (⟨#[104, 101, 108, 108, 111]⟩ : ByteArray)).bind fun bt142 => ((poly_Open.f (strOfNums y137) ((strOfNums y137).extract 0 12) (⟨#[97]⟩ : ByteArray) bt142.1).bind fun bt144 => ((poly_Open.f (strOfNums y137) ((strOfNums y137).extract 0 12) (⟨#[98]⟩ : ByteArray) bt142.1).bind fun bt146 => ((poly_Mac.f (⟨#[107]⟩ : ByteArray) (⟨#[]⟩ : ByteArray)).bind fun bt148 => (if 0 ≤ 16 then (if 16 ≤ ((strOfNums y137).size : Int) then (if bt140.1.toList = ((strOfNums y137).extract 0 16).toList then ((halberdlaw0_Num.f bt140.2).bind fun t150 => (if t150 = 0 then (if (bt142.1.size : Int) = 21 then ((halberdlaw0_Num.f bt142.2).bind fun t151 => (if t151 = 0 then (if bt144.1.toList = ([104, 101, 108, 108, 111] : List UInt8) then ((halberdlaw0_Num.f bt144.2).bind fun t152 => (if t152 = 0 then ((halberdlaw0_Num.f bt146.2).bind fun t153 => (if t153 = 700 then ((halberdlaw0_Num.f bt148.2).bind fun t154 => (some (t154 == 700))) else (some false))) else (some false))) else (some false)) else (some false))) else (some false)) else (some false))) else (some false)) else (none)) else (none)))))) else (none)) else (none)))) else (none)) = some r := h
  clear h
  by_cases c1 : 32 ≤ 281474976710656
  · rw [if_pos c1] at H
    have c1b0 := eq_true c1
    have c1b1 : decide (32 ≤ 281474976710656) = true := decide_eq_true c1
    clear c1
    obtain ⟨y137, hy137⟩ : ∃ y_ : List Int, y_ = (List.replicate 32 0) := ⟨_, rfl⟩
    replace H : ((poly_Mac.f (strOfNums y137) (⟨#[97, 98, 99]⟩ : ByteArray)).bind fun bt140 => (if 0 ≤ 12 then (if 12 ≤ ((strOfNums y137).size : Int) then ((poly_Seal.f (strOfNums y137) ((strOfNums y137).extract 0 12) (⟨#[97]⟩ : ByteArray) (⟨#[104, 101, 108, 108, 111]⟩ : ByteArray)).bind fun bt142 => ((poly_Open.f (strOfNums y137) ((strOfNums y137).extract 0 12) (⟨#[97]⟩ : ByteArray) bt142.1).bind fun bt144 => ((poly_Open.f (strOfNums y137) ((strOfNums y137).extract 0 12) (⟨#[98]⟩ : ByteArray) bt142.1).bind fun bt146 => ((poly_Mac.f (⟨#[107]⟩ : ByteArray) (⟨#[]⟩ : ByteArray)).bind fun bt148 => (if 0 ≤ 16 then (if 16 ≤ ((strOfNums y137).size : Int) then (if bt140.1.toList = ((strOfNums y137).extract 0 16).toList then ((halberdlaw0_Num.f bt140.2).bind fun t150 => (if t150 = 0 then (if (bt142.1.size : Int) = 21 then ((halberdlaw0_Num.f bt142.2).bind fun t151 => (if t151 = 0 then (if bt144.1.toList = ([104, 101, 108, 108, 111] : List UInt8) then ((halberdlaw0_Num.f bt144.2).bind fun t152 => (if t152 = 0 then ((halberdlaw0_Num.f bt146.2).bind fun t153 => (if t153 = 700 then ((halberdlaw0_Num.f bt148.2).bind fun t154 => (some (t154 == 700))) else (some false))) else (some false))) else (some false)) else (some false))) else (some false)) else (some false))) else (some false)) else (none)) else (none)))))) else (none)) else (none))) = some r := by first | (rw [hy137]; with_reducible exact H) | (have H2_ := (Option.bind_some _ _).symm.trans H; rw [hy137]; with_reducible exact H2_) | (have H2_ := (Option.bind_some _ _).symm.trans H; with_reducible exact H2_) | with_reducible exact H | (rw [hy137]; exact H) | exact H
    have Ny137 := Aside0.mk hy137
    clear hy137
    replace H := Option.bind_eq_some_iff.mp H
    obtain ⟨⟨t140, t141⟩, A20, H⟩ := H
    replace H : (if 0 ≤ 12 then (if 12 ≤ ((strOfNums y137).size : Int) then ((poly_Seal.f (strOfNums y137) ((strOfNums y137).extract 0 12) (⟨#[97]⟩ : ByteArray) (⟨#[104, 101, 108, 108, 111]⟩ : ByteArray)).bind fun bt142 => ((poly_Open.f (strOfNums y137) ((strOfNums y137).extract 0 12) (⟨#[97]⟩ : ByteArray) bt142.1).bind fun bt144 => ((poly_Open.f (strOfNums y137) ((strOfNums y137).extract 0 12) (⟨#[98]⟩ : ByteArray) bt142.1).bind fun bt146 => ((poly_Mac.f (⟨#[107]⟩ : ByteArray) (⟨#[]⟩ : ByteArray)).bind fun bt148 => (if 0 ≤ 16 then (if 16 ≤ ((strOfNums y137).size : Int) then (if t140.toList = ((strOfNums y137).extract 0 16).toList then ((halberdlaw0_Num.f t141).bind fun t150 => (if t150 = 0 then (if (bt142.1.size : Int) = 21 then ((halberdlaw0_Num.f bt142.2).bind fun t151 => (if t151 = 0 then (if bt144.1.toList = ([104, 101, 108, 108, 111] : List UInt8) then ((halberdlaw0_Num.f bt144.2).bind fun t152 => (if t152 = 0 then ((halberdlaw0_Num.f bt146.2).bind fun t153 => (if t153 = 700 then ((halberdlaw0_Num.f bt148.2).bind fun t154 => (some (t154 == 700))) else (some false))) else (some false))) else (some false)) else (some false))) else (some false)) else (some false))) else (some false)) else (none)) else (none)))))) else (none)) else (none)) = some r := H
    have A2 := Aside0.mk A20
    clear A20
    by_cases c3 : 0 ≤ 12
    · rw [if_pos c3] at H
      have c3b0 := eq_true c3
      have c3b1 : decide (0 ≤ 12) = true := decide_eq_true c3
      clear c3
      by_cases c4 : 12 ≤ ((strOfNums y137).size : Int)
      · rw [if_pos c4] at H
        have c4b0 := eq_true c4
        have c4b1 : decide (12 ≤ ((strOfNums y137).size : Int)) = true := decide_eq_true c4
        clear c4
        replace H := Option.bind_eq_some_iff.mp H
        obtain ⟨⟨t142, t143⟩, A50, H⟩ := H
        replace H : ((poly_Open.f (strOfNums y137) ((strOfNums y137).extract 0 12) (⟨#[97]⟩ : ByteArray) t142).bind fun bt144 => ((poly_Open.f (strOfNums y137) ((strOfNums y137).extract 0 12) (⟨#[98]⟩ : ByteArray) t142).bind fun bt146 => ((poly_Mac.f (⟨#[107]⟩ : ByteArray) (⟨#[]⟩ : ByteArray)).bind fun bt148 => (if 0 ≤ 16 then (if 16 ≤ ((strOfNums y137).size : Int) then (if t140.toList = ((strOfNums y137).extract 0 16).toList then ((halberdlaw0_Num.f t141).bind fun t150 => (if t150 = 0 then (if (t142.size : Int) = 21 then ((halberdlaw0_Num.f t143).bind fun t151 => (if t151 = 0 then (if bt144.1.toList = ([104, 101, 108, 108, 111] : List UInt8) then ((halberdlaw0_Num.f bt144.2).bind fun t152 => (if t152 = 0 then ((halberdlaw0_Num.f bt146.2).bind fun t153 => (if t153 = 700 then ((halberdlaw0_Num.f bt148.2).bind fun t154 => (some (t154 == 700))) else (some false))) else (some false))) else (some false)) else (some false))) else (some false)) else (some false))) else (some false)) else (none)) else (none))))) = some r := H
        have A5 := Aside0.mk A50
        clear A50
        have c6b0 := eq_true (of_decide_eq_true (by first | (with_reducible assumption) | assumption) : 0 ≤ 12)
        have c7b0 := eq_true (of_decide_eq_true (by first | (with_reducible assumption) | assumption) : 12 ≤ ((strOfNums y137).size : Int))
        replace H := Option.bind_eq_some_iff.mp H
        obtain ⟨⟨t144, t145⟩, A80, H⟩ := H
        replace H : ((poly_Open.f (strOfNums y137) ((strOfNums y137).extract 0 12) (⟨#[98]⟩ : ByteArray) t142).bind fun bt146 => ((poly_Mac.f (⟨#[107]⟩ : ByteArray) (⟨#[]⟩ : ByteArray)).bind fun bt148 => (if 0 ≤ 16 then (if 16 ≤ ((strOfNums y137).size : Int) then (if t140.toList = ((strOfNums y137).extract 0 16).toList then ((halberdlaw0_Num.f t141).bind fun t150 => (if t150 = 0 then (if (t142.size : Int) = 21 then ((halberdlaw0_Num.f t143).bind fun t151 => (if t151 = 0 then (if t144.toList = ([104, 101, 108, 108, 111] : List UInt8) then ((halberdlaw0_Num.f t145).bind fun t152 => (if t152 = 0 then ((halberdlaw0_Num.f bt146.2).bind fun t153 => (if t153 = 700 then ((halberdlaw0_Num.f bt148.2).bind fun t154 => (some (t154 == 700))) else (some false))) else (some false))) else (some false)) else (some false))) else (some false)) else (some false))) else (some false)) else (none)) else (none)))) = some r := H
        have A8 := Aside0.mk A80
        clear A80
        have c9b0 := eq_true (of_decide_eq_true (by first | (with_reducible assumption) | assumption) : 0 ≤ 12)
        have c10b0 := eq_true (of_decide_eq_true (by first | (with_reducible assumption) | assumption) : 12 ≤ ((strOfNums y137).size : Int))
        replace H := Option.bind_eq_some_iff.mp H
        obtain ⟨⟨t146, t147⟩, A110, H⟩ := H
        replace H : ((poly_Mac.f (⟨#[107]⟩ : ByteArray) (⟨#[]⟩ : ByteArray)).bind fun bt148 => (if 0 ≤ 16 then (if 16 ≤ ((strOfNums y137).size : Int) then (if t140.toList = ((strOfNums y137).extract 0 16).toList then ((halberdlaw0_Num.f t141).bind fun t150 => (if t150 = 0 then (if (t142.size : Int) = 21 then ((halberdlaw0_Num.f t143).bind fun t151 => (if t151 = 0 then (if t144.toList = ([104, 101, 108, 108, 111] : List UInt8) then ((halberdlaw0_Num.f t145).bind fun t152 => (if t152 = 0 then ((halberdlaw0_Num.f t147).bind fun t153 => (if t153 = 700 then ((halberdlaw0_Num.f bt148.2).bind fun t154 => (some (t154 == 700))) else (some false))) else (some false))) else (some false)) else (some false))) else (some false)) else (some false))) else (some false)) else (none)) else (none))) = some r := H
        have A11 := Aside0.mk A110
        clear A110
        replace H := Option.bind_eq_some_iff.mp H
        obtain ⟨⟨t148, t149⟩, A120, H⟩ := H
        replace H : (if 0 ≤ 16 then (if 16 ≤ ((strOfNums y137).size : Int) then (if t140.toList = ((strOfNums y137).extract 0 16).toList then ((halberdlaw0_Num.f t141).bind fun t150 => (if t150 = 0 then (if (t142.size : Int) = 21 then ((halberdlaw0_Num.f t143).bind fun t151 => (if t151 = 0 then (if t144.toList = ([104, 101, 108, 108, 111] : List UInt8) then ((halberdlaw0_Num.f t145).bind fun t152 => (if t152 = 0 then ((halberdlaw0_Num.f t147).bind fun t153 => (if t153 = 700 then ((halberdlaw0_Num.f t149).bind fun t154 => (some (t154 == 700))) else (some false))) else (some false))) else (some false)) else (some false))) else (some false)) else (some false))) else (some false)) else (none)) else (none)) = some r := H
        have A12 := Aside0.mk A120
        clear A120
        by_cases c13 : 0 ≤ 16
        · rw [if_pos c13] at H
          have c13b0 := eq_true c13
          have c13b1 : decide (0 ≤ 16) = true := decide_eq_true c13
          clear c13
          by_cases c14 : 16 ≤ ((strOfNums y137).size : Int)
          · rw [if_pos c14] at H
            have c14b0 := eq_true c14
            have c14b1 : decide (16 ≤ ((strOfNums y137).size : Int)) = true := decide_eq_true c14
            clear c14
            by_cases c15 : t140.toList = ((strOfNums y137).extract 0 16).toList
            · rw [if_pos c15] at H
              have c15b0 : (t140.toList == ((strOfNums y137).extract 0 16).toList) = true := beq_iff_eq.mpr c15
              have c15b1 : (t140.toList != ((strOfNums y137).extract 0 16).toList) = false := bne_eq_false_iff_eq.mpr c15
              clear c15
              replace H := Option.bind_eq_some_iff.mp H
              obtain ⟨t150, A160, H⟩ := H
              replace H : (if t150 = 0 then (if (t142.size : Int) = 21 then ((halberdlaw0_Num.f t143).bind fun t151 => (if t151 = 0 then (if t144.toList = ([104, 101, 108, 108, 111] : List UInt8) then ((halberdlaw0_Num.f t145).bind fun t152 => (if t152 = 0 then ((halberdlaw0_Num.f t147).bind fun t153 => (if t153 = 700 then ((halberdlaw0_Num.f t149).bind fun t154 => (some (t154 == 700))) else (some false))) else (some false))) else (some false)) else (some false))) else (some false)) else (some false)) = some r := H
              have A16 := Aside0.mk A160
              clear A160
              by_cases c17 : t150 = 0
              · rw [if_pos c17] at H
                have c17b0 : (t150 == 0) = true := beq_iff_eq.mpr c17
                have c17b1 : (t150 != 0) = false := bne_eq_false_iff_eq.mpr c17
                clear c17
                by_cases c18 : (t142.size : Int) = 21
                · rw [if_pos c18] at H
                  have c18b0 : ((t142.size : Int) == 21) = true := beq_iff_eq.mpr c18
                  have c18b1 : ((t142.size : Int) != 21) = false := bne_eq_false_iff_eq.mpr c18
                  clear c18
                  replace H := Option.bind_eq_some_iff.mp H
                  obtain ⟨t151, A190, H⟩ := H
                  replace H : (if t151 = 0 then (if t144.toList = ([104, 101, 108, 108, 111] : List UInt8) then ((halberdlaw0_Num.f t145).bind fun t152 => (if t152 = 0 then ((halberdlaw0_Num.f t147).bind fun t153 => (if t153 = 700 then ((halberdlaw0_Num.f t149).bind fun t154 => (some (t154 == 700))) else (some false))) else (some false))) else (some false)) else (some false)) = some r := H
                  have A19 := Aside0.mk A190
                  clear A190
                  by_cases c20 : t151 = 0
                  · rw [if_pos c20] at H
                    have c20b0 : (t151 == 0) = true := beq_iff_eq.mpr c20
                    have c20b1 : (t151 != 0) = false := bne_eq_false_iff_eq.mpr c20
                    clear c20
                    by_cases c21 : t144.toList = ([104, 101, 108, 108, 111] : List UInt8)
                    · rw [if_pos c21] at H
                      have c21b0 : (t144.toList == ([104, 101, 108, 108, 111] : List UInt8)) = true := beq_iff_eq.mpr c21
                      have c21b1 : (t144.toList != ([104, 101, 108, 108, 111] : List UInt8)) = false := bne_eq_false_iff_eq.mpr c21
                      clear c21
                      replace H := Option.bind_eq_some_iff.mp H
                      obtain ⟨t152, A220, H⟩ := H
                      replace H : (if t152 = 0 then ((halberdlaw0_Num.f t147).bind fun t153 => (if t153 = 700 then ((halberdlaw0_Num.f t149).bind fun t154 => (some (t154 == 700))) else (some false))) else (some false)) = some r := H
                      have A22 := Aside0.mk A220
                      clear A220
                      by_cases c23 : t152 = 0
                      · rw [if_pos c23] at H
                        have c23b0 : (t152 == 0) = true := beq_iff_eq.mpr c23
                        have c23b1 : (t152 != 0) = false := bne_eq_false_iff_eq.mpr c23
                        clear c23
                        replace H := Option.bind_eq_some_iff.mp H
                        obtain ⟨t153, A240, H⟩ := H
                        replace H : (if t153 = 700 then ((halberdlaw0_Num.f t149).bind fun t154 => (some (t154 == 700))) else (some false)) = some r := H
                        have A24 := Aside0.mk A240
                        clear A240
                        by_cases c25 : t153 = 700
                        · rw [if_pos c25] at H
                          have c25b0 : (t153 == 700) = true := beq_iff_eq.mpr c25
                          have c25b1 : (t153 != 700) = false := bne_eq_false_iff_eq.mpr c25
                          clear c25
                          replace H := Option.bind_eq_some_iff.mp H
                          obtain ⟨t154, A260, H⟩ := H
                          replace H : (some (t154 == 700)) = some r := H
                          have A26 := Aside0.mk A260
                          clear A260
                          obtain rfl := Option.some.inj H
                          go_enter Try.func24, Try.ntmps24
                          go_wp2_with (first | ((with_reducible refine gate_dst (N := 12) rfl ?_); (try (refine gate_guard (by rfl) ?_; dsimp only)); refine Kd.R_make (Kd.int .u8) _ 5 rfl (N := 12) rfl 32 _ _ rfl 32 rfl rfl Try.underlying32 (.int .u8 0) 1 info5 rfl (by decide) (by omega) 0 (ok := fun _ => True) (okp := fun _ => True) rfl (fun _ hk => hk) trivial (by omega) (by omega) (Below.refl _ _) (Nat.le_refl _) ?_; intro v138 w27 ho28 hb hg_ hnew_; clear hg_ hnew_; (first | rw [← Ny137.out] at ho28 | (simp only [Int.reduceToNat] at ho28; rw [← Ny137.out] at ho28)); have n0_ := Aside0.mk (Kd.R_lower ho28 (below_size (by repeat (first | (with_reducible first | exact HB.out | apply below_alloc | apply pw_below_drewN | apply below_drew1) | exact HB.out)))); have n1_ := Aside0.mk (below_step (by repeat (first | (with_reducible first | exact HB.out | apply below_alloc | apply pw_below_drewN | apply below_drew1) | exact HB.out)) hb); clear HB; have HO139 := n0_; have HB := n1_; clear n0_ n1_; clear hb ho28; have hcv29 := own_string (P := Try.prog) Try.underlying32 Try.underlying5 Try.underlying9 (Kd.own_of_R HO139.out)) | ((with_reducible refine gate_callee (f := 18) rfl ?_); refine goesL_ (some 16) rfl rfl Try.func18 (by kernel_rfl) rfl #[.string (strOfNums y137), .string (⟨#[97, 98, 99]⟩ : ByteArray)] rfl (by (try simp only [List.map_toArray, List.map_cons, List.map_nil]); first | done | rfl | (simp only [List.length_drop, List.length_take]; rfl)) ?_; (with_reducible refine (poly_Mac.calls (strOfNums y137) (⟨#[97, 98, 99]⟩ : ByteArray) t140 t141 _ A2.out).mono ?_); rintro e w30 ⟨rfl, hb⟩; refine ⟨_, rfl, ?_⟩; have n0_ := Aside0.mk (Kd.R_below (by (with_reducible repeat (first | apply Kd.R_alloc | apply Kd.R_drewN | apply Kd.R_drew)); exact HO139.out) hb); have n1_ := Aside0.mk (below_step (by repeat (first | (with_reducible first | exact HB.out | apply below_alloc | apply pw_below_drewN | apply below_drew1) | exact HB.out)) hb); clear HO139; clear HB; have HO139 := n0_; have HB := n1_; clear n0_ n1_; (try clear hb); (try clear hb2); (try clear hk); (try clear hi)) | ((with_reducible refine gate_callee (f := 20) rfl ?_); refine goesL_ (some 23) rfl rfl Try.func20 (by kernel_rfl) rfl #[.string (strOfNums y137), .string ((strOfNums y137).extract 0 12), .string (⟨#[97]⟩ : ByteArray), .string (⟨#[104, 101, 108, 108, 111]⟩ : ByteArray)] rfl (by (try simp only [List.map_toArray, List.map_cons, List.map_nil]); first | done | rfl | (simp only [List.length_drop, List.length_take]; rfl)) ?_; (with_reducible refine (poly_Seal.calls (strOfNums y137) ((strOfNums y137).extract 0 12) (⟨#[97]⟩ : ByteArray) (⟨#[104, 101, 108, 108, 111]⟩ : ByteArray) t142 t143 _ A5.out).mono ?_); rintro e w31 ⟨rfl, hb⟩; refine ⟨_, rfl, ?_⟩; have n0_ := Aside0.mk (Kd.R_below (by (with_reducible repeat (first | apply Kd.R_alloc | apply Kd.R_drewN | apply Kd.R_drew)); exact HO139.out) hb); have n1_ := Aside0.mk (below_step (by repeat (first | (with_reducible first | exact HB.out | apply below_alloc | apply pw_below_drewN | apply below_drew1) | exact HB.out)) hb); clear HO139; clear HB; have HO139 := n0_; have HB := n1_; clear n0_ n1_; (try clear hb); (try clear hb2); (try clear hk); (try clear hi)) | ((with_reducible refine gate_callee (f := 22) rfl ?_); refine goesL_ (some 31) rfl rfl Try.func22 (by kernel_rfl) rfl #[.string (strOfNums y137), .string ((strOfNums y137).extract 0 12), .string (⟨#[97]⟩ : ByteArray), .string t142] rfl (by (try simp only [List.map_toArray, List.map_cons, List.map_nil]); first | done | rfl | (simp only [List.length_drop, List.length_take]; rfl)) ?_; (with_reducible refine (poly_Open.calls (strOfNums y137) ((strOfNums y137).extract 0 12) (⟨#[97]⟩ : ByteArray) t142 t144 t145 _ A8.out).mono ?_); rintro e w32 ⟨rfl, hb⟩; refine ⟨_, rfl, ?_⟩; have n0_ := Aside0.mk (Kd.R_below (by (with_reducible repeat (first | apply Kd.R_alloc | apply Kd.R_drewN | apply Kd.R_drew)); exact HO139.out) hb); have n1_ := Aside0.mk (below_step (by repeat (first | (with_reducible first | exact HB.out | apply below_alloc | apply pw_below_drewN | apply below_drew1) | exact HB.out)) hb); clear HO139; clear HB; have HO139 := n0_; have HB := n1_; clear n0_ n1_; (try clear hb); (try clear hb2); (try clear hk); (try clear hi)) | ((with_reducible refine gate_callee (f := 22) rfl ?_); refine goesL_ (some 39) rfl rfl Try.func22 (by kernel_rfl) rfl #[.string (strOfNums y137), .string ((strOfNums y137).extract 0 12), .string (⟨#[98]⟩ : ByteArray), .string t142] rfl (by (try simp only [List.map_toArray, List.map_cons, List.map_nil]); first | done | rfl | (simp only [List.length_drop, List.length_take]; rfl)) ?_; (with_reducible refine (poly_Open.calls (strOfNums y137) ((strOfNums y137).extract 0 12) (⟨#[98]⟩ : ByteArray) t142 t146 t147 _ A11.out).mono ?_); rintro e w33 ⟨rfl, hb⟩; refine ⟨_, rfl, ?_⟩; have n0_ := Aside0.mk (Kd.R_below (by (with_reducible repeat (first | apply Kd.R_alloc | apply Kd.R_drewN | apply Kd.R_drew)); exact HO139.out) hb); have n1_ := Aside0.mk (below_step (by repeat (first | (with_reducible first | exact HB.out | apply below_alloc | apply pw_below_drewN | apply below_drew1) | exact HB.out)) hb); clear HO139; clear HB; have HO139 := n0_; have HB := n1_; clear n0_ n1_; (try clear hb); (try clear hb2); (try clear hk); (try clear hi)) | ((with_reducible refine gate_callee (f := 18) rfl ?_); refine goesL_ (some 43) rfl rfl Try.func18 (by kernel_rfl) rfl #[.string (⟨#[107]⟩ : ByteArray), .string (⟨#[]⟩ : ByteArray)] rfl (by (try simp only [List.map_toArray, List.map_cons, List.map_nil]); first | done | rfl | (simp only [List.length_drop, List.length_take]; rfl)) ?_; (with_reducible refine (poly_Mac.calls (⟨#[107]⟩ : ByteArray) (⟨#[]⟩ : ByteArray) t148 t149 _ A12.out).mono ?_); rintro e w34 ⟨rfl, hb⟩; refine ⟨_, rfl, ?_⟩; have n0_ := Aside0.mk (Kd.R_below (by (with_reducible repeat (first | apply Kd.R_alloc | apply Kd.R_drewN | apply Kd.R_drew)); exact HO139.out) hb); have n1_ := Aside0.mk (below_step (by repeat (first | (with_reducible first | exact HB.out | apply below_alloc | apply pw_below_drewN | apply below_drew1) | exact HB.out)) hb); clear HO139; clear HB; have HO139 := n0_; have HB := n1_; clear n0_ n1_; (try clear hb); (try clear hb2); (try clear hk); (try clear hi)) | (go_at_call 16; (with_reducible refine (halberdlaw0_Num.calls t141 t150 _ A16.out).mono ?_); rintro e w' ⟨rfl, ⟨nd, rfl⟩⟩) | (go_at_call 16; (with_reducible refine (halberdlaw0_Num.calls t143 t151 _ A19.out).mono ?_); rintro e w' ⟨rfl, ⟨nd, rfl⟩⟩) | (go_at_call 16; (with_reducible refine (halberdlaw0_Num.calls t145 t152 _ A22.out).mono ?_); rintro e w' ⟨rfl, ⟨nd, rfl⟩⟩) | (go_at_call 16; (with_reducible refine (halberdlaw0_Num.calls t147 t153 _ A24.out).mono ?_); rintro e w' ⟨rfl, ⟨nd, rfl⟩⟩) | (go_at_call 16; (with_reducible refine (halberdlaw0_Num.calls t149 t154 _ A26.out).mono ?_); rintro e w' ⟨rfl, ⟨nd, rfl⟩⟩))
                          go_ret
                          exact ⟨by first | rfl | (simp [errW_none, errW_some] <;> rfl) | (simp [*, errW_none, errW_some] <;> rfl), by repeat (first | (with_reducible first | exact HB.out | apply below_alloc | apply pw_below_drewN | apply below_drew1) | exact HB.out)⟩
                        · rw [if_neg c25] at H
                          have c25b0 : (t153 == 700) = false := beq_eq_false_iff_ne.mpr c25
                          have c25b1 : (t153 != 700) = true := bne_iff_ne.mpr c25
                          exact absurd ((Option.some.inj H).trans hr.out) (by decide)
                      · rw [if_neg c23] at H
                        have c23b0 : (t152 == 0) = false := beq_eq_false_iff_ne.mpr c23
                        have c23b1 : (t152 != 0) = true := bne_iff_ne.mpr c23
                        exact absurd ((Option.some.inj H).trans hr.out) (by decide)
                    · rw [if_neg c21] at H
                      have c21b0 : (t144.toList == ([104, 101, 108, 108, 111] : List UInt8)) = false := beq_eq_false_iff_ne.mpr c21
                      have c21b1 : (t144.toList != ([104, 101, 108, 108, 111] : List UInt8)) = true := bne_iff_ne.mpr c21
                      exact absurd ((Option.some.inj H).trans hr.out) (by decide)
                  · rw [if_neg c20] at H
                    have c20b0 : (t151 == 0) = false := beq_eq_false_iff_ne.mpr c20
                    have c20b1 : (t151 != 0) = true := bne_iff_ne.mpr c20
                    exact absurd ((Option.some.inj H).trans hr.out) (by decide)
                · rw [if_neg c18] at H
                  have c18b0 : ((t142.size : Int) == 21) = false := beq_eq_false_iff_ne.mpr c18
                  have c18b1 : ((t142.size : Int) != 21) = true := bne_iff_ne.mpr c18
                  exact absurd ((Option.some.inj H).trans hr.out) (by decide)
              · rw [if_neg c17] at H
                have c17b0 : (t150 == 0) = false := beq_eq_false_iff_ne.mpr c17
                have c17b1 : (t150 != 0) = true := bne_iff_ne.mpr c17
                exact absurd ((Option.some.inj H).trans hr.out) (by decide)
            · rw [if_neg c15] at H
              have c15b0 : (t140.toList == ((strOfNums y137).extract 0 16).toList) = false := beq_eq_false_iff_ne.mpr c15
              have c15b1 : (t140.toList != ((strOfNums y137).extract 0 16).toList) = true := bne_iff_ne.mpr c15
              exact absurd ((Option.some.inj H).trans hr.out) (by decide)
          · rw [if_neg c14] at H
            exact absurd H (by simp)
        · rw [if_neg c13] at H
          exact absurd H (by simp)
      · rw [if_neg c4] at H
        exact absurd H (by simp)
    · rw [if_neg c3] at H
      exact absurd H (by simp)
  · rw [if_neg c1] at H
    exact absurd H (by simp)

/-! ### halberdlaw7_awake: function 24, closed -/
def halberdlaw7_awake.f : Option (Bool) := some true
theorem halberdlaw7_awake.knows : halberdlaw7_awake0.f = some true := by decide +kernel
theorem halberdlaw7_awake.calls (r : Bool) (w : World) (h : halberdlaw7_awake.f = some r) : Calls Try.prog 24 #[] w fun e w' => e = .returned (.bool r) ∧ Below w.heap.size w w' := by
  obtain rfl := Option.some.inj h
  exact halberdlaw7_awake0.calls  true w halberdlaw7_awake.knows ⟨rfl⟩

end Go.Proofs.Ytocckplgjbhlbaa.T
