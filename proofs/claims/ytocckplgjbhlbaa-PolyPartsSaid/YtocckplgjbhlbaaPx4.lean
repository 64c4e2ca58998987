-- Written by a program of this session (wip/tools/xprint.py), over the kit's printer.
import Derived.Test.YtocckplgjbhlbaaPx0
import Derived.Test.YtocckplgjbhlbaaPx1
import Derived.Test.YtocckplgjbhlbaaPx2
namespace Go.Proofs.Ytocckplgjbhlbaa.P
open Go.RowKit Go.Proofs.YtocckplgjbhlbaaW.PrintWords Go.Proofs.YtocckplgjbhlbaaW.PrintLast Go.Proofs.YtocckplgjbhlbaaW.PrintMore
attribute [local go_sem] max2_int min2_int max_two min_two max_three min_three max_four min_four   -- for this text's walks alone
set_option linter.unusedVariables false
set_option linter.unusedSimpArgs false

/-! ### halberdlaw7_PolyKnown: function 10 -/
def halberdlaw7_PolyKnown.f (a0 : Int) : Option (Bool) := (halberdlaw7_awake.f).bind fun t181 => (if t181 = true then ((poly_Mac.f (⟨#[133, 214, 190, 120, 87, 85, 109, 51, 127, 68, 82, 254, 66, 213, 6, 168, 1, 3, 128, 138, 251, 13, 178, 253, 74, 191, 246, 175, 65, 73, 245, 27]⟩ : ByteArray) (⟨#[67, 114, 121, 112, 116, 111, 103, 114, 97, 112, 104, 105, 99, 32, 70, 111, 114, 117, 109, 32, 82, 101, 115, 101, 97, 114, 99, 104, 32, 71, 114, 111, 117, 112]⟩ : ByteArray)).bind fun bt182 => (if 0 ≤ (Go.bits .and .i64 a0 63) then (if (Go.bits .and .i64 a0 63 : Int).toNat ≤ 281474976710656 then ((poly_Mac.f (strOfNums (List.replicate (Go.bits .and .i64 a0 63 : Int).toNat 0)) (⟨#[97, 98, 99]⟩ : ByteArray)).bind fun bt187 => (if bt182.1.toList = ([168, 6, 29, 193, 48, 81, 54, 198, 194, 43, 139, 175, 12, 1, 39, 169] : List UInt8) then ((halberdlaw0_Num.f bt182.2).bind fun t189 => (if t189 = 0 then ((halberdlaw0_Num.f bt187.2).bind fun t190 => (if t190 = 0 then (if (Go.bits .and .i64 a0 63) = 32 then (if 16 ≤ 281474976710656 then (some (bt187.1.toList == (strOfNums (List.replicate 16 0)).toList)) else (none)) else (some false)) else (if (Go.bits .and .i64 a0 63) = 32 then (some false) else (some true)))) else (some false))) else (some false))) else (none)) else (none))) else (some false))
set_option maxHeartbeats 8000000 in
set_option maxRecDepth 100000 in
theorem halberdlaw7_PolyKnown.calls (a0 : Int) (r : Bool) (w : World) (h : halberdlaw7_PolyKnown.f a0 = some r) (hr : Aside0 (r = true)) :
    Calls Try.prog 10 #[.int .i64 a0] w fun e w' => e = .returned (.bool r) ∧ Below w.heap.size w w' := by
  have HB := Aside0.mk (Below.refl w.heap.size w)
  have H : ((halberdlaw7_awake.f).bind fun t181 => (if t181 = true then ((poly_Mac.f (⟨#[133, 214, 190, 120, 87, 85, 109, 51, 127, 68, 82, 254, 66, 213, 6, 168, 1, 3, 128, 138, 251, 13, 178, 253, 74, 191, 246, 175, 65, 73, 245, 27]⟩ : ByteArray) (⟨#[67, 114, 121, 112, 116, 111, 103, 114, 97, 112, 104, 105, 99, 32, 70, 111, 114, 117, 109, 32, 82, 101, 115, 101, 97, 114, 99, 104, 32, 71, 114, 111, 117, 112]⟩ : ByteArray)).bind fun bt182 => (if 0 ≤ (Go.bits .and .i64 a0 63) then (if (Go.bits .and .i64 a0 63 : Int).toNat ≤ 281474976710656 then ((poly_Mac.f (strOfNums (List.replicate (Go.bits .and .i64 a0 63 : Int).toNat 0)) (⟨#[97, 98, 99]⟩ : ByteArray)).bind fun bt187 => (if bt182.1.toList = ([168, 6, 29, 193, 48, 81, 54, 198, 194, 43, 139, 175, 12, 1, 39, 169] : List UInt8) then ((halberdlaw0_Num.f bt182.2).bind fun t189 => (if t189 = 0 then ((halberdlaw0_Num.f bt187.2).bind fun t190 => (if t190 = 0 then (if (Go.bits .and .i64 a0 63) = 32 then (if 16 ≤ 281474976710656 then (some (bt187.1.toList == (strOfNums (List.replicate 16 0)).toList)) else (none)) else (some false)) else (if (Go.bits .and .i64 a0 63) = 32 then (some false) else (some true)))) else (some false))) else (some false))) else (none)) else (none))) else (some false))) = some r := h
  clear h
  replace H := Option.bind_eq_some_iff.mp H
  obtain ⟨t181, A20, H⟩ := H
  replace H : (if t181 = true then ((poly_Mac.f (⟨#[133, 214, 190, 120, 87, 85, 109, 51, 127, 68, 82, 254, 66, 213, 6, 168, 1, 3, 128, 138, 251, 13, 178, 253, 74, 191, 246, 175, 65, 73, 245, 27]⟩ : ByteArray) (⟨#[67, 114, 121, 112, 116, 111, 103, 114, 97, 112, 104, 105, 99, 32, 70, 111, 114, 117, 109, 32, 82, 101, 115, 101, 97, 114, 99, 104, 32, 71, 114, 111, 117, 112]⟩ : ByteArray)).bind fun bt182 => (if 0 ≤ (Go.bits .and .i64 a0 63) then (if (Go.bits .and .i64 a0 63 : Int).toNat ≤ 281474976710656 then ((poly_Mac.f (strOfNums (List.replicate (Go.bits .and .i64 a0 63 : Int).toNat 0)) (⟨#[97, 98, 99]⟩ : ByteArray)).bind fun bt187 => (if bt182.1.toList = ([168, 6, 29, 193, 48, 81, 54, 198, 194, 43, 139, 175, 12, 1, 39, 169] : List UInt8) then ((halberdlaw0_Num.f bt182.2).bind fun t189 => (if t189 = 0 then ((halberdlaw0_Num.f bt187.2).bind fun t190 => (if t190 = 0 then (if (Go.bits .and .i64 a0 63) = 32 then (if 16 ≤ 281474976710656 then (some (bt187.1.toList == (strOfNums (List.replicate 16 0)).toList)) else (none)) else (some false)) else (if (Go.bits .and .i64 a0 63) = 32 then (some false) else (some true)))) else (some false))) else (some false))) else (none)) else (none))) else (some false)) = some r := H
  have A2 := Aside0.mk A20
  clear A20
  by_cases c3 : t181 = true
  · subst c3
    have H1 : ((poly_Mac.f (⟨#[133, 214, 190, 120, 87, 85, 109, 51, 127, 68, 82, 254, 66, 213, 6, 168, 1, 3, 128, 138, 251, 13, 178, 253, 74, 191, 246, 175, 65, 73, 245, 27]⟩ : ByteArray) (⟨#[67, 114, 121, 112, 116, 111, 103, 114, 97, 112, 104, 105, 99, 32, 70, 111, 114, 117, 109, 32, 82, 101, 115, 101, 97, 114, 99, 104, 32, 71, 114, 111, 117, 112]⟩ : ByteArray)).bind fun bt182 => (if 0 ≤ (Go.bits .and .i64 a0 63) then (if (Go.bits .and .i64 a0 63 : Int).toNat ≤ 281474976710656 then ((poly_Mac.f (strOfNums (List.replicate (Go.bits .and .i64 a0 63 : Int).toNat 0)) (⟨#[97, 98, 99]⟩ : ByteArray)).bind fun bt187 => (if bt182.1.toList = ([168, 6, 29, 193, 48, 81, 54, 198, 194, 43, 139, 175, 12, 1, 39, 169] : List UInt8) then ((halberdlaw0_Num.f bt182.2).bind fun t189 => (if t189 = 0 then ((halberdlaw0_Num.f bt187.2).bind fun t190 => (if t190 = 0 then (if (Go.bits .and .i64 a0 63) = 32 then (if 16 ≤ 281474976710656 then (some (bt187.1.toList == (strOfNums (List.replicate 16 0)).toList)) else (none)) else (some false)) else (if (Go.bits .and .i64 a0 63) = 32 then (some false) else (some true)))) else (some false))) else (some false))) else (none)) else (none))) = some r := by rw [if_pos rfl] at H; exact H
    clear H
    have H := H1
    clear H1
    replace H := Option.bind_eq_some_iff.mp H
    obtain ⟨⟨t182, t183⟩, A40, H⟩ := H
    replace H : (if 0 ≤ (Go.bits .and .i64 a0 63) then (if (Go.bits .and .i64 a0 63 : Int).toNat ≤ 281474976710656 then ((poly_Mac.f (strOfNums (List.replicate (Go.bits .and .i64 a0 63 : Int).toNat 0)) (⟨#[97, 98, 99]⟩ : ByteArray)).bind fun bt187 => (if t182.toList = ([168, 6, 29, 193, 48, 81, 54, 198, 194, 43, 139, 175, 12, 1, 39, 169] : List UInt8) then ((halberdlaw0_Num.f t183).bind fun t189 => (if t189 = 0 then ((halberdlaw0_Num.f bt187.2).bind fun t190 => (if t190 = 0 then (if (Go.bits .and .i64 a0 63) = 32 then (if 16 ≤ 281474976710656 then (some (bt187.1.toList == (strOfNums (List.replicate 16 0)).toList)) else (none)) else (some false)) else (if (Go.bits .and .i64 a0 63) = 32 then (some false) else (some true)))) else (some false))) else (some false))) else (none)) else (none)) = some r := H
    have A4 := Aside0.mk A40
    clear A40
    by_cases c5 : 0 ≤ (Go.bits .and .i64 a0 63)
    · rw [if_pos c5] at H
      have c5b0 := eq_true c5
      have c5b1 : decide (0 ≤ (Go.bits .and .i64 a0 63)) = true := decide_eq_true c5
      clear c5
      by_cases c6 : (Go.bits .and .i64 a0 63 : Int).toNat ≤ 281474976710656
      · rw [if_pos c6] at H
        have c6b0 := eq_true c6
        have c6b1 : decide ((Go.bits .and .i64 a0 63 : Int).toNat ≤ 281474976710656) = true := decide_eq_true c6
        clear c6
        obtain ⟨y184, hy184⟩ : ∃ y_ : List Int, y_ = (List.replicate (Go.bits .and .i64 a0 63 : Int).toNat 0) := ⟨_, rfl⟩
        replace H : ((poly_Mac.f (strOfNums y184) (⟨#[97, 98, 99]⟩ : ByteArray)).bind fun bt187 => (if t182.toList = ([168, 6, 29, 193, 48, 81, 54, 198, 194, 43, 139, 175, 12, 1, 39, 169] : List UInt8) then ((halberdlaw0_Num.f t183).bind fun t189 => (if t189 = 0 then ((halberdlaw0_Num.f bt187.2).bind fun t190 => (if t190 = 0 then (if (Go.bits .and .i64 a0 63) = 32 then (if 16 ≤ 281474976710656 then (some (bt187.1.toList == (strOfNums (List.replicate 16 0)).toList)) else (none)) else (some false)) else (if (Go.bits .and .i64 a0 63) = 32 then (some false) else (some true)))) else (some false))) else (some false))) = some r := by first | (rw [hy184]; with_reducible exact H) | (have H2_ := (Option.bind_some _ _).symm.trans H; rw [hy184]; with_reducible exact H2_) | (have H2_ := (Option.bind_some _ _).symm.trans H; with_reducible exact H2_) | with_reducible exact H | (rw [hy184]; exact H) | exact H
        have Ny184 := Aside0.mk hy184
        clear hy184
        replace H := Option.bind_eq_some_iff.mp H
        obtain ⟨⟨t187, t188⟩, A70, H⟩ := H
        replace H : (if t182.toList = ([168, 6, 29, 193, 48, 81, 54, 198, 194, 43, 139, 175, 12, 1, 39, 169] : List UInt8) then ((halberdlaw0_Num.f t183).bind fun t189 => (if t189 = 0 then ((halberdlaw0_Num.f t188).bind fun t190 => (if t190 = 0 then (if (Go.bits .and .i64 a0 63) = 32 then (if 16 ≤ 281474976710656 then (some (t187.toList == (strOfNums (List.replicate 16 0)).toList)) else (none)) else (some false)) else (if (Go.bits .and .i64 a0 63) = 32 then (some false) else (some true)))) else (some false))) else (some false)) = some r := H
        have A7 := Aside0.mk A70
        clear A70
        by_cases c8 : t182.toList = ([168, 6, 29, 193, 48, 81, 54, 198, 194, 43, 139, 175, 12, 1, 39, 169] : List UInt8)
        · rw [if_pos c8] at H
          have c8b0 : (t182.toList == ([168, 6, 29, 193, 48, 81, 54, 198, 194, 43, 139, 175, 12, 1, 39, 169] : List UInt8)) = true := beq_iff_eq.mpr c8
          have c8b1 : (t182.toList != ([168, 6, 29, 193, 48, 81, 54, 198, 194, 43, 139, 175, 12, 1, 39, 169] : List UInt8)) = false := bne_eq_false_iff_eq.mpr c8
          clear c8
          replace H := Option.bind_eq_some_iff.mp H
          obtain ⟨t189, A90, H⟩ := H
          replace H : (if t189 = 0 then ((halberdlaw0_Num.f t188).bind fun t190 => (if t190 = 0 then (if (Go.bits .and .i64 a0 63) = 32 then (if 16 ≤ 281474976710656 then (some (t187.toList == (strOfNums (List.replicate 16 0)).toList)) else (none)) else (some false)) else (if (Go.bits .and .i64 a0 63) = 32 then (some false) else (some true)))) else (some false)) = some r := H
          have A9 := Aside0.mk A90
          clear A90
          by_cases c10 : t189 = 0
          · rw [if_pos c10] at H
            have c10b0 : (t189 == 0) = true := beq_iff_eq.mpr c10
            have c10b1 : (t189 != 0) = false := bne_eq_false_iff_eq.mpr c10
            clear c10
            replace H := Option.bind_eq_some_iff.mp H
            obtain ⟨t190, A110, H⟩ := H
            replace H : (if t190 = 0 then (if (Go.bits .and .i64 a0 63) = 32 then (if 16 ≤ 281474976710656 then (some (t187.toList == (strOfNums (List.replicate 16 0)).toList)) else (none)) else (some false)) else (if (Go.bits .and .i64 a0 63) = 32 then (some false) else (some true))) = some r := H
            have A11 := Aside0.mk A110
            clear A110
            by_cases c12 : t190 = 0
            · rw [if_pos c12] at H
              have c12b0 : (t190 == 0) = true := beq_iff_eq.mpr c12
              have c12b1 : (t190 != 0) = false := bne_eq_false_iff_eq.mpr c12
              clear c12
              by_cases c13 : (Go.bits .and .i64 a0 63) = 32
              · rw [if_pos c13] at H
                have c13b0 : ((Go.bits .and .i64 a0 63) == 32) = true := beq_iff_eq.mpr c13
                have c13b1 : ((Go.bits .and .i64 a0 63) != 32) = false := bne_eq_false_iff_eq.mpr c13
                clear c13
                by_cases c14 : 16 ≤ 281474976710656
                · rw [if_pos c14] at H
                  have c14b0 := eq_true c14
                  have c14b1 : decide (16 ≤ 281474976710656) = true := decide_eq_true c14
                  clear c14
                  obtain ⟨y191, hy191⟩ : ∃ y_ : List Int, y_ = (List.replicate 16 0) := ⟨_, rfl⟩
                  replace H : (some (t187.toList == (strOfNums y191).toList)) = some r := by first | (rw [hy191]; with_reducible exact H) | (have H2_ := (Option.bind_some _ _).symm.trans H; rw [hy191]; with_reducible exact H2_) | (have H2_ := (Option.bind_some _ _).symm.trans H; with_reducible exact H2_) | with_reducible exact H | (rw [hy191]; exact H) | exact H
                  have Ny191 := Aside0.mk hy191
                  clear hy191
                  obtain rfl := Option.some.inj H
                  go_enter Try.func10, Try.ntmps10
                  go_wp2_with (first | ((with_reducible refine gate_callee (f := 24) rfl ?_); refine goesL_ (some 8) rfl rfl Try.func24 (by kernel_rfl) rfl #[] rfl (by (try simp only [List.map_toArray, List.map_cons, List.map_nil]); first | done | rfl | (simp only [List.length_drop, List.length_take]; rfl)) ?_; (with_reducible refine (halberdlaw7_awake.calls  true _ A2.out).mono ?_); rintro e w15 ⟨rfl, hb⟩; refine ⟨_, rfl, ?_⟩; have n0_ := Aside0.mk (below_step (by repeat (first | (with_reducible first | exact HB.out | apply below_alloc | apply pw_below_drewN | apply below_drew1) | exact HB.out)) hb); clear HB; have HB := n0_; clear n0_; (try clear hb); (try clear hb2); (try clear hk); (try clear hi)) | ((with_reducible refine gate_callee (f := 18) rfl ?_); refine goesL_ (some 11) rfl rfl Try.func18 (by kernel_rfl) rfl #[.string (⟨#[133, 214, 190, 120, 87, 85, 109, 51, 127, 68, 82, 254, 66, 213, 6, 168, 1, 3, 128, 138, 251, 13, 178, 253, 74, 191, 246, 175, 65, 73, 245, 27]⟩ : ByteArray), .string (⟨#[67, 114, 121, 112, 116, 111, 103, 114, 97, 112, 104, 105, 99, 32, 70, 111, 114, 117, 109, 32, 82, 101, 115, 101, 97, 114, 99, 104, 32, 71, 114, 111, 117, 112]⟩ : ByteArray)] rfl (by (try simp only [List.map_toArray, List.map_cons, List.map_nil]); first | done | rfl | (simp only [List.length_drop, List.length_take]; rfl)) ?_; (with_reducible refine (poly_Mac.calls (⟨#[133, 214, 190, 120, 87, 85, 109, 51, 127, 68, 82, 254, 66, 213, 6, 168, 1, 3, 128, 138, 251, 13, 178, 253, 74, 191, 246, 175, 65, 73, 245, 27]⟩ : ByteArray) (⟨#[67, 114, 121, 112, 116, 111, 103, 114, 97, 112, 104, 105, 99, 32, 70, 111, 114, 117, 109, 32, 82, 101, 115, 101, 97, 114, 99, 104, 32, 71, 114, 111, 117, 112]⟩ : ByteArray) t182 t183 _ A4.out).mono ?_); rintro e w16 ⟨rfl, hb⟩; refine ⟨_, rfl, ?_⟩; have n0_ := Aside0.mk (below_step (by repeat (first | (with_reducible first | exact HB.out | apply below_alloc | apply pw_below_drewN | apply below_drew1) | exact HB.out)) hb); clear HB; have HB := n0_; clear n0_; (try clear hb); (try clear hb2); (try clear hk); (try clear hi)) | ((with_reducible refine gate_dst (N := 18) rfl ?_); (try (refine gate_guard (by rfl) ?_; dsimp only)); refine Kd.R_make (Kd.int .u8) _ 5 rfl (N := 18) rfl 32 _ _ rfl (Go.bits .and .i64 a0 63) rfl rfl Try.underlying32 (.int .u8 0) 1 info5 rfl (by decide) (by omega) 0 (ok := fun _ => True) (okp := fun _ => True) rfl (fun _ hk => hk) trivial (of_decide_eq_true (by first | (with_reducible assumption) | assumption)) (Nat.le_trans (Nat.mul_le_mul_right _ (of_decide_eq_true (by first | (with_reducible assumption) | assumption) : (Go.bits .and .i64 a0 63).toNat ≤ 281474976710656)) (by omega)) (Below.refl _ _) (Nat.le_refl _) ?_; intro v185 w17 ho18 hb hg_ hnew_; clear hg_ hnew_; (first | rw [← Ny184.out] at ho18 | (simp only [Int.reduceToNat] at ho18; rw [← Ny184.out] at ho18)); have n0_ := Aside0.mk (Kd.R_lower ho18 (below_size (by repeat (first | (with_reducible first | exact HB.out | apply below_alloc | apply pw_below_drewN | apply below_drew1) | exact HB.out)))); have n1_ := Aside0.mk (below_step (by repeat (first | (with_reducible first | exact HB.out | apply below_alloc | apply pw_below_drewN | apply below_drew1) | exact HB.out)) hb); clear HB; have HO186 := n0_; have HB := n1_; clear n0_ n1_; clear hb ho18; have hcv19 := own_string (P := Try.prog) Try.underlying32 Try.underlying5 Try.underlying9 (Kd.own_of_R HO186.out)) | ((with_reducible refine gate_callee (f := 18) rfl ?_); refine goesL_ (some 20) rfl rfl Try.func18 (by kernel_rfl) rfl #[.string (strOfNums y184), .string (⟨#[97, 98, 99]⟩ : ByteArray)] rfl (by (try simp only [List.map_toArray, List.map_cons, List.map_nil]); first | done | rfl | (simp only [List.length_drop, List.length_take]; rfl)) ?_; (with_reducible refine (poly_Mac.calls (strOfNums y184) (⟨#[97, 98, 99]⟩ : ByteArray) t187 t188 _ A7.out).mono ?_); rintro e w20 ⟨rfl, hb⟩; refine ⟨_, rfl, ?_⟩; have n0_ := Aside0.mk (Kd.R_below (by (with_reducible repeat (first | apply Kd.R_alloc | apply Kd.R_drewN | apply Kd.R_drew)); exact HO186.out) hb); have n1_ := Aside0.mk (below_step (by repeat (first | (with_reducible first | exact HB.out | apply below_alloc | apply pw_below_drewN | apply below_drew1) | exact HB.out)) hb); clear HO186; clear HB; have HO186 := n0_; have HB := n1_; clear n0_ n1_; (try clear hb); (try clear hb2); (try clear hk); (try clear hi)) | (go_at_call 16; (with_reducible refine (halberdlaw0_Num.calls t183 t189 _ A9.out).mono ?_); rintro e w' ⟨rfl, ⟨nd, rfl⟩⟩) | (go_at_call 16; (with_reducible refine (halberdlaw0_Num.calls t188 t190 _ A11.out).mono ?_); rintro e w' ⟨rfl, ⟨nd, rfl⟩⟩) | ((with_reducible refine gate_dst (N := 43) rfl ?_); (try (refine gate_guard (by rfl) ?_; dsimp only)); refine Kd.R_make (Kd.int .u8) _ 5 rfl (N := 43) rfl 32 _ _ rfl 16 rfl rfl Try.underlying32 (.int .u8 0) 1 info5 rfl (by decide) (by omega) 0 (ok := fun _ => True) (okp := fun _ => True) rfl (fun _ hk => hk) trivial (by omega) (by omega) (Below.refl _ _) (Nat.le_refl _) ?_; intro v192 w21 ho22 hb hg_ hnew_; clear hg_ hnew_; (first | rw [← Ny191.out] at ho22 | (simp only [Int.reduceToNat] at ho22; rw [← Ny191.out] at ho22)); have n0_ := Aside0.mk (Kd.R_elder' (by (with_reducible repeat (first | apply Kd.R_alloc | apply Kd.R_drewN | apply Kd.R_drew)); exact HO186.out) (Kd.R_base ho22) hb); have n1_ := Aside0.mk (Kd.R_lower (Kd.R_new' ho22 (Kd.R_lt (by (with_reducible repeat (first | apply Kd.R_alloc | apply Kd.R_drewN | apply Kd.R_drew)); exact HO186.out))) (below_size (by repeat (first | (with_reducible first | exact HB.out | apply below_alloc | apply pw_below_drewN | apply below_drew1) | exact HB.out)))); have n2_ := Aside0.mk (below_step (by repeat (first | (with_reducible first | exact HB.out | apply below_alloc | apply pw_below_drewN | apply below_drew1) | exact HB.out)) hb); clear HO186; clear HB; have HO186 := n0_; have HO193 := n1_; have HB := n2_; clear n0_ n1_ n2_; clear hb ho22; have hcv23 := own_string (P := Try.prog) Try.underlying32 Try.underlying5 Try.underlying9 (Kd.own_of_R HO193.out)))
                  go_ret
                  exact ⟨by first | rfl | (simp [errW_none, errW_some] <;> rfl) | (simp [*, errW_none, errW_some] <;> rfl), by repeat (first | (with_reducible first | exact HB.out | apply below_alloc | apply pw_below_drewN | apply below_drew1) | exact HB.out)⟩
                · rw [if_neg c14] at H
                  exact absurd H (by simp)
              · rw [if_neg c13] at H
                have c13b0 : ((Go.bits .and .i64 a0 63) == 32) = false := beq_eq_false_iff_ne.mpr c13
                have c13b1 : ((Go.bits .and .i64 a0 63) != 32) = true := bne_iff_ne.mpr c13
                exact absurd ((Option.some.inj H).trans hr.out) (by decide)
            · rw [if_neg c12] at H
              have c12b0 : (t190 == 0) = false := beq_eq_false_iff_ne.mpr c12
              have c12b1 : (t190 != 0) = true := bne_iff_ne.mpr c12
              by_cases c24 : (Go.bits .and .i64 a0 63) = 32
              · rw [if_pos c24] at H
                have c24b0 : ((Go.bits .and .i64 a0 63) == 32) = true := beq_iff_eq.mpr c24
                have c24b1 : ((Go.bits .and .i64 a0 63) != 32) = false := bne_eq_false_iff_eq.mpr c24
                clear c24
                exact absurd ((Option.some.inj H).trans hr.out) (by decide)
              · rw [if_neg c24] at H
                have c24b0 : ((Go.bits .and .i64 a0 63) == 32) = false := beq_eq_false_iff_ne.mpr c24
                have c24b1 : ((Go.bits .and .i64 a0 63) != 32) = true := bne_iff_ne.mpr c24
                obtain rfl := Option.some.inj H
                go_enter Try.func10, Try.ntmps10
                go_wp2_with (first | ((with_reducible refine gate_callee (f := 24) rfl ?_); refine goesL_ (some 8) rfl rfl Try.func24 (by kernel_rfl) rfl #[] rfl (by (try simp only [List.map_toArray, List.map_cons, List.map_nil]); first | done | rfl | (simp only [List.length_drop, List.length_take]; rfl)) ?_; (with_reducible refine (halberdlaw7_awake.calls  true _ A2.out).mono ?_); rintro e w25 ⟨rfl, hb⟩; refine ⟨_, rfl, ?_⟩; have n0_ := Aside0.mk (below_step (by repeat (first | (with_reducible first | exact HB.out | apply below_alloc | apply pw_below_drewN | apply below_drew1) | exact HB.out)) hb); clear HB; have HB := n0_; clear n0_; (try clear hb); (try clear hb2); (try clear hk); (try clear hi)) | ((with_reducible refine gate_callee (f := 18) rfl ?_); refine goesL_ (some 11) rfl rfl Try.func18 (by kernel_rfl) rfl #[.string (⟨#[133, 214, 190, 120, 87, 85, 109, 51, 127, 68, 82, 254, 66, 213, 6, 168, 1, 3, 128, 138, 251, 13, 178, 253, 74, 191, 246, 175, 65, 73, 245, 27]⟩ : ByteArray), .string (⟨#[67, 114, 121, 112, 116, 111, 103, 114, 97, 112, 104, 105, 99, 32, 70, 111, 114, 117, 109, 32, 82, 101, 115, 101, 97, 114, 99, 104, 32, 71, 114, 111, 117, 112]⟩ : ByteArray)] rfl (by (try simp only [List.map_toArray, List.map_cons, List.map_nil]); first | done | rfl | (simp only [List.length_drop, List.length_take]; rfl)) ?_; (with_reducible refine (poly_Mac.calls (⟨#[133, 214, 190, 120, 87, 85, 109, 51, 127, 68, 82, 254, 66, 213, 6, 168, 1, 3, 128, 138, 251, 13, 178, 253, 74, 191, 246, 175, 65, 73, 245, 27]⟩ : ByteArray) (⟨#[67, 114, 121, 112, 116, 111, 103, 114, 97, 112, 104, 105, 99, 32, 70, 111, 114, 117, 109, 32, 82, 101, 115, 101, 97, 114, 99, 104, 32, 71, 114, 111, 117, 112]⟩ : ByteArray) t182 t183 _ A4.out).mono ?_); rintro e w26 ⟨rfl, hb⟩; refine ⟨_, rfl, ?_⟩; have n0_ := Aside0.mk (below_step (by repeat (first | (with_reducible first | exact HB.out | apply below_alloc | apply pw_below_drewN | apply below_drew1) | exact HB.out)) hb); clear HB; have HB := n0_; clear n0_; (try clear hb); (try clear hb2); (try clear hk); (try clear hi)) | ((with_reducible refine gate_dst (N := 18) rfl ?_); (try (refine gate_guard (by rfl) ?_; dsimp only)); refine Kd.R_make (Kd.int .u8) _ 5 rfl (N := 18) rfl 32 _ _ rfl (Go.bits .and .i64 a0 63) rfl rfl Try.underlying32 (.int .u8 0) 1 info5 rfl (by decide) (by omega) 0 (ok := fun _ => True) (okp := fun _ => True) rfl (fun _ hk => hk) trivial (of_decide_eq_true (by first | (with_reducible assumption) | assumption)) (Nat.le_trans (Nat.mul_le_mul_right _ (of_decide_eq_true (by first | (with_reducible assumption) | assumption) : (Go.bits .and .i64 a0 63).toNat ≤ 281474976710656)) (by omega)) (Below.refl _ _) (Nat.le_refl _) ?_; intro v185 w27 ho28 hb hg_ hnew_; clear hg_ hnew_; (first | rw [← Ny184.out] at ho28 | (simp only [Int.reduceToNat] at ho28; rw [← Ny184.out] at ho28)); have n0_ := Aside0.mk (Kd.R_lower ho28 (below_size (by repeat (first | (with_reducible first | exact HB.out | apply below_alloc | apply pw_below_drewN | apply below_drew1) | exact HB.out)))); have n1_ := Aside0.mk (below_step (by repeat (first | (with_reducible first | exact HB.out | apply below_alloc | apply pw_below_drewN | apply below_drew1) | exact HB.out)) hb); clear HB; have HO186 := n0_; have HB := n1_; clear n0_ n1_; clear hb ho28; have hcv29 := own_string (P := Try.prog) Try.underlying32 Try.underlying5 Try.underlying9 (Kd.own_of_R HO186.out)) | ((with_reducible refine gate_callee (f := 18) rfl ?_); refine goesL_ (some 20) rfl rfl Try.func18 (by kernel_rfl) rfl #[.string (strOfNums y184), .string (⟨#[97, 98, 99]⟩ : ByteArray)] rfl (by (try simp only [List.map_toArray, List.map_cons, List.map_nil]); first | done | rfl | (simp only [List.length_drop, List.length_take]; rfl)) ?_; (with_reducible refine (poly_Mac.calls (strOfNums y184) (⟨#[97, 98, 99]⟩ : ByteArray) t187 t188 _ A7.out).mono ?_); rintro e w30 ⟨rfl, hb⟩; refine ⟨_, rfl, ?_⟩; have n0_ := Aside0.mk (Kd.R_below (by (with_reducible repeat (first | apply Kd.R_alloc | apply Kd.R_drewN | apply Kd.R_drew)); exact HO186.out) hb); have n1_ := Aside0.mk (below_step (by repeat (first | (with_reducible first | exact HB.out | apply below_alloc | apply pw_below_drewN | apply below_drew1) | exact HB.out)) hb); clear HO186; clear HB; have HO186 := n0_; have HB := n1_; clear n0_ n1_; (try clear hb); (try clear hb2); (try clear hk); (try clear hi)) | (go_at_call 16; (with_reducible refine (halberdlaw0_Num.calls t183 t189 _ A9.out).mono ?_); rintro e w' ⟨rfl, ⟨nd, rfl⟩⟩) | (go_at_call 16; (with_reducible refine (halberdlaw0_Num.calls t188 t190 _ A11.out).mono ?_); rintro e w' ⟨rfl, ⟨nd, rfl⟩⟩))
                go_ret
                exact ⟨by first | rfl | (simp [errW_none, errW_some] <;> rfl) | (simp [*, errW_none, errW_some] <;> rfl), by repeat (first | (with_reducible first | exact HB.out | apply below_alloc | apply pw_below_drewN | apply below_drew1) | exact HB.out)⟩
          · rw [if_neg c10] at H
            have c10b0 : (t189 == 0) = false := beq_eq_false_iff_ne.mpr c10
            have c10b1 : (t189 != 0) = true := bne_iff_ne.mpr c10
            exact absurd ((Option.some.inj H).trans hr.out) (by decide)
        · rw [if_neg c8] at H
          have c8b0 : (t182.toList == ([168, 6, 29, 193, 48, 81, 54, 198, 194, 43, 139, 175, 12, 1, 39, 169] : List UInt8)) = false := beq_eq_false_iff_ne.mpr c8
          have c8b1 : (t182.toList != ([168, 6, 29, 193, 48, 81, 54, 198, 194, 43, 139, 175, 12, 1, 39, 169] : List UInt8)) = true := bne_iff_ne.mpr c8
          exact absurd ((Option.some.inj H).trans hr.out) (by decide)
      · rw [if_neg c6] at H
        exact absurd H (by simp)
    · rw [if_neg c5] at H
      exact absurd H (by simp)
  · replace c3 := Bool.eq_false_iff.mpr c3
    subst c3
    have H1 : (some false) = some r := by rw [if_neg (show ¬ (false = true) by decide)] at H; exact H
    clear H
    have H := H1
    clear H1
    exact absurd ((Option.some.inj H).trans hr.out) (by decide)

/-- THE ONE PURE STATEMENT of halberdlaw7_PolyKnown: yours. -/
def halberdlaw7_PolyKnown.Pure : Prop := ∀ (a0 : Int), (Lit.int .i64 a0).wf = true → halberdlaw7_PolyKnown.f a0 = some true
theorem halberdlaw7_PolyKnown.walk (P : halberdlaw7_PolyKnown.Pure) (a0 : Int) (w : World) (w0 : (Lit.int .i64 a0).wf = true) :
    Calls Try.prog 10 #[.int .i64 a0] w fun e w' => e = .returned (.bool true) ∧ Below w.heap.size w w' := by
  have h := P a0 w0
  refine (halberdlaw7_PolyKnown.calls a0 true w h ⟨rfl⟩).mono ?_
  rintro e w' ⟨rfl, hd⟩
  exact ⟨rfl, hd⟩

/-! ### chacha_Xor: function 14 -/
def chacha_Xor.f (a0 : ByteArray) (a1 : Int) (a2 : ByteArray) (a3 : ByteArray) : Option (ByteArray × Int) := some (if Cha.May a0 a1 a2 ∧ a3.size ≤ 65536 then (Cha.xorOut a0 a2 a1 a3, 0) else (ByteArray.empty, 600))
theorem chacha_Xor.calls (a0 : ByteArray) (a1 : Int) (a2 : ByteArray) (a3 : ByteArray) (r1 : ByteArray) (r2 : Int) (w : World) (h : chacha_Xor.f a0 a1 a2 a3 = some (r1, r2)) :
    Calls Try.prog 14 #[.string a0, .int .i64 a1, .string a2, .string a3] w fun e w' => e = .returned (.tuple #[.string r1, .int .i64 r2]) ∧ Below w.heap.size w w' := by
  unfold chacha_Xor.f at h
  have h := Option.some.inj h
  by_cases hm : Cha.May a0 a1 a2 ∧ a3.size ≤ 65536
  · rw [if_pos hm] at h
    rw [← (Prod.mk.inj h).1, ← (Prod.mk.inj h).2]
    exact Cha.xor_yes a0 a1 a2 a3 hm.1 hm.2 w
  · rw [if_neg hm] at h
    rw [← (Prod.mk.inj h).1, ← (Prod.mk.inj h).2]
    exact Cha.xor_no a0 a1 a2 a3 hm w

end Go.Proofs.Ytocckplgjbhlbaa.P
