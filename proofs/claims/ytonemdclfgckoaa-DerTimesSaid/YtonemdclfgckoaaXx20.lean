-- Written by a program of this session (wip/tools/xprint.py), over the kit's printer.
import Derived.Test.YtonemdclfgckoaaXx0
import Derived.Test.YtonemdclfgckoaaXx3
import Derived.Test.YtonemdclfgckoaaXx4
import Derived.Test.YtonemdclfgckoaaXx10
import Derived.Test.YtonemdclfgckoaaXx14
import Derived.Test.YtonemdclfgckoaaXx16
import Derived.Test.YtonemdclfgckoaaXx18
import Derived.Test.YtonemdclfgckoaaXx19
namespace Go.Proofs.Ytonemdclfgckoaa.X
open Go.RowKit Go.Proofs.YtonemdclfgckoaaW.PrintWords Go.Proofs.YtonemdclfgckoaaW.PrintLast Go.Proofs.YtonemdclfgckoaaW.PrintMore
attribute [local go_sem] max2_int min2_int max_two min_two max_three min_three max_four min_four   -- for this text's walks alone
set_option linter.unusedVariables false
set_option linter.unusedSimpArgs false

/-! ### halberdlaw13_awake0: function 17 -/
def halberdlaw13_awake0.f (k : Nat)  : Option (Bool) := (der_Get.f k (⟨#[2,1,5,122]⟩ : ByteArray) 0).bind fun bt270 => ((der_All.f k (⟨#[2,129,1,5]⟩ : ByteArray)).bind fun bt275 => ((der_Put.f k 48 (([(⟨#[97]⟩ : ByteArray),(⟨#[98,99]⟩ : ByteArray)] : List ByteArray))).bind fun bt282 => ((der_Integer.f k (⟨#[0,128]⟩ : ByteArray)).bind fun bt284 => ((der_Time.f k 0).bind fun bt286 => ((der_Untime.f k (⟨#[48,48,48,49,48,49,48,48,48,48,48,48,90]⟩ : ByteArray)).bind fun bt288 => ((der_Untime.f k (⟨#[48,48,48,50,51,48,48,48,48,48,48,48,90]⟩ : ByteArray)).bind fun bt290 => (if bt270.1 = 2 then (if bt270.2.1.toList = ([5] : List UInt8) then (if bt270.2.2.1 = 3 then ((halberdlaw0_Num.f bt270.2.2.2).bind fun t292 => (if t292 = 0 then ((halberdlaw0_Num.f bt275.2).bind fun t293 => (if t293 = 1300 then (if bt282.1.toList = ([48,3,97,98,99] : List UInt8) then ((halberdlaw0_Num.f bt282.2).bind fun t294 => (if t294 = 0 then (if bt284.1.toList = ([2,2,0,128] : List UInt8) then ((halberdlaw0_Num.f bt284.2).bind fun t295 => (if t295 = 0 then (if bt286.1.toList = ([23,13,55,48,48,49,48,49,48,48,48,48,48,48,90] : List UInt8) then ((halberdlaw0_Num.f bt286.2).bind fun t296 => (if t296 = 0 then (if bt288.1 = 946684800 then ((halberdlaw0_Num.f bt288.2).bind fun t297 => (if t297 = 0 then ((halberdlaw0_Num.f bt290.2).bind fun t298 => (some (t298 == 1300))) else (some false))) else (some false)) else (some false))) else (some false)) else (some false))) else (some false)) else (some false))) else (some false)) else (some false))) else (some false))) else (some false)) else (some false)) else (some false))))))))
theorem halberdlaw13_awake0.mono : ∀ k,LeO (halberdlaw13_awake0.f k ) (halberdlaw13_awake0.f (k + 1) ) := by
 intro  k
 unfold halberdlaw13_awake0.f
 repeat' first
   | (with_reducible exact der_All.mono _ _)
   | (with_reducible exact der_Get.mono _ _ _)
   | (with_reducible exact der_Integer.mono _ _)
   | (with_reducible exact der_Put.mono _ _ _)
   | (with_reducible exact der_Time.mono _ _)
   | (with_reducible exact der_Untime.mono _ _)
   | (with_reducible exact LeO.refl _)
   | (with_reducible exact LeO.none _)
   | (with_reducible refine LeO.ite ?_ ?_)
   | (with_reducible refine LeO.bind ?_ (fun _ => ?_))
   | exact der_All.mono _ _
   | exact der_Get.mono _ _ _
   | exact der_Integer.mono _ _
   | exact der_Put.mono _ _ _
   | exact der_Time.mono _ _
   | exact der_Untime.mono _ _
   | exact LeO.none _
   | refine LeO.ite ?_ ?_
   | refine LeO.bind ?_ (fun _ => ?_)
set_option maxHeartbeats 8000000 in
set_option maxRecDepth 100000 in
theorem halberdlaw13_awake0.calls (k : Nat)  (r : Bool) (w : World) (h : halberdlaw13_awake0.f k  = some r) (hr : Aside0 (r = true)) :
  Calls Try.prog 17 #[] w fun e w' => e = .returned (.bool r) ∧ Below w.heap.size w w' := by
 have hu40 := Try.underlying40
 have HB := Aside0.mk (Below.refl w.heap.size w)
 have H : ((der_Get.f k (⟨#[2,1,5,122]⟩ : ByteArray) 0).bind fun bt270 => ((der_All.f k (⟨#[2,129,1,5]⟩ : ByteArray)).bind fun bt275 => ((der_Put.f k 48 (([(⟨#[97]⟩ : ByteArray),(⟨#[98,99]⟩ : ByteArray)] : List ByteArray))).bind fun bt282 => ((der_Integer.f k (⟨#[0,128]⟩ : ByteArray)).bind fun bt284 => ((der_Time.f k 0).bind fun bt286 => ((der_Untime.f k (⟨#[48,48,48,49,48,49,48,48,48,48,48,48,90]⟩ : ByteArray)).bind fun bt288 => ((der_Untime.f k (⟨#[48,48,48,50,51,48,48,48,48,48,48,48,90]⟩ : ByteArray)).bind fun bt290 => (if bt270.1 = 2 then (if bt270.2.1.toList = ([5] : List UInt8) then (if bt270.2.2.1 = 3 then ((halberdlaw0_Num.f bt270.2.2.2).bind fun t292 => (if t292 = 0 then ((halberdlaw0_Num.f bt275.2).bind fun t293 => (if t293 = 1300 then (if bt282.1.toList = ([48,3,97,98,99] : List UInt8) then ((halberdlaw0_Num.f bt282.2).bind fun t294 => (if t294 = 0 then (if bt284.1.toList = ([2,2,0,128] : List UInt8) then ((halberdlaw0_Num.f bt284.2).bind fun t295 => (if t295 = 0 then (if bt286.1.toList = ([23,13,55,48,48,49,48,49,48,48,48,48,48,48,90] : List UInt8) then ((halberdlaw0_Num.f bt286.2).bind fun t296 => (if t296 = 0 then (if bt288.1 = 946684800 then ((halberdlaw0_Num.f bt288.2).bind fun t297 => (if t297 = 0 then ((halberdlaw0_Num.f bt290.2).bind fun t298 => (some (t298 == 1300))) else (some false))) else (some false)) else (some false))) else (some false)) else (some false))) else (some false)) else (some false))) else (some false)) else (some false))) else (some false))) else (some false)) else (some false)) else (some false))))))))) = some r := h
 clear h
 replace H := Option.bind_eq_some_iff.mp H
 obtain ⟨⟨t270,t271,t272,t273⟩,A10,H⟩ := H
 replace H : ((der_All.f k (⟨#[2,129,1,5]⟩ : ByteArray)).bind fun bt275 => ((der_Put.f k 48 (([(⟨#[97]⟩ : ByteArray),(⟨#[98,99]⟩ : ByteArray)] : List ByteArray))).bind fun bt282 => ((der_Integer.f k (⟨#[0,128]⟩ : ByteArray)).bind fun bt284 => ((der_Time.f k 0).bind fun bt286 => ((der_Untime.f k (⟨#[48,48,48,49,48,49,48,48,48,48,48,48,90]⟩ : ByteArray)).bind fun bt288 => ((der_Untime.f k (⟨#[48,48,48,50,51,48,48,48,48,48,48,48,90]⟩ : ByteArray)).bind fun bt290 => (if t270 = 2 then (if t271.toList = ([5] : List UInt8) then (if t272 = 3 then ((halberdlaw0_Num.f t273).bind fun t292 => (if t292 = 0 then ((halberdlaw0_Num.f bt275.2).bind fun t293 => (if t293 = 1300 then (if bt282.1.toList = ([48,3,97,98,99] : List UInt8) then ((halberdlaw0_Num.f bt282.2).bind fun t294 => (if t294 = 0 then (if bt284.1.toList = ([2,2,0,128] : List UInt8) then ((halberdlaw0_Num.f bt284.2).bind fun t295 => (if t295 = 0 then (if bt286.1.toList = ([23,13,55,48,48,49,48,49,48,48,48,48,48,48,90] : List UInt8) then ((halberdlaw0_Num.f bt286.2).bind fun t296 => (if t296 = 0 then (if bt288.1 = 946684800 then ((halberdlaw0_Num.f bt288.2).bind fun t297 => (if t297 = 0 then ((halberdlaw0_Num.f bt290.2).bind fun t298 => (some (t298 == 1300))) else (some false))) else (some false)) else (some false))) else (some false)) else (some false))) else (some false)) else (some false))) else (some false)) else (some false))) else (some false))) else (some false)) else (some false)) else (some false)))))))) = some r := H
 have A1 := Aside0.mk A10
 clear A10
 replace H := Option.bind_eq_some_iff.mp H
 obtain ⟨⟨t275,t276⟩,A20,H⟩ := H
 replace H : ((der_Put.f k 48 (([(⟨#[97]⟩ : ByteArray),(⟨#[98,99]⟩ : ByteArray)] : List ByteArray))).bind fun bt282 => ((der_Integer.f k (⟨#[0,128]⟩ : ByteArray)).bind fun bt284 => ((der_Time.f k 0).bind fun bt286 => ((der_Untime.f k (⟨#[48,48,48,49,48,49,48,48,48,48,48,48,90]⟩ : ByteArray)).bind fun bt288 => ((der_Untime.f k (⟨#[48,48,48,50,51,48,48,48,48,48,48,48,90]⟩ : ByteArray)).bind fun bt290 => (if t270 = 2 then (if t271.toList = ([5] : List UInt8) then (if t272 = 3 then ((halberdlaw0_Num.f t273).bind fun t292 => (if t292 = 0 then ((halberdlaw0_Num.f t276).bind fun t293 => (if t293 = 1300 then (if bt282.1.toList = ([48,3,97,98,99] : List UInt8) then ((halberdlaw0_Num.f bt282.2).bind fun t294 => (if t294 = 0 then (if bt284.1.toList = ([2,2,0,128] : List UInt8) then ((halberdlaw0_Num.f bt284.2).bind fun t295 => (if t295 = 0 then (if bt286.1.toList = ([23,13,55,48,48,49,48,49,48,48,48,48,48,48,90] : List UInt8) then ((halberdlaw0_Num.f bt286.2).bind fun t296 => (if t296 = 0 then (if bt288.1 = 946684800 then ((halberdlaw0_Num.f bt288.2).bind fun t297 => (if t297 = 0 then ((halberdlaw0_Num.f bt290.2).bind fun t298 => (some (t298 == 1300))) else (some false))) else (some false)) else (some false))) else (some false)) else (some false))) else (some false)) else (some false))) else (some false)) else (some false))) else (some false))) else (some false)) else (some false)) else (some false))))))) = some r := H
 have A2 := Aside0.mk A20
 clear A20
 obtain ⟨y279,hy279⟩ : ∃ y_ : List ByteArray,y_ = (([(⟨#[97]⟩ : ByteArray),(⟨#[98,99]⟩ : ByteArray)] : List ByteArray)) := ⟨_,rfl⟩
 replace H : ((der_Put.f k 48 y279).bind fun bt282 => ((der_Integer.f k (⟨#[0,128]⟩ : ByteArray)).bind fun bt284 => ((der_Time.f k 0).bind fun bt286 => ((der_Untime.f k (⟨#[48,48,48,49,48,49,48,48,48,48,48,48,90]⟩ : ByteArray)).bind fun bt288 => ((der_Untime.f k (⟨#[48,48,48,50,51,48,48,48,48,48,48,48,90]⟩ : ByteArray)).bind fun bt290 => (if t270 = 2 then (if t271.toList = ([5] : List UInt8) then (if t272 = 3 then ((halberdlaw0_Num.f t273).bind fun t292 => (if t292 = 0 then ((halberdlaw0_Num.f t276).bind fun t293 => (if t293 = 1300 then (if bt282.1.toList = ([48,3,97,98,99] : List UInt8) then ((halberdlaw0_Num.f bt282.2).bind fun t294 => (if t294 = 0 then (if bt284.1.toList = ([2,2,0,128] : List UInt8) then ((halberdlaw0_Num.f bt284.2).bind fun t295 => (if t295 = 0 then (if bt286.1.toList = ([23,13,55,48,48,49,48,49,48,48,48,48,48,48,90] : List UInt8) then ((halberdlaw0_Num.f bt286.2).bind fun t296 => (if t296 = 0 then (if bt288.1 = 946684800 then ((halberdlaw0_Num.f bt288.2).bind fun t297 => (if t297 = 0 then ((halberdlaw0_Num.f bt290.2).bind fun t298 => (some (t298 == 1300))) else (some false))) else (some false)) else (some false))) else (some false)) else (some false))) else (some false)) else (some false))) else (some false)) else (some false))) else (some false))) else (some false)) else (some false)) else (some false))))))) = some r := by first | (rw [hy279]; with_reducible exact H) | (have H2_ := (Option.bind_some _ _).symm.trans H; rw [hy279]; with_reducible exact H2_) | (have H2_ := (Option.bind_some _ _).symm.trans H; with_reducible exact H2_) | with_reducible exact H | (rw [hy279]; exact H) | exact H
 have Ny279 := Aside0.mk hy279
 clear hy279
 replace H := Option.bind_eq_some_iff.mp H
 obtain ⟨⟨t282,t283⟩,A30,H⟩ := H
 replace H : ((der_Integer.f k (⟨#[0,128]⟩ : ByteArray)).bind fun bt284 => ((der_Time.f k 0).bind fun bt286 => ((der_Untime.f k (⟨#[48,48,48,49,48,49,48,48,48,48,48,48,90]⟩ : ByteArray)).bind fun bt288 => ((der_Untime.f k (⟨#[48,48,48,50,51,48,48,48,48,48,48,48,90]⟩ : ByteArray)).bind fun bt290 => (if t270 = 2 then (if t271.toList = ([5] : List UInt8) then (if t272 = 3 then ((halberdlaw0_Num.f t273).bind fun t292 => (if t292 = 0 then ((halberdlaw0_Num.f t276).bind fun t293 => (if t293 = 1300 then (if t282.toList = ([48,3,97,98,99] : List UInt8) then ((halberdlaw0_Num.f t283).bind fun t294 => (if t294 = 0 then (if bt284.1.toList = ([2,2,0,128] : List UInt8) then ((halberdlaw0_Num.f bt284.2).bind fun t295 => (if t295 = 0 then (if bt286.1.toList = ([23,13,55,48,48,49,48,49,48,48,48,48,48,48,90] : List UInt8) then ((halberdlaw0_Num.f bt286.2).bind fun t296 => (if t296 = 0 then (if bt288.1 = 946684800 then ((halberdlaw0_Num.f bt288.2).bind fun t297 => (if t297 = 0 then ((halberdlaw0_Num.f bt290.2).bind fun t298 => (some (t298 == 1300))) else (some false))) else (some false)) else (some false))) else (some false)) else (some false))) else (some false)) else (some false))) else (some false)) else (some false))) else (some false))) else (some false)) else (some false)) else (some false)))))) = some r := H
 have A3 := Aside0.mk A30
 clear A30
 replace H := Option.bind_eq_some_iff.mp H
 obtain ⟨⟨t284,t285⟩,A40,H⟩ := H
 replace H : ((der_Time.f k 0).bind fun bt286 => ((der_Untime.f k (⟨#[48,48,48,49,48,49,48,48,48,48,48,48,90]⟩ : ByteArray)).bind fun bt288 => ((der_Untime.f k (⟨#[48,48,48,50,51,48,48,48,48,48,48,48,90]⟩ : ByteArray)).bind fun bt290 => (if t270 = 2 then (if t271.toList = ([5] : List UInt8) then (if t272 = 3 then ((halberdlaw0_Num.f t273).bind fun t292 => (if t292 = 0 then ((halberdlaw0_Num.f t276).bind fun t293 => (if t293 = 1300 then (if t282.toList = ([48,3,97,98,99] : List UInt8) then ((halberdlaw0_Num.f t283).bind fun t294 => (if t294 = 0 then (if t284.toList = ([2,2,0,128] : List UInt8) then ((halberdlaw0_Num.f t285).bind fun t295 => (if t295 = 0 then (if bt286.1.toList = ([23,13,55,48,48,49,48,49,48,48,48,48,48,48,90] : List UInt8) then ((halberdlaw0_Num.f bt286.2).bind fun t296 => (if t296 = 0 then (if bt288.1 = 946684800 then ((halberdlaw0_Num.f bt288.2).bind fun t297 => (if t297 = 0 then ((halberdlaw0_Num.f bt290.2).bind fun t298 => (some (t298 == 1300))) else (some false))) else (some false)) else (some false))) else (some false)) else (some false))) else (some false)) else (some false))) else (some false)) else (some false))) else (some false))) else (some false)) else (some false)) else (some false))))) = some r := H
 have A4 := Aside0.mk A40
 clear A40
 replace H := Option.bind_eq_some_iff.mp H
 obtain ⟨⟨t286,t287⟩,A50,H⟩ := H
 replace H : ((der_Untime.f k (⟨#[48,48,48,49,48,49,48,48,48,48,48,48,90]⟩ : ByteArray)).bind fun bt288 => ((der_Untime.f k (⟨#[48,48,48,50,51,48,48,48,48,48,48,48,90]⟩ : ByteArray)).bind fun bt290 => (if t270 = 2 then (if t271.toList = ([5] : List UInt8) then (if t272 = 3 then ((halberdlaw0_Num.f t273).bind fun t292 => (if t292 = 0 then ((halberdlaw0_Num.f t276).bind fun t293 => (if t293 = 1300 then (if t282.toList = ([48,3,97,98,99] : List UInt8) then ((halberdlaw0_Num.f t283).bind fun t294 => (if t294 = 0 then (if t284.toList = ([2,2,0,128] : List UInt8) then ((halberdlaw0_Num.f t285).bind fun t295 => (if t295 = 0 then (if t286.toList = ([23,13,55,48,48,49,48,49,48,48,48,48,48,48,90] : List UInt8) then ((halberdlaw0_Num.f t287).bind fun t296 => (if t296 = 0 then (if bt288.1 = 946684800 then ((halberdlaw0_Num.f bt288.2).bind fun t297 => (if t297 = 0 then ((halberdlaw0_Num.f bt290.2).bind fun t298 => (some (t298 == 1300))) else (some false))) else (some false)) else (some false))) else (some false)) else (some false))) else (some false)) else (some false))) else (some false)) else (some false))) else (some false))) else (some false)) else (some false)) else (some false)))) = some r := H
 have A5 := Aside0.mk A50
 clear A50
 replace H := Option.bind_eq_some_iff.mp H
 obtain ⟨⟨t288,t289⟩,A60,H⟩ := H
 replace H : ((der_Untime.f k (⟨#[48,48,48,50,51,48,48,48,48,48,48,48,90]⟩ : ByteArray)).bind fun bt290 => (if t270 = 2 then (if t271.toList = ([5] : List UInt8) then (if t272 = 3 then ((halberdlaw0_Num.f t273).bind fun t292 => (if t292 = 0 then ((halberdlaw0_Num.f t276).bind fun t293 => (if t293 = 1300 then (if t282.toList = ([48,3,97,98,99] : List UInt8) then ((halberdlaw0_Num.f t283).bind fun t294 => (if t294 = 0 then (if t284.toList = ([2,2,0,128] : List UInt8) then ((halberdlaw0_Num.f t285).bind fun t295 => (if t295 = 0 then (if t286.toList = ([23,13,55,48,48,49,48,49,48,48,48,48,48,48,90] : List UInt8) then ((halberdlaw0_Num.f t287).bind fun t296 => (if t296 = 0 then (if t288 = 946684800 then ((halberdlaw0_Num.f t289).bind fun t297 => (if t297 = 0 then ((halberdlaw0_Num.f bt290.2).bind fun t298 => (some (t298 == 1300))) else (some false))) else (some false)) else (some false))) else (some false)) else (some false))) else (some false)) else (some false))) else (some false)) else (some false))) else (some false))) else (some false)) else (some false)) else (some false))) = some r := H
 have A6 := Aside0.mk A60
 clear A60
 replace H := Option.bind_eq_some_iff.mp H
 obtain ⟨⟨t290,t291⟩,A70,H⟩ := H
 replace H : (if t270 = 2 then (if t271.toList = ([5] : List UInt8) then (if t272 = 3 then ((halberdlaw0_Num.f t273).bind fun t292 => (if t292 = 0 then ((halberdlaw0_Num.f t276).bind fun t293 => (if t293 = 1300 then (if t282.toList = ([48,3,97,98,99] : List UInt8) then ((halberdlaw0_Num.f t283).bind fun t294 => (if t294 = 0 then (if t284.toList = ([2,2,0,128] : List UInt8) then ((halberdlaw0_Num.f t285).bind fun t295 => (if t295 = 0 then (if t286.toList = ([23,13,55,48,48,49,48,49,48,48,48,48,48,48,90] : List UInt8) then ((halberdlaw0_Num.f t287).bind fun t296 => (if t296 = 0 then (if t288 = 946684800 then ((halberdlaw0_Num.f t289).bind fun t297 => (if t297 = 0 then ((halberdlaw0_Num.f t291).bind fun t298 => (some (t298 == 1300))) else (some false))) else (some false)) else (some false))) else (some false)) else (some false))) else (some false)) else (some false))) else (some false)) else (some false))) else (some false))) else (some false)) else (some false)) else (some false)) = some r := H
 have A7 := Aside0.mk A70
 clear A70
 by_cases c8 : t270 = 2
 ·rw [if_pos c8] at H
  have c8b0 : (t270 == 2) = true := beq_iff_eq.mpr c8
  have c8b1 : (t270 != 2) = false := bne_eq_false_iff_eq.mpr c8
  clear c8
  by_cases c9 : t271.toList = ([5] : List UInt8)
  ·rw [if_pos c9] at H
   have c9b0 : (t271.toList == ([5] : List UInt8)) = true := beq_iff_eq.mpr c9
   have c9b1 : (t271.toList != ([5] : List UInt8)) = false := bne_eq_false_iff_eq.mpr c9
   clear c9
   by_cases c10 : t272 = 3
   ·rw [if_pos c10] at H
    have c10b0 : (t272 == 3) = true := beq_iff_eq.mpr c10
    have c10b1 : (t272 != 3) = false := bne_eq_false_iff_eq.mpr c10
    clear c10
    replace H := Option.bind_eq_some_iff.mp H
    obtain ⟨t292,A110,H⟩ := H
    replace H : (if t292 = 0 then ((halberdlaw0_Num.f t276).bind fun t293 => (if t293 = 1300 then (if t282.toList = ([48,3,97,98,99] : List UInt8) then ((halberdlaw0_Num.f t283).bind fun t294 => (if t294 = 0 then (if t284.toList = ([2,2,0,128] : List UInt8) then ((halberdlaw0_Num.f t285).bind fun t295 => (if t295 = 0 then (if t286.toList = ([23,13,55,48,48,49,48,49,48,48,48,48,48,48,90] : List UInt8) then ((halberdlaw0_Num.f t287).bind fun t296 => (if t296 = 0 then (if t288 = 946684800 then ((halberdlaw0_Num.f t289).bind fun t297 => (if t297 = 0 then ((halberdlaw0_Num.f t291).bind fun t298 => (some (t298 == 1300))) else (some false))) else (some false)) else (some false))) else (some false)) else (some false))) else (some false)) else (some false))) else (some false)) else (some false))) else (some false)) = some r := H
    have A11 := Aside0.mk A110
    clear A110
    by_cases c12 : t292 = 0
    ·rw [if_pos c12] at H
     have c12b0 : (t292 == 0) = true := beq_iff_eq.mpr c12
     have c12b1 : (t292 != 0) = false := bne_eq_false_iff_eq.mpr c12
     clear c12
     replace H := Option.bind_eq_some_iff.mp H
     obtain ⟨t293,A130,H⟩ := H
     replace H : (if t293 = 1300 then (if t282.toList = ([48,3,97,98,99] : List UInt8) then ((halberdlaw0_Num.f t283).bind fun t294 => (if t294 = 0 then (if t284.toList = ([2,2,0,128] : List UInt8) then ((halberdlaw0_Num.f t285).bind fun t295 => (if t295 = 0 then (if t286.toList = ([23,13,55,48,48,49,48,49,48,48,48,48,48,48,90] : List UInt8) then ((halberdlaw0_Num.f t287).bind fun t296 => (if t296 = 0 then (if t288 = 946684800 then ((halberdlaw0_Num.f t289).bind fun t297 => (if t297 = 0 then ((halberdlaw0_Num.f t291).bind fun t298 => (some (t298 == 1300))) else (some false))) else (some false)) else (some false))) else (some false)) else (some false))) else (some false)) else (some false))) else (some false)) else (some false)) = some r := H
     have A13 := Aside0.mk A130
     clear A130
     by_cases c14 : t293 = 1300
     ·rw [if_pos c14] at H
      have c14b0 : (t293 == 1300) = true := beq_iff_eq.mpr c14
      have c14b1 : (t293 != 1300) = false := bne_eq_false_iff_eq.mpr c14
      clear c14
      by_cases c15 : t282.toList = ([48,3,97,98,99] : List UInt8)
      ·rw [if_pos c15] at H
       have c15b0 : (t282.toList == ([48,3,97,98,99] : List UInt8)) = true := beq_iff_eq.mpr c15
       have c15b1 : (t282.toList != ([48,3,97,98,99] : List UInt8)) = false := bne_eq_false_iff_eq.mpr c15
       clear c15
       replace H := Option.bind_eq_some_iff.mp H
       obtain ⟨t294,A160,H⟩ := H
       replace H : (if t294 = 0 then (if t284.toList = ([2,2,0,128] : List UInt8) then ((halberdlaw0_Num.f t285).bind fun t295 => (if t295 = 0 then (if t286.toList = ([23,13,55,48,48,49,48,49,48,48,48,48,48,48,90] : List UInt8) then ((halberdlaw0_Num.f t287).bind fun t296 => (if t296 = 0 then (if t288 = 946684800 then ((halberdlaw0_Num.f t289).bind fun t297 => (if t297 = 0 then ((halberdlaw0_Num.f t291).bind fun t298 => (some (t298 == 1300))) else (some false))) else (some false)) else (some false))) else (some false)) else (some false))) else (some false)) else (some false)) = some r := H
       have A16 := Aside0.mk A160
       clear A160
       by_cases c17 : t294 = 0
       ·rw [if_pos c17] at H
        have c17b0 : (t294 == 0) = true := beq_iff_eq.mpr c17
        have c17b1 : (t294 != 0) = false := bne_eq_false_iff_eq.mpr c17
        clear c17
        by_cases c18 : t284.toList = ([2,2,0,128] : List UInt8)
        ·rw [if_pos c18] at H
         have c18b0 : (t284.toList == ([2,2,0,128] : List UInt8)) = true := beq_iff_eq.mpr c18
         have c18b1 : (t284.toList != ([2,2,0,128] : List UInt8)) = false := bne_eq_false_iff_eq.mpr c18
         clear c18
         replace H := Option.bind_eq_some_iff.mp H
         obtain ⟨t295,A190,H⟩ := H
         replace H : (if t295 = 0 then (if t286.toList = ([23,13,55,48,48,49,48,49,48,48,48,48,48,48,90] : List UInt8) then ((halberdlaw0_Num.f t287).bind fun t296 => (if t296 = 0 then (if t288 = 946684800 then ((halberdlaw0_Num.f t289).bind fun t297 => (if t297 = 0 then ((halberdlaw0_Num.f t291).bind fun t298 => (some (t298 == 1300))) else (some false))) else (some false)) else (some false))) else (some false)) else (some false)) = some r := H
         have A19 := Aside0.mk A190
         clear A190
         by_cases c20 : t295 = 0
         ·rw [if_pos c20] at H
          have c20b0 : (t295 == 0) = true := beq_iff_eq.mpr c20
          have c20b1 : (t295 != 0) = false := bne_eq_false_iff_eq.mpr c20
          clear c20
          by_cases c21 : t286.toList = ([23,13,55,48,48,49,48,49,48,48,48,48,48,48,90] : List UInt8)
          ·rw [if_pos c21] at H
           have c21b0 : (t286.toList == ([23,13,55,48,48,49,48,49,48,48,48,48,48,48,90] : List UInt8)) = true := beq_iff_eq.mpr c21
           have c21b1 : (t286.toList != ([23,13,55,48,48,49,48,49,48,48,48,48,48,48,90] : List UInt8)) = false := bne_eq_false_iff_eq.mpr c21
           clear c21
           replace H := Option.bind_eq_some_iff.mp H
           obtain ⟨t296,A220,H⟩ := H
           replace H : (if t296 = 0 then (if t288 = 946684800 then ((halberdlaw0_Num.f t289).bind fun t297 => (if t297 = 0 then ((halberdlaw0_Num.f t291).bind fun t298 => (some (t298 == 1300))) else (some false))) else (some false)) else (some false)) = some r := H
           have A22 := Aside0.mk A220
           clear A220
           by_cases c23 : t296 = 0
           ·rw [if_pos c23] at H
            have c23b0 : (t296 == 0) = true := beq_iff_eq.mpr c23
            have c23b1 : (t296 != 0) = false := bne_eq_false_iff_eq.mpr c23
            clear c23
            by_cases c24 : t288 = 946684800
            ·rw [if_pos c24] at H
             have c24b0 : (t288 == 946684800) = true := beq_iff_eq.mpr c24
             have c24b1 : (t288 != 946684800) = false := bne_eq_false_iff_eq.mpr c24
             clear c24
             replace H := Option.bind_eq_some_iff.mp H
             obtain ⟨t297,A250,H⟩ := H
             replace H : (if t297 = 0 then ((halberdlaw0_Num.f t291).bind fun t298 => (some (t298 == 1300))) else (some false)) = some r := H
             have A25 := Aside0.mk A250
             clear A250
             by_cases c26 : t297 = 0
             ·rw [if_pos c26] at H
              have c26b0 : (t297 == 0) = true := beq_iff_eq.mpr c26
              have c26b1 : (t297 != 0) = false := bne_eq_false_iff_eq.mpr c26
              clear c26
              replace H := Option.bind_eq_some_iff.mp H
              obtain ⟨t298,A270,H⟩ := H
              replace H : (some (t298 == 1300)) = some r := H
              have A27 := Aside0.mk A270
              clear A270
              obtain rfl := Option.some.inj H
              go_enter Try.func17,Try.ntmps17
              go_wp2_with (first | ((with_reducible refine gate_callee (f := 19) rfl ?_); refine goesL_ (some 17) rfl rfl Try.func19 (by kernel_rfl) rfl #[.string (⟨#[2,1,5,122]⟩ : ByteArray),.int .i64 0] rfl (by (try simp only [List.map_toArray,List.map_cons,List.map_nil]); first | done | rfl | (simp only [List.length_drop,List.length_take]; rfl)) ?_; (with_reducible refine (der_Get.calls k (⟨#[2,1,5,122]⟩ : ByteArray) 0 t270 t271 t272 t273 _ A1.out).mono ?_); rintro e w28 ⟨rfl,hb⟩; refine ⟨_,rfl,?_⟩; have n0_ := Aside0.mk (below_step (by repeat (first | (with_reducible first | exact HB.out | apply below_alloc | apply pw_below_drewN | apply below_drew1) | exact HB.out)) hb); clear HB; have HB := n0_; clear n0_; (try clear hb); (try clear hb2); (try clear hk); (try clear hi)) | ((with_reducible refine gate_dst (N := 1) rfl ?_); refine box_event ?hg (N := 1) ?hd (cs := #[.int .i64 0,.string (⟨#[]⟩ : ByteArray)]) (t := 40) ?hr ?_; (case hd => rfl); (case hg => rfl); (case hr => first | (go_simp; done) | (go_simp; rfl)); intro gb274 hg w29 hbox hb; have n0_ := Aside0.mk (below_step (by repeat (first | (with_reducible first | exact HB.out | apply below_alloc | apply pw_below_drewN | apply below_drew1) | exact HB.out)) hb); have n1_ := Aside0.mk (hbox); have n2_ := Aside0.mk ((by rw [hg]; exact (below_size (by repeat (first | (with_reducible first | exact HB.out | apply below_alloc | apply pw_below_drewN | apply below_drew1) | exact HB.out))) : w.heap.size ≤ gb274)); have n3_ := Aside0.mk ((by rw [hg]; exact (below_size (by repeat (first | (with_reducible first | exact HB.out | apply below_alloc | apply pw_below_drewN | apply below_drew1) | exact HB.out))) : w.heap.size ≤ gb274)); clear HB; have HB := n0_; have BK274 := n1_; have GW274 := n2_; have GE274 := n3_; clear n0_ n1_ n2_ n3_; clear hb hbox hg; have hcz30_0 : w29.cell? ⟨gb274,0,none⟩ = some (.int .i64 0) := (blk_cell BK274.out 0).trans rfl; have hcz30_1 : w29.cell? ⟨gb274,1,none⟩ = some (.string (⟨#[]⟩ : ByteArray)) := (blk_cell BK274.out 1).trans rfl; have hfz30_0 := blk_frozen BK274.out 0; have hfz30_1 := blk_frozen BK274.out 1) | ((with_reducible refine gate_callee (f := 20) rfl ?_); refine goesL_ (some 22) rfl rfl Try.func20 (by kernel_rfl) rfl #[.string (⟨#[2,129,1,5]⟩ : ByteArray)] rfl (by (try simp only [List.map_toArray,List.map_cons,List.map_nil]); first | done | rfl | (simp only [List.length_drop,List.length_take]; rfl)) ?_; (with_reducible refine (der_All.calls k (⟨#[2,129,1,5]⟩ : ByteArray) t275 t276 _ A2.out).mono ?_); rintro e w31 ⟨v277,rfl,ho0,hb⟩; refine ⟨_,rfl,?_⟩; have n0_ := Aside0.mk (Kd.R_lower (Kd.R_newB ho0 (g := gb274) (o := .cells #[.int .i64 t270,.string t271] 40 (0,0)) (by (with_reducible repeat (first | refine blk_drewN ?_ _ | refine blk_drew ?_ | refine blk_alloc ?_ _)); refine blk_put (cs := #[.int .i64 t270,.string (⟨#[]⟩ : ByteArray)]) ?_ 1 _ rfl; (with_reducible repeat (first | refine blk_drewN ?_ _ | refine blk_drew ?_ | refine blk_alloc ?_ _)); refine blk_put (cs := #[.int .i64 0,.string (⟨#[]⟩ : ByteArray)]) ?_ 0 _ rfl; (with_reducible repeat (first | refine blk_drewN ?_ _ | refine blk_drew ?_ | refine blk_alloc ?_ _)); exact BK274.out)) (below_size (by repeat (first | (with_reducible first | exact HB.out | apply below_alloc | apply pw_below_drewN | apply below_drew1 | refine below_set ?_ GE274.out) | exact HB.out)))); have n1_ := Aside0.mk (blk_below (g := gb274) (o := .cells #[.int .i64 t270,.string t271] 40 (0,0)) (by (with_reducible repeat (first | refine blk_drewN ?_ _ | refine blk_drew ?_ | refine blk_alloc ?_ _)); refine blk_put (cs := #[.int .i64 t270,.string (⟨#[]⟩ : ByteArray)]) ?_ 1 _ rfl; (with_reducible repeat (first | refine blk_drewN ?_ _ | refine blk_drew ?_ | refine blk_alloc ?_ _)); refine blk_put (cs := #[.int .i64 0,.string (⟨#[]⟩ : ByteArray)]) ?_ 0 _ rfl; (with_reducible repeat (first | refine blk_drewN ?_ _ | refine blk_drew ?_ | refine blk_alloc ?_ _)); exact BK274.out) hb); have n2_ := Aside0.mk (below_step (by repeat (first | (with_reducible first | exact HB.out | apply below_alloc | apply pw_below_drewN | apply below_drew1 | refine below_set ?_ GE274.out) | exact HB.out)) hb); clear BK274; clear HB; have HO278 := n0_; have BK274 := n1_; have HB := n2_; clear n0_ n1_ n2_; (try clear hb); (try clear hb2); (try clear hk); (try clear hi); (try clear ho0)) | ((with_reducible refine gate_dst (N := 26) rfl ?_); refine Kd.R_lit Kd.string _ 9 ?hg (N := 26) ?hd (xs := ([(⟨#[97]⟩ : ByteArray),(⟨#[98,99]⟩ : ByteArray)] : List ByteArray)) (inner := [.string (⟨#[97]⟩ : ByteArray),.string (⟨#[98,99]⟩ : ByteArray)]) (ok := fun _ => True) (okp := fun _ => True) ?hr ?hp (fun _ hk => hk) trivial (Below.refl _ _) (Nat.le_refl _) (by simp) ?_; (case hd => rfl); (case hg => rfl); (case hr => first | (go_simp; done) | (go_simp; rfl)); (case hp => exact (Reps.one (show Kd.M Kd.string _ _ _ (⟨#[97]⟩ : ByteArray) [.string (⟨#[97]⟩ : ByteArray)] from rfl) (Reps.one (show Kd.M Kd.string _ _ _ (⟨#[98,99]⟩ : ByteArray) [.string (⟨#[98,99]⟩ : ByteArray)] from rfl) (Reps.none _ _)))); intro v280 w32 ho33 hb hg_ hnew_; clear hg_ hnew_; (first | rw [← Ny279.out] at ho33 | (simp only [Int.reduceToNat] at ho33; rw [← Ny279.out] at ho33)); have n0_ := Aside0.mk (Kd.R_below (by (with_reducible repeat (first | apply Kd.R_alloc | apply Kd.R_drewN | apply Kd.R_drew)); exact HO278.out) hb); have n1_ := Aside0.mk (Kd.R_lower ho33 (below_size (by repeat (first | (with_reducible first | exact HB.out | apply below_alloc | apply pw_below_drewN | apply below_drew1 | refine below_set ?_ GE274.out) | exact HB.out)))); have n2_ := Aside0.mk (blk_below (g := gb274) (o := .cells #[.int .i64 t270,.string t271] 40 (0,0)) (by (with_reducible repeat (first | refine blk_drewN ?_ _ | refine blk_drew ?_ | refine blk_alloc ?_ _)); exact BK274.out) hb); have n3_ := Aside0.mk (below_step (by repeat (first | (with_reducible first | exact HB.out | apply below_alloc | apply pw_below_drewN | apply below_drew1 | refine below_set ?_ GE274.out) | exact HB.out)) hb); clear HO278; clear BK274; clear HB; have HO278 := n0_; have HO281 := n1_; have BK274 := n2_; have HB := n3_; clear n0_ n1_ n2_ n3_; clear hb ho33; obtain ⟨Ao34,co34,eo34⟩ := Kd.R_slice HO281.out; subst eo34) | ((with_reducible refine gate_callee (f := 18) rfl ?_); refine goesL_ (some 27) rfl rfl Try.func18 (by kernel_rfl) rfl #[.int .i64 48,.slice Ao34 y279.length co34] rfl (by (try simp only [List.map_toArray,List.map_cons,List.map_nil]); first | done | rfl | (simp only [List.length_drop,List.length_take]; rfl)) ?_; (with_reducible refine (der_Put.calls k 48 _ _ y279 t282 t283 _ ?side1 ?side2 A3.out).mono ?_); (case side1 => repeat (first | exact (Kd.R_reads' HO281.out).2.2 | (with_reducible refine Kd.C_alloc ?_ _) | (with_reducible refine Kd.C_drewN ?_ _) | (with_reducible refine Kd.C_drew ?_))); (case side2 => exact (Kd.R_reads' HO281.out).2.1); rintro e w35 ⟨rfl,hb⟩; refine ⟨_,rfl,?_⟩; have n0_ := Aside0.mk (Kd.R_below (by (with_reducible repeat (first | apply Kd.R_alloc | apply Kd.R_drewN | apply Kd.R_drew)); exact HO278.out) hb); have n1_ := Aside0.mk (Kd.R_below (by (with_reducible repeat (first | apply Kd.R_alloc | apply Kd.R_drewN | apply Kd.R_drew)); exact HO281.out) hb); have n2_ := Aside0.mk (blk_below (g := gb274) (o := .cells #[.int .i64 t270,.string t271] 40 (0,0)) (by (with_reducible repeat (first | refine blk_drewN ?_ _ | refine blk_drew ?_ | refine blk_alloc ?_ _)); exact BK274.out) hb); have n3_ := Aside0.mk (below_step (by repeat (first | (with_reducible first | exact HB.out | apply below_alloc | apply pw_below_drewN | apply below_drew1 | refine below_set ?_ GE274.out) | exact HB.out)) hb); clear HO278; clear HO281; clear BK274; clear HB; have HO278 := n0_; have HO281 := n1_; have BK274 := n2_; have HB := n3_; clear n0_ n1_ n2_ n3_; (try clear hb); (try clear hb2); (try clear hk); (try clear hi)) | ((with_reducible refine gate_callee (f := 10) rfl ?_); refine goesL_ (some 31) rfl rfl Try.func10 (by kernel_rfl) rfl #[.string (⟨#[0,128]⟩ : ByteArray)] rfl (by (try simp only [List.map_toArray,List.map_cons,List.map_nil]); first | done | rfl | (simp only [List.length_drop,List.length_take]; rfl)) ?_; (with_reducible refine (der_Integer.calls k (⟨#[0,128]⟩ : ByteArray) t284 t285 _ A4.out).mono ?_); rintro e w36 ⟨rfl,hb⟩; refine ⟨_,rfl,?_⟩; have n0_ := Aside0.mk (Kd.R_below (by (with_reducible repeat (first | apply Kd.R_alloc | apply Kd.R_drewN | apply Kd.R_drew)); exact HO278.out) hb); have n1_ := Aside0.mk (Kd.R_below (by (with_reducible repeat (first | apply Kd.R_alloc | apply Kd.R_drewN | apply Kd.R_drew)); exact HO281.out) hb); have n2_ := Aside0.mk (blk_below (g := gb274) (o := .cells #[.int .i64 t270,.string t271] 40 (0,0)) (by (with_reducible repeat (first | refine blk_drewN ?_ _ | refine blk_drew ?_ | refine blk_alloc ?_ _)); exact BK274.out) hb); have n3_ := Aside0.mk (below_step (by repeat (first | (with_reducible first | exact HB.out | apply below_alloc | apply pw_below_drewN | apply below_drew1 | refine below_set ?_ GE274.out) | exact HB.out)) hb); clear HO278; clear HO281; clear BK274; clear HB; have HO278 := n0_; have HO281 := n1_; have BK274 := n2_; have HB := n3_; clear n0_ n1_ n2_ n3_; (try clear hb); (try clear hb2); (try clear hk); (try clear hi)) | ((with_reducible refine gate_callee (f := 12) rfl ?_); refine goesL_ (some 35) rfl rfl Try.func12 (by kernel_rfl) rfl #[.int .i64 0] rfl (by (try simp only [List.map_toArray,List.map_cons,List.map_nil]); first | done | rfl | (simp only [List.length_drop,List.length_take]; rfl)) ?_; (with_reducible refine (der_Time.calls k 0 t286 t287 _ A5.out).mono ?_); rintro e w37 ⟨rfl,hb⟩; refine ⟨_,rfl,?_⟩; have n0_ := Aside0.mk (Kd.R_below (by (with_reducible repeat (first | apply Kd.R_alloc | apply Kd.R_drewN | apply Kd.R_drew)); exact HO278.out) hb); have n1_ := Aside0.mk (Kd.R_below (by (with_reducible repeat (first | apply Kd.R_alloc | apply Kd.R_drewN | apply Kd.R_drew)); exact HO281.out) hb); have n2_ := Aside0.mk (blk_below (g := gb274) (o := .cells #[.int .i64 t270,.string t271] 40 (0,0)) (by (with_reducible repeat (first | refine blk_drewN ?_ _ | refine blk_drew ?_ | refine blk_alloc ?_ _)); exact BK274.out) hb); have n3_ := Aside0.mk (below_step (by repeat (first | (with_reducible first | exact HB.out | apply below_alloc | apply pw_below_drewN | apply below_drew1 | refine below_set ?_ GE274.out) | exact HB.out)) hb); clear HO278; clear HO281; clear BK274; clear HB; have HO278 := n0_; have HO281 := n1_; have BK274 := n2_; have HB := n3_; clear n0_ n1_ n2_ n3_; (try clear hb); (try clear hb2); (try clear hk); (try clear hi)) | ((with_reducible refine gate_callee (f := 14) rfl ?_); refine goesL_ (some 39) rfl rfl Try.func14 (by kernel_rfl) rfl #[.string (⟨#[48,48,48,49,48,49,48,48,48,48,48,48,90]⟩ : ByteArray)] rfl (by (try simp only [List.map_toArray,List.map_cons,List.map_nil]); first | done | rfl | (simp only [List.length_drop,List.length_take]; rfl)) ?_; (with_reducible refine (der_Untime.calls k (⟨#[48,48,48,49,48,49,48,48,48,48,48,48,90]⟩ : ByteArray) t288 t289 _ A6.out).mono ?_); rintro e w38 ⟨rfl,hb⟩; refine ⟨_,rfl,?_⟩; have n0_ := Aside0.mk (Kd.R_below (by (with_reducible repeat (first | apply Kd.R_alloc | apply Kd.R_drewN | apply Kd.R_drew)); exact HO278.out) hb); have n1_ := Aside0.mk (Kd.R_below (by (with_reducible repeat (first | apply Kd.R_alloc | apply Kd.R_drewN | apply Kd.R_drew)); exact HO281.out) hb); have n2_ := Aside0.mk (blk_below (g := gb274) (o := .cells #[.int .i64 t270,.string t271] 40 (0,0)) (by (with_reducible repeat (first | refine blk_drewN ?_ _ | refine blk_drew ?_ | refine blk_alloc ?_ _)); exact BK274.out) hb); have n3_ := Aside0.mk (below_step (by repeat (first | (with_reducible first | exact HB.out | apply below_alloc | apply pw_below_drewN | apply below_drew1 | refine below_set ?_ GE274.out) | exact HB.out)) hb); clear HO278; clear HO281; clear BK274; clear HB; have HO278 := n0_; have HO281 := n1_; have BK274 := n2_; have HB := n3_; clear n0_ n1_ n2_ n3_; (try clear hb); (try clear hb2); (try clear hk); (try clear hi)) | ((with_reducible refine gate_callee (f := 14) rfl ?_); refine goesL_ (some 43) rfl rfl Try.func14 (by kernel_rfl) rfl #[.string (⟨#[48,48,48,50,51,48,48,48,48,48,48,48,90]⟩ : ByteArray)] rfl (by (try simp only [List.map_toArray,List.map_cons,List.map_nil]); first | done | rfl | (simp only [List.length_drop,List.length_take]; rfl)) ?_; (with_reducible refine (der_Untime.calls k (⟨#[48,48,48,50,51,48,48,48,48,48,48,48,90]⟩ : ByteArray) t290 t291 _ A7.out).mono ?_); rintro e w39 ⟨rfl,hb⟩; refine ⟨_,rfl,?_⟩; have n0_ := Aside0.mk (Kd.R_below (by (with_reducible repeat (first | apply Kd.R_alloc | apply Kd.R_drewN | apply Kd.R_drew)); exact HO278.out) hb); have n1_ := Aside0.mk (Kd.R_below (by (with_reducible repeat (first | apply Kd.R_alloc | apply Kd.R_drewN | apply Kd.R_drew)); exact HO281.out) hb); have n2_ := Aside0.mk (blk_below (g := gb274) (o := .cells #[.int .i64 t270,.string t271] 40 (0,0)) (by (with_reducible repeat (first | refine blk_drewN ?_ _ | refine blk_drew ?_ | refine blk_alloc ?_ _)); exact BK274.out) hb); have n3_ := Aside0.mk (below_step (by repeat (first | (with_reducible first | exact HB.out | apply below_alloc | apply pw_below_drewN | apply below_drew1 | refine below_set ?_ GE274.out) | exact HB.out)) hb); clear HO278; clear HO281; clear BK274; clear HB; have HO278 := n0_; have HO281 := n1_; have BK274 := n2_; have HB := n3_; clear n0_ n1_ n2_ n3_; (try clear hb); (try clear hb2); (try clear hk); (try clear hi); have hcz40_0 : w39.cell? ⟨gb274,0,none⟩ = some (.int .i64 t270) := (blk_cell BK274.out 0).trans rfl; have hcz40_1 : w39.cell? ⟨gb274,1,none⟩ = some (.string t271) := (blk_cell BK274.out 1).trans rfl; have hfz40_0 := blk_frozen BK274.out 0; have hfz40_1 := blk_frozen BK274.out 1) | (go_at_call 16; (with_reducible refine (halberdlaw0_Num.calls t273 t292 _ A11.out).mono ?_); rintro e w' ⟨rfl,⟨nd,rfl⟩⟩) | (go_at_call 16; (with_reducible refine (halberdlaw0_Num.calls t276 t293 _ A13.out).mono ?_); rintro e w' ⟨rfl,⟨nd,rfl⟩⟩) | (go_at_call 16; (with_reducible refine (halberdlaw0_Num.calls t283 t294 _ A16.out).mono ?_); rintro e w' ⟨rfl,⟨nd,rfl⟩⟩) | (go_at_call 16; (with_reducible refine (halberdlaw0_Num.calls t285 t295 _ A19.out).mono ?_); rintro e w' ⟨rfl,⟨nd,rfl⟩⟩) | (go_at_call 16; (with_reducible refine (halberdlaw0_Num.calls t287 t296 _ A22.out).mono ?_); rintro e w' ⟨rfl,⟨nd,rfl⟩⟩) | (go_at_call 16; (with_reducible refine (halberdlaw0_Num.calls t289 t297 _ A25.out).mono ?_); rintro e w' ⟨rfl,⟨nd,rfl⟩⟩) | (go_at_call 16; (with_reducible refine (halberdlaw0_Num.calls t291 t298 _ A27.out).mono ?_); rintro e w' ⟨rfl,⟨nd,rfl⟩⟩))
              go_ret
              exact ⟨by first | rfl | (simp [errW_none,errW_some] <;> rfl) | (simp [*,errW_none,errW_some] <;> rfl),by repeat (first | (with_reducible first | exact HB.out | apply below_alloc | apply pw_below_drewN | apply below_drew1 | refine below_set ?_ GE274.out) | exact HB.out)⟩
             ·rw [if_neg c26] at H
              have c26b0 : (t297 == 0) = false := beq_eq_false_iff_ne.mpr c26
              have c26b1 : (t297 != 0) = true := bne_iff_ne.mpr c26
              exact absurd ((Option.some.inj H).trans hr.out) (by decide)
            ·rw [if_neg c24] at H
             have c24b0 : (t288 == 946684800) = false := beq_eq_false_iff_ne.mpr c24
             have c24b1 : (t288 != 946684800) = true := bne_iff_ne.mpr c24
             exact absurd ((Option.some.inj H).trans hr.out) (by decide)
           ·rw [if_neg c23] at H
            have c23b0 : (t296 == 0) = false := beq_eq_false_iff_ne.mpr c23
            have c23b1 : (t296 != 0) = true := bne_iff_ne.mpr c23
            exact absurd ((Option.some.inj H).trans hr.out) (by decide)
          ·rw [if_neg c21] at H
           have c21b0 : (t286.toList == ([23,13,55,48,48,49,48,49,48,48,48,48,48,48,90] : List UInt8)) = false := beq_eq_false_iff_ne.mpr c21
           have c21b1 : (t286.toList != ([23,13,55,48,48,49,48,49,48,48,48,48,48,48,90] : List UInt8)) = true := bne_iff_ne.mpr c21
           exact absurd ((Option.some.inj H).trans hr.out) (by decide)
         ·rw [if_neg c20] at H
          have c20b0 : (t295 == 0) = false := beq_eq_false_iff_ne.mpr c20
          have c20b1 : (t295 != 0) = true := bne_iff_ne.mpr c20
          exact absurd ((Option.some.inj H).trans hr.out) (by decide)
        ·rw [if_neg c18] at H
         have c18b0 : (t284.toList == ([2,2,0,128] : List UInt8)) = false := beq_eq_false_iff_ne.mpr c18
         have c18b1 : (t284.toList != ([2,2,0,128] : List UInt8)) = true := bne_iff_ne.mpr c18
         exact absurd ((Option.some.inj H).trans hr.out) (by decide)
       ·rw [if_neg c17] at H
        have c17b0 : (t294 == 0) = false := beq_eq_false_iff_ne.mpr c17
        have c17b1 : (t294 != 0) = true := bne_iff_ne.mpr c17
        exact absurd ((Option.some.inj H).trans hr.out) (by decide)
      ·rw [if_neg c15] at H
       have c15b0 : (t282.toList == ([48,3,97,98,99] : List UInt8)) = false := beq_eq_false_iff_ne.mpr c15
       have c15b1 : (t282.toList != ([48,3,97,98,99] : List UInt8)) = true := bne_iff_ne.mpr c15
       exact absurd ((Option.some.inj H).trans hr.out) (by decide)
     ·rw [if_neg c14] at H
      have c14b0 : (t293 == 1300) = false := beq_eq_false_iff_ne.mpr c14
      have c14b1 : (t293 != 1300) = true := bne_iff_ne.mpr c14
      exact absurd ((Option.some.inj H).trans hr.out) (by decide)
    ·rw [if_neg c12] at H
     have c12b0 : (t292 == 0) = false := beq_eq_false_iff_ne.mpr c12
     have c12b1 : (t292 != 0) = true := bne_iff_ne.mpr c12
     exact absurd ((Option.some.inj H).trans hr.out) (by decide)
   ·rw [if_neg c10] at H
    have c10b0 : (t272 == 3) = false := beq_eq_false_iff_ne.mpr c10
    have c10b1 : (t272 != 3) = true := bne_iff_ne.mpr c10
    exact absurd ((Option.some.inj H).trans hr.out) (by decide)
  ·rw [if_neg c9] at H
   have c9b0 : (t271.toList == ([5] : List UInt8)) = false := beq_eq_false_iff_ne.mpr c9
   have c9b1 : (t271.toList != ([5] : List UInt8)) = true := bne_iff_ne.mpr c9
   exact absurd ((Option.some.inj H).trans hr.out) (by decide)
 ·rw [if_neg c8] at H
  have c8b0 : (t270 == 2) = false := beq_eq_false_iff_ne.mpr c8
  have c8b1 : (t270 != 2) = true := bne_iff_ne.mpr c8
  exact absurd ((Option.some.inj H).trans hr.out) (by decide)

/-! ### halberdlaw13_awake: function 17, closed -/
def halberdlaw13_awake.f : Option (Bool) := some true
theorem halberdlaw13_awake.knows : halberdlaw13_awake0.f 40 = some true := by decide +kernel
theorem halberdlaw13_awake.calls (r : Bool) (w : World) (h : halberdlaw13_awake.f = some r) : Calls Try.prog 17 #[] w fun e w' => e = .returned (.bool r) ∧ Below w.heap.size w w' := by
 obtain rfl := Option.some.inj h
 exact halberdlaw13_awake0.calls 40  true w halberdlaw13_awake.knows ⟨rfl⟩

end Go.Proofs.Ytonemdclfgckoaa.X
