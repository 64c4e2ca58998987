-- Written by a program of this session (wip/tools/xprint.py), over the kit's printer.
import Derived.Test.YtonemdclfgckoaaXx0
import Derived.Test.YtonemdclfgckoaaXx11
namespace Go.Proofs.Ytonemdclfgckoaa.X
open Go.RowKit Go.Proofs.YtonemdclfgckoaaW.PrintWords Go.Proofs.YtonemdclfgckoaaW.PrintLast Go.Proofs.YtonemdclfgckoaaW.PrintMore
attribute [local go_sem] max2_int min2_int max_two min_two max_three min_three max_four min_four   -- for this text's walks alone
set_option linter.unusedVariables false
set_option linter.unusedSimpArgs false


/-! ### halberdref13_Untime: function 15 -/
mutual
def halberdref13_Untime.j0 : Nat → ByteArray → Bool → Option (Int × Int)
 | 0,_,_ => none
 | k + 1,x0,x17 => if x17 = true then (some (0,1300)) else (halberdref13_Untime.l0 k x0 0 0 0 0 0 0 0)
def halberdref13_Untime.l0 : Nat → ByteArray → Int → Int → Int → Int → Int → Int → Int → Option (Int × Int)
 | 0,_,_,_,_,_,_,_,_ => none
 | k + 1,x0,x5,zz0,zz1,zz2,zz3,zz4,zz5 => if x5 < 12 then (if 0 ≤ x5 then (if x5 < (x0.size : Int) then (if (bt x0 x5) < 48 then (some (0,1300)) else (if (bt x0 x5) > 57 then (some (0,1300)) else (if (wrap64 (Int.tdiv x5 2)) = 0 then (halberdref13_Untime.l0 k x0 (wrap64 (x5 + 1)) (wrap64 ((wrap64 (10 * zz0)) + (((bt x0 x5) - 48) % 256))) zz1 zz2 zz3 zz4 zz5) else (if (wrap64 (Int.tdiv x5 2)) = 1 then (halberdref13_Untime.l0 k x0 (wrap64 (x5 + 1)) zz0 (wrap64 ((wrap64 (10 * zz1)) + (((bt x0 x5) - 48) % 256))) zz2 zz3 zz4 zz5) else (if (wrap64 (Int.tdiv x5 2)) = 2 then (halberdref13_Untime.l0 k x0 (wrap64 (x5 + 1)) zz0 zz1 (wrap64 ((wrap64 (10 * zz2)) + (((bt x0 x5) - 48) % 256))) zz3 zz4 zz5) else (if (wrap64 (Int.tdiv x5 2)) = 3 then (halberdref13_Untime.l0 k x0 (wrap64 (x5 + 1)) zz0 zz1 zz2 (wrap64 ((wrap64 (10 * zz3)) + (((bt x0 x5) - 48) % 256))) zz4 zz5) else (if (wrap64 (Int.tdiv x5 2)) = 4 then (halberdref13_Untime.l0 k x0 (wrap64 (x5 + 1)) zz0 zz1 zz2 zz3 (wrap64 ((wrap64 (10 * zz4)) + (((bt x0 x5) - 48) % 256))) zz5) else (if (wrap64 (Int.tdiv x5 2)) = 5 then (halberdref13_Untime.l0 k x0 (wrap64 (x5 + 1)) zz0 zz1 zz2 zz3 zz4 (wrap64 ((wrap64 (10 * zz5)) + (((bt x0 x5) - 48) % 256)))) else (none))))))))) else (none)) else (none)) else (if zz0 < 50 then (halberdref13_Untime.j2 k (wrap64 (2000 + zz0)) zz0 zz1 zz2 zz3 zz4 zz5) else (halberdref13_Untime.j2 k (wrap64 (1900 + zz0)) zz0 zz1 zz2 zz3 zz4 zz5))
def halberdref13_Untime.j2 : Nat → Int → Int → Int → Int → Int → Int → Int → Option (Int × Int)
 | 0,_,_,_,_,_,_,_ => none
 | k + 1,x6,zz0,zz1,zz2,zz3,zz4,zz5 => if x6 < 1970 then (halberdref13_Untime.j3 k x6 true zz0 zz1 zz2 zz3 zz4 zz5) else (if zz1 < 1 then (halberdref13_Untime.j3 k x6 true zz0 zz1 zz2 zz3 zz4 zz5) else (if zz1 > 12 then (halberdref13_Untime.j3 k x6 true zz0 zz1 zz2 zz3 zz4 zz5) else (if zz2 < 1 then (halberdref13_Untime.j3 k x6 true zz0 zz1 zz2 zz3 zz4 zz5) else ((halberdref13_days.f x6 zz1).bind fun t255 => (if zz2 > t255 then (halberdref13_Untime.j3 k x6 true zz0 zz1 zz2 zz3 zz4 zz5) else (if zz3 > 23 then (halberdref13_Untime.j3 k x6 true zz0 zz1 zz2 zz3 zz4 zz5) else (if zz4 > 59 then (halberdref13_Untime.j3 k x6 true zz0 zz1 zz2 zz3 zz4 zz5) else (halberdref13_Untime.j3 k x6 (decide (zz5 > 59)) zz0 zz1 zz2 zz3 zz4 zz5))))))))
def halberdref13_Untime.j3 : Nat → Int → Bool → Int → Int → Int → Int → Int → Int → Option (Int × Int)
 | 0,_,_,_,_,_,_,_,_ => none
 | k + 1,x6,x95,zz0,zz1,zz2,zz3,zz4,zz5 => if x95 = true then (some (0,1300)) else (halberdref13_Untime.l1 k x6 (wrap64 (zz2 - 1)) 1970 zz0 zz1 zz2 zz3 zz4 zz5)
def halberdref13_Untime.l1 : Nat → Int → Int → Int → Int → Int → Int → Int → Int → Int → Option (Int × Int)
 | 0,_,_,_,_,_,_,_,_,_ => none
 | k + 1,x6,x7,x8,zz0,zz1,zz2,zz3,zz4,zz5 => if x8 < x6 then ((halberdref13_days.f x8 2).bind fun t256 => (halberdref13_Untime.l1 k x6 (wrap64 ((wrap64 (x7 + 337)) + t256)) (wrap64 (x8 + 1)) zz0 zz1 zz2 zz3 zz4 zz5)) else (halberdref13_Untime.l2 k x6 x7 1 zz0 zz1 zz2 zz3 zz4 zz5)
def halberdref13_Untime.l2 : Nat → Int → Int → Int → Int → Int → Int → Int → Int → Int → Option (Int × Int)
 | 0,_,_,_,_,_,_,_,_,_ => none
 | k + 1,x6,x7,x9,zz0,zz1,zz2,zz3,zz4,zz5 => if x9 < zz1 then ((halberdref13_days.f x6 x9).bind fun t257 => (halberdref13_Untime.l2 k x6 (wrap64 (x7 + t257)) (wrap64 (x9 + 1)) zz0 zz1 zz2 zz3 zz4 zz5)) else (some (wrap64 ((wrap64 ((wrap64 ((wrap64 (86400 * x7)) + (wrap64 (3600 * zz3)))) + (wrap64 (60 * zz4)))) + zz5),0))
end
def halberdref13_Untime.f (k : Nat) (a0 : ByteArray) : Option (Int × Int) := if (a0.size : Int) = 13 then (if 12 < (a0.size : Int) then (halberdref13_Untime.j0 k a0 ((bt a0 12) != 90)) else (none)) else (halberdref13_Untime.j0 k a0 true)
theorem halberdref13_Untime.mono_l : ∀ k,(∀ y0 y1,LeO (halberdref13_Untime.j0 k y0 y1) (halberdref13_Untime.j0 (k + 1) y0 y1)) ∧ (∀ y0 y1 y2 y3 y4 y5 y6 y7,LeO (halberdref13_Untime.l0 k y0 y1 y2 y3 y4 y5 y6 y7) (halberdref13_Untime.l0 (k + 1) y0 y1 y2 y3 y4 y5 y6 y7)) ∧ (∀ y0 y1 y2 y3 y4 y5 y6,LeO (halberdref13_Untime.j2 k y0 y1 y2 y3 y4 y5 y6) (halberdref13_Untime.j2 (k + 1) y0 y1 y2 y3 y4 y5 y6)) ∧ (∀ y0 y1 y2 y3 y4 y5 y6 y7,LeO (halberdref13_Untime.j3 k y0 y1 y2 y3 y4 y5 y6 y7) (halberdref13_Untime.j3 (k + 1) y0 y1 y2 y3 y4 y5 y6 y7)) ∧ (∀ y0 y1 y2 y3 y4 y5 y6 y7 y8,LeO (halberdref13_Untime.l1 k y0 y1 y2 y3 y4 y5 y6 y7 y8) (halberdref13_Untime.l1 (k + 1) y0 y1 y2 y3 y4 y5 y6 y7 y8)) ∧ (∀ y0 y1 y2 y3 y4 y5 y6 y7 y8,LeO (halberdref13_Untime.l2 k y0 y1 y2 y3 y4 y5 y6 y7 y8) (halberdref13_Untime.l2 (k + 1) y0 y1 y2 y3 y4 y5 y6 y7 y8))
 | 0 => ⟨fun _ _ r h => by simp [halberdref13_Untime.j0] at h,fun _ _ _ _ _ _ _ _ r h => by simp [halberdref13_Untime.l0] at h,fun _ _ _ _ _ _ _ r h => by simp [halberdref13_Untime.j2] at h,fun _ _ _ _ _ _ _ _ r h => by simp [halberdref13_Untime.j3] at h,fun _ _ _ _ _ _ _ _ _ r h => by simp [halberdref13_Untime.l1] at h,fun _ _ _ _ _ _ _ _ _ r h => by simp [halberdref13_Untime.l2] at h⟩
 | k + 1 => by
  obtain ⟨ih0,ih1,ih2,ih3,ih4,ih5⟩ := halberdref13_Untime.mono_l k
  refine ⟨?_,?_,?_,?_,?_,?_⟩
  ·intro y0 y1
   unfold halberdref13_Untime.j0
   repeat' first
   | (with_reducible exact ih0 _ _)
   | (with_reducible exact ih1 _ _ _ _ _ _ _ _)
   | (with_reducible exact ih2 _ _ _ _ _ _ _)
   | (with_reducible exact ih3 _ _ _ _ _ _ _ _)
   | (with_reducible exact ih4 _ _ _ _ _ _ _ _ _)
   | (with_reducible exact ih5 _ _ _ _ _ _ _ _ _)
   | (with_reducible exact LeO.refl _)
   | (with_reducible exact LeO.none _)
   | (with_reducible refine LeO.ite ?_ ?_)
   | (with_reducible refine LeO.bind ?_ (fun _ => ?_))
   | exact ih0 _ _
   | exact ih1 _ _ _ _ _ _ _ _
   | exact ih2 _ _ _ _ _ _ _
   | exact ih3 _ _ _ _ _ _ _ _
   | exact ih4 _ _ _ _ _ _ _ _ _
   | exact ih5 _ _ _ _ _ _ _ _ _
   | exact LeO.none _
   | refine LeO.ite ?_ ?_
   | refine LeO.bind ?_ (fun _ => ?_)
  ·intro y0 y1 y2 y3 y4 y5 y6 y7
   unfold halberdref13_Untime.l0
   repeat' first
   | (with_reducible exact ih0 _ _)
   | (with_reducible exact ih1 _ _ _ _ _ _ _ _)
   | (with_reducible exact ih2 _ _ _ _ _ _ _)
   | (with_reducible exact ih3 _ _ _ _ _ _ _ _)
   | (with_reducible exact ih4 _ _ _ _ _ _ _ _ _)
   | (with_reducible exact ih5 _ _ _ _ _ _ _ _ _)
   | (with_reducible exact LeO.refl _)
   | (with_reducible exact LeO.none _)
   | (with_reducible refine LeO.ite ?_ ?_)
   | (with_reducible refine LeO.bind ?_ (fun _ => ?_))
   | exact ih0 _ _
   | exact ih1 _ _ _ _ _ _ _ _
   | exact ih2 _ _ _ _ _ _ _
   | exact ih3 _ _ _ _ _ _ _ _
   | exact ih4 _ _ _ _ _ _ _ _ _
   | exact ih5 _ _ _ _ _ _ _ _ _
   | exact LeO.none _
   | refine LeO.ite ?_ ?_
   | refine LeO.bind ?_ (fun _ => ?_)
  ·intro y0 y1 y2 y3 y4 y5 y6
   unfold halberdref13_Untime.j2
   repeat' first
   | (with_reducible exact ih0 _ _)
   | (with_reducible exact ih1 _ _ _ _ _ _ _ _)
   | (with_reducible exact ih2 _ _ _ _ _ _ _)
   | (with_reducible exact ih3 _ _ _ _ _ _ _ _)
   | (with_reducible exact ih4 _ _ _ _ _ _ _ _ _)
   | (with_reducible exact ih5 _ _ _ _ _ _ _ _ _)
   | (with_reducible exact LeO.refl _)
   | (with_reducible exact LeO.none _)
   | (with_reducible refine LeO.ite ?_ ?_)
   | (with_reducible refine LeO.bind ?_ (fun _ => ?_))
   | exact ih0 _ _
   | exact ih1 _ _ _ _ _ _ _ _
   | exact ih2 _ _ _ _ _ _ _
   | exact ih3 _ _ _ _ _ _ _ _
   | exact ih4 _ _ _ _ _ _ _ _ _
   | exact ih5 _ _ _ _ _ _ _ _ _
   | exact LeO.none _
   | refine LeO.ite ?_ ?_
   | refine LeO.bind ?_ (fun _ => ?_)
  ·intro y0 y1 y2 y3 y4 y5 y6 y7
   unfold halberdref13_Untime.j3
   repeat' first
   | (with_reducible exact ih0 _ _)
   | (with_reducible exact ih1 _ _ _ _ _ _ _ _)
   | (with_reducible exact ih2 _ _ _ _ _ _ _)
   | (with_reducible exact ih3 _ _ _ _ _ _ _ _)
   | (with_reducible exact ih4 _ _ _ _ _ _ _ _ _)
   | (with_reducible exact ih5 _ _ _ _ _ _ _ _ _)
   | (with_reducible exact LeO.refl _)
   | (with_reducible exact LeO.none _)
   | (with_reducible refine LeO.ite ?_ ?_)
   | (with_reducible refine LeO.bind ?_ (fun _ => ?_))
   | exact ih0 _ _
   | exact ih1 _ _ _ _ _ _ _ _
   | exact ih2 _ _ _ _ _ _ _
   | exact ih3 _ _ _ _ _ _ _ _
   | exact ih4 _ _ _ _ _ _ _ _ _
   | exact ih5 _ _ _ _ _ _ _ _ _
   | exact LeO.none _
   | refine LeO.ite ?_ ?_
   | refine LeO.bind ?_ (fun _ => ?_)
  ·intro y0 y1 y2 y3 y4 y5 y6 y7 y8
   unfold halberdref13_Untime.l1
   repeat' first
   | (with_reducible exact ih0 _ _)
   | (with_reducible exact ih1 _ _ _ _ _ _ _ _)
   | (with_reducible exact ih2 _ _ _ _ _ _ _)
   | (with_reducible exact ih3 _ _ _ _ _ _ _ _)
   | (with_reducible exact ih4 _ _ _ _ _ _ _ _ _)
   | (with_reducible exact ih5 _ _ _ _ _ _ _ _ _)
   | (with_reducible exact LeO.refl _)
   | (with_reducible exact LeO.none _)
   | (with_reducible refine LeO.ite ?_ ?_)
   | (with_reducible refine LeO.bind ?_ (fun _ => ?_))
   | exact ih0 _ _
   | exact ih1 _ _ _ _ _ _ _ _
   | exact ih2 _ _ _ _ _ _ _
   | exact ih3 _ _ _ _ _ _ _ _
   | exact ih4 _ _ _ _ _ _ _ _ _
   | exact ih5 _ _ _ _ _ _ _ _ _
   | exact LeO.none _
   | refine LeO.ite ?_ ?_
   | refine LeO.bind ?_ (fun _ => ?_)
  ·intro y0 y1 y2 y3 y4 y5 y6 y7 y8
   unfold halberdref13_Untime.l2
   repeat' first
   | (with_reducible exact ih0 _ _)
   | (with_reducible exact ih1 _ _ _ _ _ _ _ _)
   | (with_reducible exact ih2 _ _ _ _ _ _ _)
   | (with_reducible exact ih3 _ _ _ _ _ _ _ _)
   | (with_reducible exact ih4 _ _ _ _ _ _ _ _ _)
   | (with_reducible exact ih5 _ _ _ _ _ _ _ _ _)
   | (with_reducible exact LeO.refl _)
   | (with_reducible exact LeO.none _)
   | (with_reducible refine LeO.ite ?_ ?_)
   | (with_reducible refine LeO.bind ?_ (fun _ => ?_))
   | exact ih0 _ _
   | exact ih1 _ _ _ _ _ _ _ _
   | exact ih2 _ _ _ _ _ _ _
   | exact ih3 _ _ _ _ _ _ _ _
   | exact ih4 _ _ _ _ _ _ _ _ _
   | exact ih5 _ _ _ _ _ _ _ _ _
   | exact LeO.none _
   | refine LeO.ite ?_ ?_
   | refine LeO.bind ?_ (fun _ => ?_)
theorem halberdref13_Untime.mono : ∀ a0 k,LeO (halberdref13_Untime.f k a0) (halberdref13_Untime.f (k + 1) a0) := by
 intro a0 k
 obtain ⟨ih0,ih1,ih2,ih3,ih4,ih5⟩ := halberdref13_Untime.mono_l k
 unfold halberdref13_Untime.f
 repeat' first
   | (with_reducible exact ih0 _ _)
   | (with_reducible exact ih1 _ _ _ _ _ _ _ _)
   | (with_reducible exact ih2 _ _ _ _ _ _ _)
   | (with_reducible exact ih3 _ _ _ _ _ _ _ _)
   | (with_reducible exact ih4 _ _ _ _ _ _ _ _ _)
   | (with_reducible exact ih5 _ _ _ _ _ _ _ _ _)
   | (with_reducible exact LeO.refl _)
   | (with_reducible exact LeO.none _)
   | (with_reducible refine LeO.ite ?_ ?_)
   | (with_reducible refine LeO.bind ?_ (fun _ => ?_))
   | exact ih0 _ _
   | exact ih1 _ _ _ _ _ _ _ _
   | exact ih2 _ _ _ _ _ _ _
   | exact ih3 _ _ _ _ _ _ _ _
   | exact ih4 _ _ _ _ _ _ _ _ _
   | exact ih5 _ _ _ _ _ _ _ _ _
   | exact LeO.none _
   | refine LeO.ite ?_ ?_
   | refine LeO.bind ?_ (fun _ => ?_)
def halberdref13_Untime.T9 : Bool × List (List Nat × List Nat) := (true,[([],[]),([0],[0]),([],[]),([2],[2]),([3],[3]),([4],[4]),([5],[5]),([],[]),([],[]),([7,8],[7,8]),([9],[9]),([10],[10]),([6,11],[6,11]),([1,0,1,2,3,4,5,6,7,8,9,10,11,12],[1]),([13,12,0,1,2,3,4,5,6,7,8,9,10,11,12],[12,13])])
def halberdref13_Untime.B9 : List Nat := [0,1,0,4,12,28,60,0,0,384,896,1920,4092,8191,16383]
theorem halberdref13_Untime.tab9 : rtab .any (opsOf Try.f15 9) = halberdref13_Untime.T9 := by kernel_rfl
theorem halberdref13_Untime.bits9 : waitsOk halberdref13_Untime.T9.2 halberdref13_Untime.B9 = true := by kernel_rfl
def halberdref13_Untime.T13 : Bool × List (List Nat × List Nat) := (true,[([],[]),([0],[0]),([1],[1]),([2],[2]),([3,2],[2,3]),([4,2],[2,4]),([2,5],[2,5]),([6,2],[6]),([7],[7]),([8,7],[7,8]),([9,7],[7,9]),([7,10],[7,10]),([11,7],[11]),([12],[12]),([13,12],[12,13]),([14,12],[12,14]),([12,15],[12,15]),([16,12],[16]),([17],[17]),([18,17],[17,18]),([17],[17]),([17],[17]),([21,17],[17,21]),([20,22,17,17],[17,20,22]),([19,23,17],[17,19,23]),([17,24],[17,24]),([25,23],[25]),([26],[26]),([27,26],[26,27]),([28,26],[26,28]),([26,29],[26,29]),([30,26],[30]),([31],[31]),([32,31],[31,32]),([33,31],[31,33]),([31,34],[31,34]),([35,31],[35]),([36],[36]),([37,36],[36,37]),([38,36],[36,38]),([36,39],[36,39])])
def halberdref13_Untime.B13 : List Nat := [0,1,3,7,15,31,63,127,255,511,1023,2047,4095,8191,16383,32767,65535,131071,262143,524287,262143,262143,2359295,7602175,16777215,33554431,67108863,134217727,268435455,536870911,1073741823,2147483647,4294967295,8589934591,17179869183,34359738367,68719476735,137438953471,274877906943,549755813887,1099511627775]
theorem halberdref13_Untime.tab13 : rtab .any (opsOf Try.f15 13) = halberdref13_Untime.T13 := by kernel_rfl
theorem halberdref13_Untime.bits13 : waitsOk halberdref13_Untime.T13.2 halberdref13_Untime.B13 = true := by kernel_rfl

end Go.Proofs.Ytonemdclfgckoaa.X
