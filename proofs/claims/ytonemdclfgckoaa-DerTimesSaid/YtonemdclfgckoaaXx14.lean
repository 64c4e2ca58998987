-- Written by a program of this session (wip/tools/xprint.py), over the kit's printer.
import Derived.Test.YtonemdclfgckoaaXx0
import Derived.Test.YtonemdclfgckoaaXx9
import Derived.Test.YtonemdclfgckoaaXx13
namespace Go.Proofs.Ytonemdclfgckoaa.X
open Go.RowKit Go.Proofs.YtonemdclfgckoaaW.PrintWords Go.Proofs.YtonemdclfgckoaaW.PrintLast Go.Proofs.YtonemdclfgckoaaW.PrintMore
attribute [local go_sem] max2_int min2_int max_two min_two max_three min_three max_four min_four   -- for this text's walks alone
set_option linter.unusedVariables false
set_option linter.unusedSimpArgs false

theorem LSET14_ : (∀ (l : List Value) (i : Nat) (a : Value),l.toArray.setIfInBounds i a = (l.set i a).toArray) ∧ (∀ (x y : Value) (l : List Value),(x :: l).set 0 y = y :: l) ∧ (∀ (x y : Value) (l : List Value) (n : Nat),(x :: l).set (n + 1) y = x :: l.set n y) ∧ (∀ n : Int,IntKind.i64.wrap n = Go.RowKit.wrap64 n) ∧ (∀ n : Int,IntKind.i32.wrap n = Go.RowKit.wrap32 n) := ⟨fun l i a => List.setIfInBounds_toArray ..,fun x y l => List.set_cons_zero ..,fun x y l n => List.set_cons_succ ..,i64_w,i32_w⟩

abbrev AR14_0 : Array Bool := #[false,false,false,false,false,false,false,false,false,false,false,false,false,false,false,false,false,false,false,false,false,false,false,false,false,false,false,false,false,false,false,false,false,false,false,false,false]
abbrev AR14_1 : Array Bool := #[true,false,false,false,false,false,false,false,false,false,false,false,false,false,false,false,false,false,false,false,false,false,false,false,false,false,false,false,false,false,false,false,false,false,false,false,false]
abbrev AR14_2 : Array Bool := #[true,true,false,false,false,false,false,false,false,false,false,false,false,false,false,false,false,false,false,false,false,false,false,false,false,false,false,false,false,false,false,false,false,false,false,false,false]
abbrev AR14_3 : Array Bool := #[true,true,true,false,false,false,false,false,false,false,false,false,false,false,false,false,false,false,false,false,false,false,false,false,false,false,false,false,false,false,false,false,false,false,false,false,false]
abbrev AR14_4 : Array Bool := #[true,true,true,true,false,false,false,false,false,false,false,false,false,false,false,false,false,false,false,false,false,false,false,false,false,false,false,false,false,false,false,false,false,false,false,false,false]
abbrev AR14_5 : Array Bool := #[true,true,true,true,true,false,false,false,false,false,false,false,false,false,false,false,false,false,false,false,false,false,false,false,false,false,false,false,false,false,false,false,false,false,false,false,false]
abbrev AR14_6 : Array Bool := #[true,true,true,true,true,true,false,false,false,false,false,false,false,false,false,false,false,false,false,false,false,false,false,false,false,false,false,false,false,false,false,false,false,false,false,false,false]
abbrev AR14_7 : Array Bool := #[true,true,true,true,true,true,true,false,false,false,false,false,false,false,false,false,false,false,false,false,false,false,false,false,false,false,false,false,false,false,false,false,false,false,false,false,false]
abbrev AR14_8 : Array Bool := #[true,true,true,true,true,true,true,true,false,false,false,false,false,false,false,false,false,false,false,false,false,false,false,false,false,false,false,false,false,false,false,false,false,false,false,false,false]
abbrev AR14_9 : Array Bool := #[true,true,true,true,true,true,true,true,true,false,false,false,false,false,false,false,false,false,false,false,false,false,false,false,false,false,false,false,false,false,false,false,false,false,false,false,false]
abbrev AR14_10 : Array Bool := #[true,true,true,true,true,true,true,true,true,true,false,false,false,false,false,false,false,false,false,false,false,false,false,false,false,false,false,false,false,false,false,false,false,false,false,false,false]
abbrev AR14_11 : Array Bool := #[true,true,true,true,true,true,true,true,true,true,true,false,false,false,false,false,false,false,false,false,false,false,false,false,false,false,false,false,false,false,false,false,false,false,false,false,false]
abbrev AR14_12 : Array Bool := #[true,true,true,true,true,true,true,true,true,true,true,true,false,false,false,false,false,false,false,false,false,false,false,false,false,false,false,false,false,false,false,false,false,false,false,false,false]
abbrev AR14_13 : Array Bool := #[true,true,true,true,true,true,true,true,true,true,true,true,true,false,false,false,false,false,false,false,false,false,false,false,false,false,false,false,false,false,false,false,false,false,false,false,false]
abbrev AR14_14 : Array Bool := #[true,true,true,true,true,true,true,true,true,true,true,true,true,true,false,false,false,false,false,false,false,false,false,false,false,false,false,false,false,false,false,false,false,false,false,false,false]
abbrev AR14_15 : Array Bool := #[true,true,true,true,true,true,true,true,true,true,true,true,true,true,true,false,false,false,false,false,false,false,false,false,false,false,false,false,false,false,false,false,false,false,false,false,false]
abbrev AR14_16 : Array Bool := #[true,true,true,true,true,true,true,true,true,true,true,true,true,true,true,false,true,false,false,false,false,false,false,false,false,false,false,false,false,false,false,false,false,false,false,false,false]
abbrev AR14_17 : Array Bool := #[true,true,true,true,true,true,true,true,true,true,true,true,true,true,true,false,true,true,false,false,false,false,false,false,false,false,false,false,false,false,false,false,false,false,false,false,false]
abbrev AR14_18 : Array Bool := #[true,true,true,true,true,true,true,true,true,true,true,true,true,true,true,true,false,false,false,false,false,false,false,false,false,false,false,false,false,false,false,false,false,false,false,false,false]
abbrev AR14_19 : Array Bool := #[true,true,true,true,true,true,true,true,true,true,true,true,true,true,true,true,true,false,false,false,false,false,false,false,false,false,false,false,false,false,false,false,false,false,false,false,false]
abbrev AR14_20 : Array Bool := #[true,true,true,true,true,true,true,true,true,true,true,true,true,true,true,true,true,true,false,false,false,false,false,false,false,false,false,false,false,false,false,false,false,false,false,false,false]
abbrev AR14_21 : Array Bool := #[true,true,true,true,true,true,true,true,true,true,true,true,true,true,true,true,true,true,true,false,false,false,false,false,false,false,false,false,false,false,false,false,false,false,false,false,false]
abbrev AR14_22 : Array Bool := #[true,true,true,true,true,true,true,true,true,true,true,true,true,true,true,true,true,true,true,true,false,false,false,false,false,false,false,false,false,false,false,false,false,false,false,false,false]
abbrev AR14_23 : Array Bool := #[true,true,true,true,true,true,true,true,true,true,true,true,true,true,true,true,true,true,true,true,true,false,false,false,false,false,false,false,false,false,false,false,false,false,false,false,false]
abbrev AR14_24 : Array Bool := #[true,true,true,true,true,true,true,true,true,true,true,true,true,true,true,true,true,true,true,true,true,true,false,false,false,false,false,false,false,false,false,false,false,false,false,false,false]
abbrev AR14_25 : Array Bool := #[true,true,true,true,true,true,true,true,true,true,true,true,true,true,true,true,true,true,true,true,true,true,true,false,false,false,false,false,false,false,false,false,false,false,false,false,false]
abbrev AR14_26 : Array Bool := #[true,true,true,true,true,true,true,true,true,true,true,true,true,true,true,true,true,true,true,true,true,true,true,true,false,false,false,false,false,false,false,false,false,false,false,false,false]
abbrev AR14_27 : Array Bool := #[true,true,true,true,true,true,true,true,true,true,true,true,true,true,true,true,true,true,true,true,true,true,true,true,true,false,false,false,false,false,false,false,false,false,false,false,false]
abbrev AR14_28 : Array Bool := #[true,true,true,true,true,true,true,true,true,true,true,true,true,true,true,true,true,true,true,true,true,true,true,true,true,true,false,false,false,false,false,false,false,false,false,false,false]
abbrev AR14_29 : Array Bool := #[true,true,true,true,true,true,true,true,true,true,true,true,true,true,true,true,true,true,true,true,true,true,true,true,true,true,true,false,false,false,false,false,false,false,false,false,false]
abbrev AR14_30 : Array Bool := #[true,true,true,true,true,true,true,true,true,true,true,true,true,true,true,true,true,true,true,true,true,true,true,true,true,true,true,true,false,false,false,false,false,false,false,false,false]
abbrev AR14_31 : Array Bool := #[true,true,true,true,true,true,true,true,true,true,true,true,true,true,true,true,true,true,true,true,true,true,true,true,true,true,true,true,true,false,false,false,false,false,false,false,false]
abbrev AR14_32 : Array Bool := #[true,true,true,true,true,true,true,true,true,true,true,true,true,true,true,true,true,true,true,true,true,true,true,true,true,true,true,true,true,true,false,false,false,false,false,false,false]
abbrev AR14_33 : Array Bool := #[true,true,true,true,true,true,true,true,true,true,true,true,true,true,true,true,true,true,true,true,true,true,true,true,true,true,true,true,true,true,true,false,false,false,false,false,false]
abbrev AR14_34 : Array Bool := #[true,true,true,true,true,true,true,true,true,true,true,true,true,true,true,true,true,true,true,true,true,true,true,true,true,true,true,true,true,true,true,true,false,false,false,false,false]
abbrev AR14_35 : Array Bool := #[true,true,true,true,true,true,true,true,true,true,true,true,true,true,true,true,true,true,true,true,true,true,true,true,true,true,true,true,true,true,true,true,true,false,false,false,false]
abbrev AR14_36 : Array Bool := #[true,true,true,true,true,true,true,true,true,true,true,true,true,true,true,true,true,true,true,true,true,true,true,true,true,true,true,true,true,true,true,true,true,true,false,false,false]
abbrev AR14_37 : Array Bool := #[true,true,true,true,true,true,true,true,true,true,true,true,true,true,true,true,true,true,true,true,true,true,true,true,true,true,true,true,true,true,true,true,true,true,true,false,false]
abbrev AR14_38 : Array Bool := #[true,true,true,true,true,true,true,true,true,true,true,true,true,true,true,true,true,true,true,true,true,true,true,true,true,true,true,true,true,true,true,true,true,true,true,true,false]
abbrev AR14_39 : Array Bool := #[true,true,true,true,true,true,true,true,true,true,true,true,true,true,true,true,true,true,true,true,true,true,true,true,true,true,true,true,true,true,true,true,true,true,true,true,true]
/-! ### der_Untime: function 14 -/
mutual
def der_Untime.j0 : Nat → Bool → Int → Int → Int → Int → Int → Int → Option (Int × Int)
 | 0,_,_,_,_,_,_,_ => none
 | k + 1,x26,zz0,zz1,zz2,zz3,zz4,zz5 => if x26 = true then (some (0,1300)) else (if zz0 ≥ 70 then (der_Untime.j1 k (wrap64 ((wrap64 (2000 + zz0)) - 100)) zz0 zz1 zz2 zz3 zz4 zz5) else (der_Untime.j1 k (wrap64 (2000 + zz0)) zz0 zz1 zz2 zz3 zz4 zz5))
def der_Untime.j1 : Nat → Int → Int → Int → Int → Int → Int → Int → Option (Int × Int)
 | 0,_,_,_,_,_,_,_ => none
 | k + 1,x6,zz0,zz1,zz2,zz3,zz4,zz5 => if zz1 < 1 then (der_Untime.j2 k x6 true zz0 zz1 zz2 zz3 zz4 zz5) else (if zz1 > 12 then (der_Untime.j2 k x6 true zz0 zz1 zz2 zz3 zz4 zz5) else (if zz2 < 1 then (der_Untime.j2 k x6 true zz0 zz1 zz2 zz3 zz4 zz5) else ((der_days.f x6 zz1).bind fun t251 => (if zz2 > t251 then (der_Untime.j2 k x6 true zz0 zz1 zz2 zz3 zz4 zz5) else (if zz3 > 23 then (der_Untime.j2 k x6 true zz0 zz1 zz2 zz3 zz4 zz5) else (if zz4 > 59 then (der_Untime.j2 k x6 true zz0 zz1 zz2 zz3 zz4 zz5) else (der_Untime.j2 k x6 (decide (zz5 > 59)) zz0 zz1 zz2 zz3 zz4 zz5)))))))
def der_Untime.j2 : Nat → Int → Bool → Int → Int → Int → Int → Int → Int → Option (Int × Int)
 | 0,_,_,_,_,_,_,_,_ => none
 | k + 1,x6,x71,zz0,zz1,zz2,zz3,zz4,zz5 => if x71 = true then (some (0,1300)) else (der_Untime.l0 k x6 (wrap64 (zz2 - 1)) 1970 zz0 zz1 zz2 zz3 zz4 zz5)
def der_Untime.l0 : Nat → Int → Int → Int → Int → Int → Int → Int → Int → Int → Option (Int × Int)
 | 0,_,_,_,_,_,_,_,_,_ => none
 | k + 1,x6,x7,x8,zz0,zz1,zz2,zz3,zz4,zz5 => if x8 < x6 then ((der_yearDays.f x8).bind fun t252 => (der_Untime.l0 k x6 (wrap64 (x7 + t252)) (wrap64 (x8 + 1)) zz0 zz1 zz2 zz3 zz4 zz5)) else (der_Untime.l1 k x6 x7 1 zz0 zz1 zz2 zz3 zz4 zz5)
def der_Untime.l1 : Nat → Int → Int → Int → Int → Int → Int → Int → Int → Int → Option (Int × Int)
 | 0,_,_,_,_,_,_,_,_,_ => none
 | k + 1,x6,x7,x9,zz0,zz1,zz2,zz3,zz4,zz5 => if x9 < zz1 then ((der_days.f x6 x9).bind fun t253 => (der_Untime.l1 k x6 (wrap64 (x7 + t253)) (wrap64 (x9 + 1)) zz0 zz1 zz2 zz3 zz4 zz5)) else (some (wrap64 ((wrap64 ((wrap64 ((wrap64 (x7 * 86400)) + (wrap64 (zz3 * 3600)))) + (wrap64 (zz4 * 60)))) + zz5),0))
end
def der_Untime.f (k : Nat) (a0 : ByteArray) : Option (Int × Int) := (der_pairs.f k a0).bind fun bt243 => (if bt243.2.2.2.2.2.2 = true then (if bt243.1 ≥ 50 then (der_Untime.j0 k (decide (bt243.1 < 70)) bt243.1 bt243.2.1 bt243.2.2.1 bt243.2.2.2.1 bt243.2.2.2.2.1 bt243.2.2.2.2.2.1) else (der_Untime.j0 k false bt243.1 bt243.2.1 bt243.2.2.1 bt243.2.2.2.1 bt243.2.2.2.2.1 bt243.2.2.2.2.2.1)) else (der_Untime.j0 k true bt243.1 bt243.2.1 bt243.2.2.1 bt243.2.2.2.1 bt243.2.2.2.2.1 bt243.2.2.2.2.2.1))
theorem der_Untime.mono_l : ∀ k,(∀ y0 y1 y2 y3 y4 y5 y6,LeO (der_Untime.j0 k y0 y1 y2 y3 y4 y5 y6) (der_Untime.j0 (k + 1) y0 y1 y2 y3 y4 y5 y6)) ∧ (∀ y0 y1 y2 y3 y4 y5 y6,LeO (der_Untime.j1 k y0 y1 y2 y3 y4 y5 y6) (der_Untime.j1 (k + 1) y0 y1 y2 y3 y4 y5 y6)) ∧ (∀ y0 y1 y2 y3 y4 y5 y6 y7,LeO (der_Untime.j2 k y0 y1 y2 y3 y4 y5 y6 y7) (der_Untime.j2 (k + 1) y0 y1 y2 y3 y4 y5 y6 y7)) ∧ (∀ y0 y1 y2 y3 y4 y5 y6 y7 y8,LeO (der_Untime.l0 k y0 y1 y2 y3 y4 y5 y6 y7 y8) (der_Untime.l0 (k + 1) y0 y1 y2 y3 y4 y5 y6 y7 y8)) ∧ (∀ y0 y1 y2 y3 y4 y5 y6 y7 y8,LeO (der_Untime.l1 k y0 y1 y2 y3 y4 y5 y6 y7 y8) (der_Untime.l1 (k + 1) y0 y1 y2 y3 y4 y5 y6 y7 y8))
 | 0 => ⟨fun _ _ _ _ _ _ _ r h => by simp [der_Untime.j0] at h,fun _ _ _ _ _ _ _ r h => by simp [der_Untime.j1] at h,fun _ _ _ _ _ _ _ _ r h => by simp [der_Untime.j2] at h,fun _ _ _ _ _ _ _ _ _ r h => by simp [der_Untime.l0] at h,fun _ _ _ _ _ _ _ _ _ r h => by simp [der_Untime.l1] at h⟩
 | k + 1 => by
  obtain ⟨ih0,ih1,ih2,ih3,ih4⟩ := der_Untime.mono_l k
  refine ⟨?_,?_,?_,?_,?_⟩
  ·intro y0 y1 y2 y3 y4 y5 y6
   unfold der_Untime.j0
   repeat' first
   | (with_reducible exact ih0 _ _ _ _ _ _ _)
   | (with_reducible exact ih1 _ _ _ _ _ _ _)
   | (with_reducible exact ih2 _ _ _ _ _ _ _ _)
   | (with_reducible exact ih3 _ _ _ _ _ _ _ _ _)
   | (with_reducible exact ih4 _ _ _ _ _ _ _ _ _)
   | (with_reducible exact der_pairs.mono _ _)
   | (with_reducible exact LeO.refl _)
   | (with_reducible exact LeO.none _)
   | (with_reducible refine LeO.ite ?_ ?_)
   | (with_reducible refine LeO.bind ?_ (fun _ => ?_))
   | exact ih0 _ _ _ _ _ _ _
   | exact ih1 _ _ _ _ _ _ _
   | exact ih2 _ _ _ _ _ _ _ _
   | exact ih3 _ _ _ _ _ _ _ _ _
   | exact ih4 _ _ _ _ _ _ _ _ _
   | exact der_pairs.mono _ _
   | exact LeO.none _
   | refine LeO.ite ?_ ?_
   | refine LeO.bind ?_ (fun _ => ?_)
  ·intro y0 y1 y2 y3 y4 y5 y6
   unfold der_Untime.j1
   repeat' first
   | (with_reducible exact ih0 _ _ _ _ _ _ _)
   | (with_reducible exact ih1 _ _ _ _ _ _ _)
   | (with_reducible exact ih2 _ _ _ _ _ _ _ _)
   | (with_reducible exact ih3 _ _ _ _ _ _ _ _ _)
   | (with_reducible exact ih4 _ _ _ _ _ _ _ _ _)
   | (with_reducible exact der_pairs.mono _ _)
   | (with_reducible exact LeO.refl _)
   | (with_reducible exact LeO.none _)
   | (with_reducible refine LeO.ite ?_ ?_)
   | (with_reducible refine LeO.bind ?_ (fun _ => ?_))
   | exact ih0 _ _ _ _ _ _ _
   | exact ih1 _ _ _ _ _ _ _
   | exact ih2 _ _ _ _ _ _ _ _
   | exact ih3 _ _ _ _ _ _ _ _ _
   | exact ih4 _ _ _ _ _ _ _ _ _
   | exact der_pairs.mono _ _
   | exact LeO.none _
   | refine LeO.ite ?_ ?_
   | refine LeO.bind ?_ (fun _ => ?_)
  ·intro y0 y1 y2 y3 y4 y5 y6 y7
   unfold der_Untime.j2
   repeat' first
   | (with_reducible exact ih0 _ _ _ _ _ _ _)
   | (with_reducible exact ih1 _ _ _ _ _ _ _)
   | (with_reducible exact ih2 _ _ _ _ _ _ _ _)
   | (with_reducible exact ih3 _ _ _ _ _ _ _ _ _)
   | (with_reducible exact ih4 _ _ _ _ _ _ _ _ _)
   | (with_reducible exact der_pairs.mono _ _)
   | (with_reducible exact LeO.refl _)
   | (with_reducible exact LeO.none _)
   | (with_reducible refine LeO.ite ?_ ?_)
   | (with_reducible refine LeO.bind ?_ (fun _ => ?_))
   | exact ih0 _ _ _ _ _ _ _
   | exact ih1 _ _ _ _ _ _ _
   | exact ih2 _ _ _ _ _ _ _ _
   | exact ih3 _ _ _ _ _ _ _ _ _
   | exact ih4 _ _ _ _ _ _ _ _ _
   | exact der_pairs.mono _ _
   | exact LeO.none _
   | refine LeO.ite ?_ ?_
   | refine LeO.bind ?_ (fun _ => ?_)
  ·intro y0 y1 y2 y3 y4 y5 y6 y7 y8
   unfold der_Untime.l0
   repeat' first
   | (with_reducible exact ih0 _ _ _ _ _ _ _)
   | (with_reducible exact ih1 _ _ _ _ _ _ _)
   | (with_reducible exact ih2 _ _ _ _ _ _ _ _)
   | (with_reducible exact ih3 _ _ _ _ _ _ _ _ _)
   | (with_reducible exact ih4 _ _ _ _ _ _ _ _ _)
   | (with_reducible exact der_pairs.mono _ _)
   | (with_reducible exact LeO.refl _)
   | (with_reducible exact LeO.none _)
   | (with_reducible refine LeO.ite ?_ ?_)
   | (with_reducible refine LeO.bind ?_ (fun _ => ?_))
   | exact ih0 _ _ _ _ _ _ _
   | exact ih1 _ _ _ _ _ _ _
   | exact ih2 _ _ _ _ _ _ _ _
   | exact ih3 _ _ _ _ _ _ _ _ _
   | exact ih4 _ _ _ _ _ _ _ _ _
   | exact der_pairs.mono _ _
   | exact LeO.none _
   | refine LeO.ite ?_ ?_
   | refine LeO.bind ?_ (fun _ => ?_)
  ·intro y0 y1 y2 y3 y4 y5 y6 y7 y8
   unfold der_Untime.l1
   repeat' first
   | (with_reducible exact ih0 _ _ _ _ _ _ _)
   | (with_reducible exact ih1 _ _ _ _ _ _ _)
   | (with_reducible exact ih2 _ _ _ _ _ _ _ _)
   | (with_reducible exact ih3 _ _ _ _ _ _ _ _ _)
   | (with_reducible exact ih4 _ _ _ _ _ _ _ _ _)
   | (with_reducible exact der_pairs.mono _ _)
   | (with_reducible exact LeO.refl _)
   | (with_reducible exact LeO.none _)
   | (with_reducible refine LeO.ite ?_ ?_)
   | (with_reducible refine LeO.bind ?_ (fun _ => ?_))
   | exact ih0 _ _ _ _ _ _ _
   | exact ih1 _ _ _ _ _ _ _
   | exact ih2 _ _ _ _ _ _ _ _
   | exact ih3 _ _ _ _ _ _ _ _ _
   | exact ih4 _ _ _ _ _ _ _ _ _
   | exact der_pairs.mono _ _
   | exact LeO.none _
   | refine LeO.ite ?_ ?_
   | refine LeO.bind ?_ (fun _ => ?_)
theorem der_Untime.mono : ∀ a0 k,LeO (der_Untime.f k a0) (der_Untime.f (k + 1) a0) := by
 intro a0 k
 obtain ⟨ih0,ih1,ih2,ih3,ih4⟩ := der_Untime.mono_l k
 unfold der_Untime.f
 repeat' first
   | (with_reducible exact ih0 _ _ _ _ _ _ _)
   | (with_reducible exact ih1 _ _ _ _ _ _ _)
   | (with_reducible exact ih2 _ _ _ _ _ _ _ _)
   | (with_reducible exact ih3 _ _ _ _ _ _ _ _ _)
   | (with_reducible exact ih4 _ _ _ _ _ _ _ _ _)
   | (with_reducible exact der_pairs.mono _ _)
   | (with_reducible exact LeO.refl _)
   | (with_reducible exact LeO.none _)
   | (with_reducible refine LeO.ite ?_ ?_)
   | (with_reducible refine LeO.bind ?_ (fun _ => ?_))
   | exact ih0 _ _ _ _ _ _ _
   | exact ih1 _ _ _ _ _ _ _
   | exact ih2 _ _ _ _ _ _ _ _
   | exact ih3 _ _ _ _ _ _ _ _ _
   | exact ih4 _ _ _ _ _ _ _ _ _
   | exact der_pairs.mono _ _
   | exact LeO.none _
   | refine LeO.ite ?_ ?_
   | refine LeO.bind ?_ (fun _ => ?_)
def der_Untime.T7 : Bool × List (List Nat × List Nat) := (true,[([],[]),([0],[0]),([1],[1]),([2],[2]),([3],[3]),([4,3],[3,4]),([5,3],[3,5]),([3,6],[3,6]),([7,3],[7]),([8],[8]),([9,8],[8,9]),([10,8],[8,10]),([8,11],[8,11]),([12,8],[12]),([13],[13]),([14,13],[13,14]),([13],[13]),([13],[13]),([17,13],[13,17]),([16,18,13,13],[13,16,18]),([15,19,13],[13,15,19]),([13,20],[13,20]),([21,19],[21]),([22],[22]),([23,22],[22,23]),([24,22],[22,24]),([22,25],[22,25]),([26,22],[26]),([27],[27]),([28,27],[27,28]),([29,27],[27,29]),([27,30],[27,30]),([31,27],[31]),([32],[32]),([33,32],[32,33]),([34,32],[32,34]),([32,35],[32,35])])
def der_Untime.B7 : List Nat := [0,1,3,7,15,31,63,127,255,511,1023,2047,4095,8191,16383,32767,16383,16383,147455,475135,1048575,2097151,4194303,8388607,16777215,33554431,67108863,134217727,268435455,536870911,1073741823,2147483647,4294967295,8589934591,17179869183,34359738367,68719476735]
theorem der_Untime.tab7 : rtab .any (opsOf Try.f14 7) = der_Untime.T7 := by kernel_rfl
theorem der_Untime.bits7 : waitsOk der_Untime.T7.2 der_Untime.B7 = true := by kernel_rfl
set_option maxHeartbeats 8000000 in
set_option maxRecDepth 100000 in
theorem der_Untime.calls (k : Nat) (a0 : ByteArray) (r1 : Int) (r2 : Int) (w : World) (h : der_Untime.f k a0 = some (r1,r2)) :
  Calls Try.prog 14 #[.string a0] w fun e w' => e = .returned (.tuple #[.int .i64 r1,.int .i64 r2]) ∧ Below w.heap.size w w' := by
 have hu55 := Try.underlying55
 have HB := Aside0.mk (Below.refl w.heap.size w)
 have H : ((der_pairs.f k a0).bind fun bt243 => (if bt243.2.2.2.2.2.2 = true then (if bt243.1 ≥ 50 then (der_Untime.j0 k (decide (bt243.1 < 70)) bt243.1 bt243.2.1 bt243.2.2.1 bt243.2.2.2.1 bt243.2.2.2.2.1 bt243.2.2.2.2.2.1) else (der_Untime.j0 k false bt243.1 bt243.2.1 bt243.2.2.1 bt243.2.2.2.1 bt243.2.2.2.2.1 bt243.2.2.2.2.2.1)) else (der_Untime.j0 k true bt243.1 bt243.2.1 bt243.2.2.1 bt243.2.2.2.1 bt243.2.2.2.2.1 bt243.2.2.2.2.2.1))) = some (r1,r2) := h
 clear h
 replace H := Option.bind_eq_some_iff.mp H
 obtain ⟨⟨t243,t244,t245,t246,t247,t248,t249⟩,A20,H⟩ := H
 replace H : (if t249 = true then (if t243 ≥ 50 then (der_Untime.j0 k (decide (t243 < 70)) t243 t244 t245 t246 t247 t248) else (der_Untime.j0 k false t243 t244 t245 t246 t247 t248)) else (der_Untime.j0 k true t243 t244 t245 t246 t247 t248)) = some (r1,r2) := H
 have A2 := Aside0.mk A20
 clear A20
 have HC3 := Aside0.mk H
 clear H
 go_enter Try.func14,Try.ntmps14
 go_upto_region 2 with (first | ((with_reducible refine gate_callee (f := 26) rfl ?_); refine goesL_ (some 12) rfl rfl Try.func26 (by kernel_rfl) rfl #[.string a0] rfl (by (try simp only [List.map_toArray,List.map_cons,List.map_nil]); first | done | rfl | (simp only [List.length_drop,List.length_take]; rfl)) ?_; (with_reducible refine (der_pairs.calls k a0 t243 t244 t245 t246 t247 t248 t249 _ A2.out).mono ?_); rintro e w4 ⟨rfl,hb⟩; refine ⟨_,rfl,?_⟩; have n0_ := Aside0.mk (below_step (by repeat (first | (with_reducible first | exact HB.out | apply below_alloc | apply pw_below_drewN | apply below_drew1) | exact HB.out)) hb); clear HB; have HB := n0_; clear n0_; (try clear hb); (try clear hb2); (try clear hk); (try clear hi)) | ((with_reducible refine gate_dst (N := 4) rfl ?_); refine box_event ?hg (N := 4) ?hd (cs := #[.int .i64 0,.int .i64 0,.int .i64 0,.int .i64 0,.int .i64 0,.int .i64 0]) (t := 55) ?hr ?_; (case hd => rfl); (case hg => rfl); (case hr => first | (go_simp; done) | (go_simp; rfl)); intro gb250 hg w5 hbox hb; have n0_ := Aside0.mk (below_step (by repeat (first | (with_reducible first | exact HB.out | apply below_alloc | apply pw_below_drewN | apply below_drew1) | exact HB.out)) hb); have n1_ := Aside0.mk (hbox); have n2_ := Aside0.mk ((by rw [hg]; exact (below_size (by repeat (first | (with_reducible first | exact HB.out | apply below_alloc | apply pw_below_drewN | apply below_drew1) | exact HB.out))) : w.heap.size ≤ gb250)); have n3_ := Aside0.mk ((by rw [hg]; exact (below_size (by repeat (first | (with_reducible first | exact HB.out | apply below_alloc | apply pw_below_drewN | apply below_drew1) | exact HB.out))) : w.heap.size ≤ gb250)); clear HB; have HB := n0_; have BK250 := n1_; have GW250 := n2_; have GE250 := n3_; clear n0_ n1_ n2_ n3_; clear hb hbox hg; have hcz6_0 : w5.cell? ⟨gb250,0,none⟩ = some (.int .i64 0) := (blk_cell BK250.out 0).trans rfl; have hcz6_1 : w5.cell? ⟨gb250,1,none⟩ = some (.int .i64 0) := (blk_cell BK250.out 1).trans rfl; have hcz6_2 : w5.cell? ⟨gb250,2,none⟩ = some (.int .i64 0) := (blk_cell BK250.out 2).trans rfl; have hcz6_3 : w5.cell? ⟨gb250,3,none⟩ = some (.int .i64 0) := (blk_cell BK250.out 3).trans rfl; have hcz6_4 : w5.cell? ⟨gb250,4,none⟩ = some (.int .i64 0) := (blk_cell BK250.out 4).trans rfl; have hcz6_5 : w5.cell? ⟨gb250,5,none⟩ = some (.int .i64 0) := (blk_cell BK250.out 5).trans rfl; have hfz6_0 := blk_frozen BK250.out 0; have hfz6_1 := blk_frozen BK250.out 1; have hfz6_2 := blk_frozen BK250.out 2; have hfz6_3 := blk_frozen BK250.out 3; have hfz6_4 := blk_frozen BK250.out 4; have hfz6_5 := blk_frozen BK250.out 5))
 (try simp only [Act.put,List.setIfInBounds_toArray,List.set_cons_zero,List.set_cons_succ])
 go_cut [26] (fun v26 wc => ∃ (kq : Nat) (x26_2 : Bool),v26 = .bool x26_2 ∧ Aside0 (der_Untime.j0 kq x26_2 t243 t244 t245 t246 t247 t248 = some (r1,r2)) ∧ Aside0 (kq ≤ k) ∧ Aside0 (wc.heap[gb250]? = some (.cells #[.int .i64 t243,.int .i64 t244,.int .i64 t245,.int .i64 t246,.int .i64 t247,.int .i64 t248] 55 (0,0))) ∧ Aside0 (Below w.heap.size w wc))
 case first =>
  have H := HC3.out
  clear HC3
  by_cases c7 : t249 = true
  ·subst c7
   have H1 : (if t243 ≥ 50 then (der_Untime.j0 k (decide (t243 < 70)) t243 t244 t245 t246 t247 t248) else (der_Untime.j0 k false t243 t244 t245 t246 t247 t248)) = some (r1,r2) := by rw [if_pos rfl] at H; exact H
   clear H
   have H := H1
   clear H1
   by_cases c8 : t243 ≥ 50
   ·rw [if_pos c8] at H
    have c8b0 : decide (50 ≤ t243) = true := decide_eq_true c8
    clear c8
    (first | rw [c8b0] | (simp only [i64_w,i32_w]; rw [c8b0]) | skip)
    have H' := Aside0.mk H
    clear H
    have hcz9_0 : w5.cell? ⟨gb250,0,none⟩ = some (.int .i64 0) := (blk_cell BK250.out 0).trans rfl
    have hcz9_1 : w5.cell? ⟨gb250,1,none⟩ = some (.int .i64 0) := (blk_cell BK250.out 1).trans rfl
    have hcz9_2 : w5.cell? ⟨gb250,2,none⟩ = some (.int .i64 0) := (blk_cell BK250.out 2).trans rfl
    have hcz9_3 : w5.cell? ⟨gb250,3,none⟩ = some (.int .i64 0) := (blk_cell BK250.out 3).trans rfl
    have hcz9_4 : w5.cell? ⟨gb250,4,none⟩ = some (.int .i64 0) := (blk_cell BK250.out 4).trans rfl
    have hcz9_5 : w5.cell? ⟨gb250,5,none⟩ = some (.int .i64 0) := (blk_cell BK250.out 5).trans rfl
    have hfz9_0 := blk_frozen BK250.out 0
    have hfz9_1 := blk_frozen BK250.out 1
    have hfz9_2 := blk_frozen BK250.out 2
    have hfz9_3 := blk_frozen BK250.out 3
    have hfz9_4 := blk_frozen BK250.out 4
    have hfz9_5 := blk_frozen BK250.out 5
    go_wp2
    go_meet
    case rel => exact ⟨_,(decide (t243 < 70)),(by first | rfl | (simp; done) | (simp [*]; done)),H',⟨by first | omega | exact Nat.le_refl _⟩,⟨by (with_reducible repeat (first | refine blk_drewN ?_ _ | refine blk_drew ?_ | refine blk_alloc ?_ _)); refine blk_put (cs := #[.int .i64 t243,.int .i64 t244,.int .i64 t245,.int .i64 t246,.int .i64 t247,.int .i64 0]) ?_ 5 _ rfl; (with_reducible repeat (first | refine blk_drewN ?_ _ | refine blk_drew ?_ | refine blk_alloc ?_ _)); refine blk_put (cs := #[.int .i64 t243,.int .i64 t244,.int .i64 t245,.int .i64 t246,.int .i64 0,.int .i64 0]) ?_ 4 _ rfl; (with_reducible repeat (first | refine blk_drewN ?_ _ | refine blk_drew ?_ | refine blk_alloc ?_ _)); refine blk_put (cs := #[.int .i64 t243,.int .i64 t244,.int .i64 t245,.int .i64 0,.int .i64 0,.int .i64 0]) ?_ 3 _ rfl; (with_reducible repeat (first | refine blk_drewN ?_ _ | refine blk_drew ?_ | refine blk_alloc ?_ _)); refine blk_put (cs := #[.int .i64 t243,.int .i64 t244,.int .i64 0,.int .i64 0,.int .i64 0,.int .i64 0]) ?_ 2 _ rfl; (with_reducible repeat (first | refine blk_drewN ?_ _ | refine blk_drew ?_ | refine blk_alloc ?_ _)); refine blk_put (cs := #[.int .i64 t243,.int .i64 0,.int .i64 0,.int .i64 0,.int .i64 0,.int .i64 0]) ?_ 1 _ rfl; (with_reducible repeat (first | refine blk_drewN ?_ _ | refine blk_drew ?_ | refine blk_alloc ?_ _)); refine blk_put (cs := #[.int .i64 0,.int .i64 0,.int .i64 0,.int .i64 0,.int .i64 0,.int .i64 0]) ?_ 0 _ rfl; (with_reducible repeat (first | refine blk_drewN ?_ _ | refine blk_drew ?_ | refine blk_alloc ?_ _)); exact BK250.out⟩,⟨by repeat (first | (with_reducible first | exact HB.out | apply below_alloc | apply pw_below_drewN | apply below_drew1 | refine below_set ?_ GE250.out) | exact HB.out)⟩⟩
   ·rw [if_neg c8] at H
    have c8b0 : decide (50 ≤ t243) = false := decide_eq_false c8
    clear c8
    (first | rw [c8b0] | (simp only [i64_w,i32_w]; rw [c8b0]) | skip)
    have H' := Aside0.mk H
    clear H
    have hcz10_0 : w5.cell? ⟨gb250,0,none⟩ = some (.int .i64 0) := (blk_cell BK250.out 0).trans rfl
    have hcz10_1 : w5.cell? ⟨gb250,1,none⟩ = some (.int .i64 0) := (blk_cell BK250.out 1).trans rfl
    have hcz10_2 : w5.cell? ⟨gb250,2,none⟩ = some (.int .i64 0) := (blk_cell BK250.out 2).trans rfl
    have hcz10_3 : w5.cell? ⟨gb250,3,none⟩ = some (.int .i64 0) := (blk_cell BK250.out 3).trans rfl
    have hcz10_4 : w5.cell? ⟨gb250,4,none⟩ = some (.int .i64 0) := (blk_cell BK250.out 4).trans rfl
    have hcz10_5 : w5.cell? ⟨gb250,5,none⟩ = some (.int .i64 0) := (blk_cell BK250.out 5).trans rfl
    have hfz10_0 := blk_frozen BK250.out 0
    have hfz10_1 := blk_frozen BK250.out 1
    have hfz10_2 := blk_frozen BK250.out 2
    have hfz10_3 := blk_frozen BK250.out 3
    have hfz10_4 := blk_frozen BK250.out 4
    have hfz10_5 := blk_frozen BK250.out 5
    go_wp2
    go_meet
    case rel => exact ⟨_,(false),(by first | rfl | (simp; done) | (simp [*]; done)),H',⟨by first | omega | exact Nat.le_refl _⟩,⟨by (with_reducible repeat (first | refine blk_drewN ?_ _ | refine blk_drew ?_ | refine blk_alloc ?_ _)); refine blk_put (cs := #[.int .i64 t243,.int .i64 t244,.int .i64 t245,.int .i64 t246,.int .i64 t247,.int .i64 0]) ?_ 5 _ rfl; (with_reducible repeat (first | refine blk_drewN ?_ _ | refine blk_drew ?_ | refine blk_alloc ?_ _)); refine blk_put (cs := #[.int .i64 t243,.int .i64 t244,.int .i64 t245,.int .i64 t246,.int .i64 0,.int .i64 0]) ?_ 4 _ rfl; (with_reducible repeat (first | refine blk_drewN ?_ _ | refine blk_drew ?_ | refine blk_alloc ?_ _)); refine blk_put (cs := #[.int .i64 t243,.int .i64 t244,.int .i64 t245,.int .i64 0,.int .i64 0,.int .i64 0]) ?_ 3 _ rfl; (with_reducible repeat (first | refine blk_drewN ?_ _ | refine blk_drew ?_ | refine blk_alloc ?_ _)); refine blk_put (cs := #[.int .i64 t243,.int .i64 t244,.int .i64 0,.int .i64 0,.int .i64 0,.int .i64 0]) ?_ 2 _ rfl; (with_reducible repeat (first | refine blk_drewN ?_ _ | refine blk_drew ?_ | refine blk_alloc ?_ _)); refine blk_put (cs := #[.int .i64 t243,.int .i64 0,.int .i64 0,.int .i64 0,.int .i64 0,.int .i64 0]) ?_ 1 _ rfl; (with_reducible repeat (first | refine blk_drewN ?_ _ | refine blk_drew ?_ | refine blk_alloc ?_ _)); refine blk_put (cs := #[.int .i64 0,.int .i64 0,.int .i64 0,.int .i64 0,.int .i64 0,.int .i64 0]) ?_ 0 _ rfl; (with_reducible repeat (first | refine blk_drewN ?_ _ | refine blk_drew ?_ | refine blk_alloc ?_ _)); exact BK250.out⟩,⟨by repeat (first | (with_reducible first | exact HB.out | apply below_alloc | apply pw_below_drewN | apply below_drew1 | refine below_set ?_ GE250.out) | exact HB.out)⟩⟩
  ·replace c7 := Bool.eq_false_iff.mpr c7
   subst c7
   have H1 : (der_Untime.j0 k true t243 t244 t245 t246 t247 t248) = some (r1,r2) := by rw [if_neg (show ¬ (false = true) by decide)] at H; exact H
   clear H
   have H := H1
   clear H1
   have H' := Aside0.mk H
   clear H
   go_wp2
   go_meet
   case rel => exact ⟨_,(true),(by first | rfl | (simp; done) | (simp [*]; done)),H',⟨by first | omega | exact Nat.le_refl _⟩,⟨by (with_reducible repeat (first | refine blk_drewN ?_ _ | refine blk_drew ?_ | refine blk_alloc ?_ _)); refine blk_put (cs := #[.int .i64 t243,.int .i64 t244,.int .i64 t245,.int .i64 t246,.int .i64 t247,.int .i64 0]) ?_ 5 _ rfl; (with_reducible repeat (first | refine blk_drewN ?_ _ | refine blk_drew ?_ | refine blk_alloc ?_ _)); refine blk_put (cs := #[.int .i64 t243,.int .i64 t244,.int .i64 t245,.int .i64 t246,.int .i64 0,.int .i64 0]) ?_ 4 _ rfl; (with_reducible repeat (first | refine blk_drewN ?_ _ | refine blk_drew ?_ | refine blk_alloc ?_ _)); refine blk_put (cs := #[.int .i64 t243,.int .i64 t244,.int .i64 t245,.int .i64 0,.int .i64 0,.int .i64 0]) ?_ 3 _ rfl; (with_reducible repeat (first | refine blk_drewN ?_ _ | refine blk_drew ?_ | refine blk_alloc ?_ _)); refine blk_put (cs := #[.int .i64 t243,.int .i64 t244,.int .i64 0,.int .i64 0,.int .i64 0,.int .i64 0]) ?_ 2 _ rfl; (with_reducible repeat (first | refine blk_drewN ?_ _ | refine blk_drew ?_ | refine blk_alloc ?_ _)); refine blk_put (cs := #[.int .i64 t243,.int .i64 0,.int .i64 0,.int .i64 0,.int .i64 0,.int .i64 0]) ?_ 1 _ rfl; (with_reducible repeat (first | refine blk_drewN ?_ _ | refine blk_drew ?_ | refine blk_alloc ?_ _)); refine blk_put (cs := #[.int .i64 0,.int .i64 0,.int .i64 0,.int .i64 0,.int .i64 0,.int .i64 0]) ?_ 0 _ rfl; (with_reducible repeat (first | refine blk_drewN ?_ _ | refine blk_drew ?_ | refine blk_alloc ?_ _)); exact BK250.out⟩,⟨by repeat (first | (with_reducible first | exact HB.out | apply below_alloc | apply pw_below_drewN | apply below_drew1 | refine below_set ?_ GE250.out) | exact HB.out)⟩⟩
 case rest =>
  clear HC3
  try clear c1
  try clear c2
  try clear p2
  try clear c7
  try clear c8
  try clear c8b0
  try clear hcz10_0
  try clear hcz10_1
  try clear hcz10_2
  try clear hcz10_3
  try clear hcz10_4
  try clear hcz10_5
  try clear hcz6_0
  try clear hcz6_1
  try clear hcz6_2
  try clear hcz6_3
  try clear hcz6_4
  try clear hcz6_5
  try clear hcz9_0
  try clear hcz9_1
  try clear hcz9_2
  try clear hcz9_3
  try clear hcz9_4
  try clear hcz9_5
  try clear hfz10_0
  try clear hfz10_1
  try clear hfz10_2
  try clear hfz10_3
  try clear hfz10_4
  try clear hfz10_5
  try clear hfz6_0
  try clear hfz6_1
  try clear hfz6_2
  try clear hfz6_3
  try clear hfz6_4
  try clear hfz6_5
  try clear hfz9_0
  try clear hfz9_1
  try clear hfz9_2
  try clear hfz9_3
  try clear hfz9_4
  try clear hfz9_5
  obtain ⟨kq,x26_2,rfl,HA,HJ2,BK250,HB⟩ := hcut
  cases kq with
  | zero => exact absurd HA.out (by simp [der_Untime.j0])
  | succ kj2 =>
   have H := HA.out
   clear HA
   simp only [der_Untime.j0] at H
   by_cases c11 : x26_2 = true
   ·subst c11
    have H1 : (some (0,1300)) = some (r1,r2) := by rw [if_pos rfl] at H; exact H
    clear H
    have H := H1
    clear H1
    simp only [Option.some.injEq,Prod.mk.injEq] at H
    obtain ⟨rfl,rfl⟩ := H
    go_wp2
    go_ret2
    exact ⟨by first | rfl | (simp [errW_none,errW_some] <;> rfl) | (simp [*,errW_none,errW_some] <;> rfl),by repeat (first | (with_reducible first | exact HB.out | apply below_alloc | apply pw_below_drewN | apply below_drew1 | refine below_set ?_ GE250.out) | exact HB.out)⟩
   ·replace c11 := Bool.eq_false_iff.mpr c11
    subst c11
    have H1 : (if t243 ≥ 70 then (der_Untime.j1 kj2 (wrap64 ((wrap64 (2000 + t243)) - 100)) t243 t244 t245 t246 t247 t248) else (der_Untime.j1 kj2 (wrap64 (2000 + t243)) t243 t244 t245 t246 t247 t248)) = some (r1,r2) := by rw [if_neg (show ¬ (false = true) by decide)] at H; exact H
    clear H
    have H := H1
    clear H1
    have HC12 := Aside0.mk H
    clear H
    have hcz13_0 : wc.cell? ⟨gb250,0,none⟩ = some (.int .i64 t243) := (blk_cell BK250.out 0).trans rfl
    have hcz13_1 : wc.cell? ⟨gb250,1,none⟩ = some (.int .i64 t244) := (blk_cell BK250.out 1).trans rfl
    have hcz13_2 : wc.cell? ⟨gb250,2,none⟩ = some (.int .i64 t245) := (blk_cell BK250.out 2).trans rfl
    have hcz13_3 : wc.cell? ⟨gb250,3,none⟩ = some (.int .i64 t246) := (blk_cell BK250.out 3).trans rfl
    have hcz13_4 : wc.cell? ⟨gb250,4,none⟩ = some (.int .i64 t247) := (blk_cell BK250.out 4).trans rfl
    have hcz13_5 : wc.cell? ⟨gb250,5,none⟩ = some (.int .i64 t248) := (blk_cell BK250.out 5).trans rfl
    have hfz13_0 := blk_frozen BK250.out 0
    have hfz13_1 := blk_frozen BK250.out 1
    have hfz13_2 := blk_frozen BK250.out 2
    have hfz13_3 := blk_frozen BK250.out 3
    have hfz13_4 := blk_frozen BK250.out 4
    have hfz13_5 := blk_frozen BK250.out 5
    go_upto_if 32 with (fail)
    go_cut [6] (fun v6 wc => ∃ (kq : Nat) (x6_11 : Int),v6 = .int .i64 x6_11 ∧ Aside0 (der_Untime.j1 kq x6_11 t243 t244 t245 t246 t247 t248 = some (r1,r2)) ∧ Aside0 (kq ≤ kj2) ∧ Aside0 (wc.heap[gb250]? = some (.cells #[.int .i64 t243,.int .i64 t244,.int .i64 t245,.int .i64 t246,.int .i64 t247,.int .i64 t248] 55 (0,0))) ∧ Aside0 (Below w.heap.size w wc))
    case first =>
     have H := HC12.out
     clear HC12
     by_cases c14 : t243 ≥ 70
     ·rw [if_pos c14] at H
      have c14b0 : decide (70 ≤ t243) = true := decide_eq_true c14
      clear c14
      (first | rw [c14b0] | (simp only [i64_w,i32_w]; rw [c14b0]) | skip)
      have H' := Aside0.mk H
      clear H
      go_wp2
      go_meet
      case rel => exact ⟨_,(wrap64 ((wrap64 (2000 + t243)) - 100)),(by first | rfl | (simp; done) | (simp [*]; done)),H',⟨by have := HJ2.out; first | omega | exact Nat.le_refl _⟩,⟨by (with_reducible repeat (first | refine blk_drewN ?_ _ | refine blk_drew ?_ | refine blk_alloc ?_ _)); exact BK250.out⟩,⟨by repeat (first | (with_reducible first | exact HB.out | apply below_alloc | apply pw_below_drewN | apply below_drew1 | refine below_set ?_ GE250.out) | exact HB.out)⟩⟩
     ·rw [if_neg c14] at H
      have c14b0 : decide (70 ≤ t243) = false := decide_eq_false c14
      clear c14
      (first | rw [c14b0] | (simp only [i64_w,i32_w]; rw [c14b0]) | skip)
      have H' := Aside0.mk H
      clear H
      go_wp2
      go_meet
      case rel => exact ⟨_,(wrap64 (2000 + t243)),(by first | rfl | (simp; done) | (simp [*]; done)),H',⟨by have := HJ2.out; first | omega | exact Nat.le_refl _⟩,⟨by (with_reducible repeat (first | refine blk_drewN ?_ _ | refine blk_drew ?_ | refine blk_alloc ?_ _)); exact BK250.out⟩,⟨by repeat (first | (with_reducible first | exact HB.out | apply below_alloc | apply pw_below_drewN | apply below_drew1 | refine below_set ?_ GE250.out) | exact HB.out)⟩⟩
    case rest =>
     clear HC12
     try clear c1
     try clear c2
     try clear p2
     try clear p6
     try clear c7
     try clear c8
     try clear c8b0
     try clear c11
     try clear c14
     try clear c14b0
     try clear hcz10_0
     try clear hcz10_1
     try clear hcz10_2
     try clear hcz10_3
     try clear hcz10_4
     try clear hcz10_5
     try clear hcz13_0
     try clear hcz13_1
     try clear hcz13_2
     try clear hcz13_3
     try clear hcz13_4
     try clear hcz13_5
     try clear hcz6_0
     try clear hcz6_1
     try clear hcz6_2
     try clear hcz6_3
     try clear hcz6_4
     try clear hcz6_5
     try clear hcz9_0
     try clear hcz9_1
     try clear hcz9_2
     try clear hcz9_3
     try clear hcz9_4
     try clear hcz9_5
     try clear hfz10_0
     try clear hfz10_1
     try clear hfz10_2
     try clear hfz10_3
     try clear hfz10_4
     try clear hfz10_5
     try clear hfz13_0
     try clear hfz13_1
     try clear hfz13_2
     try clear hfz13_3
     try clear hfz13_4
     try clear hfz13_5
     try clear hfz6_0
     try clear hfz6_1
     try clear hfz6_2
     try clear hfz6_3
     try clear hfz6_4
     try clear hfz6_5
     try clear hfz9_0
     try clear hfz9_1
     try clear hfz9_2
     try clear hfz9_3
     try clear hfz9_4
     try clear hfz9_5
     try clear p2
     obtain ⟨kq,x6_11,rfl,HA,HJ11,BK250,HB⟩ := hcut
     cases kq with
     | zero => exact absurd HA.out (by simp [der_Untime.j1])
     | succ kj11 =>
      have H := HA.out
      clear HA
      simp only [der_Untime.j1] at H
      have HC15 := Aside0.mk H
      clear H
      go_upto_region 7 with (fail)
      go_cut [71] (fun v71 wc => ∃ (kq : Nat) (x71_14 : Bool),v71 = .bool x71_14 ∧ Aside0 (der_Untime.j2 kq x6_11 x71_14 t243 t244 t245 t246 t247 t248 = some (r1,r2)) ∧ Aside0 (kq ≤ kj11) ∧ Aside0 (wc.heap[gb250]? = some (.cells #[.int .i64 t243,.int .i64 t244,.int .i64 t245,.int .i64 t246,.int .i64 t247,.int .i64 t248] 55 (0,0))) ∧ Aside0 (Below w.heap.size w wc))
      case first =>
       have H := HC15.out
       clear HC15
       by_cases c16 : t244 < 1
       ·rw [if_pos c16] at H
        have c16b0 : decide (t244 < 1) = true := decide_eq_true c16
        clear c16
        (first | rw [c16b0] | (simp only [i64_w,i32_w]; rw [c16b0]) | skip)
        have H' := Aside0.mk H
        clear H
        try go_wp2
        have n0_ := Aside0.mk (blk_drew BK250.out)
        have n1_ := Aside0.mk (below_drew1 HB.out)
        clear BK250
        clear HB
        have BK250 := n0_
        have HB := n1_
        clear n0_ n1_
        refine start_ (n := 37) (S := fun w' => w'.cell? ⟨gb250,0,none⟩ = some (.int .i64 t243) ∧ w'.cell? ⟨gb250,1,none⟩ = some (.int .i64 t244) ∧ w'.cell? ⟨gb250,2,none⟩ = some (.int .i64 t245) ∧ w'.cell? ⟨gb250,3,none⟩ = some (.int .i64 t246) ∧ w'.cell? ⟨gb250,4,none⟩ = some (.int .i64 t247) ∧ w'.cell? ⟨gb250,5,none⟩ = some (.int .i64 t248)) (ds := []) AR14_0 (by kernel_rfl) rfl rfl ⟨(blk_cell BK250.out 0).trans rfl,(blk_cell BK250.out 1).trans rfl,(blk_cell BK250.out 2).trans rfl,(blk_cell BK250.out 3).trans rfl,(blk_cell BK250.out 4).trans rfl,(blk_cell BK250.out 5).trans rfl⟩ (fun hHeld => ?_); refine with_tabW der_Untime.tab7 der_Untime.bits7 (fun HT_ HW_ => ?_)
        generalize wc.drew = w17 at BK250 HB hHeld ⊢
        refine pure_ (i := 0) (N := some 35) (v := ?_) (a' := ?_) AR14_1 rfl rfl (any_of HT_.out (by kernel_rfl)) (fun _ _ _ h => h) (Or.inl ⟨by rfl,?_⟩) ?_ ?_; rotate_left; (· intro w'; go_simp; with_reducible rfl); rotate_left; (· simp only [Act.put,LSET14_]; rfl)
        refine take_ (i := 1) (N := some 36) (v := ?_) (a' := ?_) AR14_2 rfl rfl (take_ofW HT_.out HW_.out (by kernel_rfl)) (fun _ _ _ h => h) (Or.inl ⟨by rfl,?_⟩) hHeld ?_ ?_; rotate_left; (· rintro w' ⟨s0,s1,s2,s3,s4,s5⟩; go_simp; with_reducible rfl); rotate_left; (· simp only [Act.put,LSET14_]; rfl)
        refine pure_ (i := 2) (N := some 37) (v := ?_) (a' := ?_) AR14_3 rfl rfl (any_of HT_.out (by kernel_rfl)) (fun _ _ _ h => h) (Or.inl ⟨by rfl,?_⟩) ?_ ?_; rotate_left; (· intro w'; go_simp; with_reducible rfl); rotate_left; (· simp only [Act.put,LSET14_]; rfl)
        refine pure_ (i := 3) (N := some 38) (v := ?_) (a' := ?_) AR14_4 rfl rfl (any_of HT_.out (by kernel_rfl)) (fun _ _ _ h => h) (Or.inl ⟨by rfl,?_⟩) ?_ ?_; rotate_left; (· intro w'; go_simp; with_reducible rfl); rotate_left; (· simp only [Act.put,LSET14_]; rfl)
        refine pure_ (i := 4) (N := some 39) (v := undef) (a' := ?_) AR14_5 rfl rfl (any_of HT_.out (by kernel_rfl)) (fun _ _ _ h => h) (Or.inr ⟨by rfl,rfl⟩) ?_ ?_; rotate_left; (· simp only [Act.put,LSET14_]; rfl)
        refine pure_ (i := 5) (N := some 40) (v := undef) (a' := ?_) AR14_6 rfl rfl (any_of HT_.out (by kernel_rfl)) (fun _ _ _ h => h) (Or.inr ⟨by rfl,rfl⟩) ?_ ?_; rotate_left; (· simp only [Act.put,LSET14_]; rfl)
        refine pure_ (i := 6) (N := some 41) (v := undef) (a' := ?_) AR14_7 rfl rfl (any_of HT_.out (by kernel_rfl)) (fun _ _ _ h => h) (Or.inr ⟨by rfl,rfl⟩) ?_ ?_; rotate_left; (· simp only [Act.put,LSET14_]; rfl)
        refine pure_ (i := 7) (N := some 42) (v := ?_) (a' := ?_) AR14_8 rfl rfl (any_of HT_.out (by kernel_rfl)) (fun _ _ _ h => h) (Or.inl ⟨by rfl,?_⟩) ?_ ?_; rotate_left; (· intro w'; go_simp; with_reducible rfl); rotate_left; (· simp only [Act.put,LSET14_]; rfl)
        refine pure_ (i := 8) (N := some 43) (v := ?_) (a' := ?_) AR14_9 rfl rfl (any_of HT_.out (by kernel_rfl)) (fun _ _ _ h => h) (Or.inl ⟨by rfl,?_⟩) ?_ ?_; rotate_left; (· intro w'; go_simp; with_reducible rfl); rotate_left; (· simp only [Act.put,LSET14_]; rfl)
        refine pure_ (i := 9) (N := some 44) (v := undef) (a' := ?_) AR14_10 rfl rfl (any_of HT_.out (by kernel_rfl)) (fun _ _ _ h => h) (Or.inr ⟨by rfl,rfl⟩) ?_ ?_; rotate_left; (· simp only [Act.put,LSET14_]; rfl)
        refine pure_ (i := 10) (N := some 45) (v := undef) (a' := ?_) AR14_11 rfl rfl (any_of HT_.out (by kernel_rfl)) (fun _ _ _ h => h) (Or.inr ⟨by rfl,rfl⟩) ?_ ?_; rotate_left; (· simp only [Act.put,LSET14_]; rfl)
        refine pure_ (i := 11) (N := some 46) (v := undef) (a' := ?_) AR14_12 rfl rfl (any_of HT_.out (by kernel_rfl)) (fun _ _ _ h => h) (Or.inr ⟨by rfl,rfl⟩) ?_ ?_; rotate_left; (· simp only [Act.put,LSET14_]; rfl)
        refine pure_ (i := 12) (N := some 47) (v := ?_) (a' := ?_) AR14_13 rfl rfl (any_of HT_.out (by kernel_rfl)) (fun _ _ _ h => h) (Or.inl ⟨by rfl,?_⟩) ?_ ?_; rotate_left; (· intro w'; go_simp; with_reducible rfl); rotate_left; (· simp only [Act.put,LSET14_]; rfl)
        refine pure_ (i := 13) (N := some 48) (v := ?_) (a' := ?_) AR14_14 rfl rfl (any_of HT_.out (by kernel_rfl)) (fun _ _ _ h => h) (Or.inl ⟨by rfl,?_⟩) ?_ ?_; rotate_left; (· intro w'; go_simp; with_reducible rfl); rotate_left; (· simp only [Act.put,LSET14_]; rfl)
        refine pure_ (i := 14) (N := some 49) (v := undef) (a' := ?_) AR14_15 rfl rfl (any_of HT_.out (by kernel_rfl)) (fun _ _ _ h => h) (Or.inr ⟨by rfl,rfl⟩) ?_ ?_; rotate_left; (· simp only [Act.put,LSET14_]; rfl)
        refine pure_ (i := 15) (N := some 50) (v := undef) (a' := ?_) AR14_18 rfl rfl (any_of HT_.out (by kernel_rfl)) (fun _ _ _ h => h) (Or.inr ⟨by rfl,rfl⟩) ?_ ?_; rotate_left; (· simp only [Act.put,LSET14_]; rfl)
        refine pure_ (i := 16) (N := some 51) (v := undef) (a' := ?_) AR14_19 rfl rfl (any_of HT_.out (by kernel_rfl)) (fun _ _ _ h => h) (Or.inr ⟨by rfl,rfl⟩) ?_ ?_; rotate_left; (· simp only [Act.put,LSET14_]; rfl)
        refine pure_ (i := 17) (N := some 52) (v := undef) (a' := ?_) AR14_20 rfl rfl (any_of HT_.out (by kernel_rfl)) (fun _ _ _ h => h) (Or.inr ⟨by rfl,rfl⟩) ?_ ?_; rotate_left; (· simp only [Act.put,LSET14_]; rfl)
        refine pure_ (i := 18) (N := some 53) (v := undef) (a' := ?_) AR14_21 rfl rfl (any_of HT_.out (by kernel_rfl)) (fun _ _ _ h => h) (Or.inr ⟨by rfl,rfl⟩) ?_ ?_; rotate_left; (· simp only [Act.put,LSET14_]; rfl)
        refine pure_ (i := 19) (N := some 54) (v := undef) (a' := ?_) AR14_22 rfl rfl (any_of HT_.out (by kernel_rfl)) (fun _ _ _ h => h) (Or.inr ⟨by rfl,rfl⟩) ?_ ?_; rotate_left; (· simp only [Act.put,LSET14_]; rfl)
        refine pure_ (i := 20) (N := some 55) (v := undef) (a' := ?_) AR14_23 rfl rfl (any_of HT_.out (by kernel_rfl)) (fun _ _ _ h => h) (Or.inr ⟨by rfl,rfl⟩) ?_ ?_; rotate_left; (· simp only [Act.put,LSET14_]; rfl)
        refine pure_ (i := 21) (N := some 56) (v := ?_) (a' := ?_) AR14_24 rfl rfl (any_of HT_.out (by kernel_rfl)) (fun _ _ _ h => h) (Or.inl ⟨by rfl,?_⟩) ?_ ?_; rotate_left; (· intro w'; go_simp; with_reducible rfl); rotate_left; (· simp only [Act.put,LSET14_]; rfl)
        refine pure_ (i := 22) (N := some 57) (v := ?_) (a' := ?_) AR14_25 rfl rfl (any_of HT_.out (by kernel_rfl)) (fun _ _ _ h => h) (Or.inl ⟨by rfl,?_⟩) ?_ ?_; rotate_left; (· intro w'; go_simp; with_reducible rfl); rotate_left; (· simp only [Act.put,LSET14_]; rfl)
        refine pure_ (i := 23) (N := some 58) (v := undef) (a' := ?_) AR14_26 rfl rfl (any_of HT_.out (by kernel_rfl)) (fun _ _ _ h => h) (Or.inr ⟨by rfl,rfl⟩) ?_ ?_; rotate_left; (· simp only [Act.put,LSET14_]; rfl)
        refine pure_ (i := 24) (N := some 59) (v := undef) (a' := ?_) AR14_27 rfl rfl (any_of HT_.out (by kernel_rfl)) (fun _ _ _ h => h) (Or.inr ⟨by rfl,rfl⟩) ?_ ?_; rotate_left; (· simp only [Act.put,LSET14_]; rfl)
        refine pure_ (i := 25) (N := some 60) (v := undef) (a' := ?_) AR14_28 rfl rfl (any_of HT_.out (by kernel_rfl)) (fun _ _ _ h => h) (Or.inr ⟨by rfl,rfl⟩) ?_ ?_; rotate_left; (· simp only [Act.put,LSET14_]; rfl)
        refine pure_ (i := 26) (N := some 61) (v := ?_) (a' := ?_) AR14_29 rfl rfl (any_of HT_.out (by kernel_rfl)) (fun _ _ _ h => h) (Or.inl ⟨by rfl,?_⟩) ?_ ?_; rotate_left; (· intro w'; go_simp; with_reducible rfl); rotate_left; (· simp only [Act.put,LSET14_]; rfl)
        refine pure_ (i := 27) (N := some 62) (v := ?_) (a' := ?_) AR14_30 rfl rfl (any_of HT_.out (by kernel_rfl)) (fun _ _ _ h => h) (Or.inl ⟨by rfl,?_⟩) ?_ ?_; rotate_left; (· intro w'; go_simp; with_reducible rfl); rotate_left; (· simp only [Act.put,LSET14_]; rfl)
        refine pure_ (i := 28) (N := some 63) (v := undef) (a' := ?_) AR14_31 rfl rfl (any_of HT_.out (by kernel_rfl)) (fun _ _ _ h => h) (Or.inr ⟨by rfl,rfl⟩) ?_ ?_; rotate_left; (· simp only [Act.put,LSET14_]; rfl)
        refine pure_ (i := 29) (N := some 64) (v := undef) (a' := ?_) AR14_32 rfl rfl (any_of HT_.out (by kernel_rfl)) (fun _ _ _ h => h) (Or.inr ⟨by rfl,rfl⟩) ?_ ?_; rotate_left; (· simp only [Act.put,LSET14_]; rfl)
        refine pure_ (i := 30) (N := some 65) (v := undef) (a' := ?_) AR14_33 rfl rfl (any_of HT_.out (by kernel_rfl)) (fun _ _ _ h => h) (Or.inr ⟨by rfl,rfl⟩) ?_ ?_; rotate_left; (· simp only [Act.put,LSET14_]; rfl)
        refine pure_ (i := 31) (N := some 66) (v := ?_) (a' := ?_) AR14_34 rfl rfl (any_of HT_.out (by kernel_rfl)) (fun _ _ _ h => h) (Or.inl ⟨by rfl,?_⟩) ?_ ?_; rotate_left; (· intro w'; go_simp; with_reducible rfl); rotate_left; (· simp only [Act.put,LSET14_]; rfl)
        refine pure_ (i := 32) (N := some 67) (v := ?_) (a' := ?_) AR14_35 rfl rfl (any_of HT_.out (by kernel_rfl)) (fun _ _ _ h => h) (Or.inl ⟨by rfl,?_⟩) ?_ ?_; rotate_left; (· intro w'; go_simp; with_reducible rfl); rotate_left; (· simp only [Act.put,LSET14_]; rfl)
        refine pure_ (i := 33) (N := some 68) (v := undef) (a' := ?_) AR14_36 rfl rfl (any_of HT_.out (by kernel_rfl)) (fun _ _ _ h => h) (Or.inr ⟨by rfl,rfl⟩) ?_ ?_; rotate_left; (· simp only [Act.put,LSET14_]; rfl)
        refine pure_ (i := 34) (N := some 69) (v := undef) (a' := ?_) AR14_37 rfl rfl (any_of HT_.out (by kernel_rfl)) (fun _ _ _ h => h) (Or.inr ⟨by rfl,rfl⟩) ?_ ?_; rotate_left; (· simp only [Act.put,LSET14_]; rfl)
        refine pure_ (i := 35) (N := some 70) (v := undef) (a' := ?_) AR14_38 rfl rfl (any_of HT_.out (by kernel_rfl)) (fun _ _ _ h => h) (Or.inr ⟨by rfl,rfl⟩) ?_ ?_; rotate_left; (· simp only [Act.put,LSET14_]; rfl)
        refine pure_ (i := 36) (N := some 71) (v := ?_) (a' := ?_) AR14_39 rfl rfl (any_of HT_.out (by kernel_rfl)) (fun _ _ _ h => h) (Or.inl ⟨by rfl,?_⟩) ?_ ?_; rotate_left; (· intro w'; go_simp; with_reducible rfl); rotate_left; (· simp only [Act.put,LSET14_]; rfl)
        refine done_ (done_of HT_.out (by kernel_rfl)) ?_
        try go_wp2
        go_meet
        case rel => exact ⟨_,(true),(by first | rfl | (simp; done) | (simp [*]; done)),H',⟨by have := HJ2.out; have := HJ11.out; first | omega | exact Nat.le_refl _⟩,⟨by (with_reducible repeat (first | refine blk_drewN ?_ _ | refine blk_drew ?_ | refine blk_alloc ?_ _)); exact BK250.out⟩,⟨by repeat (first | (with_reducible first | exact HB.out | apply below_alloc | apply pw_below_drewN | apply below_drew1 | refine below_set ?_ GE250.out) | exact HB.out)⟩⟩
       ·rw [if_neg c16] at H
        have c16b0 : decide (t244 < 1) = false := decide_eq_false c16
        clear c16
        (first | rw [c16b0] | (simp only [i64_w,i32_w]; rw [c16b0]) | skip)
        by_cases c18 : t244 > 12
        ·rw [if_pos c18] at H
         have c18b0 : decide (12 < t244) = true := decide_eq_true c18
         clear c18
         have H' := Aside0.mk H
         clear H
         try go_wp2
         have n0_ := Aside0.mk (blk_drew BK250.out)
         have n1_ := Aside0.mk (below_drew1 HB.out)
         clear BK250
         clear HB
         have BK250 := n0_
         have HB := n1_
         clear n0_ n1_
         refine start_ (n := 37) (S := fun w' => w'.cell? ⟨gb250,0,none⟩ = some (.int .i64 t243) ∧ w'.cell? ⟨gb250,1,none⟩ = some (.int .i64 t244) ∧ w'.cell? ⟨gb250,2,none⟩ = some (.int .i64 t245) ∧ w'.cell? ⟨gb250,3,none⟩ = some (.int .i64 t246) ∧ w'.cell? ⟨gb250,4,none⟩ = some (.int .i64 t247) ∧ w'.cell? ⟨gb250,5,none⟩ = some (.int .i64 t248)) (ds := []) AR14_0 (by kernel_rfl) rfl rfl ⟨(blk_cell BK250.out 0).trans rfl,(blk_cell BK250.out 1).trans rfl,(blk_cell BK250.out 2).trans rfl,(blk_cell BK250.out 3).trans rfl,(blk_cell BK250.out 4).trans rfl,(blk_cell BK250.out 5).trans rfl⟩ (fun hHeld => ?_); refine with_tabW der_Untime.tab7 der_Untime.bits7 (fun HT_ HW_ => ?_)
         generalize wc.drew = w19 at BK250 HB hHeld ⊢
         refine pure_ (i := 0) (N := some 35) (v := ?_) (a' := ?_) AR14_1 rfl rfl (any_of HT_.out (by kernel_rfl)) (fun _ _ _ h => h) (Or.inl ⟨by rfl,?_⟩) ?_ ?_; rotate_left; (· intro w'; go_simp; with_reducible rfl); rotate_left; (· simp only [Act.put,LSET14_]; rfl)
         refine take_ (i := 1) (N := some 36) (v := ?_) (a' := ?_) AR14_2 rfl rfl (take_ofW HT_.out HW_.out (by kernel_rfl)) (fun _ _ _ h => h) (Or.inl ⟨by rfl,?_⟩) hHeld ?_ ?_; rotate_left; (· rintro w' ⟨s0,s1,s2,s3,s4,s5⟩; go_simp; with_reducible rfl); rotate_left; (· simp only [Act.put,LSET14_]; rfl)
         refine pure_ (i := 2) (N := some 37) (v := ?_) (a' := ?_) AR14_3 rfl rfl (any_of HT_.out (by kernel_rfl)) (fun _ _ _ h => h) (Or.inl ⟨by rfl,?_⟩) ?_ ?_; rotate_left; (· intro w'; go_simp; with_reducible rfl); rotate_left; (· simp only [Act.put,LSET14_]; rfl)
         refine pure_ (i := 3) (N := some 38) (v := ?_) (a' := ?_) AR14_4 rfl rfl (any_of HT_.out (by kernel_rfl)) (fun _ _ _ h => h) (Or.inl ⟨by rfl,?_⟩) ?_ ?_; rotate_left; (· intro w'; go_simp; with_reducible rfl); rotate_left; (· simp only [Act.put,LSET14_]; rfl)
         refine pure_ (i := 4) (N := some 39) (v := ?_) (a' := ?_) AR14_5 rfl rfl (any_of HT_.out (by kernel_rfl)) (fun _ _ _ h => h) (Or.inl ⟨by rfl,?_⟩) ?_ ?_; rotate_left; (· intro w'; go_simp; with_reducible rfl); rotate_left; (· simp only [Act.put,LSET14_]; rfl)
         refine take_ (i := 5) (N := some 40) (v := ?_) (a' := ?_) AR14_6 rfl rfl (take_ofW HT_.out HW_.out (by kernel_rfl)) (fun _ _ _ h => h) (Or.inl ⟨by rfl,?_⟩) hHeld ?_ ?_; rotate_left; (· rintro w' ⟨s0,s1,s2,s3,s4,s5⟩; go_simp; with_reducible rfl); rotate_left; (· simp only [Act.put,LSET14_]; rfl)
         refine pure_ (i := 6) (N := some 41) (v := ?_) (a' := ?_) AR14_7 rfl rfl (any_of HT_.out (by kernel_rfl)) (fun _ _ _ h => h) (Or.inl ⟨by rfl,?_⟩) ?_ ?_; rotate_left; (· intro w'; go_simp; with_reducible rfl); rotate_left; (· simp only [Act.put,LSET14_]; rfl)
         refine pure_ (i := 7) (N := some 42) (v := ?_) (a' := ?_) AR14_8 rfl rfl (any_of HT_.out (by kernel_rfl)) (fun _ _ _ h => h) (Or.inl ⟨by rfl,?_⟩) ?_ ?_; rotate_left; (· intro w'; go_simp; with_reducible rfl); rotate_left; (· simp only [Act.put,LSET14_]; rfl)
         refine pure_ (i := 8) (N := some 43) (v := ?_) (a' := ?_) AR14_9 rfl rfl (any_of HT_.out (by kernel_rfl)) (fun _ _ _ h => h) (Or.inl ⟨by rfl,?_⟩) ?_ ?_; rotate_left; (· intro w'; go_simp; with_reducible rfl); rotate_left; (· simp only [Act.put,LSET14_]; rfl)
         refine pure_ (i := 9) (N := some 44) (v := undef) (a' := ?_) AR14_10 rfl rfl (any_of HT_.out (by kernel_rfl)) (fun _ _ _ h => h) (Or.inr ⟨by rfl,rfl⟩) ?_ ?_; rotate_left; (· simp only [Act.put,LSET14_]; rfl)
         refine pure_ (i := 10) (N := some 45) (v := undef) (a' := ?_) AR14_11 rfl rfl (any_of HT_.out (by kernel_rfl)) (fun _ _ _ h => h) (Or.inr ⟨by rfl,rfl⟩) ?_ ?_; rotate_left; (· simp only [Act.put,LSET14_]; rfl)
         refine pure_ (i := 11) (N := some 46) (v := undef) (a' := ?_) AR14_12 rfl rfl (any_of HT_.out (by kernel_rfl)) (fun _ _ _ h => h) (Or.inr ⟨by rfl,rfl⟩) ?_ ?_; rotate_left; (· simp only [Act.put,LSET14_]; rfl)
         refine pure_ (i := 12) (N := some 47) (v := ?_) (a' := ?_) AR14_13 rfl rfl (any_of HT_.out (by kernel_rfl)) (fun _ _ _ h => h) (Or.inl ⟨by rfl,?_⟩) ?_ ?_; rotate_left; (· intro w'; go_simp; with_reducible rfl); rotate_left; (· simp only [Act.put,LSET14_]; rfl)
         refine pure_ (i := 13) (N := some 48) (v := ?_) (a' := ?_) AR14_14 rfl rfl (any_of HT_.out (by kernel_rfl)) (fun _ _ _ h => h) (Or.inl ⟨by rfl,?_⟩) ?_ ?_; rotate_left; (· intro w'; go_simp; with_reducible rfl); rotate_left; (· simp only [Act.put,LSET14_]; rfl)
         refine pure_ (i := 14) (N := some 49) (v := undef) (a' := ?_) AR14_15 rfl rfl (any_of HT_.out (by kernel_rfl)) (fun _ _ _ h => h) (Or.inr ⟨by rfl,rfl⟩) ?_ ?_; rotate_left; (· simp only [Act.put,LSET14_]; rfl)
         refine pure_ (i := 15) (N := some 50) (v := undef) (a' := ?_) AR14_18 rfl rfl (any_of HT_.out (by kernel_rfl)) (fun _ _ _ h => h) (Or.inr ⟨by rfl,rfl⟩) ?_ ?_; rotate_left; (· simp only [Act.put,LSET14_]; rfl)
         refine pure_ (i := 16) (N := some 51) (v := undef) (a' := ?_) AR14_19 rfl rfl (any_of HT_.out (by kernel_rfl)) (fun _ _ _ h => h) (Or.inr ⟨by rfl,rfl⟩) ?_ ?_; rotate_left; (· simp only [Act.put,LSET14_]; rfl)
         refine pure_ (i := 17) (N := some 52) (v := undef) (a' := ?_) AR14_20 rfl rfl (any_of HT_.out (by kernel_rfl)) (fun _ _ _ h => h) (Or.inr ⟨by rfl,rfl⟩) ?_ ?_; rotate_left; (· simp only [Act.put,LSET14_]; rfl)
         refine pure_ (i := 18) (N := some 53) (v := undef) (a' := ?_) AR14_21 rfl rfl (any_of HT_.out (by kernel_rfl)) (fun _ _ _ h => h) (Or.inr ⟨by rfl,rfl⟩) ?_ ?_; rotate_left; (· simp only [Act.put,LSET14_]; rfl)
         refine pure_ (i := 19) (N := some 54) (v := undef) (a' := ?_) AR14_22 rfl rfl (any_of HT_.out (by kernel_rfl)) (fun _ _ _ h => h) (Or.inr ⟨by rfl,rfl⟩) ?_ ?_; rotate_left; (· simp only [Act.put,LSET14_]; rfl)
         refine pure_ (i := 20) (N := some 55) (v := undef) (a' := ?_) AR14_23 rfl rfl (any_of HT_.out (by kernel_rfl)) (fun _ _ _ h => h) (Or.inr ⟨by rfl,rfl⟩) ?_ ?_; rotate_left; (· simp only [Act.put,LSET14_]; rfl)
         refine pure_ (i := 21) (N := some 56) (v := ?_) (a' := ?_) AR14_24 rfl rfl (any_of HT_.out (by kernel_rfl)) (fun _ _ _ h => h) (Or.inl ⟨by rfl,?_⟩) ?_ ?_; rotate_left; (· intro w'; go_simp; with_reducible rfl); rotate_left; (· simp only [Act.put,LSET14_]; rfl)
         refine pure_ (i := 22) (N := some 57) (v := ?_) (a' := ?_) AR14_25 rfl rfl (any_of HT_.out (by kernel_rfl)) (fun _ _ _ h => h) (Or.inl ⟨by rfl,?_⟩) ?_ ?_; rotate_left; (· intro w'; go_simp; with_reducible rfl); rotate_left; (· simp only [Act.put,LSET14_]; rfl)
         refine pure_ (i := 23) (N := some 58) (v := undef) (a' := ?_) AR14_26 rfl rfl (any_of HT_.out (by kernel_rfl)) (fun _ _ _ h => h) (Or.inr ⟨by rfl,rfl⟩) ?_ ?_; rotate_left; (· simp only [Act.put,LSET14_]; rfl)
         refine pure_ (i := 24) (N := some 59) (v := undef) (a' := ?_) AR14_27 rfl rfl (any_of HT_.out (by kernel_rfl)) (fun _ _ _ h => h) (Or.inr ⟨by rfl,rfl⟩) ?_ ?_; rotate_left; (· simp only [Act.put,LSET14_]; rfl)
         refine pure_ (i := 25) (N := some 60) (v := undef) (a' := ?_) AR14_28 rfl rfl (any_of HT_.out (by kernel_rfl)) (fun _ _ _ h => h) (Or.inr ⟨by rfl,rfl⟩) ?_ ?_; rotate_left; (· simp only [Act.put,LSET14_]; rfl)
         refine pure_ (i := 26) (N := some 61) (v := ?_) (a' := ?_) AR14_29 rfl rfl (any_of HT_.out (by kernel_rfl)) (fun _ _ _ h => h) (Or.inl ⟨by rfl,?_⟩) ?_ ?_; rotate_left; (· intro w'; go_simp; with_reducible rfl); rotate_left; (· simp only [Act.put,LSET14_]; rfl)
         refine pure_ (i := 27) (N := some 62) (v := ?_) (a' := ?_) AR14_30 rfl rfl (any_of HT_.out (by kernel_rfl)) (fun _ _ _ h => h) (Or.inl ⟨by rfl,?_⟩) ?_ ?_; rotate_left; (· intro w'; go_simp; with_reducible rfl); rotate_left; (· simp only [Act.put,LSET14_]; rfl)
         refine pure_ (i := 28) (N := some 63) (v := undef) (a' := ?_) AR14_31 rfl rfl (any_of HT_.out (by kernel_rfl)) (fun _ _ _ h => h) (Or.inr ⟨by rfl,rfl⟩) ?_ ?_; rotate_left; (· simp only [Act.put,LSET14_]; rfl)
         refine pure_ (i := 29) (N := some 64) (v := undef) (a' := ?_) AR14_32 rfl rfl (any_of HT_.out (by kernel_rfl)) (fun _ _ _ h => h) (Or.inr ⟨by rfl,rfl⟩) ?_ ?_; rotate_left; (· simp only [Act.put,LSET14_]; rfl)
         refine pure_ (i := 30) (N := some 65) (v := undef) (a' := ?_) AR14_33 rfl rfl (any_of HT_.out (by kernel_rfl)) (fun _ _ _ h => h) (Or.inr ⟨by rfl,rfl⟩) ?_ ?_; rotate_left; (· simp only [Act.put,LSET14_]; rfl)
         refine pure_ (i := 31) (N := some 66) (v := ?_) (a' := ?_) AR14_34 rfl rfl (any_of HT_.out (by kernel_rfl)) (fun _ _ _ h => h) (Or.inl ⟨by rfl,?_⟩) ?_ ?_; rotate_left; (· intro w'; go_simp; with_reducible rfl); rotate_left; (· simp only [Act.put,LSET14_]; rfl)
         refine pure_ (i := 32) (N := some 67) (v := ?_) (a' := ?_) AR14_35 rfl rfl (any_of HT_.out (by kernel_rfl)) (fun _ _ _ h => h) (Or.inl ⟨by rfl,?_⟩) ?_ ?_; rotate_left; (· intro w'; go_simp; with_reducible rfl); rotate_left; (· simp only [Act.put,LSET14_]; rfl)
         refine pure_ (i := 33) (N := some 68) (v := undef) (a' := ?_) AR14_36 rfl rfl (any_of HT_.out (by kernel_rfl)) (fun _ _ _ h => h) (Or.inr ⟨by rfl,rfl⟩) ?_ ?_; rotate_left; (· simp only [Act.put,LSET14_]; rfl)
         refine pure_ (i := 34) (N := some 69) (v := undef) (a' := ?_) AR14_37 rfl rfl (any_of HT_.out (by kernel_rfl)) (fun _ _ _ h => h) (Or.inr ⟨by rfl,rfl⟩) ?_ ?_; rotate_left; (· simp only [Act.put,LSET14_]; rfl)
         refine pure_ (i := 35) (N := some 70) (v := undef) (a' := ?_) AR14_38 rfl rfl (any_of HT_.out (by kernel_rfl)) (fun _ _ _ h => h) (Or.inr ⟨by rfl,rfl⟩) ?_ ?_; rotate_left; (· simp only [Act.put,LSET14_]; rfl)
         refine pure_ (i := 36) (N := some 71) (v := ?_) (a' := ?_) AR14_39 rfl rfl (any_of HT_.out (by kernel_rfl)) (fun _ _ _ h => h) (Or.inl ⟨by rfl,?_⟩) ?_ ?_; rotate_left; (· intro w'; go_simp; with_reducible rfl); rotate_left; (· simp only [Act.put,LSET14_]; rfl)
         refine done_ (done_of HT_.out (by kernel_rfl)) ?_
         try go_wp2
         go_meet
         case rel => exact ⟨_,(true),(by first | rfl | (simp; done) | (simp [*]; done)),H',⟨by have := HJ2.out; have := HJ11.out; first | omega | exact Nat.le_refl _⟩,⟨by (with_reducible repeat (first | refine blk_drewN ?_ _ | refine blk_drew ?_ | refine blk_alloc ?_ _)); exact BK250.out⟩,⟨by repeat (first | (with_reducible first | exact HB.out | apply below_alloc | apply pw_below_drewN | apply below_drew1 | refine below_set ?_ GE250.out) | exact HB.out)⟩⟩
        ·rw [if_neg c18] at H
         have c18b0 : decide (12 < t244) = false := decide_eq_false c18
         clear c18
         by_cases c20 : t245 < 1
         ·rw [if_pos c20] at H
          have c20b0 : decide (t245 < 1) = true := decide_eq_true c20
          clear c20
          have H' := Aside0.mk H
          clear H
          try go_wp2
          have n0_ := Aside0.mk (blk_drew BK250.out)
          have n1_ := Aside0.mk (below_drew1 HB.out)
          clear BK250
          clear HB
          have BK250 := n0_
          have HB := n1_
          clear n0_ n1_
          refine start_ (n := 37) (S := fun w' => w'.cell? ⟨gb250,0,none⟩ = some (.int .i64 t243) ∧ w'.cell? ⟨gb250,1,none⟩ = some (.int .i64 t244) ∧ w'.cell? ⟨gb250,2,none⟩ = some (.int .i64 t245) ∧ w'.cell? ⟨gb250,3,none⟩ = some (.int .i64 t246) ∧ w'.cell? ⟨gb250,4,none⟩ = some (.int .i64 t247) ∧ w'.cell? ⟨gb250,5,none⟩ = some (.int .i64 t248)) (ds := []) AR14_0 (by kernel_rfl) rfl rfl ⟨(blk_cell BK250.out 0).trans rfl,(blk_cell BK250.out 1).trans rfl,(blk_cell BK250.out 2).trans rfl,(blk_cell BK250.out 3).trans rfl,(blk_cell BK250.out 4).trans rfl,(blk_cell BK250.out 5).trans rfl⟩ (fun hHeld => ?_); refine with_tabW der_Untime.tab7 der_Untime.bits7 (fun HT_ HW_ => ?_)
          generalize wc.drew = w21 at BK250 HB hHeld ⊢
          refine pure_ (i := 0) (N := some 35) (v := ?_) (a' := ?_) AR14_1 rfl rfl (any_of HT_.out (by kernel_rfl)) (fun _ _ _ h => h) (Or.inl ⟨by rfl,?_⟩) ?_ ?_; rotate_left; (· intro w'; go_simp; with_reducible rfl); rotate_left; (· simp only [Act.put,LSET14_]; rfl)
          refine take_ (i := 1) (N := some 36) (v := ?_) (a' := ?_) AR14_2 rfl rfl (take_ofW HT_.out HW_.out (by kernel_rfl)) (fun _ _ _ h => h) (Or.inl ⟨by rfl,?_⟩) hHeld ?_ ?_; rotate_left; (· rintro w' ⟨s0,s1,s2,s3,s4,s5⟩; go_simp; with_reducible rfl); rotate_left; (· simp only [Act.put,LSET14_]; rfl)
          refine pure_ (i := 2) (N := some 37) (v := ?_) (a' := ?_) AR14_3 rfl rfl (any_of HT_.out (by kernel_rfl)) (fun _ _ _ h => h) (Or.inl ⟨by rfl,?_⟩) ?_ ?_; rotate_left; (· intro w'; go_simp; with_reducible rfl); rotate_left; (· simp only [Act.put,LSET14_]; rfl)
          refine pure_ (i := 3) (N := some 38) (v := ?_) (a' := ?_) AR14_4 rfl rfl (any_of HT_.out (by kernel_rfl)) (fun _ _ _ h => h) (Or.inl ⟨by rfl,?_⟩) ?_ ?_; rotate_left; (· intro w'; go_simp; with_reducible rfl); rotate_left; (· simp only [Act.put,LSET14_]; rfl)
          refine pure_ (i := 4) (N := some 39) (v := ?_) (a' := ?_) AR14_5 rfl rfl (any_of HT_.out (by kernel_rfl)) (fun _ _ _ h => h) (Or.inl ⟨by rfl,?_⟩) ?_ ?_; rotate_left; (· intro w'; go_simp; with_reducible rfl); rotate_left; (· simp only [Act.put,LSET14_]; rfl)
          refine take_ (i := 5) (N := some 40) (v := ?_) (a' := ?_) AR14_6 rfl rfl (take_ofW HT_.out HW_.out (by kernel_rfl)) (fun _ _ _ h => h) (Or.inl ⟨by rfl,?_⟩) hHeld ?_ ?_; rotate_left; (· rintro w' ⟨s0,s1,s2,s3,s4,s5⟩; go_simp; with_reducible rfl); rotate_left; (· simp only [Act.put,LSET14_]; rfl)
          refine pure_ (i := 6) (N := some 41) (v := ?_) (a' := ?_) AR14_7 rfl rfl (any_of HT_.out (by kernel_rfl)) (fun _ _ _ h => h) (Or.inl ⟨by rfl,?_⟩) ?_ ?_; rotate_left; (· intro w'; go_simp; with_reducible rfl); rotate_left; (· simp only [Act.put,LSET14_]; rfl)
          refine pure_ (i := 7) (N := some 42) (v := ?_) (a' := ?_) AR14_8 rfl rfl (any_of HT_.out (by kernel_rfl)) (fun _ _ _ h => h) (Or.inl ⟨by rfl,?_⟩) ?_ ?_; rotate_left; (· intro w'; go_simp; with_reducible rfl); rotate_left; (· simp only [Act.put,LSET14_]; rfl)
          refine pure_ (i := 8) (N := some 43) (v := ?_) (a' := ?_) AR14_9 rfl rfl (any_of HT_.out (by kernel_rfl)) (fun _ _ _ h => h) (Or.inl ⟨by rfl,?_⟩) ?_ ?_; rotate_left; (· intro w'; go_simp; with_reducible rfl); rotate_left; (· simp only [Act.put,LSET14_]; rfl)
          refine pure_ (i := 9) (N := some 44) (v := ?_) (a' := ?_) AR14_10 rfl rfl (any_of HT_.out (by kernel_rfl)) (fun _ _ _ h => h) (Or.inl ⟨by rfl,?_⟩) ?_ ?_; rotate_left; (· intro w'; go_simp; with_reducible rfl); rotate_left; (· simp only [Act.put,LSET14_]; rfl)
          refine take_ (i := 10) (N := some 45) (v := ?_) (a' := ?_) AR14_11 rfl rfl (take_ofW HT_.out HW_.out (by kernel_rfl)) (fun _ _ _ h => h) (Or.inl ⟨by rfl,?_⟩) hHeld ?_ ?_; rotate_left; (· rintro w' ⟨s0,s1,s2,s3,s4,s5⟩; go_simp; with_reducible rfl); rotate_left; (· simp only [Act.put,LSET14_]; rfl)
          refine pure_ (i := 11) (N := some 46) (v := ?_) (a' := ?_) AR14_12 rfl rfl (any_of HT_.out (by kernel_rfl)) (fun _ _ _ h => h) (Or.inl ⟨by rfl,?_⟩) ?_ ?_; rotate_left; (· intro w'; go_simp; with_reducible rfl); rotate_left; (· simp only [Act.put,LSET14_]; rfl)
          refine pure_ (i := 12) (N := some 47) (v := ?_) (a' := ?_) AR14_13 rfl rfl (any_of HT_.out (by kernel_rfl)) (fun _ _ _ h => h) (Or.inl ⟨by rfl,?_⟩) ?_ ?_; rotate_left; (· intro w'; go_simp; with_reducible rfl); rotate_left; (· simp only [Act.put,LSET14_]; rfl)
          refine pure_ (i := 13) (N := some 48) (v := ?_) (a' := ?_) AR14_14 rfl rfl (any_of HT_.out (by kernel_rfl)) (fun _ _ _ h => h) (Or.inl ⟨by rfl,?_⟩) ?_ ?_; rotate_left; (· intro w'; go_simp; with_reducible rfl); rotate_left; (· simp only [Act.put,LSET14_]; rfl)
          refine pure_ (i := 14) (N := some 49) (v := undef) (a' := ?_) AR14_15 rfl rfl (any_of HT_.out (by kernel_rfl)) (fun _ _ _ h => h) (Or.inr ⟨by rfl,rfl⟩) ?_ ?_; rotate_left; (· simp only [Act.put,LSET14_]; rfl)
          refine pure_ (i := 15) (N := some 50) (v := undef) (a' := ?_) AR14_18 rfl rfl (any_of HT_.out (by kernel_rfl)) (fun _ _ _ h => h) (Or.inr ⟨by rfl,rfl⟩) ?_ ?_; rotate_left; (· simp only [Act.put,LSET14_]; rfl)
          refine pure_ (i := 16) (N := some 51) (v := undef) (a' := ?_) AR14_19 rfl rfl (any_of HT_.out (by kernel_rfl)) (fun _ _ _ h => h) (Or.inr ⟨by rfl,rfl⟩) ?_ ?_; rotate_left; (· simp only [Act.put,LSET14_]; rfl)
          refine pure_ (i := 17) (N := some 52) (v := undef) (a' := ?_) AR14_20 rfl rfl (any_of HT_.out (by kernel_rfl)) (fun _ _ _ h => h) (Or.inr ⟨by rfl,rfl⟩) ?_ ?_; rotate_left; (· simp only [Act.put,LSET14_]; rfl)
          refine pure_ (i := 18) (N := some 53) (v := undef) (a' := ?_) AR14_21 rfl rfl (any_of HT_.out (by kernel_rfl)) (fun _ _ _ h => h) (Or.inr ⟨by rfl,rfl⟩) ?_ ?_; rotate_left; (· simp only [Act.put,LSET14_]; rfl)
          refine pure_ (i := 19) (N := some 54) (v := undef) (a' := ?_) AR14_22 rfl rfl (any_of HT_.out (by kernel_rfl)) (fun _ _ _ h => h) (Or.inr ⟨by rfl,rfl⟩) ?_ ?_; rotate_left; (· simp only [Act.put,LSET14_]; rfl)
          refine pure_ (i := 20) (N := some 55) (v := undef) (a' := ?_) AR14_23 rfl rfl (any_of HT_.out (by kernel_rfl)) (fun _ _ _ h => h) (Or.inr ⟨by rfl,rfl⟩) ?_ ?_; rotate_left; (· simp only [Act.put,LSET14_]; rfl)
          refine pure_ (i := 21) (N := some 56) (v := ?_) (a' := ?_) AR14_24 rfl rfl (any_of HT_.out (by kernel_rfl)) (fun _ _ _ h => h) (Or.inl ⟨by rfl,?_⟩) ?_ ?_; rotate_left; (· intro w'; go_simp; with_reducible rfl); rotate_left; (· simp only [Act.put,LSET14_]; rfl)
          refine pure_ (i := 22) (N := some 57) (v := ?_) (a' := ?_) AR14_25 rfl rfl (any_of HT_.out (by kernel_rfl)) (fun _ _ _ h => h) (Or.inl ⟨by rfl,?_⟩) ?_ ?_; rotate_left; (· intro w'; go_simp; with_reducible rfl); rotate_left; (· simp only [Act.put,LSET14_]; rfl)
          refine pure_ (i := 23) (N := some 58) (v := undef) (a' := ?_) AR14_26 rfl rfl (any_of HT_.out (by kernel_rfl)) (fun _ _ _ h => h) (Or.inr ⟨by rfl,rfl⟩) ?_ ?_; rotate_left; (· simp only [Act.put,LSET14_]; rfl)
          refine pure_ (i := 24) (N := some 59) (v := undef) (a' := ?_) AR14_27 rfl rfl (any_of HT_.out (by kernel_rfl)) (fun _ _ _ h => h) (Or.inr ⟨by rfl,rfl⟩) ?_ ?_; rotate_left; (· simp only [Act.put,LSET14_]; rfl)
          refine pure_ (i := 25) (N := some 60) (v := undef) (a' := ?_) AR14_28 rfl rfl (any_of HT_.out (by kernel_rfl)) (fun _ _ _ h => h) (Or.inr ⟨by rfl,rfl⟩) ?_ ?_; rotate_left; (· simp only [Act.put,LSET14_]; rfl)
          refine pure_ (i := 26) (N := some 61) (v := ?_) (a' := ?_) AR14_29 rfl rfl (any_of HT_.out (by kernel_rfl)) (fun _ _ _ h => h) (Or.inl ⟨by rfl,?_⟩) ?_ ?_; rotate_left; (· intro w'; go_simp; with_reducible rfl); rotate_left; (· simp only [Act.put,LSET14_]; rfl)
          refine pure_ (i := 27) (N := some 62) (v := ?_) (a' := ?_) AR14_30 rfl rfl (any_of HT_.out (by kernel_rfl)) (fun _ _ _ h => h) (Or.inl ⟨by rfl,?_⟩) ?_ ?_; rotate_left; (· intro w'; go_simp; with_reducible rfl); rotate_left; (· simp only [Act.put,LSET14_]; rfl)
          refine pure_ (i := 28) (N := some 63) (v := undef) (a' := ?_) AR14_31 rfl rfl (any_of HT_.out (by kernel_rfl)) (fun _ _ _ h => h) (Or.inr ⟨by rfl,rfl⟩) ?_ ?_; rotate_left; (· simp only [Act.put,LSET14_]; rfl)
          refine pure_ (i := 29) (N := some 64) (v := undef) (a' := ?_) AR14_32 rfl rfl (any_of HT_.out (by kernel_rfl)) (fun _ _ _ h => h) (Or.inr ⟨by rfl,rfl⟩) ?_ ?_; rotate_left; (· simp only [Act.put,LSET14_]; rfl)
          refine pure_ (i := 30) (N := some 65) (v := undef) (a' := ?_) AR14_33 rfl rfl (any_of HT_.out (by kernel_rfl)) (fun _ _ _ h => h) (Or.inr ⟨by rfl,rfl⟩) ?_ ?_; rotate_left; (· simp only [Act.put,LSET14_]; rfl)
          refine pure_ (i := 31) (N := some 66) (v := ?_) (a' := ?_) AR14_34 rfl rfl (any_of HT_.out (by kernel_rfl)) (fun _ _ _ h => h) (Or.inl ⟨by rfl,?_⟩) ?_ ?_; rotate_left; (· intro w'; go_simp; with_reducible rfl); rotate_left; (· simp only [Act.put,LSET14_]; rfl)
          refine pure_ (i := 32) (N := some 67) (v := ?_) (a' := ?_) AR14_35 rfl rfl (any_of HT_.out (by kernel_rfl)) (fun _ _ _ h => h) (Or.inl ⟨by rfl,?_⟩) ?_ ?_; rotate_left; (· intro w'; go_simp; with_reducible rfl); rotate_left; (· simp only [Act.put,LSET14_]; rfl)
          refine pure_ (i := 33) (N := some 68) (v := undef) (a' := ?_) AR14_36 rfl rfl (any_of HT_.out (by kernel_rfl)) (fun _ _ _ h => h) (Or.inr ⟨by rfl,rfl⟩) ?_ ?_; rotate_left; (· simp only [Act.put,LSET14_]; rfl)
          refine pure_ (i := 34) (N := some 69) (v := undef) (a' := ?_) AR14_37 rfl rfl (any_of HT_.out (by kernel_rfl)) (fun _ _ _ h => h) (Or.inr ⟨by rfl,rfl⟩) ?_ ?_; rotate_left; (· simp only [Act.put,LSET14_]; rfl)
          refine pure_ (i := 35) (N := some 70) (v := undef) (a' := ?_) AR14_38 rfl rfl (any_of HT_.out (by kernel_rfl)) (fun _ _ _ h => h) (Or.inr ⟨by rfl,rfl⟩) ?_ ?_; rotate_left; (· simp only [Act.put,LSET14_]; rfl)
          refine pure_ (i := 36) (N := some 71) (v := ?_) (a' := ?_) AR14_39 rfl rfl (any_of HT_.out (by kernel_rfl)) (fun _ _ _ h => h) (Or.inl ⟨by rfl,?_⟩) ?_ ?_; rotate_left; (· intro w'; go_simp; with_reducible rfl); rotate_left; (· simp only [Act.put,LSET14_]; rfl)
          refine done_ (done_of HT_.out (by kernel_rfl)) ?_
          try go_wp2
          go_meet
          case rel => exact ⟨_,(true),(by first | rfl | (simp; done) | (simp [*]; done)),H',⟨by have := HJ2.out; have := HJ11.out; first | omega | exact Nat.le_refl _⟩,⟨by (with_reducible repeat (first | refine blk_drewN ?_ _ | refine blk_drew ?_ | refine blk_alloc ?_ _)); exact BK250.out⟩,⟨by repeat (first | (with_reducible first | exact HB.out | apply below_alloc | apply pw_below_drewN | apply below_drew1 | refine below_set ?_ GE250.out) | exact HB.out)⟩⟩
         ·rw [if_neg c20] at H
          have c20b0 : decide (t245 < 1) = false := decide_eq_false c20
          clear c20
          replace H := Option.bind_eq_some_iff.mp H
          obtain ⟨t251,A220,H⟩ := H
          replace H : (if t245 > t251 then (der_Untime.j2 kj11 x6_11 true t243 t244 t245 t246 t247 t248) else (if t246 > 23 then (der_Untime.j2 kj11 x6_11 true t243 t244 t245 t246 t247 t248) else (if t247 > 59 then (der_Untime.j2 kj11 x6_11 true t243 t244 t245 t246 t247 t248) else (der_Untime.j2 kj11 x6_11 (decide (t248 > 59)) t243 t244 t245 t246 t247 t248)))) = some (r1,r2) := H
          have A22 := Aside0.mk A220
          clear A220
          by_cases c23 : t245 > t251
          ·rw [if_pos c23] at H
           have c23b0 : decide (t251 < t245) = true := decide_eq_true c23
           clear c23
           have H' := Aside0.mk H
           clear H
           try go_wp2
           have n0_ := Aside0.mk (blk_drew BK250.out)
           have n1_ := Aside0.mk (below_drew1 HB.out)
           clear BK250
           clear HB
           have BK250 := n0_
           have HB := n1_
           clear n0_ n1_
           refine start_ (n := 37) (S := fun w' => w'.cell? ⟨gb250,0,none⟩ = some (.int .i64 t243) ∧ w'.cell? ⟨gb250,1,none⟩ = some (.int .i64 t244) ∧ w'.cell? ⟨gb250,2,none⟩ = some (.int .i64 t245) ∧ w'.cell? ⟨gb250,3,none⟩ = some (.int .i64 t246) ∧ w'.cell? ⟨gb250,4,none⟩ = some (.int .i64 t247) ∧ w'.cell? ⟨gb250,5,none⟩ = some (.int .i64 t248)) (ds := []) AR14_0 (by kernel_rfl) rfl rfl ⟨(blk_cell BK250.out 0).trans rfl,(blk_cell BK250.out 1).trans rfl,(blk_cell BK250.out 2).trans rfl,(blk_cell BK250.out 3).trans rfl,(blk_cell BK250.out 4).trans rfl,(blk_cell BK250.out 5).trans rfl⟩ (fun hHeld => ?_); refine with_tabW der_Untime.tab7 der_Untime.bits7 (fun HT_ HW_ => ?_)
           generalize wc.drew = w24 at BK250 HB hHeld ⊢
           refine pure_ (i := 0) (N := some 35) (v := ?_) (a' := ?_) AR14_1 rfl rfl (any_of HT_.out (by kernel_rfl)) (fun _ _ _ h => h) (Or.inl ⟨by rfl,?_⟩) ?_ ?_; rotate_left; (· intro w'; go_simp; with_reducible rfl); rotate_left; (· simp only [Act.put,LSET14_]; rfl)
           refine take_ (i := 1) (N := some 36) (v := ?_) (a' := ?_) AR14_2 rfl rfl (take_ofW HT_.out HW_.out (by kernel_rfl)) (fun _ _ _ h => h) (Or.inl ⟨by rfl,?_⟩) hHeld ?_ ?_; rotate_left; (· rintro w' ⟨s0,s1,s2,s3,s4,s5⟩; go_simp; with_reducible rfl); rotate_left; (· simp only [Act.put,LSET14_]; rfl)
           refine pure_ (i := 2) (N := some 37) (v := ?_) (a' := ?_) AR14_3 rfl rfl (any_of HT_.out (by kernel_rfl)) (fun _ _ _ h => h) (Or.inl ⟨by rfl,?_⟩) ?_ ?_; rotate_left; (· intro w'; go_simp; with_reducible rfl); rotate_left; (· simp only [Act.put,LSET14_]; rfl)
           refine pure_ (i := 3) (N := some 38) (v := ?_) (a' := ?_) AR14_4 rfl rfl (any_of HT_.out (by kernel_rfl)) (fun _ _ _ h => h) (Or.inl ⟨by rfl,?_⟩) ?_ ?_; rotate_left; (· intro w'; go_simp; with_reducible rfl); rotate_left; (· simp only [Act.put,LSET14_]; rfl)
           refine pure_ (i := 4) (N := some 39) (v := ?_) (a' := ?_) AR14_5 rfl rfl (any_of HT_.out (by kernel_rfl)) (fun _ _ _ h => h) (Or.inl ⟨by rfl,?_⟩) ?_ ?_; rotate_left; (· intro w'; go_simp; with_reducible rfl); rotate_left; (· simp only [Act.put,LSET14_]; rfl)
           refine take_ (i := 5) (N := some 40) (v := ?_) (a' := ?_) AR14_6 rfl rfl (take_ofW HT_.out HW_.out (by kernel_rfl)) (fun _ _ _ h => h) (Or.inl ⟨by rfl,?_⟩) hHeld ?_ ?_; rotate_left; (· rintro w' ⟨s0,s1,s2,s3,s4,s5⟩; go_simp; with_reducible rfl); rotate_left; (· simp only [Act.put,LSET14_]; rfl)
           refine pure_ (i := 6) (N := some 41) (v := ?_) (a' := ?_) AR14_7 rfl rfl (any_of HT_.out (by kernel_rfl)) (fun _ _ _ h => h) (Or.inl ⟨by rfl,?_⟩) ?_ ?_; rotate_left; (· intro w'; go_simp; with_reducible rfl); rotate_left; (· simp only [Act.put,LSET14_]; rfl)
           refine pure_ (i := 7) (N := some 42) (v := ?_) (a' := ?_) AR14_8 rfl rfl (any_of HT_.out (by kernel_rfl)) (fun _ _ _ h => h) (Or.inl ⟨by rfl,?_⟩) ?_ ?_; rotate_left; (· intro w'; go_simp; with_reducible rfl); rotate_left; (· simp only [Act.put,LSET14_]; rfl)
           refine pure_ (i := 8) (N := some 43) (v := ?_) (a' := ?_) AR14_9 rfl rfl (any_of HT_.out (by kernel_rfl)) (fun _ _ _ h => h) (Or.inl ⟨by rfl,?_⟩) ?_ ?_; rotate_left; (· intro w'; go_simp; with_reducible rfl); rotate_left; (· simp only [Act.put,LSET14_]; rfl)
           refine pure_ (i := 9) (N := some 44) (v := ?_) (a' := ?_) AR14_10 rfl rfl (any_of HT_.out (by kernel_rfl)) (fun _ _ _ h => h) (Or.inl ⟨by rfl,?_⟩) ?_ ?_; rotate_left; (· intro w'; go_simp; with_reducible rfl); rotate_left; (· simp only [Act.put,LSET14_]; rfl)
           refine take_ (i := 10) (N := some 45) (v := ?_) (a' := ?_) AR14_11 rfl rfl (take_ofW HT_.out HW_.out (by kernel_rfl)) (fun _ _ _ h => h) (Or.inl ⟨by rfl,?_⟩) hHeld ?_ ?_; rotate_left; (· rintro w' ⟨s0,s1,s2,s3,s4,s5⟩; go_simp; with_reducible rfl); rotate_left; (· simp only [Act.put,LSET14_]; rfl)
           refine pure_ (i := 11) (N := some 46) (v := ?_) (a' := ?_) AR14_12 rfl rfl (any_of HT_.out (by kernel_rfl)) (fun _ _ _ h => h) (Or.inl ⟨by rfl,?_⟩) ?_ ?_; rotate_left; (· intro w'; go_simp; with_reducible rfl); rotate_left; (· simp only [Act.put,LSET14_]; rfl)
           refine pure_ (i := 12) (N := some 47) (v := ?_) (a' := ?_) AR14_13 rfl rfl (any_of HT_.out (by kernel_rfl)) (fun _ _ _ h => h) (Or.inl ⟨by rfl,?_⟩) ?_ ?_; rotate_left; (· intro w'; go_simp; with_reducible rfl); rotate_left; (· simp only [Act.put,LSET14_]; rfl)
           refine pure_ (i := 13) (N := some 48) (v := ?_) (a' := ?_) AR14_14 rfl rfl (any_of HT_.out (by kernel_rfl)) (fun _ _ _ h => h) (Or.inl ⟨by rfl,?_⟩) ?_ ?_; rotate_left; (· intro w'; go_simp; with_reducible rfl); rotate_left; (· simp only [Act.put,LSET14_]; rfl)
           refine pure_ (i := 14) (N := some 49) (v := ?_) (a' := ?_) AR14_15 rfl rfl (any_of HT_.out (by kernel_rfl)) (fun _ _ _ h => h) (Or.inl ⟨by rfl,?_⟩) ?_ ?_; rotate_left; (· intro w'; go_simp; with_reducible rfl); rotate_left; (· simp only [Act.put,LSET14_]; rfl)
           refine pure_ (i := 16) (N := some 51) (v := ?_) (a' := ?_) AR14_16 rfl rfl (any_of HT_.out (by kernel_rfl)) (fun _ _ _ h => h) (Or.inl ⟨by rfl,?_⟩) ?_ ?_; rotate_left; (· intro w'; go_simp; with_reducible rfl); rotate_left; (· simp only [Act.put,LSET14_]; rfl)
           refine pure_ (i := 17) (N := some 52) (v := ?_) (a' := ?_) AR14_17 rfl rfl (any_of HT_.out (by kernel_rfl)) (fun _ _ _ h => h) (Or.inl ⟨by rfl,?_⟩) ?_ ?_; rotate_left; (· intro w'; go_simp; with_reducible rfl); rotate_left; (· simp only [Act.put,LSET14_]; rfl)
           refine take_ (i := 15) (N := some 50) (v := ?_) (a' := ?_) AR14_20 rfl rfl (take_ofW HT_.out HW_.out (by kernel_rfl)) (fun _ _ _ h => h) (Or.inl ⟨by rfl,?_⟩) hHeld ?_ ?_; rotate_left; (· rintro w' ⟨s0,s1,s2,s3,s4,s5⟩; go_simp; with_reducible rfl); rotate_left; (· simp only [Act.put,LSET14_]; rfl)
           refine take_ (i := 18) (N := some 53) (v := ?_) (a' := ?_) AR14_21 rfl rfl (take_ofW HT_.out HW_.out (by kernel_rfl)) (fun _ _ _ h => h) (Or.inl ⟨by rfl,?_⟩) hHeld ?_ ?_; rotate_left; (· rintro w' ⟨s0,s1,s2,s3,s4,s5⟩; go_simp; with_reducible rfl); rotate_left; (· simp only [Act.put,LSET14_]; rfl)
           refine one_ (i := 19) (N := some 54) AR14_22 rfl rfl (one_of HT_.out (by kernel_rfl)) (by decide) (fun K hK => ?_)
           refine goes_ Try.func23 (by kernel_rfl) rfl #[.int .i64 x6_11,.int .i64 t244] (by rfl) rfl rfl (by (try simp only [List.map_toArray,List.map_cons,List.map_nil]); first | done | rfl | (simp only [List.length_drop,List.length_take]; rfl)) ?_
           with_reducible refine (der_days.calls x6_11 t244 t251 _ A22.out).mono ?_
           rintro e w' ⟨rfl,⟨nd,rfl⟩⟩
           refine ⟨_,rfl,?_⟩
           refine hK.out _ _ ⟨(blk_cell BK250.out 0).trans rfl,(blk_cell BK250.out 1).trans rfl,(blk_cell BK250.out 2).trans rfl,(blk_cell BK250.out 3).trans rfl,(blk_cell BK250.out 4).trans rfl,(blk_cell BK250.out 5).trans rfl⟩ (fun hHeld => ?_)
           clear hK K
           refine norm_ (a' := ?_) ?_ ?_
           rotate_left
           ·show Act.put _ (some 54) _ = _
            simp only [Act.put,LSET14_]
            rfl
           refine pure_ (i := 20) (N := some 55) (v := ?_) (a' := ?_) AR14_23 rfl rfl (any_of HT_.out (by kernel_rfl)) (fun _ _ _ h => h) (Or.inl ⟨by rfl,?_⟩) ?_ ?_; rotate_left; (· intro w'; go_simp; with_reducible rfl); rotate_left; (· simp only [Act.put,LSET14_]; rfl)
           refine pure_ (i := 21) (N := some 56) (v := ?_) (a' := ?_) AR14_24 rfl rfl (any_of HT_.out (by kernel_rfl)) (fun _ _ _ h => h) (Or.inl ⟨by rfl,?_⟩) ?_ ?_; rotate_left; (· intro w'; go_simp; with_reducible rfl); rotate_left; (· simp only [Act.put,LSET14_]; rfl)
           refine pure_ (i := 22) (N := some 57) (v := ?_) (a' := ?_) AR14_25 rfl rfl (any_of HT_.out (by kernel_rfl)) (fun _ _ _ h => h) (Or.inl ⟨by rfl,?_⟩) ?_ ?_; rotate_left; (· intro w'; go_simp; with_reducible rfl); rotate_left; (· simp only [Act.put,LSET14_]; rfl)
           refine pure_ (i := 23) (N := some 58) (v := undef) (a' := ?_) AR14_26 rfl rfl (any_of HT_.out (by kernel_rfl)) (fun _ _ _ h => h) (Or.inr ⟨by rfl,rfl⟩) ?_ ?_; rotate_left; (· simp only [Act.put,LSET14_]; rfl)
           refine pure_ (i := 24) (N := some 59) (v := undef) (a' := ?_) AR14_27 rfl rfl (any_of HT_.out (by kernel_rfl)) (fun _ _ _ h => h) (Or.inr ⟨by rfl,rfl⟩) ?_ ?_; rotate_left; (· simp only [Act.put,LSET14_]; rfl)
           refine pure_ (i := 25) (N := some 60) (v := undef) (a' := ?_) AR14_28 rfl rfl (any_of HT_.out (by kernel_rfl)) (fun _ _ _ h => h) (Or.inr ⟨by rfl,rfl⟩) ?_ ?_; rotate_left; (· simp only [Act.put,LSET14_]; rfl)
           refine pure_ (i := 26) (N := some 61) (v := ?_) (a' := ?_) AR14_29 rfl rfl (any_of HT_.out (by kernel_rfl)) (fun _ _ _ h => h) (Or.inl ⟨by rfl,?_⟩) ?_ ?_; rotate_left; (· intro w'; go_simp; with_reducible rfl); rotate_left; (· simp only [Act.put,LSET14_]; rfl)
           refine pure_ (i := 27) (N := some 62) (v := ?_) (a' := ?_) AR14_30 rfl rfl (any_of HT_.out (by kernel_rfl)) (fun _ _ _ h => h) (Or.inl ⟨by rfl,?_⟩) ?_ ?_; rotate_left; (· intro w'; go_simp; with_reducible rfl); rotate_left; (· simp only [Act.put,LSET14_]; rfl)
           refine pure_ (i := 28) (N := some 63) (v := undef) (a' := ?_) AR14_31 rfl rfl (any_of HT_.out (by kernel_rfl)) (fun _ _ _ h => h) (Or.inr ⟨by rfl,rfl⟩) ?_ ?_; rotate_left; (· simp only [Act.put,LSET14_]; rfl)
           refine pure_ (i := 29) (N := some 64) (v := undef) (a' := ?_) AR14_32 rfl rfl (any_of HT_.out (by kernel_rfl)) (fun _ _ _ h => h) (Or.inr ⟨by rfl,rfl⟩) ?_ ?_; rotate_left; (· simp only [Act.put,LSET14_]; rfl)
           refine pure_ (i := 30) (N := some 65) (v := undef) (a' := ?_) AR14_33 rfl rfl (any_of HT_.out (by kernel_rfl)) (fun _ _ _ h => h) (Or.inr ⟨by rfl,rfl⟩) ?_ ?_; rotate_left; (· simp only [Act.put,LSET14_]; rfl)
           refine pure_ (i := 31) (N := some 66) (v := ?_) (a' := ?_) AR14_34 rfl rfl (any_of HT_.out (by kernel_rfl)) (fun _ _ _ h => h) (Or.inl ⟨by rfl,?_⟩) ?_ ?_; rotate_left; (· intro w'; go_simp; with_reducible rfl); rotate_left; (· simp only [Act.put,LSET14_]; rfl)
           refine pure_ (i := 32) (N := some 67) (v := ?_) (a' := ?_) AR14_35 rfl rfl (any_of HT_.out (by kernel_rfl)) (fun _ _ _ h => h) (Or.inl ⟨by rfl,?_⟩) ?_ ?_; rotate_left; (· intro w'; go_simp; with_reducible rfl); rotate_left; (· simp only [Act.put,LSET14_]; rfl)
           refine pure_ (i := 33) (N := some 68) (v := undef) (a' := ?_) AR14_36 rfl rfl (any_of HT_.out (by kernel_rfl)) (fun _ _ _ h => h) (Or.inr ⟨by rfl,rfl⟩) ?_ ?_; rotate_left; (· simp only [Act.put,LSET14_]; rfl)
           refine pure_ (i := 34) (N := some 69) (v := undef) (a' := ?_) AR14_37 rfl rfl (any_of HT_.out (by kernel_rfl)) (fun _ _ _ h => h) (Or.inr ⟨by rfl,rfl⟩) ?_ ?_; rotate_left; (· simp only [Act.put,LSET14_]; rfl)
           refine pure_ (i := 35) (N := some 70) (v := undef) (a' := ?_) AR14_38 rfl rfl (any_of HT_.out (by kernel_rfl)) (fun _ _ _ h => h) (Or.inr ⟨by rfl,rfl⟩) ?_ ?_; rotate_left; (· simp only [Act.put,LSET14_]; rfl)
           refine pure_ (i := 36) (N := some 71) (v := ?_) (a' := ?_) AR14_39 rfl rfl (any_of HT_.out (by kernel_rfl)) (fun _ _ _ h => h) (Or.inl ⟨by rfl,?_⟩) ?_ ?_; rotate_left; (· intro w'; go_simp; with_reducible rfl); rotate_left; (· simp only [Act.put,LSET14_]; rfl)
           refine done_ (done_of HT_.out (by kernel_rfl)) ?_
           try go_wp2
           go_meet
           case rel => exact ⟨_,(true),(by first | rfl | (simp; done) | (simp [*]; done)),H',⟨by have := HJ2.out; have := HJ11.out; first | omega | exact Nat.le_refl _⟩,⟨by (with_reducible repeat (first | refine blk_drewN ?_ _ | refine blk_drew ?_ | refine blk_alloc ?_ _)); exact BK250.out⟩,⟨by repeat (first | (with_reducible first | exact HB.out | apply below_alloc | apply pw_below_drewN | apply below_drew1 | refine below_set ?_ GE250.out) | exact HB.out)⟩⟩
          ·rw [if_neg c23] at H
           have c23b0 : decide (t251 < t245) = false := decide_eq_false c23
           clear c23
           by_cases c25 : t246 > 23
           ·rw [if_pos c25] at H
            have c25b0 : decide (23 < t246) = true := decide_eq_true c25
            clear c25
            have H' := Aside0.mk H
            clear H
            try go_wp2
            have n0_ := Aside0.mk (blk_drew BK250.out)
            have n1_ := Aside0.mk (below_drew1 HB.out)
            clear BK250
            clear HB
            have BK250 := n0_
            have HB := n1_
            clear n0_ n1_
            refine start_ (n := 37) (S := fun w' => w'.cell? ⟨gb250,0,none⟩ = some (.int .i64 t243) ∧ w'.cell? ⟨gb250,1,none⟩ = some (.int .i64 t244) ∧ w'.cell? ⟨gb250,2,none⟩ = some (.int .i64 t245) ∧ w'.cell? ⟨gb250,3,none⟩ = some (.int .i64 t246) ∧ w'.cell? ⟨gb250,4,none⟩ = some (.int .i64 t247) ∧ w'.cell? ⟨gb250,5,none⟩ = some (.int .i64 t248)) (ds := []) AR14_0 (by kernel_rfl) rfl rfl ⟨(blk_cell BK250.out 0).trans rfl,(blk_cell BK250.out 1).trans rfl,(blk_cell BK250.out 2).trans rfl,(blk_cell BK250.out 3).trans rfl,(blk_cell BK250.out 4).trans rfl,(blk_cell BK250.out 5).trans rfl⟩ (fun hHeld => ?_); refine with_tabW der_Untime.tab7 der_Untime.bits7 (fun HT_ HW_ => ?_)
            generalize wc.drew = w26 at BK250 HB hHeld ⊢
            refine pure_ (i := 0) (N := some 35) (v := ?_) (a' := ?_) AR14_1 rfl rfl (any_of HT_.out (by kernel_rfl)) (fun _ _ _ h => h) (Or.inl ⟨by rfl,?_⟩) ?_ ?_; rotate_left; (· intro w'; go_simp; with_reducible rfl); rotate_left; (· simp only [Act.put,LSET14_]; rfl)
            refine take_ (i := 1) (N := some 36) (v := ?_) (a' := ?_) AR14_2 rfl rfl (take_ofW HT_.out HW_.out (by kernel_rfl)) (fun _ _ _ h => h) (Or.inl ⟨by rfl,?_⟩) hHeld ?_ ?_; rotate_left; (· rintro w' ⟨s0,s1,s2,s3,s4,s5⟩; go_simp; with_reducible rfl); rotate_left; (· simp only [Act.put,LSET14_]; rfl)
            refine pure_ (i := 2) (N := some 37) (v := ?_) (a' := ?_) AR14_3 rfl rfl (any_of HT_.out (by kernel_rfl)) (fun _ _ _ h => h) (Or.inl ⟨by rfl,?_⟩) ?_ ?_; rotate_left; (· intro w'; go_simp; with_reducible rfl); rotate_left; (· simp only [Act.put,LSET14_]; rfl)
            refine pure_ (i := 3) (N := some 38) (v := ?_) (a' := ?_) AR14_4 rfl rfl (any_of HT_.out (by kernel_rfl)) (fun _ _ _ h => h) (Or.inl ⟨by rfl,?_⟩) ?_ ?_; rotate_left; (· intro w'; go_simp; with_reducible rfl); rotate_left; (· simp only [Act.put,LSET14_]; rfl)
            refine pure_ (i := 4) (N := some 39) (v := ?_) (a' := ?_) AR14_5 rfl rfl (any_of HT_.out (by kernel_rfl)) (fun _ _ _ h => h) (Or.inl ⟨by rfl,?_⟩) ?_ ?_; rotate_left; (· intro w'; go_simp; with_reducible rfl); rotate_left; (· simp only [Act.put,LSET14_]; rfl)
            refine take_ (i := 5) (N := some 40) (v := ?_) (a' := ?_) AR14_6 rfl rfl (take_ofW HT_.out HW_.out (by kernel_rfl)) (fun _ _ _ h => h) (Or.inl ⟨by rfl,?_⟩) hHeld ?_ ?_; rotate_left; (· rintro w' ⟨s0,s1,s2,s3,s4,s5⟩; go_simp; with_reducible rfl); rotate_left; (· simp only [Act.put,LSET14_]; rfl)
            refine pure_ (i := 6) (N := some 41) (v := ?_) (a' := ?_) AR14_7 rfl rfl (any_of HT_.out (by kernel_rfl)) (fun _ _ _ h => h) (Or.inl ⟨by rfl,?_⟩) ?_ ?_; rotate_left; (· intro w'; go_simp; with_reducible rfl); rotate_left; (· simp only [Act.put,LSET14_]; rfl)
            refine pure_ (i := 7) (N := some 42) (v := ?_) (a' := ?_) AR14_8 rfl rfl (any_of HT_.out (by kernel_rfl)) (fun _ _ _ h => h) (Or.inl ⟨by rfl,?_⟩) ?_ ?_; rotate_left; (· intro w'; go_simp; with_reducible rfl); rotate_left; (· simp only [Act.put,LSET14_]; rfl)
            refine pure_ (i := 8) (N := some 43) (v := ?_) (a' := ?_) AR14_9 rfl rfl (any_of HT_.out (by kernel_rfl)) (fun _ _ _ h => h) (Or.inl ⟨by rfl,?_⟩) ?_ ?_; rotate_left; (· intro w'; go_simp; with_reducible rfl); rotate_left; (· simp only [Act.put,LSET14_]; rfl)
            refine pure_ (i := 9) (N := some 44) (v := ?_) (a' := ?_) AR14_10 rfl rfl (any_of HT_.out (by kernel_rfl)) (fun _ _ _ h => h) (Or.inl ⟨by rfl,?_⟩) ?_ ?_; rotate_left; (· intro w'; go_simp; with_reducible rfl); rotate_left; (· simp only [Act.put,LSET14_]; rfl)
            refine take_ (i := 10) (N := some 45) (v := ?_) (a' := ?_) AR14_11 rfl rfl (take_ofW HT_.out HW_.out (by kernel_rfl)) (fun _ _ _ h => h) (Or.inl ⟨by rfl,?_⟩) hHeld ?_ ?_; rotate_left; (· rintro w' ⟨s0,s1,s2,s3,s4,s5⟩; go_simp; with_reducible rfl); rotate_left; (· simp only [Act.put,LSET14_]; rfl)
            refine pure_ (i := 11) (N := some 46) (v := ?_) (a' := ?_) AR14_12 rfl rfl (any_of HT_.out (by kernel_rfl)) (fun _ _ _ h => h) (Or.inl ⟨by rfl,?_⟩) ?_ ?_; rotate_left; (· intro w'; go_simp; with_reducible rfl); rotate_left; (· simp only [Act.put,LSET14_]; rfl)
            refine pure_ (i := 12) (N := some 47) (v := ?_) (a' := ?_) AR14_13 rfl rfl (any_of HT_.out (by kernel_rfl)) (fun _ _ _ h => h) (Or.inl ⟨by rfl,?_⟩) ?_ ?_; rotate_left; (· intro w'; go_simp; with_reducible rfl); rotate_left; (· simp only [Act.put,LSET14_]; rfl)
            refine pure_ (i := 13) (N := some 48) (v := ?_) (a' := ?_) AR14_14 rfl rfl (any_of HT_.out (by kernel_rfl)) (fun _ _ _ h => h) (Or.inl ⟨by rfl,?_⟩) ?_ ?_; rotate_left; (· intro w'; go_simp; with_reducible rfl); rotate_left; (· simp only [Act.put,LSET14_]; rfl)
            refine pure_ (i := 14) (N := some 49) (v := ?_) (a' := ?_) AR14_15 rfl rfl (any_of HT_.out (by kernel_rfl)) (fun _ _ _ h => h) (Or.inl ⟨by rfl,?_⟩) ?_ ?_; rotate_left; (· intro w'; go_simp; with_reducible rfl); rotate_left; (· simp only [Act.put,LSET14_]; rfl)
            refine pure_ (i := 16) (N := some 51) (v := ?_) (a' := ?_) AR14_16 rfl rfl (any_of HT_.out (by kernel_rfl)) (fun _ _ _ h => h) (Or.inl ⟨by rfl,?_⟩) ?_ ?_; rotate_left; (· intro w'; go_simp; with_reducible rfl); rotate_left; (· simp only [Act.put,LSET14_]; rfl)
            refine pure_ (i := 17) (N := some 52) (v := ?_) (a' := ?_) AR14_17 rfl rfl (any_of HT_.out (by kernel_rfl)) (fun _ _ _ h => h) (Or.inl ⟨by rfl,?_⟩) ?_ ?_; rotate_left; (· intro w'; go_simp; with_reducible rfl); rotate_left; (· simp only [Act.put,LSET14_]; rfl)
            refine take_ (i := 15) (N := some 50) (v := ?_) (a' := ?_) AR14_20 rfl rfl (take_ofW HT_.out HW_.out (by kernel_rfl)) (fun _ _ _ h => h) (Or.inl ⟨by rfl,?_⟩) hHeld ?_ ?_; rotate_left; (· rintro w' ⟨s0,s1,s2,s3,s4,s5⟩; go_simp; with_reducible rfl); rotate_left; (· simp only [Act.put,LSET14_]; rfl)
            refine take_ (i := 18) (N := some 53) (v := ?_) (a' := ?_) AR14_21 rfl rfl (take_ofW HT_.out HW_.out (by kernel_rfl)) (fun _ _ _ h => h) (Or.inl ⟨by rfl,?_⟩) hHeld ?_ ?_; rotate_left; (· rintro w' ⟨s0,s1,s2,s3,s4,s5⟩; go_simp; with_reducible rfl); rotate_left; (· simp only [Act.put,LSET14_]; rfl)
            refine one_ (i := 19) (N := some 54) AR14_22 rfl rfl (one_of HT_.out (by kernel_rfl)) (by decide) (fun K hK => ?_)
            refine goes_ Try.func23 (by kernel_rfl) rfl #[.int .i64 x6_11,.int .i64 t244] (by rfl) rfl rfl (by (try simp only [List.map_toArray,List.map_cons,List.map_nil]); first | done | rfl | (simp only [List.length_drop,List.length_take]; rfl)) ?_
            with_reducible refine (der_days.calls x6_11 t244 t251 _ A22.out).mono ?_
            rintro e w' ⟨rfl,⟨nd,rfl⟩⟩
            refine ⟨_,rfl,?_⟩
            refine hK.out _ _ ⟨(blk_cell BK250.out 0).trans rfl,(blk_cell BK250.out 1).trans rfl,(blk_cell BK250.out 2).trans rfl,(blk_cell BK250.out 3).trans rfl,(blk_cell BK250.out 4).trans rfl,(blk_cell BK250.out 5).trans rfl⟩ (fun hHeld => ?_)
            clear hK K
            refine norm_ (a' := ?_) ?_ ?_
            rotate_left
            ·show Act.put _ (some 54) _ = _
             simp only [Act.put,LSET14_]
             rfl
            refine pure_ (i := 20) (N := some 55) (v := ?_) (a' := ?_) AR14_23 rfl rfl (any_of HT_.out (by kernel_rfl)) (fun _ _ _ h => h) (Or.inl ⟨by rfl,?_⟩) ?_ ?_; rotate_left; (· intro w'; go_simp; with_reducible rfl); rotate_left; (· simp only [Act.put,LSET14_]; rfl)
            refine pure_ (i := 21) (N := some 56) (v := ?_) (a' := ?_) AR14_24 rfl rfl (any_of HT_.out (by kernel_rfl)) (fun _ _ _ h => h) (Or.inl ⟨by rfl,?_⟩) ?_ ?_; rotate_left; (· intro w'; go_simp; with_reducible rfl); rotate_left; (· simp only [Act.put,LSET14_]; rfl)
            refine pure_ (i := 22) (N := some 57) (v := ?_) (a' := ?_) AR14_25 rfl rfl (any_of HT_.out (by kernel_rfl)) (fun _ _ _ h => h) (Or.inl ⟨by rfl,?_⟩) ?_ ?_; rotate_left; (· intro w'; go_simp; with_reducible rfl); rotate_left; (· simp only [Act.put,LSET14_]; rfl)
            refine pure_ (i := 23) (N := some 58) (v := ?_) (a' := ?_) AR14_26 rfl rfl (any_of HT_.out (by kernel_rfl)) (fun _ _ _ h => h) (Or.inl ⟨by rfl,?_⟩) ?_ ?_; rotate_left; (· intro w'; go_simp; with_reducible rfl); rotate_left; (· simp only [Act.put,LSET14_]; rfl)
            refine take_ (i := 24) (N := some 59) (v := ?_) (a' := ?_) AR14_27 rfl rfl (take_ofW HT_.out HW_.out (by kernel_rfl)) (fun _ _ _ h => h) (Or.inl ⟨by rfl,?_⟩) hHeld ?_ ?_; rotate_left; (· rintro w' ⟨s0,s1,s2,s3,s4,s5⟩; go_simp; with_reducible rfl); rotate_left; (· simp only [Act.put,LSET14_]; rfl)
            refine pure_ (i := 25) (N := some 60) (v := ?_) (a' := ?_) AR14_28 rfl rfl (any_of HT_.out (by kernel_rfl)) (fun _ _ _ h => h) (Or.inl ⟨by rfl,?_⟩) ?_ ?_; rotate_left; (· intro w'; go_simp; with_reducible rfl); rotate_left; (· simp only [Act.put,LSET14_]; rfl)
            refine pure_ (i := 26) (N := some 61) (v := ?_) (a' := ?_) AR14_29 rfl rfl (any_of HT_.out (by kernel_rfl)) (fun _ _ _ h => h) (Or.inl ⟨by rfl,?_⟩) ?_ ?_; rotate_left; (· intro w'; go_simp; with_reducible rfl); rotate_left; (· simp only [Act.put,LSET14_]; rfl)
            refine pure_ (i := 27) (N := some 62) (v := ?_) (a' := ?_) AR14_30 rfl rfl (any_of HT_.out (by kernel_rfl)) (fun _ _ _ h => h) (Or.inl ⟨by rfl,?_⟩) ?_ ?_; rotate_left; (· intro w'; go_simp; with_reducible rfl); rotate_left; (· simp only [Act.put,LSET14_]; rfl)
            refine pure_ (i := 28) (N := some 63) (v := undef) (a' := ?_) AR14_31 rfl rfl (any_of HT_.out (by kernel_rfl)) (fun _ _ _ h => h) (Or.inr ⟨by rfl,rfl⟩) ?_ ?_; rotate_left; (· simp only [Act.put,LSET14_]; rfl)
            refine pure_ (i := 29) (N := some 64) (v := undef) (a' := ?_) AR14_32 rfl rfl (any_of HT_.out (by kernel_rfl)) (fun _ _ _ h => h) (Or.inr ⟨by rfl,rfl⟩) ?_ ?_; rotate_left; (· simp only [Act.put,LSET14_]; rfl)
            refine pure_ (i := 30) (N := some 65) (v := undef) (a' := ?_) AR14_33 rfl rfl (any_of HT_.out (by kernel_rfl)) (fun _ _ _ h => h) (Or.inr ⟨by rfl,rfl⟩) ?_ ?_; rotate_left; (· simp only [Act.put,LSET14_]; rfl)
            refine pure_ (i := 31) (N := some 66) (v := ?_) (a' := ?_) AR14_34 rfl rfl (any_of HT_.out (by kernel_rfl)) (fun _ _ _ h => h) (Or.inl ⟨by rfl,?_⟩) ?_ ?_; rotate_left; (· intro w'; go_simp; with_reducible rfl); rotate_left; (· simp only [Act.put,LSET14_]; rfl)
            refine pure_ (i := 32) (N := some 67) (v := ?_) (a' := ?_) AR14_35 rfl rfl (any_of HT_.out (by kernel_rfl)) (fun _ _ _ h => h) (Or.inl ⟨by rfl,?_⟩) ?_ ?_; rotate_left; (· intro w'; go_simp; with_reducible rfl); rotate_left; (· simp only [Act.put,LSET14_]; rfl)
            refine pure_ (i := 33) (N := some 68) (v := undef) (a' := ?_) AR14_36 rfl rfl (any_of HT_.out (by kernel_rfl)) (fun _ _ _ h => h) (Or.inr ⟨by rfl,rfl⟩) ?_ ?_; rotate_left; (· simp only [Act.put,LSET14_]; rfl)
            refine pure_ (i := 34) (N := some 69) (v := undef) (a' := ?_) AR14_37 rfl rfl (any_of HT_.out (by kernel_rfl)) (fun _ _ _ h => h) (Or.inr ⟨by rfl,rfl⟩) ?_ ?_; rotate_left; (· simp only [Act.put,LSET14_]; rfl)
            refine pure_ (i := 35) (N := some 70) (v := undef) (a' := ?_) AR14_38 rfl rfl (any_of HT_.out (by kernel_rfl)) (fun _ _ _ h => h) (Or.inr ⟨by rfl,rfl⟩) ?_ ?_; rotate_left; (· simp only [Act.put,LSET14_]; rfl)
            refine pure_ (i := 36) (N := some 71) (v := ?_) (a' := ?_) AR14_39 rfl rfl (any_of HT_.out (by kernel_rfl)) (fun _ _ _ h => h) (Or.inl ⟨by rfl,?_⟩) ?_ ?_; rotate_left; (· intro w'; go_simp; with_reducible rfl); rotate_left; (· simp only [Act.put,LSET14_]; rfl)
            refine done_ (done_of HT_.out (by kernel_rfl)) ?_
            try go_wp2
            go_meet
            case rel => exact ⟨_,(true),(by first | rfl | (simp; done) | (simp [*]; done)),H',⟨by have := HJ2.out; have := HJ11.out; first | omega | exact Nat.le_refl _⟩,⟨by (with_reducible repeat (first | refine blk_drewN ?_ _ | refine blk_drew ?_ | refine blk_alloc ?_ _)); exact BK250.out⟩,⟨by repeat (first | (with_reducible first | exact HB.out | apply below_alloc | apply pw_below_drewN | apply below_drew1 | refine below_set ?_ GE250.out) | exact HB.out)⟩⟩
           ·rw [if_neg c25] at H
            have c25b0 : decide (23 < t246) = false := decide_eq_false c25
            clear c25
            by_cases c27 : t247 > 59
            ·rw [if_pos c27] at H
             have c27b0 : decide (59 < t247) = true := decide_eq_true c27
             clear c27
             have H' := Aside0.mk H
             clear H
             try go_wp2
             have n0_ := Aside0.mk (blk_drew BK250.out)
             have n1_ := Aside0.mk (below_drew1 HB.out)
             clear BK250
             clear HB
             have BK250 := n0_
             have HB := n1_
             clear n0_ n1_
             refine start_ (n := 37) (S := fun w' => w'.cell? ⟨gb250,0,none⟩ = some (.int .i64 t243) ∧ w'.cell? ⟨gb250,1,none⟩ = some (.int .i64 t244) ∧ w'.cell? ⟨gb250,2,none⟩ = some (.int .i64 t245) ∧ w'.cell? ⟨gb250,3,none⟩ = some (.int .i64 t246) ∧ w'.cell? ⟨gb250,4,none⟩ = some (.int .i64 t247) ∧ w'.cell? ⟨gb250,5,none⟩ = some (.int .i64 t248)) (ds := []) AR14_0 (by kernel_rfl) rfl rfl ⟨(blk_cell BK250.out 0).trans rfl,(blk_cell BK250.out 1).trans rfl,(blk_cell BK250.out 2).trans rfl,(blk_cell BK250.out 3).trans rfl,(blk_cell BK250.out 4).trans rfl,(blk_cell BK250.out 5).trans rfl⟩ (fun hHeld => ?_); refine with_tabW der_Untime.tab7 der_Untime.bits7 (fun HT_ HW_ => ?_)
             generalize wc.drew = w28 at BK250 HB hHeld ⊢
             refine pure_ (i := 0) (N := some 35) (v := ?_) (a' := ?_) AR14_1 rfl rfl (any_of HT_.out (by kernel_rfl)) (fun _ _ _ h => h) (Or.inl ⟨by rfl,?_⟩) ?_ ?_; rotate_left; (· intro w'; go_simp; with_reducible rfl); rotate_left; (· simp only [Act.put,LSET14_]; rfl)
             refine take_ (i := 1) (N := some 36) (v := ?_) (a' := ?_) AR14_2 rfl rfl (take_ofW HT_.out HW_.out (by kernel_rfl)) (fun _ _ _ h => h) (Or.inl ⟨by rfl,?_⟩) hHeld ?_ ?_; rotate_left; (· rintro w' ⟨s0,s1,s2,s3,s4,s5⟩; go_simp; with_reducible rfl); rotate_left; (· simp only [Act.put,LSET14_]; rfl)
             refine pure_ (i := 2) (N := some 37) (v := ?_) (a' := ?_) AR14_3 rfl rfl (any_of HT_.out (by kernel_rfl)) (fun _ _ _ h => h) (Or.inl ⟨by rfl,?_⟩) ?_ ?_; rotate_left; (· intro w'; go_simp; with_reducible rfl); rotate_left; (· simp only [Act.put,LSET14_]; rfl)
             refine pure_ (i := 3) (N := some 38) (v := ?_) (a' := ?_) AR14_4 rfl rfl (any_of HT_.out (by kernel_rfl)) (fun _ _ _ h => h) (Or.inl ⟨by rfl,?_⟩) ?_ ?_; rotate_left; (· intro w'; go_simp; with_reducible rfl); rotate_left; (· simp only [Act.put,LSET14_]; rfl)
             refine pure_ (i := 4) (N := some 39) (v := ?_) (a' := ?_) AR14_5 rfl rfl (any_of HT_.out (by kernel_rfl)) (fun _ _ _ h => h) (Or.inl ⟨by rfl,?_⟩) ?_ ?_; rotate_left; (· intro w'; go_simp; with_reducible rfl); rotate_left; (· simp only [Act.put,LSET14_]; rfl)
             refine take_ (i := 5) (N := some 40) (v := ?_) (a' := ?_) AR14_6 rfl rfl (take_ofW HT_.out HW_.out (by kernel_rfl)) (fun _ _ _ h => h) (Or.inl ⟨by rfl,?_⟩) hHeld ?_ ?_; rotate_left; (· rintro w' ⟨s0,s1,s2,s3,s4,s5⟩; go_simp; with_reducible rfl); rotate_left; (· simp only [Act.put,LSET14_]; rfl)
             refine pure_ (i := 6) (N := some 41) (v := ?_) (a' := ?_) AR14_7 rfl rfl (any_of HT_.out (by kernel_rfl)) (fun _ _ _ h => h) (Or.inl ⟨by rfl,?_⟩) ?_ ?_; rotate_left; (· intro w'; go_simp; with_reducible rfl); rotate_left; (· simp only [Act.put,LSET14_]; rfl)
             refine pure_ (i := 7) (N := some 42) (v := ?_) (a' := ?_) AR14_8 rfl rfl (any_of HT_.out (by kernel_rfl)) (fun _ _ _ h => h) (Or.inl ⟨by rfl,?_⟩) ?_ ?_; rotate_left; (· intro w'; go_simp; with_reducible rfl); rotate_left; (· simp only [Act.put,LSET14_]; rfl)
             refine pure_ (i := 8) (N := some 43) (v := ?_) (a' := ?_) AR14_9 rfl rfl (any_of HT_.out (by kernel_rfl)) (fun _ _ _ h => h) (Or.inl ⟨by rfl,?_⟩) ?_ ?_; rotate_left; (· intro w'; go_simp; with_reducible rfl); rotate_left; (· simp only [Act.put,LSET14_]; rfl)
             refine pure_ (i := 9) (N := some 44) (v := ?_) (a' := ?_) AR14_10 rfl rfl (any_of HT_.out (by kernel_rfl)) (fun _ _ _ h => h) (Or.inl ⟨by rfl,?_⟩) ?_ ?_; rotate_left; (· intro w'; go_simp; with_reducible rfl); rotate_left; (· simp only [Act.put,LSET14_]; rfl)
             refine take_ (i := 10) (N := some 45) (v := ?_) (a' := ?_) AR14_11 rfl rfl (take_ofW HT_.out HW_.out (by kernel_rfl)) (fun _ _ _ h => h) (Or.inl ⟨by rfl,?_⟩) hHeld ?_ ?_; rotate_left; (· rintro w' ⟨s0,s1,s2,s3,s4,s5⟩; go_simp; with_reducible rfl); rotate_left; (· simp only [Act.put,LSET14_]; rfl)
             refine pure_ (i := 11) (N := some 46) (v := ?_) (a' := ?_) AR14_12 rfl rfl (any_of HT_.out (by kernel_rfl)) (fun _ _ _ h => h) (Or.inl ⟨by rfl,?_⟩) ?_ ?_; rotate_left; (· intro w'; go_simp; with_reducible rfl); rotate_left; (· simp only [Act.put,LSET14_]; rfl)
             refine pure_ (i := 12) (N := some 47) (v := ?_) (a' := ?_) AR14_13 rfl rfl (any_of HT_.out (by kernel_rfl)) (fun _ _ _ h => h) (Or.inl ⟨by rfl,?_⟩) ?_ ?_; rotate_left; (· intro w'; go_simp; with_reducible rfl); rotate_left; (· simp only [Act.put,LSET14_]; rfl)
             refine pure_ (i := 13) (N := some 48) (v := ?_) (a' := ?_) AR14_14 rfl rfl (any_of HT_.out (by kernel_rfl)) (fun _ _ _ h => h) (Or.inl ⟨by rfl,?_⟩) ?_ ?_; rotate_left; (· intro w'; go_simp; with_reducible rfl); rotate_left; (· simp only [Act.put,LSET14_]; rfl)
             refine pure_ (i := 14) (N := some 49) (v := ?_) (a' := ?_) AR14_15 rfl rfl (any_of HT_.out (by kernel_rfl)) (fun _ _ _ h => h) (Or.inl ⟨by rfl,?_⟩) ?_ ?_; rotate_left; (· intro w'; go_simp; with_reducible rfl); rotate_left; (· simp only [Act.put,LSET14_]; rfl)
             refine pure_ (i := 16) (N := some 51) (v := ?_) (a' := ?_) AR14_16 rfl rfl (any_of HT_.out (by kernel_rfl)) (fun _ _ _ h => h) (Or.inl ⟨by rfl,?_⟩) ?_ ?_; rotate_left; (· intro w'; go_simp; with_reducible rfl); rotate_left; (· simp only [Act.put,LSET14_]; rfl)
             refine pure_ (i := 17) (N := some 52) (v := ?_) (a' := ?_) AR14_17 rfl rfl (any_of HT_.out (by kernel_rfl)) (fun _ _ _ h => h) (Or.inl ⟨by rfl,?_⟩) ?_ ?_; rotate_left; (· intro w'; go_simp; with_reducible rfl); rotate_left; (· simp only [Act.put,LSET14_]; rfl)
             refine take_ (i := 15) (N := some 50) (v := ?_) (a' := ?_) AR14_20 rfl rfl (take_ofW HT_.out HW_.out (by kernel_rfl)) (fun _ _ _ h => h) (Or.inl ⟨by rfl,?_⟩) hHeld ?_ ?_; rotate_left; (· rintro w' ⟨s0,s1,s2,s3,s4,s5⟩; go_simp; with_reducible rfl); rotate_left; (· simp only [Act.put,LSET14_]; rfl)
             refine take_ (i := 18) (N := some 53) (v := ?_) (a' := ?_) AR14_21 rfl rfl (take_ofW HT_.out HW_.out (by kernel_rfl)) (fun _ _ _ h => h) (Or.inl ⟨by rfl,?_⟩) hHeld ?_ ?_; rotate_left; (· rintro w' ⟨s0,s1,s2,s3,s4,s5⟩; go_simp; with_reducible rfl); rotate_left; (· simp only [Act.put,LSET14_]; rfl)
             refine one_ (i := 19) (N := some 54) AR14_22 rfl rfl (one_of HT_.out (by kernel_rfl)) (by decide) (fun K hK => ?_)
             refine goes_ Try.func23 (by kernel_rfl) rfl #[.int .i64 x6_11,.int .i64 t244] (by rfl) rfl rfl (by (try simp only [List.map_toArray,List.map_cons,List.map_nil]); first | done | rfl | (simp only [List.length_drop,List.length_take]; rfl)) ?_
             with_reducible refine (der_days.calls x6_11 t244 t251 _ A22.out).mono ?_
             rintro e w' ⟨rfl,⟨nd,rfl⟩⟩
             refine ⟨_,rfl,?_⟩
             refine hK.out _ _ ⟨(blk_cell BK250.out 0).trans rfl,(blk_cell BK250.out 1).trans rfl,(blk_cell BK250.out 2).trans rfl,(blk_cell BK250.out 3).trans rfl,(blk_cell BK250.out 4).trans rfl,(blk_cell BK250.out 5).trans rfl⟩ (fun hHeld => ?_)
             clear hK K
             refine norm_ (a' := ?_) ?_ ?_
             rotate_left
             ·show Act.put _ (some 54) _ = _
              simp only [Act.put,LSET14_]
              rfl
             refine pure_ (i := 20) (N := some 55) (v := ?_) (a' := ?_) AR14_23 rfl rfl (any_of HT_.out (by kernel_rfl)) (fun _ _ _ h => h) (Or.inl ⟨by rfl,?_⟩) ?_ ?_; rotate_left; (· intro w'; go_simp; with_reducible rfl); rotate_left; (· simp only [Act.put,LSET14_]; rfl)
             refine pure_ (i := 21) (N := some 56) (v := ?_) (a' := ?_) AR14_24 rfl rfl (any_of HT_.out (by kernel_rfl)) (fun _ _ _ h => h) (Or.inl ⟨by rfl,?_⟩) ?_ ?_; rotate_left; (· intro w'; go_simp; with_reducible rfl); rotate_left; (· simp only [Act.put,LSET14_]; rfl)
             refine pure_ (i := 22) (N := some 57) (v := ?_) (a' := ?_) AR14_25 rfl rfl (any_of HT_.out (by kernel_rfl)) (fun _ _ _ h => h) (Or.inl ⟨by rfl,?_⟩) ?_ ?_; rotate_left; (· intro w'; go_simp; with_reducible rfl); rotate_left; (· simp only [Act.put,LSET14_]; rfl)
             refine pure_ (i := 23) (N := some 58) (v := ?_) (a' := ?_) AR14_26 rfl rfl (any_of HT_.out (by kernel_rfl)) (fun _ _ _ h => h) (Or.inl ⟨by rfl,?_⟩) ?_ ?_; rotate_left; (· intro w'; go_simp; with_reducible rfl); rotate_left; (· simp only [Act.put,LSET14_]; rfl)
             refine take_ (i := 24) (N := some 59) (v := ?_) (a' := ?_) AR14_27 rfl rfl (take_ofW HT_.out HW_.out (by kernel_rfl)) (fun _ _ _ h => h) (Or.inl ⟨by rfl,?_⟩) hHeld ?_ ?_; rotate_left; (· rintro w' ⟨s0,s1,s2,s3,s4,s5⟩; go_simp; with_reducible rfl); rotate_left; (· simp only [Act.put,LSET14_]; rfl)
             refine pure_ (i := 25) (N := some 60) (v := ?_) (a' := ?_) AR14_28 rfl rfl (any_of HT_.out (by kernel_rfl)) (fun _ _ _ h => h) (Or.inl ⟨by rfl,?_⟩) ?_ ?_; rotate_left; (· intro w'; go_simp; with_reducible rfl); rotate_left; (· simp only [Act.put,LSET14_]; rfl)
             refine pure_ (i := 26) (N := some 61) (v := ?_) (a' := ?_) AR14_29 rfl rfl (any_of HT_.out (by kernel_rfl)) (fun _ _ _ h => h) (Or.inl ⟨by rfl,?_⟩) ?_ ?_; rotate_left; (· intro w'; go_simp; with_reducible rfl); rotate_left; (· simp only [Act.put,LSET14_]; rfl)
             refine pure_ (i := 27) (N := some 62) (v := ?_) (a' := ?_) AR14_30 rfl rfl (any_of HT_.out (by kernel_rfl)) (fun _ _ _ h => h) (Or.inl ⟨by rfl,?_⟩) ?_ ?_; rotate_left; (· intro w'; go_simp; with_reducible rfl); rotate_left; (· simp only [Act.put,LSET14_]; rfl)
             refine pure_ (i := 28) (N := some 63) (v := ?_) (a' := ?_) AR14_31 rfl rfl (any_of HT_.out (by kernel_rfl)) (fun _ _ _ h => h) (Or.inl ⟨by rfl,?_⟩) ?_ ?_; rotate_left; (· intro w'; go_simp; with_reducible rfl); rotate_left; (· simp only [Act.put,LSET14_]; rfl)
             refine take_ (i := 29) (N := some 64) (v := ?_) (a' := ?_) AR14_32 rfl rfl (take_ofW HT_.out HW_.out (by kernel_rfl)) (fun _ _ _ h => h) (Or.inl ⟨by rfl,?_⟩) hHeld ?_ ?_; rotate_left; (· rintro w' ⟨s0,s1,s2,s3,s4,s5⟩; go_simp; with_reducible rfl); rotate_left; (· simp only [Act.put,LSET14_]; rfl)
             refine pure_ (i := 30) (N := some 65) (v := ?_) (a' := ?_) AR14_33 rfl rfl (any_of HT_.out (by kernel_rfl)) (fun _ _ _ h => h) (Or.inl ⟨by rfl,?_⟩) ?_ ?_; rotate_left; (· intro w'; go_simp; with_reducible rfl); rotate_left; (· simp only [Act.put,LSET14_]; rfl)
             refine pure_ (i := 31) (N := some 66) (v := ?_) (a' := ?_) AR14_34 rfl rfl (any_of HT_.out (by kernel_rfl)) (fun _ _ _ h => h) (Or.inl ⟨by rfl,?_⟩) ?_ ?_; rotate_left; (· intro w'; go_simp; with_reducible rfl); rotate_left; (· simp only [Act.put,LSET14_]; rfl)
             refine pure_ (i := 32) (N := some 67) (v := ?_) (a' := ?_) AR14_35 rfl rfl (any_of HT_.out (by kernel_rfl)) (fun _ _ _ h => h) (Or.inl ⟨by rfl,?_⟩) ?_ ?_; rotate_left; (· intro w'; go_simp; with_reducible rfl); rotate_left; (· simp only [Act.put,LSET14_]; rfl)
             refine pure_ (i := 33) (N := some 68) (v := undef) (a' := ?_) AR14_36 rfl rfl (any_of HT_.out (by kernel_rfl)) (fun _ _ _ h => h) (Or.inr ⟨by rfl,rfl⟩) ?_ ?_; rotate_left; (· simp only [Act.put,LSET14_]; rfl)
             refine pure_ (i := 34) (N := some 69) (v := undef) (a' := ?_) AR14_37 rfl rfl (any_of HT_.out (by kernel_rfl)) (fun _ _ _ h => h) (Or.inr ⟨by rfl,rfl⟩) ?_ ?_; rotate_left; (· simp only [Act.put,LSET14_]; rfl)
             refine pure_ (i := 35) (N := some 70) (v := undef) (a' := ?_) AR14_38 rfl rfl (any_of HT_.out (by kernel_rfl)) (fun _ _ _ h => h) (Or.inr ⟨by rfl,rfl⟩) ?_ ?_; rotate_left; (· simp only [Act.put,LSET14_]; rfl)
             refine pure_ (i := 36) (N := some 71) (v := ?_) (a' := ?_) AR14_39 rfl rfl (any_of HT_.out (by kernel_rfl)) (fun _ _ _ h => h) (Or.inl ⟨by rfl,?_⟩) ?_ ?_; rotate_left; (· intro w'; go_simp; with_reducible rfl); rotate_left; (· simp only [Act.put,LSET14_]; rfl)
             refine done_ (done_of HT_.out (by kernel_rfl)) ?_
             try go_wp2
             go_meet
             case rel => exact ⟨_,(true),(by first | rfl | (simp; done) | (simp [*]; done)),H',⟨by have := HJ2.out; have := HJ11.out; first | omega | exact Nat.le_refl _⟩,⟨by (with_reducible repeat (first | refine blk_drewN ?_ _ | refine blk_drew ?_ | refine blk_alloc ?_ _)); exact BK250.out⟩,⟨by repeat (first | (with_reducible first | exact HB.out | apply below_alloc | apply pw_below_drewN | apply below_drew1 | refine below_set ?_ GE250.out) | exact HB.out)⟩⟩
            ·rw [if_neg c27] at H
             have c27b0 : decide (59 < t247) = false := decide_eq_false c27
             clear c27
             have H' := Aside0.mk H
             clear H
             try go_wp2
             have n0_ := Aside0.mk (blk_drew BK250.out)
             have n1_ := Aside0.mk (below_drew1 HB.out)
             clear BK250
             clear HB
             have BK250 := n0_
             have HB := n1_
             clear n0_ n1_
             refine start_ (n := 37) (S := fun w' => w'.cell? ⟨gb250,0,none⟩ = some (.int .i64 t243) ∧ w'.cell? ⟨gb250,1,none⟩ = some (.int .i64 t244) ∧ w'.cell? ⟨gb250,2,none⟩ = some (.int .i64 t245) ∧ w'.cell? ⟨gb250,3,none⟩ = some (.int .i64 t246) ∧ w'.cell? ⟨gb250,4,none⟩ = some (.int .i64 t247) ∧ w'.cell? ⟨gb250,5,none⟩ = some (.int .i64 t248)) (ds := []) AR14_0 (by kernel_rfl) rfl rfl ⟨(blk_cell BK250.out 0).trans rfl,(blk_cell BK250.out 1).trans rfl,(blk_cell BK250.out 2).trans rfl,(blk_cell BK250.out 3).trans rfl,(blk_cell BK250.out 4).trans rfl,(blk_cell BK250.out 5).trans rfl⟩ (fun hHeld => ?_); refine with_tabW der_Untime.tab7 der_Untime.bits7 (fun HT_ HW_ => ?_)
             generalize wc.drew = w29 at BK250 HB hHeld ⊢
             refine pure_ (i := 0) (N := some 35) (v := ?_) (a' := ?_) AR14_1 rfl rfl (any_of HT_.out (by kernel_rfl)) (fun _ _ _ h => h) (Or.inl ⟨by rfl,?_⟩) ?_ ?_; rotate_left; (· intro w'; go_simp; with_reducible rfl); rotate_left; (· simp only [Act.put,LSET14_]; rfl)
             refine take_ (i := 1) (N := some 36) (v := ?_) (a' := ?_) AR14_2 rfl rfl (take_ofW HT_.out HW_.out (by kernel_rfl)) (fun _ _ _ h => h) (Or.inl ⟨by rfl,?_⟩) hHeld ?_ ?_; rotate_left; (· rintro w' ⟨s0,s1,s2,s3,s4,s5⟩; go_simp; with_reducible rfl); rotate_left; (· simp only [Act.put,LSET14_]; rfl)
             refine pure_ (i := 2) (N := some 37) (v := ?_) (a' := ?_) AR14_3 rfl rfl (any_of HT_.out (by kernel_rfl)) (fun _ _ _ h => h) (Or.inl ⟨by rfl,?_⟩) ?_ ?_; rotate_left; (· intro w'; go_simp; with_reducible rfl); rotate_left; (· simp only [Act.put,LSET14_]; rfl)
             refine pure_ (i := 3) (N := some 38) (v := ?_) (a' := ?_) AR14_4 rfl rfl (any_of HT_.out (by kernel_rfl)) (fun _ _ _ h => h) (Or.inl ⟨by rfl,?_⟩) ?_ ?_; rotate_left; (· intro w'; go_simp; with_reducible rfl); rotate_left; (· simp only [Act.put,LSET14_]; rfl)
             refine pure_ (i := 4) (N := some 39) (v := ?_) (a' := ?_) AR14_5 rfl rfl (any_of HT_.out (by kernel_rfl)) (fun _ _ _ h => h) (Or.inl ⟨by rfl,?_⟩) ?_ ?_; rotate_left; (· intro w'; go_simp; with_reducible rfl); rotate_left; (· simp only [Act.put,LSET14_]; rfl)
             refine take_ (i := 5) (N := some 40) (v := ?_) (a' := ?_) AR14_6 rfl rfl (take_ofW HT_.out HW_.out (by kernel_rfl)) (fun _ _ _ h => h) (Or.inl ⟨by rfl,?_⟩) hHeld ?_ ?_; rotate_left; (· rintro w' ⟨s0,s1,s2,s3,s4,s5⟩; go_simp; with_reducible rfl); rotate_left; (· simp only [Act.put,LSET14_]; rfl)
             refine pure_ (i := 6) (N := some 41) (v := ?_) (a' := ?_) AR14_7 rfl rfl (any_of HT_.out (by kernel_rfl)) (fun _ _ _ h => h) (Or.inl ⟨by rfl,?_⟩) ?_ ?_; rotate_left; (· intro w'; go_simp; with_reducible rfl); rotate_left; (· simp only [Act.put,LSET14_]; rfl)
             refine pure_ (i := 7) (N := some 42) (v := ?_) (a' := ?_) AR14_8 rfl rfl (any_of HT_.out (by kernel_rfl)) (fun _ _ _ h => h) (Or.inl ⟨by rfl,?_⟩) ?_ ?_; rotate_left; (· intro w'; go_simp; with_reducible rfl); rotate_left; (· simp only [Act.put,LSET14_]; rfl)
             refine pure_ (i := 8) (N := some 43) (v := ?_) (a' := ?_) AR14_9 rfl rfl (any_of HT_.out (by kernel_rfl)) (fun _ _ _ h => h) (Or.inl ⟨by rfl,?_⟩) ?_ ?_; rotate_left; (· intro w'; go_simp; with_reducible rfl); rotate_left; (· simp only [Act.put,LSET14_]; rfl)
             refine pure_ (i := 9) (N := some 44) (v := ?_) (a' := ?_) AR14_10 rfl rfl (any_of HT_.out (by kernel_rfl)) (fun _ _ _ h => h) (Or.inl ⟨by rfl,?_⟩) ?_ ?_; rotate_left; (· intro w'; go_simp; with_reducible rfl); rotate_left; (· simp only [Act.put,LSET14_]; rfl)
             refine take_ (i := 10) (N := some 45) (v := ?_) (a' := ?_) AR14_11 rfl rfl (take_ofW HT_.out HW_.out (by kernel_rfl)) (fun _ _ _ h => h) (Or.inl ⟨by rfl,?_⟩) hHeld ?_ ?_; rotate_left; (· rintro w' ⟨s0,s1,s2,s3,s4,s5⟩; go_simp; with_reducible rfl); rotate_left; (· simp only [Act.put,LSET14_]; rfl)
             refine pure_ (i := 11) (N := some 46) (v := ?_) (a' := ?_) AR14_12 rfl rfl (any_of HT_.out (by kernel_rfl)) (fun _ _ _ h => h) (Or.inl ⟨by rfl,?_⟩) ?_ ?_; rotate_left; (· intro w'; go_simp; with_reducible rfl); rotate_left; (· simp only [Act.put,LSET14_]; rfl)
             refine pure_ (i := 12) (N := some 47) (v := ?_) (a' := ?_) AR14_13 rfl rfl (any_of HT_.out (by kernel_rfl)) (fun _ _ _ h => h) (Or.inl ⟨by rfl,?_⟩) ?_ ?_; rotate_left; (· intro w'; go_simp; with_reducible rfl); rotate_left; (· simp only [Act.put,LSET14_]; rfl)
             refine pure_ (i := 13) (N := some 48) (v := ?_) (a' := ?_) AR14_14 rfl rfl (any_of HT_.out (by kernel_rfl)) (fun _ _ _ h => h) (Or.inl ⟨by rfl,?_⟩) ?_ ?_; rotate_left; (· intro w'; go_simp; with_reducible rfl); rotate_left; (· simp only [Act.put,LSET14_]; rfl)
             refine pure_ (i := 14) (N := some 49) (v := ?_) (a' := ?_) AR14_15 rfl rfl (any_of HT_.out (by kernel_rfl)) (fun _ _ _ h => h) (Or.inl ⟨by rfl,?_⟩) ?_ ?_; rotate_left; (· intro w'; go_simp; with_reducible rfl); rotate_left; (· simp only [Act.put,LSET14_]; rfl)
             refine pure_ (i := 16) (N := some 51) (v := ?_) (a' := ?_) AR14_16 rfl rfl (any_of HT_.out (by kernel_rfl)) (fun _ _ _ h => h) (Or.inl ⟨by rfl,?_⟩) ?_ ?_; rotate_left; (· intro w'; go_simp; with_reducible rfl); rotate_left; (· simp only [Act.put,LSET14_]; rfl)
             refine pure_ (i := 17) (N := some 52) (v := ?_) (a' := ?_) AR14_17 rfl rfl (any_of HT_.out (by kernel_rfl)) (fun _ _ _ h => h) (Or.inl ⟨by rfl,?_⟩) ?_ ?_; rotate_left; (· intro w'; go_simp; with_reducible rfl); rotate_left; (· simp only [Act.put,LSET14_]; rfl)
             refine take_ (i := 15) (N := some 50) (v := ?_) (a' := ?_) AR14_20 rfl rfl (take_ofW HT_.out HW_.out (by kernel_rfl)) (fun _ _ _ h => h) (Or.inl ⟨by rfl,?_⟩) hHeld ?_ ?_; rotate_left; (· rintro w' ⟨s0,s1,s2,s3,s4,s5⟩; go_simp; with_reducible rfl); rotate_left; (· simp only [Act.put,LSET14_]; rfl)
             refine take_ (i := 18) (N := some 53) (v := ?_) (a' := ?_) AR14_21 rfl rfl (take_ofW HT_.out HW_.out (by kernel_rfl)) (fun _ _ _ h => h) (Or.inl ⟨by rfl,?_⟩) hHeld ?_ ?_; rotate_left; (· rintro w' ⟨s0,s1,s2,s3,s4,s5⟩; go_simp; with_reducible rfl); rotate_left; (· simp only [Act.put,LSET14_]; rfl)
             refine one_ (i := 19) (N := some 54) AR14_22 rfl rfl (one_of HT_.out (by kernel_rfl)) (by decide) (fun K hK => ?_)
             refine goes_ Try.func23 (by kernel_rfl) rfl #[.int .i64 x6_11,.int .i64 t244] (by rfl) rfl rfl (by (try simp only [List.map_toArray,List.map_cons,List.map_nil]); first | done | rfl | (simp only [List.length_drop,List.length_take]; rfl)) ?_
             with_reducible refine (der_days.calls x6_11 t244 t251 _ A22.out).mono ?_
             rintro e w' ⟨rfl,⟨nd,rfl⟩⟩
             refine ⟨_,rfl,?_⟩
             refine hK.out _ _ ⟨(blk_cell BK250.out 0).trans rfl,(blk_cell BK250.out 1).trans rfl,(blk_cell BK250.out 2).trans rfl,(blk_cell BK250.out 3).trans rfl,(blk_cell BK250.out 4).trans rfl,(blk_cell BK250.out 5).trans rfl⟩ (fun hHeld => ?_)
             clear hK K
             refine norm_ (a' := ?_) ?_ ?_
             rotate_left
             ·show Act.put _ (some 54) _ = _
              simp only [Act.put,LSET14_]
              rfl
             refine pure_ (i := 20) (N := some 55) (v := ?_) (a' := ?_) AR14_23 rfl rfl (any_of HT_.out (by kernel_rfl)) (fun _ _ _ h => h) (Or.inl ⟨by rfl,?_⟩) ?_ ?_; rotate_left; (· intro w'; go_simp; with_reducible rfl); rotate_left; (· simp only [Act.put,LSET14_]; rfl)
             refine pure_ (i := 21) (N := some 56) (v := ?_) (a' := ?_) AR14_24 rfl rfl (any_of HT_.out (by kernel_rfl)) (fun _ _ _ h => h) (Or.inl ⟨by rfl,?_⟩) ?_ ?_; rotate_left; (· intro w'; go_simp; with_reducible rfl); rotate_left; (· simp only [Act.put,LSET14_]; rfl)
             refine pure_ (i := 22) (N := some 57) (v := ?_) (a' := ?_) AR14_25 rfl rfl (any_of HT_.out (by kernel_rfl)) (fun _ _ _ h => h) (Or.inl ⟨by rfl,?_⟩) ?_ ?_; rotate_left; (· intro w'; go_simp; with_reducible rfl); rotate_left; (· simp only [Act.put,LSET14_]; rfl)
             refine pure_ (i := 23) (N := some 58) (v := ?_) (a' := ?_) AR14_26 rfl rfl (any_of HT_.out (by kernel_rfl)) (fun _ _ _ h => h) (Or.inl ⟨by rfl,?_⟩) ?_ ?_; rotate_left; (· intro w'; go_simp; with_reducible rfl); rotate_left; (· simp only [Act.put,LSET14_]; rfl)
             refine take_ (i := 24) (N := some 59) (v := ?_) (a' := ?_) AR14_27 rfl rfl (take_ofW HT_.out HW_.out (by kernel_rfl)) (fun _ _ _ h => h) (Or.inl ⟨by rfl,?_⟩) hHeld ?_ ?_; rotate_left; (· rintro w' ⟨s0,s1,s2,s3,s4,s5⟩; go_simp; with_reducible rfl); rotate_left; (· simp only [Act.put,LSET14_]; rfl)
             refine pure_ (i := 25) (N := some 60) (v := ?_) (a' := ?_) AR14_28 rfl rfl (any_of HT_.out (by kernel_rfl)) (fun _ _ _ h => h) (Or.inl ⟨by rfl,?_⟩) ?_ ?_; rotate_left; (· intro w'; go_simp; with_reducible rfl); rotate_left; (· simp only [Act.put,LSET14_]; rfl)
             refine pure_ (i := 26) (N := some 61) (v := ?_) (a' := ?_) AR14_29 rfl rfl (any_of HT_.out (by kernel_rfl)) (fun _ _ _ h => h) (Or.inl ⟨by rfl,?_⟩) ?_ ?_; rotate_left; (· intro w'; go_simp; with_reducible rfl); rotate_left; (· simp only [Act.put,LSET14_]; rfl)
             refine pure_ (i := 27) (N := some 62) (v := ?_) (a' := ?_) AR14_30 rfl rfl (any_of HT_.out (by kernel_rfl)) (fun _ _ _ h => h) (Or.inl ⟨by rfl,?_⟩) ?_ ?_; rotate_left; (· intro w'; go_simp; with_reducible rfl); rotate_left; (· simp only [Act.put,LSET14_]; rfl)
             refine pure_ (i := 28) (N := some 63) (v := ?_) (a' := ?_) AR14_31 rfl rfl (any_of HT_.out (by kernel_rfl)) (fun _ _ _ h => h) (Or.inl ⟨by rfl,?_⟩) ?_ ?_; rotate_left; (· intro w'; go_simp; with_reducible rfl); rotate_left; (· simp only [Act.put,LSET14_]; rfl)
             refine take_ (i := 29) (N := some 64) (v := ?_) (a' := ?_) AR14_32 rfl rfl (take_ofW HT_.out HW_.out (by kernel_rfl)) (fun _ _ _ h => h) (Or.inl ⟨by rfl,?_⟩) hHeld ?_ ?_; rotate_left; (· rintro w' ⟨s0,s1,s2,s3,s4,s5⟩; go_simp; with_reducible rfl); rotate_left; (· simp only [Act.put,LSET14_]; rfl)
             refine pure_ (i := 30) (N := some 65) (v := ?_) (a' := ?_) AR14_33 rfl rfl (any_of HT_.out (by kernel_rfl)) (fun _ _ _ h => h) (Or.inl ⟨by rfl,?_⟩) ?_ ?_; rotate_left; (· intro w'; go_simp; with_reducible rfl); rotate_left; (· simp only [Act.put,LSET14_]; rfl)
             refine pure_ (i := 31) (N := some 66) (v := ?_) (a' := ?_) AR14_34 rfl rfl (any_of HT_.out (by kernel_rfl)) (fun _ _ _ h => h) (Or.inl ⟨by rfl,?_⟩) ?_ ?_; rotate_left; (· intro w'; go_simp; with_reducible rfl); rotate_left; (· simp only [Act.put,LSET14_]; rfl)
             refine pure_ (i := 32) (N := some 67) (v := ?_) (a' := ?_) AR14_35 rfl rfl (any_of HT_.out (by kernel_rfl)) (fun _ _ _ h => h) (Or.inl ⟨by rfl,?_⟩) ?_ ?_; rotate_left; (· intro w'; go_simp; with_reducible rfl); rotate_left; (· simp only [Act.put,LSET14_]; rfl)
             refine pure_ (i := 33) (N := some 68) (v := ?_) (a' := ?_) AR14_36 rfl rfl (any_of HT_.out (by kernel_rfl)) (fun _ _ _ h => h) (Or.inl ⟨by rfl,?_⟩) ?_ ?_; rotate_left; (· intro w'; go_simp; with_reducible rfl); rotate_left; (· simp only [Act.put,LSET14_]; rfl)
             refine take_ (i := 34) (N := some 69) (v := ?_) (a' := ?_) AR14_37 rfl rfl (take_ofW HT_.out HW_.out (by kernel_rfl)) (fun _ _ _ h => h) (Or.inl ⟨by rfl,?_⟩) hHeld ?_ ?_; rotate_left; (· rintro w' ⟨s0,s1,s2,s3,s4,s5⟩; go_simp; with_reducible rfl); rotate_left; (· simp only [Act.put,LSET14_]; rfl)
             refine pure_ (i := 35) (N := some 70) (v := ?_) (a' := ?_) AR14_38 rfl rfl (any_of HT_.out (by kernel_rfl)) (fun _ _ _ h => h) (Or.inl ⟨by rfl,?_⟩) ?_ ?_; rotate_left; (· intro w'; go_simp; with_reducible rfl); rotate_left; (· simp only [Act.put,LSET14_]; rfl)
             refine pure_ (i := 36) (N := some 71) (v := ?_) (a' := ?_) AR14_39 rfl rfl (any_of HT_.out (by kernel_rfl)) (fun _ _ _ h => h) (Or.inl ⟨by rfl,?_⟩) ?_ ?_; rotate_left; (· intro w'; go_simp; with_reducible rfl); rotate_left; (· simp only [Act.put,LSET14_]; rfl)
             refine done_ (done_of HT_.out (by kernel_rfl)) ?_
             try go_wp2
             go_meet
             case rel => exact ⟨_,(decide (t248 > 59)),(by first | rfl | (simp; done) | (simp [*]; done)),H',⟨by have := HJ2.out; have := HJ11.out; first | omega | exact Nat.le_refl _⟩,⟨by (with_reducible repeat (first | refine blk_drewN ?_ _ | refine blk_drew ?_ | refine blk_alloc ?_ _)); exact BK250.out⟩,⟨by repeat (first | (with_reducible first | exact HB.out | apply below_alloc | apply pw_below_drewN | apply below_drew1 | refine below_set ?_ GE250.out) | exact HB.out)⟩⟩
      case rest =>
       clear HC15
       try clear c2
       try clear p2
       try clear c23
       try clear c27
       try clear c27b0
       obtain ⟨kq,x71_14,rfl,HA,HJ14,BK250,HB⟩ := hcut
       cases kq with
       | zero => exact absurd HA.out (by simp [der_Untime.j2])
       | succ kj14 =>
        have H := HA.out
        clear HA
        simp only [der_Untime.j2] at H
        by_cases c30 : x71_14 = true
        ·subst c30
         have H1 : (some (0,1300)) = some (r1,r2) := by rw [if_pos rfl] at H; exact H
         clear H
         have H := H1
         clear H1
         simp only [Option.some.injEq,Prod.mk.injEq] at H
         obtain ⟨rfl,rfl⟩ := H
         go_wp2
         go_ret2
         exact ⟨by first | rfl | (simp [errW_none,errW_some] <;> rfl) | (simp [*,errW_none,errW_some] <;> rfl),by repeat (first | (with_reducible first | exact HB.out | apply below_alloc | apply pw_below_drewN | apply below_drew1 | refine below_set ?_ GE250.out) | exact HB.out)⟩
        ·replace c30 := Bool.eq_false_iff.mpr c30
         subst c30
         have H1 : (der_Untime.l0 kj14 x6_11 (wrap64 (t245 - 1)) 1970 t243 t244 t245 t246 t247 t248) = some (r1,r2) := by rw [if_neg (show ¬ (false = true) by decide)] at H; exact H
         clear H
         have H := H1
         clear H1
         have H' := Aside0.mk H
         clear H
         have hcz31_0 : wc.cell? ⟨gb250,0,none⟩ = some (.int .i64 t243) := (blk_cell BK250.out 0).trans rfl
         have hcz31_1 : wc.cell? ⟨gb250,1,none⟩ = some (.int .i64 t244) := (blk_cell BK250.out 1).trans rfl
         have hcz31_2 : wc.cell? ⟨gb250,2,none⟩ = some (.int .i64 t245) := (blk_cell BK250.out 2).trans rfl
         have hcz31_3 : wc.cell? ⟨gb250,3,none⟩ = some (.int .i64 t246) := (blk_cell BK250.out 3).trans rfl
         have hcz31_4 : wc.cell? ⟨gb250,4,none⟩ = some (.int .i64 t247) := (blk_cell BK250.out 4).trans rfl
         have hcz31_5 : wc.cell? ⟨gb250,5,none⟩ = some (.int .i64 t248) := (blk_cell BK250.out 5).trans rfl
         have hfz31_0 := blk_frozen BK250.out 0
         have hfz31_1 := blk_frozen BK250.out 1
         have hfz31_2 := blk_frozen BK250.out 2
         have hfz31_3 := blk_frozen BK250.out 3
         have hfz31_4 := blk_frozen BK250.out 4
         have hfz31_5 := blk_frozen BK250.out 5
         go_wp2
         go_loopg [7,8] kj14 (fun kq v7 v8 w' => ∃ (x7_4 : Int) (x8_4 : Int),v7 = .int .i64 x7_4 ∧ v8 = .int .i64 x8_4 ∧ Aside0 (der_Untime.l0 kq x6_11 x7_4 x8_4 t243 t244 t245 t246 t247 t248 = some (r1,r2)) ∧ Aside0 (kq ≤ kj14) ∧ Aside0 (w'.heap[gb250]? = some (.cells #[.int .i64 t243,.int .i64 t244,.int .i64 t245,.int .i64 t246,.int .i64 t247,.int .i64 t248] 55 (0,0))) ∧ Aside0 (Below w.heap.size w w'))
         case atStart => exact ⟨(wrap64 (t245 - 1)),(1970),(by first | rfl | (simp; done) | (simp [*]; done)),(by first | rfl | (simp; done) | (simp [*]; done)),H',⟨Nat.le_refl _⟩,⟨by (with_reducible repeat (first | refine blk_drewN ?_ _ | refine blk_drew ?_ | refine blk_alloc ?_ _)); exact BK250.out⟩,⟨by repeat (first | (with_reducible first | exact HB.out | apply below_alloc | apply pw_below_drewN | apply below_drew1 | refine below_set ?_ GE250.out) | exact HB.out)⟩⟩
         case round =>
          clear H'
          try clear c2
          try clear p2
          try clear c3
          try clear p6
          try clear c23
          try clear c27
          try clear c27b0
          try clear c30
          try clear hcz31_0
          try clear hcz31_1
          try clear hcz31_2
          try clear hcz31_3
          try clear hcz31_4
          try clear hcz31_5
          try clear hfz31_0
          try clear hfz31_1
          try clear hfz31_2
          try clear hfz31_3
          try clear hfz31_4
          try clear hfz31_5
          try clear p2
          obtain ⟨x7_4,x8_4,rfl,rfl,HA,HK4,BK250,HB⟩ := hrel
          cases gk with
          | zero => exact absurd HA.out (by simp [der_Untime.l0])
          | succ k4 =>
           have H := HA.out
           clear HA
           simp only [der_Untime.l0] at H
           by_cases c32 : x8_4 < x6_11
           ·rw [if_pos c32] at H
            have c32b0 : decide (x8_4 < x6_11) = true := decide_eq_true c32
            clear c32
            replace H := Option.bind_eq_some_iff.mp H
            obtain ⟨t252,A330,H⟩ := H
            replace H : (der_Untime.l0 k4 x6_11 (wrap64 (x7_4 + t252)) (wrap64 (x8_4 + 1)) t243 t244 t245 t246 t247 t248) = some (r1,r2) := H
            have A33 := Aside0.mk A330
            clear A330
            have H' := Aside0.mk H
            clear H
            go_wp2_with (first | ((with_reducible refine gate_callee (f := 22) rfl ?_); refine goesL_ (some 82) rfl rfl Try.func22 (by kernel_rfl) rfl #[.int .i64 x8_4] rfl (by (try simp only [List.map_toArray,List.map_cons,List.map_nil]); first | done | rfl | (simp only [List.length_drop,List.length_take]; rfl)) ?_; (with_reducible refine (der_yearDays.calls x8_4 t252 _ A33.out).mono ?_); rintro e w' ⟨rfl,⟨nd,rfl⟩⟩; refine ⟨_,rfl,?_⟩))
            go_roundg k4
            case measure => have := HJ2.out; have := HJ11.out; have := HJ14.out; have := HK4.out; omega
            case rel => exact ⟨(wrap64 (x7_4 + t252)),(wrap64 (x8_4 + 1)),(by first | rfl | (simp; done) | (simp [*]; done)),(by first | rfl | (simp; done) | (simp [*]; done)),H',⟨by have := HJ2.out; have := HJ11.out; have := HJ14.out; have := HK4.out; omega⟩,⟨by (with_reducible repeat (first | refine blk_drewN ?_ _ | refine blk_drew ?_ | refine blk_alloc ?_ _)); exact BK250.out⟩,⟨by repeat (first | (with_reducible first | exact HB.out | apply below_alloc | apply pw_below_drewN | apply below_drew1 | refine below_set ?_ GE250.out) | exact HB.out)⟩⟩
           ·rw [if_neg c32] at H
            have c32b0 : decide (x8_4 < x6_11) = false := decide_eq_false c32
            clear c32
            have H' := Aside0.mk H
            clear H
            go_wp2
            go_loopg [7,9] k4 (fun kq v7 v9 w' => ∃ (x7_5 : Int) (x9_5 : Int),v7 = .int .i64 x7_5 ∧ v9 = .int .i64 x9_5 ∧ Aside0 (der_Untime.l1 kq x6_11 x7_5 x9_5 t243 t244 t245 t246 t247 t248 = some (r1,r2)) ∧ Aside0 (kq ≤ k4) ∧ Aside0 (w'.heap[gb250]? = some (.cells #[.int .i64 t243,.int .i64 t244,.int .i64 t245,.int .i64 t246,.int .i64 t247,.int .i64 t248] 55 (0,0))) ∧ Aside0 (Below w.heap.size w w'))
            case atStart => exact ⟨(x7_4),(1),(by first | rfl | (simp; done) | (simp [*]; done)),(by first | rfl | (simp; done) | (simp [*]; done)),H',⟨Nat.le_refl _⟩,⟨by (with_reducible repeat (first | refine blk_drewN ?_ _ | refine blk_drew ?_ | refine blk_alloc ?_ _)); exact BK250.out⟩,⟨by repeat (first | (with_reducible first | exact HB.out | apply below_alloc | apply pw_below_drewN | apply below_drew1 | refine below_set ?_ GE250.out) | exact HB.out)⟩⟩
            case round =>
             clear H'
             try clear c2
             try clear p2
             try clear c3
             try clear p6
             try clear c22
             try clear c23
             try clear c27
             try clear c27b0
             try clear c30
             try clear c32
             try clear c32b0
             try clear hcz31_0
             try clear hcz31_1
             try clear hcz31_2
             try clear hcz31_3
             try clear hcz31_4
             try clear hcz31_5
             try clear hfz31_0
             try clear hfz31_1
             try clear hfz31_2
             try clear hfz31_3
             try clear hfz31_4
             try clear hfz31_5
             try clear p2
             try clear p6
             obtain ⟨x7_5,x9_5,rfl,rfl,HA,HK5,BK250,HB⟩ := hrel
             cases gk with
             | zero => exact absurd HA.out (by simp [der_Untime.l1])
             | succ k5 =>
              have H := HA.out
              clear HA
              simp only [der_Untime.l1] at H
              by_cases c34 : x9_5 < t244
              ·rw [if_pos c34] at H
               have c34b0 : decide (x9_5 < t244) = true := decide_eq_true c34
               clear c34
               replace H := Option.bind_eq_some_iff.mp H
               obtain ⟨t253,A350,H⟩ := H
               replace H : (der_Untime.l1 k5 x6_11 (wrap64 (x7_5 + t253)) (wrap64 (x9_5 + 1)) t243 t244 t245 t246 t247 t248) = some (r1,r2) := H
               have A35 := Aside0.mk A350
               clear A350
               have H' := Aside0.mk H
               clear H
               have hcz36_0 : wr.cell? ⟨gb250,0,none⟩ = some (.int .i64 t243) := (blk_cell BK250.out 0).trans rfl
               have hcz36_1 : wr.cell? ⟨gb250,1,none⟩ = some (.int .i64 t244) := (blk_cell BK250.out 1).trans rfl
               have hcz36_2 : wr.cell? ⟨gb250,2,none⟩ = some (.int .i64 t245) := (blk_cell BK250.out 2).trans rfl
               have hcz36_3 : wr.cell? ⟨gb250,3,none⟩ = some (.int .i64 t246) := (blk_cell BK250.out 3).trans rfl
               have hcz36_4 : wr.cell? ⟨gb250,4,none⟩ = some (.int .i64 t247) := (blk_cell BK250.out 4).trans rfl
               have hcz36_5 : wr.cell? ⟨gb250,5,none⟩ = some (.int .i64 t248) := (blk_cell BK250.out 5).trans rfl
               have hfz36_0 := blk_frozen BK250.out 0
               have hfz36_1 := blk_frozen BK250.out 1
               have hfz36_2 := blk_frozen BK250.out 2
               have hfz36_3 := blk_frozen BK250.out 3
               have hfz36_4 := blk_frozen BK250.out 4
               have hfz36_5 := blk_frozen BK250.out 5
               go_wp2_with (first | ((with_reducible refine gate_callee (f := 23) rfl ?_); refine goesL_ (some 93) rfl rfl Try.func23 (by kernel_rfl) rfl #[.int .i64 x6_11,.int .i64 x9_5] rfl (by (try simp only [List.map_toArray,List.map_cons,List.map_nil]); first | done | rfl | (simp only [List.length_drop,List.length_take]; rfl)) ?_; (with_reducible refine (der_days.calls x6_11 x9_5 t253 _ A35.out).mono ?_); rintro e w' ⟨rfl,⟨nd,rfl⟩⟩; refine ⟨_,rfl,?_⟩))
               go_roundg k5
               case measure => have := HJ2.out; have := HJ11.out; have := HJ14.out; have := HK4.out; have := HK5.out; omega
               case rel => exact ⟨(wrap64 (x7_5 + t253)),(wrap64 (x9_5 + 1)),(by first | rfl | (simp; done) | (simp [*]; done)),(by first | rfl | (simp; done) | (simp [*]; done)),H',⟨by have := HJ2.out; have := HJ11.out; have := HJ14.out; have := HK4.out; have := HK5.out; omega⟩,⟨by (with_reducible repeat (first | refine blk_drewN ?_ _ | refine blk_drew ?_ | refine blk_alloc ?_ _)); exact BK250.out⟩,⟨by repeat (first | (with_reducible first | exact HB.out | apply below_alloc | apply pw_below_drewN | apply below_drew1 | refine below_set ?_ GE250.out) | exact HB.out)⟩⟩
              ·rw [if_neg c34] at H
               have c34b0 : decide (x9_5 < t244) = false := decide_eq_false c34
               clear c34
               simp only [Option.some.injEq,Prod.mk.injEq] at H
               obtain ⟨rfl,rfl⟩ := H
               have hcz37_0 : wr.cell? ⟨gb250,0,none⟩ = some (.int .i64 t243) := (blk_cell BK250.out 0).trans rfl
               have hcz37_1 : wr.cell? ⟨gb250,1,none⟩ = some (.int .i64 t244) := (blk_cell BK250.out 1).trans rfl
               have hcz37_2 : wr.cell? ⟨gb250,2,none⟩ = some (.int .i64 t245) := (blk_cell BK250.out 2).trans rfl
               have hcz37_3 : wr.cell? ⟨gb250,3,none⟩ = some (.int .i64 t246) := (blk_cell BK250.out 3).trans rfl
               have hcz37_4 : wr.cell? ⟨gb250,4,none⟩ = some (.int .i64 t247) := (blk_cell BK250.out 4).trans rfl
               have hcz37_5 : wr.cell? ⟨gb250,5,none⟩ = some (.int .i64 t248) := (blk_cell BK250.out 5).trans rfl
               have hfz37_0 := blk_frozen BK250.out 0
               have hfz37_1 := blk_frozen BK250.out 1
               have hfz37_2 := blk_frozen BK250.out 2
               have hfz37_3 := blk_frozen BK250.out 3
               have hfz37_4 := blk_frozen BK250.out 4
               have hfz37_5 := blk_frozen BK250.out 5
               go_wp2
               go_ret2
               exact ⟨by first | rfl | (simp [errW_none,errW_some] <;> rfl) | (simp [*,errW_none,errW_some] <;> rfl),by repeat (first | (with_reducible first | exact HB.out | apply below_alloc | apply pw_below_drewN | apply below_drew1 | refine below_set ?_ GE250.out) | exact HB.out)⟩

end Go.Proofs.Ytonemdclfgckoaa.X
