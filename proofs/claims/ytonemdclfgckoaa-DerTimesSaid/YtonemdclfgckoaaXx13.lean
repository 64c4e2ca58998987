-- Written by a program of this session (wip/tools/xprint.py), over the kit's printer.
import Derived.Test.YtonemdclfgckoaaXx0
namespace Go.Proofs.Ytonemdclfgckoaa.X
open Go.RowKit Go.Proofs.YtonemdclfgckoaaW.PrintWords Go.Proofs.YtonemdclfgckoaaW.PrintLast Go.Proofs.YtonemdclfgckoaaW.PrintMore
attribute [local go_sem] max2_int min2_int max_two min_two max_three min_three max_four min_four   -- for this text's walks alone
set_option linter.unusedVariables false
set_option linter.unusedSimpArgs false

theorem LSET13_ : (∀ (l : List Value) (i : Nat) (a : Value),l.toArray.setIfInBounds i a = (l.set i a).toArray) ∧ (∀ (x y : Value) (l : List Value),(x :: l).set 0 y = y :: l) ∧ (∀ (x y : Value) (l : List Value) (n : Nat),(x :: l).set (n + 1) y = x :: l.set n y) ∧ (∀ n : Int,IntKind.i64.wrap n = Go.RowKit.wrap64 n) ∧ (∀ n : Int,IntKind.i32.wrap n = Go.RowKit.wrap32 n) := ⟨fun l i a => List.setIfInBounds_toArray ..,fun x y l => List.set_cons_zero ..,fun x y l n => List.set_cons_succ ..,i64_w,i32_w⟩

abbrev AR13_0 : Array Bool := #[false,false,false,false,false,false,false,false,false,false,false,false,false,false,false]
abbrev AR13_1 : Array Bool := #[true,false,false,false,false,false,false,false,false,false,false,false,false,false,false]
abbrev AR13_2 : Array Bool := #[true,true,false,false,false,false,false,false,false,false,false,false,false,false,false]
abbrev AR13_3 : Array Bool := #[true,true,true,false,false,false,false,false,false,false,false,false,false,false,false]
abbrev AR13_4 : Array Bool := #[true,true,true,true,false,false,false,false,false,false,false,false,false,false,false]
abbrev AR13_5 : Array Bool := #[true,true,true,true,true,false,false,false,false,false,false,false,false,false,false]
abbrev AR13_6 : Array Bool := #[true,true,true,true,true,false,false,true,false,false,false,false,false,false,false]
abbrev AR13_7 : Array Bool := #[true,true,true,true,true,false,false,true,true,false,false,false,false,false,false]
abbrev AR13_8 : Array Bool := #[true,true,true,true,true,true,false,true,true,false,false,false,false,false,false]
abbrev AR13_9 : Array Bool := #[true,true,true,true,true,true,true,true,true,false,false,false,false,false,false]
abbrev AR13_10 : Array Bool := #[true,true,true,true,true,true,true,true,true,true,false,false,false,false,false]
abbrev AR13_11 : Array Bool := #[true,true,true,true,true,true,true,true,true,true,true,false,false,false,false]
abbrev AR13_12 : Array Bool := #[true,true,true,true,true,true,true,true,true,true,true,true,false,false,false]
abbrev AR13_13 : Array Bool := #[true,true,true,true,true,true,true,true,true,true,true,true,true,false,false]
abbrev AR13_14 : Array Bool := #[true,true,true,true,true,true,true,true,true,true,true,true,true,true,false]
abbrev AR13_15 : Array Bool := #[true,true,true,true,true,true,true,true,true,true,true,true,true,true,true]
/-! ### der_pairs: function 26 -/
mutual
def der_pairs.j0 : Nat → ByteArray → Bool → Int → Int → Int → Int → Int → Int → Option (Int × Int × Int × Int × Int × Int × Bool)
 | 0,_,_,_,_,_,_,_,_ => none
 | k + 1,x0,x13,x243000,x243001,x243002,x243003,x243004,x243005 => if x13 = true then (some (x243000,x243001,x243002,x243003,x243004,x243005,false)) else (der_pairs.l0 k x0 0 x243000 x243001 x243002 x243003 x243004 x243005)
def der_pairs.l0 : Nat → ByteArray → Int → Int → Int → Int → Int → Int → Int → Option (Int × Int × Int × Int × Int × Int × Bool)
 | 0,_,_,_,_,_,_,_,_ => none
 | k + 1,x0,x15,x243000,x243001,x243002,x243003,x243004,x243005 => if x15 < 12 then (if 0 ≤ x15 then (if x15 < (x0.size : Int) then (if (bt x0 x15) < 48 then (some (x243000,x243001,x243002,x243003,x243004,x243005,false)) else (if (bt x0 x15) > 57 then (some (x243000,x243001,x243002,x243003,x243004,x243005,false)) else (if (wrap64 (Int.tdiv x15 2)) = 0 then (der_pairs.l0 k x0 (wrap64 (x15 + 1)) (wrap64 ((wrap64 (x243000 * 10)) + (((bt x0 x15) - 48) % 256))) x243001 x243002 x243003 x243004 x243005) else (if (wrap64 (Int.tdiv x15 2)) = 1 then (der_pairs.l0 k x0 (wrap64 (x15 + 1)) x243000 (wrap64 ((wrap64 (x243001 * 10)) + (((bt x0 x15) - 48) % 256))) x243002 x243003 x243004 x243005) else (if (wrap64 (Int.tdiv x15 2)) = 2 then (der_pairs.l0 k x0 (wrap64 (x15 + 1)) x243000 x243001 (wrap64 ((wrap64 (x243002 * 10)) + (((bt x0 x15) - 48) % 256))) x243003 x243004 x243005) else (if (wrap64 (Int.tdiv x15 2)) = 3 then (der_pairs.l0 k x0 (wrap64 (x15 + 1)) x243000 x243001 x243002 (wrap64 ((wrap64 (x243003 * 10)) + (((bt x0 x15) - 48) % 256))) x243004 x243005) else (if (wrap64 (Int.tdiv x15 2)) = 4 then (der_pairs.l0 k x0 (wrap64 (x15 + 1)) x243000 x243001 x243002 x243003 (wrap64 ((wrap64 (x243004 * 10)) + (((bt x0 x15) - 48) % 256))) x243005) else (if (wrap64 (Int.tdiv x15 2)) = 5 then (der_pairs.l0 k x0 (wrap64 (x15 + 1)) x243000 x243001 x243002 x243003 x243004 (wrap64 ((wrap64 (x243005 * 10)) + (((bt x0 x15) - 48) % 256)))) else (none))))))))) else (none)) else (none)) else (some (x243000,x243001,x243002,x243003,x243004,x243005,true))
end
def der_pairs.f (k : Nat) (a0 : ByteArray) : Option (Int × Int × Int × Int × Int × Int × Bool) := if (a0.size : Int) = 13 then (if 12 < (a0.size : Int) then (der_pairs.j0 k a0 ((bt a0 12) != 90) 0 0 0 0 0 0) else (none)) else (der_pairs.j0 k a0 true 0 0 0 0 0 0)
theorem der_pairs.mono_l : ∀ k,(∀ y0 y1 y2 y3 y4 y5 y6 y7,LeO (der_pairs.j0 k y0 y1 y2 y3 y4 y5 y6 y7) (der_pairs.j0 (k + 1) y0 y1 y2 y3 y4 y5 y6 y7)) ∧ (∀ y0 y1 y2 y3 y4 y5 y6 y7,LeO (der_pairs.l0 k y0 y1 y2 y3 y4 y5 y6 y7) (der_pairs.l0 (k + 1) y0 y1 y2 y3 y4 y5 y6 y7))
 | 0 => ⟨fun _ _ _ _ _ _ _ _ r h => by simp [der_pairs.j0] at h,fun _ _ _ _ _ _ _ _ r h => by simp [der_pairs.l0] at h⟩
 | k + 1 => by
  obtain ⟨ih0,ih1⟩ := der_pairs.mono_l k
  refine ⟨?_,?_⟩
  ·intro y0 y1 y2 y3 y4 y5 y6 y7
   unfold der_pairs.j0
   repeat' first
   | (with_reducible exact ih0 _ _ _ _ _ _ _ _)
   | (with_reducible exact ih1 _ _ _ _ _ _ _ _)
   | (with_reducible exact LeO.refl _)
   | (with_reducible exact LeO.none _)
   | (with_reducible refine LeO.ite ?_ ?_)
   | (with_reducible refine LeO.bind ?_ (fun _ => ?_))
   | exact ih0 _ _ _ _ _ _ _ _
   | exact ih1 _ _ _ _ _ _ _ _
   | exact LeO.none _
   | refine LeO.ite ?_ ?_
   | refine LeO.bind ?_ (fun _ => ?_)
  ·intro y0 y1 y2 y3 y4 y5 y6 y7
   unfold der_pairs.l0
   repeat' first
   | (with_reducible exact ih0 _ _ _ _ _ _ _ _)
   | (with_reducible exact ih1 _ _ _ _ _ _ _ _)
   | (with_reducible exact LeO.refl _)
   | (with_reducible exact LeO.none _)
   | (with_reducible refine LeO.ite ?_ ?_)
   | (with_reducible refine LeO.bind ?_ (fun _ => ?_))
   | exact ih0 _ _ _ _ _ _ _ _
   | exact ih1 _ _ _ _ _ _ _ _
   | exact LeO.none _
   | refine LeO.ite ?_ ?_
   | refine LeO.bind ?_ (fun _ => ?_)
theorem der_pairs.mono : ∀ a0 k,LeO (der_pairs.f k a0) (der_pairs.f (k + 1) a0) := by
 intro a0 k
 obtain ⟨ih0,ih1⟩ := der_pairs.mono_l k
 unfold der_pairs.f
 repeat' first
   | (with_reducible exact ih0 _ _ _ _ _ _ _ _)
   | (with_reducible exact ih1 _ _ _ _ _ _ _ _)
   | (with_reducible exact LeO.refl _)
   | (with_reducible exact LeO.none _)
   | (with_reducible refine LeO.ite ?_ ?_)
   | (with_reducible refine LeO.bind ?_ (fun _ => ?_))
   | exact ih0 _ _ _ _ _ _ _ _
   | exact ih1 _ _ _ _ _ _ _ _
   | exact LeO.none _
   | refine LeO.ite ?_ ?_
   | refine LeO.bind ?_ (fun _ => ?_)
def der_pairs.T9 : Bool × List (List Nat × List Nat) := (true,[([],[]),([0],[0]),([],[]),([2],[2]),([3],[3]),([4],[4]),([5],[5]),([],[]),([],[]),([7,8],[7,8]),([9],[9]),([10],[10]),([6,11],[6,11]),([1,0,1,2,3,4,5,6,7,8,9,10,11,12],[1]),([13,12,0,1,2,3,4,5,6,7,8,9,10,11,12],[12,13])])
def der_pairs.B9 : List Nat := [0,1,0,4,12,28,60,0,0,384,896,1920,4092,8191,16383]
theorem der_pairs.tab9 : rtab .any (opsOf Try.f26 9) = der_pairs.T9 := by kernel_rfl
theorem der_pairs.bits9 : waitsOk der_pairs.T9.2 der_pairs.B9 = true := by kernel_rfl
set_option maxHeartbeats 8000000 in
set_option maxRecDepth 100000 in
theorem der_pairs.calls (k : Nat) (a0 : ByteArray) (r1 : Int) (r2 : Int) (r3 : Int) (r4 : Int) (r5 : Int) (r6 : Int) (r7 : Bool) (w : World) (h : der_pairs.f k a0 = some (r1,r2,r3,r4,r5,r6,r7)) :
  Calls Try.prog 26 #[.string a0] w fun e w' => e = .returned (.tuple #[.agg #[.int .i64 r1,.int .i64 r2,.int .i64 r3,.int .i64 r4,.int .i64 r5,.int .i64 r6],.bool r7]) ∧ Below w.heap.size w w' := by
 have hu55 := Try.underlying55
 have HB := Aside0.mk (Below.refl w.heap.size w)
 have H : (if (a0.size : Int) = 13 then (if 12 < (a0.size : Int) then (der_pairs.j0 k a0 ((bt a0 12) != 90) 0 0 0 0 0 0) else (none)) else (der_pairs.j0 k a0 true 0 0 0 0 0 0)) = some (r1,r2,r3,r4,r5,r6,r7) := h
 clear h
 have HC2 := Aside0.mk H
 clear H
 go_enter Try.func26,Try.ntmps26
 go_upto_region 2 with (first | ((with_reducible refine gate_dst (N := 2) rfl ?_); refine box_event ?hg (N := 2) ?hd (cs := #[.int .i64 0,.int .i64 0,.int .i64 0,.int .i64 0,.int .i64 0,.int .i64 0]) (t := 55) ?hr ?_; (case hd => rfl); (case hg => rfl); (case hr => first | (go_simp; done) | (go_simp; rfl)); intro gb241 hg w3 hbox hb; have n0_ := Aside0.mk (below_step (by repeat (first | (with_reducible first | exact HB.out | apply below_alloc | apply pw_below_drewN | apply below_drew1) | exact HB.out)) hb); have n1_ := Aside0.mk (hbox); have n2_ := Aside0.mk ((by rw [hg]; exact (below_size (by repeat (first | (with_reducible first | exact HB.out | apply below_alloc | apply pw_below_drewN | apply below_drew1) | exact HB.out))) : w.heap.size ≤ gb241)); have n3_ := Aside0.mk ((by rw [hg]; exact (below_size (by repeat (first | (with_reducible first | exact HB.out | apply below_alloc | apply pw_below_drewN | apply below_drew1) | exact HB.out))) : w.heap.size ≤ gb241)); clear HB; have HB := n0_; have BK241 := n1_; have GW241 := n2_; have GE241 := n3_; clear n0_ n1_ n2_ n3_; clear hb hbox hg) | ((with_reducible refine gate_dst (N := 4) rfl ?_); refine box_event ?hg (N := 4) ?hd (cs := #[.int .i64 0,.int .i64 0,.int .i64 0,.int .i64 0,.int .i64 0,.int .i64 0]) (t := 55) ?hr ?_; (case hd => rfl); (case hg => rfl); (case hr => first | (go_simp; done) | (go_simp; rfl)); intro gb242 hg w4 hbox hb; have n0_ := Aside0.mk (blk_below (g := gb241) (o := .cells #[.int .i64 0,.int .i64 0,.int .i64 0,.int .i64 0,.int .i64 0,.int .i64 0] 55 (0,0)) (by (with_reducible repeat (first | refine blk_drewN ?_ _ | refine blk_drew ?_ | refine blk_alloc ?_ _)); exact BK241.out) hb); have n1_ := Aside0.mk (below_step (by repeat (first | (with_reducible first | exact HB.out | apply below_alloc | apply pw_below_drewN | apply below_drew1 | refine below_set ?_ GE241.out) | exact HB.out)) hb); have n2_ := Aside0.mk (hbox); have n3_ := Aside0.mk ((by rw [hg]; exact (below_size (by repeat (first | (with_reducible first | exact HB.out | apply below_alloc | apply pw_below_drewN | apply below_drew1 | refine below_set ?_ GE241.out) | exact HB.out))) : w.heap.size ≤ gb242)); have n4_ := Aside0.mk ((by rw [hg]; exact (below_size (by repeat (first | (with_reducible first | exact HB.out | apply below_alloc | apply pw_below_drewN | apply below_drew1 | refine below_set ?_ GE241.out) | exact HB.out))) : w.heap.size ≤ gb242)); have n5_ := Aside0.mk ((by rw [hg]; exact Nat.ne_of_lt (blk_lt (g := gb241) (o := .cells #[.int .i64 0,.int .i64 0,.int .i64 0,.int .i64 0,.int .i64 0,.int .i64 0] 55 (0,0)) (by (with_reducible repeat (first | refine blk_drewN ?_ _ | refine blk_drew ?_ | refine blk_alloc ?_ _)); exact BK241.out)) : gb241 ≠ gb242)); have n6_ := Aside0.mk ((by rw [hg]; exact Nat.ne_of_gt (blk_lt (g := gb241) (o := .cells #[.int .i64 0,.int .i64 0,.int .i64 0,.int .i64 0,.int .i64 0,.int .i64 0] 55 (0,0)) (by (with_reducible repeat (first | refine blk_drewN ?_ _ | refine blk_drew ?_ | refine blk_alloc ?_ _)); exact BK241.out)) : gb242 ≠ gb241)); clear BK241; clear HB; have BK241 := n0_; have HB := n1_; have BK242 := n2_; have GW242 := n3_; have GE242 := n4_; have NB241_242 := n5_; have NB242_241 := n6_; clear n0_ n1_ n2_ n3_ n4_ n5_ n6_; clear hb hbox hg))
 (try simp only [Act.put,List.setIfInBounds_toArray,List.set_cons_zero,List.set_cons_succ])
 go_cut [13] (fun v13 wc => ∃ (kq : Nat) (x13_1 : Bool),v13 = .bool x13_1 ∧ Aside0 (der_pairs.j0 kq a0 x13_1 0 0 0 0 0 0 = some (r1,r2,r3,r4,r5,r6,r7)) ∧ Aside0 (kq ≤ k) ∧ Aside0 (wc.heap[gb241]? = some (.cells #[.int .i64 0,.int .i64 0,.int .i64 0,.int .i64 0,.int .i64 0,.int .i64 0] 55 (0,0))) ∧ Aside0 (wc.heap[gb242]? = some (.cells #[.int .i64 0,.int .i64 0,.int .i64 0,.int .i64 0,.int .i64 0,.int .i64 0] 55 (0,0))) ∧ Aside0 (Below w.heap.size w wc))
 case first =>
  have H := HC2.out
  clear HC2
  by_cases c5 : (a0.size : Int) = 13
  ·rw [if_pos c5] at H
   have c5b0 : ((a0.size : Int) == 13) = true := beq_iff_eq.mpr c5
   have c5b1 : ((a0.size : Int) != 13) = false := bne_eq_false_iff_eq.mpr c5
   clear c5
   (first | rw [c5b0] | (simp only [i64_w,i32_w]; rw [c5b0]) | skip)
   by_cases c6 : 12 < (a0.size : Int)
   ·rw [if_pos c6] at H
    have c6b0 : decide (12 < (a0.size : Int)) = true := decide_eq_true c6
    have c6b1 : decide (12 < a0.size) = true := decide_eq_true (by omega)
    clear c6
    have H' := Aside0.mk H
    clear H
    have p7 : 0 ≤ (12 : Int) := (by omega)
    have q7 : 12 < a0.size := (by have : (12 : Int) < (a0.size : Int) := of_decide_eq_true (by first | (with_reducible assumption) | assumption); omega)
    have hx7 : ∀ h : 12 < a0.size,((a0[12]'h).toNat : Int) = bt a0 12 := bt_at a0 12
    clear p7
    have qi7 : (12 < (a0.size : Int)) = True := eq_true (of_decide_eq_true (by first | (with_reducible assumption) | assumption))
    replace q7 := eq_true q7
    go_wp2
    go_meet
    case rel => exact ⟨_,(((bt a0 12) != 90)),(by first | rfl | (simp; done) | (simp [*]; done)),H',⟨by first | omega | exact Nat.le_refl _⟩,⟨by (with_reducible repeat (first | refine blk_drewN ?_ _ | refine blk_drew ?_ | refine blk_alloc ?_ _)); exact BK241.out⟩,⟨by (with_reducible repeat (first | refine blk_drewN ?_ _ | refine blk_drew ?_ | refine blk_alloc ?_ _)); exact BK242.out⟩,⟨by repeat (first | (with_reducible first | exact HB.out | apply below_alloc | apply pw_below_drewN | apply below_drew1 | refine below_set ?_ GE241.out | refine below_set ?_ GE242.out) | exact HB.out)⟩⟩
   ·rw [if_neg c6] at H
    exact absurd H (by simp)
  ·rw [if_neg c5] at H
   have c5b0 : ((a0.size : Int) == 13) = false := beq_eq_false_iff_ne.mpr c5
   have c5b1 : ((a0.size : Int) != 13) = true := bne_iff_ne.mpr c5
   (first | rw [c5b0] | (simp only [i64_w,i32_w]; rw [c5b0]) | skip)
   have H' := Aside0.mk H
   clear H
   go_wp2
   go_meet
   case rel => exact ⟨_,(true),(by first | rfl | (simp; done) | (simp [*]; done)),H',⟨by first | omega | exact Nat.le_refl _⟩,⟨by (with_reducible repeat (first | refine blk_drewN ?_ _ | refine blk_drew ?_ | refine blk_alloc ?_ _)); exact BK241.out⟩,⟨by (with_reducible repeat (first | refine blk_drewN ?_ _ | refine blk_drew ?_ | refine blk_alloc ?_ _)); exact BK242.out⟩,⟨by repeat (first | (with_reducible first | exact HB.out | apply below_alloc | apply pw_below_drewN | apply below_drew1 | refine below_set ?_ GE241.out | refine below_set ?_ GE242.out) | exact HB.out)⟩⟩
 case rest =>
  clear HC2
  try clear c2
  try clear p2
  try clear c5
  try clear c5b0
  try clear c5b1
  try clear c6
  try clear c6b0
  try clear c6b1
  try clear p7
  try clear q7
  try clear hx7
  try clear qi7
  try clear p7
  try clear q7
  obtain ⟨kq,x13_1,rfl,HA,HJ1,BK241,BK242,HB⟩ := hcut
  cases kq with
  | zero => exact absurd HA.out (by simp [der_pairs.j0])
  | succ kj1 =>
   have H := HA.out
   clear HA
   simp only [der_pairs.j0] at H
   by_cases c8 : x13_1 = true
   ·subst c8
    have H1 : (some (0,0,0,0,0,0,false)) = some (r1,r2,r3,r4,r5,r6,r7) := by rw [if_pos rfl] at H; exact H
    clear H
    have H := H1
    clear H1
    simp only [Option.some.injEq,Prod.mk.injEq] at H
    obtain ⟨rfl,rfl,rfl,rfl,rfl,rfl,rfl⟩ := H
    have hnb9 := NB242_241.out
    have hnc9 := NB241_242.out
    have hcz10_0 : wc.cell? ⟨gb242,0,none⟩ = some (.int .i64 0) := (blk_cell BK242.out 0).trans rfl
    have hcz10_1 : wc.cell? ⟨gb242,1,none⟩ = some (.int .i64 0) := (blk_cell BK242.out 1).trans rfl
    have hcz10_2 : wc.cell? ⟨gb242,2,none⟩ = some (.int .i64 0) := (blk_cell BK242.out 2).trans rfl
    have hcz10_3 : wc.cell? ⟨gb242,3,none⟩ = some (.int .i64 0) := (blk_cell BK242.out 3).trans rfl
    have hcz10_4 : wc.cell? ⟨gb242,4,none⟩ = some (.int .i64 0) := (blk_cell BK242.out 4).trans rfl
    have hcz10_5 : wc.cell? ⟨gb242,5,none⟩ = some (.int .i64 0) := (blk_cell BK242.out 5).trans rfl
    have hfz10_0 := blk_frozen BK242.out 0
    have hfz10_1 := blk_frozen BK242.out 1
    have hfz10_2 := blk_frozen BK242.out 2
    have hfz10_3 := blk_frozen BK242.out 3
    have hfz10_4 := blk_frozen BK242.out 4
    have hfz10_5 := blk_frozen BK242.out 5
    have hcz11_0 : wc.cell? ⟨gb241,0,none⟩ = some (.int .i64 0) := (blk_cell BK241.out 0).trans rfl
    have hcz11_1 : wc.cell? ⟨gb241,1,none⟩ = some (.int .i64 0) := (blk_cell BK241.out 1).trans rfl
    have hcz11_2 : wc.cell? ⟨gb241,2,none⟩ = some (.int .i64 0) := (blk_cell BK241.out 2).trans rfl
    have hcz11_3 : wc.cell? ⟨gb241,3,none⟩ = some (.int .i64 0) := (blk_cell BK241.out 3).trans rfl
    have hcz11_4 : wc.cell? ⟨gb241,4,none⟩ = some (.int .i64 0) := (blk_cell BK241.out 4).trans rfl
    have hcz11_5 : wc.cell? ⟨gb241,5,none⟩ = some (.int .i64 0) := (blk_cell BK241.out 5).trans rfl
    have hfz11_0 := blk_frozen BK241.out 0
    have hfz11_1 := blk_frozen BK241.out 1
    have hfz11_2 := blk_frozen BK241.out 2
    have hfz11_3 := blk_frozen BK241.out 3
    have hfz11_4 := blk_frozen BK241.out 4
    have hfz11_5 := blk_frozen BK241.out 5
    go_wp2
    refine bodyPost_ret (results_ct rfl _ _ gb241 55 #[.int .i64 0,.int .i64 0,.int .i64 0,.int .i64 0,.int .i64 0,.int .i64 0] (0,0) _ rfl (by (with_reducible repeat (first | refine blk_drewN ?_ _ | refine blk_drew ?_ | refine blk_alloc ?_ _)); refine blk_put (cs := #[.int .i64 0,.int .i64 0,.int .i64 0,.int .i64 0,.int .i64 0,.int .i64 0]) ?_ 5 _ (by first | rfl | (rw [hw8_]; rfl) | (simp [hw8_]; done)); (with_reducible repeat (first | refine blk_drewN ?_ _ | refine blk_drew ?_ | refine blk_alloc ?_ _)); refine blk_put (cs := #[.int .i64 0,.int .i64 0,.int .i64 0,.int .i64 0,.int .i64 0,.int .i64 0]) ?_ 4 _ (by first | rfl | (rw [hw8_]; rfl) | (simp [hw8_]; done)); (with_reducible repeat (first | refine blk_drewN ?_ _ | refine blk_drew ?_ | refine blk_alloc ?_ _)); refine blk_put (cs := #[.int .i64 0,.int .i64 0,.int .i64 0,.int .i64 0,.int .i64 0,.int .i64 0]) ?_ 3 _ (by first | rfl | (rw [hw8_]; rfl) | (simp [hw8_]; done)); (with_reducible repeat (first | refine blk_drewN ?_ _ | refine blk_drew ?_ | refine blk_alloc ?_ _)); refine blk_put (cs := #[.int .i64 0,.int .i64 0,.int .i64 0,.int .i64 0,.int .i64 0,.int .i64 0]) ?_ 2 _ (by first | rfl | (rw [hw8_]; rfl) | (simp [hw8_]; done)); (with_reducible repeat (first | refine blk_drewN ?_ _ | refine blk_drew ?_ | refine blk_alloc ?_ _)); refine blk_put (cs := #[.int .i64 0,.int .i64 0,.int .i64 0,.int .i64 0,.int .i64 0,.int .i64 0]) ?_ 1 _ (by first | rfl | (rw [hw8_]; rfl) | (simp [hw8_]; done)); (with_reducible repeat (first | refine blk_drewN ?_ _ | refine blk_drew ?_ | refine blk_alloc ?_ _)); refine blk_put (cs := #[.int .i64 0,.int .i64 0,.int .i64 0,.int .i64 0,.int .i64 0,.int .i64 0]) ?_ 0 _ (by first | rfl | (rw [hw8_]; rfl) | (simp [hw8_]; done)); (with_reducible repeat (first | refine blk_drewN ?_ _ | refine blk_drew ?_ | refine blk_alloc ?_ _)); exact BK241.out) Try.underlying55 rfl (by kernel_rfl)) rfl ?_
    exact ⟨by first | rfl | (simp [errW_none,errW_some] <;> rfl) | (simp [*,errW_none,errW_some] <;> rfl),by repeat (first | (with_reducible first | exact HB.out | apply below_alloc | apply pw_below_drewN | apply below_drew1 | refine below_set ?_ GE241.out | refine below_set ?_ GE242.out) | exact HB.out)⟩
   ·replace c8 := Bool.eq_false_iff.mpr c8
    subst c8
    have H1 : (der_pairs.l0 kj1 a0 0 0 0 0 0 0 0) = some (r1,r2,r3,r4,r5,r6,r7) := by rw [if_neg (show ¬ (false = true) by decide)] at H; exact H
    clear H
    have H := H1
    clear H1
    have H' := Aside0.mk H
    clear H
    go_wp2
    go_loopg [15] kj1 (fun kq v15 w' => ∃ (x15_2 : Int) (x242000_2 : Int) (x242001_2 : Int) (x242002_2 : Int) (x242003_2 : Int) (x242004_2 : Int) (x242005_2 : Int) (x243000_2 : Int) (x243001_2 : Int) (x243002_2 : Int) (x243003_2 : Int) (x243004_2 : Int) (x243005_2 : Int),v15 = .int .i64 x15_2 ∧ Aside0 (der_pairs.l0 kq a0 x15_2 x243000_2 x243001_2 x243002_2 x243003_2 x243004_2 x243005_2 = some (r1,r2,r3,r4,r5,r6,r7)) ∧ Aside0 (kq ≤ kj1) ∧ Aside0 (w'.heap[gb241]? = some (.cells #[.int .i64 x242000_2,.int .i64 x242001_2,.int .i64 x242002_2,.int .i64 x242003_2,.int .i64 x242004_2,.int .i64 x242005_2] 55 (0,0))) ∧ Aside0 (w'.heap[gb242]? = some (.cells #[.int .i64 x243000_2,.int .i64 x243001_2,.int .i64 x243002_2,.int .i64 x243003_2,.int .i64 x243004_2,.int .i64 x243005_2] 55 (0,0))) ∧ Aside0 (Below w.heap.size w w'))
    case atStart => exact ⟨(0),(0),(0),(0),(0),(0),(0),(0),(0),(0),(0),(0),(0),(by first | rfl | (simp; done) | (simp [*]; done)),H',⟨Nat.le_refl _⟩,⟨by (with_reducible repeat (first | refine blk_drewN ?_ _ | refine blk_drew ?_ | refine blk_alloc ?_ _)); exact BK241.out⟩,⟨by (with_reducible repeat (first | refine blk_drewN ?_ _ | refine blk_drew ?_ | refine blk_alloc ?_ _)); exact BK242.out⟩,⟨by repeat (first | (with_reducible first | exact HB.out | apply below_alloc | apply pw_below_drewN | apply below_drew1 | refine below_set ?_ GE241.out | refine below_set ?_ GE242.out) | exact HB.out)⟩⟩
    case round =>
     clear H'
     try clear c2
     try clear p2
     try clear c5
     try clear c5b0
     try clear c5b1
     try clear c6
     try clear c6b0
     try clear c6b1
     try clear p7
     try clear q7
     try clear hx7
     try clear qi7
     try clear c8
     try clear c9
     try clear hcz10_0
     try clear hcz10_1
     try clear hcz10_2
     try clear hcz10_3
     try clear hcz10_4
     try clear hcz10_5
     try clear hcz11_0
     try clear hcz11_1
     try clear hcz11_2
     try clear hcz11_3
     try clear hcz11_4
     try clear hcz11_5
     try clear hfz10_0
     try clear hfz10_1
     try clear hfz10_2
     try clear hfz10_3
     try clear hfz10_4
     try clear hfz10_5
     try clear hfz11_0
     try clear hfz11_1
     try clear hfz11_2
     try clear hfz11_3
     try clear hfz11_4
     try clear hfz11_5
     try clear p2
     try clear p7
     try clear q7
     obtain ⟨x15_2,x242000_2,x242001_2,x242002_2,x242003_2,x242004_2,x242005_2,x243000_2,x243001_2,x243002_2,x243003_2,x243004_2,x243005_2,rfl,HA,HK2,BK241,BK242,HB⟩ := hrel
     cases gk with
     | zero => exact absurd HA.out (by simp [der_pairs.l0])
     | succ k2 =>
      have H := HA.out
      clear HA
      simp only [der_pairs.l0] at H
      by_cases c12 : x15_2 < 12
      ·rw [if_pos c12] at H
       have c12b0 : decide (x15_2 < 12) = true := decide_eq_true c12
       clear c12
       by_cases c13 : 0 ≤ x15_2
       ·rw [if_pos c13] at H
        have c13b0 : decide (0 ≤ x15_2) = true := decide_eq_true c13
        clear c13
        by_cases c14 : x15_2 < (a0.size : Int)
        ·rw [if_pos c14] at H
         have c14b0 : decide (x15_2 < (a0.size : Int)) = true := decide_eq_true c14
         clear c14
         by_cases c16 : (bt a0 x15_2) < 48
         ·rw [if_pos c16] at H
          have c16b0 : decide ((bt a0 x15_2) < 48) = true := decide_eq_true c16
          clear c16
          simp only [Option.some.injEq,Prod.mk.injEq] at H
          obtain ⟨rfl,rfl,rfl,rfl,rfl,rfl,rfl⟩ := H
          have p15 : 0 ≤ (x15_2 : Int) := of_decide_eq_true (by first | (with_reducible assumption) | assumption)
          have q15 : x15_2 < (a0.size : Int) := of_decide_eq_true (by first | (with_reducible assumption) | assumption)
          have hx15 := bt_at a0 x15_2
          replace p15 := eq_true p15
          replace q15 := eq_true q15
          have hnb17 := NB242_241.out
          have hnc17 := NB241_242.out
          have hcz18_0 : wr.cell? ⟨gb242,0,none⟩ = some (.int .i64 x243000_2) := (blk_cell BK242.out 0).trans rfl
          have hcz18_1 : wr.cell? ⟨gb242,1,none⟩ = some (.int .i64 x243001_2) := (blk_cell BK242.out 1).trans rfl
          have hcz18_2 : wr.cell? ⟨gb242,2,none⟩ = some (.int .i64 x243002_2) := (blk_cell BK242.out 2).trans rfl
          have hcz18_3 : wr.cell? ⟨gb242,3,none⟩ = some (.int .i64 x243003_2) := (blk_cell BK242.out 3).trans rfl
          have hcz18_4 : wr.cell? ⟨gb242,4,none⟩ = some (.int .i64 x243004_2) := (blk_cell BK242.out 4).trans rfl
          have hcz18_5 : wr.cell? ⟨gb242,5,none⟩ = some (.int .i64 x243005_2) := (blk_cell BK242.out 5).trans rfl
          have hfz18_0 := blk_frozen BK242.out 0
          have hfz18_1 := blk_frozen BK242.out 1
          have hfz18_2 := blk_frozen BK242.out 2
          have hfz18_3 := blk_frozen BK242.out 3
          have hfz18_4 := blk_frozen BK242.out 4
          have hfz18_5 := blk_frozen BK242.out 5
          have hcz19_0 : wr.cell? ⟨gb241,0,none⟩ = some (.int .i64 x242000_2) := (blk_cell BK241.out 0).trans rfl
          have hcz19_1 : wr.cell? ⟨gb241,1,none⟩ = some (.int .i64 x242001_2) := (blk_cell BK241.out 1).trans rfl
          have hcz19_2 : wr.cell? ⟨gb241,2,none⟩ = some (.int .i64 x242002_2) := (blk_cell BK241.out 2).trans rfl
          have hcz19_3 : wr.cell? ⟨gb241,3,none⟩ = some (.int .i64 x242003_2) := (blk_cell BK241.out 3).trans rfl
          have hcz19_4 : wr.cell? ⟨gb241,4,none⟩ = some (.int .i64 x242004_2) := (blk_cell BK241.out 4).trans rfl
          have hcz19_5 : wr.cell? ⟨gb241,5,none⟩ = some (.int .i64 x242005_2) := (blk_cell BK241.out 5).trans rfl
          have hfz19_0 := blk_frozen BK241.out 0
          have hfz19_1 := blk_frozen BK241.out 1
          have hfz19_2 := blk_frozen BK241.out 2
          have hfz19_3 := blk_frozen BK241.out 3
          have hfz19_4 := blk_frozen BK241.out 4
          have hfz19_5 := blk_frozen BK241.out 5
          go_wp2
          refine bodyPost_ret (results_ct rfl _ _ gb241 55 #[.int .i64 x243000_2,.int .i64 x243001_2,.int .i64 x243002_2,.int .i64 x243003_2,.int .i64 x243004_2,.int .i64 x243005_2] (0,0) _ rfl (by (with_reducible repeat (first | refine blk_drewN ?_ _ | refine blk_drew ?_ | refine blk_alloc ?_ _)); refine blk_put (cs := #[.int .i64 x243000_2,.int .i64 x243001_2,.int .i64 x243002_2,.int .i64 x243003_2,.int .i64 x243004_2,.int .i64 x242005_2]) ?_ 5 _ (by first | rfl | (rw [hw8_]; rfl) | (simp [hw8_]; done)); (with_reducible repeat (first | refine blk_drewN ?_ _ | refine blk_drew ?_ | refine blk_alloc ?_ _)); refine blk_put (cs := #[.int .i64 x243000_2,.int .i64 x243001_2,.int .i64 x243002_2,.int .i64 x243003_2,.int .i64 x242004_2,.int .i64 x242005_2]) ?_ 4 _ (by first | rfl | (rw [hw8_]; rfl) | (simp [hw8_]; done)); (with_reducible repeat (first | refine blk_drewN ?_ _ | refine blk_drew ?_ | refine blk_alloc ?_ _)); refine blk_put (cs := #[.int .i64 x243000_2,.int .i64 x243001_2,.int .i64 x243002_2,.int .i64 x242003_2,.int .i64 x242004_2,.int .i64 x242005_2]) ?_ 3 _ (by first | rfl | (rw [hw8_]; rfl) | (simp [hw8_]; done)); (with_reducible repeat (first | refine blk_drewN ?_ _ | refine blk_drew ?_ | refine blk_alloc ?_ _)); refine blk_put (cs := #[.int .i64 x243000_2,.int .i64 x243001_2,.int .i64 x242002_2,.int .i64 x242003_2,.int .i64 x242004_2,.int .i64 x242005_2]) ?_ 2 _ (by first | rfl | (rw [hw8_]; rfl) | (simp [hw8_]; done)); (with_reducible repeat (first | refine blk_drewN ?_ _ | refine blk_drew ?_ | refine blk_alloc ?_ _)); refine blk_put (cs := #[.int .i64 x243000_2,.int .i64 x242001_2,.int .i64 x242002_2,.int .i64 x242003_2,.int .i64 x242004_2,.int .i64 x242005_2]) ?_ 1 _ (by first | rfl | (rw [hw8_]; rfl) | (simp [hw8_]; done)); (with_reducible repeat (first | refine blk_drewN ?_ _ | refine blk_drew ?_ | refine blk_alloc ?_ _)); refine blk_put (cs := #[.int .i64 x242000_2,.int .i64 x242001_2,.int .i64 x242002_2,.int .i64 x242003_2,.int .i64 x242004_2,.int .i64 x242005_2]) ?_ 0 _ (by first | rfl | (rw [hw8_]; rfl) | (simp [hw8_]; done)); (with_reducible repeat (first | refine blk_drewN ?_ _ | refine blk_drew ?_ | refine blk_alloc ?_ _)); exact BK241.out) Try.underlying55 rfl (by kernel_rfl)) rfl ?_
          exact ⟨by first | rfl | (simp [errW_none,errW_some] <;> rfl) | (simp [*,errW_none,errW_some] <;> rfl),by repeat (first | (with_reducible first | exact HB.out | apply below_alloc | apply pw_below_drewN | apply below_drew1 | refine below_set ?_ GE241.out | refine below_set ?_ GE242.out) | exact HB.out)⟩
         ·rw [if_neg c16] at H
          have c16b0 : decide ((bt a0 x15_2) < 48) = false := decide_eq_false c16
          clear c16
          by_cases c21 : (bt a0 x15_2) > 57
          ·rw [if_pos c21] at H
           have c21b0 : decide (57 < (bt a0 x15_2)) = true := decide_eq_true c21
           clear c21
           simp only [Option.some.injEq,Prod.mk.injEq] at H
           obtain ⟨rfl,rfl,rfl,rfl,rfl,rfl,rfl⟩ := H
           have p15 : 0 ≤ (x15_2 : Int) := of_decide_eq_true (by first | (with_reducible assumption) | assumption)
           have q15 : x15_2 < (a0.size : Int) := of_decide_eq_true (by first | (with_reducible assumption) | assumption)
           have hx15 := bt_at a0 x15_2
           replace p15 := eq_true p15
           replace q15 := eq_true q15
           have p20 : 0 ≤ (x15_2 : Int) := of_decide_eq_true (by first | (with_reducible assumption) | assumption)
           have q20 : x15_2 < (a0.size : Int) := of_decide_eq_true (by first | (with_reducible assumption) | assumption)
           have hx20 := bt_at a0 x15_2
           replace p20 := eq_true p20
           replace q20 := eq_true q20
           have hnb22 := NB242_241.out
           have hnc22 := NB241_242.out
           have hcz23_0 : wr.cell? ⟨gb242,0,none⟩ = some (.int .i64 x243000_2) := (blk_cell BK242.out 0).trans rfl
           have hcz23_1 : wr.cell? ⟨gb242,1,none⟩ = some (.int .i64 x243001_2) := (blk_cell BK242.out 1).trans rfl
           have hcz23_2 : wr.cell? ⟨gb242,2,none⟩ = some (.int .i64 x243002_2) := (blk_cell BK242.out 2).trans rfl
           have hcz23_3 : wr.cell? ⟨gb242,3,none⟩ = some (.int .i64 x243003_2) := (blk_cell BK242.out 3).trans rfl
           have hcz23_4 : wr.cell? ⟨gb242,4,none⟩ = some (.int .i64 x243004_2) := (blk_cell BK242.out 4).trans rfl
           have hcz23_5 : wr.cell? ⟨gb242,5,none⟩ = some (.int .i64 x243005_2) := (blk_cell BK242.out 5).trans rfl
           have hfz23_0 := blk_frozen BK242.out 0
           have hfz23_1 := blk_frozen BK242.out 1
           have hfz23_2 := blk_frozen BK242.out 2
           have hfz23_3 := blk_frozen BK242.out 3
           have hfz23_4 := blk_frozen BK242.out 4
           have hfz23_5 := blk_frozen BK242.out 5
           have hcz24_0 : wr.cell? ⟨gb241,0,none⟩ = some (.int .i64 x242000_2) := (blk_cell BK241.out 0).trans rfl
           have hcz24_1 : wr.cell? ⟨gb241,1,none⟩ = some (.int .i64 x242001_2) := (blk_cell BK241.out 1).trans rfl
           have hcz24_2 : wr.cell? ⟨gb241,2,none⟩ = some (.int .i64 x242002_2) := (blk_cell BK241.out 2).trans rfl
           have hcz24_3 : wr.cell? ⟨gb241,3,none⟩ = some (.int .i64 x242003_2) := (blk_cell BK241.out 3).trans rfl
           have hcz24_4 : wr.cell? ⟨gb241,4,none⟩ = some (.int .i64 x242004_2) := (blk_cell BK241.out 4).trans rfl
           have hcz24_5 : wr.cell? ⟨gb241,5,none⟩ = some (.int .i64 x242005_2) := (blk_cell BK241.out 5).trans rfl
           have hfz24_0 := blk_frozen BK241.out 0
           have hfz24_1 := blk_frozen BK241.out 1
           have hfz24_2 := blk_frozen BK241.out 2
           have hfz24_3 := blk_frozen BK241.out 3
           have hfz24_4 := blk_frozen BK241.out 4
           have hfz24_5 := blk_frozen BK241.out 5
           go_wp2
           refine bodyPost_ret (results_ct rfl _ _ gb241 55 #[.int .i64 x243000_2,.int .i64 x243001_2,.int .i64 x243002_2,.int .i64 x243003_2,.int .i64 x243004_2,.int .i64 x243005_2] (0,0) _ rfl (by (with_reducible repeat (first | refine blk_drewN ?_ _ | refine blk_drew ?_ | refine blk_alloc ?_ _)); refine blk_put (cs := #[.int .i64 x243000_2,.int .i64 x243001_2,.int .i64 x243002_2,.int .i64 x243003_2,.int .i64 x243004_2,.int .i64 x242005_2]) ?_ 5 _ (by first | rfl | (rw [hw8_]; rfl) | (simp [hw8_]; done)); (with_reducible repeat (first | refine blk_drewN ?_ _ | refine blk_drew ?_ | refine blk_alloc ?_ _)); refine blk_put (cs := #[.int .i64 x243000_2,.int .i64 x243001_2,.int .i64 x243002_2,.int .i64 x243003_2,.int .i64 x242004_2,.int .i64 x242005_2]) ?_ 4 _ (by first | rfl | (rw [hw8_]; rfl) | (simp [hw8_]; done)); (with_reducible repeat (first | refine blk_drewN ?_ _ | refine blk_drew ?_ | refine blk_alloc ?_ _)); refine blk_put (cs := #[.int .i64 x243000_2,.int .i64 x243001_2,.int .i64 x243002_2,.int .i64 x242003_2,.int .i64 x242004_2,.int .i64 x242005_2]) ?_ 3 _ (by first | rfl | (rw [hw8_]; rfl) | (simp [hw8_]; done)); (with_reducible repeat (first | refine blk_drewN ?_ _ | refine blk_drew ?_ | refine blk_alloc ?_ _)); refine blk_put (cs := #[.int .i64 x243000_2,.int .i64 x243001_2,.int .i64 x242002_2,.int .i64 x242003_2,.int .i64 x242004_2,.int .i64 x242005_2]) ?_ 2 _ (by first | rfl | (rw [hw8_]; rfl) | (simp [hw8_]; done)); (with_reducible repeat (first | refine blk_drewN ?_ _ | refine blk_drew ?_ | refine blk_alloc ?_ _)); refine blk_put (cs := #[.int .i64 x243000_2,.int .i64 x242001_2,.int .i64 x242002_2,.int .i64 x242003_2,.int .i64 x242004_2,.int .i64 x242005_2]) ?_ 1 _ (by first | rfl | (rw [hw8_]; rfl) | (simp [hw8_]; done)); (with_reducible repeat (first | refine blk_drewN ?_ _ | refine blk_drew ?_ | refine blk_alloc ?_ _)); refine blk_put (cs := #[.int .i64 x242000_2,.int .i64 x242001_2,.int .i64 x242002_2,.int .i64 x242003_2,.int .i64 x242004_2,.int .i64 x242005_2]) ?_ 0 _ (by first | rfl | (rw [hw8_]; rfl) | (simp [hw8_]; done)); (with_reducible repeat (first | refine blk_drewN ?_ _ | refine blk_drew ?_ | refine blk_alloc ?_ _)); exact BK241.out) Try.underlying55 rfl (by kernel_rfl)) rfl ?_
           exact ⟨by first | rfl | (simp [errW_none,errW_some] <;> rfl) | (simp [*,errW_none,errW_some] <;> rfl),by repeat (first | (with_reducible first | exact HB.out | apply below_alloc | apply pw_below_drewN | apply below_drew1 | refine below_set ?_ GE241.out | refine below_set ?_ GE242.out) | exact HB.out)⟩
          ·rw [if_neg c21] at H
           have c21b0 : decide (57 < (bt a0 x15_2)) = false := decide_eq_false c21
           clear c21
           by_cases c25 : (wrap64 (Int.tdiv x15_2 2)) = 0
           ·rw [if_pos c25] at H
            have c25b0 : ((wrap64 (Int.tdiv x15_2 2)) == 0) = true := beq_iff_eq.mpr c25
            have c25b1 : ((wrap64 (Int.tdiv x15_2 2)) != 0) = false := bne_eq_false_iff_eq.mpr c25
            have H' := Aside0.mk H
            clear H
            have p15 : 0 ≤ (x15_2 : Int) := of_decide_eq_true (by first | (with_reducible assumption) | assumption)
            have q15 : x15_2 < (a0.size : Int) := of_decide_eq_true (by first | (with_reducible assumption) | assumption)
            have hx15 := bt_at a0 x15_2
            replace p15 := eq_true p15
            replace q15 := eq_true q15
            have p20 : 0 ≤ (x15_2 : Int) := of_decide_eq_true (by first | (with_reducible assumption) | assumption)
            have q20 : x15_2 < (a0.size : Int) := of_decide_eq_true (by first | (with_reducible assumption) | assumption)
            have hx20 := bt_at a0 x15_2
            replace p20 := eq_true p20
            replace q20 := eq_true q20
            try go_wp2
            have n0_ := Aside0.mk (blk_drew BK241.out)
            have n1_ := Aside0.mk (blk_drew BK242.out)
            have n2_ := Aside0.mk (below_drew1 HB.out)
            clear BK241
            clear BK242
            clear HB
            have BK241 := n0_
            have BK242 := n1_
            have HB := n2_
            clear n0_ n1_ n2_
            have p26 : 0 ≤ (x15_2 : Int) := of_decide_eq_true (by first | (with_reducible assumption) | assumption)
            have q26 : x15_2 < (a0.size : Int) := of_decide_eq_true (by first | (with_reducible assumption) | assumption)
            have hx26 := bt_at a0 x15_2
            replace p26 := eq_true p26
            replace q26 := eq_true q26
            have hw8_ : ∀ x : Int,wrap64 (x % 256) = x % 256 := fun x => by unfold wrap64; omega
            refine start_ (n := 15) (S := fun w' => w'.cell? ⟨gb242,0,none⟩ = some (.int .i64 x243000_2) ∧ w'.cell? ⟨gb242,1,none⟩ = some (.int .i64 x243001_2) ∧ w'.cell? ⟨gb242,2,none⟩ = some (.int .i64 x243002_2) ∧ w'.cell? ⟨gb242,3,none⟩ = some (.int .i64 x243003_2) ∧ w'.cell? ⟨gb242,4,none⟩ = some (.int .i64 x243004_2) ∧ w'.cell? ⟨gb242,5,none⟩ = some (.int .i64 x243005_2)) (ds := [14]) AR13_0 (by kernel_rfl) rfl rfl ⟨(blk_cell BK242.out 0).trans rfl,(blk_cell BK242.out 1).trans rfl,(blk_cell BK242.out 2).trans rfl,(blk_cell BK242.out 3).trans rfl,(blk_cell BK242.out 4).trans rfl,(blk_cell BK242.out 5).trans rfl⟩ (fun hHeld => ?_); refine with_tabW der_pairs.tab9 der_pairs.bits9 (fun HT_ HW_ => ?_)
            generalize wr.drew = w27 at BK241 BK242 HB hHeld ⊢
            refine pure_ (i := 0) (N := some 29) (v := ?_) (a' := ?_) AR13_1 rfl rfl (any_of HT_.out (by kernel_rfl)) (fun _ _ _ h => h) (Or.inl ⟨by rfl,?_⟩) ?_ ?_; rotate_left; (· intro w'; go_simp; with_reducible rfl); rotate_left; (· simp only [Act.put,LSET13_]; rfl)
            refine pure_ (i := 1) (N := some 30) (v := ?_) (a' := ?_) AR13_2 rfl rfl (any_of HT_.out (by kernel_rfl)) (fun _ _ _ h => h) (Or.inl ⟨by rfl,?_⟩) ?_ ?_; rotate_left; (· intro w'; go_simp; with_reducible rfl); rotate_left; (· simp only [Act.put,LSET13_]; rfl)
            refine pure_ (i := 2) (N := some 31) (v := ?_) (a' := ?_) AR13_3 rfl rfl (any_of HT_.out (by kernel_rfl)) (fun _ _ _ h => h) (Or.inl ⟨by rfl,?_⟩) ?_ ?_; rotate_left; (· intro w'; go_simp; with_reducible rfl); rotate_left; (· simp only [Act.put,LSET13_]; rfl)
            refine pure_ (i := 3) (N := some 32) (v := ?_) (a' := ?_) AR13_4 rfl rfl (any_of HT_.out (by kernel_rfl)) (fun _ _ _ h => h) (Or.inl ⟨by rfl,?_⟩) ?_ ?_; rotate_left; (· intro w'; go_simp; with_reducible rfl); rotate_left; (· simp only [Act.put,LSET13_]; rfl)
            refine pure_ (i := 4) (N := some 33) (v := ?_) (a' := ?_) AR13_5 rfl rfl (any_of HT_.out (by kernel_rfl)) (fun _ _ _ h => h) (Or.inl ⟨by rfl,?_⟩) ?_ ?_; rotate_left; (· intro w'; go_simp; with_reducible rfl); rotate_left; (· simp only [Act.put,LSET13_]; rfl)
            refine pure_ (i := 7) (N := some 36) (v := ?_) (a' := ?_) AR13_6 rfl rfl (any_of HT_.out (by kernel_rfl)) (fun _ _ _ h => h) (Or.inl ⟨by rfl,?_⟩) ?_ ?_; rotate_left; (· intro w'; go_simp; with_reducible rfl); rotate_left; (· simp only [Act.put,LSET13_]; rfl)
            refine pure_ (i := 8) (N := some 37) (v := ?_) (a' := ?_) AR13_7 rfl rfl (any_of HT_.out (by kernel_rfl)) (fun _ _ _ h => h) (Or.inl ⟨by rfl,?_⟩) ?_ ?_; rotate_left; (· intro w'; go_simp; with_reducible rfl); rotate_left; (· simp only [Act.put,LSET13_]; rfl)
            refine take_ (i := 5) (N := some 34) (v := ?_) (a' := ?_) AR13_8 rfl rfl (take_ofW HT_.out HW_.out (by kernel_rfl)) (fun _ _ _ h => h) (Or.inl ⟨by rfl,?_⟩) hHeld ?_ ?_; rotate_left; (· rintro w' ⟨s0,s1,s2,s3,s4,s5⟩; go_simp; with_reducible rfl); rotate_left; (· simp only [Act.put,LSET13_]; rfl)
            refine pure_ (i := 6) (N := some 35) (v := ?_) (a' := ?_) AR13_9 rfl rfl (any_of HT_.out (by kernel_rfl)) (fun _ _ _ h => h) (Or.inl ⟨by rfl,?_⟩) ?_ ?_; rotate_left; (· intro w'; go_simp; with_reducible rfl); rotate_left; (· simp only [Act.put,LSET13_]; rfl)
            refine take_ (i := 9) (N := some 38) (v := ?_) (a' := ?_) AR13_10 rfl rfl (take_ofW HT_.out HW_.out (by kernel_rfl)) (fun _ _ _ h => h) (Or.inl ⟨by rfl,?_⟩) hHeld ?_ ?_; rotate_left; (· rintro w' ⟨s0,s1,s2,s3,s4,s5⟩; go_simp; with_reducible rfl); rotate_left; (· simp only [Act.put,LSET13_]; rfl)
            refine pure_ (i := 10) (N := some 39) (v := ?_) (a' := ?_) AR13_11 rfl rfl (any_of HT_.out (by kernel_rfl)) (fun _ _ _ h => h) (Or.inl ⟨by rfl,?_⟩) ?_ ?_; rotate_left; (· intro w'; go_simp; with_reducible rfl); rotate_left; (· simp only [Act.put,LSET13_]; rfl)
            refine pure_ (i := 11) (N := some 40) (v := ?_) (a' := ?_) AR13_12 rfl rfl (any_of HT_.out (by kernel_rfl)) (fun _ _ _ h => h) (Or.inl ⟨by rfl,?_⟩) ?_ ?_; rotate_left; (· intro w'; go_simp; with_reducible rfl); rotate_left; (· simp only [Act.put,LSET13_]; rfl)
            refine pure_ (i := 12) (N := some 41) (v := ?_) (a' := ?_) AR13_13 rfl rfl (any_of HT_.out (by kernel_rfl)) (fun _ _ _ h => h) (Or.inl ⟨by rfl,?_⟩) ?_ ?_; rotate_left; (· intro w'; go_simp; with_reducible rfl); rotate_left; (· simp only [Act.put,LSET13_]; rfl)
            refine pure_ (i := 13) (N := some 42) (v := ?_) (a' := ?_) AR13_14 rfl rfl (any_of HT_.out (by kernel_rfl)) (fun _ _ _ h => h) (Or.inl ⟨by rfl,?_⟩) ?_ ?_; rotate_left; (· intro w'; go_simp; with_reducible rfl); rotate_left; (· simp only [Act.put,LSET13_]; rfl)
            refine last_ (i := 14) (N := none) AR13_15 rfl rfl (one_of HT_.out (by kernel_rfl)) (by decide) (fun K hK => ?_)
            have hs28 : w27.cell? ⟨gb242,0,none⟩ = some (.int .i64 x243000_2) := (blk_cell BK242.out 0).trans rfl
            have hfs28 := blk_frozen BK242.out 0
            have hns28_0 := NB241_242.out
            have hms28_0 := NB242_241.out
            refine skip_ (w1 := ?_) (by rfl) rfl ?_ ?_
            rotate_left
            ·go_simp
             rfl
            refine hK.out _ _ ?_
            clear hK K
            refine done_ (done_of HT_.out (by kernel_rfl)) ?_
            try go_wp2
            go_roundg k2
            case measure => have := HJ1.out; have := HK2.out; omega
            case rel => exact ⟨(wrap64 (x15_2 + 1)),(x242000_2),(x242001_2),(x242002_2),(x242003_2),(x242004_2),(x242005_2),(wrap64 ((wrap64 (x243000_2 * 10)) + (((bt a0 x15_2) - 48) % 256))),(x243001_2),(x243002_2),(x243003_2),(x243004_2),(x243005_2),(by first | rfl | (simp; done) | (simp [*]; done)),H',⟨by have := HJ1.out; have := HK2.out; omega⟩,⟨by (with_reducible repeat (first | refine blk_drewN ?_ _ | refine blk_drew ?_ | refine blk_alloc ?_ _)); refine blk_far ?_ NB241_242.out _; (with_reducible repeat (first | refine blk_drewN ?_ _ | refine blk_drew ?_ | refine blk_alloc ?_ _)); exact BK241.out⟩,⟨by (with_reducible repeat (first | refine blk_drewN ?_ _ | refine blk_drew ?_ | refine blk_alloc ?_ _)); refine blk_put (cs := #[.int .i64 x243000_2,.int .i64 x243001_2,.int .i64 x243002_2,.int .i64 x243003_2,.int .i64 x243004_2,.int .i64 x243005_2]) ?_ 0 _ (by first | rfl | (rw [hw8_]; rfl) | (simp [hw8_]; done)); (with_reducible repeat (first | refine blk_drewN ?_ _ | refine blk_drew ?_ | refine blk_alloc ?_ _)); exact BK242.out⟩,⟨by repeat (first | (with_reducible first | exact HB.out | apply below_alloc | apply pw_below_drewN | apply below_drew1 | refine below_set ?_ GE241.out | refine below_set ?_ GE242.out) | exact HB.out)⟩⟩
           ·rw [if_neg c25] at H
            have c25b0 : ((wrap64 (Int.tdiv x15_2 2)) == 0) = false := beq_eq_false_iff_ne.mpr c25
            have c25b1 : ((wrap64 (Int.tdiv x15_2 2)) != 0) = true := bne_iff_ne.mpr c25
            by_cases c29 : (wrap64 (Int.tdiv x15_2 2)) = 1
            ·rw [if_pos c29] at H
             have c29b0 : ((wrap64 (Int.tdiv x15_2 2)) == 1) = true := beq_iff_eq.mpr c29
             have c29b1 : ((wrap64 (Int.tdiv x15_2 2)) != 1) = false := bne_eq_false_iff_eq.mpr c29
             have H' := Aside0.mk H
             clear H
             have p15 : 0 ≤ (x15_2 : Int) := of_decide_eq_true (by first | (with_reducible assumption) | assumption)
             have q15 : x15_2 < (a0.size : Int) := of_decide_eq_true (by first | (with_reducible assumption) | assumption)
             have hx15 := bt_at a0 x15_2
             replace p15 := eq_true p15
             replace q15 := eq_true q15
             have p20 : 0 ≤ (x15_2 : Int) := of_decide_eq_true (by first | (with_reducible assumption) | assumption)
             have q20 : x15_2 < (a0.size : Int) := of_decide_eq_true (by first | (with_reducible assumption) | assumption)
             have hx20 := bt_at a0 x15_2
             replace p20 := eq_true p20
             replace q20 := eq_true q20
             try go_wp2
             have n0_ := Aside0.mk (blk_drew BK241.out)
             have n1_ := Aside0.mk (blk_drew BK242.out)
             have n2_ := Aside0.mk (below_drew1 HB.out)
             clear BK241
             clear BK242
             clear HB
             have BK241 := n0_
             have BK242 := n1_
             have HB := n2_
             clear n0_ n1_ n2_
             have p30 : 0 ≤ (x15_2 : Int) := of_decide_eq_true (by first | (with_reducible assumption) | assumption)
             have q30 : x15_2 < (a0.size : Int) := of_decide_eq_true (by first | (with_reducible assumption) | assumption)
             have hx30 := bt_at a0 x15_2
             replace p30 := eq_true p30
             replace q30 := eq_true q30
             have hw8_ : ∀ x : Int,wrap64 (x % 256) = x % 256 := fun x => by unfold wrap64; omega
             refine start_ (n := 15) (S := fun w' => w'.cell? ⟨gb242,0,none⟩ = some (.int .i64 x243000_2) ∧ w'.cell? ⟨gb242,1,none⟩ = some (.int .i64 x243001_2) ∧ w'.cell? ⟨gb242,2,none⟩ = some (.int .i64 x243002_2) ∧ w'.cell? ⟨gb242,3,none⟩ = some (.int .i64 x243003_2) ∧ w'.cell? ⟨gb242,4,none⟩ = some (.int .i64 x243004_2) ∧ w'.cell? ⟨gb242,5,none⟩ = some (.int .i64 x243005_2)) (ds := [14]) AR13_0 (by kernel_rfl) rfl rfl ⟨(blk_cell BK242.out 0).trans rfl,(blk_cell BK242.out 1).trans rfl,(blk_cell BK242.out 2).trans rfl,(blk_cell BK242.out 3).trans rfl,(blk_cell BK242.out 4).trans rfl,(blk_cell BK242.out 5).trans rfl⟩ (fun hHeld => ?_); refine with_tabW der_pairs.tab9 der_pairs.bits9 (fun HT_ HW_ => ?_)
             generalize wr.drew = w31 at BK241 BK242 HB hHeld ⊢
             refine pure_ (i := 0) (N := some 29) (v := ?_) (a' := ?_) AR13_1 rfl rfl (any_of HT_.out (by kernel_rfl)) (fun _ _ _ h => h) (Or.inl ⟨by rfl,?_⟩) ?_ ?_; rotate_left; (· intro w'; go_simp; with_reducible rfl); rotate_left; (· simp only [Act.put,LSET13_]; rfl)
             refine pure_ (i := 1) (N := some 30) (v := ?_) (a' := ?_) AR13_2 rfl rfl (any_of HT_.out (by kernel_rfl)) (fun _ _ _ h => h) (Or.inl ⟨by rfl,?_⟩) ?_ ?_; rotate_left; (· intro w'; go_simp; with_reducible rfl); rotate_left; (· simp only [Act.put,LSET13_]; rfl)
             refine pure_ (i := 2) (N := some 31) (v := ?_) (a' := ?_) AR13_3 rfl rfl (any_of HT_.out (by kernel_rfl)) (fun _ _ _ h => h) (Or.inl ⟨by rfl,?_⟩) ?_ ?_; rotate_left; (· intro w'; go_simp; with_reducible rfl); rotate_left; (· simp only [Act.put,LSET13_]; rfl)
             refine pure_ (i := 3) (N := some 32) (v := ?_) (a' := ?_) AR13_4 rfl rfl (any_of HT_.out (by kernel_rfl)) (fun _ _ _ h => h) (Or.inl ⟨by rfl,?_⟩) ?_ ?_; rotate_left; (· intro w'; go_simp; with_reducible rfl); rotate_left; (· simp only [Act.put,LSET13_]; rfl)
             refine pure_ (i := 4) (N := some 33) (v := ?_) (a' := ?_) AR13_5 rfl rfl (any_of HT_.out (by kernel_rfl)) (fun _ _ _ h => h) (Or.inl ⟨by rfl,?_⟩) ?_ ?_; rotate_left; (· intro w'; go_simp; with_reducible rfl); rotate_left; (· simp only [Act.put,LSET13_]; rfl)
             refine pure_ (i := 7) (N := some 36) (v := ?_) (a' := ?_) AR13_6 rfl rfl (any_of HT_.out (by kernel_rfl)) (fun _ _ _ h => h) (Or.inl ⟨by rfl,?_⟩) ?_ ?_; rotate_left; (· intro w'; go_simp; with_reducible rfl); rotate_left; (· simp only [Act.put,LSET13_]; rfl)
             refine pure_ (i := 8) (N := some 37) (v := ?_) (a' := ?_) AR13_7 rfl rfl (any_of HT_.out (by kernel_rfl)) (fun _ _ _ h => h) (Or.inl ⟨by rfl,?_⟩) ?_ ?_; rotate_left; (· intro w'; go_simp; with_reducible rfl); rotate_left; (· simp only [Act.put,LSET13_]; rfl)
             refine take_ (i := 5) (N := some 34) (v := ?_) (a' := ?_) AR13_8 rfl rfl (take_ofW HT_.out HW_.out (by kernel_rfl)) (fun _ _ _ h => h) (Or.inl ⟨by rfl,?_⟩) hHeld ?_ ?_; rotate_left; (· rintro w' ⟨s0,s1,s2,s3,s4,s5⟩; go_simp; with_reducible rfl); rotate_left; (· simp only [Act.put,LSET13_]; rfl)
             refine pure_ (i := 6) (N := some 35) (v := ?_) (a' := ?_) AR13_9 rfl rfl (any_of HT_.out (by kernel_rfl)) (fun _ _ _ h => h) (Or.inl ⟨by rfl,?_⟩) ?_ ?_; rotate_left; (· intro w'; go_simp; with_reducible rfl); rotate_left; (· simp only [Act.put,LSET13_]; rfl)
             refine take_ (i := 9) (N := some 38) (v := ?_) (a' := ?_) AR13_10 rfl rfl (take_ofW HT_.out HW_.out (by kernel_rfl)) (fun _ _ _ h => h) (Or.inl ⟨by rfl,?_⟩) hHeld ?_ ?_; rotate_left; (· rintro w' ⟨s0,s1,s2,s3,s4,s5⟩; go_simp; with_reducible rfl); rotate_left; (· simp only [Act.put,LSET13_]; rfl)
             refine pure_ (i := 10) (N := some 39) (v := ?_) (a' := ?_) AR13_11 rfl rfl (any_of HT_.out (by kernel_rfl)) (fun _ _ _ h => h) (Or.inl ⟨by rfl,?_⟩) ?_ ?_; rotate_left; (· intro w'; go_simp; with_reducible rfl); rotate_left; (· simp only [Act.put,LSET13_]; rfl)
             refine pure_ (i := 11) (N := some 40) (v := ?_) (a' := ?_) AR13_12 rfl rfl (any_of HT_.out (by kernel_rfl)) (fun _ _ _ h => h) (Or.inl ⟨by rfl,?_⟩) ?_ ?_; rotate_left; (· intro w'; go_simp; with_reducible rfl); rotate_left; (· simp only [Act.put,LSET13_]; rfl)
             refine pure_ (i := 12) (N := some 41) (v := ?_) (a' := ?_) AR13_13 rfl rfl (any_of HT_.out (by kernel_rfl)) (fun _ _ _ h => h) (Or.inl ⟨by rfl,?_⟩) ?_ ?_; rotate_left; (· intro w'; go_simp; with_reducible rfl); rotate_left; (· simp only [Act.put,LSET13_]; rfl)
             refine pure_ (i := 13) (N := some 42) (v := ?_) (a' := ?_) AR13_14 rfl rfl (any_of HT_.out (by kernel_rfl)) (fun _ _ _ h => h) (Or.inl ⟨by rfl,?_⟩) ?_ ?_; rotate_left; (· intro w'; go_simp; with_reducible rfl); rotate_left; (· simp only [Act.put,LSET13_]; rfl)
             refine last_ (i := 14) (N := none) AR13_15 rfl rfl (one_of HT_.out (by kernel_rfl)) (by decide) (fun K hK => ?_)
             have hs32 : w31.cell? ⟨gb242,1,none⟩ = some (.int .i64 x243001_2) := (blk_cell BK242.out 1).trans rfl
             have hfs32 := blk_frozen BK242.out 1
             have hns32_0 := NB241_242.out
             have hms32_0 := NB242_241.out
             refine skip_ (w1 := ?_) (by rfl) rfl ?_ ?_
             rotate_left
             ·go_simp
              rfl
             refine hK.out _ _ ?_
             clear hK K
             refine done_ (done_of HT_.out (by kernel_rfl)) ?_
             try go_wp2
             go_roundg k2
             case measure => have := HJ1.out; have := HK2.out; omega
             case rel => exact ⟨(wrap64 (x15_2 + 1)),(x242000_2),(x242001_2),(x242002_2),(x242003_2),(x242004_2),(x242005_2),(x243000_2),(wrap64 ((wrap64 (x243001_2 * 10)) + (((bt a0 x15_2) - 48) % 256))),(x243002_2),(x243003_2),(x243004_2),(x243005_2),(by first | rfl | (simp; done) | (simp [*]; done)),H',⟨by have := HJ1.out; have := HK2.out; omega⟩,⟨by (with_reducible repeat (first | refine blk_drewN ?_ _ | refine blk_drew ?_ | refine blk_alloc ?_ _)); refine blk_far ?_ NB241_242.out _; (with_reducible repeat (first | refine blk_drewN ?_ _ | refine blk_drew ?_ | refine blk_alloc ?_ _)); exact BK241.out⟩,⟨by (with_reducible repeat (first | refine blk_drewN ?_ _ | refine blk_drew ?_ | refine blk_alloc ?_ _)); refine blk_put (cs := #[.int .i64 x243000_2,.int .i64 x243001_2,.int .i64 x243002_2,.int .i64 x243003_2,.int .i64 x243004_2,.int .i64 x243005_2]) ?_ 1 _ (by first | rfl | (rw [hw8_]; rfl) | (simp [hw8_]; done)); (with_reducible repeat (first | refine blk_drewN ?_ _ | refine blk_drew ?_ | refine blk_alloc ?_ _)); exact BK242.out⟩,⟨by repeat (first | (with_reducible first | exact HB.out | apply below_alloc | apply pw_below_drewN | apply below_drew1 | refine below_set ?_ GE241.out | refine below_set ?_ GE242.out) | exact HB.out)⟩⟩
            ·rw [if_neg c29] at H
             have c29b0 : ((wrap64 (Int.tdiv x15_2 2)) == 1) = false := beq_eq_false_iff_ne.mpr c29
             have c29b1 : ((wrap64 (Int.tdiv x15_2 2)) != 1) = true := bne_iff_ne.mpr c29
             by_cases c33 : (wrap64 (Int.tdiv x15_2 2)) = 2
             ·rw [if_pos c33] at H
              have c33b0 : ((wrap64 (Int.tdiv x15_2 2)) == 2) = true := beq_iff_eq.mpr c33
              have c33b1 : ((wrap64 (Int.tdiv x15_2 2)) != 2) = false := bne_eq_false_iff_eq.mpr c33
              have H' := Aside0.mk H
              clear H
              have p15 : 0 ≤ (x15_2 : Int) := of_decide_eq_true (by first | (with_reducible assumption) | assumption)
              have q15 : x15_2 < (a0.size : Int) := of_decide_eq_true (by first | (with_reducible assumption) | assumption)
              have hx15 := bt_at a0 x15_2
              replace p15 := eq_true p15
              replace q15 := eq_true q15
              have p20 : 0 ≤ (x15_2 : Int) := of_decide_eq_true (by first | (with_reducible assumption) | assumption)
              have q20 : x15_2 < (a0.size : Int) := of_decide_eq_true (by first | (with_reducible assumption) | assumption)
              have hx20 := bt_at a0 x15_2
              replace p20 := eq_true p20
              replace q20 := eq_true q20
              try go_wp2
              have n0_ := Aside0.mk (blk_drew BK241.out)
              have n1_ := Aside0.mk (blk_drew BK242.out)
              have n2_ := Aside0.mk (below_drew1 HB.out)
              clear BK241
              clear BK242
              clear HB
              have BK241 := n0_
              have BK242 := n1_
              have HB := n2_
              clear n0_ n1_ n2_
              have p34 : 0 ≤ (x15_2 : Int) := of_decide_eq_true (by first | (with_reducible assumption) | assumption)
              have q34 : x15_2 < (a0.size : Int) := of_decide_eq_true (by first | (with_reducible assumption) | assumption)
              have hx34 := bt_at a0 x15_2
              replace p34 := eq_true p34
              replace q34 := eq_true q34
              have hw8_ : ∀ x : Int,wrap64 (x % 256) = x % 256 := fun x => by unfold wrap64; omega
              refine start_ (n := 15) (S := fun w' => w'.cell? ⟨gb242,0,none⟩ = some (.int .i64 x243000_2) ∧ w'.cell? ⟨gb242,1,none⟩ = some (.int .i64 x243001_2) ∧ w'.cell? ⟨gb242,2,none⟩ = some (.int .i64 x243002_2) ∧ w'.cell? ⟨gb242,3,none⟩ = some (.int .i64 x243003_2) ∧ w'.cell? ⟨gb242,4,none⟩ = some (.int .i64 x243004_2) ∧ w'.cell? ⟨gb242,5,none⟩ = some (.int .i64 x243005_2)) (ds := [14]) AR13_0 (by kernel_rfl) rfl rfl ⟨(blk_cell BK242.out 0).trans rfl,(blk_cell BK242.out 1).trans rfl,(blk_cell BK242.out 2).trans rfl,(blk_cell BK242.out 3).trans rfl,(blk_cell BK242.out 4).trans rfl,(blk_cell BK242.out 5).trans rfl⟩ (fun hHeld => ?_); refine with_tabW der_pairs.tab9 der_pairs.bits9 (fun HT_ HW_ => ?_)
              generalize wr.drew = w35 at BK241 BK242 HB hHeld ⊢
              refine pure_ (i := 0) (N := some 29) (v := ?_) (a' := ?_) AR13_1 rfl rfl (any_of HT_.out (by kernel_rfl)) (fun _ _ _ h => h) (Or.inl ⟨by rfl,?_⟩) ?_ ?_; rotate_left; (· intro w'; go_simp; with_reducible rfl); rotate_left; (· simp only [Act.put,LSET13_]; rfl)
              refine pure_ (i := 1) (N := some 30) (v := ?_) (a' := ?_) AR13_2 rfl rfl (any_of HT_.out (by kernel_rfl)) (fun _ _ _ h => h) (Or.inl ⟨by rfl,?_⟩) ?_ ?_; rotate_left; (· intro w'; go_simp; with_reducible rfl); rotate_left; (· simp only [Act.put,LSET13_]; rfl)
              refine pure_ (i := 2) (N := some 31) (v := ?_) (a' := ?_) AR13_3 rfl rfl (any_of HT_.out (by kernel_rfl)) (fun _ _ _ h => h) (Or.inl ⟨by rfl,?_⟩) ?_ ?_; rotate_left; (· intro w'; go_simp; with_reducible rfl); rotate_left; (· simp only [Act.put,LSET13_]; rfl)
              refine pure_ (i := 3) (N := some 32) (v := ?_) (a' := ?_) AR13_4 rfl rfl (any_of HT_.out (by kernel_rfl)) (fun _ _ _ h => h) (Or.inl ⟨by rfl,?_⟩) ?_ ?_; rotate_left; (· intro w'; go_simp; with_reducible rfl); rotate_left; (· simp only [Act.put,LSET13_]; rfl)
              refine pure_ (i := 4) (N := some 33) (v := ?_) (a' := ?_) AR13_5 rfl rfl (any_of HT_.out (by kernel_rfl)) (fun _ _ _ h => h) (Or.inl ⟨by rfl,?_⟩) ?_ ?_; rotate_left; (· intro w'; go_simp; with_reducible rfl); rotate_left; (· simp only [Act.put,LSET13_]; rfl)
              refine pure_ (i := 7) (N := some 36) (v := ?_) (a' := ?_) AR13_6 rfl rfl (any_of HT_.out (by kernel_rfl)) (fun _ _ _ h => h) (Or.inl ⟨by rfl,?_⟩) ?_ ?_; rotate_left; (· intro w'; go_simp; with_reducible rfl); rotate_left; (· simp only [Act.put,LSET13_]; rfl)
              refine pure_ (i := 8) (N := some 37) (v := ?_) (a' := ?_) AR13_7 rfl rfl (any_of HT_.out (by kernel_rfl)) (fun _ _ _ h => h) (Or.inl ⟨by rfl,?_⟩) ?_ ?_; rotate_left; (· intro w'; go_simp; with_reducible rfl); rotate_left; (· simp only [Act.put,LSET13_]; rfl)
              refine take_ (i := 5) (N := some 34) (v := ?_) (a' := ?_) AR13_8 rfl rfl (take_ofW HT_.out HW_.out (by kernel_rfl)) (fun _ _ _ h => h) (Or.inl ⟨by rfl,?_⟩) hHeld ?_ ?_; rotate_left; (· rintro w' ⟨s0,s1,s2,s3,s4,s5⟩; go_simp; with_reducible rfl); rotate_left; (· simp only [Act.put,LSET13_]; rfl)
              refine pure_ (i := 6) (N := some 35) (v := ?_) (a' := ?_) AR13_9 rfl rfl (any_of HT_.out (by kernel_rfl)) (fun _ _ _ h => h) (Or.inl ⟨by rfl,?_⟩) ?_ ?_; rotate_left; (· intro w'; go_simp; with_reducible rfl); rotate_left; (· simp only [Act.put,LSET13_]; rfl)
              refine take_ (i := 9) (N := some 38) (v := ?_) (a' := ?_) AR13_10 rfl rfl (take_ofW HT_.out HW_.out (by kernel_rfl)) (fun _ _ _ h => h) (Or.inl ⟨by rfl,?_⟩) hHeld ?_ ?_; rotate_left; (· rintro w' ⟨s0,s1,s2,s3,s4,s5⟩; go_simp; with_reducible rfl); rotate_left; (· simp only [Act.put,LSET13_]; rfl)
              refine pure_ (i := 10) (N := some 39) (v := ?_) (a' := ?_) AR13_11 rfl rfl (any_of HT_.out (by kernel_rfl)) (fun _ _ _ h => h) (Or.inl ⟨by rfl,?_⟩) ?_ ?_; rotate_left; (· intro w'; go_simp; with_reducible rfl); rotate_left; (· simp only [Act.put,LSET13_]; rfl)
              refine pure_ (i := 11) (N := some 40) (v := ?_) (a' := ?_) AR13_12 rfl rfl (any_of HT_.out (by kernel_rfl)) (fun _ _ _ h => h) (Or.inl ⟨by rfl,?_⟩) ?_ ?_; rotate_left; (· intro w'; go_simp; with_reducible rfl); rotate_left; (· simp only [Act.put,LSET13_]; rfl)
              refine pure_ (i := 12) (N := some 41) (v := ?_) (a' := ?_) AR13_13 rfl rfl (any_of HT_.out (by kernel_rfl)) (fun _ _ _ h => h) (Or.inl ⟨by rfl,?_⟩) ?_ ?_; rotate_left; (· intro w'; go_simp; with_reducible rfl); rotate_left; (· simp only [Act.put,LSET13_]; rfl)
              refine pure_ (i := 13) (N := some 42) (v := ?_) (a' := ?_) AR13_14 rfl rfl (any_of HT_.out (by kernel_rfl)) (fun _ _ _ h => h) (Or.inl ⟨by rfl,?_⟩) ?_ ?_; rotate_left; (· intro w'; go_simp; with_reducible rfl); rotate_left; (· simp only [Act.put,LSET13_]; rfl)
              refine last_ (i := 14) (N := none) AR13_15 rfl rfl (one_of HT_.out (by kernel_rfl)) (by decide) (fun K hK => ?_)
              have hs36 : w35.cell? ⟨gb242,2,none⟩ = some (.int .i64 x243002_2) := (blk_cell BK242.out 2).trans rfl
              have hfs36 := blk_frozen BK242.out 2
              have hns36_0 := NB241_242.out
              have hms36_0 := NB242_241.out
              refine skip_ (w1 := ?_) (by rfl) rfl ?_ ?_
              rotate_left
              ·go_simp
               rfl
              refine hK.out _ _ ?_
              clear hK K
              refine done_ (done_of HT_.out (by kernel_rfl)) ?_
              try go_wp2
              go_roundg k2
              case measure => have := HJ1.out; have := HK2.out; omega
              case rel => exact ⟨(wrap64 (x15_2 + 1)),(x242000_2),(x242001_2),(x242002_2),(x242003_2),(x242004_2),(x242005_2),(x243000_2),(x243001_2),(wrap64 ((wrap64 (x243002_2 * 10)) + (((bt a0 x15_2) - 48) % 256))),(x243003_2),(x243004_2),(x243005_2),(by first | rfl | (simp; done) | (simp [*]; done)),H',⟨by have := HJ1.out; have := HK2.out; omega⟩,⟨by (with_reducible repeat (first | refine blk_drewN ?_ _ | refine blk_drew ?_ | refine blk_alloc ?_ _)); refine blk_far ?_ NB241_242.out _; (with_reducible repeat (first | refine blk_drewN ?_ _ | refine blk_drew ?_ | refine blk_alloc ?_ _)); exact BK241.out⟩,⟨by (with_reducible repeat (first | refine blk_drewN ?_ _ | refine blk_drew ?_ | refine blk_alloc ?_ _)); refine blk_put (cs := #[.int .i64 x243000_2,.int .i64 x243001_2,.int .i64 x243002_2,.int .i64 x243003_2,.int .i64 x243004_2,.int .i64 x243005_2]) ?_ 2 _ (by first | rfl | (rw [hw8_]; rfl) | (simp [hw8_]; done)); (with_reducible repeat (first | refine blk_drewN ?_ _ | refine blk_drew ?_ | refine blk_alloc ?_ _)); exact BK242.out⟩,⟨by repeat (first | (with_reducible first | exact HB.out | apply below_alloc | apply pw_below_drewN | apply below_drew1 | refine below_set ?_ GE241.out | refine below_set ?_ GE242.out) | exact HB.out)⟩⟩
             ·rw [if_neg c33] at H
              have c33b0 : ((wrap64 (Int.tdiv x15_2 2)) == 2) = false := beq_eq_false_iff_ne.mpr c33
              have c33b1 : ((wrap64 (Int.tdiv x15_2 2)) != 2) = true := bne_iff_ne.mpr c33
              by_cases c37 : (wrap64 (Int.tdiv x15_2 2)) = 3
              ·rw [if_pos c37] at H
               have c37b0 : ((wrap64 (Int.tdiv x15_2 2)) == 3) = true := beq_iff_eq.mpr c37
               have c37b1 : ((wrap64 (Int.tdiv x15_2 2)) != 3) = false := bne_eq_false_iff_eq.mpr c37
               have H' := Aside0.mk H
               clear H
               have p15 : 0 ≤ (x15_2 : Int) := of_decide_eq_true (by first | (with_reducible assumption) | assumption)
               have q15 : x15_2 < (a0.size : Int) := of_decide_eq_true (by first | (with_reducible assumption) | assumption)
               have hx15 := bt_at a0 x15_2
               replace p15 := eq_true p15
               replace q15 := eq_true q15
               have p20 : 0 ≤ (x15_2 : Int) := of_decide_eq_true (by first | (with_reducible assumption) | assumption)
               have q20 : x15_2 < (a0.size : Int) := of_decide_eq_true (by first | (with_reducible assumption) | assumption)
               have hx20 := bt_at a0 x15_2
               replace p20 := eq_true p20
               replace q20 := eq_true q20
               try go_wp2
               have n0_ := Aside0.mk (blk_drew BK241.out)
               have n1_ := Aside0.mk (blk_drew BK242.out)
               have n2_ := Aside0.mk (below_drew1 HB.out)
               clear BK241
               clear BK242
               clear HB
               have BK241 := n0_
               have BK242 := n1_
               have HB := n2_
               clear n0_ n1_ n2_
               have p38 : 0 ≤ (x15_2 : Int) := of_decide_eq_true (by first | (with_reducible assumption) | assumption)
               have q38 : x15_2 < (a0.size : Int) := of_decide_eq_true (by first | (with_reducible assumption) | assumption)
               have hx38 := bt_at a0 x15_2
               replace p38 := eq_true p38
               replace q38 := eq_true q38
               have hw8_ : ∀ x : Int,wrap64 (x % 256) = x % 256 := fun x => by unfold wrap64; omega
               refine start_ (n := 15) (S := fun w' => w'.cell? ⟨gb242,0,none⟩ = some (.int .i64 x243000_2) ∧ w'.cell? ⟨gb242,1,none⟩ = some (.int .i64 x243001_2) ∧ w'.cell? ⟨gb242,2,none⟩ = some (.int .i64 x243002_2) ∧ w'.cell? ⟨gb242,3,none⟩ = some (.int .i64 x243003_2) ∧ w'.cell? ⟨gb242,4,none⟩ = some (.int .i64 x243004_2) ∧ w'.cell? ⟨gb242,5,none⟩ = some (.int .i64 x243005_2)) (ds := [14]) AR13_0 (by kernel_rfl) rfl rfl ⟨(blk_cell BK242.out 0).trans rfl,(blk_cell BK242.out 1).trans rfl,(blk_cell BK242.out 2).trans rfl,(blk_cell BK242.out 3).trans rfl,(blk_cell BK242.out 4).trans rfl,(blk_cell BK242.out 5).trans rfl⟩ (fun hHeld => ?_); refine with_tabW der_pairs.tab9 der_pairs.bits9 (fun HT_ HW_ => ?_)
               generalize wr.drew = w39 at BK241 BK242 HB hHeld ⊢
               refine pure_ (i := 0) (N := some 29) (v := ?_) (a' := ?_) AR13_1 rfl rfl (any_of HT_.out (by kernel_rfl)) (fun _ _ _ h => h) (Or.inl ⟨by rfl,?_⟩) ?_ ?_; rotate_left; (· intro w'; go_simp; with_reducible rfl); rotate_left; (· simp only [Act.put,LSET13_]; rfl)
               refine pure_ (i := 1) (N := some 30) (v := ?_) (a' := ?_) AR13_2 rfl rfl (any_of HT_.out (by kernel_rfl)) (fun _ _ _ h => h) (Or.inl ⟨by rfl,?_⟩) ?_ ?_; rotate_left; (· intro w'; go_simp; with_reducible rfl); rotate_left; (· simp only [Act.put,LSET13_]; rfl)
               refine pure_ (i := 2) (N := some 31) (v := ?_) (a' := ?_) AR13_3 rfl rfl (any_of HT_.out (by kernel_rfl)) (fun _ _ _ h => h) (Or.inl ⟨by rfl,?_⟩) ?_ ?_; rotate_left; (· intro w'; go_simp; with_reducible rfl); rotate_left; (· simp only [Act.put,LSET13_]; rfl)
               refine pure_ (i := 3) (N := some 32) (v := ?_) (a' := ?_) AR13_4 rfl rfl (any_of HT_.out (by kernel_rfl)) (fun _ _ _ h => h) (Or.inl ⟨by rfl,?_⟩) ?_ ?_; rotate_left; (· intro w'; go_simp; with_reducible rfl); rotate_left; (· simp only [Act.put,LSET13_]; rfl)
               refine pure_ (i := 4) (N := some 33) (v := ?_) (a' := ?_) AR13_5 rfl rfl (any_of HT_.out (by kernel_rfl)) (fun _ _ _ h => h) (Or.inl ⟨by rfl,?_⟩) ?_ ?_; rotate_left; (· intro w'; go_simp; with_reducible rfl); rotate_left; (· simp only [Act.put,LSET13_]; rfl)
               refine pure_ (i := 7) (N := some 36) (v := ?_) (a' := ?_) AR13_6 rfl rfl (any_of HT_.out (by kernel_rfl)) (fun _ _ _ h => h) (Or.inl ⟨by rfl,?_⟩) ?_ ?_; rotate_left; (· intro w'; go_simp; with_reducible rfl); rotate_left; (· simp only [Act.put,LSET13_]; rfl)
               refine pure_ (i := 8) (N := some 37) (v := ?_) (a' := ?_) AR13_7 rfl rfl (any_of HT_.out (by kernel_rfl)) (fun _ _ _ h => h) (Or.inl ⟨by rfl,?_⟩) ?_ ?_; rotate_left; (· intro w'; go_simp; with_reducible rfl); rotate_left; (· simp only [Act.put,LSET13_]; rfl)
               refine take_ (i := 5) (N := some 34) (v := ?_) (a' := ?_) AR13_8 rfl rfl (take_ofW HT_.out HW_.out (by kernel_rfl)) (fun _ _ _ h => h) (Or.inl ⟨by rfl,?_⟩) hHeld ?_ ?_; rotate_left; (· rintro w' ⟨s0,s1,s2,s3,s4,s5⟩; go_simp; with_reducible rfl); rotate_left; (· simp only [Act.put,LSET13_]; rfl)
               refine pure_ (i := 6) (N := some 35) (v := ?_) (a' := ?_) AR13_9 rfl rfl (any_of HT_.out (by kernel_rfl)) (fun _ _ _ h => h) (Or.inl ⟨by rfl,?_⟩) ?_ ?_; rotate_left; (· intro w'; go_simp; with_reducible rfl); rotate_left; (· simp only [Act.put,LSET13_]; rfl)
               refine take_ (i := 9) (N := some 38) (v := ?_) (a' := ?_) AR13_10 rfl rfl (take_ofW HT_.out HW_.out (by kernel_rfl)) (fun _ _ _ h => h) (Or.inl ⟨by rfl,?_⟩) hHeld ?_ ?_; rotate_left; (· rintro w' ⟨s0,s1,s2,s3,s4,s5⟩; go_simp; with_reducible rfl); rotate_left; (· simp only [Act.put,LSET13_]; rfl)
               refine pure_ (i := 10) (N := some 39) (v := ?_) (a' := ?_) AR13_11 rfl rfl (any_of HT_.out (by kernel_rfl)) (fun _ _ _ h => h) (Or.inl ⟨by rfl,?_⟩) ?_ ?_; rotate_left; (· intro w'; go_simp; with_reducible rfl); rotate_left; (· simp only [Act.put,LSET13_]; rfl)
               refine pure_ (i := 11) (N := some 40) (v := ?_) (a' := ?_) AR13_12 rfl rfl (any_of HT_.out (by kernel_rfl)) (fun _ _ _ h => h) (Or.inl ⟨by rfl,?_⟩) ?_ ?_; rotate_left; (· intro w'; go_simp; with_reducible rfl); rotate_left; (· simp only [Act.put,LSET13_]; rfl)
               refine pure_ (i := 12) (N := some 41) (v := ?_) (a' := ?_) AR13_13 rfl rfl (any_of HT_.out (by kernel_rfl)) (fun _ _ _ h => h) (Or.inl ⟨by rfl,?_⟩) ?_ ?_; rotate_left; (· intro w'; go_simp; with_reducible rfl); rotate_left; (· simp only [Act.put,LSET13_]; rfl)
               refine pure_ (i := 13) (N := some 42) (v := ?_) (a' := ?_) AR13_14 rfl rfl (any_of HT_.out (by kernel_rfl)) (fun _ _ _ h => h) (Or.inl ⟨by rfl,?_⟩) ?_ ?_; rotate_left; (· intro w'; go_simp; with_reducible rfl); rotate_left; (· simp only [Act.put,LSET13_]; rfl)
               refine last_ (i := 14) (N := none) AR13_15 rfl rfl (one_of HT_.out (by kernel_rfl)) (by decide) (fun K hK => ?_)
               have hs40 : w39.cell? ⟨gb242,3,none⟩ = some (.int .i64 x243003_2) := (blk_cell BK242.out 3).trans rfl
               have hfs40 := blk_frozen BK242.out 3
               have hns40_0 := NB241_242.out
               have hms40_0 := NB242_241.out
               refine skip_ (w1 := ?_) (by rfl) rfl ?_ ?_
               rotate_left
               ·go_simp
                rfl
               refine hK.out _ _ ?_
               clear hK K
               refine done_ (done_of HT_.out (by kernel_rfl)) ?_
               try go_wp2
               go_roundg k2
               case measure => have := HJ1.out; have := HK2.out; omega
               case rel => exact ⟨(wrap64 (x15_2 + 1)),(x242000_2),(x242001_2),(x242002_2),(x242003_2),(x242004_2),(x242005_2),(x243000_2),(x243001_2),(x243002_2),(wrap64 ((wrap64 (x243003_2 * 10)) + (((bt a0 x15_2) - 48) % 256))),(x243004_2),(x243005_2),(by first | rfl | (simp; done) | (simp [*]; done)),H',⟨by have := HJ1.out; have := HK2.out; omega⟩,⟨by (with_reducible repeat (first | refine blk_drewN ?_ _ | refine blk_drew ?_ | refine blk_alloc ?_ _)); refine blk_far ?_ NB241_242.out _; (with_reducible repeat (first | refine blk_drewN ?_ _ | refine blk_drew ?_ | refine blk_alloc ?_ _)); exact BK241.out⟩,⟨by (with_reducible repeat (first | refine blk_drewN ?_ _ | refine blk_drew ?_ | refine blk_alloc ?_ _)); refine blk_put (cs := #[.int .i64 x243000_2,.int .i64 x243001_2,.int .i64 x243002_2,.int .i64 x243003_2,.int .i64 x243004_2,.int .i64 x243005_2]) ?_ 3 _ (by first | rfl | (rw [hw8_]; rfl) | (simp [hw8_]; done)); (with_reducible repeat (first | refine blk_drewN ?_ _ | refine blk_drew ?_ | refine blk_alloc ?_ _)); exact BK242.out⟩,⟨by repeat (first | (with_reducible first | exact HB.out | apply below_alloc | apply pw_below_drewN | apply below_drew1 | refine below_set ?_ GE241.out | refine below_set ?_ GE242.out) | exact HB.out)⟩⟩
              ·rw [if_neg c37] at H
               have c37b0 : ((wrap64 (Int.tdiv x15_2 2)) == 3) = false := beq_eq_false_iff_ne.mpr c37
               have c37b1 : ((wrap64 (Int.tdiv x15_2 2)) != 3) = true := bne_iff_ne.mpr c37
               by_cases c41 : (wrap64 (Int.tdiv x15_2 2)) = 4
               ·rw [if_pos c41] at H
                have c41b0 : ((wrap64 (Int.tdiv x15_2 2)) == 4) = true := beq_iff_eq.mpr c41
                have c41b1 : ((wrap64 (Int.tdiv x15_2 2)) != 4) = false := bne_eq_false_iff_eq.mpr c41
                have H' := Aside0.mk H
                clear H
                have p15 : 0 ≤ (x15_2 : Int) := of_decide_eq_true (by first | (with_reducible assumption) | assumption)
                have q15 : x15_2 < (a0.size : Int) := of_decide_eq_true (by first | (with_reducible assumption) | assumption)
                have hx15 := bt_at a0 x15_2
                replace p15 := eq_true p15
                replace q15 := eq_true q15
                have p20 : 0 ≤ (x15_2 : Int) := of_decide_eq_true (by first | (with_reducible assumption) | assumption)
                have q20 : x15_2 < (a0.size : Int) := of_decide_eq_true (by first | (with_reducible assumption) | assumption)
                have hx20 := bt_at a0 x15_2
                replace p20 := eq_true p20
                replace q20 := eq_true q20
                try go_wp2
                have n0_ := Aside0.mk (blk_drew BK241.out)
                have n1_ := Aside0.mk (blk_drew BK242.out)
                have n2_ := Aside0.mk (below_drew1 HB.out)
                clear BK241
                clear BK242
                clear HB
                have BK241 := n0_
                have BK242 := n1_
                have HB := n2_
                clear n0_ n1_ n2_
                have p42 : 0 ≤ (x15_2 : Int) := of_decide_eq_true (by first | (with_reducible assumption) | assumption)
                have q42 : x15_2 < (a0.size : Int) := of_decide_eq_true (by first | (with_reducible assumption) | assumption)
                have hx42 := bt_at a0 x15_2
                replace p42 := eq_true p42
                replace q42 := eq_true q42
                have hw8_ : ∀ x : Int,wrap64 (x % 256) = x % 256 := fun x => by unfold wrap64; omega
                refine start_ (n := 15) (S := fun w' => w'.cell? ⟨gb242,0,none⟩ = some (.int .i64 x243000_2) ∧ w'.cell? ⟨gb242,1,none⟩ = some (.int .i64 x243001_2) ∧ w'.cell? ⟨gb242,2,none⟩ = some (.int .i64 x243002_2) ∧ w'.cell? ⟨gb242,3,none⟩ = some (.int .i64 x243003_2) ∧ w'.cell? ⟨gb242,4,none⟩ = some (.int .i64 x243004_2) ∧ w'.cell? ⟨gb242,5,none⟩ = some (.int .i64 x243005_2)) (ds := [14]) AR13_0 (by kernel_rfl) rfl rfl ⟨(blk_cell BK242.out 0).trans rfl,(blk_cell BK242.out 1).trans rfl,(blk_cell BK242.out 2).trans rfl,(blk_cell BK242.out 3).trans rfl,(blk_cell BK242.out 4).trans rfl,(blk_cell BK242.out 5).trans rfl⟩ (fun hHeld => ?_); refine with_tabW der_pairs.tab9 der_pairs.bits9 (fun HT_ HW_ => ?_)
                generalize wr.drew = w43 at BK241 BK242 HB hHeld ⊢
                refine pure_ (i := 0) (N := some 29) (v := ?_) (a' := ?_) AR13_1 rfl rfl (any_of HT_.out (by kernel_rfl)) (fun _ _ _ h => h) (Or.inl ⟨by rfl,?_⟩) ?_ ?_; rotate_left; (· intro w'; go_simp; with_reducible rfl); rotate_left; (· simp only [Act.put,LSET13_]; rfl)
                refine pure_ (i := 1) (N := some 30) (v := ?_) (a' := ?_) AR13_2 rfl rfl (any_of HT_.out (by kernel_rfl)) (fun _ _ _ h => h) (Or.inl ⟨by rfl,?_⟩) ?_ ?_; rotate_left; (· intro w'; go_simp; with_reducible rfl); rotate_left; (· simp only [Act.put,LSET13_]; rfl)
                refine pure_ (i := 2) (N := some 31) (v := ?_) (a' := ?_) AR13_3 rfl rfl (any_of HT_.out (by kernel_rfl)) (fun _ _ _ h => h) (Or.inl ⟨by rfl,?_⟩) ?_ ?_; rotate_left; (· intro w'; go_simp; with_reducible rfl); rotate_left; (· simp only [Act.put,LSET13_]; rfl)
                refine pure_ (i := 3) (N := some 32) (v := ?_) (a' := ?_) AR13_4 rfl rfl (any_of HT_.out (by kernel_rfl)) (fun _ _ _ h => h) (Or.inl ⟨by rfl,?_⟩) ?_ ?_; rotate_left; (· intro w'; go_simp; with_reducible rfl); rotate_left; (· simp only [Act.put,LSET13_]; rfl)
                refine pure_ (i := 4) (N := some 33) (v := ?_) (a' := ?_) AR13_5 rfl rfl (any_of HT_.out (by kernel_rfl)) (fun _ _ _ h => h) (Or.inl ⟨by rfl,?_⟩) ?_ ?_; rotate_left; (· intro w'; go_simp; with_reducible rfl); rotate_left; (· simp only [Act.put,LSET13_]; rfl)
                refine pure_ (i := 7) (N := some 36) (v := ?_) (a' := ?_) AR13_6 rfl rfl (any_of HT_.out (by kernel_rfl)) (fun _ _ _ h => h) (Or.inl ⟨by rfl,?_⟩) ?_ ?_; rotate_left; (· intro w'; go_simp; with_reducible rfl); rotate_left; (· simp only [Act.put,LSET13_]; rfl)
                refine pure_ (i := 8) (N := some 37) (v := ?_) (a' := ?_) AR13_7 rfl rfl (any_of HT_.out (by kernel_rfl)) (fun _ _ _ h => h) (Or.inl ⟨by rfl,?_⟩) ?_ ?_; rotate_left; (· intro w'; go_simp; with_reducible rfl); rotate_left; (· simp only [Act.put,LSET13_]; rfl)
                refine take_ (i := 5) (N := some 34) (v := ?_) (a' := ?_) AR13_8 rfl rfl (take_ofW HT_.out HW_.out (by kernel_rfl)) (fun _ _ _ h => h) (Or.inl ⟨by rfl,?_⟩) hHeld ?_ ?_; rotate_left; (· rintro w' ⟨s0,s1,s2,s3,s4,s5⟩; go_simp; with_reducible rfl); rotate_left; (· simp only [Act.put,LSET13_]; rfl)
                refine pure_ (i := 6) (N := some 35) (v := ?_) (a' := ?_) AR13_9 rfl rfl (any_of HT_.out (by kernel_rfl)) (fun _ _ _ h => h) (Or.inl ⟨by rfl,?_⟩) ?_ ?_; rotate_left; (· intro w'; go_simp; with_reducible rfl); rotate_left; (· simp only [Act.put,LSET13_]; rfl)
                refine take_ (i := 9) (N := some 38) (v := ?_) (a' := ?_) AR13_10 rfl rfl (take_ofW HT_.out HW_.out (by kernel_rfl)) (fun _ _ _ h => h) (Or.inl ⟨by rfl,?_⟩) hHeld ?_ ?_; rotate_left; (· rintro w' ⟨s0,s1,s2,s3,s4,s5⟩; go_simp; with_reducible rfl); rotate_left; (· simp only [Act.put,LSET13_]; rfl)
                refine pure_ (i := 10) (N := some 39) (v := ?_) (a' := ?_) AR13_11 rfl rfl (any_of HT_.out (by kernel_rfl)) (fun _ _ _ h => h) (Or.inl ⟨by rfl,?_⟩) ?_ ?_; rotate_left; (· intro w'; go_simp; with_reducible rfl); rotate_left; (· simp only [Act.put,LSET13_]; rfl)
                refine pure_ (i := 11) (N := some 40) (v := ?_) (a' := ?_) AR13_12 rfl rfl (any_of HT_.out (by kernel_rfl)) (fun _ _ _ h => h) (Or.inl ⟨by rfl,?_⟩) ?_ ?_; rotate_left; (· intro w'; go_simp; with_reducible rfl); rotate_left; (· simp only [Act.put,LSET13_]; rfl)
                refine pure_ (i := 12) (N := some 41) (v := ?_) (a' := ?_) AR13_13 rfl rfl (any_of HT_.out (by kernel_rfl)) (fun _ _ _ h => h) (Or.inl ⟨by rfl,?_⟩) ?_ ?_; rotate_left; (· intro w'; go_simp; with_reducible rfl); rotate_left; (· simp only [Act.put,LSET13_]; rfl)
                refine pure_ (i := 13) (N := some 42) (v := ?_) (a' := ?_) AR13_14 rfl rfl (any_of HT_.out (by kernel_rfl)) (fun _ _ _ h => h) (Or.inl ⟨by rfl,?_⟩) ?_ ?_; rotate_left; (· intro w'; go_simp; with_reducible rfl); rotate_left; (· simp only [Act.put,LSET13_]; rfl)
                refine last_ (i := 14) (N := none) AR13_15 rfl rfl (one_of HT_.out (by kernel_rfl)) (by decide) (fun K hK => ?_)
                have hs44 : w43.cell? ⟨gb242,4,none⟩ = some (.int .i64 x243004_2) := (blk_cell BK242.out 4).trans rfl
                have hfs44 := blk_frozen BK242.out 4
                have hns44_0 := NB241_242.out
                have hms44_0 := NB242_241.out
                refine skip_ (w1 := ?_) (by rfl) rfl ?_ ?_
                rotate_left
                ·go_simp
                 rfl
                refine hK.out _ _ ?_
                clear hK K
                refine done_ (done_of HT_.out (by kernel_rfl)) ?_
                try go_wp2
                go_roundg k2
                case measure => have := HJ1.out; have := HK2.out; omega
                case rel => exact ⟨(wrap64 (x15_2 + 1)),(x242000_2),(x242001_2),(x242002_2),(x242003_2),(x242004_2),(x242005_2),(x243000_2),(x243001_2),(x243002_2),(x243003_2),(wrap64 ((wrap64 (x243004_2 * 10)) + (((bt a0 x15_2) - 48) % 256))),(x243005_2),(by first | rfl | (simp; done) | (simp [*]; done)),H',⟨by have := HJ1.out; have := HK2.out; omega⟩,⟨by (with_reducible repeat (first | refine blk_drewN ?_ _ | refine blk_drew ?_ | refine blk_alloc ?_ _)); refine blk_far ?_ NB241_242.out _; (with_reducible repeat (first | refine blk_drewN ?_ _ | refine blk_drew ?_ | refine blk_alloc ?_ _)); exact BK241.out⟩,⟨by (with_reducible repeat (first | refine blk_drewN ?_ _ | refine blk_drew ?_ | refine blk_alloc ?_ _)); refine blk_put (cs := #[.int .i64 x243000_2,.int .i64 x243001_2,.int .i64 x243002_2,.int .i64 x243003_2,.int .i64 x243004_2,.int .i64 x243005_2]) ?_ 4 _ (by first | rfl | (rw [hw8_]; rfl) | (simp [hw8_]; done)); (with_reducible repeat (first | refine blk_drewN ?_ _ | refine blk_drew ?_ | refine blk_alloc ?_ _)); exact BK242.out⟩,⟨by repeat (first | (with_reducible first | exact HB.out | apply below_alloc | apply pw_below_drewN | apply below_drew1 | refine below_set ?_ GE241.out | refine below_set ?_ GE242.out) | exact HB.out)⟩⟩
               ·rw [if_neg c41] at H
                have c41b0 : ((wrap64 (Int.tdiv x15_2 2)) == 4) = false := beq_eq_false_iff_ne.mpr c41
                have c41b1 : ((wrap64 (Int.tdiv x15_2 2)) != 4) = true := bne_iff_ne.mpr c41
                by_cases c45 : (wrap64 (Int.tdiv x15_2 2)) = 5
                ·rw [if_pos c45] at H
                 have c45b0 : ((wrap64 (Int.tdiv x15_2 2)) == 5) = true := beq_iff_eq.mpr c45
                 have c45b1 : ((wrap64 (Int.tdiv x15_2 2)) != 5) = false := bne_eq_false_iff_eq.mpr c45
                 have H' := Aside0.mk H
                 clear H
                 have p15 : 0 ≤ (x15_2 : Int) := of_decide_eq_true (by first | (with_reducible assumption) | assumption)
                 have q15 : x15_2 < (a0.size : Int) := of_decide_eq_true (by first | (with_reducible assumption) | assumption)
                 have hx15 := bt_at a0 x15_2
                 replace p15 := eq_true p15
                 replace q15 := eq_true q15
                 have p20 : 0 ≤ (x15_2 : Int) := of_decide_eq_true (by first | (with_reducible assumption) | assumption)
                 have q20 : x15_2 < (a0.size : Int) := of_decide_eq_true (by first | (with_reducible assumption) | assumption)
                 have hx20 := bt_at a0 x15_2
                 replace p20 := eq_true p20
                 replace q20 := eq_true q20
                 try go_wp2
                 have n0_ := Aside0.mk (blk_drew BK241.out)
                 have n1_ := Aside0.mk (blk_drew BK242.out)
                 have n2_ := Aside0.mk (below_drew1 HB.out)
                 clear BK241
                 clear BK242
                 clear HB
                 have BK241 := n0_
                 have BK242 := n1_
                 have HB := n2_
                 clear n0_ n1_ n2_
                 have p46 : 0 ≤ (x15_2 : Int) := of_decide_eq_true (by first | (with_reducible assumption) | assumption)
                 have q46 : x15_2 < (a0.size : Int) := of_decide_eq_true (by first | (with_reducible assumption) | assumption)
                 have hx46 := bt_at a0 x15_2
                 replace p46 := eq_true p46
                 replace q46 := eq_true q46
                 have hw8_ : ∀ x : Int,wrap64 (x % 256) = x % 256 := fun x => by unfold wrap64; omega
                 refine start_ (n := 15) (S := fun w' => w'.cell? ⟨gb242,0,none⟩ = some (.int .i64 x243000_2) ∧ w'.cell? ⟨gb242,1,none⟩ = some (.int .i64 x243001_2) ∧ w'.cell? ⟨gb242,2,none⟩ = some (.int .i64 x243002_2) ∧ w'.cell? ⟨gb242,3,none⟩ = some (.int .i64 x243003_2) ∧ w'.cell? ⟨gb242,4,none⟩ = some (.int .i64 x243004_2) ∧ w'.cell? ⟨gb242,5,none⟩ = some (.int .i64 x243005_2)) (ds := [14]) AR13_0 (by kernel_rfl) rfl rfl ⟨(blk_cell BK242.out 0).trans rfl,(blk_cell BK242.out 1).trans rfl,(blk_cell BK242.out 2).trans rfl,(blk_cell BK242.out 3).trans rfl,(blk_cell BK242.out 4).trans rfl,(blk_cell BK242.out 5).trans rfl⟩ (fun hHeld => ?_); refine with_tabW der_pairs.tab9 der_pairs.bits9 (fun HT_ HW_ => ?_)
                 generalize wr.drew = w47 at BK241 BK242 HB hHeld ⊢
                 refine pure_ (i := 0) (N := some 29) (v := ?_) (a' := ?_) AR13_1 rfl rfl (any_of HT_.out (by kernel_rfl)) (fun _ _ _ h => h) (Or.inl ⟨by rfl,?_⟩) ?_ ?_; rotate_left; (· intro w'; go_simp; with_reducible rfl); rotate_left; (· simp only [Act.put,LSET13_]; rfl)
                 refine pure_ (i := 1) (N := some 30) (v := ?_) (a' := ?_) AR13_2 rfl rfl (any_of HT_.out (by kernel_rfl)) (fun _ _ _ h => h) (Or.inl ⟨by rfl,?_⟩) ?_ ?_; rotate_left; (· intro w'; go_simp; with_reducible rfl); rotate_left; (· simp only [Act.put,LSET13_]; rfl)
                 refine pure_ (i := 2) (N := some 31) (v := ?_) (a' := ?_) AR13_3 rfl rfl (any_of HT_.out (by kernel_rfl)) (fun _ _ _ h => h) (Or.inl ⟨by rfl,?_⟩) ?_ ?_; rotate_left; (· intro w'; go_simp; with_reducible rfl); rotate_left; (· simp only [Act.put,LSET13_]; rfl)
                 refine pure_ (i := 3) (N := some 32) (v := ?_) (a' := ?_) AR13_4 rfl rfl (any_of HT_.out (by kernel_rfl)) (fun _ _ _ h => h) (Or.inl ⟨by rfl,?_⟩) ?_ ?_; rotate_left; (· intro w'; go_simp; with_reducible rfl); rotate_left; (· simp only [Act.put,LSET13_]; rfl)
                 refine pure_ (i := 4) (N := some 33) (v := ?_) (a' := ?_) AR13_5 rfl rfl (any_of HT_.out (by kernel_rfl)) (fun _ _ _ h => h) (Or.inl ⟨by rfl,?_⟩) ?_ ?_; rotate_left; (· intro w'; go_simp; with_reducible rfl); rotate_left; (· simp only [Act.put,LSET13_]; rfl)
                 refine pure_ (i := 7) (N := some 36) (v := ?_) (a' := ?_) AR13_6 rfl rfl (any_of HT_.out (by kernel_rfl)) (fun _ _ _ h => h) (Or.inl ⟨by rfl,?_⟩) ?_ ?_; rotate_left; (· intro w'; go_simp; with_reducible rfl); rotate_left; (· simp only [Act.put,LSET13_]; rfl)
                 refine pure_ (i := 8) (N := some 37) (v := ?_) (a' := ?_) AR13_7 rfl rfl (any_of HT_.out (by kernel_rfl)) (fun _ _ _ h => h) (Or.inl ⟨by rfl,?_⟩) ?_ ?_; rotate_left; (· intro w'; go_simp; with_reducible rfl); rotate_left; (· simp only [Act.put,LSET13_]; rfl)
                 refine take_ (i := 5) (N := some 34) (v := ?_) (a' := ?_) AR13_8 rfl rfl (take_ofW HT_.out HW_.out (by kernel_rfl)) (fun _ _ _ h => h) (Or.inl ⟨by rfl,?_⟩) hHeld ?_ ?_; rotate_left; (· rintro w' ⟨s0,s1,s2,s3,s4,s5⟩; go_simp; with_reducible rfl); rotate_left; (· simp only [Act.put,LSET13_]; rfl)
                 refine pure_ (i := 6) (N := some 35) (v := ?_) (a' := ?_) AR13_9 rfl rfl (any_of HT_.out (by kernel_rfl)) (fun _ _ _ h => h) (Or.inl ⟨by rfl,?_⟩) ?_ ?_; rotate_left; (· intro w'; go_simp; with_reducible rfl); rotate_left; (· simp only [Act.put,LSET13_]; rfl)
                 refine take_ (i := 9) (N := some 38) (v := ?_) (a' := ?_) AR13_10 rfl rfl (take_ofW HT_.out HW_.out (by kernel_rfl)) (fun _ _ _ h => h) (Or.inl ⟨by rfl,?_⟩) hHeld ?_ ?_; rotate_left; (· rintro w' ⟨s0,s1,s2,s3,s4,s5⟩; go_simp; with_reducible rfl); rotate_left; (· simp only [Act.put,LSET13_]; rfl)
                 refine pure_ (i := 10) (N := some 39) (v := ?_) (a' := ?_) AR13_11 rfl rfl (any_of HT_.out (by kernel_rfl)) (fun _ _ _ h => h) (Or.inl ⟨by rfl,?_⟩) ?_ ?_; rotate_left; (· intro w'; go_simp; with_reducible rfl); rotate_left; (· simp only [Act.put,LSET13_]; rfl)
                 refine pure_ (i := 11) (N := some 40) (v := ?_) (a' := ?_) AR13_12 rfl rfl (any_of HT_.out (by kernel_rfl)) (fun _ _ _ h => h) (Or.inl ⟨by rfl,?_⟩) ?_ ?_; rotate_left; (· intro w'; go_simp; with_reducible rfl); rotate_left; (· simp only [Act.put,LSET13_]; rfl)
                 refine pure_ (i := 12) (N := some 41) (v := ?_) (a' := ?_) AR13_13 rfl rfl (any_of HT_.out (by kernel_rfl)) (fun _ _ _ h => h) (Or.inl ⟨by rfl,?_⟩) ?_ ?_; rotate_left; (· intro w'; go_simp; with_reducible rfl); rotate_left; (· simp only [Act.put,LSET13_]; rfl)
                 refine pure_ (i := 13) (N := some 42) (v := ?_) (a' := ?_) AR13_14 rfl rfl (any_of HT_.out (by kernel_rfl)) (fun _ _ _ h => h) (Or.inl ⟨by rfl,?_⟩) ?_ ?_; rotate_left; (· intro w'; go_simp; with_reducible rfl); rotate_left; (· simp only [Act.put,LSET13_]; rfl)
                 refine last_ (i := 14) (N := none) AR13_15 rfl rfl (one_of HT_.out (by kernel_rfl)) (by decide) (fun K hK => ?_)
                 have hs48 : w47.cell? ⟨gb242,5,none⟩ = some (.int .i64 x243005_2) := (blk_cell BK242.out 5).trans rfl
                 have hfs48 := blk_frozen BK242.out 5
                 have hns48_0 := NB241_242.out
                 have hms48_0 := NB242_241.out
                 refine skip_ (w1 := ?_) (by rfl) rfl ?_ ?_
                 rotate_left
                 ·go_simp
                  rfl
                 refine hK.out _ _ ?_
                 clear hK K
                 refine done_ (done_of HT_.out (by kernel_rfl)) ?_
                 try go_wp2
                 go_roundg k2
                 case measure => have := HJ1.out; have := HK2.out; omega
                 case rel => exact ⟨(wrap64 (x15_2 + 1)),(x242000_2),(x242001_2),(x242002_2),(x242003_2),(x242004_2),(x242005_2),(x243000_2),(x243001_2),(x243002_2),(x243003_2),(x243004_2),(wrap64 ((wrap64 (x243005_2 * 10)) + (((bt a0 x15_2) - 48) % 256))),(by first | rfl | (simp; done) | (simp [*]; done)),H',⟨by have := HJ1.out; have := HK2.out; omega⟩,⟨by (with_reducible repeat (first | refine blk_drewN ?_ _ | refine blk_drew ?_ | refine blk_alloc ?_ _)); refine blk_far ?_ NB241_242.out _; (with_reducible repeat (first | refine blk_drewN ?_ _ | refine blk_drew ?_ | refine blk_alloc ?_ _)); exact BK241.out⟩,⟨by (with_reducible repeat (first | refine blk_drewN ?_ _ | refine blk_drew ?_ | refine blk_alloc ?_ _)); refine blk_put (cs := #[.int .i64 x243000_2,.int .i64 x243001_2,.int .i64 x243002_2,.int .i64 x243003_2,.int .i64 x243004_2,.int .i64 x243005_2]) ?_ 5 _ (by first | rfl | (rw [hw8_]; rfl) | (simp [hw8_]; done)); (with_reducible repeat (first | refine blk_drewN ?_ _ | refine blk_drew ?_ | refine blk_alloc ?_ _)); exact BK242.out⟩,⟨by repeat (first | (with_reducible first | exact HB.out | apply below_alloc | apply pw_below_drewN | apply below_drew1 | refine below_set ?_ GE241.out | refine below_set ?_ GE242.out) | exact HB.out)⟩⟩
                ·rw [if_neg c45] at H
                 exact absurd H (by simp)
        ·rw [if_neg c14] at H
         exact absurd H (by simp)
       ·rw [if_neg c13] at H
        exact absurd H (by simp)
      ·rw [if_neg c12] at H
       have c12b0 : decide (x15_2 < 12) = false := decide_eq_false c12
       clear c12
       simp only [Option.some.injEq,Prod.mk.injEq] at H
       obtain ⟨rfl,rfl,rfl,rfl,rfl,rfl,rfl⟩ := H
       have hnb49 := NB242_241.out
       have hnc49 := NB241_242.out
       have hcz50_0 : wr.cell? ⟨gb242,0,none⟩ = some (.int .i64 x243000_2) := (blk_cell BK242.out 0).trans rfl
       have hcz50_1 : wr.cell? ⟨gb242,1,none⟩ = some (.int .i64 x243001_2) := (blk_cell BK242.out 1).trans rfl
       have hcz50_2 : wr.cell? ⟨gb242,2,none⟩ = some (.int .i64 x243002_2) := (blk_cell BK242.out 2).trans rfl
       have hcz50_3 : wr.cell? ⟨gb242,3,none⟩ = some (.int .i64 x243003_2) := (blk_cell BK242.out 3).trans rfl
       have hcz50_4 : wr.cell? ⟨gb242,4,none⟩ = some (.int .i64 x243004_2) := (blk_cell BK242.out 4).trans rfl
       have hcz50_5 : wr.cell? ⟨gb242,5,none⟩ = some (.int .i64 x243005_2) := (blk_cell BK242.out 5).trans rfl
       have hfz50_0 := blk_frozen BK242.out 0
       have hfz50_1 := blk_frozen BK242.out 1
       have hfz50_2 := blk_frozen BK242.out 2
       have hfz50_3 := blk_frozen BK242.out 3
       have hfz50_4 := blk_frozen BK242.out 4
       have hfz50_5 := blk_frozen BK242.out 5
       have hcz51_0 : wr.cell? ⟨gb241,0,none⟩ = some (.int .i64 x242000_2) := (blk_cell BK241.out 0).trans rfl
       have hcz51_1 : wr.cell? ⟨gb241,1,none⟩ = some (.int .i64 x242001_2) := (blk_cell BK241.out 1).trans rfl
       have hcz51_2 : wr.cell? ⟨gb241,2,none⟩ = some (.int .i64 x242002_2) := (blk_cell BK241.out 2).trans rfl
       have hcz51_3 : wr.cell? ⟨gb241,3,none⟩ = some (.int .i64 x242003_2) := (blk_cell BK241.out 3).trans rfl
       have hcz51_4 : wr.cell? ⟨gb241,4,none⟩ = some (.int .i64 x242004_2) := (blk_cell BK241.out 4).trans rfl
       have hcz51_5 : wr.cell? ⟨gb241,5,none⟩ = some (.int .i64 x242005_2) := (blk_cell BK241.out 5).trans rfl
       have hfz51_0 := blk_frozen BK241.out 0
       have hfz51_1 := blk_frozen BK241.out 1
       have hfz51_2 := blk_frozen BK241.out 2
       have hfz51_3 := blk_frozen BK241.out 3
       have hfz51_4 := blk_frozen BK241.out 4
       have hfz51_5 := blk_frozen BK241.out 5
       go_wp2
       refine bodyPost_ret (results_ct rfl _ _ gb241 55 #[.int .i64 x243000_2,.int .i64 x243001_2,.int .i64 x243002_2,.int .i64 x243003_2,.int .i64 x243004_2,.int .i64 x243005_2] (0,0) _ rfl (by (with_reducible repeat (first | refine blk_drewN ?_ _ | refine blk_drew ?_ | refine blk_alloc ?_ _)); refine blk_put (cs := #[.int .i64 x243000_2,.int .i64 x243001_2,.int .i64 x243002_2,.int .i64 x243003_2,.int .i64 x243004_2,.int .i64 x242005_2]) ?_ 5 _ (by first | rfl | (rw [hw8_]; rfl) | (simp [hw8_]; done)); (with_reducible repeat (first | refine blk_drewN ?_ _ | refine blk_drew ?_ | refine blk_alloc ?_ _)); refine blk_put (cs := #[.int .i64 x243000_2,.int .i64 x243001_2,.int .i64 x243002_2,.int .i64 x243003_2,.int .i64 x242004_2,.int .i64 x242005_2]) ?_ 4 _ (by first | rfl | (rw [hw8_]; rfl) | (simp [hw8_]; done)); (with_reducible repeat (first | refine blk_drewN ?_ _ | refine blk_drew ?_ | refine blk_alloc ?_ _)); refine blk_put (cs := #[.int .i64 x243000_2,.int .i64 x243001_2,.int .i64 x243002_2,.int .i64 x242003_2,.int .i64 x242004_2,.int .i64 x242005_2]) ?_ 3 _ (by first | rfl | (rw [hw8_]; rfl) | (simp [hw8_]; done)); (with_reducible repeat (first | refine blk_drewN ?_ _ | refine blk_drew ?_ | refine blk_alloc ?_ _)); refine blk_put (cs := #[.int .i64 x243000_2,.int .i64 x243001_2,.int .i64 x242002_2,.int .i64 x242003_2,.int .i64 x242004_2,.int .i64 x242005_2]) ?_ 2 _ (by first | rfl | (rw [hw8_]; rfl) | (simp [hw8_]; done)); (with_reducible repeat (first | refine blk_drewN ?_ _ | refine blk_drew ?_ | refine blk_alloc ?_ _)); refine blk_put (cs := #[.int .i64 x243000_2,.int .i64 x242001_2,.int .i64 x242002_2,.int .i64 x242003_2,.int .i64 x242004_2,.int .i64 x242005_2]) ?_ 1 _ (by first | rfl | (rw [hw8_]; rfl) | (simp [hw8_]; done)); (with_reducible repeat (first | refine blk_drewN ?_ _ | refine blk_drew ?_ | refine blk_alloc ?_ _)); refine blk_put (cs := #[.int .i64 x242000_2,.int .i64 x242001_2,.int .i64 x242002_2,.int .i64 x242003_2,.int .i64 x242004_2,.int .i64 x242005_2]) ?_ 0 _ (by first | rfl | (rw [hw8_]; rfl) | (simp [hw8_]; done)); (with_reducible repeat (first | refine blk_drewN ?_ _ | refine blk_drew ?_ | refine blk_alloc ?_ _)); exact BK241.out) Try.underlying55 rfl (by kernel_rfl)) rfl ?_
       exact ⟨by first | rfl | (simp [errW_none,errW_some] <;> rfl) | (simp [*,errW_none,errW_some] <;> rfl),by repeat (first | (with_reducible first | exact HB.out | apply below_alloc | apply pw_below_drewN | apply below_drew1 | refine below_set ?_ GE241.out | refine below_set ?_ GE242.out) | exact HB.out)⟩

end Go.Proofs.Ytonemdclfgckoaa.X
