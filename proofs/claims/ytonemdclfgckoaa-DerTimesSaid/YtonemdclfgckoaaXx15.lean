-- Written by a program of this session (wip/tools/xprint.py), over the kit's printer.
import Derived.Test.YtonemdclfgckoaaXx0
import Derived.Test.YtonemdclfgckoaaXx11
import Derived.Test.YtonemdclfgckoaaXx15d
namespace Go.Proofs.Ytonemdclfgckoaa.X
open Go.RowKit Go.Proofs.YtonemdclfgckoaaW.PrintWords Go.Proofs.YtonemdclfgckoaaW.PrintLast Go.Proofs.YtonemdclfgckoaaW.PrintMore
attribute [local go_sem] max2_int min2_int max_two min_two max_three min_three max_four min_four   -- for this text's walks alone
set_option linter.unusedVariables false
set_option linter.unusedSimpArgs false

theorem LSET15_ : (∀ (l : List Value) (i : Nat) (a : Value),l.toArray.setIfInBounds i a = (l.set i a).toArray) ∧ (∀ (x y : Value) (l : List Value),(x :: l).set 0 y = y :: l) ∧ (∀ (x y : Value) (l : List Value) (n : Nat),(x :: l).set (n + 1) y = x :: l.set n y) ∧ (∀ n : Int,IntKind.i64.wrap n = Go.RowKit.wrap64 n) ∧ (∀ n : Int,IntKind.i32.wrap n = Go.RowKit.wrap32 n) := ⟨fun l i a => List.setIfInBounds_toArray ..,fun x y l => List.set_cons_zero ..,fun x y l n => List.set_cons_succ ..,i64_w,i32_w⟩
abbrev AR15_0 : Array Bool := #[false,false,false,false,false,false,false,false,false,false,false,false,false,false,false,false,false,false,false,false,false,false,false,false,false,false,false,false,false,false,false,false,false,false,false,false,false,false,false,false,false]
abbrev AR15_1 : Array Bool := #[false,false,false,false,false,false,false,false,false,false,false,false,false,false,false]
abbrev AR15_2 : Array Bool := #[true,false,false,false,false,false,false,false,false,false,false,false,false,false,false,false,false,false,false,false,false,false,false,false,false,false,false,false,false,false,false,false,false,false,false,false,false,false,false,false,false]
abbrev AR15_3 : Array Bool := #[true,false,false,false,false,false,false,false,false,false,false,false,false,false,false]
abbrev AR15_4 : Array Bool := #[true,true,false,false,false,false,false,false,false,false,false,false,false,false,false,false,false,false,false,false,false,false,false,false,false,false,false,false,false,false,false,false,false,false,false,false,false,false,false,false,false]
abbrev AR15_5 : Array Bool := #[true,true,false,false,false,false,false,false,false,false,false,false,false,false,false]
abbrev AR15_6 : Array Bool := #[true,true,true,false,false,false,false,false,false,false,false,false,false,false,false,false,false,false,false,false,false,false,false,false,false,false,false,false,false,false,false,false,false,false,false,false,false,false,false,false,false]
abbrev AR15_7 : Array Bool := #[true,true,true,false,false,false,false,false,false,false,false,false,false,false,false]
abbrev AR15_8 : Array Bool := #[true,true,true,true,false,false,false,false,false,false,false,false,false,false,false,false,false,false,false,false,false,false,false,false,false,false,false,false,false,false,false,false,false,false,false,false,false,false,false,false,false]
abbrev AR15_9 : Array Bool := #[true,true,true,true,false,false,false,false,false,false,false,false,false,false,false]
abbrev AR15_10 : Array Bool := #[true,true,true,true,true,false,false,false,false,false,false,false,false,false,false,false,false,false,false,false,false,false,false,false,false,false,false,false,false,false,false,false,false,false,false,false,false,false,false,false,false]
abbrev AR15_11 : Array Bool := #[true,true,true,true,true,false,false,false,false,false,false,false,false,false,false]
abbrev AR15_12 : Array Bool := #[true,true,true,true,true,false,false,true,false,false,false,false,false,false,false]
abbrev AR15_13 : Array Bool := #[true,true,true,true,true,false,false,true,true,false,false,false,false,false,false]
abbrev AR15_14 : Array Bool := #[true,true,true,true,true,true,false,false,false,false,false,false,false,false,false,false,false,false,false,false,false,false,false,false,false,false,false,false,false,false,false,false,false,false,false,false,false,false,false,false,false]
abbrev AR15_15 : Array Bool := #[true,true,true,true,true,true,false,true,true,false,false,false,false,false,false]
abbrev AR15_16 : Array Bool := #[true,true,true,true,true,true,true,false,false,false,false,false,false,false,false,false,false,false,false,false,false,false,false,false,false,false,false,false,false,false,false,false,false,false,false,false,false,false,false,false,false]
abbrev AR15_17 : Array Bool := #[true,true,true,true,true,true,true,true,false,false,false,false,false,false,false,false,false,false,false,false,false,false,false,false,false,false,false,false,false,false,false,false,false,false,false,false,false,false,false,false,false]
abbrev AR15_18 : Array Bool := #[true,true,true,true,true,true,true,true,true,false,false,false,false,false,false,false,false,false,false,false,false,false,false,false,false,false,false,false,false,false,false,false,false,false,false,false,false,false,false,false,false]
abbrev AR15_19 : Array Bool := #[true,true,true,true,true,true,true,true,true,false,false,false,false,false,false]
abbrev AR15_20 : Array Bool := #[true,true,true,true,true,true,true,true,true,true,false,false,false,false,false,false,false,false,false,false,false,false,false,false,false,false,false,false,false,false,false,false,false,false,false,false,false,false,false,false,false]
abbrev AR15_21 : Array Bool := #[true,true,true,true,true,true,true,true,true,true,false,false,false,false,false]
abbrev AR15_22 : Array Bool := #[true,true,true,true,true,true,true,true,true,true,true,false,false,false,false,false,false,false,false,false,false,false,false,false,false,false,false,false,false,false,false,false,false,false,false,false,false,false,false,false,false]
abbrev AR15_23 : Array Bool := #[true,true,true,true,true,true,true,true,true,true,true,false,false,false,false]
abbrev AR15_24 : Array Bool := #[true,true,true,true,true,true,true,true,true,true,true,true,false,false,false,false,false,false,false,false,false,false,false,false,false,false,false,false,false,false,false,false,false,false,false,false,false,false,false,false,false]
abbrev AR15_25 : Array Bool := #[true,true,true,true,true,true,true,true,true,true,true,true,false,false,false]
abbrev AR15_26 : Array Bool := #[true,true,true,true,true,true,true,true,true,true,true,true,true,false,false,false,false,false,false,false,false,false,false,false,false,false,false,false,false,false,false,false,false,false,false,false,false,false,false,false,false]
abbrev AR15_27 : Array Bool := #[true,true,true,true,true,true,true,true,true,true,true,true,true,false,false]
abbrev AR15_28 : Array Bool := #[true,true,true,true,true,true,true,true,true,true,true,true,true,true,false,false,false,false,false,false,false,false,false,false,false,false,false,false,false,false,false,false,false,false,false,false,false,false,false,false,false]
abbrev AR15_29 : Array Bool := #[true,true,true,true,true,true,true,true,true,true,true,true,true,true,false]
abbrev AR15_30 : Array Bool := #[true,true,true,true,true,true,true,true,true,true,true,true,true,true,true,false,false,false,false,false,false,false,false,false,false,false,false,false,false,false,false,false,false,false,false,false,false,false,false,false,false]
abbrev AR15_31 : Array Bool := #[true,true,true,true,true,true,true,true,true,true,true,true,true,true,true,true,false,false,false,false,false,false,false,false,false,false,false,false,false,false,false,false,false,false,false,false,false,false,false,false,false]
abbrev AR15_32 : Array Bool := #[true,true,true,true,true,true,true,true,true,true,true,true,true,true,true,true,true,false,false,false,false,false,false,false,false,false,false,false,false,false,false,false,false,false,false,false,false,false,false,false,false]
abbrev AR15_33 : Array Bool := #[true,true,true,true,true,true,true,true,true,true,true,true,true,true,true,true,true,true,false,false,false,false,false,false,false,false,false,false,false,false,false,false,false,false,false,false,false,false,false,false,false]
abbrev AR15_34 : Array Bool := #[true,true,true,true,true,true,true,true,true,true,true,true,true,true,true,true,true,true,true,false,false,false,false,false,false,false,false,false,false,false,false,false,false,false,false,false,false,false,false,false,false]
abbrev AR15_35 : Array Bool := #[true,true,true,true,true,true,true,true,true,true,true,true,true,true,true,true,true,true,true,false,true,false,false,false,false,false,false,false,false,false,false,false,false,false,false,false,false,false,false,false,false]
abbrev AR15_36 : Array Bool := #[true,true,true,true,true,true,true,true,true,true,true,true,true,true,true,true,true,true,true,false,true,true,false,false,false,false,false,false,false,false,false,false,false,false,false,false,false,false,false,false,false]
abbrev AR15_37 : Array Bool := #[true,true,true,true,true,true,true,true,true,true,true,true,true,true,true,true,true,true,true,true,false,false,false,false,false,false,false,false,false,false,false,false,false,false,false,false,false,false,false,false,false]
abbrev AR15_38 : Array Bool := #[true,true,true,true,true,true,true,true,true,true,true,true,true,true,true,true,true,true,true,true,true,false,false,false,false,false,false,false,false,false,false,false,false,false,false,false,false,false,false,false,false]
abbrev AR15_39 : Array Bool := #[true,true,true,true,true,true,true,true,true,true,true,true,true,true,true,true,true,true,true,true,true,true,false,false,false,false,false,false,false,false,false,false,false,false,false,false,false,false,false,false,false]
abbrev AR15_40 : Array Bool := #[true,true,true,true,true,true,true,true,true,true,true,true,true,true,true,true,true,true,true,true,true,true,true,false,false,false,false,false,false,false,false,false,false,false,false,false,false,false,false,false,false]
abbrev AR15_41 : Array Bool := #[true,true,true,true,true,true,true,true,true,true,true,true,true,true,true,true,true,true,true,true,true,true,true,true,false,false,false,false,false,false,false,false,false,false,false,false,false,false,false,false,false]
abbrev AR15_42 : Array Bool := #[true,true,true,true,true,true,true,true,true,true,true,true,true,true,true,true,true,true,true,true,true,true,true,true,true,false,false,false,false,false,false,false,false,false,false,false,false,false,false,false,false]
abbrev AR15_43 : Array Bool := #[true,true,true,true,true,true,true,true,true,true,true,true,true,true,true,true,true,true,true,true,true,true,true,true,true,true,false,false,false,false,false,false,false,false,false,false,false,false,false,false,false]
abbrev AR15_44 : Array Bool := #[true,true,true,true,true,true,true,true,true,true,true,true,true,true,true,true,true,true,true,true,true,true,true,true,true,true,true,false,false,false,false,false,false,false,false,false,false,false,false,false,false]
abbrev AR15_45 : Array Bool := #[true,true,true,true,true,true,true,true,true,true,true,true,true,true,true,true,true,true,true,true,true,true,true,true,true,true,true,true,false,false,false,false,false,false,false,false,false,false,false,false,false]
abbrev AR15_46 : Array Bool := #[true,true,true,true,true,true,true,true,true,true,true,true,true,true,true,true,true,true,true,true,true,true,true,true,true,true,true,true,true,false,false,false,false,false,false,false,false,false,false,false,false]
abbrev AR15_47 : Array Bool := #[true,true,true,true,true,true,true,true,true,true,true,true,true,true,true,true,true,true,true,true,true,true,true,true,true,true,true,true,true,true,false,false,false,false,false,false,false,false,false,false,false]
abbrev AR15_48 : Array Bool := #[true,true,true,true,true,true,true,true,true,true,true,true,true,true,true,true,true,true,true,true,true,true,true,true,true,true,true,true,true,true,true,false,false,false,false,false,false,false,false,false,false]
abbrev AR15_49 : Array Bool := #[true,true,true,true,true,true,true,true,true,true,true,true,true,true,true,true,true,true,true,true,true,true,true,true,true,true,true,true,true,true,true,true,false,false,false,false,false,false,false,false,false]
abbrev AR15_50 : Array Bool := #[true,true,true,true,true,true,true,true,true,true,true,true,true,true,true,true,true,true,true,true,true,true,true,true,true,true,true,true,true,true,true,true,true,false,false,false,false,false,false,false,false]
abbrev AR15_51 : Array Bool := #[true,true,true,true,true,true,true,true,true,true,true,true,true,true,true,true,true,true,true,true,true,true,true,true,true,true,true,true,true,true,true,true,true,true,false,false,false,false,false,false,false]
abbrev AR15_52 : Array Bool := #[true,true,true,true,true,true,true,true,true,true,true,true,true,true,true,true,true,true,true,true,true,true,true,true,true,true,true,true,true,true,true,true,true,true,true,false,false,false,false,false,false]
abbrev AR15_53 : Array Bool := #[true,true,true,true,true,true,true,true,true,true,true,true,true,true,true,true,true,true,true,true,true,true,true,true,true,true,true,true,true,true,true,true,true,true,true,true,false,false,false,false,false]
abbrev AR15_54 : Array Bool := #[true,true,true,true,true,true,true,true,true,true,true,true,true,true,true,true,true,true,true,true,true,true,true,true,true,true,true,true,true,true,true,true,true,true,true,true,true,false,false,false,false]
abbrev AR15_55 : Array Bool := #[true,true,true,true,true,true,true,true,true,true,true,true,true,true,true,true,true,true,true,true,true,true,true,true,true,true,true,true,true,true,true,true,true,true,true,true,true,true,false,false,false]
abbrev AR15_56 : Array Bool := #[true,true,true,true,true,true,true,true,true,true,true,true,true,true,true,true,true,true,true,true,true,true,true,true,true,true,true,true,true,true,true,true,true,true,true,true,true,true,true,false,false]
abbrev AR15_57 : Array Bool := #[true,true,true,true,true,true,true,true,true,true,true,true,true,true,true,true,true,true,true,true,true,true,true,true,true,true,true,true,true,true,true,true,true,true,true,true,true,true,true,true,false]
abbrev AR15_58 : Array Bool := #[true,true,true,true,true,true,true,true,true,true,true,true,true,true,true,true,true,true,true,true,true,true,true,true,true,true,true,true,true,true,true,true,true,true,true,true,true,true,true,true,true]
abbrev AR15_59 : Array Bool := #[true,true,true,true,true,true,true,true,true,true,true,true,true,true,true]

set_option maxHeartbeats 8000000 in
set_option maxRecDepth 100000 in
theorem halberdref13_Untime.calls (k : Nat) (a0 : ByteArray) (r1 : Int) (r2 : Int) (w : World) (h : halberdref13_Untime.f k a0 = some (r1,r2)) :
  Calls Try.prog 15 #[.string a0] w fun e w' => e = .returned (.tuple #[.int .i64 r1,.int .i64 r2]) ∧ Below w.heap.size w w' := by
 have hu55 := Try.underlying55
 have HB := Aside0.mk (Below.refl w.heap.size w)
 have H : (if (a0.size : Int) = 13 then (if 12 < (a0.size : Int) then (halberdref13_Untime.j0 k a0 ((bt a0 12) != 90)) else (none)) else (halberdref13_Untime.j0 k a0 true)) = some (r1,r2) := h
 clear h
 have HC2 := Aside0.mk H
 clear H
 go_enter Try.func15,Try.ntmps15
 go_upto_region 1 with (fail)
 go_cut [17] (fun v17 wc => ∃ (kq : Nat) (x17_1 : Bool),v17 = .bool x17_1 ∧ Aside0 (halberdref13_Untime.j0 kq a0 x17_1 = some (r1,r2)) ∧ Aside0 (kq ≤ k) ∧ Aside0 (Below w.heap.size w wc))
 case first =>
  have H := HC2.out
  clear HC2
  by_cases c3 : (a0.size : Int) = 13
  ·rw [if_pos c3] at H
   have c3b0 : ((a0.size : Int) == 13) = true := beq_iff_eq.mpr c3
   have c3b1 : ((a0.size : Int) != 13) = false := bne_eq_false_iff_eq.mpr c3
   clear c3
   (first | rw [c3b0] | (simp only [i64_w,i32_w]; rw [c3b0]) | skip)
   by_cases c4 : 12 < (a0.size : Int)
   ·rw [if_pos c4] at H
    have c4b0 : decide (12 < (a0.size : Int)) = true := decide_eq_true c4
    have c4b1 : decide (12 < a0.size) = true := decide_eq_true (by omega)
    clear c4
    have H' := Aside0.mk H
    clear H
    have p5 : 0 ≤ (12 : Int) := (by omega)
    have q5 : 12 < a0.size := (by have : (12 : Int) < (a0.size : Int) := of_decide_eq_true (by first | (with_reducible assumption) | assumption); omega)
    have hx5 : ∀ h : 12 < a0.size,((a0[12]'h).toNat : Int) = bt a0 12 := bt_at a0 12
    clear p5
    have qi5 : (12 < (a0.size : Int)) = True := eq_true (of_decide_eq_true (by first | (with_reducible assumption) | assumption))
    replace q5 := eq_true q5
    go_wp2
    go_meet
    case rel => exact ⟨_,(((bt a0 12) != 90)),(by first | rfl | (simp; done) | (simp [*]; done)),H',⟨by first | omega | exact Nat.le_refl _⟩,⟨by repeat (first | (with_reducible first | exact HB.out | apply below_alloc | apply pw_below_drewN | apply below_drew1) | exact HB.out)⟩⟩
   ·rw [if_neg c4] at H
    exact absurd H (by simp)
  ·rw [if_neg c3] at H
   have c3b0 : ((a0.size : Int) == 13) = false := beq_eq_false_iff_ne.mpr c3
   have c3b1 : ((a0.size : Int) != 13) = true := bne_iff_ne.mpr c3
   (first | rw [c3b0] | (simp only [i64_w,i32_w]; rw [c3b0]) | skip)
   have H' := Aside0.mk H
   clear H
   go_wp2
   go_meet
   case rel => exact ⟨_,(true),(by first | rfl | (simp; done) | (simp [*]; done)),H',⟨by first | omega | exact Nat.le_refl _⟩,⟨by repeat (first | (with_reducible first | exact HB.out | apply below_alloc | apply pw_below_drewN | apply below_drew1) | exact HB.out)⟩⟩
 case rest =>
  clear HC2
  try clear c1
  try clear p2
  try clear c3
  try clear c3b0
  try clear c3b1
  try clear c4
  try clear c4b0
  try clear c4b1
  try clear p5
  try clear q5
  try clear hx5
  try clear qi5
  try clear p5
  try clear q5
  obtain ⟨kq,x17_1,rfl,HA,HJ1,HB⟩ := hcut
  cases kq with
  | zero => exact absurd HA.out (by simp [halberdref13_Untime.j0])
  | succ kj1 =>
   have H := HA.out
   clear HA
   simp only [halberdref13_Untime.j0] at H
   by_cases c6 : x17_1 = true
   ·subst c6
    have H1 : (some (0,1300)) = some (r1,r2) := by rw [if_pos rfl] at H; exact H
    clear H
    have H := H1
    clear H1
    simp only [Option.some.injEq,Prod.mk.injEq] at H
    obtain ⟨rfl,rfl⟩ := H
    go_wp2
    go_ret2
    exact ⟨by first | rfl | (simp [errW_none,errW_some] <;> rfl) | (simp [*,errW_none,errW_some] <;> rfl),by repeat (first | (with_reducible first | exact HB.out | apply below_alloc | apply pw_below_drewN | apply below_drew1) | exact HB.out)⟩
   ·replace c6 := Bool.eq_false_iff.mpr c6
    subst c6
    have H1 : (halberdref13_Untime.l0 kj1 a0 0 0 0 0 0 0 0) = some (r1,r2) := by rw [if_neg (show ¬ (false = true) by decide)] at H; exact H
    clear H
    have H := H1
    clear H1
    have H' := Aside0.mk H
    clear H
    go_wp2_with (first | ((with_reducible refine gate_dst (N := 4) rfl ?_); refine box_event ?hg (N := 4) ?hd (cs := #[.int .i64 0,.int .i64 0,.int .i64 0,.int .i64 0,.int .i64 0,.int .i64 0]) (t := 55) ?hr ?_; (case hd => rfl); (case hg => rfl); (case hr => first | (go_simp; done) | (go_simp; rfl)); intro gb254 hg w7 hbox hb; have n0_ := Aside0.mk (below_step (by repeat (first | (with_reducible first | exact HB.out | apply below_alloc | apply pw_below_drewN | apply below_drew1) | exact HB.out)) hb); have n1_ := Aside0.mk (hbox); have n2_ := Aside0.mk ((by rw [hg]; exact (below_size (by repeat (first | (with_reducible first | exact HB.out | apply below_alloc | apply pw_below_drewN | apply below_drew1) | exact HB.out))) : w.heap.size ≤ gb254)); have n3_ := Aside0.mk ((by rw [hg]; exact (below_size (by repeat (first | (with_reducible first | exact HB.out | apply below_alloc | apply pw_below_drewN | apply below_drew1) | exact HB.out))) : w.heap.size ≤ gb254)); clear HB; have HB := n0_; have BK254 := n1_; have GW254 := n2_; have GE254 := n3_; clear n0_ n1_ n2_ n3_; clear hb hbox hg))
    go_loopg [5] kj1 (fun kq v5 w' => ∃ (x5_2 : Int) (zz0_2 : Int) (zz1_2 : Int) (zz2_2 : Int) (zz3_2 : Int) (zz4_2 : Int) (zz5_2 : Int),v5 = .int .i64 x5_2 ∧ Aside0 (halberdref13_Untime.l0 kq a0 x5_2 zz0_2 zz1_2 zz2_2 zz3_2 zz4_2 zz5_2 = some (r1,r2)) ∧ Aside0 (kq ≤ kj1) ∧ Aside0 (w'.heap[gb254]? = some (.cells #[.int .i64 zz0_2,.int .i64 zz1_2,.int .i64 zz2_2,.int .i64 zz3_2,.int .i64 zz4_2,.int .i64 zz5_2] 55 (0,0))) ∧ Aside0 (Below w.heap.size w w'))
    case atStart => exact ⟨(0),(0),(0),(0),(0),(0),(0),(by first | rfl | (simp; done) | (simp [*]; done)),H',⟨Nat.le_refl _⟩,⟨by (with_reducible repeat (first | refine blk_drewN ?_ _ | refine blk_drew ?_ | refine blk_alloc ?_ _)); exact BK254.out⟩,⟨by repeat (first | (with_reducible first | exact HB.out | apply below_alloc | apply pw_below_drewN | apply below_drew1 | refine below_set ?_ GE254.out) | exact HB.out)⟩⟩
    case round =>
     clear H'
     try clear c1
     try clear p2
     try clear c3
     try clear c3b0
     try clear c3b1
     try clear c4
     try clear c4b0
     try clear c4b1
     try clear p5
     try clear q5
     try clear hx5
     try clear qi5
     try clear c6
     try clear p2
     try clear p5
     try clear q5
     obtain ⟨x5_2,zz0_2,zz1_2,zz2_2,zz3_2,zz4_2,zz5_2,rfl,HA,HK2,BK254,HB⟩ := hrel
     cases gk with
     | zero => exact absurd HA.out (by simp [halberdref13_Untime.l0])
     | succ k2 =>
      have H := HA.out
      clear HA
      simp only [halberdref13_Untime.l0] at H
      by_cases c8 : x5_2 < 12
      ·rw [if_pos c8] at H
       have c8b0 : decide (x5_2 < 12) = true := decide_eq_true c8
       clear c8
       by_cases c9 : 0 ≤ x5_2
       ·rw [if_pos c9] at H
        have c9b0 : decide (0 ≤ x5_2) = true := decide_eq_true c9
        clear c9
        by_cases c10 : x5_2 < (a0.size : Int)
        ·rw [if_pos c10] at H
         have c10b0 : decide (x5_2 < (a0.size : Int)) = true := decide_eq_true c10
         clear c10
         by_cases c12 : (bt a0 x5_2) < 48
         ·rw [if_pos c12] at H
          have c12b0 : decide ((bt a0 x5_2) < 48) = true := decide_eq_true c12
          clear c12
          simp only [Option.some.injEq,Prod.mk.injEq] at H
          obtain ⟨rfl,rfl⟩ := H
          have p11 : 0 ≤ (x5_2 : Int) := of_decide_eq_true (by first | (with_reducible assumption) | assumption)
          have q11 : x5_2 < (a0.size : Int) := of_decide_eq_true (by first | (with_reducible assumption) | assumption)
          have hx11 := bt_at a0 x5_2
          replace p11 := eq_true p11
          replace q11 := eq_true q11
          go_wp2
          go_ret2
          exact ⟨by first | rfl | (simp [errW_none,errW_some] <;> rfl) | (simp [*,errW_none,errW_some] <;> rfl),by repeat (first | (with_reducible first | exact HB.out | apply below_alloc | apply pw_below_drewN | apply below_drew1 | refine below_set ?_ GE254.out) | exact HB.out)⟩
         ·rw [if_neg c12] at H
          have c12b0 : decide ((bt a0 x5_2) < 48) = false := decide_eq_false c12
          clear c12
          by_cases c14 : (bt a0 x5_2) > 57
          ·rw [if_pos c14] at H
           have c14b0 : decide (57 < (bt a0 x5_2)) = true := decide_eq_true c14
           clear c14
           simp only [Option.some.injEq,Prod.mk.injEq] at H
           obtain ⟨rfl,rfl⟩ := H
           have p11 : 0 ≤ (x5_2 : Int) := of_decide_eq_true (by first | (with_reducible assumption) | assumption)
           have q11 : x5_2 < (a0.size : Int) := of_decide_eq_true (by first | (with_reducible assumption) | assumption)
           have hx11 := bt_at a0 x5_2
           replace p11 := eq_true p11
           replace q11 := eq_true q11
           have p13 : 0 ≤ (x5_2 : Int) := of_decide_eq_true (by first | (with_reducible assumption) | assumption)
           have q13 : x5_2 < (a0.size : Int) := of_decide_eq_true (by first | (with_reducible assumption) | assumption)
           have hx13 := bt_at a0 x5_2
           replace p13 := eq_true p13
           replace q13 := eq_true q13
           go_wp2
           go_ret2
           exact ⟨by first | rfl | (simp [errW_none,errW_some] <;> rfl) | (simp [*,errW_none,errW_some] <;> rfl),by repeat (first | (with_reducible first | exact HB.out | apply below_alloc | apply pw_below_drewN | apply below_drew1 | refine below_set ?_ GE254.out) | exact HB.out)⟩
          ·rw [if_neg c14] at H
           have c14b0 : decide (57 < (bt a0 x5_2)) = false := decide_eq_false c14
           clear c14
           by_cases c15 : (wrap64 (Int.tdiv x5_2 2)) = 0
           ·rw [if_pos c15] at H
            have c15b0 : ((wrap64 (Int.tdiv x5_2 2)) == 0) = true := beq_iff_eq.mpr c15
            have c15b1 : ((wrap64 (Int.tdiv x5_2 2)) != 0) = false := bne_eq_false_iff_eq.mpr c15
            have H' := Aside0.mk H
            clear H
            have p11 : 0 ≤ (x5_2 : Int) := of_decide_eq_true (by first | (with_reducible assumption) | assumption)
            have q11 : x5_2 < (a0.size : Int) := of_decide_eq_true (by first | (with_reducible assumption) | assumption)
            have hx11 := bt_at a0 x5_2
            replace p11 := eq_true p11
            replace q11 := eq_true q11
            have p13 : 0 ≤ (x5_2 : Int) := of_decide_eq_true (by first | (with_reducible assumption) | assumption)
            have q13 : x5_2 < (a0.size : Int) := of_decide_eq_true (by first | (with_reducible assumption) | assumption)
            have hx13 := bt_at a0 x5_2
            replace p13 := eq_true p13
            replace q13 := eq_true q13
            try go_wp2
            have n0_ := Aside0.mk (blk_drew BK254.out)
            have n1_ := Aside0.mk (below_drew1 HB.out)
            clear BK254
            clear HB
            have BK254 := n0_
            have HB := n1_
            clear n0_ n1_
            have p16 : 0 ≤ (x5_2 : Int) := of_decide_eq_true (by first | (with_reducible assumption) | assumption)
            have q16 : x5_2 < (a0.size : Int) := of_decide_eq_true (by first | (with_reducible assumption) | assumption)
            have hx16 := bt_at a0 x5_2
            replace p16 := eq_true p16
            replace q16 := eq_true q16
            have hw8_ : ∀ x : Int,wrap64 (x % 256) = x % 256 := fun x => by unfold wrap64; omega
            refine start_ (n := 15) (S := fun w' => w'.cell? ⟨gb254,0,none⟩ = some (.int .i64 zz0_2) ∧ w'.cell? ⟨gb254,1,none⟩ = some (.int .i64 zz1_2) ∧ w'.cell? ⟨gb254,2,none⟩ = some (.int .i64 zz2_2) ∧ w'.cell? ⟨gb254,3,none⟩ = some (.int .i64 zz3_2) ∧ w'.cell? ⟨gb254,4,none⟩ = some (.int .i64 zz4_2) ∧ w'.cell? ⟨gb254,5,none⟩ = some (.int .i64 zz5_2)) (ds := [14]) AR15_1 (by kernel_rfl) rfl rfl ⟨(blk_cell BK254.out 0).trans rfl,(blk_cell BK254.out 1).trans rfl,(blk_cell BK254.out 2).trans rfl,(blk_cell BK254.out 3).trans rfl,(blk_cell BK254.out 4).trans rfl,(blk_cell BK254.out 5).trans rfl⟩ (fun hHeld => ?_); refine with_tabW halberdref13_Untime.tab9 halberdref13_Untime.bits9 (fun HT_ HW_ => ?_)
            generalize wr.drew = w17 at BK254 HB hHeld ⊢
            refine pure_ (i := 0) (N := some 32) (v := ?_) (a' := ?_) AR15_3 rfl rfl (any_of HT_.out (by kernel_rfl)) (fun _ _ _ h => h) (Or.inl ⟨by rfl,?_⟩) ?_ ?_; rotate_left; (· intro w'; go_simp; with_reducible rfl); rotate_left; (· simp only [Act.put,LSET15_]; rfl)
            refine pure_ (i := 1) (N := some 33) (v := ?_) (a' := ?_) AR15_5 rfl rfl (any_of HT_.out (by kernel_rfl)) (fun _ _ _ h => h) (Or.inl ⟨by rfl,?_⟩) ?_ ?_; rotate_left; (· intro w'; go_simp; with_reducible rfl); rotate_left; (· simp only [Act.put,LSET15_]; rfl)
            refine pure_ (i := 2) (N := some 34) (v := ?_) (a' := ?_) AR15_7 rfl rfl (any_of HT_.out (by kernel_rfl)) (fun _ _ _ h => h) (Or.inl ⟨by rfl,?_⟩) ?_ ?_; rotate_left; (· intro w'; go_simp; with_reducible rfl); rotate_left; (· simp only [Act.put,LSET15_]; rfl)
            refine pure_ (i := 3) (N := some 35) (v := ?_) (a' := ?_) AR15_9 rfl rfl (any_of HT_.out (by kernel_rfl)) (fun _ _ _ h => h) (Or.inl ⟨by rfl,?_⟩) ?_ ?_; rotate_left; (· intro w'; go_simp; with_reducible rfl); rotate_left; (· simp only [Act.put,LSET15_]; rfl)
            refine pure_ (i := 4) (N := some 36) (v := ?_) (a' := ?_) AR15_11 rfl rfl (any_of HT_.out (by kernel_rfl)) (fun _ _ _ h => h) (Or.inl ⟨by rfl,?_⟩) ?_ ?_; rotate_left; (· intro w'; go_simp; with_reducible rfl); rotate_left; (· simp only [Act.put,LSET15_]; rfl)
            refine pure_ (i := 7) (N := some 39) (v := ?_) (a' := ?_) AR15_12 rfl rfl (any_of HT_.out (by kernel_rfl)) (fun _ _ _ h => h) (Or.inl ⟨by rfl,?_⟩) ?_ ?_; rotate_left; (· intro w'; go_simp; with_reducible rfl); rotate_left; (· simp only [Act.put,LSET15_]; rfl)
            refine pure_ (i := 8) (N := some 40) (v := ?_) (a' := ?_) AR15_13 rfl rfl (any_of HT_.out (by kernel_rfl)) (fun _ _ _ h => h) (Or.inl ⟨by rfl,?_⟩) ?_ ?_; rotate_left; (· intro w'; go_simp; with_reducible rfl); rotate_left; (· simp only [Act.put,LSET15_]; rfl)
            refine take_ (i := 5) (N := some 37) (v := ?_) (a' := ?_) AR15_15 rfl rfl (take_ofW HT_.out HW_.out (by kernel_rfl)) (fun _ _ _ h => h) (Or.inl ⟨by rfl,?_⟩) hHeld ?_ ?_; rotate_left; (· rintro w' ⟨s0,s1,s2,s3,s4,s5⟩; go_simp; with_reducible rfl); rotate_left; (· simp only [Act.put,LSET15_]; rfl)
            refine pure_ (i := 6) (N := some 38) (v := ?_) (a' := ?_) AR15_19 rfl rfl (any_of HT_.out (by kernel_rfl)) (fun _ _ _ h => h) (Or.inl ⟨by rfl,?_⟩) ?_ ?_; rotate_left; (· intro w'; go_simp; with_reducible rfl); rotate_left; (· simp only [Act.put,LSET15_]; rfl)
            refine take_ (i := 9) (N := some 41) (v := ?_) (a' := ?_) AR15_21 rfl rfl (take_ofW HT_.out HW_.out (by kernel_rfl)) (fun _ _ _ h => h) (Or.inl ⟨by rfl,?_⟩) hHeld ?_ ?_; rotate_left; (· rintro w' ⟨s0,s1,s2,s3,s4,s5⟩; go_simp; with_reducible rfl); rotate_left; (· simp only [Act.put,LSET15_]; rfl)
            refine pure_ (i := 10) (N := some 42) (v := ?_) (a' := ?_) AR15_23 rfl rfl (any_of HT_.out (by kernel_rfl)) (fun _ _ _ h => h) (Or.inl ⟨by rfl,?_⟩) ?_ ?_; rotate_left; (· intro w'; go_simp; with_reducible rfl); rotate_left; (· simp only [Act.put,LSET15_]; rfl)
            refine pure_ (i := 11) (N := some 43) (v := ?_) (a' := ?_) AR15_25 rfl rfl (any_of HT_.out (by kernel_rfl)) (fun _ _ _ h => h) (Or.inl ⟨by rfl,?_⟩) ?_ ?_; rotate_left; (· intro w'; go_simp; with_reducible rfl); rotate_left; (· simp only [Act.put,LSET15_]; rfl)
            refine pure_ (i := 12) (N := some 44) (v := ?_) (a' := ?_) AR15_27 rfl rfl (any_of HT_.out (by kernel_rfl)) (fun _ _ _ h => h) (Or.inl ⟨by rfl,?_⟩) ?_ ?_; rotate_left; (· intro w'; go_simp; with_reducible rfl); rotate_left; (· simp only [Act.put,LSET15_]; rfl)
            refine pure_ (i := 13) (N := some 45) (v := ?_) (a' := ?_) AR15_29 rfl rfl (any_of HT_.out (by kernel_rfl)) (fun _ _ _ h => h) (Or.inl ⟨by rfl,?_⟩) ?_ ?_; rotate_left; (· intro w'; go_simp; with_reducible rfl); rotate_left; (· simp only [Act.put,LSET15_]; rfl)
            refine last_ (i := 14) (N := none) AR15_59 rfl rfl (one_of HT_.out (by kernel_rfl)) (by decide) (fun K hK => ?_)
            have hs18 : w17.cell? ⟨gb254,0,none⟩ = some (.int .i64 zz0_2) := (blk_cell BK254.out 0).trans rfl
            have hfs18 := blk_frozen BK254.out 0
            refine skip_ (w1 := ?_) (by rfl) rfl ?_ ?_
            rotate_left
            ·go_simp
             rfl
            refine hK.out _ _ ?_
            clear hK K
            refine done_ (done_of HT_.out (by kernel_rfl)) ?_
            try go_wp2
            go_roundg k2
            case measure => have := HJ1.out; have := HK2.out; omega
            case rel => exact ⟨(wrap64 (x5_2 + 1)),(wrap64 ((wrap64 (10 * zz0_2)) + (((bt a0 x5_2) - 48) % 256))),(zz1_2),(zz2_2),(zz3_2),(zz4_2),(zz5_2),(by first | rfl | (simp; done) | (simp [*]; done)),H',⟨by have := HJ1.out; have := HK2.out; omega⟩,⟨by (with_reducible repeat (first | refine blk_drewN ?_ _ | refine blk_drew ?_ | refine blk_alloc ?_ _)); refine blk_put (cs := #[.int .i64 zz0_2,.int .i64 zz1_2,.int .i64 zz2_2,.int .i64 zz3_2,.int .i64 zz4_2,.int .i64 zz5_2]) ?_ 0 _ (by first | rfl | (rw [hw8_]; rfl) | (simp [hw8_]; done)); (with_reducible repeat (first | refine blk_drewN ?_ _ | refine blk_drew ?_ | refine blk_alloc ?_ _)); exact BK254.out⟩,⟨by repeat (first | (with_reducible first | exact HB.out | apply below_alloc | apply pw_below_drewN | apply below_drew1 | refine below_set ?_ GE254.out) | exact HB.out)⟩⟩
           ·rw [if_neg c15] at H
            have c15b0 : ((wrap64 (Int.tdiv x5_2 2)) == 0) = false := beq_eq_false_iff_ne.mpr c15
            have c15b1 : ((wrap64 (Int.tdiv x5_2 2)) != 0) = true := bne_iff_ne.mpr c15
            by_cases c19 : (wrap64 (Int.tdiv x5_2 2)) = 1
            ·rw [if_pos c19] at H
             have c19b0 : ((wrap64 (Int.tdiv x5_2 2)) == 1) = true := beq_iff_eq.mpr c19
             have c19b1 : ((wrap64 (Int.tdiv x5_2 2)) != 1) = false := bne_eq_false_iff_eq.mpr c19
             have H' := Aside0.mk H
             clear H
             have p11 : 0 ≤ (x5_2 : Int) := of_decide_eq_true (by first | (with_reducible assumption) | assumption)
             have q11 : x5_2 < (a0.size : Int) := of_decide_eq_true (by first | (with_reducible assumption) | assumption)
             have hx11 := bt_at a0 x5_2
             replace p11 := eq_true p11
             replace q11 := eq_true q11
             have p13 : 0 ≤ (x5_2 : Int) := of_decide_eq_true (by first | (with_reducible assumption) | assumption)
             have q13 : x5_2 < (a0.size : Int) := of_decide_eq_true (by first | (with_reducible assumption) | assumption)
             have hx13 := bt_at a0 x5_2
             replace p13 := eq_true p13
             replace q13 := eq_true q13
             try go_wp2
             have n0_ := Aside0.mk (blk_drew BK254.out)
             have n1_ := Aside0.mk (below_drew1 HB.out)
             clear BK254
             clear HB
             have BK254 := n0_
             have HB := n1_
             clear n0_ n1_
             have p20 : 0 ≤ (x5_2 : Int) := of_decide_eq_true (by first | (with_reducible assumption) | assumption)
             have q20 : x5_2 < (a0.size : Int) := of_decide_eq_true (by first | (with_reducible assumption) | assumption)
             have hx20 := bt_at a0 x5_2
             replace p20 := eq_true p20
             replace q20 := eq_true q20
             have hw8_ : ∀ x : Int,wrap64 (x % 256) = x % 256 := fun x => by unfold wrap64; omega
             refine start_ (n := 15) (S := fun w' => w'.cell? ⟨gb254,0,none⟩ = some (.int .i64 zz0_2) ∧ w'.cell? ⟨gb254,1,none⟩ = some (.int .i64 zz1_2) ∧ w'.cell? ⟨gb254,2,none⟩ = some (.int .i64 zz2_2) ∧ w'.cell? ⟨gb254,3,none⟩ = some (.int .i64 zz3_2) ∧ w'.cell? ⟨gb254,4,none⟩ = some (.int .i64 zz4_2) ∧ w'.cell? ⟨gb254,5,none⟩ = some (.int .i64 zz5_2)) (ds := [14]) AR15_1 (by kernel_rfl) rfl rfl ⟨(blk_cell BK254.out 0).trans rfl,(blk_cell BK254.out 1).trans rfl,(blk_cell BK254.out 2).trans rfl,(blk_cell BK254.out 3).trans rfl,(blk_cell BK254.out 4).trans rfl,(blk_cell BK254.out 5).trans rfl⟩ (fun hHeld => ?_); refine with_tabW halberdref13_Untime.tab9 halberdref13_Untime.bits9 (fun HT_ HW_ => ?_)
             generalize wr.drew = w21 at BK254 HB hHeld ⊢
             refine pure_ (i := 0) (N := some 32) (v := ?_) (a' := ?_) AR15_3 rfl rfl (any_of HT_.out (by kernel_rfl)) (fun _ _ _ h => h) (Or.inl ⟨by rfl,?_⟩) ?_ ?_; rotate_left; (· intro w'; go_simp; with_reducible rfl); rotate_left; (· simp only [Act.put,LSET15_]; rfl)
             refine pure_ (i := 1) (N := some 33) (v := ?_) (a' := ?_) AR15_5 rfl rfl (any_of HT_.out (by kernel_rfl)) (fun _ _ _ h => h) (Or.inl ⟨by rfl,?_⟩) ?_ ?_; rotate_left; (· intro w'; go_simp; with_reducible rfl); rotate_left; (· simp only [Act.put,LSET15_]; rfl)
             refine pure_ (i := 2) (N := some 34) (v := ?_) (a' := ?_) AR15_7 rfl rfl (any_of HT_.out (by kernel_rfl)) (fun _ _ _ h => h) (Or.inl ⟨by rfl,?_⟩) ?_ ?_; rotate_left; (· intro w'; go_simp; with_reducible rfl); rotate_left; (· simp only [Act.put,LSET15_]; rfl)
             refine pure_ (i := 3) (N := some 35) (v := ?_) (a' := ?_) AR15_9 rfl rfl (any_of HT_.out (by kernel_rfl)) (fun _ _ _ h => h) (Or.inl ⟨by rfl,?_⟩) ?_ ?_; rotate_left; (· intro w'; go_simp; with_reducible rfl); rotate_left; (· simp only [Act.put,LSET15_]; rfl)
             refine pure_ (i := 4) (N := some 36) (v := ?_) (a' := ?_) AR15_11 rfl rfl (any_of HT_.out (by kernel_rfl)) (fun _ _ _ h => h) (Or.inl ⟨by rfl,?_⟩) ?_ ?_; rotate_left; (· intro w'; go_simp; with_reducible rfl); rotate_left; (· simp only [Act.put,LSET15_]; rfl)
             refine pure_ (i := 7) (N := some 39) (v := ?_) (a' := ?_) AR15_12 rfl rfl (any_of HT_.out (by kernel_rfl)) (fun _ _ _ h => h) (Or.inl ⟨by rfl,?_⟩) ?_ ?_; rotate_left; (· intro w'; go_simp; with_reducible rfl); rotate_left; (· simp only [Act.put,LSET15_]; rfl)
             refine pure_ (i := 8) (N := some 40) (v := ?_) (a' := ?_) AR15_13 rfl rfl (any_of HT_.out (by kernel_rfl)) (fun _ _ _ h => h) (Or.inl ⟨by rfl,?_⟩) ?_ ?_; rotate_left; (· intro w'; go_simp; with_reducible rfl); rotate_left; (· simp only [Act.put,LSET15_]; rfl)
             refine take_ (i := 5) (N := some 37) (v := ?_) (a' := ?_) AR15_15 rfl rfl (take_ofW HT_.out HW_.out (by kernel_rfl)) (fun _ _ _ h => h) (Or.inl ⟨by rfl,?_⟩) hHeld ?_ ?_; rotate_left; (· rintro w' ⟨s0,s1,s2,s3,s4,s5⟩; go_simp; with_reducible rfl); rotate_left; (· simp only [Act.put,LSET15_]; rfl)
             refine pure_ (i := 6) (N := some 38) (v := ?_) (a' := ?_) AR15_19 rfl rfl (any_of HT_.out (by kernel_rfl)) (fun _ _ _ h => h) (Or.inl ⟨by rfl,?_⟩) ?_ ?_; rotate_left; (· intro w'; go_simp; with_reducible rfl); rotate_left; (· simp only [Act.put,LSET15_]; rfl)
             refine take_ (i := 9) (N := some 41) (v := ?_) (a' := ?_) AR15_21 rfl rfl (take_ofW HT_.out HW_.out (by kernel_rfl)) (fun _ _ _ h => h) (Or.inl ⟨by rfl,?_⟩) hHeld ?_ ?_; rotate_left; (· rintro w' ⟨s0,s1,s2,s3,s4,s5⟩; go_simp; with_reducible rfl); rotate_left; (· simp only [Act.put,LSET15_]; rfl)
             refine pure_ (i := 10) (N := some 42) (v := ?_) (a' := ?_) AR15_23 rfl rfl (any_of HT_.out (by kernel_rfl)) (fun _ _ _ h => h) (Or.inl ⟨by rfl,?_⟩) ?_ ?_; rotate_left; (· intro w'; go_simp; with_reducible rfl); rotate_left; (· simp only [Act.put,LSET15_]; rfl)
             refine pure_ (i := 11) (N := some 43) (v := ?_) (a' := ?_) AR15_25 rfl rfl (any_of HT_.out (by kernel_rfl)) (fun _ _ _ h => h) (Or.inl ⟨by rfl,?_⟩) ?_ ?_; rotate_left; (· intro w'; go_simp; with_reducible rfl); rotate_left; (· simp only [Act.put,LSET15_]; rfl)
             refine pure_ (i := 12) (N := some 44) (v := ?_) (a' := ?_) AR15_27 rfl rfl (any_of HT_.out (by kernel_rfl)) (fun _ _ _ h => h) (Or.inl ⟨by rfl,?_⟩) ?_ ?_; rotate_left; (· intro w'; go_simp; with_reducible rfl); rotate_left; (· simp only [Act.put,LSET15_]; rfl)
             refine pure_ (i := 13) (N := some 45) (v := ?_) (a' := ?_) AR15_29 rfl rfl (any_of HT_.out (by kernel_rfl)) (fun _ _ _ h => h) (Or.inl ⟨by rfl,?_⟩) ?_ ?_; rotate_left; (· intro w'; go_simp; with_reducible rfl); rotate_left; (· simp only [Act.put,LSET15_]; rfl)
             refine last_ (i := 14) (N := none) AR15_59 rfl rfl (one_of HT_.out (by kernel_rfl)) (by decide) (fun K hK => ?_)
             have hs22 : w21.cell? ⟨gb254,1,none⟩ = some (.int .i64 zz1_2) := (blk_cell BK254.out 1).trans rfl
             have hfs22 := blk_frozen BK254.out 1
             refine skip_ (w1 := ?_) (by rfl) rfl ?_ ?_
             rotate_left
             ·go_simp
              rfl
             refine hK.out _ _ ?_
             clear hK K
             refine done_ (done_of HT_.out (by kernel_rfl)) ?_
             try go_wp2
             go_roundg k2
             case measure => have := HJ1.out; have := HK2.out; omega
             case rel => exact ⟨(wrap64 (x5_2 + 1)),(zz0_2),(wrap64 ((wrap64 (10 * zz1_2)) + (((bt a0 x5_2) - 48) % 256))),(zz2_2),(zz3_2),(zz4_2),(zz5_2),(by first | rfl | (simp; done) | (simp [*]; done)),H',⟨by have := HJ1.out; have := HK2.out; omega⟩,⟨by (with_reducible repeat (first | refine blk_drewN ?_ _ | refine blk_drew ?_ | refine blk_alloc ?_ _)); refine blk_put (cs := #[.int .i64 zz0_2,.int .i64 zz1_2,.int .i64 zz2_2,.int .i64 zz3_2,.int .i64 zz4_2,.int .i64 zz5_2]) ?_ 1 _ (by first | rfl | (rw [hw8_]; rfl) | (simp [hw8_]; done)); (with_reducible repeat (first | refine blk_drewN ?_ _ | refine blk_drew ?_ | refine blk_alloc ?_ _)); exact BK254.out⟩,⟨by repeat (first | (with_reducible first | exact HB.out | apply below_alloc | apply pw_below_drewN | apply below_drew1 | refine below_set ?_ GE254.out) | exact HB.out)⟩⟩
            ·rw [if_neg c19] at H
             have c19b0 : ((wrap64 (Int.tdiv x5_2 2)) == 1) = false := beq_eq_false_iff_ne.mpr c19
             have c19b1 : ((wrap64 (Int.tdiv x5_2 2)) != 1) = true := bne_iff_ne.mpr c19
             by_cases c23 : (wrap64 (Int.tdiv x5_2 2)) = 2
             ·rw [if_pos c23] at H
              have c23b0 : ((wrap64 (Int.tdiv x5_2 2)) == 2) = true := beq_iff_eq.mpr c23
              have c23b1 : ((wrap64 (Int.tdiv x5_2 2)) != 2) = false := bne_eq_false_iff_eq.mpr c23
              have H' := Aside0.mk H
              clear H
              have p11 : 0 ≤ (x5_2 : Int) := of_decide_eq_true (by first | (with_reducible assumption) | assumption)
              have q11 : x5_2 < (a0.size : Int) := of_decide_eq_true (by first | (with_reducible assumption) | assumption)
              have hx11 := bt_at a0 x5_2
              replace p11 := eq_true p11
              replace q11 := eq_true q11
              have p13 : 0 ≤ (x5_2 : Int) := of_decide_eq_true (by first | (with_reducible assumption) | assumption)
              have q13 : x5_2 < (a0.size : Int) := of_decide_eq_true (by first | (with_reducible assumption) | assumption)
              have hx13 := bt_at a0 x5_2
              replace p13 := eq_true p13
              replace q13 := eq_true q13
              try go_wp2
              have n0_ := Aside0.mk (blk_drew BK254.out)
              have n1_ := Aside0.mk (below_drew1 HB.out)
              clear BK254
              clear HB
              have BK254 := n0_
              have HB := n1_
              clear n0_ n1_
              have p24 : 0 ≤ (x5_2 : Int) := of_decide_eq_true (by first | (with_reducible assumption) | assumption)
              have q24 : x5_2 < (a0.size : Int) := of_decide_eq_true (by first | (with_reducible assumption) | assumption)
              have hx24 := bt_at a0 x5_2
              replace p24 := eq_true p24
              replace q24 := eq_true q24
              have hw8_ : ∀ x : Int,wrap64 (x % 256) = x % 256 := fun x => by unfold wrap64; omega
              refine start_ (n := 15) (S := fun w' => w'.cell? ⟨gb254,0,none⟩ = some (.int .i64 zz0_2) ∧ w'.cell? ⟨gb254,1,none⟩ = some (.int .i64 zz1_2) ∧ w'.cell? ⟨gb254,2,none⟩ = some (.int .i64 zz2_2) ∧ w'.cell? ⟨gb254,3,none⟩ = some (.int .i64 zz3_2) ∧ w'.cell? ⟨gb254,4,none⟩ = some (.int .i64 zz4_2) ∧ w'.cell? ⟨gb254,5,none⟩ = some (.int .i64 zz5_2)) (ds := [14]) AR15_1 (by kernel_rfl) rfl rfl ⟨(blk_cell BK254.out 0).trans rfl,(blk_cell BK254.out 1).trans rfl,(blk_cell BK254.out 2).trans rfl,(blk_cell BK254.out 3).trans rfl,(blk_cell BK254.out 4).trans rfl,(blk_cell BK254.out 5).trans rfl⟩ (fun hHeld => ?_); refine with_tabW halberdref13_Untime.tab9 halberdref13_Untime.bits9 (fun HT_ HW_ => ?_)
              generalize wr.drew = w25 at BK254 HB hHeld ⊢
              refine pure_ (i := 0) (N := some 32) (v := ?_) (a' := ?_) AR15_3 rfl rfl (any_of HT_.out (by kernel_rfl)) (fun _ _ _ h => h) (Or.inl ⟨by rfl,?_⟩) ?_ ?_; rotate_left; (· intro w'; go_simp; with_reducible rfl); rotate_left; (· simp only [Act.put,LSET15_]; rfl)
              refine pure_ (i := 1) (N := some 33) (v := ?_) (a' := ?_) AR15_5 rfl rfl (any_of HT_.out (by kernel_rfl)) (fun _ _ _ h => h) (Or.inl ⟨by rfl,?_⟩) ?_ ?_; rotate_left; (· intro w'; go_simp; with_reducible rfl); rotate_left; (· simp only [Act.put,LSET15_]; rfl)
              refine pure_ (i := 2) (N := some 34) (v := ?_) (a' := ?_) AR15_7 rfl rfl (any_of HT_.out (by kernel_rfl)) (fun _ _ _ h => h) (Or.inl ⟨by rfl,?_⟩) ?_ ?_; rotate_left; (· intro w'; go_simp; with_reducible rfl); rotate_left; (· simp only [Act.put,LSET15_]; rfl)
              refine pure_ (i := 3) (N := some 35) (v := ?_) (a' := ?_) AR15_9 rfl rfl (any_of HT_.out (by kernel_rfl)) (fun _ _ _ h => h) (Or.inl ⟨by rfl,?_⟩) ?_ ?_; rotate_left; (· intro w'; go_simp; with_reducible rfl); rotate_left; (· simp only [Act.put,LSET15_]; rfl)
              refine pure_ (i := 4) (N := some 36) (v := ?_) (a' := ?_) AR15_11 rfl rfl (any_of HT_.out (by kernel_rfl)) (fun _ _ _ h => h) (Or.inl ⟨by rfl,?_⟩) ?_ ?_; rotate_left; (· intro w'; go_simp; with_reducible rfl); rotate_left; (· simp only [Act.put,LSET15_]; rfl)
              refine pure_ (i := 7) (N := some 39) (v := ?_) (a' := ?_) AR15_12 rfl rfl (any_of HT_.out (by kernel_rfl)) (fun _ _ _ h => h) (Or.inl ⟨by rfl,?_⟩) ?_ ?_; rotate_left; (· intro w'; go_simp; with_reducible rfl); rotate_left; (· simp only [Act.put,LSET15_]; rfl)
              refine pure_ (i := 8) (N := some 40) (v := ?_) (a' := ?_) AR15_13 rfl rfl (any_of HT_.out (by kernel_rfl)) (fun _ _ _ h => h) (Or.inl ⟨by rfl,?_⟩) ?_ ?_; rotate_left; (· intro w'; go_simp; with_reducible rfl); rotate_left; (· simp only [Act.put,LSET15_]; rfl)
              refine take_ (i := 5) (N := some 37) (v := ?_) (a' := ?_) AR15_15 rfl rfl (take_ofW HT_.out HW_.out (by kernel_rfl)) (fun _ _ _ h => h) (Or.inl ⟨by rfl,?_⟩) hHeld ?_ ?_; rotate_left; (· rintro w' ⟨s0,s1,s2,s3,s4,s5⟩; go_simp; with_reducible rfl); rotate_left; (· simp only [Act.put,LSET15_]; rfl)
              refine pure_ (i := 6) (N := some 38) (v := ?_) (a' := ?_) AR15_19 rfl rfl (any_of HT_.out (by kernel_rfl)) (fun _ _ _ h => h) (Or.inl ⟨by rfl,?_⟩) ?_ ?_; rotate_left; (· intro w'; go_simp; with_reducible rfl); rotate_left; (· simp only [Act.put,LSET15_]; rfl)
              refine take_ (i := 9) (N := some 41) (v := ?_) (a' := ?_) AR15_21 rfl rfl (take_ofW HT_.out HW_.out (by kernel_rfl)) (fun _ _ _ h => h) (Or.inl ⟨by rfl,?_⟩) hHeld ?_ ?_; rotate_left; (· rintro w' ⟨s0,s1,s2,s3,s4,s5⟩; go_simp; with_reducible rfl); rotate_left; (· simp only [Act.put,LSET15_]; rfl)
              refine pure_ (i := 10) (N := some 42) (v := ?_) (a' := ?_) AR15_23 rfl rfl (any_of HT_.out (by kernel_rfl)) (fun _ _ _ h => h) (Or.inl ⟨by rfl,?_⟩) ?_ ?_; rotate_left; (· intro w'; go_simp; with_reducible rfl); rotate_left; (· simp only [Act.put,LSET15_]; rfl)
              refine pure_ (i := 11) (N := some 43) (v := ?_) (a' := ?_) AR15_25 rfl rfl (any_of HT_.out (by kernel_rfl)) (fun _ _ _ h => h) (Or.inl ⟨by rfl,?_⟩) ?_ ?_; rotate_left; (· intro w'; go_simp; with_reducible rfl); rotate_left; (· simp only [Act.put,LSET15_]; rfl)
              refine pure_ (i := 12) (N := some 44) (v := ?_) (a' := ?_) AR15_27 rfl rfl (any_of HT_.out (by kernel_rfl)) (fun _ _ _ h => h) (Or.inl ⟨by rfl,?_⟩) ?_ ?_; rotate_left; (· intro w'; go_simp; with_reducible rfl); rotate_left; (· simp only [Act.put,LSET15_]; rfl)
              refine pure_ (i := 13) (N := some 45) (v := ?_) (a' := ?_) AR15_29 rfl rfl (any_of HT_.out (by kernel_rfl)) (fun _ _ _ h => h) (Or.inl ⟨by rfl,?_⟩) ?_ ?_; rotate_left; (· intro w'; go_simp; with_reducible rfl); rotate_left; (· simp only [Act.put,LSET15_]; rfl)
              refine last_ (i := 14) (N := none) AR15_59 rfl rfl (one_of HT_.out (by kernel_rfl)) (by decide) (fun K hK => ?_)
              have hs26 : w25.cell? ⟨gb254,2,none⟩ = some (.int .i64 zz2_2) := (blk_cell BK254.out 2).trans rfl
              have hfs26 := blk_frozen BK254.out 2
              refine skip_ (w1 := ?_) (by rfl) rfl ?_ ?_
              rotate_left
              ·go_simp
               rfl
              refine hK.out _ _ ?_
              clear hK K
              refine done_ (done_of HT_.out (by kernel_rfl)) ?_
              try go_wp2
              go_roundg k2
              case measure => have := HJ1.out; have := HK2.out; omega
              case rel => exact ⟨(wrap64 (x5_2 + 1)),(zz0_2),(zz1_2),(wrap64 ((wrap64 (10 * zz2_2)) + (((bt a0 x5_2) - 48) % 256))),(zz3_2),(zz4_2),(zz5_2),(by first | rfl | (simp; done) | (simp [*]; done)),H',⟨by have := HJ1.out; have := HK2.out; omega⟩,⟨by (with_reducible repeat (first | refine blk_drewN ?_ _ | refine blk_drew ?_ | refine blk_alloc ?_ _)); refine blk_put (cs := #[.int .i64 zz0_2,.int .i64 zz1_2,.int .i64 zz2_2,.int .i64 zz3_2,.int .i64 zz4_2,.int .i64 zz5_2]) ?_ 2 _ (by first | rfl | (rw [hw8_]; rfl) | (simp [hw8_]; done)); (with_reducible repeat (first | refine blk_drewN ?_ _ | refine blk_drew ?_ | refine blk_alloc ?_ _)); exact BK254.out⟩,⟨by repeat (first | (with_reducible first | exact HB.out | apply below_alloc | apply pw_below_drewN | apply below_drew1 | refine below_set ?_ GE254.out) | exact HB.out)⟩⟩
             ·rw [if_neg c23] at H
              have c23b0 : ((wrap64 (Int.tdiv x5_2 2)) == 2) = false := beq_eq_false_iff_ne.mpr c23
              have c23b1 : ((wrap64 (Int.tdiv x5_2 2)) != 2) = true := bne_iff_ne.mpr c23
              by_cases c27 : (wrap64 (Int.tdiv x5_2 2)) = 3
              ·rw [if_pos c27] at H
               have c27b0 : ((wrap64 (Int.tdiv x5_2 2)) == 3) = true := beq_iff_eq.mpr c27
               have c27b1 : ((wrap64 (Int.tdiv x5_2 2)) != 3) = false := bne_eq_false_iff_eq.mpr c27
               have H' := Aside0.mk H
               clear H
               have p11 : 0 ≤ (x5_2 : Int) := of_decide_eq_true (by first | (with_reducible assumption) | assumption)
               have q11 : x5_2 < (a0.size : Int) := of_decide_eq_true (by first | (with_reducible assumption) | assumption)
               have hx11 := bt_at a0 x5_2
               replace p11 := eq_true p11
               replace q11 := eq_true q11
               have p13 : 0 ≤ (x5_2 : Int) := of_decide_eq_true (by first | (with_reducible assumption) | assumption)
               have q13 : x5_2 < (a0.size : Int) := of_decide_eq_true (by first | (with_reducible assumption) | assumption)
               have hx13 := bt_at a0 x5_2
               replace p13 := eq_true p13
               replace q13 := eq_true q13
               try go_wp2
               have n0_ := Aside0.mk (blk_drew BK254.out)
               have n1_ := Aside0.mk (below_drew1 HB.out)
               clear BK254
               clear HB
               have BK254 := n0_
               have HB := n1_
               clear n0_ n1_
               have p28 : 0 ≤ (x5_2 : Int) := of_decide_eq_true (by first | (with_reducible assumption) | assumption)
               have q28 : x5_2 < (a0.size : Int) := of_decide_eq_true (by first | (with_reducible assumption) | assumption)
               have hx28 := bt_at a0 x5_2
               replace p28 := eq_true p28
               replace q28 := eq_true q28
               have hw8_ : ∀ x : Int,wrap64 (x % 256) = x % 256 := fun x => by unfold wrap64; omega
               refine start_ (n := 15) (S := fun w' => w'.cell? ⟨gb254,0,none⟩ = some (.int .i64 zz0_2) ∧ w'.cell? ⟨gb254,1,none⟩ = some (.int .i64 zz1_2) ∧ w'.cell? ⟨gb254,2,none⟩ = some (.int .i64 zz2_2) ∧ w'.cell? ⟨gb254,3,none⟩ = some (.int .i64 zz3_2) ∧ w'.cell? ⟨gb254,4,none⟩ = some (.int .i64 zz4_2) ∧ w'.cell? ⟨gb254,5,none⟩ = some (.int .i64 zz5_2)) (ds := [14]) AR15_1 (by kernel_rfl) rfl rfl ⟨(blk_cell BK254.out 0).trans rfl,(blk_cell BK254.out 1).trans rfl,(blk_cell BK254.out 2).trans rfl,(blk_cell BK254.out 3).trans rfl,(blk_cell BK254.out 4).trans rfl,(blk_cell BK254.out 5).trans rfl⟩ (fun hHeld => ?_); refine with_tabW halberdref13_Untime.tab9 halberdref13_Untime.bits9 (fun HT_ HW_ => ?_)
               generalize wr.drew = w29 at BK254 HB hHeld ⊢
               refine pure_ (i := 0) (N := some 32) (v := ?_) (a' := ?_) AR15_3 rfl rfl (any_of HT_.out (by kernel_rfl)) (fun _ _ _ h => h) (Or.inl ⟨by rfl,?_⟩) ?_ ?_; rotate_left; (· intro w'; go_simp; with_reducible rfl); rotate_left; (· simp only [Act.put,LSET15_]; rfl)
               refine pure_ (i := 1) (N := some 33) (v := ?_) (a' := ?_) AR15_5 rfl rfl (any_of HT_.out (by kernel_rfl)) (fun _ _ _ h => h) (Or.inl ⟨by rfl,?_⟩) ?_ ?_; rotate_left; (· intro w'; go_simp; with_reducible rfl); rotate_left; (· simp only [Act.put,LSET15_]; rfl)
               refine pure_ (i := 2) (N := some 34) (v := ?_) (a' := ?_) AR15_7 rfl rfl (any_of HT_.out (by kernel_rfl)) (fun _ _ _ h => h) (Or.inl ⟨by rfl,?_⟩) ?_ ?_; rotate_left; (· intro w'; go_simp; with_reducible rfl); rotate_left; (· simp only [Act.put,LSET15_]; rfl)
               refine pure_ (i := 3) (N := some 35) (v := ?_) (a' := ?_) AR15_9 rfl rfl (any_of HT_.out (by kernel_rfl)) (fun _ _ _ h => h) (Or.inl ⟨by rfl,?_⟩) ?_ ?_; rotate_left; (· intro w'; go_simp; with_reducible rfl); rotate_left; (· simp only [Act.put,LSET15_]; rfl)
               refine pure_ (i := 4) (N := some 36) (v := ?_) (a' := ?_) AR15_11 rfl rfl (any_of HT_.out (by kernel_rfl)) (fun _ _ _ h => h) (Or.inl ⟨by rfl,?_⟩) ?_ ?_; rotate_left; (· intro w'; go_simp; with_reducible rfl); rotate_left; (· simp only [Act.put,LSET15_]; rfl)
               refine pure_ (i := 7) (N := some 39) (v := ?_) (a' := ?_) AR15_12 rfl rfl (any_of HT_.out (by kernel_rfl)) (fun _ _ _ h => h) (Or.inl ⟨by rfl,?_⟩) ?_ ?_; rotate_left; (· intro w'; go_simp; with_reducible rfl); rotate_left; (· simp only [Act.put,LSET15_]; rfl)
               refine pure_ (i := 8) (N := some 40) (v := ?_) (a' := ?_) AR15_13 rfl rfl (any_of HT_.out (by kernel_rfl)) (fun _ _ _ h => h) (Or.inl ⟨by rfl,?_⟩) ?_ ?_; rotate_left; (· intro w'; go_simp; with_reducible rfl); rotate_left; (· simp only [Act.put,LSET15_]; rfl)
               refine take_ (i := 5) (N := some 37) (v := ?_) (a' := ?_) AR15_15 rfl rfl (take_ofW HT_.out HW_.out (by kernel_rfl)) (fun _ _ _ h => h) (Or.inl ⟨by rfl,?_⟩) hHeld ?_ ?_; rotate_left; (· rintro w' ⟨s0,s1,s2,s3,s4,s5⟩; go_simp; with_reducible rfl); rotate_left; (· simp only [Act.put,LSET15_]; rfl)
               refine pure_ (i := 6) (N := some 38) (v := ?_) (a' := ?_) AR15_19 rfl rfl (any_of HT_.out (by kernel_rfl)) (fun _ _ _ h => h) (Or.inl ⟨by rfl,?_⟩) ?_ ?_; rotate_left; (· intro w'; go_simp; with_reducible rfl); rotate_left; (· simp only [Act.put,LSET15_]; rfl)
               refine take_ (i := 9) (N := some 41) (v := ?_) (a' := ?_) AR15_21 rfl rfl (take_ofW HT_.out HW_.out (by kernel_rfl)) (fun _ _ _ h => h) (Or.inl ⟨by rfl,?_⟩) hHeld ?_ ?_; rotate_left; (· rintro w' ⟨s0,s1,s2,s3,s4,s5⟩; go_simp; with_reducible rfl); rotate_left; (· simp only [Act.put,LSET15_]; rfl)
               refine pure_ (i := 10) (N := some 42) (v := ?_) (a' := ?_) AR15_23 rfl rfl (any_of HT_.out (by kernel_rfl)) (fun _ _ _ h => h) (Or.inl ⟨by rfl,?_⟩) ?_ ?_; rotate_left; (· intro w'; go_simp; with_reducible rfl); rotate_left; (· simp only [Act.put,LSET15_]; rfl)
               refine pure_ (i := 11) (N := some 43) (v := ?_) (a' := ?_) AR15_25 rfl rfl (any_of HT_.out (by kernel_rfl)) (fun _ _ _ h => h) (Or.inl ⟨by rfl,?_⟩) ?_ ?_; rotate_left; (· intro w'; go_simp; with_reducible rfl); rotate_left; (· simp only [Act.put,LSET15_]; rfl)
               refine pure_ (i := 12) (N := some 44) (v := ?_) (a' := ?_) AR15_27 rfl rfl (any_of HT_.out (by kernel_rfl)) (fun _ _ _ h => h) (Or.inl ⟨by rfl,?_⟩) ?_ ?_; rotate_left; (· intro w'; go_simp; with_reducible rfl); rotate_left; (· simp only [Act.put,LSET15_]; rfl)
               refine pure_ (i := 13) (N := some 45) (v := ?_) (a' := ?_) AR15_29 rfl rfl (any_of HT_.out (by kernel_rfl)) (fun _ _ _ h => h) (Or.inl ⟨by rfl,?_⟩) ?_ ?_; rotate_left; (· intro w'; go_simp; with_reducible rfl); rotate_left; (· simp only [Act.put,LSET15_]; rfl)
               refine last_ (i := 14) (N := none) AR15_59 rfl rfl (one_of HT_.out (by kernel_rfl)) (by decide) (fun K hK => ?_)
               have hs30 : w29.cell? ⟨gb254,3,none⟩ = some (.int .i64 zz3_2) := (blk_cell BK254.out 3).trans rfl
               have hfs30 := blk_frozen BK254.out 3
               refine skip_ (w1 := ?_) (by rfl) rfl ?_ ?_
               rotate_left
               ·go_simp
                rfl
               refine hK.out _ _ ?_
               clear hK K
               refine done_ (done_of HT_.out (by kernel_rfl)) ?_
               try go_wp2
               go_roundg k2
               case measure => have := HJ1.out; have := HK2.out; omega
               case rel => exact ⟨(wrap64 (x5_2 + 1)),(zz0_2),(zz1_2),(zz2_2),(wrap64 ((wrap64 (10 * zz3_2)) + (((bt a0 x5_2) - 48) % 256))),(zz4_2),(zz5_2),(by first | rfl | (simp; done) | (simp [*]; done)),H',⟨by have := HJ1.out; have := HK2.out; omega⟩,⟨by (with_reducible repeat (first | refine blk_drewN ?_ _ | refine blk_drew ?_ | refine blk_alloc ?_ _)); refine blk_put (cs := #[.int .i64 zz0_2,.int .i64 zz1_2,.int .i64 zz2_2,.int .i64 zz3_2,.int .i64 zz4_2,.int .i64 zz5_2]) ?_ 3 _ (by first | rfl | (rw [hw8_]; rfl) | (simp [hw8_]; done)); (with_reducible repeat (first | refine blk_drewN ?_ _ | refine blk_drew ?_ | refine blk_alloc ?_ _)); exact BK254.out⟩,⟨by repeat (first | (with_reducible first | exact HB.out | apply below_alloc | apply pw_below_drewN | apply below_drew1 | refine below_set ?_ GE254.out) | exact HB.out)⟩⟩
              ·rw [if_neg c27] at H
               have c27b0 : ((wrap64 (Int.tdiv x5_2 2)) == 3) = false := beq_eq_false_iff_ne.mpr c27
               have c27b1 : ((wrap64 (Int.tdiv x5_2 2)) != 3) = true := bne_iff_ne.mpr c27
               by_cases c31 : (wrap64 (Int.tdiv x5_2 2)) = 4
               ·rw [if_pos c31] at H
                have c31b0 : ((wrap64 (Int.tdiv x5_2 2)) == 4) = true := beq_iff_eq.mpr c31
                have c31b1 : ((wrap64 (Int.tdiv x5_2 2)) != 4) = false := bne_eq_false_iff_eq.mpr c31
                have H' := Aside0.mk H
                clear H
                have p11 : 0 ≤ (x5_2 : Int) := of_decide_eq_true (by first | (with_reducible assumption) | assumption)
                have q11 : x5_2 < (a0.size : Int) := of_decide_eq_true (by first | (with_reducible assumption) | assumption)
                have hx11 := bt_at a0 x5_2
                replace p11 := eq_true p11
                replace q11 := eq_true q11
                have p13 : 0 ≤ (x5_2 : Int) := of_decide_eq_true (by first | (with_reducible assumption) | assumption)
                have q13 : x5_2 < (a0.size : Int) := of_decide_eq_true (by first | (with_reducible assumption) | assumption)
                have hx13 := bt_at a0 x5_2
                replace p13 := eq_true p13
                replace q13 := eq_true q13
                try go_wp2
                have n0_ := Aside0.mk (blk_drew BK254.out)
                have n1_ := Aside0.mk (below_drew1 HB.out)
                clear BK254
                clear HB
                have BK254 := n0_
                have HB := n1_
                clear n0_ n1_
                have p32 : 0 ≤ (x5_2 : Int) := of_decide_eq_true (by first | (with_reducible assumption) | assumption)
                have q32 : x5_2 < (a0.size : Int) := of_decide_eq_true (by first | (with_reducible assumption) | assumption)
                have hx32 := bt_at a0 x5_2
                replace p32 := eq_true p32
                replace q32 := eq_true q32
                have hw8_ : ∀ x : Int,wrap64 (x % 256) = x % 256 := fun x => by unfold wrap64; omega
                refine start_ (n := 15) (S := fun w' => w'.cell? ⟨gb254,0,none⟩ = some (.int .i64 zz0_2) ∧ w'.cell? ⟨gb254,1,none⟩ = some (.int .i64 zz1_2) ∧ w'.cell? ⟨gb254,2,none⟩ = some (.int .i64 zz2_2) ∧ w'.cell? ⟨gb254,3,none⟩ = some (.int .i64 zz3_2) ∧ w'.cell? ⟨gb254,4,none⟩ = some (.int .i64 zz4_2) ∧ w'.cell? ⟨gb254,5,none⟩ = some (.int .i64 zz5_2)) (ds := [14]) AR15_1 (by kernel_rfl) rfl rfl ⟨(blk_cell BK254.out 0).trans rfl,(blk_cell BK254.out 1).trans rfl,(blk_cell BK254.out 2).trans rfl,(blk_cell BK254.out 3).trans rfl,(blk_cell BK254.out 4).trans rfl,(blk_cell BK254.out 5).trans rfl⟩ (fun hHeld => ?_); refine with_tabW halberdref13_Untime.tab9 halberdref13_Untime.bits9 (fun HT_ HW_ => ?_)
                generalize wr.drew = w33 at BK254 HB hHeld ⊢
                refine pure_ (i := 0) (N := some 32) (v := ?_) (a' := ?_) AR15_3 rfl rfl (any_of HT_.out (by kernel_rfl)) (fun _ _ _ h => h) (Or.inl ⟨by rfl,?_⟩) ?_ ?_; rotate_left; (· intro w'; go_simp; with_reducible rfl); rotate_left; (· simp only [Act.put,LSET15_]; rfl)
                refine pure_ (i := 1) (N := some 33) (v := ?_) (a' := ?_) AR15_5 rfl rfl (any_of HT_.out (by kernel_rfl)) (fun _ _ _ h => h) (Or.inl ⟨by rfl,?_⟩) ?_ ?_; rotate_left; (· intro w'; go_simp; with_reducible rfl); rotate_left; (· simp only [Act.put,LSET15_]; rfl)
                refine pure_ (i := 2) (N := some 34) (v := ?_) (a' := ?_) AR15_7 rfl rfl (any_of HT_.out (by kernel_rfl)) (fun _ _ _ h => h) (Or.inl ⟨by rfl,?_⟩) ?_ ?_; rotate_left; (· intro w'; go_simp; with_reducible rfl); rotate_left; (· simp only [Act.put,LSET15_]; rfl)
                refine pure_ (i := 3) (N := some 35) (v := ?_) (a' := ?_) AR15_9 rfl rfl (any_of HT_.out (by kernel_rfl)) (fun _ _ _ h => h) (Or.inl ⟨by rfl,?_⟩) ?_ ?_; rotate_left; (· intro w'; go_simp; with_reducible rfl); rotate_left; (· simp only [Act.put,LSET15_]; rfl)
                refine pure_ (i := 4) (N := some 36) (v := ?_) (a' := ?_) AR15_11 rfl rfl (any_of HT_.out (by kernel_rfl)) (fun _ _ _ h => h) (Or.inl ⟨by rfl,?_⟩) ?_ ?_; rotate_left; (· intro w'; go_simp; with_reducible rfl); rotate_left; (· simp only [Act.put,LSET15_]; rfl)
                refine pure_ (i := 7) (N := some 39) (v := ?_) (a' := ?_) AR15_12 rfl rfl (any_of HT_.out (by kernel_rfl)) (fun _ _ _ h => h) (Or.inl ⟨by rfl,?_⟩) ?_ ?_; rotate_left; (· intro w'; go_simp; with_reducible rfl); rotate_left; (· simp only [Act.put,LSET15_]; rfl)
                refine pure_ (i := 8) (N := some 40) (v := ?_) (a' := ?_) AR15_13 rfl rfl (any_of HT_.out (by kernel_rfl)) (fun _ _ _ h => h) (Or.inl ⟨by rfl,?_⟩) ?_ ?_; rotate_left; (· intro w'; go_simp; with_reducible rfl); rotate_left; (· simp only [Act.put,LSET15_]; rfl)
                refine take_ (i := 5) (N := some 37) (v := ?_) (a' := ?_) AR15_15 rfl rfl (take_ofW HT_.out HW_.out (by kernel_rfl)) (fun _ _ _ h => h) (Or.inl ⟨by rfl,?_⟩) hHeld ?_ ?_; rotate_left; (· rintro w' ⟨s0,s1,s2,s3,s4,s5⟩; go_simp; with_reducible rfl); rotate_left; (· simp only [Act.put,LSET15_]; rfl)
                refine pure_ (i := 6) (N := some 38) (v := ?_) (a' := ?_) AR15_19 rfl rfl (any_of HT_.out (by kernel_rfl)) (fun _ _ _ h => h) (Or.inl ⟨by rfl,?_⟩) ?_ ?_; rotate_left; (· intro w'; go_simp; with_reducible rfl); rotate_left; (· simp only [Act.put,LSET15_]; rfl)
                refine take_ (i := 9) (N := some 41) (v := ?_) (a' := ?_) AR15_21 rfl rfl (take_ofW HT_.out HW_.out (by kernel_rfl)) (fun _ _ _ h => h) (Or.inl ⟨by rfl,?_⟩) hHeld ?_ ?_; rotate_left; (· rintro w' ⟨s0,s1,s2,s3,s4,s5⟩; go_simp; with_reducible rfl); rotate_left; (· simp only [Act.put,LSET15_]; rfl)
                refine pure_ (i := 10) (N := some 42) (v := ?_) (a' := ?_) AR15_23 rfl rfl (any_of HT_.out (by kernel_rfl)) (fun _ _ _ h => h) (Or.inl ⟨by rfl,?_⟩) ?_ ?_; rotate_left; (· intro w'; go_simp; with_reducible rfl); rotate_left; (· simp only [Act.put,LSET15_]; rfl)
                refine pure_ (i := 11) (N := some 43) (v := ?_) (a' := ?_) AR15_25 rfl rfl (any_of HT_.out (by kernel_rfl)) (fun _ _ _ h => h) (Or.inl ⟨by rfl,?_⟩) ?_ ?_; rotate_left; (· intro w'; go_simp; with_reducible rfl); rotate_left; (· simp only [Act.put,LSET15_]; rfl)
                refine pure_ (i := 12) (N := some 44) (v := ?_) (a' := ?_) AR15_27 rfl rfl (any_of HT_.out (by kernel_rfl)) (fun _ _ _ h => h) (Or.inl ⟨by rfl,?_⟩) ?_ ?_; rotate_left; (· intro w'; go_simp; with_reducible rfl); rotate_left; (· simp only [Act.put,LSET15_]; rfl)
                refine pure_ (i := 13) (N := some 45) (v := ?_) (a' := ?_) AR15_29 rfl rfl (any_of HT_.out (by kernel_rfl)) (fun _ _ _ h => h) (Or.inl ⟨by rfl,?_⟩) ?_ ?_; rotate_left; (· intro w'; go_simp; with_reducible rfl); rotate_left; (· simp only [Act.put,LSET15_]; rfl)
                refine last_ (i := 14) (N := none) AR15_59 rfl rfl (one_of HT_.out (by kernel_rfl)) (by decide) (fun K hK => ?_)
                have hs34 : w33.cell? ⟨gb254,4,none⟩ = some (.int .i64 zz4_2) := (blk_cell BK254.out 4).trans rfl
                have hfs34 := blk_frozen BK254.out 4
                refine skip_ (w1 := ?_) (by rfl) rfl ?_ ?_
                rotate_left
                ·go_simp
                 rfl
                refine hK.out _ _ ?_
                clear hK K
                refine done_ (done_of HT_.out (by kernel_rfl)) ?_
                try go_wp2
                go_roundg k2
                case measure => have := HJ1.out; have := HK2.out; omega
                case rel => exact ⟨(wrap64 (x5_2 + 1)),(zz0_2),(zz1_2),(zz2_2),(zz3_2),(wrap64 ((wrap64 (10 * zz4_2)) + (((bt a0 x5_2) - 48) % 256))),(zz5_2),(by first | rfl | (simp; done) | (simp [*]; done)),H',⟨by have := HJ1.out; have := HK2.out; omega⟩,⟨by (with_reducible repeat (first | refine blk_drewN ?_ _ | refine blk_drew ?_ | refine blk_alloc ?_ _)); refine blk_put (cs := #[.int .i64 zz0_2,.int .i64 zz1_2,.int .i64 zz2_2,.int .i64 zz3_2,.int .i64 zz4_2,.int .i64 zz5_2]) ?_ 4 _ (by first | rfl | (rw [hw8_]; rfl) | (simp [hw8_]; done)); (with_reducible repeat (first | refine blk_drewN ?_ _ | refine blk_drew ?_ | refine blk_alloc ?_ _)); exact BK254.out⟩,⟨by repeat (first | (with_reducible first | exact HB.out | apply below_alloc | apply pw_below_drewN | apply below_drew1 | refine below_set ?_ GE254.out) | exact HB.out)⟩⟩
               ·rw [if_neg c31] at H
                have c31b0 : ((wrap64 (Int.tdiv x5_2 2)) == 4) = false := beq_eq_false_iff_ne.mpr c31
                have c31b1 : ((wrap64 (Int.tdiv x5_2 2)) != 4) = true := bne_iff_ne.mpr c31
                by_cases c35 : (wrap64 (Int.tdiv x5_2 2)) = 5
                ·rw [if_pos c35] at H
                 have c35b0 : ((wrap64 (Int.tdiv x5_2 2)) == 5) = true := beq_iff_eq.mpr c35
                 have c35b1 : ((wrap64 (Int.tdiv x5_2 2)) != 5) = false := bne_eq_false_iff_eq.mpr c35
                 have H' := Aside0.mk H
                 clear H
                 have p11 : 0 ≤ (x5_2 : Int) := of_decide_eq_true (by first | (with_reducible assumption) | assumption)
                 have q11 : x5_2 < (a0.size : Int) := of_decide_eq_true (by first | (with_reducible assumption) | assumption)
                 have hx11 := bt_at a0 x5_2
                 replace p11 := eq_true p11
                 replace q11 := eq_true q11
                 have p13 : 0 ≤ (x5_2 : Int) := of_decide_eq_true (by first | (with_reducible assumption) | assumption)
                 have q13 : x5_2 < (a0.size : Int) := of_decide_eq_true (by first | (with_reducible assumption) | assumption)
                 have hx13 := bt_at a0 x5_2
                 replace p13 := eq_true p13
                 replace q13 := eq_true q13
                 try go_wp2
                 have n0_ := Aside0.mk (blk_drew BK254.out)
                 have n1_ := Aside0.mk (below_drew1 HB.out)
                 clear BK254
                 clear HB
                 have BK254 := n0_
                 have HB := n1_
                 clear n0_ n1_
                 have p36 : 0 ≤ (x5_2 : Int) := of_decide_eq_true (by first | (with_reducible assumption) | assumption)
                 have q36 : x5_2 < (a0.size : Int) := of_decide_eq_true (by first | (with_reducible assumption) | assumption)
                 have hx36 := bt_at a0 x5_2
                 replace p36 := eq_true p36
                 replace q36 := eq_true q36
                 have hw8_ : ∀ x : Int,wrap64 (x % 256) = x % 256 := fun x => by unfold wrap64; omega
                 refine start_ (n := 15) (S := fun w' => w'.cell? ⟨gb254,0,none⟩ = some (.int .i64 zz0_2) ∧ w'.cell? ⟨gb254,1,none⟩ = some (.int .i64 zz1_2) ∧ w'.cell? ⟨gb254,2,none⟩ = some (.int .i64 zz2_2) ∧ w'.cell? ⟨gb254,3,none⟩ = some (.int .i64 zz3_2) ∧ w'.cell? ⟨gb254,4,none⟩ = some (.int .i64 zz4_2) ∧ w'.cell? ⟨gb254,5,none⟩ = some (.int .i64 zz5_2)) (ds := [14]) AR15_1 (by kernel_rfl) rfl rfl ⟨(blk_cell BK254.out 0).trans rfl,(blk_cell BK254.out 1).trans rfl,(blk_cell BK254.out 2).trans rfl,(blk_cell BK254.out 3).trans rfl,(blk_cell BK254.out 4).trans rfl,(blk_cell BK254.out 5).trans rfl⟩ (fun hHeld => ?_); refine with_tabW halberdref13_Untime.tab9 halberdref13_Untime.bits9 (fun HT_ HW_ => ?_)
                 generalize wr.drew = w37 at BK254 HB hHeld ⊢
                 refine pure_ (i := 0) (N := some 32) (v := ?_) (a' := ?_) AR15_3 rfl rfl (any_of HT_.out (by kernel_rfl)) (fun _ _ _ h => h) (Or.inl ⟨by rfl,?_⟩) ?_ ?_; rotate_left; (· intro w'; go_simp; with_reducible rfl); rotate_left; (· simp only [Act.put,LSET15_]; rfl)
                 refine pure_ (i := 1) (N := some 33) (v := ?_) (a' := ?_) AR15_5 rfl rfl (any_of HT_.out (by kernel_rfl)) (fun _ _ _ h => h) (Or.inl ⟨by rfl,?_⟩) ?_ ?_; rotate_left; (· intro w'; go_simp; with_reducible rfl); rotate_left; (· simp only [Act.put,LSET15_]; rfl)
                 refine pure_ (i := 2) (N := some 34) (v := ?_) (a' := ?_) AR15_7 rfl rfl (any_of HT_.out (by kernel_rfl)) (fun _ _ _ h => h) (Or.inl ⟨by rfl,?_⟩) ?_ ?_; rotate_left; (· intro w'; go_simp; with_reducible rfl); rotate_left; (· simp only [Act.put,LSET15_]; rfl)
                 refine pure_ (i := 3) (N := some 35) (v := ?_) (a' := ?_) AR15_9 rfl rfl (any_of HT_.out (by kernel_rfl)) (fun _ _ _ h => h) (Or.inl ⟨by rfl,?_⟩) ?_ ?_; rotate_left; (· intro w'; go_simp; with_reducible rfl); rotate_left; (· simp only [Act.put,LSET15_]; rfl)
                 refine pure_ (i := 4) (N := some 36) (v := ?_) (a' := ?_) AR15_11 rfl rfl (any_of HT_.out (by kernel_rfl)) (fun _ _ _ h => h) (Or.inl ⟨by rfl,?_⟩) ?_ ?_; rotate_left; (· intro w'; go_simp; with_reducible rfl); rotate_left; (· simp only [Act.put,LSET15_]; rfl)
                 refine pure_ (i := 7) (N := some 39) (v := ?_) (a' := ?_) AR15_12 rfl rfl (any_of HT_.out (by kernel_rfl)) (fun _ _ _ h => h) (Or.inl ⟨by rfl,?_⟩) ?_ ?_; rotate_left; (· intro w'; go_simp; with_reducible rfl); rotate_left; (· simp only [Act.put,LSET15_]; rfl)
                 refine pure_ (i := 8) (N := some 40) (v := ?_) (a' := ?_) AR15_13 rfl rfl (any_of HT_.out (by kernel_rfl)) (fun _ _ _ h => h) (Or.inl ⟨by rfl,?_⟩) ?_ ?_; rotate_left; (· intro w'; go_simp; with_reducible rfl); rotate_left; (· simp only [Act.put,LSET15_]; rfl)
                 refine take_ (i := 5) (N := some 37) (v := ?_) (a' := ?_) AR15_15 rfl rfl (take_ofW HT_.out HW_.out (by kernel_rfl)) (fun _ _ _ h => h) (Or.inl ⟨by rfl,?_⟩) hHeld ?_ ?_; rotate_left; (· rintro w' ⟨s0,s1,s2,s3,s4,s5⟩; go_simp; with_reducible rfl); rotate_left; (· simp only [Act.put,LSET15_]; rfl)
                 refine pure_ (i := 6) (N := some 38) (v := ?_) (a' := ?_) AR15_19 rfl rfl (any_of HT_.out (by kernel_rfl)) (fun _ _ _ h => h) (Or.inl ⟨by rfl,?_⟩) ?_ ?_; rotate_left; (· intro w'; go_simp; with_reducible rfl); rotate_left; (· simp only [Act.put,LSET15_]; rfl)
                 refine take_ (i := 9) (N := some 41) (v := ?_) (a' := ?_) AR15_21 rfl rfl (take_ofW HT_.out HW_.out (by kernel_rfl)) (fun _ _ _ h => h) (Or.inl ⟨by rfl,?_⟩) hHeld ?_ ?_; rotate_left; (· rintro w' ⟨s0,s1,s2,s3,s4,s5⟩; go_simp; with_reducible rfl); rotate_left; (· simp only [Act.put,LSET15_]; rfl)
                 refine pure_ (i := 10) (N := some 42) (v := ?_) (a' := ?_) AR15_23 rfl rfl (any_of HT_.out (by kernel_rfl)) (fun _ _ _ h => h) (Or.inl ⟨by rfl,?_⟩) ?_ ?_; rotate_left; (· intro w'; go_simp; with_reducible rfl); rotate_left; (· simp only [Act.put,LSET15_]; rfl)
                 refine pure_ (i := 11) (N := some 43) (v := ?_) (a' := ?_) AR15_25 rfl rfl (any_of HT_.out (by kernel_rfl)) (fun _ _ _ h => h) (Or.inl ⟨by rfl,?_⟩) ?_ ?_; rotate_left; (· intro w'; go_simp; with_reducible rfl); rotate_left; (· simp only [Act.put,LSET15_]; rfl)
                 refine pure_ (i := 12) (N := some 44) (v := ?_) (a' := ?_) AR15_27 rfl rfl (any_of HT_.out (by kernel_rfl)) (fun _ _ _ h => h) (Or.inl ⟨by rfl,?_⟩) ?_ ?_; rotate_left; (· intro w'; go_simp; with_reducible rfl); rotate_left; (· simp only [Act.put,LSET15_]; rfl)
                 refine pure_ (i := 13) (N := some 45) (v := ?_) (a' := ?_) AR15_29 rfl rfl (any_of HT_.out (by kernel_rfl)) (fun _ _ _ h => h) (Or.inl ⟨by rfl,?_⟩) ?_ ?_; rotate_left; (· intro w'; go_simp; with_reducible rfl); rotate_left; (· simp only [Act.put,LSET15_]; rfl)
                 refine last_ (i := 14) (N := none) AR15_59 rfl rfl (one_of HT_.out (by kernel_rfl)) (by decide) (fun K hK => ?_)
                 have hs38 : w37.cell? ⟨gb254,5,none⟩ = some (.int .i64 zz5_2) := (blk_cell BK254.out 5).trans rfl
                 have hfs38 := blk_frozen BK254.out 5
                 refine skip_ (w1 := ?_) (by rfl) rfl ?_ ?_
                 rotate_left
                 ·go_simp
                  rfl
                 refine hK.out _ _ ?_
                 clear hK K
                 refine done_ (done_of HT_.out (by kernel_rfl)) ?_
                 try go_wp2
                 go_roundg k2
                 case measure => have := HJ1.out; have := HK2.out; omega
                 case rel => exact ⟨(wrap64 (x5_2 + 1)),(zz0_2),(zz1_2),(zz2_2),(zz3_2),(zz4_2),(wrap64 ((wrap64 (10 * zz5_2)) + (((bt a0 x5_2) - 48) % 256))),(by first | rfl | (simp; done) | (simp [*]; done)),H',⟨by have := HJ1.out; have := HK2.out; omega⟩,⟨by (with_reducible repeat (first | refine blk_drewN ?_ _ | refine blk_drew ?_ | refine blk_alloc ?_ _)); refine blk_put (cs := #[.int .i64 zz0_2,.int .i64 zz1_2,.int .i64 zz2_2,.int .i64 zz3_2,.int .i64 zz4_2,.int .i64 zz5_2]) ?_ 5 _ (by first | rfl | (rw [hw8_]; rfl) | (simp [hw8_]; done)); (with_reducible repeat (first | refine blk_drewN ?_ _ | refine blk_drew ?_ | refine blk_alloc ?_ _)); exact BK254.out⟩,⟨by repeat (first | (with_reducible first | exact HB.out | apply below_alloc | apply pw_below_drewN | apply below_drew1 | refine below_set ?_ GE254.out) | exact HB.out)⟩⟩
                ·rw [if_neg c35] at H
                 exact absurd H (by simp)
        ·rw [if_neg c10] at H
         exact absurd H (by simp)
       ·rw [if_neg c9] at H
        exact absurd H (by simp)
      ·rw [if_neg c8] at H
       have c8b0 : decide (x5_2 < 12) = false := decide_eq_false c8
       clear c8
       have HC39 := Aside0.mk H
       clear H
       have hcz40_0 : wr.cell? ⟨gb254,0,none⟩ = some (.int .i64 zz0_2) := (blk_cell BK254.out 0).trans rfl
       have hcz40_1 : wr.cell? ⟨gb254,1,none⟩ = some (.int .i64 zz1_2) := (blk_cell BK254.out 1).trans rfl
       have hcz40_2 : wr.cell? ⟨gb254,2,none⟩ = some (.int .i64 zz2_2) := (blk_cell BK254.out 2).trans rfl
       have hcz40_3 : wr.cell? ⟨gb254,3,none⟩ = some (.int .i64 zz3_2) := (blk_cell BK254.out 3).trans rfl
       have hcz40_4 : wr.cell? ⟨gb254,4,none⟩ = some (.int .i64 zz4_2) := (blk_cell BK254.out 4).trans rfl
       have hcz40_5 : wr.cell? ⟨gb254,5,none⟩ = some (.int .i64 zz5_2) := (blk_cell BK254.out 5).trans rfl
       have hfz40_0 := blk_frozen BK254.out 0
       have hfz40_1 := blk_frozen BK254.out 1
       have hfz40_2 := blk_frozen BK254.out 2
       have hfz40_3 := blk_frozen BK254.out 3
       have hfz40_4 := blk_frozen BK254.out 4
       have hfz40_5 := blk_frozen BK254.out 5
       go_upto_if 51 with (fail)
       go_cut [6] (fun v6 wc => ∃ (kq : Nat) (x6_38 : Int),v6 = .int .i64 x6_38 ∧ Aside0 (halberdref13_Untime.j2 kq x6_38 zz0_2 zz1_2 zz2_2 zz3_2 zz4_2 zz5_2 = some (r1,r2)) ∧ Aside0 (kq ≤ k2) ∧ Aside0 (wc.heap[gb254]? = some (.cells #[.int .i64 zz0_2,.int .i64 zz1_2,.int .i64 zz2_2,.int .i64 zz3_2,.int .i64 zz4_2,.int .i64 zz5_2] 55 (0,0))) ∧ Aside0 (Below w.heap.size w wc))
       case first =>
        have H := HC39.out
        clear HC39
        by_cases c41 : zz0_2 < 50
        ·rw [if_pos c41] at H
         have c41b0 : decide (zz0_2 < 50) = true := decide_eq_true c41
         clear c41
         (first | rw [c41b0] | (simp only [i64_w,i32_w]; rw [c41b0]) | skip)
         have H' := Aside0.mk H
         clear H
         have hcz42_0 : wr.cell? ⟨gb254,0,none⟩ = some (.int .i64 zz0_2) := (blk_cell BK254.out 0).trans rfl
         have hcz42_1 : wr.cell? ⟨gb254,1,none⟩ = some (.int .i64 zz1_2) := (blk_cell BK254.out 1).trans rfl
         have hcz42_2 : wr.cell? ⟨gb254,2,none⟩ = some (.int .i64 zz2_2) := (blk_cell BK254.out 2).trans rfl
         have hcz42_3 : wr.cell? ⟨gb254,3,none⟩ = some (.int .i64 zz3_2) := (blk_cell BK254.out 3).trans rfl
         have hcz42_4 : wr.cell? ⟨gb254,4,none⟩ = some (.int .i64 zz4_2) := (blk_cell BK254.out 4).trans rfl
         have hcz42_5 : wr.cell? ⟨gb254,5,none⟩ = some (.int .i64 zz5_2) := (blk_cell BK254.out 5).trans rfl
         have hfz42_0 := blk_frozen BK254.out 0
         have hfz42_1 := blk_frozen BK254.out 1
         have hfz42_2 := blk_frozen BK254.out 2
         have hfz42_3 := blk_frozen BK254.out 3
         have hfz42_4 := blk_frozen BK254.out 4
         have hfz42_5 := blk_frozen BK254.out 5
         go_wp2
         go_meet
         case rel => exact ⟨_,(wrap64 (2000 + zz0_2)),(by first | rfl | (simp; done) | (simp [*]; done)),H',⟨by have := HJ1.out; have := HK2.out; first | omega | exact Nat.le_refl _⟩,⟨by (with_reducible repeat (first | refine blk_drewN ?_ _ | refine blk_drew ?_ | refine blk_alloc ?_ _)); exact BK254.out⟩,⟨by repeat (first | (with_reducible first | exact HB.out | apply below_alloc | apply pw_below_drewN | apply below_drew1 | refine below_set ?_ GE254.out) | exact HB.out)⟩⟩
        ·rw [if_neg c41] at H
         have c41b0 : decide (zz0_2 < 50) = false := decide_eq_false c41
         clear c41
         (first | rw [c41b0] | (simp only [i64_w,i32_w]; rw [c41b0]) | skip)
         have H' := Aside0.mk H
         clear H
         go_wp2
         go_meet
         case rel => exact ⟨_,(wrap64 (1900 + zz0_2)),(by first | rfl | (simp; done) | (simp [*]; done)),H',⟨by have := HJ1.out; have := HK2.out; first | omega | exact Nat.le_refl _⟩,⟨by (with_reducible repeat (first | refine blk_drewN ?_ _ | refine blk_drew ?_ | refine blk_alloc ?_ _)); exact BK254.out⟩,⟨by repeat (first | (with_reducible first | exact HB.out | apply below_alloc | apply pw_below_drewN | apply below_drew1 | refine below_set ?_ GE254.out) | exact HB.out)⟩⟩
       case rest =>
        clear HC39
        try clear c1
        try clear p1
        try clear q1
        try clear hx1
        try clear c2
        try clear p2
        try clear q2
        try clear hx2
        try clear c3
        try clear p3
        try clear q3
        try clear hx3
        try clear c4
        try clear p6
        try clear c8
        try clear c8b0
        try clear c9
        try clear c10
        try clear p11
        try clear q11
        try clear hx11
        try clear p13
        try clear q13
        try clear hx13
        try clear c23
        try clear c23b0
        try clear c23b1
        try clear c27
        try clear c27b0
        try clear c27b1
        try clear p28
        try clear q28
        try clear hx28
        try clear c31
        try clear c31b0
        try clear c31b1
        try clear p32
        try clear q32
        try clear hx32
        try clear c35
        try clear c35b0
        try clear c35b1
        try clear p36
        try clear q36
        try clear hx36
        try clear c41
        try clear c41b0
        try clear hcz40_0
        try clear hcz40_1
        try clear hcz40_2
        try clear hcz40_3
        try clear hcz40_4
        try clear hcz40_5
        try clear hcz42_0
        try clear hcz42_1
        try clear hcz42_2
        try clear hcz42_3
        try clear hcz42_4
        try clear hcz42_5
        try clear hfz40_0
        try clear hfz40_1
        try clear hfz40_2
        try clear hfz40_3
        try clear hfz40_4
        try clear hfz40_5
        try clear hfz42_0
        try clear hfz42_1
        try clear hfz42_2
        try clear hfz42_3
        try clear hfz42_4
        try clear hfz42_5
        try clear p11
        try clear p13
        try clear p28
        try clear p32
        try clear p36
        try clear q11
        try clear q13
        try clear q28
        try clear q32
        try clear q36
        obtain ⟨kq,x6_38,rfl,HA,HJ38,BK254,HB⟩ := hcut
        cases kq with
        | zero => exact absurd HA.out (by simp [halberdref13_Untime.j2])
        | succ kj38 =>
         have H := HA.out
         clear HA
         simp only [halberdref13_Untime.j2] at H
         have HC43 := Aside0.mk H
         clear H
         go_upto_region 13 with (fail)
         go_cut [95] (fun v95 wc => ∃ (kq : Nat) (x95_42 : Bool),v95 = .bool x95_42 ∧ Aside0 (halberdref13_Untime.j3 kq x6_38 x95_42 zz0_2 zz1_2 zz2_2 zz3_2 zz4_2 zz5_2 = some (r1,r2)) ∧ Aside0 (kq ≤ kj38) ∧ Aside0 (wc.heap[gb254]? = some (.cells #[.int .i64 zz0_2,.int .i64 zz1_2,.int .i64 zz2_2,.int .i64 zz3_2,.int .i64 zz4_2,.int .i64 zz5_2] 55 (0,0))) ∧ Aside0 (Below w.heap.size w wc))
         case first =>
          have H := HC43.out
          clear HC43
          by_cases c44 : x6_38 < 1970
          ·rw [if_pos c44] at H
           have c44b0 : decide (x6_38 < 1970) = true := decide_eq_true c44
           clear c44
           (first | rw [c44b0] | (simp only [i64_w,i32_w]; rw [c44b0]) | skip)
           have H' := Aside0.mk H
           clear H
           try go_wp2
           have n0_ := Aside0.mk (blk_drew BK254.out)
           have n1_ := Aside0.mk (below_drew1 HB.out)
           clear BK254
           clear HB
           have BK254 := n0_
           have HB := n1_
           clear n0_ n1_
           have hw8_ : ∀ x : Int,wrap64 (x % 256) = x % 256 := fun x => by unfold wrap64; omega
           refine start_ (n := 41) (S := fun w' => True) (ds := []) AR15_0 (by kernel_rfl) rfl rfl trivial (fun hHeld => ?_); refine with_tabW halberdref13_Untime.tab13 halberdref13_Untime.bits13 (fun HT_ HW_ => ?_)
           generalize wc.drew = w45 at BK254 HB hHeld ⊢
           refine pure_ (i := 0) (N := some 55) (v := ?_) (a' := ?_) AR15_2 rfl rfl (any_of HT_.out (by kernel_rfl)) (fun _ _ _ h => h) (Or.inl ⟨by rfl,?_⟩) ?_ ?_; rotate_left; (· intro w'; go_simp; with_reducible rfl); rotate_left; (· simp only [Act.put,LSET15_]; rfl)
           refine pure_ (i := 1) (N := some 56) (v := ?_) (a' := ?_) AR15_4 rfl rfl (any_of HT_.out (by kernel_rfl)) (fun _ _ _ h => h) (Or.inl ⟨by rfl,?_⟩) ?_ ?_; rotate_left; (· intro w'; go_simp; with_reducible rfl); rotate_left; (· simp only [Act.put,LSET15_]; rfl)
           refine pure_ (i := 2) (N := some 57) (v := ?_) (a' := ?_) AR15_6 rfl rfl (any_of HT_.out (by kernel_rfl)) (fun _ _ _ h => h) (Or.inl ⟨by rfl,?_⟩) ?_ ?_; rotate_left; (· intro w'; go_simp; with_reducible rfl); rotate_left; (· simp only [Act.put,LSET15_]; rfl)
           refine pure_ (i := 3) (N := some 58) (v := undef) (a' := ?_) AR15_8 rfl rfl (any_of HT_.out (by kernel_rfl)) (fun _ _ _ h => h) (Or.inr ⟨by rfl,rfl⟩) ?_ ?_; rotate_left; (· simp only [Act.put,LSET15_]; rfl)
           refine pure_ (i := 4) (N := some 59) (v := undef) (a' := ?_) AR15_10 rfl rfl (any_of HT_.out (by kernel_rfl)) (fun _ _ _ h => h) (Or.inr ⟨by rfl,rfl⟩) ?_ ?_; rotate_left; (· simp only [Act.put,LSET15_]; rfl)
           refine pure_ (i := 5) (N := some 60) (v := undef) (a' := ?_) AR15_14 rfl rfl (any_of HT_.out (by kernel_rfl)) (fun _ _ _ h => h) (Or.inr ⟨by rfl,rfl⟩) ?_ ?_; rotate_left; (· simp only [Act.put,LSET15_]; rfl)
           refine pure_ (i := 6) (N := some 61) (v := ?_) (a' := ?_) AR15_16 rfl rfl (any_of HT_.out (by kernel_rfl)) (fun _ _ _ h => h) (Or.inl ⟨by rfl,?_⟩) ?_ ?_; rotate_left; (· intro w'; go_simp; with_reducible rfl); rotate_left; (· simp only [Act.put,LSET15_]; rfl)
           refine pure_ (i := 7) (N := some 62) (v := ?_) (a' := ?_) AR15_17 rfl rfl (any_of HT_.out (by kernel_rfl)) (fun _ _ _ h => h) (Or.inl ⟨by rfl,?_⟩) ?_ ?_; rotate_left; (· intro w'; go_simp; with_reducible rfl); rotate_left; (· simp only [Act.put,LSET15_]; rfl)
           refine pure_ (i := 8) (N := some 63) (v := undef) (a' := ?_) AR15_18 rfl rfl (any_of HT_.out (by kernel_rfl)) (fun _ _ _ h => h) (Or.inr ⟨by rfl,rfl⟩) ?_ ?_; rotate_left; (· simp only [Act.put,LSET15_]; rfl)
           refine pure_ (i := 9) (N := some 64) (v := undef) (a' := ?_) AR15_20 rfl rfl (any_of HT_.out (by kernel_rfl)) (fun _ _ _ h => h) (Or.inr ⟨by rfl,rfl⟩) ?_ ?_; rotate_left; (· simp only [Act.put,LSET15_]; rfl)
           refine pure_ (i := 10) (N := some 65) (v := undef) (a' := ?_) AR15_22 rfl rfl (any_of HT_.out (by kernel_rfl)) (fun _ _ _ h => h) (Or.inr ⟨by rfl,rfl⟩) ?_ ?_; rotate_left; (· simp only [Act.put,LSET15_]; rfl)
           refine pure_ (i := 11) (N := some 66) (v := ?_) (a' := ?_) AR15_24 rfl rfl (any_of HT_.out (by kernel_rfl)) (fun _ _ _ h => h) (Or.inl ⟨by rfl,?_⟩) ?_ ?_; rotate_left; (· intro w'; go_simp; with_reducible rfl); rotate_left; (· simp only [Act.put,LSET15_]; rfl)
           refine pure_ (i := 12) (N := some 67) (v := ?_) (a' := ?_) AR15_26 rfl rfl (any_of HT_.out (by kernel_rfl)) (fun _ _ _ h => h) (Or.inl ⟨by rfl,?_⟩) ?_ ?_; rotate_left; (· intro w'; go_simp; with_reducible rfl); rotate_left; (· simp only [Act.put,LSET15_]; rfl)
           refine pure_ (i := 13) (N := some 68) (v := undef) (a' := ?_) AR15_28 rfl rfl (any_of HT_.out (by kernel_rfl)) (fun _ _ _ h => h) (Or.inr ⟨by rfl,rfl⟩) ?_ ?_; rotate_left; (· simp only [Act.put,LSET15_]; rfl)
           refine pure_ (i := 14) (N := some 69) (v := undef) (a' := ?_) AR15_30 rfl rfl (any_of HT_.out (by kernel_rfl)) (fun _ _ _ h => h) (Or.inr ⟨by rfl,rfl⟩) ?_ ?_; rotate_left; (· simp only [Act.put,LSET15_]; rfl)
           refine pure_ (i := 15) (N := some 70) (v := undef) (a' := ?_) AR15_31 rfl rfl (any_of HT_.out (by kernel_rfl)) (fun _ _ _ h => h) (Or.inr ⟨by rfl,rfl⟩) ?_ ?_; rotate_left; (· simp only [Act.put,LSET15_]; rfl)
           refine pure_ (i := 16) (N := some 71) (v := ?_) (a' := ?_) AR15_32 rfl rfl (any_of HT_.out (by kernel_rfl)) (fun _ _ _ h => h) (Or.inl ⟨by rfl,?_⟩) ?_ ?_; rotate_left; (· intro w'; go_simp; with_reducible rfl); rotate_left; (· simp only [Act.put,LSET15_]; rfl)
           refine pure_ (i := 17) (N := some 72) (v := ?_) (a' := ?_) AR15_33 rfl rfl (any_of HT_.out (by kernel_rfl)) (fun _ _ _ h => h) (Or.inl ⟨by rfl,?_⟩) ?_ ?_; rotate_left; (· intro w'; go_simp; with_reducible rfl); rotate_left; (· simp only [Act.put,LSET15_]; rfl)
           refine pure_ (i := 18) (N := some 73) (v := undef) (a' := ?_) AR15_34 rfl rfl (any_of HT_.out (by kernel_rfl)) (fun _ _ _ h => h) (Or.inr ⟨by rfl,rfl⟩) ?_ ?_; rotate_left; (· simp only [Act.put,LSET15_]; rfl)
           refine pure_ (i := 19) (N := some 74) (v := undef) (a' := ?_) AR15_37 rfl rfl (any_of HT_.out (by kernel_rfl)) (fun _ _ _ h => h) (Or.inr ⟨by rfl,rfl⟩) ?_ ?_; rotate_left; (· simp only [Act.put,LSET15_]; rfl)
           refine pure_ (i := 20) (N := some 75) (v := undef) (a' := ?_) AR15_38 rfl rfl (any_of HT_.out (by kernel_rfl)) (fun _ _ _ h => h) (Or.inr ⟨by rfl,rfl⟩) ?_ ?_; rotate_left; (· simp only [Act.put,LSET15_]; rfl)
           refine pure_ (i := 21) (N := some 76) (v := undef) (a' := ?_) AR15_39 rfl rfl (any_of HT_.out (by kernel_rfl)) (fun _ _ _ h => h) (Or.inr ⟨by rfl,rfl⟩) ?_ ?_; rotate_left; (· simp only [Act.put,LSET15_]; rfl)
           refine pure_ (i := 22) (N := some 77) (v := undef) (a' := ?_) AR15_40 rfl rfl (any_of HT_.out (by kernel_rfl)) (fun _ _ _ h => h) (Or.inr ⟨by rfl,rfl⟩) ?_ ?_; rotate_left; (· simp only [Act.put,LSET15_]; rfl)
           refine pure_ (i := 23) (N := some 78) (v := undef) (a' := ?_) AR15_41 rfl rfl (any_of HT_.out (by kernel_rfl)) (fun _ _ _ h => h) (Or.inr ⟨by rfl,rfl⟩) ?_ ?_; rotate_left; (· simp only [Act.put,LSET15_]; rfl)
           refine pure_ (i := 24) (N := some 79) (v := undef) (a' := ?_) AR15_42 rfl rfl (any_of HT_.out (by kernel_rfl)) (fun _ _ _ h => h) (Or.inr ⟨by rfl,rfl⟩) ?_ ?_; rotate_left; (· simp only [Act.put,LSET15_]; rfl)
           refine pure_ (i := 25) (N := some 80) (v := ?_) (a' := ?_) AR15_43 rfl rfl (any_of HT_.out (by kernel_rfl)) (fun _ _ _ h => h) (Or.inl ⟨by rfl,?_⟩) ?_ ?_; rotate_left; (· intro w'; go_simp; with_reducible rfl); rotate_left; (· simp only [Act.put,LSET15_]; rfl)
           refine pure_ (i := 26) (N := some 81) (v := ?_) (a' := ?_) AR15_44 rfl rfl (any_of HT_.out (by kernel_rfl)) (fun _ _ _ h => h) (Or.inl ⟨by rfl,?_⟩) ?_ ?_; rotate_left; (· intro w'; go_simp; with_reducible rfl); rotate_left; (· simp only [Act.put,LSET15_]; rfl)
           refine pure_ (i := 27) (N := some 82) (v := undef) (a' := ?_) AR15_45 rfl rfl (any_of HT_.out (by kernel_rfl)) (fun _ _ _ h => h) (Or.inr ⟨by rfl,rfl⟩) ?_ ?_; rotate_left; (· simp only [Act.put,LSET15_]; rfl)
           refine pure_ (i := 28) (N := some 83) (v := undef) (a' := ?_) AR15_46 rfl rfl (any_of HT_.out (by kernel_rfl)) (fun _ _ _ h => h) (Or.inr ⟨by rfl,rfl⟩) ?_ ?_; rotate_left; (· simp only [Act.put,LSET15_]; rfl)
           refine pure_ (i := 29) (N := some 84) (v := undef) (a' := ?_) AR15_47 rfl rfl (any_of HT_.out (by kernel_rfl)) (fun _ _ _ h => h) (Or.inr ⟨by rfl,rfl⟩) ?_ ?_; rotate_left; (· simp only [Act.put,LSET15_]; rfl)
           refine pure_ (i := 30) (N := some 85) (v := ?_) (a' := ?_) AR15_48 rfl rfl (any_of HT_.out (by kernel_rfl)) (fun _ _ _ h => h) (Or.inl ⟨by rfl,?_⟩) ?_ ?_; rotate_left; (· intro w'; go_simp; with_reducible rfl); rotate_left; (· simp only [Act.put,LSET15_]; rfl)
           refine pure_ (i := 31) (N := some 86) (v := ?_) (a' := ?_) AR15_49 rfl rfl (any_of HT_.out (by kernel_rfl)) (fun _ _ _ h => h) (Or.inl ⟨by rfl,?_⟩) ?_ ?_; rotate_left; (· intro w'; go_simp; with_reducible rfl); rotate_left; (· simp only [Act.put,LSET15_]; rfl)
           refine pure_ (i := 32) (N := some 87) (v := undef) (a' := ?_) AR15_50 rfl rfl (any_of HT_.out (by kernel_rfl)) (fun _ _ _ h => h) (Or.inr ⟨by rfl,rfl⟩) ?_ ?_; rotate_left; (· simp only [Act.put,LSET15_]; rfl)
           refine pure_ (i := 33) (N := some 88) (v := undef) (a' := ?_) AR15_51 rfl rfl (any_of HT_.out (by kernel_rfl)) (fun _ _ _ h => h) (Or.inr ⟨by rfl,rfl⟩) ?_ ?_; rotate_left; (· simp only [Act.put,LSET15_]; rfl)
           refine pure_ (i := 34) (N := some 89) (v := undef) (a' := ?_) AR15_52 rfl rfl (any_of HT_.out (by kernel_rfl)) (fun _ _ _ h => h) (Or.inr ⟨by rfl,rfl⟩) ?_ ?_; rotate_left; (· simp only [Act.put,LSET15_]; rfl)
           refine pure_ (i := 35) (N := some 90) (v := ?_) (a' := ?_) AR15_53 rfl rfl (any_of HT_.out (by kernel_rfl)) (fun _ _ _ h => h) (Or.inl ⟨by rfl,?_⟩) ?_ ?_; rotate_left; (· intro w'; go_simp; with_reducible rfl); rotate_left; (· simp only [Act.put,LSET15_]; rfl)
           refine pure_ (i := 36) (N := some 91) (v := ?_) (a' := ?_) AR15_54 rfl rfl (any_of HT_.out (by kernel_rfl)) (fun _ _ _ h => h) (Or.inl ⟨by rfl,?_⟩) ?_ ?_; rotate_left; (· intro w'; go_simp; with_reducible rfl); rotate_left; (· simp only [Act.put,LSET15_]; rfl)
           refine pure_ (i := 37) (N := some 92) (v := undef) (a' := ?_) AR15_55 rfl rfl (any_of HT_.out (by kernel_rfl)) (fun _ _ _ h => h) (Or.inr ⟨by rfl,rfl⟩) ?_ ?_; rotate_left; (· simp only [Act.put,LSET15_]; rfl)
           refine pure_ (i := 38) (N := some 93) (v := undef) (a' := ?_) AR15_56 rfl rfl (any_of HT_.out (by kernel_rfl)) (fun _ _ _ h => h) (Or.inr ⟨by rfl,rfl⟩) ?_ ?_; rotate_left; (· simp only [Act.put,LSET15_]; rfl)
           refine pure_ (i := 39) (N := some 94) (v := undef) (a' := ?_) AR15_57 rfl rfl (any_of HT_.out (by kernel_rfl)) (fun _ _ _ h => h) (Or.inr ⟨by rfl,rfl⟩) ?_ ?_; rotate_left; (· simp only [Act.put,LSET15_]; rfl)
           refine pure_ (i := 40) (N := some 95) (v := ?_) (a' := ?_) AR15_58 rfl rfl (any_of HT_.out (by kernel_rfl)) (fun _ _ _ h => h) (Or.inl ⟨by rfl,?_⟩) ?_ ?_; rotate_left; (· intro w'; go_simp; with_reducible rfl); rotate_left; (· simp only [Act.put,LSET15_]; rfl)
           refine done_ (done_of HT_.out (by kernel_rfl)) ?_
           try go_wp2
           go_meet
           case rel => exact ⟨_,(true),(by first | rfl | (simp; done) | (simp [*]; done)),H',⟨by have := HJ1.out; have := HK2.out; have := HJ38.out; first | omega | exact Nat.le_refl _⟩,⟨by (with_reducible repeat (first | refine blk_drewN ?_ _ | refine blk_drew ?_ | refine blk_alloc ?_ _)); exact BK254.out⟩,⟨by repeat (first | (with_reducible first | exact HB.out | apply below_alloc | apply pw_below_drewN | apply below_drew1 | refine below_set ?_ GE254.out) | exact HB.out)⟩⟩
          ·rw [if_neg c44] at H
           have c44b0 : decide (x6_38 < 1970) = false := decide_eq_false c44
           clear c44
           (first | rw [c44b0] | (simp only [i64_w,i32_w]; rw [c44b0]) | skip)
           by_cases c46 : zz1_2 < 1
           ·rw [if_pos c46] at H
            have c46b0 : decide (zz1_2 < 1) = true := decide_eq_true c46
            clear c46
            have H' := Aside0.mk H
            clear H
            try go_wp2
            have n0_ := Aside0.mk (blk_drew BK254.out)
            have n1_ := Aside0.mk (below_drew1 HB.out)
            clear BK254
            clear HB
            have BK254 := n0_
            have HB := n1_
            clear n0_ n1_
            have hw8_ : ∀ x : Int,wrap64 (x % 256) = x % 256 := fun x => by unfold wrap64; omega
            refine start_ (n := 41) (S := fun w' => w'.cell? ⟨gb254,0,none⟩ = some (.int .i64 zz0_2) ∧ w'.cell? ⟨gb254,1,none⟩ = some (.int .i64 zz1_2) ∧ w'.cell? ⟨gb254,2,none⟩ = some (.int .i64 zz2_2) ∧ w'.cell? ⟨gb254,3,none⟩ = some (.int .i64 zz3_2) ∧ w'.cell? ⟨gb254,4,none⟩ = some (.int .i64 zz4_2) ∧ w'.cell? ⟨gb254,5,none⟩ = some (.int .i64 zz5_2)) (ds := []) AR15_0 (by kernel_rfl) rfl rfl ⟨(blk_cell BK254.out 0).trans rfl,(blk_cell BK254.out 1).trans rfl,(blk_cell BK254.out 2).trans rfl,(blk_cell BK254.out 3).trans rfl,(blk_cell BK254.out 4).trans rfl,(blk_cell BK254.out 5).trans rfl⟩ (fun hHeld => ?_); refine with_tabW halberdref13_Untime.tab13 halberdref13_Untime.bits13 (fun HT_ HW_ => ?_)
            generalize wc.drew = w47 at BK254 HB hHeld ⊢
            refine pure_ (i := 0) (N := some 55) (v := ?_) (a' := ?_) AR15_2 rfl rfl (any_of HT_.out (by kernel_rfl)) (fun _ _ _ h => h) (Or.inl ⟨by rfl,?_⟩) ?_ ?_; rotate_left; (· intro w'; go_simp; with_reducible rfl); rotate_left; (· simp only [Act.put,LSET15_]; rfl)
            refine pure_ (i := 1) (N := some 56) (v := ?_) (a' := ?_) AR15_4 rfl rfl (any_of HT_.out (by kernel_rfl)) (fun _ _ _ h => h) (Or.inl ⟨by rfl,?_⟩) ?_ ?_; rotate_left; (· intro w'; go_simp; with_reducible rfl); rotate_left; (· simp only [Act.put,LSET15_]; rfl)
            refine pure_ (i := 2) (N := some 57) (v := ?_) (a' := ?_) AR15_6 rfl rfl (any_of HT_.out (by kernel_rfl)) (fun _ _ _ h => h) (Or.inl ⟨by rfl,?_⟩) ?_ ?_; rotate_left; (· intro w'; go_simp; with_reducible rfl); rotate_left; (· simp only [Act.put,LSET15_]; rfl)
            refine pure_ (i := 3) (N := some 58) (v := ?_) (a' := ?_) AR15_8 rfl rfl (any_of HT_.out (by kernel_rfl)) (fun _ _ _ h => h) (Or.inl ⟨by rfl,?_⟩) ?_ ?_; rotate_left; (· intro w'; go_simp; with_reducible rfl); rotate_left; (· simp only [Act.put,LSET15_]; rfl)
            refine take_ (i := 4) (N := some 59) (v := ?_) (a' := ?_) AR15_10 rfl rfl (take_ofW HT_.out HW_.out (by kernel_rfl)) (fun _ _ _ h => h) (Or.inl ⟨by rfl,?_⟩) hHeld ?_ ?_; rotate_left; (· rintro w' ⟨s0,s1,s2,s3,s4,s5⟩; go_simp; with_reducible rfl); rotate_left; (· simp only [Act.put,LSET15_]; rfl)
            refine pure_ (i := 5) (N := some 60) (v := ?_) (a' := ?_) AR15_14 rfl rfl (any_of HT_.out (by kernel_rfl)) (fun _ _ _ h => h) (Or.inl ⟨by rfl,?_⟩) ?_ ?_; rotate_left; (· intro w'; go_simp; with_reducible rfl); rotate_left; (· simp only [Act.put,LSET15_]; rfl)
            refine pure_ (i := 6) (N := some 61) (v := ?_) (a' := ?_) AR15_16 rfl rfl (any_of HT_.out (by kernel_rfl)) (fun _ _ _ h => h) (Or.inl ⟨by rfl,?_⟩) ?_ ?_; rotate_left; (· intro w'; go_simp; with_reducible rfl); rotate_left; (· simp only [Act.put,LSET15_]; rfl)
            refine pure_ (i := 7) (N := some 62) (v := ?_) (a' := ?_) AR15_17 rfl rfl (any_of HT_.out (by kernel_rfl)) (fun _ _ _ h => h) (Or.inl ⟨by rfl,?_⟩) ?_ ?_; rotate_left; (· intro w'; go_simp; with_reducible rfl); rotate_left; (· simp only [Act.put,LSET15_]; rfl)
            refine pure_ (i := 8) (N := some 63) (v := undef) (a' := ?_) AR15_18 rfl rfl (any_of HT_.out (by kernel_rfl)) (fun _ _ _ h => h) (Or.inr ⟨by rfl,rfl⟩) ?_ ?_; rotate_left; (· simp only [Act.put,LSET15_]; rfl)
            refine pure_ (i := 9) (N := some 64) (v := undef) (a' := ?_) AR15_20 rfl rfl (any_of HT_.out (by kernel_rfl)) (fun _ _ _ h => h) (Or.inr ⟨by rfl,rfl⟩) ?_ ?_; rotate_left; (· simp only [Act.put,LSET15_]; rfl)
            refine pure_ (i := 10) (N := some 65) (v := undef) (a' := ?_) AR15_22 rfl rfl (any_of HT_.out (by kernel_rfl)) (fun _ _ _ h => h) (Or.inr ⟨by rfl,rfl⟩) ?_ ?_; rotate_left; (· simp only [Act.put,LSET15_]; rfl)
            refine pure_ (i := 11) (N := some 66) (v := ?_) (a' := ?_) AR15_24 rfl rfl (any_of HT_.out (by kernel_rfl)) (fun _ _ _ h => h) (Or.inl ⟨by rfl,?_⟩) ?_ ?_; rotate_left; (· intro w'; go_simp; with_reducible rfl); rotate_left; (· simp only [Act.put,LSET15_]; rfl)
            refine pure_ (i := 12) (N := some 67) (v := ?_) (a' := ?_) AR15_26 rfl rfl (any_of HT_.out (by kernel_rfl)) (fun _ _ _ h => h) (Or.inl ⟨by rfl,?_⟩) ?_ ?_; rotate_left; (· intro w'; go_simp; with_reducible rfl); rotate_left; (· simp only [Act.put,LSET15_]; rfl)
            refine pure_ (i := 13) (N := some 68) (v := undef) (a' := ?_) AR15_28 rfl rfl (any_of HT_.out (by kernel_rfl)) (fun _ _ _ h => h) (Or.inr ⟨by rfl,rfl⟩) ?_ ?_; rotate_left; (· simp only [Act.put,LSET15_]; rfl)
            refine pure_ (i := 14) (N := some 69) (v := undef) (a' := ?_) AR15_30 rfl rfl (any_of HT_.out (by kernel_rfl)) (fun _ _ _ h => h) (Or.inr ⟨by rfl,rfl⟩) ?_ ?_; rotate_left; (· simp only [Act.put,LSET15_]; rfl)
            refine pure_ (i := 15) (N := some 70) (v := undef) (a' := ?_) AR15_31 rfl rfl (any_of HT_.out (by kernel_rfl)) (fun _ _ _ h => h) (Or.inr ⟨by rfl,rfl⟩) ?_ ?_; rotate_left; (· simp only [Act.put,LSET15_]; rfl)
            refine pure_ (i := 16) (N := some 71) (v := ?_) (a' := ?_) AR15_32 rfl rfl (any_of HT_.out (by kernel_rfl)) (fun _ _ _ h => h) (Or.inl ⟨by rfl,?_⟩) ?_ ?_; rotate_left; (· intro w'; go_simp; with_reducible rfl); rotate_left; (· simp only [Act.put,LSET15_]; rfl)
            refine pure_ (i := 17) (N := some 72) (v := ?_) (a' := ?_) AR15_33 rfl rfl (any_of HT_.out (by kernel_rfl)) (fun _ _ _ h => h) (Or.inl ⟨by rfl,?_⟩) ?_ ?_; rotate_left; (· intro w'; go_simp; with_reducible rfl); rotate_left; (· simp only [Act.put,LSET15_]; rfl)
            refine pure_ (i := 18) (N := some 73) (v := undef) (a' := ?_) AR15_34 rfl rfl (any_of HT_.out (by kernel_rfl)) (fun _ _ _ h => h) (Or.inr ⟨by rfl,rfl⟩) ?_ ?_; rotate_left; (· simp only [Act.put,LSET15_]; rfl)
            refine pure_ (i := 19) (N := some 74) (v := undef) (a' := ?_) AR15_37 rfl rfl (any_of HT_.out (by kernel_rfl)) (fun _ _ _ h => h) (Or.inr ⟨by rfl,rfl⟩) ?_ ?_; rotate_left; (· simp only [Act.put,LSET15_]; rfl)
            refine pure_ (i := 20) (N := some 75) (v := undef) (a' := ?_) AR15_38 rfl rfl (any_of HT_.out (by kernel_rfl)) (fun _ _ _ h => h) (Or.inr ⟨by rfl,rfl⟩) ?_ ?_; rotate_left; (· simp only [Act.put,LSET15_]; rfl)
            refine pure_ (i := 21) (N := some 76) (v := undef) (a' := ?_) AR15_39 rfl rfl (any_of HT_.out (by kernel_rfl)) (fun _ _ _ h => h) (Or.inr ⟨by rfl,rfl⟩) ?_ ?_; rotate_left; (· simp only [Act.put,LSET15_]; rfl)
            refine pure_ (i := 22) (N := some 77) (v := undef) (a' := ?_) AR15_40 rfl rfl (any_of HT_.out (by kernel_rfl)) (fun _ _ _ h => h) (Or.inr ⟨by rfl,rfl⟩) ?_ ?_; rotate_left; (· simp only [Act.put,LSET15_]; rfl)
            refine pure_ (i := 23) (N := some 78) (v := undef) (a' := ?_) AR15_41 rfl rfl (any_of HT_.out (by kernel_rfl)) (fun _ _ _ h => h) (Or.inr ⟨by rfl,rfl⟩) ?_ ?_; rotate_left; (· simp only [Act.put,LSET15_]; rfl)
            refine pure_ (i := 24) (N := some 79) (v := undef) (a' := ?_) AR15_42 rfl rfl (any_of HT_.out (by kernel_rfl)) (fun _ _ _ h => h) (Or.inr ⟨by rfl,rfl⟩) ?_ ?_; rotate_left; (· simp only [Act.put,LSET15_]; rfl)
            refine pure_ (i := 25) (N := some 80) (v := ?_) (a' := ?_) AR15_43 rfl rfl (any_of HT_.out (by kernel_rfl)) (fun _ _ _ h => h) (Or.inl ⟨by rfl,?_⟩) ?_ ?_; rotate_left; (· intro w'; go_simp; with_reducible rfl); rotate_left; (· simp only [Act.put,LSET15_]; rfl)
            refine pure_ (i := 26) (N := some 81) (v := ?_) (a' := ?_) AR15_44 rfl rfl (any_of HT_.out (by kernel_rfl)) (fun _ _ _ h => h) (Or.inl ⟨by rfl,?_⟩) ?_ ?_; rotate_left; (· intro w'; go_simp; with_reducible rfl); rotate_left; (· simp only [Act.put,LSET15_]; rfl)
            refine pure_ (i := 27) (N := some 82) (v := undef) (a' := ?_) AR15_45 rfl rfl (any_of HT_.out (by kernel_rfl)) (fun _ _ _ h => h) (Or.inr ⟨by rfl,rfl⟩) ?_ ?_; rotate_left; (· simp only [Act.put,LSET15_]; rfl)
            refine pure_ (i := 28) (N := some 83) (v := undef) (a' := ?_) AR15_46 rfl rfl (any_of HT_.out (by kernel_rfl)) (fun _ _ _ h => h) (Or.inr ⟨by rfl,rfl⟩) ?_ ?_; rotate_left; (· simp only [Act.put,LSET15_]; rfl)
            refine pure_ (i := 29) (N := some 84) (v := undef) (a' := ?_) AR15_47 rfl rfl (any_of HT_.out (by kernel_rfl)) (fun _ _ _ h => h) (Or.inr ⟨by rfl,rfl⟩) ?_ ?_; rotate_left; (· simp only [Act.put,LSET15_]; rfl)
            refine pure_ (i := 30) (N := some 85) (v := ?_) (a' := ?_) AR15_48 rfl rfl (any_of HT_.out (by kernel_rfl)) (fun _ _ _ h => h) (Or.inl ⟨by rfl,?_⟩) ?_ ?_; rotate_left; (· intro w'; go_simp; with_reducible rfl); rotate_left; (· simp only [Act.put,LSET15_]; rfl)
            refine pure_ (i := 31) (N := some 86) (v := ?_) (a' := ?_) AR15_49 rfl rfl (any_of HT_.out (by kernel_rfl)) (fun _ _ _ h => h) (Or.inl ⟨by rfl,?_⟩) ?_ ?_; rotate_left; (· intro w'; go_simp; with_reducible rfl); rotate_left; (· simp only [Act.put,LSET15_]; rfl)
            refine pure_ (i := 32) (N := some 87) (v := undef) (a' := ?_) AR15_50 rfl rfl (any_of HT_.out (by kernel_rfl)) (fun _ _ _ h => h) (Or.inr ⟨by rfl,rfl⟩) ?_ ?_; rotate_left; (· simp only [Act.put,LSET15_]; rfl)
            refine pure_ (i := 33) (N := some 88) (v := undef) (a' := ?_) AR15_51 rfl rfl (any_of HT_.out (by kernel_rfl)) (fun _ _ _ h => h) (Or.inr ⟨by rfl,rfl⟩) ?_ ?_; rotate_left; (· simp only [Act.put,LSET15_]; rfl)
            refine pure_ (i := 34) (N := some 89) (v := undef) (a' := ?_) AR15_52 rfl rfl (any_of HT_.out (by kernel_rfl)) (fun _ _ _ h => h) (Or.inr ⟨by rfl,rfl⟩) ?_ ?_; rotate_left; (· simp only [Act.put,LSET15_]; rfl)
            refine pure_ (i := 35) (N := some 90) (v := ?_) (a' := ?_) AR15_53 rfl rfl (any_of HT_.out (by kernel_rfl)) (fun _ _ _ h => h) (Or.inl ⟨by rfl,?_⟩) ?_ ?_; rotate_left; (· intro w'; go_simp; with_reducible rfl); rotate_left; (· simp only [Act.put,LSET15_]; rfl)
            refine pure_ (i := 36) (N := some 91) (v := ?_) (a' := ?_) AR15_54 rfl rfl (any_of HT_.out (by kernel_rfl)) (fun _ _ _ h => h) (Or.inl ⟨by rfl,?_⟩) ?_ ?_; rotate_left; (· intro w'; go_simp; with_reducible rfl); rotate_left; (· simp only [Act.put,LSET15_]; rfl)
            refine pure_ (i := 37) (N := some 92) (v := undef) (a' := ?_) AR15_55 rfl rfl (any_of HT_.out (by kernel_rfl)) (fun _ _ _ h => h) (Or.inr ⟨by rfl,rfl⟩) ?_ ?_; rotate_left; (· simp only [Act.put,LSET15_]; rfl)
            refine pure_ (i := 38) (N := some 93) (v := undef) (a' := ?_) AR15_56 rfl rfl (any_of HT_.out (by kernel_rfl)) (fun _ _ _ h => h) (Or.inr ⟨by rfl,rfl⟩) ?_ ?_; rotate_left; (· simp only [Act.put,LSET15_]; rfl)
            refine pure_ (i := 39) (N := some 94) (v := undef) (a' := ?_) AR15_57 rfl rfl (any_of HT_.out (by kernel_rfl)) (fun _ _ _ h => h) (Or.inr ⟨by rfl,rfl⟩) ?_ ?_; rotate_left; (· simp only [Act.put,LSET15_]; rfl)
            refine pure_ (i := 40) (N := some 95) (v := ?_) (a' := ?_) AR15_58 rfl rfl (any_of HT_.out (by kernel_rfl)) (fun _ _ _ h => h) (Or.inl ⟨by rfl,?_⟩) ?_ ?_; rotate_left; (· intro w'; go_simp; with_reducible rfl); rotate_left; (· simp only [Act.put,LSET15_]; rfl)
            refine done_ (done_of HT_.out (by kernel_rfl)) ?_
            try go_wp2
            go_meet
            case rel => exact ⟨_,(true),(by first | rfl | (simp; done) | (simp [*]; done)),H',⟨by have := HJ1.out; have := HK2.out; have := HJ38.out; first | omega | exact Nat.le_refl _⟩,⟨by (with_reducible repeat (first | refine blk_drewN ?_ _ | refine blk_drew ?_ | refine blk_alloc ?_ _)); exact BK254.out⟩,⟨by repeat (first | (with_reducible first | exact HB.out | apply below_alloc | apply pw_below_drewN | apply below_drew1 | refine below_set ?_ GE254.out) | exact HB.out)⟩⟩
           ·rw [if_neg c46] at H
            have c46b0 : decide (zz1_2 < 1) = false := decide_eq_false c46
            clear c46
            by_cases c48 : zz1_2 > 12
            ·rw [if_pos c48] at H
             have c48b0 : decide (12 < zz1_2) = true := decide_eq_true c48
             clear c48
             have H' := Aside0.mk H
             clear H
             try go_wp2
             have n0_ := Aside0.mk (blk_drew BK254.out)
             have n1_ := Aside0.mk (below_drew1 HB.out)
             clear BK254
             clear HB
             have BK254 := n0_
             have HB := n1_
             clear n0_ n1_
             have hw8_ : ∀ x : Int,wrap64 (x % 256) = x % 256 := fun x => by unfold wrap64; omega
             refine start_ (n := 41) (S := fun w' => w'.cell? ⟨gb254,0,none⟩ = some (.int .i64 zz0_2) ∧ w'.cell? ⟨gb254,1,none⟩ = some (.int .i64 zz1_2) ∧ w'.cell? ⟨gb254,2,none⟩ = some (.int .i64 zz2_2) ∧ w'.cell? ⟨gb254,3,none⟩ = some (.int .i64 zz3_2) ∧ w'.cell? ⟨gb254,4,none⟩ = some (.int .i64 zz4_2) ∧ w'.cell? ⟨gb254,5,none⟩ = some (.int .i64 zz5_2)) (ds := []) AR15_0 (by kernel_rfl) rfl rfl ⟨(blk_cell BK254.out 0).trans rfl,(blk_cell BK254.out 1).trans rfl,(blk_cell BK254.out 2).trans rfl,(blk_cell BK254.out 3).trans rfl,(blk_cell BK254.out 4).trans rfl,(blk_cell BK254.out 5).trans rfl⟩ (fun hHeld => ?_); refine with_tabW halberdref13_Untime.tab13 halberdref13_Untime.bits13 (fun HT_ HW_ => ?_)
             generalize wc.drew = w49 at BK254 HB hHeld ⊢
             refine pure_ (i := 0) (N := some 55) (v := ?_) (a' := ?_) AR15_2 rfl rfl (any_of HT_.out (by kernel_rfl)) (fun _ _ _ h => h) (Or.inl ⟨by rfl,?_⟩) ?_ ?_; rotate_left; (· intro w'; go_simp; with_reducible rfl); rotate_left; (· simp only [Act.put,LSET15_]; rfl)
             refine pure_ (i := 1) (N := some 56) (v := ?_) (a' := ?_) AR15_4 rfl rfl (any_of HT_.out (by kernel_rfl)) (fun _ _ _ h => h) (Or.inl ⟨by rfl,?_⟩) ?_ ?_; rotate_left; (· intro w'; go_simp; with_reducible rfl); rotate_left; (· simp only [Act.put,LSET15_]; rfl)
             refine pure_ (i := 2) (N := some 57) (v := ?_) (a' := ?_) AR15_6 rfl rfl (any_of HT_.out (by kernel_rfl)) (fun _ _ _ h => h) (Or.inl ⟨by rfl,?_⟩) ?_ ?_; rotate_left; (· intro w'; go_simp; with_reducible rfl); rotate_left; (· simp only [Act.put,LSET15_]; rfl)
             refine pure_ (i := 3) (N := some 58) (v := ?_) (a' := ?_) AR15_8 rfl rfl (any_of HT_.out (by kernel_rfl)) (fun _ _ _ h => h) (Or.inl ⟨by rfl,?_⟩) ?_ ?_; rotate_left; (· intro w'; go_simp; with_reducible rfl); rotate_left; (· simp only [Act.put,LSET15_]; rfl)
             refine take_ (i := 4) (N := some 59) (v := ?_) (a' := ?_) AR15_10 rfl rfl (take_ofW HT_.out HW_.out (by kernel_rfl)) (fun _ _ _ h => h) (Or.inl ⟨by rfl,?_⟩) hHeld ?_ ?_; rotate_left; (· rintro w' ⟨s0,s1,s2,s3,s4,s5⟩; go_simp; with_reducible rfl); rotate_left; (· simp only [Act.put,LSET15_]; rfl)
             refine pure_ (i := 5) (N := some 60) (v := ?_) (a' := ?_) AR15_14 rfl rfl (any_of HT_.out (by kernel_rfl)) (fun _ _ _ h => h) (Or.inl ⟨by rfl,?_⟩) ?_ ?_; rotate_left; (· intro w'; go_simp; with_reducible rfl); rotate_left; (· simp only [Act.put,LSET15_]; rfl)
             refine pure_ (i := 6) (N := some 61) (v := ?_) (a' := ?_) AR15_16 rfl rfl (any_of HT_.out (by kernel_rfl)) (fun _ _ _ h => h) (Or.inl ⟨by rfl,?_⟩) ?_ ?_; rotate_left; (· intro w'; go_simp; with_reducible rfl); rotate_left; (· simp only [Act.put,LSET15_]; rfl)
             refine pure_ (i := 7) (N := some 62) (v := ?_) (a' := ?_) AR15_17 rfl rfl (any_of HT_.out (by kernel_rfl)) (fun _ _ _ h => h) (Or.inl ⟨by rfl,?_⟩) ?_ ?_; rotate_left; (· intro w'; go_simp; with_reducible rfl); rotate_left; (· simp only [Act.put,LSET15_]; rfl)
             refine pure_ (i := 8) (N := some 63) (v := ?_) (a' := ?_) AR15_18 rfl rfl (any_of HT_.out (by kernel_rfl)) (fun _ _ _ h => h) (Or.inl ⟨by rfl,?_⟩) ?_ ?_; rotate_left; (· intro w'; go_simp; with_reducible rfl); rotate_left; (· simp only [Act.put,LSET15_]; rfl)
             refine take_ (i := 9) (N := some 64) (v := ?_) (a' := ?_) AR15_20 rfl rfl (take_ofW HT_.out HW_.out (by kernel_rfl)) (fun _ _ _ h => h) (Or.inl ⟨by rfl,?_⟩) hHeld ?_ ?_; rotate_left; (· rintro w' ⟨s0,s1,s2,s3,s4,s5⟩; go_simp; with_reducible rfl); rotate_left; (· simp only [Act.put,LSET15_]; rfl)
             refine pure_ (i := 10) (N := some 65) (v := ?_) (a' := ?_) AR15_22 rfl rfl (any_of HT_.out (by kernel_rfl)) (fun _ _ _ h => h) (Or.inl ⟨by rfl,?_⟩) ?_ ?_; rotate_left; (· intro w'; go_simp; with_reducible rfl); rotate_left; (· simp only [Act.put,LSET15_]; rfl)
             refine pure_ (i := 11) (N := some 66) (v := ?_) (a' := ?_) AR15_24 rfl rfl (any_of HT_.out (by kernel_rfl)) (fun _ _ _ h => h) (Or.inl ⟨by rfl,?_⟩) ?_ ?_; rotate_left; (· intro w'; go_simp; with_reducible rfl); rotate_left; (· simp only [Act.put,LSET15_]; rfl)
             refine pure_ (i := 12) (N := some 67) (v := ?_) (a' := ?_) AR15_26 rfl rfl (any_of HT_.out (by kernel_rfl)) (fun _ _ _ h => h) (Or.inl ⟨by rfl,?_⟩) ?_ ?_; rotate_left; (· intro w'; go_simp; with_reducible rfl); rotate_left; (· simp only [Act.put,LSET15_]; rfl)
             refine pure_ (i := 13) (N := some 68) (v := undef) (a' := ?_) AR15_28 rfl rfl (any_of HT_.out (by kernel_rfl)) (fun _ _ _ h => h) (Or.inr ⟨by rfl,rfl⟩) ?_ ?_; rotate_left; (· simp only [Act.put,LSET15_]; rfl)
             refine pure_ (i := 14) (N := some 69) (v := undef) (a' := ?_) AR15_30 rfl rfl (any_of HT_.out (by kernel_rfl)) (fun _ _ _ h => h) (Or.inr ⟨by rfl,rfl⟩) ?_ ?_; rotate_left; (· simp only [Act.put,LSET15_]; rfl)
             refine pure_ (i := 15) (N := some 70) (v := undef) (a' := ?_) AR15_31 rfl rfl (any_of HT_.out (by kernel_rfl)) (fun _ _ _ h => h) (Or.inr ⟨by rfl,rfl⟩) ?_ ?_; rotate_left; (· simp only [Act.put,LSET15_]; rfl)
             refine pure_ (i := 16) (N := some 71) (v := ?_) (a' := ?_) AR15_32 rfl rfl (any_of HT_.out (by kernel_rfl)) (fun _ _ _ h => h) (Or.inl ⟨by rfl,?_⟩) ?_ ?_; rotate_left; (· intro w'; go_simp; with_reducible rfl); rotate_left; (· simp only [Act.put,LSET15_]; rfl)
             refine pure_ (i := 17) (N := some 72) (v := ?_) (a' := ?_) AR15_33 rfl rfl (any_of HT_.out (by kernel_rfl)) (fun _ _ _ h => h) (Or.inl ⟨by rfl,?_⟩) ?_ ?_; rotate_left; (· intro w'; go_simp; with_reducible rfl); rotate_left; (· simp only [Act.put,LSET15_]; rfl)
             refine pure_ (i := 18) (N := some 73) (v := undef) (a' := ?_) AR15_34 rfl rfl (any_of HT_.out (by kernel_rfl)) (fun _ _ _ h => h) (Or.inr ⟨by rfl,rfl⟩) ?_ ?_; rotate_left; (· simp only [Act.put,LSET15_]; rfl)
             refine pure_ (i := 19) (N := some 74) (v := undef) (a' := ?_) AR15_37 rfl rfl (any_of HT_.out (by kernel_rfl)) (fun _ _ _ h => h) (Or.inr ⟨by rfl,rfl⟩) ?_ ?_; rotate_left; (· simp only [Act.put,LSET15_]; rfl)
             refine pure_ (i := 20) (N := some 75) (v := undef) (a' := ?_) AR15_38 rfl rfl (any_of HT_.out (by kernel_rfl)) (fun _ _ _ h => h) (Or.inr ⟨by rfl,rfl⟩) ?_ ?_; rotate_left; (· simp only [Act.put,LSET15_]; rfl)
             refine pure_ (i := 21) (N := some 76) (v := undef) (a' := ?_) AR15_39 rfl rfl (any_of HT_.out (by kernel_rfl)) (fun _ _ _ h => h) (Or.inr ⟨by rfl,rfl⟩) ?_ ?_; rotate_left; (· simp only [Act.put,LSET15_]; rfl)
             refine pure_ (i := 22) (N := some 77) (v := undef) (a' := ?_) AR15_40 rfl rfl (any_of HT_.out (by kernel_rfl)) (fun _ _ _ h => h) (Or.inr ⟨by rfl,rfl⟩) ?_ ?_; rotate_left; (· simp only [Act.put,LSET15_]; rfl)
             refine pure_ (i := 23) (N := some 78) (v := undef) (a' := ?_) AR15_41 rfl rfl (any_of HT_.out (by kernel_rfl)) (fun _ _ _ h => h) (Or.inr ⟨by rfl,rfl⟩) ?_ ?_; rotate_left; (· simp only [Act.put,LSET15_]; rfl)
             refine pure_ (i := 24) (N := some 79) (v := undef) (a' := ?_) AR15_42 rfl rfl (any_of HT_.out (by kernel_rfl)) (fun _ _ _ h => h) (Or.inr ⟨by rfl,rfl⟩) ?_ ?_; rotate_left; (· simp only [Act.put,LSET15_]; rfl)
             refine pure_ (i := 25) (N := some 80) (v := ?_) (a' := ?_) AR15_43 rfl rfl (any_of HT_.out (by kernel_rfl)) (fun _ _ _ h => h) (Or.inl ⟨by rfl,?_⟩) ?_ ?_; rotate_left; (· intro w'; go_simp; with_reducible rfl); rotate_left; (· simp only [Act.put,LSET15_]; rfl)
             refine pure_ (i := 26) (N := some 81) (v := ?_) (a' := ?_) AR15_44 rfl rfl (any_of HT_.out (by kernel_rfl)) (fun _ _ _ h => h) (Or.inl ⟨by rfl,?_⟩) ?_ ?_; rotate_left; (· intro w'; go_simp; with_reducible rfl); rotate_left; (· simp only [Act.put,LSET15_]; rfl)
             refine pure_ (i := 27) (N := some 82) (v := undef) (a' := ?_) AR15_45 rfl rfl (any_of HT_.out (by kernel_rfl)) (fun _ _ _ h => h) (Or.inr ⟨by rfl,rfl⟩) ?_ ?_; rotate_left; (· simp only [Act.put,LSET15_]; rfl)
             refine pure_ (i := 28) (N := some 83) (v := undef) (a' := ?_) AR15_46 rfl rfl (any_of HT_.out (by kernel_rfl)) (fun _ _ _ h => h) (Or.inr ⟨by rfl,rfl⟩) ?_ ?_; rotate_left; (· simp only [Act.put,LSET15_]; rfl)
             refine pure_ (i := 29) (N := some 84) (v := undef) (a' := ?_) AR15_47 rfl rfl (any_of HT_.out (by kernel_rfl)) (fun _ _ _ h => h) (Or.inr ⟨by rfl,rfl⟩) ?_ ?_; rotate_left; (· simp only [Act.put,LSET15_]; rfl)
             refine pure_ (i := 30) (N := some 85) (v := ?_) (a' := ?_) AR15_48 rfl rfl (any_of HT_.out (by kernel_rfl)) (fun _ _ _ h => h) (Or.inl ⟨by rfl,?_⟩) ?_ ?_; rotate_left; (· intro w'; go_simp; with_reducible rfl); rotate_left; (· simp only [Act.put,LSET15_]; rfl)
             refine pure_ (i := 31) (N := some 86) (v := ?_) (a' := ?_) AR15_49 rfl rfl (any_of HT_.out (by kernel_rfl)) (fun _ _ _ h => h) (Or.inl ⟨by rfl,?_⟩) ?_ ?_; rotate_left; (· intro w'; go_simp; with_reducible rfl); rotate_left; (· simp only [Act.put,LSET15_]; rfl)
             refine pure_ (i := 32) (N := some 87) (v := undef) (a' := ?_) AR15_50 rfl rfl (any_of HT_.out (by kernel_rfl)) (fun _ _ _ h => h) (Or.inr ⟨by rfl,rfl⟩) ?_ ?_; rotate_left; (· simp only [Act.put,LSET15_]; rfl)
             refine pure_ (i := 33) (N := some 88) (v := undef) (a' := ?_) AR15_51 rfl rfl (any_of HT_.out (by kernel_rfl)) (fun _ _ _ h => h) (Or.inr ⟨by rfl,rfl⟩) ?_ ?_; rotate_left; (· simp only [Act.put,LSET15_]; rfl)
             refine pure_ (i := 34) (N := some 89) (v := undef) (a' := ?_) AR15_52 rfl rfl (any_of HT_.out (by kernel_rfl)) (fun _ _ _ h => h) (Or.inr ⟨by rfl,rfl⟩) ?_ ?_; rotate_left; (· simp only [Act.put,LSET15_]; rfl)
             refine pure_ (i := 35) (N := some 90) (v := ?_) (a' := ?_) AR15_53 rfl rfl (any_of HT_.out (by kernel_rfl)) (fun _ _ _ h => h) (Or.inl ⟨by rfl,?_⟩) ?_ ?_; rotate_left; (· intro w'; go_simp; with_reducible rfl); rotate_left; (· simp only [Act.put,LSET15_]; rfl)
             refine pure_ (i := 36) (N := some 91) (v := ?_) (a' := ?_) AR15_54 rfl rfl (any_of HT_.out (by kernel_rfl)) (fun _ _ _ h => h) (Or.inl ⟨by rfl,?_⟩) ?_ ?_; rotate_left; (· intro w'; go_simp; with_reducible rfl); rotate_left; (· simp only [Act.put,LSET15_]; rfl)
             refine pure_ (i := 37) (N := some 92) (v := undef) (a' := ?_) AR15_55 rfl rfl (any_of HT_.out (by kernel_rfl)) (fun _ _ _ h => h) (Or.inr ⟨by rfl,rfl⟩) ?_ ?_; rotate_left; (· simp only [Act.put,LSET15_]; rfl)
             refine pure_ (i := 38) (N := some 93) (v := undef) (a' := ?_) AR15_56 rfl rfl (any_of HT_.out (by kernel_rfl)) (fun _ _ _ h => h) (Or.inr ⟨by rfl,rfl⟩) ?_ ?_; rotate_left; (· simp only [Act.put,LSET15_]; rfl)
             refine pure_ (i := 39) (N := some 94) (v := undef) (a' := ?_) AR15_57 rfl rfl (any_of HT_.out (by kernel_rfl)) (fun _ _ _ h => h) (Or.inr ⟨by rfl,rfl⟩) ?_ ?_; rotate_left; (· simp only [Act.put,LSET15_]; rfl)
             refine pure_ (i := 40) (N := some 95) (v := ?_) (a' := ?_) AR15_58 rfl rfl (any_of HT_.out (by kernel_rfl)) (fun _ _ _ h => h) (Or.inl ⟨by rfl,?_⟩) ?_ ?_; rotate_left; (· intro w'; go_simp; with_reducible rfl); rotate_left; (· simp only [Act.put,LSET15_]; rfl)
             refine done_ (done_of HT_.out (by kernel_rfl)) ?_
             try go_wp2
             go_meet
             case rel => exact ⟨_,(true),(by first | rfl | (simp; done) | (simp [*]; done)),H',⟨by have := HJ1.out; have := HK2.out; have := HJ38.out; first | omega | exact Nat.le_refl _⟩,⟨by (with_reducible repeat (first | refine blk_drewN ?_ _ | refine blk_drew ?_ | refine blk_alloc ?_ _)); exact BK254.out⟩,⟨by repeat (first | (with_reducible first | exact HB.out | apply below_alloc | apply pw_below_drewN | apply below_drew1 | refine below_set ?_ GE254.out) | exact HB.out)⟩⟩
            ·rw [if_neg c48] at H
             have c48b0 : decide (12 < zz1_2) = false := decide_eq_false c48
             clear c48
             by_cases c50 : zz2_2 < 1
             ·rw [if_pos c50] at H
              have c50b0 : decide (zz2_2 < 1) = true := decide_eq_true c50
              clear c50
              have H' := Aside0.mk H
              clear H
              try go_wp2
              have n0_ := Aside0.mk (blk_drew BK254.out)
              have n1_ := Aside0.mk (below_drew1 HB.out)
              clear BK254
              clear HB
              have BK254 := n0_
              have HB := n1_
              clear n0_ n1_
              have hw8_ : ∀ x : Int,wrap64 (x % 256) = x % 256 := fun x => by unfold wrap64; omega
              refine start_ (n := 41) (S := fun w' => w'.cell? ⟨gb254,0,none⟩ = some (.int .i64 zz0_2) ∧ w'.cell? ⟨gb254,1,none⟩ = some (.int .i64 zz1_2) ∧ w'.cell? ⟨gb254,2,none⟩ = some (.int .i64 zz2_2) ∧ w'.cell? ⟨gb254,3,none⟩ = some (.int .i64 zz3_2) ∧ w'.cell? ⟨gb254,4,none⟩ = some (.int .i64 zz4_2) ∧ w'.cell? ⟨gb254,5,none⟩ = some (.int .i64 zz5_2)) (ds := []) AR15_0 (by kernel_rfl) rfl rfl ⟨(blk_cell BK254.out 0).trans rfl,(blk_cell BK254.out 1).trans rfl,(blk_cell BK254.out 2).trans rfl,(blk_cell BK254.out 3).trans rfl,(blk_cell BK254.out 4).trans rfl,(blk_cell BK254.out 5).trans rfl⟩ (fun hHeld => ?_); refine with_tabW halberdref13_Untime.tab13 halberdref13_Untime.bits13 (fun HT_ HW_ => ?_)
              generalize wc.drew = w51 at BK254 HB hHeld ⊢
              refine pure_ (i := 0) (N := some 55) (v := ?_) (a' := ?_) AR15_2 rfl rfl (any_of HT_.out (by kernel_rfl)) (fun _ _ _ h => h) (Or.inl ⟨by rfl,?_⟩) ?_ ?_; rotate_left; (· intro w'; go_simp; with_reducible rfl); rotate_left; (· simp only [Act.put,LSET15_]; rfl)
              refine pure_ (i := 1) (N := some 56) (v := ?_) (a' := ?_) AR15_4 rfl rfl (any_of HT_.out (by kernel_rfl)) (fun _ _ _ h => h) (Or.inl ⟨by rfl,?_⟩) ?_ ?_; rotate_left; (· intro w'; go_simp; with_reducible rfl); rotate_left; (· simp only [Act.put,LSET15_]; rfl)
              refine pure_ (i := 2) (N := some 57) (v := ?_) (a' := ?_) AR15_6 rfl rfl (any_of HT_.out (by kernel_rfl)) (fun _ _ _ h => h) (Or.inl ⟨by rfl,?_⟩) ?_ ?_; rotate_left; (· intro w'; go_simp; with_reducible rfl); rotate_left; (· simp only [Act.put,LSET15_]; rfl)
              refine pure_ (i := 3) (N := some 58) (v := ?_) (a' := ?_) AR15_8 rfl rfl (any_of HT_.out (by kernel_rfl)) (fun _ _ _ h => h) (Or.inl ⟨by rfl,?_⟩) ?_ ?_; rotate_left; (· intro w'; go_simp; with_reducible rfl); rotate_left; (· simp only [Act.put,LSET15_]; rfl)
              refine take_ (i := 4) (N := some 59) (v := ?_) (a' := ?_) AR15_10 rfl rfl (take_ofW HT_.out HW_.out (by kernel_rfl)) (fun _ _ _ h => h) (Or.inl ⟨by rfl,?_⟩) hHeld ?_ ?_; rotate_left; (· rintro w' ⟨s0,s1,s2,s3,s4,s5⟩; go_simp; with_reducible rfl); rotate_left; (· simp only [Act.put,LSET15_]; rfl)
              refine pure_ (i := 5) (N := some 60) (v := ?_) (a' := ?_) AR15_14 rfl rfl (any_of HT_.out (by kernel_rfl)) (fun _ _ _ h => h) (Or.inl ⟨by rfl,?_⟩) ?_ ?_; rotate_left; (· intro w'; go_simp; with_reducible rfl); rotate_left; (· simp only [Act.put,LSET15_]; rfl)
              refine pure_ (i := 6) (N := some 61) (v := ?_) (a' := ?_) AR15_16 rfl rfl (any_of HT_.out (by kernel_rfl)) (fun _ _ _ h => h) (Or.inl ⟨by rfl,?_⟩) ?_ ?_; rotate_left; (· intro w'; go_simp; with_reducible rfl); rotate_left; (· simp only [Act.put,LSET15_]; rfl)
              refine pure_ (i := 7) (N := some 62) (v := ?_) (a' := ?_) AR15_17 rfl rfl (any_of HT_.out (by kernel_rfl)) (fun _ _ _ h => h) (Or.inl ⟨by rfl,?_⟩) ?_ ?_; rotate_left; (· intro w'; go_simp; with_reducible rfl); rotate_left; (· simp only [Act.put,LSET15_]; rfl)
              refine pure_ (i := 8) (N := some 63) (v := ?_) (a' := ?_) AR15_18 rfl rfl (any_of HT_.out (by kernel_rfl)) (fun _ _ _ h => h) (Or.inl ⟨by rfl,?_⟩) ?_ ?_; rotate_left; (· intro w'; go_simp; with_reducible rfl); rotate_left; (· simp only [Act.put,LSET15_]; rfl)
              refine take_ (i := 9) (N := some 64) (v := ?_) (a' := ?_) AR15_20 rfl rfl (take_ofW HT_.out HW_.out (by kernel_rfl)) (fun _ _ _ h => h) (Or.inl ⟨by rfl,?_⟩) hHeld ?_ ?_; rotate_left; (· rintro w' ⟨s0,s1,s2,s3,s4,s5⟩; go_simp; with_reducible rfl); rotate_left; (· simp only [Act.put,LSET15_]; rfl)
              refine pure_ (i := 10) (N := some 65) (v := ?_) (a' := ?_) AR15_22 rfl rfl (any_of HT_.out (by kernel_rfl)) (fun _ _ _ h => h) (Or.inl ⟨by rfl,?_⟩) ?_ ?_; rotate_left; (· intro w'; go_simp; with_reducible rfl); rotate_left; (· simp only [Act.put,LSET15_]; rfl)
              refine pure_ (i := 11) (N := some 66) (v := ?_) (a' := ?_) AR15_24 rfl rfl (any_of HT_.out (by kernel_rfl)) (fun _ _ _ h => h) (Or.inl ⟨by rfl,?_⟩) ?_ ?_; rotate_left; (· intro w'; go_simp; with_reducible rfl); rotate_left; (· simp only [Act.put,LSET15_]; rfl)
              refine pure_ (i := 12) (N := some 67) (v := ?_) (a' := ?_) AR15_26 rfl rfl (any_of HT_.out (by kernel_rfl)) (fun _ _ _ h => h) (Or.inl ⟨by rfl,?_⟩) ?_ ?_; rotate_left; (· intro w'; go_simp; with_reducible rfl); rotate_left; (· simp only [Act.put,LSET15_]; rfl)
              refine pure_ (i := 13) (N := some 68) (v := ?_) (a' := ?_) AR15_28 rfl rfl (any_of HT_.out (by kernel_rfl)) (fun _ _ _ h => h) (Or.inl ⟨by rfl,?_⟩) ?_ ?_; rotate_left; (· intro w'; go_simp; with_reducible rfl); rotate_left; (· simp only [Act.put,LSET15_]; rfl)
              refine take_ (i := 14) (N := some 69) (v := ?_) (a' := ?_) AR15_30 rfl rfl (take_ofW HT_.out HW_.out (by kernel_rfl)) (fun _ _ _ h => h) (Or.inl ⟨by rfl,?_⟩) hHeld ?_ ?_; rotate_left; (· rintro w' ⟨s0,s1,s2,s3,s4,s5⟩; go_simp; with_reducible rfl); rotate_left; (· simp only [Act.put,LSET15_]; rfl)
              refine pure_ (i := 15) (N := some 70) (v := ?_) (a' := ?_) AR15_31 rfl rfl (any_of HT_.out (by kernel_rfl)) (fun _ _ _ h => h) (Or.inl ⟨by rfl,?_⟩) ?_ ?_; rotate_left; (· intro w'; go_simp; with_reducible rfl); rotate_left; (· simp only [Act.put,LSET15_]; rfl)
              refine pure_ (i := 16) (N := some 71) (v := ?_) (a' := ?_) AR15_32 rfl rfl (any_of HT_.out (by kernel_rfl)) (fun _ _ _ h => h) (Or.inl ⟨by rfl,?_⟩) ?_ ?_; rotate_left; (· intro w'; go_simp; with_reducible rfl); rotate_left; (· simp only [Act.put,LSET15_]; rfl)
              refine pure_ (i := 17) (N := some 72) (v := ?_) (a' := ?_) AR15_33 rfl rfl (any_of HT_.out (by kernel_rfl)) (fun _ _ _ h => h) (Or.inl ⟨by rfl,?_⟩) ?_ ?_; rotate_left; (· intro w'; go_simp; with_reducible rfl); rotate_left; (· simp only [Act.put,LSET15_]; rfl)
              refine pure_ (i := 18) (N := some 73) (v := undef) (a' := ?_) AR15_34 rfl rfl (any_of HT_.out (by kernel_rfl)) (fun _ _ _ h => h) (Or.inr ⟨by rfl,rfl⟩) ?_ ?_; rotate_left; (· simp only [Act.put,LSET15_]; rfl)
              refine pure_ (i := 19) (N := some 74) (v := undef) (a' := ?_) AR15_37 rfl rfl (any_of HT_.out (by kernel_rfl)) (fun _ _ _ h => h) (Or.inr ⟨by rfl,rfl⟩) ?_ ?_; rotate_left; (· simp only [Act.put,LSET15_]; rfl)
              refine pure_ (i := 20) (N := some 75) (v := undef) (a' := ?_) AR15_38 rfl rfl (any_of HT_.out (by kernel_rfl)) (fun _ _ _ h => h) (Or.inr ⟨by rfl,rfl⟩) ?_ ?_; rotate_left; (· simp only [Act.put,LSET15_]; rfl)
              refine pure_ (i := 21) (N := some 76) (v := undef) (a' := ?_) AR15_39 rfl rfl (any_of HT_.out (by kernel_rfl)) (fun _ _ _ h => h) (Or.inr ⟨by rfl,rfl⟩) ?_ ?_; rotate_left; (· simp only [Act.put,LSET15_]; rfl)
              refine pure_ (i := 22) (N := some 77) (v := undef) (a' := ?_) AR15_40 rfl rfl (any_of HT_.out (by kernel_rfl)) (fun _ _ _ h => h) (Or.inr ⟨by rfl,rfl⟩) ?_ ?_; rotate_left; (· simp only [Act.put,LSET15_]; rfl)
              refine pure_ (i := 23) (N := some 78) (v := undef) (a' := ?_) AR15_41 rfl rfl (any_of HT_.out (by kernel_rfl)) (fun _ _ _ h => h) (Or.inr ⟨by rfl,rfl⟩) ?_ ?_; rotate_left; (· simp only [Act.put,LSET15_]; rfl)
              refine pure_ (i := 24) (N := some 79) (v := undef) (a' := ?_) AR15_42 rfl rfl (any_of HT_.out (by kernel_rfl)) (fun _ _ _ h => h) (Or.inr ⟨by rfl,rfl⟩) ?_ ?_; rotate_left; (· simp only [Act.put,LSET15_]; rfl)
              refine pure_ (i := 25) (N := some 80) (v := ?_) (a' := ?_) AR15_43 rfl rfl (any_of HT_.out (by kernel_rfl)) (fun _ _ _ h => h) (Or.inl ⟨by rfl,?_⟩) ?_ ?_; rotate_left; (· intro w'; go_simp; with_reducible rfl); rotate_left; (· simp only [Act.put,LSET15_]; rfl)
              refine pure_ (i := 26) (N := some 81) (v := ?_) (a' := ?_) AR15_44 rfl rfl (any_of HT_.out (by kernel_rfl)) (fun _ _ _ h => h) (Or.inl ⟨by rfl,?_⟩) ?_ ?_; rotate_left; (· intro w'; go_simp; with_reducible rfl); rotate_left; (· simp only [Act.put,LSET15_]; rfl)
              refine pure_ (i := 27) (N := some 82) (v := undef) (a' := ?_) AR15_45 rfl rfl (any_of HT_.out (by kernel_rfl)) (fun _ _ _ h => h) (Or.inr ⟨by rfl,rfl⟩) ?_ ?_; rotate_left; (· simp only [Act.put,LSET15_]; rfl)
              refine pure_ (i := 28) (N := some 83) (v := undef) (a' := ?_) AR15_46 rfl rfl (any_of HT_.out (by kernel_rfl)) (fun _ _ _ h => h) (Or.inr ⟨by rfl,rfl⟩) ?_ ?_; rotate_left; (· simp only [Act.put,LSET15_]; rfl)
              refine pure_ (i := 29) (N := some 84) (v := undef) (a' := ?_) AR15_47 rfl rfl (any_of HT_.out (by kernel_rfl)) (fun _ _ _ h => h) (Or.inr ⟨by rfl,rfl⟩) ?_ ?_; rotate_left; (· simp only [Act.put,LSET15_]; rfl)
              refine pure_ (i := 30) (N := some 85) (v := ?_) (a' := ?_) AR15_48 rfl rfl (any_of HT_.out (by kernel_rfl)) (fun _ _ _ h => h) (Or.inl ⟨by rfl,?_⟩) ?_ ?_; rotate_left; (· intro w'; go_simp; with_reducible rfl); rotate_left; (· simp only [Act.put,LSET15_]; rfl)
              refine pure_ (i := 31) (N := some 86) (v := ?_) (a' := ?_) AR15_49 rfl rfl (any_of HT_.out (by kernel_rfl)) (fun _ _ _ h => h) (Or.inl ⟨by rfl,?_⟩) ?_ ?_; rotate_left; (· intro w'; go_simp; with_reducible rfl); rotate_left; (· simp only [Act.put,LSET15_]; rfl)
              refine pure_ (i := 32) (N := some 87) (v := undef) (a' := ?_) AR15_50 rfl rfl (any_of HT_.out (by kernel_rfl)) (fun _ _ _ h => h) (Or.inr ⟨by rfl,rfl⟩) ?_ ?_; rotate_left; (· simp only [Act.put,LSET15_]; rfl)
              refine pure_ (i := 33) (N := some 88) (v := undef) (a' := ?_) AR15_51 rfl rfl (any_of HT_.out (by kernel_rfl)) (fun _ _ _ h => h) (Or.inr ⟨by rfl,rfl⟩) ?_ ?_; rotate_left; (· simp only [Act.put,LSET15_]; rfl)
              refine pure_ (i := 34) (N := some 89) (v := undef) (a' := ?_) AR15_52 rfl rfl (any_of HT_.out (by kernel_rfl)) (fun _ _ _ h => h) (Or.inr ⟨by rfl,rfl⟩) ?_ ?_; rotate_left; (· simp only [Act.put,LSET15_]; rfl)
              refine pure_ (i := 35) (N := some 90) (v := ?_) (a' := ?_) AR15_53 rfl rfl (any_of HT_.out (by kernel_rfl)) (fun _ _ _ h => h) (Or.inl ⟨by rfl,?_⟩) ?_ ?_; rotate_left; (· intro w'; go_simp; with_reducible rfl); rotate_left; (· simp only [Act.put,LSET15_]; rfl)
              refine pure_ (i := 36) (N := some 91) (v := ?_) (a' := ?_) AR15_54 rfl rfl (any_of HT_.out (by kernel_rfl)) (fun _ _ _ h => h) (Or.inl ⟨by rfl,?_⟩) ?_ ?_; rotate_left; (· intro w'; go_simp; with_reducible rfl); rotate_left; (· simp only [Act.put,LSET15_]; rfl)
              refine pure_ (i := 37) (N := some 92) (v := undef) (a' := ?_) AR15_55 rfl rfl (any_of HT_.out (by kernel_rfl)) (fun _ _ _ h => h) (Or.inr ⟨by rfl,rfl⟩) ?_ ?_; rotate_left; (· simp only [Act.put,LSET15_]; rfl)
              refine pure_ (i := 38) (N := some 93) (v := undef) (a' := ?_) AR15_56 rfl rfl (any_of HT_.out (by kernel_rfl)) (fun _ _ _ h => h) (Or.inr ⟨by rfl,rfl⟩) ?_ ?_; rotate_left; (· simp only [Act.put,LSET15_]; rfl)
              refine pure_ (i := 39) (N := some 94) (v := undef) (a' := ?_) AR15_57 rfl rfl (any_of HT_.out (by kernel_rfl)) (fun _ _ _ h => h) (Or.inr ⟨by rfl,rfl⟩) ?_ ?_; rotate_left; (· simp only [Act.put,LSET15_]; rfl)
              refine pure_ (i := 40) (N := some 95) (v := ?_) (a' := ?_) AR15_58 rfl rfl (any_of HT_.out (by kernel_rfl)) (fun _ _ _ h => h) (Or.inl ⟨by rfl,?_⟩) ?_ ?_; rotate_left; (· intro w'; go_simp; with_reducible rfl); rotate_left; (· simp only [Act.put,LSET15_]; rfl)
              refine done_ (done_of HT_.out (by kernel_rfl)) ?_
              try go_wp2
              go_meet
              case rel => exact ⟨_,(true),(by first | rfl | (simp; done) | (simp [*]; done)),H',⟨by have := HJ1.out; have := HK2.out; have := HJ38.out; first | omega | exact Nat.le_refl _⟩,⟨by (with_reducible repeat (first | refine blk_drewN ?_ _ | refine blk_drew ?_ | refine blk_alloc ?_ _)); exact BK254.out⟩,⟨by repeat (first | (with_reducible first | exact HB.out | apply below_alloc | apply pw_below_drewN | apply below_drew1 | refine below_set ?_ GE254.out) | exact HB.out)⟩⟩
             ·rw [if_neg c50] at H
              have c50b0 : decide (zz2_2 < 1) = false := decide_eq_false c50
              clear c50
              replace H := Option.bind_eq_some_iff.mp H
              obtain ⟨t255,A520,H⟩ := H
              replace H : (if zz2_2 > t255 then (halberdref13_Untime.j3 kj38 x6_38 true zz0_2 zz1_2 zz2_2 zz3_2 zz4_2 zz5_2) else (if zz3_2 > 23 then (halberdref13_Untime.j3 kj38 x6_38 true zz0_2 zz1_2 zz2_2 zz3_2 zz4_2 zz5_2) else (if zz4_2 > 59 then (halberdref13_Untime.j3 kj38 x6_38 true zz0_2 zz1_2 zz2_2 zz3_2 zz4_2 zz5_2) else (halberdref13_Untime.j3 kj38 x6_38 (decide (zz5_2 > 59)) zz0_2 zz1_2 zz2_2 zz3_2 zz4_2 zz5_2)))) = some (r1,r2) := H
              have A52 := Aside0.mk A520
              clear A520
              by_cases c53 : zz2_2 > t255
              ·rw [if_pos c53] at H
               have c53b0 : decide (t255 < zz2_2) = true := decide_eq_true c53
               clear c53
               have H' := Aside0.mk H
               clear H
               try go_wp2
               have n0_ := Aside0.mk (blk_drew BK254.out)
               have n1_ := Aside0.mk (below_drew1 HB.out)
               clear BK254
               clear HB
               have BK254 := n0_
               have HB := n1_
               clear n0_ n1_
               have hw8_ : ∀ x : Int,wrap64 (x % 256) = x % 256 := fun x => by unfold wrap64; omega
               refine start_ (n := 41) (S := fun w' => w'.cell? ⟨gb254,0,none⟩ = some (.int .i64 zz0_2) ∧ w'.cell? ⟨gb254,1,none⟩ = some (.int .i64 zz1_2) ∧ w'.cell? ⟨gb254,2,none⟩ = some (.int .i64 zz2_2) ∧ w'.cell? ⟨gb254,3,none⟩ = some (.int .i64 zz3_2) ∧ w'.cell? ⟨gb254,4,none⟩ = some (.int .i64 zz4_2) ∧ w'.cell? ⟨gb254,5,none⟩ = some (.int .i64 zz5_2)) (ds := []) AR15_0 (by kernel_rfl) rfl rfl ⟨(blk_cell BK254.out 0).trans rfl,(blk_cell BK254.out 1).trans rfl,(blk_cell BK254.out 2).trans rfl,(blk_cell BK254.out 3).trans rfl,(blk_cell BK254.out 4).trans rfl,(blk_cell BK254.out 5).trans rfl⟩ (fun hHeld => ?_); refine with_tabW halberdref13_Untime.tab13 halberdref13_Untime.bits13 (fun HT_ HW_ => ?_)
               generalize wc.drew = w54 at BK254 HB hHeld ⊢
               refine pure_ (i := 0) (N := some 55) (v := ?_) (a' := ?_) AR15_2 rfl rfl (any_of HT_.out (by kernel_rfl)) (fun _ _ _ h => h) (Or.inl ⟨by rfl,?_⟩) ?_ ?_; rotate_left; (· intro w'; go_simp; with_reducible rfl); rotate_left; (· simp only [Act.put,LSET15_]; rfl)
               refine pure_ (i := 1) (N := some 56) (v := ?_) (a' := ?_) AR15_4 rfl rfl (any_of HT_.out (by kernel_rfl)) (fun _ _ _ h => h) (Or.inl ⟨by rfl,?_⟩) ?_ ?_; rotate_left; (· intro w'; go_simp; with_reducible rfl); rotate_left; (· simp only [Act.put,LSET15_]; rfl)
               refine pure_ (i := 2) (N := some 57) (v := ?_) (a' := ?_) AR15_6 rfl rfl (any_of HT_.out (by kernel_rfl)) (fun _ _ _ h => h) (Or.inl ⟨by rfl,?_⟩) ?_ ?_; rotate_left; (· intro w'; go_simp; with_reducible rfl); rotate_left; (· simp only [Act.put,LSET15_]; rfl)
               refine pure_ (i := 3) (N := some 58) (v := ?_) (a' := ?_) AR15_8 rfl rfl (any_of HT_.out (by kernel_rfl)) (fun _ _ _ h => h) (Or.inl ⟨by rfl,?_⟩) ?_ ?_; rotate_left; (· intro w'; go_simp; with_reducible rfl); rotate_left; (· simp only [Act.put,LSET15_]; rfl)
               refine take_ (i := 4) (N := some 59) (v := ?_) (a' := ?_) AR15_10 rfl rfl (take_ofW HT_.out HW_.out (by kernel_rfl)) (fun _ _ _ h => h) (Or.inl ⟨by rfl,?_⟩) hHeld ?_ ?_; rotate_left; (· rintro w' ⟨s0,s1,s2,s3,s4,s5⟩; go_simp; with_reducible rfl); rotate_left; (· simp only [Act.put,LSET15_]; rfl)
               refine pure_ (i := 5) (N := some 60) (v := ?_) (a' := ?_) AR15_14 rfl rfl (any_of HT_.out (by kernel_rfl)) (fun _ _ _ h => h) (Or.inl ⟨by rfl,?_⟩) ?_ ?_; rotate_left; (· intro w'; go_simp; with_reducible rfl); rotate_left; (· simp only [Act.put,LSET15_]; rfl)
               refine pure_ (i := 6) (N := some 61) (v := ?_) (a' := ?_) AR15_16 rfl rfl (any_of HT_.out (by kernel_rfl)) (fun _ _ _ h => h) (Or.inl ⟨by rfl,?_⟩) ?_ ?_; rotate_left; (· intro w'; go_simp; with_reducible rfl); rotate_left; (· simp only [Act.put,LSET15_]; rfl)
               refine pure_ (i := 7) (N := some 62) (v := ?_) (a' := ?_) AR15_17 rfl rfl (any_of HT_.out (by kernel_rfl)) (fun _ _ _ h => h) (Or.inl ⟨by rfl,?_⟩) ?_ ?_; rotate_left; (· intro w'; go_simp; with_reducible rfl); rotate_left; (· simp only [Act.put,LSET15_]; rfl)
               refine pure_ (i := 8) (N := some 63) (v := ?_) (a' := ?_) AR15_18 rfl rfl (any_of HT_.out (by kernel_rfl)) (fun _ _ _ h => h) (Or.inl ⟨by rfl,?_⟩) ?_ ?_; rotate_left; (· intro w'; go_simp; with_reducible rfl); rotate_left; (· simp only [Act.put,LSET15_]; rfl)
               refine take_ (i := 9) (N := some 64) (v := ?_) (a' := ?_) AR15_20 rfl rfl (take_ofW HT_.out HW_.out (by kernel_rfl)) (fun _ _ _ h => h) (Or.inl ⟨by rfl,?_⟩) hHeld ?_ ?_; rotate_left; (· rintro w' ⟨s0,s1,s2,s3,s4,s5⟩; go_simp; with_reducible rfl); rotate_left; (· simp only [Act.put,LSET15_]; rfl)
               refine pure_ (i := 10) (N := some 65) (v := ?_) (a' := ?_) AR15_22 rfl rfl (any_of HT_.out (by kernel_rfl)) (fun _ _ _ h => h) (Or.inl ⟨by rfl,?_⟩) ?_ ?_; rotate_left; (· intro w'; go_simp; with_reducible rfl); rotate_left; (· simp only [Act.put,LSET15_]; rfl)
               refine pure_ (i := 11) (N := some 66) (v := ?_) (a' := ?_) AR15_24 rfl rfl (any_of HT_.out (by kernel_rfl)) (fun _ _ _ h => h) (Or.inl ⟨by rfl,?_⟩) ?_ ?_; rotate_left; (· intro w'; go_simp; with_reducible rfl); rotate_left; (· simp only [Act.put,LSET15_]; rfl)
               refine pure_ (i := 12) (N := some 67) (v := ?_) (a' := ?_) AR15_26 rfl rfl (any_of HT_.out (by kernel_rfl)) (fun _ _ _ h => h) (Or.inl ⟨by rfl,?_⟩) ?_ ?_; rotate_left; (· intro w'; go_simp; with_reducible rfl); rotate_left; (· simp only [Act.put,LSET15_]; rfl)
               refine pure_ (i := 13) (N := some 68) (v := ?_) (a' := ?_) AR15_28 rfl rfl (any_of HT_.out (by kernel_rfl)) (fun _ _ _ h => h) (Or.inl ⟨by rfl,?_⟩) ?_ ?_; rotate_left; (· intro w'; go_simp; with_reducible rfl); rotate_left; (· simp only [Act.put,LSET15_]; rfl)
               refine take_ (i := 14) (N := some 69) (v := ?_) (a' := ?_) AR15_30 rfl rfl (take_ofW HT_.out HW_.out (by kernel_rfl)) (fun _ _ _ h => h) (Or.inl ⟨by rfl,?_⟩) hHeld ?_ ?_; rotate_left; (· rintro w' ⟨s0,s1,s2,s3,s4,s5⟩; go_simp; with_reducible rfl); rotate_left; (· simp only [Act.put,LSET15_]; rfl)
               refine pure_ (i := 15) (N := some 70) (v := ?_) (a' := ?_) AR15_31 rfl rfl (any_of HT_.out (by kernel_rfl)) (fun _ _ _ h => h) (Or.inl ⟨by rfl,?_⟩) ?_ ?_; rotate_left; (· intro w'; go_simp; with_reducible rfl); rotate_left; (· simp only [Act.put,LSET15_]; rfl)
               refine pure_ (i := 16) (N := some 71) (v := ?_) (a' := ?_) AR15_32 rfl rfl (any_of HT_.out (by kernel_rfl)) (fun _ _ _ h => h) (Or.inl ⟨by rfl,?_⟩) ?_ ?_; rotate_left; (· intro w'; go_simp; with_reducible rfl); rotate_left; (· simp only [Act.put,LSET15_]; rfl)
               refine pure_ (i := 17) (N := some 72) (v := ?_) (a' := ?_) AR15_33 rfl rfl (any_of HT_.out (by kernel_rfl)) (fun _ _ _ h => h) (Or.inl ⟨by rfl,?_⟩) ?_ ?_; rotate_left; (· intro w'; go_simp; with_reducible rfl); rotate_left; (· simp only [Act.put,LSET15_]; rfl)
               refine pure_ (i := 18) (N := some 73) (v := ?_) (a' := ?_) AR15_34 rfl rfl (any_of HT_.out (by kernel_rfl)) (fun _ _ _ h => h) (Or.inl ⟨by rfl,?_⟩) ?_ ?_; rotate_left; (· intro w'; go_simp; with_reducible rfl); rotate_left; (· simp only [Act.put,LSET15_]; rfl)
               refine pure_ (i := 20) (N := some 75) (v := ?_) (a' := ?_) AR15_35 rfl rfl (any_of HT_.out (by kernel_rfl)) (fun _ _ _ h => h) (Or.inl ⟨by rfl,?_⟩) ?_ ?_; rotate_left; (· intro w'; go_simp; with_reducible rfl); rotate_left; (· simp only [Act.put,LSET15_]; rfl)
               refine pure_ (i := 21) (N := some 76) (v := ?_) (a' := ?_) AR15_36 rfl rfl (any_of HT_.out (by kernel_rfl)) (fun _ _ _ h => h) (Or.inl ⟨by rfl,?_⟩) ?_ ?_; rotate_left; (· intro w'; go_simp; with_reducible rfl); rotate_left; (· simp only [Act.put,LSET15_]; rfl)
               refine take_ (i := 19) (N := some 74) (v := ?_) (a' := ?_) AR15_39 rfl rfl (take_ofW HT_.out HW_.out (by kernel_rfl)) (fun _ _ _ h => h) (Or.inl ⟨by rfl,?_⟩) hHeld ?_ ?_; rotate_left; (· rintro w' ⟨s0,s1,s2,s3,s4,s5⟩; go_simp; with_reducible rfl); rotate_left; (· simp only [Act.put,LSET15_]; rfl)
               refine take_ (i := 22) (N := some 77) (v := ?_) (a' := ?_) AR15_40 rfl rfl (take_ofW HT_.out HW_.out (by kernel_rfl)) (fun _ _ _ h => h) (Or.inl ⟨by rfl,?_⟩) hHeld ?_ ?_; rotate_left; (· rintro w' ⟨s0,s1,s2,s3,s4,s5⟩; go_simp; with_reducible rfl); rotate_left; (· simp only [Act.put,LSET15_]; rfl)
               refine one_ (i := 23) (N := some 78) AR15_41 rfl rfl (one_of HT_.out (by kernel_rfl)) (by decide) (fun K hK => ?_)
               refine goes_ Try.func24 (by kernel_rfl) rfl #[.int .i64 x6_38,.int .i64 zz1_2] (by rfl) rfl rfl (by (try simp only [List.map_toArray,List.map_cons,List.map_nil]); first | done | rfl | (simp only [List.length_drop,List.length_take]; rfl)) ?_
               with_reducible refine (halberdref13_days.calls x6_38 zz1_2 t255 _ A52.out).mono ?_
               rintro e w' ⟨rfl,⟨nd,rfl⟩⟩
               refine ⟨_,rfl,?_⟩
               refine hK.out _ _ ⟨(blk_cell BK254.out 0).trans rfl,(blk_cell BK254.out 1).trans rfl,(blk_cell BK254.out 2).trans rfl,(blk_cell BK254.out 3).trans rfl,(blk_cell BK254.out 4).trans rfl,(blk_cell BK254.out 5).trans rfl⟩ (fun hHeld => ?_)
               clear hK K
               refine norm_ (a' := ?_) ?_ ?_
               rotate_left
               ·show Act.put _ (some 78) _ = _
                simp only [Act.put,LSET15_]
                rfl
               refine pure_ (i := 24) (N := some 79) (v := ?_) (a' := ?_) AR15_42 rfl rfl (any_of HT_.out (by kernel_rfl)) (fun _ _ _ h => h) (Or.inl ⟨by rfl,?_⟩) ?_ ?_; rotate_left; (· intro w'; go_simp; with_reducible rfl); rotate_left; (· simp only [Act.put,LSET15_]; rfl)
               refine pure_ (i := 25) (N := some 80) (v := ?_) (a' := ?_) AR15_43 rfl rfl (any_of HT_.out (by kernel_rfl)) (fun _ _ _ h => h) (Or.inl ⟨by rfl,?_⟩) ?_ ?_; rotate_left; (· intro w'; go_simp; with_reducible rfl); rotate_left; (· simp only [Act.put,LSET15_]; rfl)
               refine pure_ (i := 26) (N := some 81) (v := ?_) (a' := ?_) AR15_44 rfl rfl (any_of HT_.out (by kernel_rfl)) (fun _ _ _ h => h) (Or.inl ⟨by rfl,?_⟩) ?_ ?_; rotate_left; (· intro w'; go_simp; with_reducible rfl); rotate_left; (· simp only [Act.put,LSET15_]; rfl)
               refine pure_ (i := 27) (N := some 82) (v := undef) (a' := ?_) AR15_45 rfl rfl (any_of HT_.out (by kernel_rfl)) (fun _ _ _ h => h) (Or.inr ⟨by rfl,rfl⟩) ?_ ?_; rotate_left; (· simp only [Act.put,LSET15_]; rfl)
               refine pure_ (i := 28) (N := some 83) (v := undef) (a' := ?_) AR15_46 rfl rfl (any_of HT_.out (by kernel_rfl)) (fun _ _ _ h => h) (Or.inr ⟨by rfl,rfl⟩) ?_ ?_; rotate_left; (· simp only [Act.put,LSET15_]; rfl)
               refine pure_ (i := 29) (N := some 84) (v := undef) (a' := ?_) AR15_47 rfl rfl (any_of HT_.out (by kernel_rfl)) (fun _ _ _ h => h) (Or.inr ⟨by rfl,rfl⟩) ?_ ?_; rotate_left; (· simp only [Act.put,LSET15_]; rfl)
               refine pure_ (i := 30) (N := some 85) (v := ?_) (a' := ?_) AR15_48 rfl rfl (any_of HT_.out (by kernel_rfl)) (fun _ _ _ h => h) (Or.inl ⟨by rfl,?_⟩) ?_ ?_; rotate_left; (· intro w'; go_simp; with_reducible rfl); rotate_left; (· simp only [Act.put,LSET15_]; rfl)
               refine pure_ (i := 31) (N := some 86) (v := ?_) (a' := ?_) AR15_49 rfl rfl (any_of HT_.out (by kernel_rfl)) (fun _ _ _ h => h) (Or.inl ⟨by rfl,?_⟩) ?_ ?_; rotate_left; (· intro w'; go_simp; with_reducible rfl); rotate_left; (· simp only [Act.put,LSET15_]; rfl)
               refine pure_ (i := 32) (N := some 87) (v := undef) (a' := ?_) AR15_50 rfl rfl (any_of HT_.out (by kernel_rfl)) (fun _ _ _ h => h) (Or.inr ⟨by rfl,rfl⟩) ?_ ?_; rotate_left; (· simp only [Act.put,LSET15_]; rfl)
               refine pure_ (i := 33) (N := some 88) (v := undef) (a' := ?_) AR15_51 rfl rfl (any_of HT_.out (by kernel_rfl)) (fun _ _ _ h => h) (Or.inr ⟨by rfl,rfl⟩) ?_ ?_; rotate_left; (· simp only [Act.put,LSET15_]; rfl)
               refine pure_ (i := 34) (N := some 89) (v := undef) (a' := ?_) AR15_52 rfl rfl (any_of HT_.out (by kernel_rfl)) (fun _ _ _ h => h) (Or.inr ⟨by rfl,rfl⟩) ?_ ?_; rotate_left; (· simp only [Act.put,LSET15_]; rfl)
               refine pure_ (i := 35) (N := some 90) (v := ?_) (a' := ?_) AR15_53 rfl rfl (any_of HT_.out (by kernel_rfl)) (fun _ _ _ h => h) (Or.inl ⟨by rfl,?_⟩) ?_ ?_; rotate_left; (· intro w'; go_simp; with_reducible rfl); rotate_left; (· simp only [Act.put,LSET15_]; rfl)
               refine pure_ (i := 36) (N := some 91) (v := ?_) (a' := ?_) AR15_54 rfl rfl (any_of HT_.out (by kernel_rfl)) (fun _ _ _ h => h) (Or.inl ⟨by rfl,?_⟩) ?_ ?_; rotate_left; (· intro w'; go_simp; with_reducible rfl); rotate_left; (· simp only [Act.put,LSET15_]; rfl)
               refine pure_ (i := 37) (N := some 92) (v := undef) (a' := ?_) AR15_55 rfl rfl (any_of HT_.out (by kernel_rfl)) (fun _ _ _ h => h) (Or.inr ⟨by rfl,rfl⟩) ?_ ?_; rotate_left; (· simp only [Act.put,LSET15_]; rfl)
               refine pure_ (i := 38) (N := some 93) (v := undef) (a' := ?_) AR15_56 rfl rfl (any_of HT_.out (by kernel_rfl)) (fun _ _ _ h => h) (Or.inr ⟨by rfl,rfl⟩) ?_ ?_; rotate_left; (· simp only [Act.put,LSET15_]; rfl)
               refine pure_ (i := 39) (N := some 94) (v := undef) (a' := ?_) AR15_57 rfl rfl (any_of HT_.out (by kernel_rfl)) (fun _ _ _ h => h) (Or.inr ⟨by rfl,rfl⟩) ?_ ?_; rotate_left; (· simp only [Act.put,LSET15_]; rfl)
               refine pure_ (i := 40) (N := some 95) (v := ?_) (a' := ?_) AR15_58 rfl rfl (any_of HT_.out (by kernel_rfl)) (fun _ _ _ h => h) (Or.inl ⟨by rfl,?_⟩) ?_ ?_; rotate_left; (· intro w'; go_simp; with_reducible rfl); rotate_left; (· simp only [Act.put,LSET15_]; rfl)
               refine done_ (done_of HT_.out (by kernel_rfl)) ?_
               try go_wp2
               go_meet
               case rel => exact ⟨_,(true),(by first | rfl | (simp; done) | (simp [*]; done)),H',⟨by have := HJ1.out; have := HK2.out; have := HJ38.out; first | omega | exact Nat.le_refl _⟩,⟨by (with_reducible repeat (first | refine blk_drewN ?_ _ | refine blk_drew ?_ | refine blk_alloc ?_ _)); exact BK254.out⟩,⟨by repeat (first | (with_reducible first | exact HB.out | apply below_alloc | apply pw_below_drewN | apply below_drew1 | refine below_set ?_ GE254.out) | exact HB.out)⟩⟩
              ·rw [if_neg c53] at H
               have c53b0 : decide (t255 < zz2_2) = false := decide_eq_false c53
               clear c53
               by_cases c55 : zz3_2 > 23
               ·rw [if_pos c55] at H
                have c55b0 : decide (23 < zz3_2) = true := decide_eq_true c55
                clear c55
                have H' := Aside0.mk H
                clear H
                try go_wp2
                have n0_ := Aside0.mk (blk_drew BK254.out)
                have n1_ := Aside0.mk (below_drew1 HB.out)
                clear BK254
                clear HB
                have BK254 := n0_
                have HB := n1_
                clear n0_ n1_
                have hw8_ : ∀ x : Int,wrap64 (x % 256) = x % 256 := fun x => by unfold wrap64; omega
                refine start_ (n := 41) (S := fun w' => w'.cell? ⟨gb254,0,none⟩ = some (.int .i64 zz0_2) ∧ w'.cell? ⟨gb254,1,none⟩ = some (.int .i64 zz1_2) ∧ w'.cell? ⟨gb254,2,none⟩ = some (.int .i64 zz2_2) ∧ w'.cell? ⟨gb254,3,none⟩ = some (.int .i64 zz3_2) ∧ w'.cell? ⟨gb254,4,none⟩ = some (.int .i64 zz4_2) ∧ w'.cell? ⟨gb254,5,none⟩ = some (.int .i64 zz5_2)) (ds := []) AR15_0 (by kernel_rfl) rfl rfl ⟨(blk_cell BK254.out 0).trans rfl,(blk_cell BK254.out 1).trans rfl,(blk_cell BK254.out 2).trans rfl,(blk_cell BK254.out 3).trans rfl,(blk_cell BK254.out 4).trans rfl,(blk_cell BK254.out 5).trans rfl⟩ (fun hHeld => ?_); refine with_tabW halberdref13_Untime.tab13 halberdref13_Untime.bits13 (fun HT_ HW_ => ?_)
                generalize wc.drew = w56 at BK254 HB hHeld ⊢
                refine pure_ (i := 0) (N := some 55) (v := ?_) (a' := ?_) AR15_2 rfl rfl (any_of HT_.out (by kernel_rfl)) (fun _ _ _ h => h) (Or.inl ⟨by rfl,?_⟩) ?_ ?_; rotate_left; (· intro w'; go_simp; with_reducible rfl); rotate_left; (· simp only [Act.put,LSET15_]; rfl)
                refine pure_ (i := 1) (N := some 56) (v := ?_) (a' := ?_) AR15_4 rfl rfl (any_of HT_.out (by kernel_rfl)) (fun _ _ _ h => h) (Or.inl ⟨by rfl,?_⟩) ?_ ?_; rotate_left; (· intro w'; go_simp; with_reducible rfl); rotate_left; (· simp only [Act.put,LSET15_]; rfl)
                refine pure_ (i := 2) (N := some 57) (v := ?_) (a' := ?_) AR15_6 rfl rfl (any_of HT_.out (by kernel_rfl)) (fun _ _ _ h => h) (Or.inl ⟨by rfl,?_⟩) ?_ ?_; rotate_left; (· intro w'; go_simp; with_reducible rfl); rotate_left; (· simp only [Act.put,LSET15_]; rfl)
                refine pure_ (i := 3) (N := some 58) (v := ?_) (a' := ?_) AR15_8 rfl rfl (any_of HT_.out (by kernel_rfl)) (fun _ _ _ h => h) (Or.inl ⟨by rfl,?_⟩) ?_ ?_; rotate_left; (· intro w'; go_simp; with_reducible rfl); rotate_left; (· simp only [Act.put,LSET15_]; rfl)
                refine take_ (i := 4) (N := some 59) (v := ?_) (a' := ?_) AR15_10 rfl rfl (take_ofW HT_.out HW_.out (by kernel_rfl)) (fun _ _ _ h => h) (Or.inl ⟨by rfl,?_⟩) hHeld ?_ ?_; rotate_left; (· rintro w' ⟨s0,s1,s2,s3,s4,s5⟩; go_simp; with_reducible rfl); rotate_left; (· simp only [Act.put,LSET15_]; rfl)
                refine pure_ (i := 5) (N := some 60) (v := ?_) (a' := ?_) AR15_14 rfl rfl (any_of HT_.out (by kernel_rfl)) (fun _ _ _ h => h) (Or.inl ⟨by rfl,?_⟩) ?_ ?_; rotate_left; (· intro w'; go_simp; with_reducible rfl); rotate_left; (· simp only [Act.put,LSET15_]; rfl)
                refine pure_ (i := 6) (N := some 61) (v := ?_) (a' := ?_) AR15_16 rfl rfl (any_of HT_.out (by kernel_rfl)) (fun _ _ _ h => h) (Or.inl ⟨by rfl,?_⟩) ?_ ?_; rotate_left; (· intro w'; go_simp; with_reducible rfl); rotate_left; (· simp only [Act.put,LSET15_]; rfl)
                refine pure_ (i := 7) (N := some 62) (v := ?_) (a' := ?_) AR15_17 rfl rfl (any_of HT_.out (by kernel_rfl)) (fun _ _ _ h => h) (Or.inl ⟨by rfl,?_⟩) ?_ ?_; rotate_left; (· intro w'; go_simp; with_reducible rfl); rotate_left; (· simp only [Act.put,LSET15_]; rfl)
                refine pure_ (i := 8) (N := some 63) (v := ?_) (a' := ?_) AR15_18 rfl rfl (any_of HT_.out (by kernel_rfl)) (fun _ _ _ h => h) (Or.inl ⟨by rfl,?_⟩) ?_ ?_; rotate_left; (· intro w'; go_simp; with_reducible rfl); rotate_left; (· simp only [Act.put,LSET15_]; rfl)
                refine take_ (i := 9) (N := some 64) (v := ?_) (a' := ?_) AR15_20 rfl rfl (take_ofW HT_.out HW_.out (by kernel_rfl)) (fun _ _ _ h => h) (Or.inl ⟨by rfl,?_⟩) hHeld ?_ ?_; rotate_left; (· rintro w' ⟨s0,s1,s2,s3,s4,s5⟩; go_simp; with_reducible rfl); rotate_left; (· simp only [Act.put,LSET15_]; rfl)
                refine pure_ (i := 10) (N := some 65) (v := ?_) (a' := ?_) AR15_22 rfl rfl (any_of HT_.out (by kernel_rfl)) (fun _ _ _ h => h) (Or.inl ⟨by rfl,?_⟩) ?_ ?_; rotate_left; (· intro w'; go_simp; with_reducible rfl); rotate_left; (· simp only [Act.put,LSET15_]; rfl)
                refine pure_ (i := 11) (N := some 66) (v := ?_) (a' := ?_) AR15_24 rfl rfl (any_of HT_.out (by kernel_rfl)) (fun _ _ _ h => h) (Or.inl ⟨by rfl,?_⟩) ?_ ?_; rotate_left; (· intro w'; go_simp; with_reducible rfl); rotate_left; (· simp only [Act.put,LSET15_]; rfl)
                refine pure_ (i := 12) (N := some 67) (v := ?_) (a' := ?_) AR15_26 rfl rfl (any_of HT_.out (by kernel_rfl)) (fun _ _ _ h => h) (Or.inl ⟨by rfl,?_⟩) ?_ ?_; rotate_left; (· intro w'; go_simp; with_reducible rfl); rotate_left; (· simp only [Act.put,LSET15_]; rfl)
                refine pure_ (i := 13) (N := some 68) (v := ?_) (a' := ?_) AR15_28 rfl rfl (any_of HT_.out (by kernel_rfl)) (fun _ _ _ h => h) (Or.inl ⟨by rfl,?_⟩) ?_ ?_; rotate_left; (· intro w'; go_simp; with_reducible rfl); rotate_left; (· simp only [Act.put,LSET15_]; rfl)
                refine take_ (i := 14) (N := some 69) (v := ?_) (a' := ?_) AR15_30 rfl rfl (take_ofW HT_.out HW_.out (by kernel_rfl)) (fun _ _ _ h => h) (Or.inl ⟨by rfl,?_⟩) hHeld ?_ ?_; rotate_left; (· rintro w' ⟨s0,s1,s2,s3,s4,s5⟩; go_simp; with_reducible rfl); rotate_left; (· simp only [Act.put,LSET15_]; rfl)
                refine pure_ (i := 15) (N := some 70) (v := ?_) (a' := ?_) AR15_31 rfl rfl (any_of HT_.out (by kernel_rfl)) (fun _ _ _ h => h) (Or.inl ⟨by rfl,?_⟩) ?_ ?_; rotate_left; (· intro w'; go_simp; with_reducible rfl); rotate_left; (· simp only [Act.put,LSET15_]; rfl)
                refine pure_ (i := 16) (N := some 71) (v := ?_) (a' := ?_) AR15_32 rfl rfl (any_of HT_.out (by kernel_rfl)) (fun _ _ _ h => h) (Or.inl ⟨by rfl,?_⟩) ?_ ?_; rotate_left; (· intro w'; go_simp; with_reducible rfl); rotate_left; (· simp only [Act.put,LSET15_]; rfl)
                refine pure_ (i := 17) (N := some 72) (v := ?_) (a' := ?_) AR15_33 rfl rfl (any_of HT_.out (by kernel_rfl)) (fun _ _ _ h => h) (Or.inl ⟨by rfl,?_⟩) ?_ ?_; rotate_left; (· intro w'; go_simp; with_reducible rfl); rotate_left; (· simp only [Act.put,LSET15_]; rfl)
                refine pure_ (i := 18) (N := some 73) (v := ?_) (a' := ?_) AR15_34 rfl rfl (any_of HT_.out (by kernel_rfl)) (fun _ _ _ h => h) (Or.inl ⟨by rfl,?_⟩) ?_ ?_; rotate_left; (· intro w'; go_simp; with_reducible rfl); rotate_left; (· simp only [Act.put,LSET15_]; rfl)
                refine pure_ (i := 20) (N := some 75) (v := ?_) (a' := ?_) AR15_35 rfl rfl (any_of HT_.out (by kernel_rfl)) (fun _ _ _ h => h) (Or.inl ⟨by rfl,?_⟩) ?_ ?_; rotate_left; (· intro w'; go_simp; with_reducible rfl); rotate_left; (· simp only [Act.put,LSET15_]; rfl)
                refine pure_ (i := 21) (N := some 76) (v := ?_) (a' := ?_) AR15_36 rfl rfl (any_of HT_.out (by kernel_rfl)) (fun _ _ _ h => h) (Or.inl ⟨by rfl,?_⟩) ?_ ?_; rotate_left; (· intro w'; go_simp; with_reducible rfl); rotate_left; (· simp only [Act.put,LSET15_]; rfl)
                refine take_ (i := 19) (N := some 74) (v := ?_) (a' := ?_) AR15_39 rfl rfl (take_ofW HT_.out HW_.out (by kernel_rfl)) (fun _ _ _ h => h) (Or.inl ⟨by rfl,?_⟩) hHeld ?_ ?_; rotate_left; (· rintro w' ⟨s0,s1,s2,s3,s4,s5⟩; go_simp; with_reducible rfl); rotate_left; (· simp only [Act.put,LSET15_]; rfl)
                refine take_ (i := 22) (N := some 77) (v := ?_) (a' := ?_) AR15_40 rfl rfl (take_ofW HT_.out HW_.out (by kernel_rfl)) (fun _ _ _ h => h) (Or.inl ⟨by rfl,?_⟩) hHeld ?_ ?_; rotate_left; (· rintro w' ⟨s0,s1,s2,s3,s4,s5⟩; go_simp; with_reducible rfl); rotate_left; (· simp only [Act.put,LSET15_]; rfl)
                refine one_ (i := 23) (N := some 78) AR15_41 rfl rfl (one_of HT_.out (by kernel_rfl)) (by decide) (fun K hK => ?_)
                refine goes_ Try.func24 (by kernel_rfl) rfl #[.int .i64 x6_38,.int .i64 zz1_2] (by rfl) rfl rfl (by (try simp only [List.map_toArray,List.map_cons,List.map_nil]); first | done | rfl | (simp only [List.length_drop,List.length_take]; rfl)) ?_
                with_reducible refine (halberdref13_days.calls x6_38 zz1_2 t255 _ A52.out).mono ?_
                rintro e w' ⟨rfl,⟨nd,rfl⟩⟩
                refine ⟨_,rfl,?_⟩
                refine hK.out _ _ ⟨(blk_cell BK254.out 0).trans rfl,(blk_cell BK254.out 1).trans rfl,(blk_cell BK254.out 2).trans rfl,(blk_cell BK254.out 3).trans rfl,(blk_cell BK254.out 4).trans rfl,(blk_cell BK254.out 5).trans rfl⟩ (fun hHeld => ?_)
                clear hK K
                refine norm_ (a' := ?_) ?_ ?_
                rotate_left
                ·show Act.put _ (some 78) _ = _
                 simp only [Act.put,LSET15_]
                 rfl
                refine pure_ (i := 24) (N := some 79) (v := ?_) (a' := ?_) AR15_42 rfl rfl (any_of HT_.out (by kernel_rfl)) (fun _ _ _ h => h) (Or.inl ⟨by rfl,?_⟩) ?_ ?_; rotate_left; (· intro w'; go_simp; with_reducible rfl); rotate_left; (· simp only [Act.put,LSET15_]; rfl)
                refine pure_ (i := 25) (N := some 80) (v := ?_) (a' := ?_) AR15_43 rfl rfl (any_of HT_.out (by kernel_rfl)) (fun _ _ _ h => h) (Or.inl ⟨by rfl,?_⟩) ?_ ?_; rotate_left; (· intro w'; go_simp; with_reducible rfl); rotate_left; (· simp only [Act.put,LSET15_]; rfl)
                refine pure_ (i := 26) (N := some 81) (v := ?_) (a' := ?_) AR15_44 rfl rfl (any_of HT_.out (by kernel_rfl)) (fun _ _ _ h => h) (Or.inl ⟨by rfl,?_⟩) ?_ ?_; rotate_left; (· intro w'; go_simp; with_reducible rfl); rotate_left; (· simp only [Act.put,LSET15_]; rfl)
                refine pure_ (i := 27) (N := some 82) (v := ?_) (a' := ?_) AR15_45 rfl rfl (any_of HT_.out (by kernel_rfl)) (fun _ _ _ h => h) (Or.inl ⟨by rfl,?_⟩) ?_ ?_; rotate_left; (· intro w'; go_simp; with_reducible rfl); rotate_left; (· simp only [Act.put,LSET15_]; rfl)
                refine take_ (i := 28) (N := some 83) (v := ?_) (a' := ?_) AR15_46 rfl rfl (take_ofW HT_.out HW_.out (by kernel_rfl)) (fun _ _ _ h => h) (Or.inl ⟨by rfl,?_⟩) hHeld ?_ ?_; rotate_left; (· rintro w' ⟨s0,s1,s2,s3,s4,s5⟩; go_simp; with_reducible rfl); rotate_left; (· simp only [Act.put,LSET15_]; rfl)
                refine pure_ (i := 29) (N := some 84) (v := ?_) (a' := ?_) AR15_47 rfl rfl (any_of HT_.out (by kernel_rfl)) (fun _ _ _ h => h) (Or.inl ⟨by rfl,?_⟩) ?_ ?_; rotate_left; (· intro w'; go_simp; with_reducible rfl); rotate_left; (· simp only [Act.put,LSET15_]; rfl)
                refine pure_ (i := 30) (N := some 85) (v := ?_) (a' := ?_) AR15_48 rfl rfl (any_of HT_.out (by kernel_rfl)) (fun _ _ _ h => h) (Or.inl ⟨by rfl,?_⟩) ?_ ?_; rotate_left; (· intro w'; go_simp; with_reducible rfl); rotate_left; (· simp only [Act.put,LSET15_]; rfl)
                refine pure_ (i := 31) (N := some 86) (v := ?_) (a' := ?_) AR15_49 rfl rfl (any_of HT_.out (by kernel_rfl)) (fun _ _ _ h => h) (Or.inl ⟨by rfl,?_⟩) ?_ ?_; rotate_left; (· intro w'; go_simp; with_reducible rfl); rotate_left; (· simp only [Act.put,LSET15_]; rfl)
                refine pure_ (i := 32) (N := some 87) (v := undef) (a' := ?_) AR15_50 rfl rfl (any_of HT_.out (by kernel_rfl)) (fun _ _ _ h => h) (Or.inr ⟨by rfl,rfl⟩) ?_ ?_; rotate_left; (· simp only [Act.put,LSET15_]; rfl)
                refine pure_ (i := 33) (N := some 88) (v := undef) (a' := ?_) AR15_51 rfl rfl (any_of HT_.out (by kernel_rfl)) (fun _ _ _ h => h) (Or.inr ⟨by rfl,rfl⟩) ?_ ?_; rotate_left; (· simp only [Act.put,LSET15_]; rfl)
                refine pure_ (i := 34) (N := some 89) (v := undef) (a' := ?_) AR15_52 rfl rfl (any_of HT_.out (by kernel_rfl)) (fun _ _ _ h => h) (Or.inr ⟨by rfl,rfl⟩) ?_ ?_; rotate_left; (· simp only [Act.put,LSET15_]; rfl)
                refine pure_ (i := 35) (N := some 90) (v := ?_) (a' := ?_) AR15_53 rfl rfl (any_of HT_.out (by kernel_rfl)) (fun _ _ _ h => h) (Or.inl ⟨by rfl,?_⟩) ?_ ?_; rotate_left; (· intro w'; go_simp; with_reducible rfl); rotate_left; (· simp only [Act.put,LSET15_]; rfl)
                refine pure_ (i := 36) (N := some 91) (v := ?_) (a' := ?_) AR15_54 rfl rfl (any_of HT_.out (by kernel_rfl)) (fun _ _ _ h => h) (Or.inl ⟨by rfl,?_⟩) ?_ ?_; rotate_left; (· intro w'; go_simp; with_reducible rfl); rotate_left; (· simp only [Act.put,LSET15_]; rfl)
                refine pure_ (i := 37) (N := some 92) (v := undef) (a' := ?_) AR15_55 rfl rfl (any_of HT_.out (by kernel_rfl)) (fun _ _ _ h => h) (Or.inr ⟨by rfl,rfl⟩) ?_ ?_; rotate_left; (· simp only [Act.put,LSET15_]; rfl)
                refine pure_ (i := 38) (N := some 93) (v := undef) (a' := ?_) AR15_56 rfl rfl (any_of HT_.out (by kernel_rfl)) (fun _ _ _ h => h) (Or.inr ⟨by rfl,rfl⟩) ?_ ?_; rotate_left; (· simp only [Act.put,LSET15_]; rfl)
                refine pure_ (i := 39) (N := some 94) (v := undef) (a' := ?_) AR15_57 rfl rfl (any_of HT_.out (by kernel_rfl)) (fun _ _ _ h => h) (Or.inr ⟨by rfl,rfl⟩) ?_ ?_; rotate_left; (· simp only [Act.put,LSET15_]; rfl)
                refine pure_ (i := 40) (N := some 95) (v := ?_) (a' := ?_) AR15_58 rfl rfl (any_of HT_.out (by kernel_rfl)) (fun _ _ _ h => h) (Or.inl ⟨by rfl,?_⟩) ?_ ?_; rotate_left; (· intro w'; go_simp; with_reducible rfl); rotate_left; (· simp only [Act.put,LSET15_]; rfl)
                refine done_ (done_of HT_.out (by kernel_rfl)) ?_
                try go_wp2
                go_meet
                case rel => exact ⟨_,(true),(by first | rfl | (simp; done) | (simp [*]; done)),H',⟨by have := HJ1.out; have := HK2.out; have := HJ38.out; first | omega | exact Nat.le_refl _⟩,⟨by (with_reducible repeat (first | refine blk_drewN ?_ _ | refine blk_drew ?_ | refine blk_alloc ?_ _)); exact BK254.out⟩,⟨by repeat (first | (with_reducible first | exact HB.out | apply below_alloc | apply pw_below_drewN | apply below_drew1 | refine below_set ?_ GE254.out) | exact HB.out)⟩⟩
               ·rw [if_neg c55] at H
                have c55b0 : decide (23 < zz3_2) = false := decide_eq_false c55
                clear c55
                by_cases c57 : zz4_2 > 59
                ·rw [if_pos c57] at H
                 have c57b0 : decide (59 < zz4_2) = true := decide_eq_true c57
                 clear c57
                 have H' := Aside0.mk H
                 clear H
                 try go_wp2
                 have n0_ := Aside0.mk (blk_drew BK254.out)
                 have n1_ := Aside0.mk (below_drew1 HB.out)
                 clear BK254
                 clear HB
                 have BK254 := n0_
                 have HB := n1_
                 clear n0_ n1_
                 have hw8_ : ∀ x : Int,wrap64 (x % 256) = x % 256 := fun x => by unfold wrap64; omega
                 refine start_ (n := 41) (S := fun w' => w'.cell? ⟨gb254,0,none⟩ = some (.int .i64 zz0_2) ∧ w'.cell? ⟨gb254,1,none⟩ = some (.int .i64 zz1_2) ∧ w'.cell? ⟨gb254,2,none⟩ = some (.int .i64 zz2_2) ∧ w'.cell? ⟨gb254,3,none⟩ = some (.int .i64 zz3_2) ∧ w'.cell? ⟨gb254,4,none⟩ = some (.int .i64 zz4_2) ∧ w'.cell? ⟨gb254,5,none⟩ = some (.int .i64 zz5_2)) (ds := []) AR15_0 (by kernel_rfl) rfl rfl ⟨(blk_cell BK254.out 0).trans rfl,(blk_cell BK254.out 1).trans rfl,(blk_cell BK254.out 2).trans rfl,(blk_cell BK254.out 3).trans rfl,(blk_cell BK254.out 4).trans rfl,(blk_cell BK254.out 5).trans rfl⟩ (fun hHeld => ?_); refine with_tabW halberdref13_Untime.tab13 halberdref13_Untime.bits13 (fun HT_ HW_ => ?_)
                 generalize wc.drew = w58 at BK254 HB hHeld ⊢
                 refine pure_ (i := 0) (N := some 55) (v := ?_) (a' := ?_) AR15_2 rfl rfl (any_of HT_.out (by kernel_rfl)) (fun _ _ _ h => h) (Or.inl ⟨by rfl,?_⟩) ?_ ?_; rotate_left; (· intro w'; go_simp; with_reducible rfl); rotate_left; (· simp only [Act.put,LSET15_]; rfl)
                 refine pure_ (i := 1) (N := some 56) (v := ?_) (a' := ?_) AR15_4 rfl rfl (any_of HT_.out (by kernel_rfl)) (fun _ _ _ h => h) (Or.inl ⟨by rfl,?_⟩) ?_ ?_; rotate_left; (· intro w'; go_simp; with_reducible rfl); rotate_left; (· simp only [Act.put,LSET15_]; rfl)
                 refine pure_ (i := 2) (N := some 57) (v := ?_) (a' := ?_) AR15_6 rfl rfl (any_of HT_.out (by kernel_rfl)) (fun _ _ _ h => h) (Or.inl ⟨by rfl,?_⟩) ?_ ?_; rotate_left; (· intro w'; go_simp; with_reducible rfl); rotate_left; (· simp only [Act.put,LSET15_]; rfl)
                 refine pure_ (i := 3) (N := some 58) (v := ?_) (a' := ?_) AR15_8 rfl rfl (any_of HT_.out (by kernel_rfl)) (fun _ _ _ h => h) (Or.inl ⟨by rfl,?_⟩) ?_ ?_; rotate_left; (· intro w'; go_simp; with_reducible rfl); rotate_left; (· simp only [Act.put,LSET15_]; rfl)
                 refine take_ (i := 4) (N := some 59) (v := ?_) (a' := ?_) AR15_10 rfl rfl (take_ofW HT_.out HW_.out (by kernel_rfl)) (fun _ _ _ h => h) (Or.inl ⟨by rfl,?_⟩) hHeld ?_ ?_; rotate_left; (· rintro w' ⟨s0,s1,s2,s3,s4,s5⟩; go_simp; with_reducible rfl); rotate_left; (· simp only [Act.put,LSET15_]; rfl)
                 refine pure_ (i := 5) (N := some 60) (v := ?_) (a' := ?_) AR15_14 rfl rfl (any_of HT_.out (by kernel_rfl)) (fun _ _ _ h => h) (Or.inl ⟨by rfl,?_⟩) ?_ ?_; rotate_left; (· intro w'; go_simp; with_reducible rfl); rotate_left; (· simp only [Act.put,LSET15_]; rfl)
                 refine pure_ (i := 6) (N := some 61) (v := ?_) (a' := ?_) AR15_16 rfl rfl (any_of HT_.out (by kernel_rfl)) (fun _ _ _ h => h) (Or.inl ⟨by rfl,?_⟩) ?_ ?_; rotate_left; (· intro w'; go_simp; with_reducible rfl); rotate_left; (· simp only [Act.put,LSET15_]; rfl)
                 refine pure_ (i := 7) (N := some 62) (v := ?_) (a' := ?_) AR15_17 rfl rfl (any_of HT_.out (by kernel_rfl)) (fun _ _ _ h => h) (Or.inl ⟨by rfl,?_⟩) ?_ ?_; rotate_left; (· intro w'; go_simp; with_reducible rfl); rotate_left; (· simp only [Act.put,LSET15_]; rfl)
                 refine pure_ (i := 8) (N := some 63) (v := ?_) (a' := ?_) AR15_18 rfl rfl (any_of HT_.out (by kernel_rfl)) (fun _ _ _ h => h) (Or.inl ⟨by rfl,?_⟩) ?_ ?_; rotate_left; (· intro w'; go_simp; with_reducible rfl); rotate_left; (· simp only [Act.put,LSET15_]; rfl)
                 refine take_ (i := 9) (N := some 64) (v := ?_) (a' := ?_) AR15_20 rfl rfl (take_ofW HT_.out HW_.out (by kernel_rfl)) (fun _ _ _ h => h) (Or.inl ⟨by rfl,?_⟩) hHeld ?_ ?_; rotate_left; (· rintro w' ⟨s0,s1,s2,s3,s4,s5⟩; go_simp; with_reducible rfl); rotate_left; (· simp only [Act.put,LSET15_]; rfl)
                 refine pure_ (i := 10) (N := some 65) (v := ?_) (a' := ?_) AR15_22 rfl rfl (any_of HT_.out (by kernel_rfl)) (fun _ _ _ h => h) (Or.inl ⟨by rfl,?_⟩) ?_ ?_; rotate_left; (· intro w'; go_simp; with_reducible rfl); rotate_left; (· simp only [Act.put,LSET15_]; rfl)
                 refine pure_ (i := 11) (N := some 66) (v := ?_) (a' := ?_) AR15_24 rfl rfl (any_of HT_.out (by kernel_rfl)) (fun _ _ _ h => h) (Or.inl ⟨by rfl,?_⟩) ?_ ?_; rotate_left; (· intro w'; go_simp; with_reducible rfl); rotate_left; (· simp only [Act.put,LSET15_]; rfl)
                 refine pure_ (i := 12) (N := some 67) (v := ?_) (a' := ?_) AR15_26 rfl rfl (any_of HT_.out (by kernel_rfl)) (fun _ _ _ h => h) (Or.inl ⟨by rfl,?_⟩) ?_ ?_; rotate_left; (· intro w'; go_simp; with_reducible rfl); rotate_left; (· simp only [Act.put,LSET15_]; rfl)
                 refine pure_ (i := 13) (N := some 68) (v := ?_) (a' := ?_) AR15_28 rfl rfl (any_of HT_.out (by kernel_rfl)) (fun _ _ _ h => h) (Or.inl ⟨by rfl,?_⟩) ?_ ?_; rotate_left; (· intro w'; go_simp; with_reducible rfl); rotate_left; (· simp only [Act.put,LSET15_]; rfl)
                 refine take_ (i := 14) (N := some 69) (v := ?_) (a' := ?_) AR15_30 rfl rfl (take_ofW HT_.out HW_.out (by kernel_rfl)) (fun _ _ _ h => h) (Or.inl ⟨by rfl,?_⟩) hHeld ?_ ?_; rotate_left; (· rintro w' ⟨s0,s1,s2,s3,s4,s5⟩; go_simp; with_reducible rfl); rotate_left; (· simp only [Act.put,LSET15_]; rfl)
                 refine pure_ (i := 15) (N := some 70) (v := ?_) (a' := ?_) AR15_31 rfl rfl (any_of HT_.out (by kernel_rfl)) (fun _ _ _ h => h) (Or.inl ⟨by rfl,?_⟩) ?_ ?_; rotate_left; (· intro w'; go_simp; with_reducible rfl); rotate_left; (· simp only [Act.put,LSET15_]; rfl)
                 refine pure_ (i := 16) (N := some 71) (v := ?_) (a' := ?_) AR15_32 rfl rfl (any_of HT_.out (by kernel_rfl)) (fun _ _ _ h => h) (Or.inl ⟨by rfl,?_⟩) ?_ ?_; rotate_left; (· intro w'; go_simp; with_reducible rfl); rotate_left; (· simp only [Act.put,LSET15_]; rfl)
                 refine pure_ (i := 17) (N := some 72) (v := ?_) (a' := ?_) AR15_33 rfl rfl (any_of HT_.out (by kernel_rfl)) (fun _ _ _ h => h) (Or.inl ⟨by rfl,?_⟩) ?_ ?_; rotate_left; (· intro w'; go_simp; with_reducible rfl); rotate_left; (· simp only [Act.put,LSET15_]; rfl)
                 refine pure_ (i := 18) (N := some 73) (v := ?_) (a' := ?_) AR15_34 rfl rfl (any_of HT_.out (by kernel_rfl)) (fun _ _ _ h => h) (Or.inl ⟨by rfl,?_⟩) ?_ ?_; rotate_left; (· intro w'; go_simp; with_reducible rfl); rotate_left; (· simp only [Act.put,LSET15_]; rfl)
                 refine pure_ (i := 20) (N := some 75) (v := ?_) (a' := ?_) AR15_35 rfl rfl (any_of HT_.out (by kernel_rfl)) (fun _ _ _ h => h) (Or.inl ⟨by rfl,?_⟩) ?_ ?_; rotate_left; (· intro w'; go_simp; with_reducible rfl); rotate_left; (· simp only [Act.put,LSET15_]; rfl)
                 refine pure_ (i := 21) (N := some 76) (v := ?_) (a' := ?_) AR15_36 rfl rfl (any_of HT_.out (by kernel_rfl)) (fun _ _ _ h => h) (Or.inl ⟨by rfl,?_⟩) ?_ ?_; rotate_left; (· intro w'; go_simp; with_reducible rfl); rotate_left; (· simp only [Act.put,LSET15_]; rfl)
                 refine take_ (i := 19) (N := some 74) (v := ?_) (a' := ?_) AR15_39 rfl rfl (take_ofW HT_.out HW_.out (by kernel_rfl)) (fun _ _ _ h => h) (Or.inl ⟨by rfl,?_⟩) hHeld ?_ ?_; rotate_left; (· rintro w' ⟨s0,s1,s2,s3,s4,s5⟩; go_simp; with_reducible rfl); rotate_left; (· simp only [Act.put,LSET15_]; rfl)
                 refine take_ (i := 22) (N := some 77) (v := ?_) (a' := ?_) AR15_40 rfl rfl (take_ofW HT_.out HW_.out (by kernel_rfl)) (fun _ _ _ h => h) (Or.inl ⟨by rfl,?_⟩) hHeld ?_ ?_; rotate_left; (· rintro w' ⟨s0,s1,s2,s3,s4,s5⟩; go_simp; with_reducible rfl); rotate_left; (· simp only [Act.put,LSET15_]; rfl)
                 refine one_ (i := 23) (N := some 78) AR15_41 rfl rfl (one_of HT_.out (by kernel_rfl)) (by decide) (fun K hK => ?_)
                 refine goes_ Try.func24 (by kernel_rfl) rfl #[.int .i64 x6_38,.int .i64 zz1_2] (by rfl) rfl rfl (by (try simp only [List.map_toArray,List.map_cons,List.map_nil]); first | done | rfl | (simp only [List.length_drop,List.length_take]; rfl)) ?_
                 with_reducible refine (halberdref13_days.calls x6_38 zz1_2 t255 _ A52.out).mono ?_
                 rintro e w' ⟨rfl,⟨nd,rfl⟩⟩
                 refine ⟨_,rfl,?_⟩
                 refine hK.out _ _ ⟨(blk_cell BK254.out 0).trans rfl,(blk_cell BK254.out 1).trans rfl,(blk_cell BK254.out 2).trans rfl,(blk_cell BK254.out 3).trans rfl,(blk_cell BK254.out 4).trans rfl,(blk_cell BK254.out 5).trans rfl⟩ (fun hHeld => ?_)
                 clear hK K
                 refine norm_ (a' := ?_) ?_ ?_
                 rotate_left
                 ·show Act.put _ (some 78) _ = _
                  simp only [Act.put,LSET15_]
                  rfl
                 refine pure_ (i := 24) (N := some 79) (v := ?_) (a' := ?_) AR15_42 rfl rfl (any_of HT_.out (by kernel_rfl)) (fun _ _ _ h => h) (Or.inl ⟨by rfl,?_⟩) ?_ ?_; rotate_left; (· intro w'; go_simp; with_reducible rfl); rotate_left; (· simp only [Act.put,LSET15_]; rfl)
                 refine pure_ (i := 25) (N := some 80) (v := ?_) (a' := ?_) AR15_43 rfl rfl (any_of HT_.out (by kernel_rfl)) (fun _ _ _ h => h) (Or.inl ⟨by rfl,?_⟩) ?_ ?_; rotate_left; (· intro w'; go_simp; with_reducible rfl); rotate_left; (· simp only [Act.put,LSET15_]; rfl)
                 refine pure_ (i := 26) (N := some 81) (v := ?_) (a' := ?_) AR15_44 rfl rfl (any_of HT_.out (by kernel_rfl)) (fun _ _ _ h => h) (Or.inl ⟨by rfl,?_⟩) ?_ ?_; rotate_left; (· intro w'; go_simp; with_reducible rfl); rotate_left; (· simp only [Act.put,LSET15_]; rfl)
                 refine pure_ (i := 27) (N := some 82) (v := ?_) (a' := ?_) AR15_45 rfl rfl (any_of HT_.out (by kernel_rfl)) (fun _ _ _ h => h) (Or.inl ⟨by rfl,?_⟩) ?_ ?_; rotate_left; (· intro w'; go_simp; with_reducible rfl); rotate_left; (· simp only [Act.put,LSET15_]; rfl)
                 refine take_ (i := 28) (N := some 83) (v := ?_) (a' := ?_) AR15_46 rfl rfl (take_ofW HT_.out HW_.out (by kernel_rfl)) (fun _ _ _ h => h) (Or.inl ⟨by rfl,?_⟩) hHeld ?_ ?_; rotate_left; (· rintro w' ⟨s0,s1,s2,s3,s4,s5⟩; go_simp; with_reducible rfl); rotate_left; (· simp only [Act.put,LSET15_]; rfl)
                 refine pure_ (i := 29) (N := some 84) (v := ?_) (a' := ?_) AR15_47 rfl rfl (any_of HT_.out (by kernel_rfl)) (fun _ _ _ h => h) (Or.inl ⟨by rfl,?_⟩) ?_ ?_; rotate_left; (· intro w'; go_simp; with_reducible rfl); rotate_left; (· simp only [Act.put,LSET15_]; rfl)
                 refine pure_ (i := 30) (N := some 85) (v := ?_) (a' := ?_) AR15_48 rfl rfl (any_of HT_.out (by kernel_rfl)) (fun _ _ _ h => h) (Or.inl ⟨by rfl,?_⟩) ?_ ?_; rotate_left; (· intro w'; go_simp; with_reducible rfl); rotate_left; (· simp only [Act.put,LSET15_]; rfl)
                 refine pure_ (i := 31) (N := some 86) (v := ?_) (a' := ?_) AR15_49 rfl rfl (any_of HT_.out (by kernel_rfl)) (fun _ _ _ h => h) (Or.inl ⟨by rfl,?_⟩) ?_ ?_; rotate_left; (· intro w'; go_simp; with_reducible rfl); rotate_left; (· simp only [Act.put,LSET15_]; rfl)
                 refine pure_ (i := 32) (N := some 87) (v := ?_) (a' := ?_) AR15_50 rfl rfl (any_of HT_.out (by kernel_rfl)) (fun _ _ _ h => h) (Or.inl ⟨by rfl,?_⟩) ?_ ?_; rotate_left; (· intro w'; go_simp; with_reducible rfl); rotate_left; (· simp only [Act.put,LSET15_]; rfl)
                 refine take_ (i := 33) (N := some 88) (v := ?_) (a' := ?_) AR15_51 rfl rfl (take_ofW HT_.out HW_.out (by kernel_rfl)) (fun _ _ _ h => h) (Or.inl ⟨by rfl,?_⟩) hHeld ?_ ?_; rotate_left; (· rintro w' ⟨s0,s1,s2,s3,s4,s5⟩; go_simp; with_reducible rfl); rotate_left; (· simp only [Act.put,LSET15_]; rfl)
                 refine pure_ (i := 34) (N := some 89) (v := ?_) (a' := ?_) AR15_52 rfl rfl (any_of HT_.out (by kernel_rfl)) (fun _ _ _ h => h) (Or.inl ⟨by rfl,?_⟩) ?_ ?_; rotate_left; (· intro w'; go_simp; with_reducible rfl); rotate_left; (· simp only [Act.put,LSET15_]; rfl)
                 refine pure_ (i := 35) (N := some 90) (v := ?_) (a' := ?_) AR15_53 rfl rfl (any_of HT_.out (by kernel_rfl)) (fun _ _ _ h => h) (Or.inl ⟨by rfl,?_⟩) ?_ ?_; rotate_left; (· intro w'; go_simp; with_reducible rfl); rotate_left; (· simp only [Act.put,LSET15_]; rfl)
                 refine pure_ (i := 36) (N := some 91) (v := ?_) (a' := ?_) AR15_54 rfl rfl (any_of HT_.out (by kernel_rfl)) (fun _ _ _ h => h) (Or.inl ⟨by rfl,?_⟩) ?_ ?_; rotate_left; (· intro w'; go_simp; with_reducible rfl); rotate_left; (· simp only [Act.put,LSET15_]; rfl)
                 refine pure_ (i := 37) (N := some 92) (v := undef) (a' := ?_) AR15_55 rfl rfl (any_of HT_.out (by kernel_rfl)) (fun _ _ _ h => h) (Or.inr ⟨by rfl,rfl⟩) ?_ ?_; rotate_left; (· simp only [Act.put,LSET15_]; rfl)
                 refine pure_ (i := 38) (N := some 93) (v := undef) (a' := ?_) AR15_56 rfl rfl (any_of HT_.out (by kernel_rfl)) (fun _ _ _ h => h) (Or.inr ⟨by rfl,rfl⟩) ?_ ?_; rotate_left; (· simp only [Act.put,LSET15_]; rfl)
                 refine pure_ (i := 39) (N := some 94) (v := undef) (a' := ?_) AR15_57 rfl rfl (any_of HT_.out (by kernel_rfl)) (fun _ _ _ h => h) (Or.inr ⟨by rfl,rfl⟩) ?_ ?_; rotate_left; (· simp only [Act.put,LSET15_]; rfl)
                 refine pure_ (i := 40) (N := some 95) (v := ?_) (a' := ?_) AR15_58 rfl rfl (any_of HT_.out (by kernel_rfl)) (fun _ _ _ h => h) (Or.inl ⟨by rfl,?_⟩) ?_ ?_; rotate_left; (· intro w'; go_simp; with_reducible rfl); rotate_left; (· simp only [Act.put,LSET15_]; rfl)
                 refine done_ (done_of HT_.out (by kernel_rfl)) ?_
                 try go_wp2
                 go_meet
                 case rel => exact ⟨_,(true),(by first | rfl | (simp; done) | (simp [*]; done)),H',⟨by have := HJ1.out; have := HK2.out; have := HJ38.out; first | omega | exact Nat.le_refl _⟩,⟨by (with_reducible repeat (first | refine blk_drewN ?_ _ | refine blk_drew ?_ | refine blk_alloc ?_ _)); exact BK254.out⟩,⟨by repeat (first | (with_reducible first | exact HB.out | apply below_alloc | apply pw_below_drewN | apply below_drew1 | refine below_set ?_ GE254.out) | exact HB.out)⟩⟩
                ·rw [if_neg c57] at H
                 have c57b0 : decide (59 < zz4_2) = false := decide_eq_false c57
                 clear c57
                 have H' := Aside0.mk H
                 clear H
                 try go_wp2
                 have n0_ := Aside0.mk (blk_drew BK254.out)
                 have n1_ := Aside0.mk (below_drew1 HB.out)
                 clear BK254
                 clear HB
                 have BK254 := n0_
                 have HB := n1_
                 clear n0_ n1_
                 have hw8_ : ∀ x : Int,wrap64 (x % 256) = x % 256 := fun x => by unfold wrap64; omega
                 refine start_ (n := 41) (S := fun w' => w'.cell? ⟨gb254,0,none⟩ = some (.int .i64 zz0_2) ∧ w'.cell? ⟨gb254,1,none⟩ = some (.int .i64 zz1_2) ∧ w'.cell? ⟨gb254,2,none⟩ = some (.int .i64 zz2_2) ∧ w'.cell? ⟨gb254,3,none⟩ = some (.int .i64 zz3_2) ∧ w'.cell? ⟨gb254,4,none⟩ = some (.int .i64 zz4_2) ∧ w'.cell? ⟨gb254,5,none⟩ = some (.int .i64 zz5_2)) (ds := []) AR15_0 (by kernel_rfl) rfl rfl ⟨(blk_cell BK254.out 0).trans rfl,(blk_cell BK254.out 1).trans rfl,(blk_cell BK254.out 2).trans rfl,(blk_cell BK254.out 3).trans rfl,(blk_cell BK254.out 4).trans rfl,(blk_cell BK254.out 5).trans rfl⟩ (fun hHeld => ?_); refine with_tabW halberdref13_Untime.tab13 halberdref13_Untime.bits13 (fun HT_ HW_ => ?_)
                 generalize wc.drew = w59 at BK254 HB hHeld ⊢
                 refine pure_ (i := 0) (N := some 55) (v := ?_) (a' := ?_) AR15_2 rfl rfl (any_of HT_.out (by kernel_rfl)) (fun _ _ _ h => h) (Or.inl ⟨by rfl,?_⟩) ?_ ?_; rotate_left; (· intro w'; go_simp; with_reducible rfl); rotate_left; (· simp only [Act.put,LSET15_]; rfl)
                 refine pure_ (i := 1) (N := some 56) (v := ?_) (a' := ?_) AR15_4 rfl rfl (any_of HT_.out (by kernel_rfl)) (fun _ _ _ h => h) (Or.inl ⟨by rfl,?_⟩) ?_ ?_; rotate_left; (· intro w'; go_simp; with_reducible rfl); rotate_left; (· simp only [Act.put,LSET15_]; rfl)
                 refine pure_ (i := 2) (N := some 57) (v := ?_) (a' := ?_) AR15_6 rfl rfl (any_of HT_.out (by kernel_rfl)) (fun _ _ _ h => h) (Or.inl ⟨by rfl,?_⟩) ?_ ?_; rotate_left; (· intro w'; go_simp; with_reducible rfl); rotate_left; (· simp only [Act.put,LSET15_]; rfl)
                 refine pure_ (i := 3) (N := some 58) (v := ?_) (a' := ?_) AR15_8 rfl rfl (any_of HT_.out (by kernel_rfl)) (fun _ _ _ h => h) (Or.inl ⟨by rfl,?_⟩) ?_ ?_; rotate_left; (· intro w'; go_simp; with_reducible rfl); rotate_left; (· simp only [Act.put,LSET15_]; rfl)
                 refine take_ (i := 4) (N := some 59) (v := ?_) (a' := ?_) AR15_10 rfl rfl (take_ofW HT_.out HW_.out (by kernel_rfl)) (fun _ _ _ h => h) (Or.inl ⟨by rfl,?_⟩) hHeld ?_ ?_; rotate_left; (· rintro w' ⟨s0,s1,s2,s3,s4,s5⟩; go_simp; with_reducible rfl); rotate_left; (· simp only [Act.put,LSET15_]; rfl)
                 refine pure_ (i := 5) (N := some 60) (v := ?_) (a' := ?_) AR15_14 rfl rfl (any_of HT_.out (by kernel_rfl)) (fun _ _ _ h => h) (Or.inl ⟨by rfl,?_⟩) ?_ ?_; rotate_left; (· intro w'; go_simp; with_reducible rfl); rotate_left; (· simp only [Act.put,LSET15_]; rfl)
                 refine pure_ (i := 6) (N := some 61) (v := ?_) (a' := ?_) AR15_16 rfl rfl (any_of HT_.out (by kernel_rfl)) (fun _ _ _ h => h) (Or.inl ⟨by rfl,?_⟩) ?_ ?_; rotate_left; (· intro w'; go_simp; with_reducible rfl); rotate_left; (· simp only [Act.put,LSET15_]; rfl)
                 refine pure_ (i := 7) (N := some 62) (v := ?_) (a' := ?_) AR15_17 rfl rfl (any_of HT_.out (by kernel_rfl)) (fun _ _ _ h => h) (Or.inl ⟨by rfl,?_⟩) ?_ ?_; rotate_left; (· intro w'; go_simp; with_reducible rfl); rotate_left; (· simp only [Act.put,LSET15_]; rfl)
                 refine pure_ (i := 8) (N := some 63) (v := ?_) (a' := ?_) AR15_18 rfl rfl (any_of HT_.out (by kernel_rfl)) (fun _ _ _ h => h) (Or.inl ⟨by rfl,?_⟩) ?_ ?_; rotate_left; (· intro w'; go_simp; with_reducible rfl); rotate_left; (· simp only [Act.put,LSET15_]; rfl)
                 refine take_ (i := 9) (N := some 64) (v := ?_) (a' := ?_) AR15_20 rfl rfl (take_ofW HT_.out HW_.out (by kernel_rfl)) (fun _ _ _ h => h) (Or.inl ⟨by rfl,?_⟩) hHeld ?_ ?_; rotate_left; (· rintro w' ⟨s0,s1,s2,s3,s4,s5⟩; go_simp; with_reducible rfl); rotate_left; (· simp only [Act.put,LSET15_]; rfl)
                 refine pure_ (i := 10) (N := some 65) (v := ?_) (a' := ?_) AR15_22 rfl rfl (any_of HT_.out (by kernel_rfl)) (fun _ _ _ h => h) (Or.inl ⟨by rfl,?_⟩) ?_ ?_; rotate_left; (· intro w'; go_simp; with_reducible rfl); rotate_left; (· simp only [Act.put,LSET15_]; rfl)
                 refine pure_ (i := 11) (N := some 66) (v := ?_) (a' := ?_) AR15_24 rfl rfl (any_of HT_.out (by kernel_rfl)) (fun _ _ _ h => h) (Or.inl ⟨by rfl,?_⟩) ?_ ?_; rotate_left; (· intro w'; go_simp; with_reducible rfl); rotate_left; (· simp only [Act.put,LSET15_]; rfl)
                 refine pure_ (i := 12) (N := some 67) (v := ?_) (a' := ?_) AR15_26 rfl rfl (any_of HT_.out (by kernel_rfl)) (fun _ _ _ h => h) (Or.inl ⟨by rfl,?_⟩) ?_ ?_; rotate_left; (· intro w'; go_simp; with_reducible rfl); rotate_left; (· simp only [Act.put,LSET15_]; rfl)
                 refine pure_ (i := 13) (N := some 68) (v := ?_) (a' := ?_) AR15_28 rfl rfl (any_of HT_.out (by kernel_rfl)) (fun _ _ _ h => h) (Or.inl ⟨by rfl,?_⟩) ?_ ?_; rotate_left; (· intro w'; go_simp; with_reducible rfl); rotate_left; (· simp only [Act.put,LSET15_]; rfl)
                 refine take_ (i := 14) (N := some 69) (v := ?_) (a' := ?_) AR15_30 rfl rfl (take_ofW HT_.out HW_.out (by kernel_rfl)) (fun _ _ _ h => h) (Or.inl ⟨by rfl,?_⟩) hHeld ?_ ?_; rotate_left; (· rintro w' ⟨s0,s1,s2,s3,s4,s5⟩; go_simp; with_reducible rfl); rotate_left; (· simp only [Act.put,LSET15_]; rfl)
                 refine pure_ (i := 15) (N := some 70) (v := ?_) (a' := ?_) AR15_31 rfl rfl (any_of HT_.out (by kernel_rfl)) (fun _ _ _ h => h) (Or.inl ⟨by rfl,?_⟩) ?_ ?_; rotate_left; (· intro w'; go_simp; with_reducible rfl); rotate_left; (· simp only [Act.put,LSET15_]; rfl)
                 refine pure_ (i := 16) (N := some 71) (v := ?_) (a' := ?_) AR15_32 rfl rfl (any_of HT_.out (by kernel_rfl)) (fun _ _ _ h => h) (Or.inl ⟨by rfl,?_⟩) ?_ ?_; rotate_left; (· intro w'; go_simp; with_reducible rfl); rotate_left; (· simp only [Act.put,LSET15_]; rfl)
                 refine pure_ (i := 17) (N := some 72) (v := ?_) (a' := ?_) AR15_33 rfl rfl (any_of HT_.out (by kernel_rfl)) (fun _ _ _ h => h) (Or.inl ⟨by rfl,?_⟩) ?_ ?_; rotate_left; (· intro w'; go_simp; with_reducible rfl); rotate_left; (· simp only [Act.put,LSET15_]; rfl)
                 refine pure_ (i := 18) (N := some 73) (v := ?_) (a' := ?_) AR15_34 rfl rfl (any_of HT_.out (by kernel_rfl)) (fun _ _ _ h => h) (Or.inl ⟨by rfl,?_⟩) ?_ ?_; rotate_left; (· intro w'; go_simp; with_reducible rfl); rotate_left; (· simp only [Act.put,LSET15_]; rfl)
                 refine pure_ (i := 20) (N := some 75) (v := ?_) (a' := ?_) AR15_35 rfl rfl (any_of HT_.out (by kernel_rfl)) (fun _ _ _ h => h) (Or.inl ⟨by rfl,?_⟩) ?_ ?_; rotate_left; (· intro w'; go_simp; with_reducible rfl); rotate_left; (· simp only [Act.put,LSET15_]; rfl)
                 refine pure_ (i := 21) (N := some 76) (v := ?_) (a' := ?_) AR15_36 rfl rfl (any_of HT_.out (by kernel_rfl)) (fun _ _ _ h => h) (Or.inl ⟨by rfl,?_⟩) ?_ ?_; rotate_left; (· intro w'; go_simp; with_reducible rfl); rotate_left; (· simp only [Act.put,LSET15_]; rfl)
                 refine take_ (i := 19) (N := some 74) (v := ?_) (a' := ?_) AR15_39 rfl rfl (take_ofW HT_.out HW_.out (by kernel_rfl)) (fun _ _ _ h => h) (Or.inl ⟨by rfl,?_⟩) hHeld ?_ ?_; rotate_left; (· rintro w' ⟨s0,s1,s2,s3,s4,s5⟩; go_simp; with_reducible rfl); rotate_left; (· simp only [Act.put,LSET15_]; rfl)
                 refine take_ (i := 22) (N := some 77) (v := ?_) (a' := ?_) AR15_40 rfl rfl (take_ofW HT_.out HW_.out (by kernel_rfl)) (fun _ _ _ h => h) (Or.inl ⟨by rfl,?_⟩) hHeld ?_ ?_; rotate_left; (· rintro w' ⟨s0,s1,s2,s3,s4,s5⟩; go_simp; with_reducible rfl); rotate_left; (· simp only [Act.put,LSET15_]; rfl)
                 refine one_ (i := 23) (N := some 78) AR15_41 rfl rfl (one_of HT_.out (by kernel_rfl)) (by decide) (fun K hK => ?_)
                 refine goes_ Try.func24 (by kernel_rfl) rfl #[.int .i64 x6_38,.int .i64 zz1_2] (by rfl) rfl rfl (by (try simp only [List.map_toArray,List.map_cons,List.map_nil]); first | done | rfl | (simp only [List.length_drop,List.length_take]; rfl)) ?_
                 with_reducible refine (halberdref13_days.calls x6_38 zz1_2 t255 _ A52.out).mono ?_
                 rintro e w' ⟨rfl,⟨nd,rfl⟩⟩
                 refine ⟨_,rfl,?_⟩
                 refine hK.out _ _ ⟨(blk_cell BK254.out 0).trans rfl,(blk_cell BK254.out 1).trans rfl,(blk_cell BK254.out 2).trans rfl,(blk_cell BK254.out 3).trans rfl,(blk_cell BK254.out 4).trans rfl,(blk_cell BK254.out 5).trans rfl⟩ (fun hHeld => ?_)
                 clear hK K
                 refine norm_ (a' := ?_) ?_ ?_
                 rotate_left
                 ·show Act.put _ (some 78) _ = _
                  simp only [Act.put,LSET15_]
                  rfl
                 refine pure_ (i := 24) (N := some 79) (v := ?_) (a' := ?_) AR15_42 rfl rfl (any_of HT_.out (by kernel_rfl)) (fun _ _ _ h => h) (Or.inl ⟨by rfl,?_⟩) ?_ ?_; rotate_left; (· intro w'; go_simp; with_reducible rfl); rotate_left; (· simp only [Act.put,LSET15_]; rfl)
                 refine pure_ (i := 25) (N := some 80) (v := ?_) (a' := ?_) AR15_43 rfl rfl (any_of HT_.out (by kernel_rfl)) (fun _ _ _ h => h) (Or.inl ⟨by rfl,?_⟩) ?_ ?_; rotate_left; (· intro w'; go_simp; with_reducible rfl); rotate_left; (· simp only [Act.put,LSET15_]; rfl)
                 refine pure_ (i := 26) (N := some 81) (v := ?_) (a' := ?_) AR15_44 rfl rfl (any_of HT_.out (by kernel_rfl)) (fun _ _ _ h => h) (Or.inl ⟨by rfl,?_⟩) ?_ ?_; rotate_left; (· intro w'; go_simp; with_reducible rfl); rotate_left; (· simp only [Act.put,LSET15_]; rfl)
                 refine pure_ (i := 27) (N := some 82) (v := ?_) (a' := ?_) AR15_45 rfl rfl (any_of HT_.out (by kernel_rfl)) (fun _ _ _ h => h) (Or.inl ⟨by rfl,?_⟩) ?_ ?_; rotate_left; (· intro w'; go_simp; with_reducible rfl); rotate_left; (· simp only [Act.put,LSET15_]; rfl)
                 refine take_ (i := 28) (N := some 83) (v := ?_) (a' := ?_) AR15_46 rfl rfl (take_ofW HT_.out HW_.out (by kernel_rfl)) (fun _ _ _ h => h) (Or.inl ⟨by rfl,?_⟩) hHeld ?_ ?_; rotate_left; (· rintro w' ⟨s0,s1,s2,s3,s4,s5⟩; go_simp; with_reducible rfl); rotate_left; (· simp only [Act.put,LSET15_]; rfl)
                 refine pure_ (i := 29) (N := some 84) (v := ?_) (a' := ?_) AR15_47 rfl rfl (any_of HT_.out (by kernel_rfl)) (fun _ _ _ h => h) (Or.inl ⟨by rfl,?_⟩) ?_ ?_; rotate_left; (· intro w'; go_simp; with_reducible rfl); rotate_left; (· simp only [Act.put,LSET15_]; rfl)
                 refine pure_ (i := 30) (N := some 85) (v := ?_) (a' := ?_) AR15_48 rfl rfl (any_of HT_.out (by kernel_rfl)) (fun _ _ _ h => h) (Or.inl ⟨by rfl,?_⟩) ?_ ?_; rotate_left; (· intro w'; go_simp; with_reducible rfl); rotate_left; (· simp only [Act.put,LSET15_]; rfl)
                 refine pure_ (i := 31) (N := some 86) (v := ?_) (a' := ?_) AR15_49 rfl rfl (any_of HT_.out (by kernel_rfl)) (fun _ _ _ h => h) (Or.inl ⟨by rfl,?_⟩) ?_ ?_; rotate_left; (· intro w'; go_simp; with_reducible rfl); rotate_left; (· simp only [Act.put,LSET15_]; rfl)
                 refine pure_ (i := 32) (N := some 87) (v := ?_) (a' := ?_) AR15_50 rfl rfl (any_of HT_.out (by kernel_rfl)) (fun _ _ _ h => h) (Or.inl ⟨by rfl,?_⟩) ?_ ?_; rotate_left; (· intro w'; go_simp; with_reducible rfl); rotate_left; (· simp only [Act.put,LSET15_]; rfl)
                 refine take_ (i := 33) (N := some 88) (v := ?_) (a' := ?_) AR15_51 rfl rfl (take_ofW HT_.out HW_.out (by kernel_rfl)) (fun _ _ _ h => h) (Or.inl ⟨by rfl,?_⟩) hHeld ?_ ?_; rotate_left; (· rintro w' ⟨s0,s1,s2,s3,s4,s5⟩; go_simp; with_reducible rfl); rotate_left; (· simp only [Act.put,LSET15_]; rfl)
                 refine pure_ (i := 34) (N := some 89) (v := ?_) (a' := ?_) AR15_52 rfl rfl (any_of HT_.out (by kernel_rfl)) (fun _ _ _ h => h) (Or.inl ⟨by rfl,?_⟩) ?_ ?_; rotate_left; (· intro w'; go_simp; with_reducible rfl); rotate_left; (· simp only [Act.put,LSET15_]; rfl)
                 refine pure_ (i := 35) (N := some 90) (v := ?_) (a' := ?_) AR15_53 rfl rfl (any_of HT_.out (by kernel_rfl)) (fun _ _ _ h => h) (Or.inl ⟨by rfl,?_⟩) ?_ ?_; rotate_left; (· intro w'; go_simp; with_reducible rfl); rotate_left; (· simp only [Act.put,LSET15_]; rfl)
                 refine pure_ (i := 36) (N := some 91) (v := ?_) (a' := ?_) AR15_54 rfl rfl (any_of HT_.out (by kernel_rfl)) (fun _ _ _ h => h) (Or.inl ⟨by rfl,?_⟩) ?_ ?_; rotate_left; (· intro w'; go_simp; with_reducible rfl); rotate_left; (· simp only [Act.put,LSET15_]; rfl)
                 refine pure_ (i := 37) (N := some 92) (v := ?_) (a' := ?_) AR15_55 rfl rfl (any_of HT_.out (by kernel_rfl)) (fun _ _ _ h => h) (Or.inl ⟨by rfl,?_⟩) ?_ ?_; rotate_left; (· intro w'; go_simp; with_reducible rfl); rotate_left; (· simp only [Act.put,LSET15_]; rfl)
                 refine take_ (i := 38) (N := some 93) (v := ?_) (a' := ?_) AR15_56 rfl rfl (take_ofW HT_.out HW_.out (by kernel_rfl)) (fun _ _ _ h => h) (Or.inl ⟨by rfl,?_⟩) hHeld ?_ ?_; rotate_left; (· rintro w' ⟨s0,s1,s2,s3,s4,s5⟩; go_simp; with_reducible rfl); rotate_left; (· simp only [Act.put,LSET15_]; rfl)
                 refine pure_ (i := 39) (N := some 94) (v := ?_) (a' := ?_) AR15_57 rfl rfl (any_of HT_.out (by kernel_rfl)) (fun _ _ _ h => h) (Or.inl ⟨by rfl,?_⟩) ?_ ?_; rotate_left; (· intro w'; go_simp; with_reducible rfl); rotate_left; (· simp only [Act.put,LSET15_]; rfl)
                 refine pure_ (i := 40) (N := some 95) (v := ?_) (a' := ?_) AR15_58 rfl rfl (any_of HT_.out (by kernel_rfl)) (fun _ _ _ h => h) (Or.inl ⟨by rfl,?_⟩) ?_ ?_; rotate_left; (· intro w'; go_simp; with_reducible rfl); rotate_left; (· simp only [Act.put,LSET15_]; rfl)
                 refine done_ (done_of HT_.out (by kernel_rfl)) ?_
                 try go_wp2
                 go_meet
                 case rel => exact ⟨_,(decide (zz5_2 > 59)),(by first | rfl | (simp; done) | (simp [*]; done)),H',⟨by have := HJ1.out; have := HK2.out; have := HJ38.out; first | omega | exact Nat.le_refl _⟩,⟨by (with_reducible repeat (first | refine blk_drewN ?_ _ | refine blk_drew ?_ | refine blk_alloc ?_ _)); exact BK254.out⟩,⟨by repeat (first | (with_reducible first | exact HB.out | apply below_alloc | apply pw_below_drewN | apply below_drew1 | refine below_set ?_ GE254.out) | exact HB.out)⟩⟩
         case rest =>
          clear HC43
          try clear c2
          try clear p2
          try clear c5
          try clear c24
          try clear c57
          try clear c57b0
          obtain ⟨kq,x95_42,rfl,HA,HJ42,BK254,HB⟩ := hcut
          cases kq with
          | zero => exact absurd HA.out (by simp [halberdref13_Untime.j3])
          | succ kj42 =>
           have H := HA.out
           clear HA
           simp only [halberdref13_Untime.j3] at H
           by_cases c60 : x95_42 = true
           ·subst c60
            have H1 : (some (0,1300)) = some (r1,r2) := by rw [if_pos rfl] at H; exact H
            clear H
            have H := H1
            clear H1
            simp only [Option.some.injEq,Prod.mk.injEq] at H
            obtain ⟨rfl,rfl⟩ := H
            go_wp2
            go_ret2
            exact ⟨by first | rfl | (simp [errW_none,errW_some] <;> rfl) | (simp [*,errW_none,errW_some] <;> rfl),by repeat (first | (with_reducible first | exact HB.out | apply below_alloc | apply pw_below_drewN | apply below_drew1 | refine below_set ?_ GE254.out) | exact HB.out)⟩
           ·replace c60 := Bool.eq_false_iff.mpr c60
            subst c60
            have H1 : (halberdref13_Untime.l1 kj42 x6_38 (wrap64 (zz2_2 - 1)) 1970 zz0_2 zz1_2 zz2_2 zz3_2 zz4_2 zz5_2) = some (r1,r2) := by rw [if_neg (show ¬ (false = true) by decide)] at H; exact H
            clear H
            have H := H1
            clear H1
            have H' := Aside0.mk H
            clear H
            have hcz61_0 : wc.cell? ⟨gb254,0,none⟩ = some (.int .i64 zz0_2) := (blk_cell BK254.out 0).trans rfl
            have hcz61_1 : wc.cell? ⟨gb254,1,none⟩ = some (.int .i64 zz1_2) := (blk_cell BK254.out 1).trans rfl
            have hcz61_2 : wc.cell? ⟨gb254,2,none⟩ = some (.int .i64 zz2_2) := (blk_cell BK254.out 2).trans rfl
            have hcz61_3 : wc.cell? ⟨gb254,3,none⟩ = some (.int .i64 zz3_2) := (blk_cell BK254.out 3).trans rfl
            have hcz61_4 : wc.cell? ⟨gb254,4,none⟩ = some (.int .i64 zz4_2) := (blk_cell BK254.out 4).trans rfl
            have hcz61_5 : wc.cell? ⟨gb254,5,none⟩ = some (.int .i64 zz5_2) := (blk_cell BK254.out 5).trans rfl
            have hfz61_0 := blk_frozen BK254.out 0
            have hfz61_1 := blk_frozen BK254.out 1
            have hfz61_2 := blk_frozen BK254.out 2
            have hfz61_3 := blk_frozen BK254.out 3
            have hfz61_4 := blk_frozen BK254.out 4
            have hfz61_5 := blk_frozen BK254.out 5
            go_wp2
            go_loopg [7,8] kj42 (fun kq v7 v8 w' => ∃ (x7_5 : Int) (x8_5 : Int),v7 = .int .i64 x7_5 ∧ v8 = .int .i64 x8_5 ∧ Aside0 (halberdref13_Untime.l1 kq x6_38 x7_5 x8_5 zz0_2 zz1_2 zz2_2 zz3_2 zz4_2 zz5_2 = some (r1,r2)) ∧ Aside0 (kq ≤ kj42) ∧ Aside0 (w'.heap[gb254]? = some (.cells #[.int .i64 zz0_2,.int .i64 zz1_2,.int .i64 zz2_2,.int .i64 zz3_2,.int .i64 zz4_2,.int .i64 zz5_2] 55 (0,0))) ∧ Aside0 (Below w.heap.size w w'))
            case atStart => exact ⟨(wrap64 (zz2_2 - 1)),(1970),(by first | rfl | (simp; done) | (simp [*]; done)),(by first | rfl | (simp; done) | (simp [*]; done)),H',⟨Nat.le_refl _⟩,⟨by (with_reducible repeat (first | refine blk_drewN ?_ _ | refine blk_drew ?_ | refine blk_alloc ?_ _)); exact BK254.out⟩,⟨by repeat (first | (with_reducible first | exact HB.out | apply below_alloc | apply pw_below_drewN | apply below_drew1 | refine below_set ?_ GE254.out) | exact HB.out)⟩⟩
            case round =>
             clear H'
             try clear c2
             try clear p2
             try clear c5
             try clear c6
             try clear p6
             try clear c24
             try clear c57
             try clear c57b0
             try clear c60
             try clear hcz61_0
             try clear hcz61_1
             try clear hcz61_2
             try clear hcz61_3
             try clear hcz61_4
             try clear hcz61_5
             try clear hfz61_0
             try clear hfz61_1
             try clear hfz61_2
             try clear hfz61_3
             try clear hfz61_4
             try clear hfz61_5
             try clear p2
             obtain ⟨x7_5,x8_5,rfl,rfl,HA,HK5,BK254,HB⟩ := hrel
             cases gk with
             | zero => exact absurd HA.out (by simp [halberdref13_Untime.l1])
             | succ k5 =>
              have H := HA.out
              clear HA
              simp only [halberdref13_Untime.l1] at H
              by_cases c62 : x8_5 < x6_38
              ·rw [if_pos c62] at H
               have c62b0 : decide (x8_5 < x6_38) = true := decide_eq_true c62
               clear c62
               replace H := Option.bind_eq_some_iff.mp H
               obtain ⟨t256,A630,H⟩ := H
               replace H : (halberdref13_Untime.l1 k5 x6_38 (wrap64 ((wrap64 (x7_5 + 337)) + t256)) (wrap64 (x8_5 + 1)) zz0_2 zz1_2 zz2_2 zz3_2 zz4_2 zz5_2) = some (r1,r2) := H
               have A63 := Aside0.mk A630
               clear A630
               have H' := Aside0.mk H
               clear H
               go_wp2_with (first | ((with_reducible refine gate_callee (f := 24) rfl ?_); refine goesL_ (some 107) rfl rfl Try.func24 (by kernel_rfl) rfl #[.int .i64 x8_5,.int .i64 2] rfl (by (try simp only [List.map_toArray,List.map_cons,List.map_nil]); first | done | rfl | (simp only [List.length_drop,List.length_take]; rfl)) ?_; (with_reducible refine (halberdref13_days.calls x8_5 2 t256 _ A63.out).mono ?_); rintro e w' ⟨rfl,⟨nd,rfl⟩⟩; refine ⟨_,rfl,?_⟩))
               go_roundg k5
               case measure => have := HJ1.out; have := HK2.out; have := HJ38.out; have := HJ42.out; have := HK5.out; omega
               case rel => exact ⟨(wrap64 ((wrap64 (x7_5 + 337)) + t256)),(wrap64 (x8_5 + 1)),(by first | rfl | (simp; done) | (simp [*]; done)),(by first | rfl | (simp; done) | (simp [*]; done)),H',⟨by have := HJ1.out; have := HK2.out; have := HJ38.out; have := HJ42.out; have := HK5.out; omega⟩,⟨by (with_reducible repeat (first | refine blk_drewN ?_ _ | refine blk_drew ?_ | refine blk_alloc ?_ _)); exact BK254.out⟩,⟨by repeat (first | (with_reducible first | exact HB.out | apply below_alloc | apply pw_below_drewN | apply below_drew1 | refine below_set ?_ GE254.out) | exact HB.out)⟩⟩
              ·rw [if_neg c62] at H
               have c62b0 : decide (x8_5 < x6_38) = false := decide_eq_false c62
               clear c62
               have H' := Aside0.mk H
               clear H
               go_wp2
               go_loopg [7,9] k5 (fun kq v7 v9 w' => ∃ (x7_6 : Int) (x9_6 : Int),v7 = .int .i64 x7_6 ∧ v9 = .int .i64 x9_6 ∧ Aside0 (halberdref13_Untime.l2 kq x6_38 x7_6 x9_6 zz0_2 zz1_2 zz2_2 zz3_2 zz4_2 zz5_2 = some (r1,r2)) ∧ Aside0 (kq ≤ k5) ∧ Aside0 (w'.heap[gb254]? = some (.cells #[.int .i64 zz0_2,.int .i64 zz1_2,.int .i64 zz2_2,.int .i64 zz3_2,.int .i64 zz4_2,.int .i64 zz5_2] 55 (0,0))) ∧ Aside0 (Below w.heap.size w w'))
               case atStart => exact ⟨(x7_5),(1),(by first | rfl | (simp; done) | (simp [*]; done)),(by first | rfl | (simp; done) | (simp [*]; done)),H',⟨Nat.le_refl _⟩,⟨by (with_reducible repeat (first | refine blk_drewN ?_ _ | refine blk_drew ?_ | refine blk_alloc ?_ _)); exact BK254.out⟩,⟨by repeat (first | (with_reducible first | exact HB.out | apply below_alloc | apply pw_below_drewN | apply below_drew1 | refine below_set ?_ GE254.out) | exact HB.out)⟩⟩
               case round =>
                clear H'
                try clear c2
                try clear p2
                try clear c5
                try clear c6
                try clear p6
                try clear c24
                try clear c57
                try clear c57b0
                try clear c60
                try clear c62
                try clear c62b0
                try clear hcz61_0
                try clear hcz61_1
                try clear hcz61_2
                try clear hcz61_3
                try clear hcz61_4
                try clear hcz61_5
                try clear hfz61_0
                try clear hfz61_1
                try clear hfz61_2
                try clear hfz61_3
                try clear hfz61_4
                try clear hfz61_5
                try clear p2
                try clear p6
                obtain ⟨x7_6,x9_6,rfl,rfl,HA,HK6,BK254,HB⟩ := hrel
                cases gk with
                | zero => exact absurd HA.out (by simp [halberdref13_Untime.l2])
                | succ k6 =>
                 have H := HA.out
                 clear HA
                 simp only [halberdref13_Untime.l2] at H
                 by_cases c64 : x9_6 < zz1_2
                 ·rw [if_pos c64] at H
                  have c64b0 : decide (x9_6 < zz1_2) = true := decide_eq_true c64
                  clear c64
                  replace H := Option.bind_eq_some_iff.mp H
                  obtain ⟨t257,A650,H⟩ := H
                  replace H : (halberdref13_Untime.l2 k6 x6_38 (wrap64 (x7_6 + t257)) (wrap64 (x9_6 + 1)) zz0_2 zz1_2 zz2_2 zz3_2 zz4_2 zz5_2) = some (r1,r2) := H
                  have A65 := Aside0.mk A650
                  clear A650
                  have H' := Aside0.mk H
                  clear H
                  have hcz66_0 : wr.cell? ⟨gb254,0,none⟩ = some (.int .i64 zz0_2) := (blk_cell BK254.out 0).trans rfl
                  have hcz66_1 : wr.cell? ⟨gb254,1,none⟩ = some (.int .i64 zz1_2) := (blk_cell BK254.out 1).trans rfl
                  have hcz66_2 : wr.cell? ⟨gb254,2,none⟩ = some (.int .i64 zz2_2) := (blk_cell BK254.out 2).trans rfl
                  have hcz66_3 : wr.cell? ⟨gb254,3,none⟩ = some (.int .i64 zz3_2) := (blk_cell BK254.out 3).trans rfl
                  have hcz66_4 : wr.cell? ⟨gb254,4,none⟩ = some (.int .i64 zz4_2) := (blk_cell BK254.out 4).trans rfl
                  have hcz66_5 : wr.cell? ⟨gb254,5,none⟩ = some (.int .i64 zz5_2) := (blk_cell BK254.out 5).trans rfl
                  have hfz66_0 := blk_frozen BK254.out 0
                  have hfz66_1 := blk_frozen BK254.out 1
                  have hfz66_2 := blk_frozen BK254.out 2
                  have hfz66_3 := blk_frozen BK254.out 3
                  have hfz66_4 := blk_frozen BK254.out 4
                  have hfz66_5 := blk_frozen BK254.out 5
                  go_wp2_with (first | ((with_reducible refine gate_callee (f := 24) rfl ?_); refine goesL_ (some 118) rfl rfl Try.func24 (by kernel_rfl) rfl #[.int .i64 x6_38,.int .i64 x9_6] rfl (by (try simp only [List.map_toArray,List.map_cons,List.map_nil]); first | done | rfl | (simp only [List.length_drop,List.length_take]; rfl)) ?_; (with_reducible refine (halberdref13_days.calls x6_38 x9_6 t257 _ A65.out).mono ?_); rintro e w' ⟨rfl,⟨nd,rfl⟩⟩; refine ⟨_,rfl,?_⟩))
                  go_roundg k6
                  case measure => have := HJ1.out; have := HK2.out; have := HJ38.out; have := HJ42.out; have := HK5.out; have := HK6.out; omega
                  case rel => exact ⟨(wrap64 (x7_6 + t257)),(wrap64 (x9_6 + 1)),(by first | rfl | (simp; done) | (simp [*]; done)),(by first | rfl | (simp; done) | (simp [*]; done)),H',⟨by have := HJ1.out; have := HK2.out; have := HJ38.out; have := HJ42.out; have := HK5.out; have := HK6.out; omega⟩,⟨by (with_reducible repeat (first | refine blk_drewN ?_ _ | refine blk_drew ?_ | refine blk_alloc ?_ _)); exact BK254.out⟩,⟨by repeat (first | (with_reducible first | exact HB.out | apply below_alloc | apply pw_below_drewN | apply below_drew1 | refine below_set ?_ GE254.out) | exact HB.out)⟩⟩
                 ·rw [if_neg c64] at H
                  have c64b0 : decide (x9_6 < zz1_2) = false := decide_eq_false c64
                  clear c64
                  simp only [Option.some.injEq,Prod.mk.injEq] at H
                  obtain ⟨rfl,rfl⟩ := H
                  have hcz67_0 : wr.cell? ⟨gb254,0,none⟩ = some (.int .i64 zz0_2) := (blk_cell BK254.out 0).trans rfl
                  have hcz67_1 : wr.cell? ⟨gb254,1,none⟩ = some (.int .i64 zz1_2) := (blk_cell BK254.out 1).trans rfl
                  have hcz67_2 : wr.cell? ⟨gb254,2,none⟩ = some (.int .i64 zz2_2) := (blk_cell BK254.out 2).trans rfl
                  have hcz67_3 : wr.cell? ⟨gb254,3,none⟩ = some (.int .i64 zz3_2) := (blk_cell BK254.out 3).trans rfl
                  have hcz67_4 : wr.cell? ⟨gb254,4,none⟩ = some (.int .i64 zz4_2) := (blk_cell BK254.out 4).trans rfl
                  have hcz67_5 : wr.cell? ⟨gb254,5,none⟩ = some (.int .i64 zz5_2) := (blk_cell BK254.out 5).trans rfl
                  have hfz67_0 := blk_frozen BK254.out 0
                  have hfz67_1 := blk_frozen BK254.out 1
                  have hfz67_2 := blk_frozen BK254.out 2
                  have hfz67_3 := blk_frozen BK254.out 3
                  have hfz67_4 := blk_frozen BK254.out 4
                  have hfz67_5 := blk_frozen BK254.out 5
                  go_wp2
                  go_ret2
                  exact ⟨by first | rfl | (simp [errW_none,errW_some] <;> rfl) | (simp [*,errW_none,errW_some] <;> rfl),by repeat (first | (with_reducible first | exact HB.out | apply below_alloc | apply pw_below_drewN | apply below_drew1 | refine below_set ?_ GE254.out) | exact HB.out)⟩

end Go.Proofs.Ytonemdclfgckoaa.X
