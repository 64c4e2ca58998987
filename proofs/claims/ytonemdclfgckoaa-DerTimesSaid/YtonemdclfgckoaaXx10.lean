-- Written by a program of this session (wip/tools/xprint.py), over the kit's printer.
import Derived.Test.YtonemdclfgckoaaXx0
import Derived.Test.YtonemdclfgckoaaXx3
import Derived.Test.YtonemdclfgckoaaXx9
namespace Go.Proofs.Ytonemdclfgckoaa.X
open Go.RowKit Go.Proofs.YtonemdclfgckoaaW.PrintWords Go.Proofs.YtonemdclfgckoaaW.PrintLast Go.Proofs.YtonemdclfgckoaaW.PrintMore
attribute [local go_sem] max2_int min2_int max_two min_two max_three min_three max_four min_four   -- for this text's walks alone
set_option linter.unusedVariables false
set_option linter.unusedSimpArgs false

/-! ### der_Time: function 12 -/
mutual
def der_Time.j0 : Nat → Int → Bool → Option (ByteArray × Int)
 | 0,_,_ => none
 | k + 1,x0,x16 => if x16 = true then (some ((⟨#[]⟩ : ByteArray),1300)) else (der_Time.l0 k (wrap64 (Int.tdiv x0 86400)) (Int.tmod x0 86400) 1970 1)
def der_Time.l0 : Nat → Int → Int → Int → Int → Option (ByteArray × Int)
 | 0,_,_,_,_ => none
 | k + 1,x4,x5,x6,x7 => (der_yearDays.f x6).bind fun t177 => (if x4 ≥ t177 then ((der_yearDays.f x6).bind fun t178 => (der_Time.l0 k (wrap64 (x4 - t178)) x5 (wrap64 (x6 + 1)) x7)) else (der_Time.l1 k x4 x5 x6 x7))
def der_Time.l1 : Nat → Int → Int → Int → Int → Option (ByteArray × Int)
 | 0,_,_,_,_ => none
 | k + 1,x4,x5,x6,x7 => (der_days.f x6 x7).bind fun t179 => (if x4 ≥ t179 then ((der_days.f x6 x7).bind fun t180 => (der_Time.l1 k (wrap64 (x4 - t180)) x5 x6 (wrap64 (x7 + 1)))) else (der_Time.l2 k ([] : List Int) 0 (Int.tmod x6 100) x7 (wrap64 (x4 + 1)) (wrap64 (Int.tdiv x5 3600)) (Int.tmod (wrap64 (Int.tdiv x5 60)) 60) (Int.tmod x5 60)))
def der_Time.l2 : Nat → List Int → Int → Int → Int → Int → Int → Int → Int → Option (ByteArray × Int)
 | 0,_,_,_,_,_,_,_,_ => none
 | k + 1,x8,x56,x600,x601,x602,x603,x604,x605 => if x56 < 6 then (if x56 = 0 then ((some (([(wrap64 (48 + (wrap64 (Int.tdiv x600 10)))) % 256,(wrap64 (48 + (Int.tmod x600 10))) % 256] : List Int) : List Int)).bind fun y181 => (if x8.length + y181.length < 140737488355328 then (der_Time.l2 k (x8 ++ y181) (wrap64 (x56 + 1)) x600 x601 x602 x603 x604 x605) else (none))) else (if x56 = 1 then ((some (([(wrap64 (48 + (wrap64 (Int.tdiv x601 10)))) % 256,(wrap64 (48 + (Int.tmod x601 10))) % 256] : List Int) : List Int)).bind fun y187 => (if x8.length + y187.length < 140737488355328 then (der_Time.l2 k (x8 ++ y187) (wrap64 (x56 + 1)) x600 x601 x602 x603 x604 x605) else (none))) else (if x56 = 2 then ((some (([(wrap64 (48 + (wrap64 (Int.tdiv x602 10)))) % 256,(wrap64 (48 + (Int.tmod x602 10))) % 256] : List Int) : List Int)).bind fun y193 => (if x8.length + y193.length < 140737488355328 then (der_Time.l2 k (x8 ++ y193) (wrap64 (x56 + 1)) x600 x601 x602 x603 x604 x605) else (none))) else (if x56 = 3 then ((some (([(wrap64 (48 + (wrap64 (Int.tdiv x603 10)))) % 256,(wrap64 (48 + (Int.tmod x603 10))) % 256] : List Int) : List Int)).bind fun y199 => (if x8.length + y199.length < 140737488355328 then (der_Time.l2 k (x8 ++ y199) (wrap64 (x56 + 1)) x600 x601 x602 x603 x604 x605) else (none))) else (if x56 = 4 then ((some (([(wrap64 (48 + (wrap64 (Int.tdiv x604 10)))) % 256,(wrap64 (48 + (Int.tmod x604 10))) % 256] : List Int) : List Int)).bind fun y205 => (if x8.length + y205.length < 140737488355328 then (der_Time.l2 k (x8 ++ y205) (wrap64 (x56 + 1)) x600 x601 x602 x603 x604 x605) else (none))) else (if x56 = 5 then ((some (([(wrap64 (48 + (wrap64 (Int.tdiv x605 10)))) % 256,(wrap64 (48 + (Int.tmod x605 10))) % 256] : List Int) : List Int)).bind fun y211 => (if x8.length + y211.length < 140737488355328 then (der_Time.l2 k (x8 ++ y211) (wrap64 (x56 + 1)) x600 x601 x602 x603 x604 x605) else (none))) else (none))))))) else ((der_Put.f k 23 (([strOfNums x8,(⟨#[90]⟩ : ByteArray)] : List ByteArray))).bind fun bt220 => (some (bt220.1,bt220.2)))
end
def der_Time.f (k : Nat) (a0 : Int) : Option (ByteArray × Int) := if a0 < 0 then (der_Time.j0 k a0 true) else (der_Time.j0 k a0 (decide (a0 > 2524607999)))
theorem der_Time.mono_l : ∀ k,(∀ y0 y1,LeO (der_Time.j0 k y0 y1) (der_Time.j0 (k + 1) y0 y1)) ∧ (∀ y0 y1 y2 y3,LeO (der_Time.l0 k y0 y1 y2 y3) (der_Time.l0 (k + 1) y0 y1 y2 y3)) ∧ (∀ y0 y1 y2 y3,LeO (der_Time.l1 k y0 y1 y2 y3) (der_Time.l1 (k + 1) y0 y1 y2 y3)) ∧ (∀ y0 y1 y2 y3 y4 y5 y6 y7,LeO (der_Time.l2 k y0 y1 y2 y3 y4 y5 y6 y7) (der_Time.l2 (k + 1) y0 y1 y2 y3 y4 y5 y6 y7))
 | 0 => ⟨fun _ _ r h => by simp [der_Time.j0] at h,fun _ _ _ _ r h => by simp [der_Time.l0] at h,fun _ _ _ _ r h => by simp [der_Time.l1] at h,fun _ _ _ _ _ _ _ _ r h => by simp [der_Time.l2] at h⟩
 | k + 1 => by
  obtain ⟨ih0,ih1,ih2,ih3⟩ := der_Time.mono_l k
  refine ⟨?_,?_,?_,?_⟩
  ·intro y0 y1
   unfold der_Time.j0
   repeat' first
   | (with_reducible exact ih0 _ _)
   | (with_reducible exact ih1 _ _ _ _)
   | (with_reducible exact ih2 _ _ _ _)
   | (with_reducible exact ih3 _ _ _ _ _ _ _ _)
   | (with_reducible exact der_Put.mono _ _ _)
   | (with_reducible exact LeO.refl _)
   | (with_reducible exact LeO.none _)
   | (with_reducible refine LeO.ite ?_ ?_)
   | (with_reducible refine LeO.bind ?_ (fun _ => ?_))
   | exact ih0 _ _
   | exact ih1 _ _ _ _
   | exact ih2 _ _ _ _
   | exact ih3 _ _ _ _ _ _ _ _
   | exact der_Put.mono _ _ _
   | exact LeO.none _
   | refine LeO.ite ?_ ?_
   | refine LeO.bind ?_ (fun _ => ?_)
  ·intro y0 y1 y2 y3
   unfold der_Time.l0
   repeat' first
   | (with_reducible exact ih0 _ _)
   | (with_reducible exact ih1 _ _ _ _)
   | (with_reducible exact ih2 _ _ _ _)
   | (with_reducible exact ih3 _ _ _ _ _ _ _ _)
   | (with_reducible exact der_Put.mono _ _ _)
   | (with_reducible exact LeO.refl _)
   | (with_reducible exact LeO.none _)
   | (with_reducible refine LeO.ite ?_ ?_)
   | (with_reducible refine LeO.bind ?_ (fun _ => ?_))
   | exact ih0 _ _
   | exact ih1 _ _ _ _
   | exact ih2 _ _ _ _
   | exact ih3 _ _ _ _ _ _ _ _
   | exact der_Put.mono _ _ _
   | exact LeO.none _
   | refine LeO.ite ?_ ?_
   | refine LeO.bind ?_ (fun _ => ?_)
  ·intro y0 y1 y2 y3
   unfold der_Time.l1
   repeat' first
   | (with_reducible exact ih0 _ _)
   | (with_reducible exact ih1 _ _ _ _)
   | (with_reducible exact ih2 _ _ _ _)
   | (with_reducible exact ih3 _ _ _ _ _ _ _ _)
   | (with_reducible exact der_Put.mono _ _ _)
   | (with_reducible exact LeO.refl _)
   | (with_reducible exact LeO.none _)
   | (with_reducible refine LeO.ite ?_ ?_)
   | (with_reducible refine LeO.bind ?_ (fun _ => ?_))
   | exact ih0 _ _
   | exact ih1 _ _ _ _
   | exact ih2 _ _ _ _
   | exact ih3 _ _ _ _ _ _ _ _
   | exact der_Put.mono _ _ _
   | exact LeO.none _
   | refine LeO.ite ?_ ?_
   | refine LeO.bind ?_ (fun _ => ?_)
  ·intro y0 y1 y2 y3 y4 y5 y6 y7
   unfold der_Time.l2
   repeat' first
   | (with_reducible exact ih0 _ _)
   | (with_reducible exact ih1 _ _ _ _)
   | (with_reducible exact ih2 _ _ _ _)
   | (with_reducible exact ih3 _ _ _ _ _ _ _ _)
   | (with_reducible exact der_Put.mono _ _ _)
   | (with_reducible exact LeO.refl _)
   | (with_reducible exact LeO.none _)
   | (with_reducible refine LeO.ite ?_ ?_)
   | (with_reducible refine LeO.bind ?_ (fun _ => ?_))
   | exact ih0 _ _
   | exact ih1 _ _ _ _
   | exact ih2 _ _ _ _
   | exact ih3 _ _ _ _ _ _ _ _
   | exact der_Put.mono _ _ _
   | exact LeO.none _
   | refine LeO.ite ?_ ?_
   | refine LeO.bind ?_ (fun _ => ?_)
theorem der_Time.mono : ∀ a0 k,LeO (der_Time.f k a0) (der_Time.f (k + 1) a0) := by
 intro a0 k
 obtain ⟨ih0,ih1,ih2,ih3⟩ := der_Time.mono_l k
 unfold der_Time.f
 repeat' first
   | (with_reducible exact ih0 _ _)
   | (with_reducible exact ih1 _ _ _ _)
   | (with_reducible exact ih2 _ _ _ _)
   | (with_reducible exact ih3 _ _ _ _ _ _ _ _)
   | (with_reducible exact der_Put.mono _ _ _)
   | (with_reducible exact LeO.refl _)
   | (with_reducible exact LeO.none _)
   | (with_reducible refine LeO.ite ?_ ?_)
   | (with_reducible refine LeO.bind ?_ (fun _ => ?_))
   | exact ih0 _ _
   | exact ih1 _ _ _ _
   | exact ih2 _ _ _ _
   | exact ih3 _ _ _ _ _ _ _ _
   | exact der_Put.mono _ _ _
   | exact LeO.none _
   | refine LeO.ite ?_ ?_
   | refine LeO.bind ?_ (fun _ => ?_)
set_option maxHeartbeats 8000000 in
set_option maxRecDepth 100000 in
theorem der_Time.calls (k : Nat) (a0 : Int) (r1 : ByteArray) (r2 : Int) (w : World) (h : der_Time.f k a0 = some (r1,r2)) :
  Calls Try.prog 12 #[.int .i64 a0] w fun e w' => e = .returned (.tuple #[.string r1,.int .i64 r2]) ∧ Below w.heap.size w w' := by
 have hu55 := Try.underlying55
 have hix55_0 : ∀ (b0 b1 b2 b3 b4 b5 : Value) (W : World),(Instr.index 55 (.agg #[b0,b1,b2,b3,b4,b5]) (.int .i64 0)).run Try.prog W = .ok b0 W := fun b0 b1 b2 b3 b4 b5 _ => by kernel_rfl
 have hix55_1 : ∀ (b0 b1 b2 b3 b4 b5 : Value) (W : World),(Instr.index 55 (.agg #[b0,b1,b2,b3,b4,b5]) (.int .i64 1)).run Try.prog W = .ok b1 W := fun b0 b1 b2 b3 b4 b5 _ => by kernel_rfl
 have hix55_2 : ∀ (b0 b1 b2 b3 b4 b5 : Value) (W : World),(Instr.index 55 (.agg #[b0,b1,b2,b3,b4,b5]) (.int .i64 2)).run Try.prog W = .ok b2 W := fun b0 b1 b2 b3 b4 b5 _ => by kernel_rfl
 have hix55_3 : ∀ (b0 b1 b2 b3 b4 b5 : Value) (W : World),(Instr.index 55 (.agg #[b0,b1,b2,b3,b4,b5]) (.int .i64 3)).run Try.prog W = .ok b3 W := fun b0 b1 b2 b3 b4 b5 _ => by kernel_rfl
 have hix55_4 : ∀ (b0 b1 b2 b3 b4 b5 : Value) (W : World),(Instr.index 55 (.agg #[b0,b1,b2,b3,b4,b5]) (.int .i64 4)).run Try.prog W = .ok b4 W := fun b0 b1 b2 b3 b4 b5 _ => by kernel_rfl
 have hix55_5 : ∀ (b0 b1 b2 b3 b4 b5 : Value) (W : World),(Instr.index 55 (.agg #[b0,b1,b2,b3,b4,b5]) (.int .i64 5)).run Try.prog W = .ok b5 W := fun b0 b1 b2 b3 b4 b5 _ => by kernel_rfl
 have HB := Aside0.mk (Below.refl w.heap.size w)
 have H : (if a0 < 0 then (der_Time.j0 k a0 true) else (der_Time.j0 k a0 (decide (a0 > 2524607999)))) = some (r1,r2) := h
 clear h
 have HC2 := Aside0.mk H
 clear H
 go_enter Try.func12,Try.ntmps12
 go_upto_region 1 with (fail)
 go_cut [16] (fun v16 wc => ∃ (kq : Nat) (x16_1 : Bool),v16 = .bool x16_1 ∧ Aside0 (der_Time.j0 kq a0 x16_1 = some (r1,r2)) ∧ Aside0 (kq ≤ k) ∧ Aside0 (Below w.heap.size w wc))
 case first =>
  have H := HC2.out
  clear HC2
  by_cases c3 : a0 < 0
  ·rw [if_pos c3] at H
   have c3b0 : decide (a0 < 0) = true := decide_eq_true c3
   clear c3
   (first | rw [c3b0] | (simp only [i64_w,i32_w]; rw [c3b0]) | skip)
   have H' := Aside0.mk H
   clear H
   go_wp2
   go_meet
   case rel => exact ⟨_,(true),(by first | rfl | (simp; done) | (simp [*]; done) | (simp [*,wrap64]; done)),H',⟨by first | omega | exact Nat.le_refl _⟩,⟨by repeat (first | (with_reducible first | exact HB.out | apply below_alloc | apply pw_below_drewN | apply below_drew1) | exact HB.out)⟩⟩
  ·rw [if_neg c3] at H
   have c3b0 : decide (a0 < 0) = false := decide_eq_false c3
   clear c3
   (first | rw [c3b0] | (simp only [i64_w,i32_w]; rw [c3b0]) | skip)
   have H' := Aside0.mk H
   clear H
   go_wp2
   go_meet
   case rel => exact ⟨_,(decide (a0 > 2524607999)),(by first | rfl | (simp; done) | (simp [*]; done) | (simp [*,wrap64]; done)),H',⟨by first | omega | exact Nat.le_refl _⟩,⟨by repeat (first | (with_reducible first | exact HB.out | apply below_alloc | apply pw_below_drewN | apply below_drew1) | exact HB.out)⟩⟩
 case rest =>
  clear HC2
  try clear c1
  try clear p2
  try clear c3
  try clear c3b0
  obtain ⟨kq,x16_1,rfl,HA,HJ1,HB⟩ := hcut
  cases kq with
  | zero => exact absurd HA.out (by simp [der_Time.j0])
  | succ kj1 =>
   have H := HA.out
   clear HA
   simp only [der_Time.j0] at H
   by_cases c4 : x16_1 = true
   ·subst c4
    have H1 : (some ((⟨#[]⟩ : ByteArray),1300)) = some (r1,r2) := by rw [if_pos rfl] at H; exact H
    clear H
    have H := H1
    clear H1
    simp only [Option.some.injEq,Prod.mk.injEq] at H
    obtain ⟨rfl,rfl⟩ := H
    go_wp2
    go_ret2
    exact ⟨by first | rfl | (simp [errW_none,errW_some] <;> rfl) | (simp [*,errW_none,errW_some] <;> rfl),by repeat (first | (with_reducible first | exact HB.out | apply below_alloc | apply pw_below_drewN | apply below_drew1) | exact HB.out)⟩
   ·replace c4 := Bool.eq_false_iff.mpr c4
    subst c4
    have H1 : (der_Time.l0 kj1 (wrap64 (Int.tdiv a0 86400)) (Int.tmod a0 86400) 1970 1) = some (r1,r2) := by rw [if_neg (show ¬ (false = true) by decide)] at H; exact H
    clear H
    have H := H1
    clear H1
    have H' := Aside0.mk H
    clear H
    go_wp2
    go_loopg [4,6] kj1 (fun kq v4 v6 w' => ∃ (x4_2 : Int) (x6_2 : Int),v4 = .int .i64 x4_2 ∧ v6 = .int .i64 x6_2 ∧ Aside0 (der_Time.l0 kq x4_2 (Int.tmod a0 86400) x6_2 1 = some (r1,r2)) ∧ Aside0 (kq ≤ kj1) ∧ Aside0 (Below w.heap.size w w'))
    case atStart => exact ⟨(wrap64 (Int.tdiv a0 86400)),(1970),(by first | rfl | (simp; done) | (simp [*]; done) | (simp [*,wrap64]; done)),(by first | rfl | (simp; done) | (simp [*]; done) | (simp [*,wrap64]; done)),H',⟨Nat.le_refl _⟩,⟨by repeat (first | (with_reducible first | exact HB.out | apply below_alloc | apply pw_below_drewN | apply below_drew1) | exact HB.out)⟩⟩
    case round =>
     clear H'
     try clear c1
     try clear p2
     try clear c3
     try clear c3b0
     try clear c4
     try clear p2
     obtain ⟨x4_2,x6_2,rfl,rfl,HA,HK2,HB⟩ := hrel
     cases gk with
     | zero => exact absurd HA.out (by simp [der_Time.l0])
     | succ k2 =>
      have H := HA.out
      clear HA
      simp only [der_Time.l0] at H
      replace H := Option.bind_eq_some_iff.mp H
      obtain ⟨t177,A50,H⟩ := H
      replace H : (if x4_2 ≥ t177 then ((der_yearDays.f x6_2).bind fun t178 => (der_Time.l0 k2 (wrap64 (x4_2 - t178)) (Int.tmod a0 86400) (wrap64 (x6_2 + 1)) 1)) else (der_Time.l1 k2 x4_2 (Int.tmod a0 86400) x6_2 1)) = some (r1,r2) := H
      have A5 := Aside0.mk A50
      clear A50
      by_cases c6 : x4_2 ≥ t177
      ·rw [if_pos c6] at H
       have c6b0 : decide (t177 ≤ x4_2) = true := decide_eq_true c6
       clear c6
       replace H := Option.bind_eq_some_iff.mp H
       obtain ⟨t178,A70,H⟩ := H
       replace H : (der_Time.l0 k2 (wrap64 (x4_2 - t178)) (Int.tmod a0 86400) (wrap64 (x6_2 + 1)) 1) = some (r1,r2) := H
       have A7 := Aside0.mk A70
       clear A70
       have H' := Aside0.mk H
       clear H
       go_wp2_with (first | ((with_reducible refine gate_callee (f := 22) rfl ?_); refine goesL_ (some 23) rfl rfl Try.func22 (by kernel_rfl) rfl #[.int .i64 x6_2] rfl (by (try simp only [List.map_toArray,List.map_cons,List.map_nil]); first | done | rfl | (simp only [List.length_drop,List.length_take]; rfl)) ?_; (with_reducible refine (der_yearDays.calls x6_2 t177 _ A5.out).mono ?_); rintro e w' ⟨rfl,⟨nd,rfl⟩⟩; refine ⟨_,rfl,?_⟩) | ((with_reducible refine gate_callee (f := 22) rfl ?_); refine goesL_ (some 29) rfl rfl Try.func22 (by kernel_rfl) rfl #[.int .i64 x6_2] rfl (by (try simp only [List.map_toArray,List.map_cons,List.map_nil]); first | done | rfl | (simp only [List.length_drop,List.length_take]; rfl)) ?_; (with_reducible refine (der_yearDays.calls x6_2 t178 _ A7.out).mono ?_); rintro e w' ⟨rfl,⟨nd,rfl⟩⟩; refine ⟨_,rfl,?_⟩))
       go_roundg k2
       case measure => have := HJ1.out; have := HK2.out; omega
       case rel => exact ⟨(wrap64 (x4_2 - t178)),(wrap64 (x6_2 + 1)),(by first | rfl | (simp; done) | (simp [*]; done) | (simp [*,wrap64]; done)),(by first | rfl | (simp; done) | (simp [*]; done) | (simp [*,wrap64]; done)),H',⟨by have := HJ1.out; have := HK2.out; omega⟩,⟨by repeat (first | (with_reducible first | exact HB.out | apply below_alloc | apply pw_below_drewN | apply below_drew1) | exact HB.out)⟩⟩
      ·rw [if_neg c6] at H
       have c6b0 : decide (t177 ≤ x4_2) = false := decide_eq_false c6
       clear c6
       have H' := Aside0.mk H
       clear H
       go_wp2_with (first | ((with_reducible refine gate_callee (f := 22) rfl ?_); refine goesL_ (some 23) rfl rfl Try.func22 (by kernel_rfl) rfl #[.int .i64 x6_2] rfl (by (try simp only [List.map_toArray,List.map_cons,List.map_nil]); first | done | rfl | (simp only [List.length_drop,List.length_take]; rfl)) ?_; (with_reducible refine (der_yearDays.calls x6_2 t177 _ A5.out).mono ?_); rintro e w' ⟨rfl,⟨nd,rfl⟩⟩; refine ⟨_,rfl,?_⟩))
       go_loopg [4,7] k2 (fun kq v4 v7 w' => ∃ (x4_3 : Int) (x7_3 : Int),v4 = .int .i64 x4_3 ∧ v7 = .int .i64 x7_3 ∧ Aside0 (der_Time.l1 kq x4_3 (Int.tmod a0 86400) x6_2 x7_3 = some (r1,r2)) ∧ Aside0 (kq ≤ k2) ∧ Aside0 (Below w.heap.size w w'))
       case atStart => exact ⟨(x4_2),(1),(by first | rfl | (simp; done) | (simp [*]; done) | (simp [*,wrap64]; done)),(by first | rfl | (simp; done) | (simp [*]; done) | (simp [*,wrap64]; done)),H',⟨Nat.le_refl _⟩,⟨by repeat (first | (with_reducible first | exact HB.out | apply below_alloc | apply pw_below_drewN | apply below_drew1) | exact HB.out)⟩⟩
       case round =>
        clear H'
        try clear c1
        try clear c2
        try clear p2
        try clear c3
        try clear c3b0
        try clear c4
        try clear c6
        try clear c6b0
        try clear p6
        try clear p2
        obtain ⟨x4_3,x7_3,rfl,rfl,HA,HK3,HB⟩ := hrel
        cases gk with
        | zero => exact absurd HA.out (by simp [der_Time.l1])
        | succ k3 =>
         have H := HA.out
         clear HA
         simp only [der_Time.l1] at H
         replace H := Option.bind_eq_some_iff.mp H
         obtain ⟨t179,A80,H⟩ := H
         replace H : (if x4_3 ≥ t179 then ((der_days.f x6_2 x7_3).bind fun t180 => (der_Time.l1 k3 (wrap64 (x4_3 - t180)) (Int.tmod a0 86400) x6_2 (wrap64 (x7_3 + 1)))) else (der_Time.l2 k3 ([] : List Int) 0 (Int.tmod x6_2 100) x7_3 (wrap64 (x4_3 + 1)) (wrap64 (Int.tdiv (Int.tmod a0 86400) 3600)) (Int.tmod (wrap64 (Int.tdiv (Int.tmod a0 86400) 60)) 60) (Int.tmod (Int.tmod a0 86400) 60))) = some (r1,r2) := H
         have A8 := Aside0.mk A80
         clear A80
         by_cases c9 : x4_3 ≥ t179
         ·rw [if_pos c9] at H
          have c9b0 : decide (t179 ≤ x4_3) = true := decide_eq_true c9
          clear c9
          replace H := Option.bind_eq_some_iff.mp H
          obtain ⟨t180,A100,H⟩ := H
          replace H : (der_Time.l1 k3 (wrap64 (x4_3 - t180)) (Int.tmod a0 86400) x6_2 (wrap64 (x7_3 + 1))) = some (r1,r2) := H
          have A10 := Aside0.mk A100
          clear A100
          have H' := Aside0.mk H
          clear H
          go_wp2_with (first | ((with_reducible refine gate_callee (f := 23) rfl ?_); refine goesL_ (some 34) rfl rfl Try.func23 (by kernel_rfl) rfl #[.int .i64 x6_2,.int .i64 x7_3] rfl (by (try simp only [List.map_toArray,List.map_cons,List.map_nil]); first | done | rfl | (simp only [List.length_drop,List.length_take]; rfl)) ?_; (with_reducible refine (der_days.calls x6_2 x7_3 t179 _ A8.out).mono ?_); rintro e w' ⟨rfl,⟨nd,rfl⟩⟩; refine ⟨_,rfl,?_⟩) | ((with_reducible refine gate_callee (f := 23) rfl ?_); refine goesL_ (some 41) rfl rfl Try.func23 (by kernel_rfl) rfl #[.int .i64 x6_2,.int .i64 x7_3] rfl (by (try simp only [List.map_toArray,List.map_cons,List.map_nil]); first | done | rfl | (simp only [List.length_drop,List.length_take]; rfl)) ?_; (with_reducible refine (der_days.calls x6_2 x7_3 t180 _ A10.out).mono ?_); rintro e w' ⟨rfl,⟨nd,rfl⟩⟩; refine ⟨_,rfl,?_⟩))
          go_roundg k3
          case measure => have := HJ1.out; have := HK2.out; have := HK3.out; omega
          case rel => exact ⟨(wrap64 (x4_3 - t180)),(wrap64 (x7_3 + 1)),(by first | rfl | (simp; done) | (simp [*]; done) | (simp [*,wrap64]; done)),(by first | rfl | (simp; done) | (simp [*]; done) | (simp [*,wrap64]; done)),H',⟨by have := HJ1.out; have := HK2.out; have := HK3.out; omega⟩,⟨by repeat (first | (with_reducible first | exact HB.out | apply below_alloc | apply pw_below_drewN | apply below_drew1) | exact HB.out)⟩⟩
         ·rw [if_neg c9] at H
          have c9b0 : decide (t179 ≤ x4_3) = false := decide_eq_false c9
          clear c9
          have H' := Aside0.mk H
          clear H
          go_wp2_with (first | ((with_reducible refine gate_callee (f := 23) rfl ?_); refine goesL_ (some 34) rfl rfl Try.func23 (by kernel_rfl) rfl #[.int .i64 x6_2,.int .i64 x7_3] rfl (by (try simp only [List.map_toArray,List.map_cons,List.map_nil]); first | done | rfl | (simp only [List.length_drop,List.length_take]; rfl)) ?_; (with_reducible refine (der_days.calls x6_2 x7_3 t179 _ A8.out).mono ?_); rintro e w' ⟨rfl,⟨nd,rfl⟩⟩; refine ⟨_,rfl,?_⟩))
          go_loopg [8,56] k3 (fun kq v8 v56 w' => ∃ (x8_4 : List Int) (x56_4 : Int),v56 = .int .i64 x56_4 ∧ Aside0 (der_Time.l2 kq x8_4 x56_4 (Int.tmod x6_2 100) x7_3 (wrap64 (x4_3 + 1)) (wrap64 (Int.tdiv (Int.tmod a0 86400) 3600)) (Int.tmod (wrap64 (Int.tdiv (Int.tmod a0 86400) 60)) 60) (Int.tmod (Int.tmod a0 86400) 60) = some (r1,r2)) ∧ Aside0 (kq ≤ k3) ∧ Aside0 (Kd.R (Kd.int .u8) 5 w' w.heap.size (fun _ => True) v8 x8_4) ∧ Aside0 (Below w.heap.size w w'))
          case atStart => exact ⟨(([] : List Int)),(0),(by first | rfl | (simp; done) | (simp [*]; done) | (simp [*,wrap64]; done)),H',⟨Nat.le_refl _⟩,⟨by first | exact Kd.R_nil _ _ _ _ _ | exact Kd.N_nil _ _ _ _ _ | exact Kd.V_nil _ _ _ _ _ | exact Kd.Q_nil _ _ _ _ _ | exact Kd.S_nil _ _ _ _ _⟩,⟨by repeat (first | (with_reducible first | exact HB.out | apply below_alloc | apply pw_below_drewN | apply below_drew1) | exact HB.out)⟩⟩
          case round =>
           clear H'
           try clear c1
           try clear c2
           try clear p2
           try clear c3
           try clear c3b0
           try clear c4
           try clear c6
           try clear c6b0
           try clear p6
           try clear c9
           try clear c9b0
           try clear p2
           try clear p6
           obtain ⟨x8_4,x56_4,rfl,HA,HK4,HO_8,HB⟩ := hrel
           cases gk with
           | zero => exact absurd HA.out (by simp [der_Time.l2])
           | succ k4 =>
            have H := HA.out
            clear HA
            simp only [der_Time.l2] at H
            by_cases c11 : x56_4 < 6
            ·rw [if_pos c11] at H
             have c11b0 : decide (x56_4 < 6) = true := decide_eq_true c11
             clear c11
             by_cases c12 : x56_4 = 0
             ·rw [if_pos c12] at H
              have c12b0 : (x56_4 == 0) = true := beq_iff_eq.mpr c12
              have c12b1 : (x56_4 != 0) = false := bne_eq_false_iff_eq.mpr c12
              obtain ⟨y181,hy181⟩ : ∃ y_ : List Int,y_ = (([(wrap64 (48 + (wrap64 (Int.tdiv (Int.tmod x6_2 100) 10)))) % 256,(wrap64 (48 + (Int.tmod (Int.tmod x6_2 100) 10))) % 256] : List Int)) := ⟨_,rfl⟩
              replace H : (if x8_4.length + y181.length < 140737488355328 then (der_Time.l2 k4 (x8_4 ++ y181) (wrap64 (x56_4 + 1)) (Int.tmod x6_2 100) x7_3 (wrap64 (x4_3 + 1)) (wrap64 (Int.tdiv (Int.tmod a0 86400) 3600)) (Int.tmod (wrap64 (Int.tdiv (Int.tmod a0 86400) 60)) 60) (Int.tmod (Int.tmod a0 86400) 60)) else (none)) = some (r1,r2) := by first | (rw [hy181]; with_reducible exact H) | (have H2_ := (Option.bind_some _ _).symm.trans H; rw [hy181]; with_reducible exact H2_) | (have H2_ := (Option.bind_some _ _).symm.trans H; with_reducible exact H2_) | with_reducible exact H | (rw [hy181]; exact H) | exact H
              have Ny181 := Aside0.mk hy181
              clear hy181
              by_cases c13 : x8_4.length + y181.length < 140737488355328
              ·rw [if_pos c13] at H
               have LMc13 := Aside0.mk c13
               clear c13
               obtain ⟨y184,hy184⟩ : ∃ y_ : List Int,y_ = (x8_4 ++ y181) := ⟨_,rfl⟩
               replace H : (der_Time.l2 k4 y184 (wrap64 (x56_4 + 1)) (Int.tmod x6_2 100) x7_3 (wrap64 (x4_3 + 1)) (wrap64 (Int.tdiv (Int.tmod a0 86400) 3600)) (Int.tmod (wrap64 (Int.tdiv (Int.tmod a0 86400) 60)) 60) (Int.tmod (Int.tmod a0 86400) 60)) = some (r1,r2) := by first | (rw [hy184]; with_reducible exact H) | (have H2_ := (Option.bind_some _ _).symm.trans H; rw [hy184]; with_reducible exact H2_) | (have H2_ := (Option.bind_some _ _).symm.trans H; with_reducible exact H2_) | with_reducible exact H | (rw [hy184]; exact H) | exact H
               have Ny184 := Aside0.mk hy184
               clear hy184
               have H' := Aside0.mk H
               clear H
               go_wp2_with (first | ((with_reducible refine gate_dst (N := 68) rfl ?_); refine Kd.R_lit (Kd.int .u8) _ 5 ?hg (N := 68) ?hd (xs := ([(wrap64 (48 + (wrap64 (Int.tdiv (Int.tmod x6_2 100) 10)))) % 256,(wrap64 (48 + (Int.tmod (Int.tmod x6_2 100) 10))) % 256] : List Int)) (inner := [.int .u8 ((wrap64 (48 + (wrap64 (Int.tdiv (Int.tmod x6_2 100) 10)))) % 256),.int .u8 ((wrap64 (48 + (Int.tmod (Int.tmod x6_2 100) 10))) % 256)]) (ok := fun _ => True) (okp := fun _ => True) ?hr ?hp (fun _ hk => hk) trivial (Below.refl _ _) (Nat.le_refl _) (by simp) ?_; (case hd => rfl); (case hg => rfl); (case hr => first | (go_simp; done) | (go_simp; rfl)); (case hp => exact (Reps.one (show Kd.M (Kd.int .u8) _ _ _ ((wrap64 (48 + (wrap64 (Int.tdiv (Int.tmod x6_2 100) 10)))) % 256) [.int .u8 ((wrap64 (48 + (wrap64 (Int.tdiv (Int.tmod x6_2 100) 10)))) % 256)] from rfl) (Reps.one (show Kd.M (Kd.int .u8) _ _ _ ((wrap64 (48 + (Int.tmod (Int.tmod x6_2 100) 10))) % 256) [.int .u8 ((wrap64 (48 + (Int.tmod (Int.tmod x6_2 100) 10))) % 256)] from rfl) (Reps.none _ _)))); intro v182 w14 ho15 hb hg_ hnew_; clear hg_ hnew_; (first | rw [← Ny181.out] at ho15 | (simp only [Int.reduceToNat] at ho15; rw [← Ny181.out] at ho15)); have n0_ := Aside0.mk (Kd.R_elder' (by (with_reducible repeat (first | apply Kd.R_alloc | apply Kd.R_drewN | apply Kd.R_drew)); exact HO_8.out) (Kd.R_base ho15) hb); have n1_ := Aside0.mk (Kd.R_lower (Kd.R_new' ho15 (Kd.R_lt (by (with_reducible repeat (first | apply Kd.R_alloc | apply Kd.R_drewN | apply Kd.R_drew)); exact HO_8.out))) (below_size (by repeat (first | (with_reducible first | exact HB.out | apply below_alloc | apply pw_below_drewN | apply below_drew1) | exact HB.out)))); have n2_ := Aside0.mk (below_step (by repeat (first | (with_reducible first | exact HB.out | apply below_alloc | apply pw_below_drewN | apply below_drew1) | exact HB.out)) hb); clear HO_8; clear HB; have HO_8 := n0_; have HO183 := n1_; have HB := n2_; clear n0_ n1_ n2_; clear hb ho15; obtain ⟨Ao17,co17,eo17⟩ := Kd.R_slice HO183.out; subst eo17) | ((with_reducible refine gate_builtin (b := .append) (xs := #[.tmp 59,.tmp 68]) rfl ?_); at_builtin; refine Kd.R_append_rows (Kd.int .u8) (w0 := w) w.heap.size rfl (.tmp 59) (.tmp 68) 38 5 (.int .u8 0) 1 rfl Try.underlying38 info5 rfl (by decide) (by omega) u8 x8_4 y181 _ _ _ (fun k_ => some k_ ≠ (.slice Ao17 y181.length co17 : Value).ownBlock) (fun _ => False) rfl rfl ?aO ?aR (fun _ _ h => h) (fun _ h => h.elim) ?aF ?aB ?aS ?aL ?_; (case aR => repeat (first | exact (Kd.R_reads' HO183.out).2.2 | (with_reducible refine Kd.C_alloc ?_ _) | (with_reducible refine Kd.C_drewN ?_ _) | (with_reducible refine Kd.C_drew ?_))); (case aB => exact (by repeat (first | (with_reducible first | exact HB.out | apply below_alloc | apply pw_below_drewN | apply below_drew1) | exact HB.out))); (case aF => exact (fun k_ hk => Kd.fresh' (Kd.R_lt (by (with_reducible repeat (first | apply Kd.R_alloc | apply Kd.R_drewN | apply Kd.R_drew)); exact HO183.out)) k_ hk)); (case aO => exact (by (with_reducible repeat (first | apply Kd.R_alloc | apply Kd.R_drewN | apply Kd.R_drew)); exact Kd.R_mono HO_8.out (fun _ hk => hk.2))); (case aS => exact (below_size (by repeat (first | (with_reducible first | exact HB.out | apply below_alloc | apply pw_below_drewN | apply below_drew1) | exact HB.out)))); (case aL => have := LMc13.out; omega); intro v185 w16 ho hb hg hat; rw [← Ny184.out] at ho; have n0_ := Aside0.mk (Kd.R_after (ok := (fun _ => True)) (by (with_reducible repeat (first | apply Kd.R_alloc | apply Kd.R_drewN | apply Kd.R_drew)); exact HO183.out) hg hat); have n1_ := Aside0.mk (hb); have n2_ := Aside0.mk (ho); clear HO183; clear HB; clear HO_8; have HO183 := n0_; have HB := n1_; have HO186 := n2_; clear n0_ n1_ n2_; clear ho hb hg hat))
               go_roundg k4
               case measure => have := HJ1.out; have := HK2.out; have := HK3.out; have := HK4.out; omega
               case rel => exact ⟨(y184),(wrap64 (x56_4 + 1)),(by first | rfl | (simp; done) | (simp [*]; done) | (simp [*,wrap64]; done)),H',⟨by have := HJ1.out; have := HK2.out; have := HK3.out; have := HK4.out; omega⟩,⟨by (with_reducible repeat (first | apply Kd.R_alloc | apply Kd.R_drewN | apply Kd.R_drew)); exact Kd.R_mono HO186.out (fun _ hk => trivial)⟩,⟨by repeat (first | (with_reducible first | exact HB.out | apply below_alloc | apply pw_below_drewN | apply below_drew1) | exact HB.out)⟩⟩
              ·rw [if_neg c13] at H
               exact absurd H (by simp)
             ·rw [if_neg c12] at H
              have c12b0 : (x56_4 == 0) = false := beq_eq_false_iff_ne.mpr c12
              have c12b1 : (x56_4 != 0) = true := bne_iff_ne.mpr c12
              by_cases c18 : x56_4 = 1
              ·rw [if_pos c18] at H
               have c18b0 : (x56_4 == 1) = true := beq_iff_eq.mpr c18
               have c18b1 : (x56_4 != 1) = false := bne_eq_false_iff_eq.mpr c18
               obtain ⟨y187,hy187⟩ : ∃ y_ : List Int,y_ = (([(wrap64 (48 + (wrap64 (Int.tdiv x7_3 10)))) % 256,(wrap64 (48 + (Int.tmod x7_3 10))) % 256] : List Int)) := ⟨_,rfl⟩
               replace H : (if x8_4.length + y187.length < 140737488355328 then (der_Time.l2 k4 (x8_4 ++ y187) (wrap64 (x56_4 + 1)) (Int.tmod x6_2 100) x7_3 (wrap64 (x4_3 + 1)) (wrap64 (Int.tdiv (Int.tmod a0 86400) 3600)) (Int.tmod (wrap64 (Int.tdiv (Int.tmod a0 86400) 60)) 60) (Int.tmod (Int.tmod a0 86400) 60)) else (none)) = some (r1,r2) := by first | (rw [hy187]; with_reducible exact H) | (have H2_ := (Option.bind_some _ _).symm.trans H; rw [hy187]; with_reducible exact H2_) | (have H2_ := (Option.bind_some _ _).symm.trans H; with_reducible exact H2_) | with_reducible exact H | (rw [hy187]; exact H) | exact H
               have Ny187 := Aside0.mk hy187
               clear hy187
               by_cases c19 : x8_4.length + y187.length < 140737488355328
               ·rw [if_pos c19] at H
                have LMc19 := Aside0.mk c19
                clear c19
                obtain ⟨y190,hy190⟩ : ∃ y_ : List Int,y_ = (x8_4 ++ y187) := ⟨_,rfl⟩
                replace H : (der_Time.l2 k4 y190 (wrap64 (x56_4 + 1)) (Int.tmod x6_2 100) x7_3 (wrap64 (x4_3 + 1)) (wrap64 (Int.tdiv (Int.tmod a0 86400) 3600)) (Int.tmod (wrap64 (Int.tdiv (Int.tmod a0 86400) 60)) 60) (Int.tmod (Int.tmod a0 86400) 60)) = some (r1,r2) := by first | (rw [hy190]; with_reducible exact H) | (have H2_ := (Option.bind_some _ _).symm.trans H; rw [hy190]; with_reducible exact H2_) | (have H2_ := (Option.bind_some _ _).symm.trans H; with_reducible exact H2_) | with_reducible exact H | (rw [hy190]; exact H) | exact H
                have Ny190 := Aside0.mk hy190
                clear hy190
                have H' := Aside0.mk H
                clear H
                go_wp2_with (first | ((with_reducible refine gate_dst (N := 68) rfl ?_); refine Kd.R_lit (Kd.int .u8) _ 5 ?hg (N := 68) ?hd (xs := ([(wrap64 (48 + (wrap64 (Int.tdiv x7_3 10)))) % 256,(wrap64 (48 + (Int.tmod x7_3 10))) % 256] : List Int)) (inner := [.int .u8 ((wrap64 (48 + (wrap64 (Int.tdiv x7_3 10)))) % 256),.int .u8 ((wrap64 (48 + (Int.tmod x7_3 10))) % 256)]) (ok := fun _ => True) (okp := fun _ => True) ?hr ?hp (fun _ hk => hk) trivial (Below.refl _ _) (Nat.le_refl _) (by simp) ?_; (case hd => rfl); (case hg => rfl); (case hr => first | (go_simp; done) | (go_simp; rfl)); (case hp => exact (Reps.one (show Kd.M (Kd.int .u8) _ _ _ ((wrap64 (48 + (wrap64 (Int.tdiv x7_3 10)))) % 256) [.int .u8 ((wrap64 (48 + (wrap64 (Int.tdiv x7_3 10)))) % 256)] from rfl) (Reps.one (show Kd.M (Kd.int .u8) _ _ _ ((wrap64 (48 + (Int.tmod x7_3 10))) % 256) [.int .u8 ((wrap64 (48 + (Int.tmod x7_3 10))) % 256)] from rfl) (Reps.none _ _)))); intro v188 w20 ho21 hb hg_ hnew_; clear hg_ hnew_; (first | rw [← Ny187.out] at ho21 | (simp only [Int.reduceToNat] at ho21; rw [← Ny187.out] at ho21)); have n0_ := Aside0.mk (Kd.R_elder' (by (with_reducible repeat (first | apply Kd.R_alloc | apply Kd.R_drewN | apply Kd.R_drew)); exact HO_8.out) (Kd.R_base ho21) hb); have n1_ := Aside0.mk (Kd.R_lower (Kd.R_new' ho21 (Kd.R_lt (by (with_reducible repeat (first | apply Kd.R_alloc | apply Kd.R_drewN | apply Kd.R_drew)); exact HO_8.out))) (below_size (by repeat (first | (with_reducible first | exact HB.out | apply below_alloc | apply pw_below_drewN | apply below_drew1) | exact HB.out)))); have n2_ := Aside0.mk (below_step (by repeat (first | (with_reducible first | exact HB.out | apply below_alloc | apply pw_below_drewN | apply below_drew1) | exact HB.out)) hb); clear HO_8; clear HB; have HO_8 := n0_; have HO189 := n1_; have HB := n2_; clear n0_ n1_ n2_; clear hb ho21; obtain ⟨Ao23,co23,eo23⟩ := Kd.R_slice HO189.out; subst eo23) | ((with_reducible refine gate_builtin (b := .append) (xs := #[.tmp 59,.tmp 68]) rfl ?_); at_builtin; refine Kd.R_append_rows (Kd.int .u8) (w0 := w) w.heap.size rfl (.tmp 59) (.tmp 68) 38 5 (.int .u8 0) 1 rfl Try.underlying38 info5 rfl (by decide) (by omega) u8 x8_4 y187 _ _ _ (fun k_ => some k_ ≠ (.slice Ao23 y187.length co23 : Value).ownBlock) (fun _ => False) rfl rfl ?aO ?aR (fun _ _ h => h) (fun _ h => h.elim) ?aF ?aB ?aS ?aL ?_; (case aR => repeat (first | exact (Kd.R_reads' HO189.out).2.2 | (with_reducible refine Kd.C_alloc ?_ _) | (with_reducible refine Kd.C_drewN ?_ _) | (with_reducible refine Kd.C_drew ?_))); (case aB => exact (by repeat (first | (with_reducible first | exact HB.out | apply below_alloc | apply pw_below_drewN | apply below_drew1) | exact HB.out))); (case aF => exact (fun k_ hk => Kd.fresh' (Kd.R_lt (by (with_reducible repeat (first | apply Kd.R_alloc | apply Kd.R_drewN | apply Kd.R_drew)); exact HO189.out)) k_ hk)); (case aO => exact (by (with_reducible repeat (first | apply Kd.R_alloc | apply Kd.R_drewN | apply Kd.R_drew)); exact Kd.R_mono HO_8.out (fun _ hk => hk.2))); (case aS => exact (below_size (by repeat (first | (with_reducible first | exact HB.out | apply below_alloc | apply pw_below_drewN | apply below_drew1) | exact HB.out)))); (case aL => have := LMc19.out; omega); intro v191 w22 ho hb hg hat; rw [← Ny190.out] at ho; have n0_ := Aside0.mk (Kd.R_after (ok := (fun _ => True)) (by (with_reducible repeat (first | apply Kd.R_alloc | apply Kd.R_drewN | apply Kd.R_drew)); exact HO189.out) hg hat); have n1_ := Aside0.mk (hb); have n2_ := Aside0.mk (ho); clear HO189; clear HB; clear HO_8; have HO189 := n0_; have HB := n1_; have HO192 := n2_; clear n0_ n1_ n2_; clear ho hb hg hat))
                go_roundg k4
                case measure => have := HJ1.out; have := HK2.out; have := HK3.out; have := HK4.out; omega
                case rel => exact ⟨(y190),(wrap64 (x56_4 + 1)),(by first | rfl | (simp; done) | (simp [*]; done) | (simp [*,wrap64]; done)),H',⟨by have := HJ1.out; have := HK2.out; have := HK3.out; have := HK4.out; omega⟩,⟨by (with_reducible repeat (first | apply Kd.R_alloc | apply Kd.R_drewN | apply Kd.R_drew)); exact Kd.R_mono HO192.out (fun _ hk => trivial)⟩,⟨by repeat (first | (with_reducible first | exact HB.out | apply below_alloc | apply pw_below_drewN | apply below_drew1) | exact HB.out)⟩⟩
               ·rw [if_neg c19] at H
                exact absurd H (by simp)
              ·rw [if_neg c18] at H
               have c18b0 : (x56_4 == 1) = false := beq_eq_false_iff_ne.mpr c18
               have c18b1 : (x56_4 != 1) = true := bne_iff_ne.mpr c18
               by_cases c24 : x56_4 = 2
               ·rw [if_pos c24] at H
                have c24b0 : (x56_4 == 2) = true := beq_iff_eq.mpr c24
                have c24b1 : (x56_4 != 2) = false := bne_eq_false_iff_eq.mpr c24
                obtain ⟨y193,hy193⟩ : ∃ y_ : List Int,y_ = (([(wrap64 (48 + (wrap64 (Int.tdiv (wrap64 (x4_3 + 1)) 10)))) % 256,(wrap64 (48 + (Int.tmod (wrap64 (x4_3 + 1)) 10))) % 256] : List Int)) := ⟨_,rfl⟩
                replace H : (if x8_4.length + y193.length < 140737488355328 then (der_Time.l2 k4 (x8_4 ++ y193) (wrap64 (x56_4 + 1)) (Int.tmod x6_2 100) x7_3 (wrap64 (x4_3 + 1)) (wrap64 (Int.tdiv (Int.tmod a0 86400) 3600)) (Int.tmod (wrap64 (Int.tdiv (Int.tmod a0 86400) 60)) 60) (Int.tmod (Int.tmod a0 86400) 60)) else (none)) = some (r1,r2) := by first | (rw [hy193]; with_reducible exact H) | (have H2_ := (Option.bind_some _ _).symm.trans H; rw [hy193]; with_reducible exact H2_) | (have H2_ := (Option.bind_some _ _).symm.trans H; with_reducible exact H2_) | with_reducible exact H | (rw [hy193]; exact H) | exact H
                have Ny193 := Aside0.mk hy193
                clear hy193
                by_cases c25 : x8_4.length + y193.length < 140737488355328
                ·rw [if_pos c25] at H
                 have LMc25 := Aside0.mk c25
                 clear c25
                 obtain ⟨y196,hy196⟩ : ∃ y_ : List Int,y_ = (x8_4 ++ y193) := ⟨_,rfl⟩
                 replace H : (der_Time.l2 k4 y196 (wrap64 (x56_4 + 1)) (Int.tmod x6_2 100) x7_3 (wrap64 (x4_3 + 1)) (wrap64 (Int.tdiv (Int.tmod a0 86400) 3600)) (Int.tmod (wrap64 (Int.tdiv (Int.tmod a0 86400) 60)) 60) (Int.tmod (Int.tmod a0 86400) 60)) = some (r1,r2) := by first | (rw [hy196]; with_reducible exact H) | (have H2_ := (Option.bind_some _ _).symm.trans H; rw [hy196]; with_reducible exact H2_) | (have H2_ := (Option.bind_some _ _).symm.trans H; with_reducible exact H2_) | with_reducible exact H | (rw [hy196]; exact H) | exact H
                 have Ny196 := Aside0.mk hy196
                 clear hy196
                 have H' := Aside0.mk H
                 clear H
                 go_wp2_with (first | ((with_reducible refine gate_dst (N := 68) rfl ?_); refine Kd.R_lit (Kd.int .u8) _ 5 ?hg (N := 68) ?hd (xs := ([(wrap64 (48 + (wrap64 (Int.tdiv (wrap64 (x4_3 + 1)) 10)))) % 256,(wrap64 (48 + (Int.tmod (wrap64 (x4_3 + 1)) 10))) % 256] : List Int)) (inner := [.int .u8 ((wrap64 (48 + (wrap64 (Int.tdiv (wrap64 (x4_3 + 1)) 10)))) % 256),.int .u8 ((wrap64 (48 + (Int.tmod (wrap64 (x4_3 + 1)) 10))) % 256)]) (ok := fun _ => True) (okp := fun _ => True) ?hr ?hp (fun _ hk => hk) trivial (Below.refl _ _) (Nat.le_refl _) (by simp) ?_; (case hd => rfl); (case hg => rfl); (case hr => first | (go_simp; done) | (go_simp; rfl)); (case hp => exact (Reps.one (show Kd.M (Kd.int .u8) _ _ _ ((wrap64 (48 + (wrap64 (Int.tdiv (wrap64 (x4_3 + 1)) 10)))) % 256) [.int .u8 ((wrap64 (48 + (wrap64 (Int.tdiv (wrap64 (x4_3 + 1)) 10)))) % 256)] from rfl) (Reps.one (show Kd.M (Kd.int .u8) _ _ _ ((wrap64 (48 + (Int.tmod (wrap64 (x4_3 + 1)) 10))) % 256) [.int .u8 ((wrap64 (48 + (Int.tmod (wrap64 (x4_3 + 1)) 10))) % 256)] from rfl) (Reps.none _ _)))); intro v194 w26 ho27 hb hg_ hnew_; clear hg_ hnew_; (first | rw [← Ny193.out] at ho27 | (simp only [Int.reduceToNat] at ho27; rw [← Ny193.out] at ho27)); have n0_ := Aside0.mk (Kd.R_elder' (by (with_reducible repeat (first | apply Kd.R_alloc | apply Kd.R_drewN | apply Kd.R_drew)); exact HO_8.out) (Kd.R_base ho27) hb); have n1_ := Aside0.mk (Kd.R_lower (Kd.R_new' ho27 (Kd.R_lt (by (with_reducible repeat (first | apply Kd.R_alloc | apply Kd.R_drewN | apply Kd.R_drew)); exact HO_8.out))) (below_size (by repeat (first | (with_reducible first | exact HB.out | apply below_alloc | apply pw_below_drewN | apply below_drew1) | exact HB.out)))); have n2_ := Aside0.mk (below_step (by repeat (first | (with_reducible first | exact HB.out | apply below_alloc | apply pw_below_drewN | apply below_drew1) | exact HB.out)) hb); clear HO_8; clear HB; have HO_8 := n0_; have HO195 := n1_; have HB := n2_; clear n0_ n1_ n2_; clear hb ho27; obtain ⟨Ao29,co29,eo29⟩ := Kd.R_slice HO195.out; subst eo29) | ((with_reducible refine gate_builtin (b := .append) (xs := #[.tmp 59,.tmp 68]) rfl ?_); at_builtin; refine Kd.R_append_rows (Kd.int .u8) (w0 := w) w.heap.size rfl (.tmp 59) (.tmp 68) 38 5 (.int .u8 0) 1 rfl Try.underlying38 info5 rfl (by decide) (by omega) u8 x8_4 y193 _ _ _ (fun k_ => some k_ ≠ (.slice Ao29 y193.length co29 : Value).ownBlock) (fun _ => False) rfl rfl ?aO ?aR (fun _ _ h => h) (fun _ h => h.elim) ?aF ?aB ?aS ?aL ?_; (case aR => repeat (first | exact (Kd.R_reads' HO195.out).2.2 | (with_reducible refine Kd.C_alloc ?_ _) | (with_reducible refine Kd.C_drewN ?_ _) | (with_reducible refine Kd.C_drew ?_))); (case aB => exact (by repeat (first | (with_reducible first | exact HB.out | apply below_alloc | apply pw_below_drewN | apply below_drew1) | exact HB.out))); (case aF => exact (fun k_ hk => Kd.fresh' (Kd.R_lt (by (with_reducible repeat (first | apply Kd.R_alloc | apply Kd.R_drewN | apply Kd.R_drew)); exact HO195.out)) k_ hk)); (case aO => exact (by (with_reducible repeat (first | apply Kd.R_alloc | apply Kd.R_drewN | apply Kd.R_drew)); exact Kd.R_mono HO_8.out (fun _ hk => hk.2))); (case aS => exact (below_size (by repeat (first | (with_reducible first | exact HB.out | apply below_alloc | apply pw_below_drewN | apply below_drew1) | exact HB.out)))); (case aL => have := LMc25.out; omega); intro v197 w28 ho hb hg hat; rw [← Ny196.out] at ho; have n0_ := Aside0.mk (Kd.R_after (ok := (fun _ => True)) (by (with_reducible repeat (first | apply Kd.R_alloc | apply Kd.R_drewN | apply Kd.R_drew)); exact HO195.out) hg hat); have n1_ := Aside0.mk (hb); have n2_ := Aside0.mk (ho); clear HO195; clear HB; clear HO_8; have HO195 := n0_; have HB := n1_; have HO198 := n2_; clear n0_ n1_ n2_; clear ho hb hg hat))
                 go_roundg k4
                 case measure => have := HJ1.out; have := HK2.out; have := HK3.out; have := HK4.out; omega
                 case rel => exact ⟨(y196),(wrap64 (x56_4 + 1)),(by first | rfl | (simp; done) | (simp [*]; done) | (simp [*,wrap64]; done)),H',⟨by have := HJ1.out; have := HK2.out; have := HK3.out; have := HK4.out; omega⟩,⟨by (with_reducible repeat (first | apply Kd.R_alloc | apply Kd.R_drewN | apply Kd.R_drew)); exact Kd.R_mono HO198.out (fun _ hk => trivial)⟩,⟨by repeat (first | (with_reducible first | exact HB.out | apply below_alloc | apply pw_below_drewN | apply below_drew1) | exact HB.out)⟩⟩
                ·rw [if_neg c25] at H
                 exact absurd H (by simp)
               ·rw [if_neg c24] at H
                have c24b0 : (x56_4 == 2) = false := beq_eq_false_iff_ne.mpr c24
                have c24b1 : (x56_4 != 2) = true := bne_iff_ne.mpr c24
                by_cases c30 : x56_4 = 3
                ·rw [if_pos c30] at H
                 have c30b0 : (x56_4 == 3) = true := beq_iff_eq.mpr c30
                 have c30b1 : (x56_4 != 3) = false := bne_eq_false_iff_eq.mpr c30
                 obtain ⟨y199,hy199⟩ : ∃ y_ : List Int,y_ = (([(wrap64 (48 + (wrap64 (Int.tdiv (wrap64 (Int.tdiv (Int.tmod a0 86400) 3600)) 10)))) % 256,(wrap64 (48 + (Int.tmod (wrap64 (Int.tdiv (Int.tmod a0 86400) 3600)) 10))) % 256] : List Int)) := ⟨_,rfl⟩
                 replace H : (if x8_4.length + y199.length < 140737488355328 then (der_Time.l2 k4 (x8_4 ++ y199) (wrap64 (x56_4 + 1)) (Int.tmod x6_2 100) x7_3 (wrap64 (x4_3 + 1)) (wrap64 (Int.tdiv (Int.tmod a0 86400) 3600)) (Int.tmod (wrap64 (Int.tdiv (Int.tmod a0 86400) 60)) 60) (Int.tmod (Int.tmod a0 86400) 60)) else (none)) = some (r1,r2) := by first | (rw [hy199]; with_reducible exact H) | (have H2_ := (Option.bind_some _ _).symm.trans H; rw [hy199]; with_reducible exact H2_) | (have H2_ := (Option.bind_some _ _).symm.trans H; with_reducible exact H2_) | with_reducible exact H | (rw [hy199]; exact H) | exact H
                 have Ny199 := Aside0.mk hy199
                 clear hy199
                 by_cases c31 : x8_4.length + y199.length < 140737488355328
                 ·rw [if_pos c31] at H
                  have LMc31 := Aside0.mk c31
                  clear c31
                  obtain ⟨y202,hy202⟩ : ∃ y_ : List Int,y_ = (x8_4 ++ y199) := ⟨_,rfl⟩
                  replace H : (der_Time.l2 k4 y202 (wrap64 (x56_4 + 1)) (Int.tmod x6_2 100) x7_3 (wrap64 (x4_3 + 1)) (wrap64 (Int.tdiv (Int.tmod a0 86400) 3600)) (Int.tmod (wrap64 (Int.tdiv (Int.tmod a0 86400) 60)) 60) (Int.tmod (Int.tmod a0 86400) 60)) = some (r1,r2) := by first | (rw [hy202]; with_reducible exact H) | (have H2_ := (Option.bind_some _ _).symm.trans H; rw [hy202]; with_reducible exact H2_) | (have H2_ := (Option.bind_some _ _).symm.trans H; with_reducible exact H2_) | with_reducible exact H | (rw [hy202]; exact H) | exact H
                  have Ny202 := Aside0.mk hy202
                  clear hy202
                  have H' := Aside0.mk H
                  clear H
                  go_wp2_with (first | ((with_reducible refine gate_dst (N := 68) rfl ?_); refine Kd.R_lit (Kd.int .u8) _ 5 ?hg (N := 68) ?hd (xs := ([(wrap64 (48 + (wrap64 (Int.tdiv (wrap64 (Int.tdiv (Int.tmod a0 86400) 3600)) 10)))) % 256,(wrap64 (48 + (Int.tmod (wrap64 (Int.tdiv (Int.tmod a0 86400) 3600)) 10))) % 256] : List Int)) (inner := [.int .u8 ((wrap64 (48 + (wrap64 (Int.tdiv (wrap64 (Int.tdiv (Int.tmod a0 86400) 3600)) 10)))) % 256),.int .u8 ((wrap64 (48 + (Int.tmod (wrap64 (Int.tdiv (Int.tmod a0 86400) 3600)) 10))) % 256)]) (ok := fun _ => True) (okp := fun _ => True) ?hr ?hp (fun _ hk => hk) trivial (Below.refl _ _) (Nat.le_refl _) (by simp) ?_; (case hd => rfl); (case hg => rfl); (case hr => first | (go_simp; done) | (go_simp; rfl)); (case hp => exact (Reps.one (show Kd.M (Kd.int .u8) _ _ _ ((wrap64 (48 + (wrap64 (Int.tdiv (wrap64 (Int.tdiv (Int.tmod a0 86400) 3600)) 10)))) % 256) [.int .u8 ((wrap64 (48 + (wrap64 (Int.tdiv (wrap64 (Int.tdiv (Int.tmod a0 86400) 3600)) 10)))) % 256)] from rfl) (Reps.one (show Kd.M (Kd.int .u8) _ _ _ ((wrap64 (48 + (Int.tmod (wrap64 (Int.tdiv (Int.tmod a0 86400) 3600)) 10))) % 256) [.int .u8 ((wrap64 (48 + (Int.tmod (wrap64 (Int.tdiv (Int.tmod a0 86400) 3600)) 10))) % 256)] from rfl) (Reps.none _ _)))); intro v200 w32 ho33 hb hg_ hnew_; clear hg_ hnew_; (first | rw [← Ny199.out] at ho33 | (simp only [Int.reduceToNat] at ho33; rw [← Ny199.out] at ho33)); have n0_ := Aside0.mk (Kd.R_elder' (by (with_reducible repeat (first | apply Kd.R_alloc | apply Kd.R_drewN | apply Kd.R_drew)); exact HO_8.out) (Kd.R_base ho33) hb); have n1_ := Aside0.mk (Kd.R_lower (Kd.R_new' ho33 (Kd.R_lt (by (with_reducible repeat (first | apply Kd.R_alloc | apply Kd.R_drewN | apply Kd.R_drew)); exact HO_8.out))) (below_size (by repeat (first | (with_reducible first | exact HB.out | apply below_alloc | apply pw_below_drewN | apply below_drew1) | exact HB.out)))); have n2_ := Aside0.mk (below_step (by repeat (first | (with_reducible first | exact HB.out | apply below_alloc | apply pw_below_drewN | apply below_drew1) | exact HB.out)) hb); clear HO_8; clear HB; have HO_8 := n0_; have HO201 := n1_; have HB := n2_; clear n0_ n1_ n2_; clear hb ho33; obtain ⟨Ao35,co35,eo35⟩ := Kd.R_slice HO201.out; subst eo35) | ((with_reducible refine gate_builtin (b := .append) (xs := #[.tmp 59,.tmp 68]) rfl ?_); at_builtin; refine Kd.R_append_rows (Kd.int .u8) (w0 := w) w.heap.size rfl (.tmp 59) (.tmp 68) 38 5 (.int .u8 0) 1 rfl Try.underlying38 info5 rfl (by decide) (by omega) u8 x8_4 y199 _ _ _ (fun k_ => some k_ ≠ (.slice Ao35 y199.length co35 : Value).ownBlock) (fun _ => False) rfl rfl ?aO ?aR (fun _ _ h => h) (fun _ h => h.elim) ?aF ?aB ?aS ?aL ?_; (case aR => repeat (first | exact (Kd.R_reads' HO201.out).2.2 | (with_reducible refine Kd.C_alloc ?_ _) | (with_reducible refine Kd.C_drewN ?_ _) | (with_reducible refine Kd.C_drew ?_))); (case aB => exact (by repeat (first | (with_reducible first | exact HB.out | apply below_alloc | apply pw_below_drewN | apply below_drew1) | exact HB.out))); (case aF => exact (fun k_ hk => Kd.fresh' (Kd.R_lt (by (with_reducible repeat (first | apply Kd.R_alloc | apply Kd.R_drewN | apply Kd.R_drew)); exact HO201.out)) k_ hk)); (case aO => exact (by (with_reducible repeat (first | apply Kd.R_alloc | apply Kd.R_drewN | apply Kd.R_drew)); exact Kd.R_mono HO_8.out (fun _ hk => hk.2))); (case aS => exact (below_size (by repeat (first | (with_reducible first | exact HB.out | apply below_alloc | apply pw_below_drewN | apply below_drew1) | exact HB.out)))); (case aL => have := LMc31.out; omega); intro v203 w34 ho hb hg hat; rw [← Ny202.out] at ho; have n0_ := Aside0.mk (Kd.R_after (ok := (fun _ => True)) (by (with_reducible repeat (first | apply Kd.R_alloc | apply Kd.R_drewN | apply Kd.R_drew)); exact HO201.out) hg hat); have n1_ := Aside0.mk (hb); have n2_ := Aside0.mk (ho); clear HO201; clear HB; clear HO_8; have HO201 := n0_; have HB := n1_; have HO204 := n2_; clear n0_ n1_ n2_; clear ho hb hg hat))
                  go_roundg k4
                  case measure => have := HJ1.out; have := HK2.out; have := HK3.out; have := HK4.out; omega
                  case rel => exact ⟨(y202),(wrap64 (x56_4 + 1)),(by first | rfl | (simp; done) | (simp [*]; done) | (simp [*,wrap64]; done)),H',⟨by have := HJ1.out; have := HK2.out; have := HK3.out; have := HK4.out; omega⟩,⟨by (with_reducible repeat (first | apply Kd.R_alloc | apply Kd.R_drewN | apply Kd.R_drew)); exact Kd.R_mono HO204.out (fun _ hk => trivial)⟩,⟨by repeat (first | (with_reducible first | exact HB.out | apply below_alloc | apply pw_below_drewN | apply below_drew1) | exact HB.out)⟩⟩
                 ·rw [if_neg c31] at H
                  exact absurd H (by simp)
                ·rw [if_neg c30] at H
                 have c30b0 : (x56_4 == 3) = false := beq_eq_false_iff_ne.mpr c30
                 have c30b1 : (x56_4 != 3) = true := bne_iff_ne.mpr c30
                 by_cases c36 : x56_4 = 4
                 ·rw [if_pos c36] at H
                  have c36b0 : (x56_4 == 4) = true := beq_iff_eq.mpr c36
                  have c36b1 : (x56_4 != 4) = false := bne_eq_false_iff_eq.mpr c36
                  obtain ⟨y205,hy205⟩ : ∃ y_ : List Int,y_ = (([(wrap64 (48 + (wrap64 (Int.tdiv (Int.tmod (wrap64 (Int.tdiv (Int.tmod a0 86400) 60)) 60) 10)))) % 256,(wrap64 (48 + (Int.tmod (Int.tmod (wrap64 (Int.tdiv (Int.tmod a0 86400) 60)) 60) 10))) % 256] : List Int)) := ⟨_,rfl⟩
                  replace H : (if x8_4.length + y205.length < 140737488355328 then (der_Time.l2 k4 (x8_4 ++ y205) (wrap64 (x56_4 + 1)) (Int.tmod x6_2 100) x7_3 (wrap64 (x4_3 + 1)) (wrap64 (Int.tdiv (Int.tmod a0 86400) 3600)) (Int.tmod (wrap64 (Int.tdiv (Int.tmod a0 86400) 60)) 60) (Int.tmod (Int.tmod a0 86400) 60)) else (none)) = some (r1,r2) := by first | (rw [hy205]; with_reducible exact H) | (have H2_ := (Option.bind_some _ _).symm.trans H; rw [hy205]; with_reducible exact H2_) | (have H2_ := (Option.bind_some _ _).symm.trans H; with_reducible exact H2_) | with_reducible exact H | (rw [hy205]; exact H) | exact H
                  have Ny205 := Aside0.mk hy205
                  clear hy205
                  by_cases c37 : x8_4.length + y205.length < 140737488355328
                  ·rw [if_pos c37] at H
                   have LMc37 := Aside0.mk c37
                   clear c37
                   obtain ⟨y208,hy208⟩ : ∃ y_ : List Int,y_ = (x8_4 ++ y205) := ⟨_,rfl⟩
                   replace H : (der_Time.l2 k4 y208 (wrap64 (x56_4 + 1)) (Int.tmod x6_2 100) x7_3 (wrap64 (x4_3 + 1)) (wrap64 (Int.tdiv (Int.tmod a0 86400) 3600)) (Int.tmod (wrap64 (Int.tdiv (Int.tmod a0 86400) 60)) 60) (Int.tmod (Int.tmod a0 86400) 60)) = some (r1,r2) := by first | (rw [hy208]; with_reducible exact H) | (have H2_ := (Option.bind_some _ _).symm.trans H; rw [hy208]; with_reducible exact H2_) | (have H2_ := (Option.bind_some _ _).symm.trans H; with_reducible exact H2_) | with_reducible exact H | (rw [hy208]; exact H) | exact H
                   have Ny208 := Aside0.mk hy208
                   clear hy208
                   have H' := Aside0.mk H
                   clear H
                   go_wp2_with (first | ((with_reducible refine gate_dst (N := 68) rfl ?_); refine Kd.R_lit (Kd.int .u8) _ 5 ?hg (N := 68) ?hd (xs := ([(wrap64 (48 + (wrap64 (Int.tdiv (Int.tmod (wrap64 (Int.tdiv (Int.tmod a0 86400) 60)) 60) 10)))) % 256,(wrap64 (48 + (Int.tmod (Int.tmod (wrap64 (Int.tdiv (Int.tmod a0 86400) 60)) 60) 10))) % 256] : List Int)) (inner := [.int .u8 ((wrap64 (48 + (wrap64 (Int.tdiv (Int.tmod (wrap64 (Int.tdiv (Int.tmod a0 86400) 60)) 60) 10)))) % 256),.int .u8 ((wrap64 (48 + (Int.tmod (Int.tmod (wrap64 (Int.tdiv (Int.tmod a0 86400) 60)) 60) 10))) % 256)]) (ok := fun _ => True) (okp := fun _ => True) ?hr ?hp (fun _ hk => hk) trivial (Below.refl _ _) (Nat.le_refl _) (by simp) ?_; (case hd => rfl); (case hg => rfl); (case hr => first | (go_simp; done) | (go_simp; rfl)); (case hp => exact (Reps.one (show Kd.M (Kd.int .u8) _ _ _ ((wrap64 (48 + (wrap64 (Int.tdiv (Int.tmod (wrap64 (Int.tdiv (Int.tmod a0 86400) 60)) 60) 10)))) % 256) [.int .u8 ((wrap64 (48 + (wrap64 (Int.tdiv (Int.tmod (wrap64 (Int.tdiv (Int.tmod a0 86400) 60)) 60) 10)))) % 256)] from rfl) (Reps.one (show Kd.M (Kd.int .u8) _ _ _ ((wrap64 (48 + (Int.tmod (Int.tmod (wrap64 (Int.tdiv (Int.tmod a0 86400) 60)) 60) 10))) % 256) [.int .u8 ((wrap64 (48 + (Int.tmod (Int.tmod (wrap64 (Int.tdiv (Int.tmod a0 86400) 60)) 60) 10))) % 256)] from rfl) (Reps.none _ _)))); intro v206 w38 ho39 hb hg_ hnew_; clear hg_ hnew_; (first | rw [← Ny205.out] at ho39 | (simp only [Int.reduceToNat] at ho39; rw [← Ny205.out] at ho39)); have n0_ := Aside0.mk (Kd.R_elder' (by (with_reducible repeat (first | apply Kd.R_alloc | apply Kd.R_drewN | apply Kd.R_drew)); exact HO_8.out) (Kd.R_base ho39) hb); have n1_ := Aside0.mk (Kd.R_lower (Kd.R_new' ho39 (Kd.R_lt (by (with_reducible repeat (first | apply Kd.R_alloc | apply Kd.R_drewN | apply Kd.R_drew)); exact HO_8.out))) (below_size (by repeat (first | (with_reducible first | exact HB.out | apply below_alloc | apply pw_below_drewN | apply below_drew1) | exact HB.out)))); have n2_ := Aside0.mk (below_step (by repeat (first | (with_reducible first | exact HB.out | apply below_alloc | apply pw_below_drewN | apply below_drew1) | exact HB.out)) hb); clear HO_8; clear HB; have HO_8 := n0_; have HO207 := n1_; have HB := n2_; clear n0_ n1_ n2_; clear hb ho39; obtain ⟨Ao41,co41,eo41⟩ := Kd.R_slice HO207.out; subst eo41) | ((with_reducible refine gate_builtin (b := .append) (xs := #[.tmp 59,.tmp 68]) rfl ?_); at_builtin; refine Kd.R_append_rows (Kd.int .u8) (w0 := w) w.heap.size rfl (.tmp 59) (.tmp 68) 38 5 (.int .u8 0) 1 rfl Try.underlying38 info5 rfl (by decide) (by omega) u8 x8_4 y205 _ _ _ (fun k_ => some k_ ≠ (.slice Ao41 y205.length co41 : Value).ownBlock) (fun _ => False) rfl rfl ?aO ?aR (fun _ _ h => h) (fun _ h => h.elim) ?aF ?aB ?aS ?aL ?_; (case aR => repeat (first | exact (Kd.R_reads' HO207.out).2.2 | (with_reducible refine Kd.C_alloc ?_ _) | (with_reducible refine Kd.C_drewN ?_ _) | (with_reducible refine Kd.C_drew ?_))); (case aB => exact (by repeat (first | (with_reducible first | exact HB.out | apply below_alloc | apply pw_below_drewN | apply below_drew1) | exact HB.out))); (case aF => exact (fun k_ hk => Kd.fresh' (Kd.R_lt (by (with_reducible repeat (first | apply Kd.R_alloc | apply Kd.R_drewN | apply Kd.R_drew)); exact HO207.out)) k_ hk)); (case aO => exact (by (with_reducible repeat (first | apply Kd.R_alloc | apply Kd.R_drewN | apply Kd.R_drew)); exact Kd.R_mono HO_8.out (fun _ hk => hk.2))); (case aS => exact (below_size (by repeat (first | (with_reducible first | exact HB.out | apply below_alloc | apply pw_below_drewN | apply below_drew1) | exact HB.out)))); (case aL => have := LMc37.out; omega); intro v209 w40 ho hb hg hat; rw [← Ny208.out] at ho; have n0_ := Aside0.mk (Kd.R_after (ok := (fun _ => True)) (by (with_reducible repeat (first | apply Kd.R_alloc | apply Kd.R_drewN | apply Kd.R_drew)); exact HO207.out) hg hat); have n1_ := Aside0.mk (hb); have n2_ := Aside0.mk (ho); clear HO207; clear HB; clear HO_8; have HO207 := n0_; have HB := n1_; have HO210 := n2_; clear n0_ n1_ n2_; clear ho hb hg hat))
                   go_roundg k4
                   case measure => have := HJ1.out; have := HK2.out; have := HK3.out; have := HK4.out; omega
                   case rel => exact ⟨(y208),(wrap64 (x56_4 + 1)),(by first | rfl | (simp; done) | (simp [*]; done) | (simp [*,wrap64]; done)),H',⟨by have := HJ1.out; have := HK2.out; have := HK3.out; have := HK4.out; omega⟩,⟨by (with_reducible repeat (first | apply Kd.R_alloc | apply Kd.R_drewN | apply Kd.R_drew)); exact Kd.R_mono HO210.out (fun _ hk => trivial)⟩,⟨by repeat (first | (with_reducible first | exact HB.out | apply below_alloc | apply pw_below_drewN | apply below_drew1) | exact HB.out)⟩⟩
                  ·rw [if_neg c37] at H
                   exact absurd H (by simp)
                 ·rw [if_neg c36] at H
                  have c36b0 : (x56_4 == 4) = false := beq_eq_false_iff_ne.mpr c36
                  have c36b1 : (x56_4 != 4) = true := bne_iff_ne.mpr c36
                  by_cases c42 : x56_4 = 5
                  ·rw [if_pos c42] at H
                   have c42b0 : (x56_4 == 5) = true := beq_iff_eq.mpr c42
                   have c42b1 : (x56_4 != 5) = false := bne_eq_false_iff_eq.mpr c42
                   obtain ⟨y211,hy211⟩ : ∃ y_ : List Int,y_ = (([(wrap64 (48 + (wrap64 (Int.tdiv (Int.tmod (Int.tmod a0 86400) 60) 10)))) % 256,(wrap64 (48 + (Int.tmod (Int.tmod (Int.tmod a0 86400) 60) 10))) % 256] : List Int)) := ⟨_,rfl⟩
                   replace H : (if x8_4.length + y211.length < 140737488355328 then (der_Time.l2 k4 (x8_4 ++ y211) (wrap64 (x56_4 + 1)) (Int.tmod x6_2 100) x7_3 (wrap64 (x4_3 + 1)) (wrap64 (Int.tdiv (Int.tmod a0 86400) 3600)) (Int.tmod (wrap64 (Int.tdiv (Int.tmod a0 86400) 60)) 60) (Int.tmod (Int.tmod a0 86400) 60)) else (none)) = some (r1,r2) := by first | (rw [hy211]; with_reducible exact H) | (have H2_ := (Option.bind_some _ _).symm.trans H; rw [hy211]; with_reducible exact H2_) | (have H2_ := (Option.bind_some _ _).symm.trans H; with_reducible exact H2_) | with_reducible exact H | (rw [hy211]; exact H) | exact H
                   have Ny211 := Aside0.mk hy211
                   clear hy211
                   by_cases c43 : x8_4.length + y211.length < 140737488355328
                   ·rw [if_pos c43] at H
                    have LMc43 := Aside0.mk c43
                    clear c43
                    obtain ⟨y214,hy214⟩ : ∃ y_ : List Int,y_ = (x8_4 ++ y211) := ⟨_,rfl⟩
                    replace H : (der_Time.l2 k4 y214 (wrap64 (x56_4 + 1)) (Int.tmod x6_2 100) x7_3 (wrap64 (x4_3 + 1)) (wrap64 (Int.tdiv (Int.tmod a0 86400) 3600)) (Int.tmod (wrap64 (Int.tdiv (Int.tmod a0 86400) 60)) 60) (Int.tmod (Int.tmod a0 86400) 60)) = some (r1,r2) := by first | (rw [hy214]; with_reducible exact H) | (have H2_ := (Option.bind_some _ _).symm.trans H; rw [hy214]; with_reducible exact H2_) | (have H2_ := (Option.bind_some _ _).symm.trans H; with_reducible exact H2_) | with_reducible exact H | (rw [hy214]; exact H) | exact H
                    have Ny214 := Aside0.mk hy214
                    clear hy214
                    have H' := Aside0.mk H
                    clear H
                    go_wp2_with (first | ((with_reducible refine gate_dst (N := 68) rfl ?_); refine Kd.R_lit (Kd.int .u8) _ 5 ?hg (N := 68) ?hd (xs := ([(wrap64 (48 + (wrap64 (Int.tdiv (Int.tmod (Int.tmod a0 86400) 60) 10)))) % 256,(wrap64 (48 + (Int.tmod (Int.tmod (Int.tmod a0 86400) 60) 10))) % 256] : List Int)) (inner := [.int .u8 ((wrap64 (48 + (wrap64 (Int.tdiv (Int.tmod (Int.tmod a0 86400) 60) 10)))) % 256),.int .u8 ((wrap64 (48 + (Int.tmod (Int.tmod (Int.tmod a0 86400) 60) 10))) % 256)]) (ok := fun _ => True) (okp := fun _ => True) ?hr ?hp (fun _ hk => hk) trivial (Below.refl _ _) (Nat.le_refl _) (by simp) ?_; (case hd => rfl); (case hg => rfl); (case hr => first | (go_simp; done) | (go_simp; rfl)); (case hp => exact (Reps.one (show Kd.M (Kd.int .u8) _ _ _ ((wrap64 (48 + (wrap64 (Int.tdiv (Int.tmod (Int.tmod a0 86400) 60) 10)))) % 256) [.int .u8 ((wrap64 (48 + (wrap64 (Int.tdiv (Int.tmod (Int.tmod a0 86400) 60) 10)))) % 256)] from rfl) (Reps.one (show Kd.M (Kd.int .u8) _ _ _ ((wrap64 (48 + (Int.tmod (Int.tmod (Int.tmod a0 86400) 60) 10))) % 256) [.int .u8 ((wrap64 (48 + (Int.tmod (Int.tmod (Int.tmod a0 86400) 60) 10))) % 256)] from rfl) (Reps.none _ _)))); intro v212 w44 ho45 hb hg_ hnew_; clear hg_ hnew_; (first | rw [← Ny211.out] at ho45 | (simp only [Int.reduceToNat] at ho45; rw [← Ny211.out] at ho45)); have n0_ := Aside0.mk (Kd.R_elder' (by (with_reducible repeat (first | apply Kd.R_alloc | apply Kd.R_drewN | apply Kd.R_drew)); exact HO_8.out) (Kd.R_base ho45) hb); have n1_ := Aside0.mk (Kd.R_lower (Kd.R_new' ho45 (Kd.R_lt (by (with_reducible repeat (first | apply Kd.R_alloc | apply Kd.R_drewN | apply Kd.R_drew)); exact HO_8.out))) (below_size (by repeat (first | (with_reducible first | exact HB.out | apply below_alloc | apply pw_below_drewN | apply below_drew1) | exact HB.out)))); have n2_ := Aside0.mk (below_step (by repeat (first | (with_reducible first | exact HB.out | apply below_alloc | apply pw_below_drewN | apply below_drew1) | exact HB.out)) hb); clear HO_8; clear HB; have HO_8 := n0_; have HO213 := n1_; have HB := n2_; clear n0_ n1_ n2_; clear hb ho45; obtain ⟨Ao47,co47,eo47⟩ := Kd.R_slice HO213.out; subst eo47) | ((with_reducible refine gate_builtin (b := .append) (xs := #[.tmp 59,.tmp 68]) rfl ?_); at_builtin; refine Kd.R_append_rows (Kd.int .u8) (w0 := w) w.heap.size rfl (.tmp 59) (.tmp 68) 38 5 (.int .u8 0) 1 rfl Try.underlying38 info5 rfl (by decide) (by omega) u8 x8_4 y211 _ _ _ (fun k_ => some k_ ≠ (.slice Ao47 y211.length co47 : Value).ownBlock) (fun _ => False) rfl rfl ?aO ?aR (fun _ _ h => h) (fun _ h => h.elim) ?aF ?aB ?aS ?aL ?_; (case aR => repeat (first | exact (Kd.R_reads' HO213.out).2.2 | (with_reducible refine Kd.C_alloc ?_ _) | (with_reducible refine Kd.C_drewN ?_ _) | (with_reducible refine Kd.C_drew ?_))); (case aB => exact (by repeat (first | (with_reducible first | exact HB.out | apply below_alloc | apply pw_below_drewN | apply below_drew1) | exact HB.out))); (case aF => exact (fun k_ hk => Kd.fresh' (Kd.R_lt (by (with_reducible repeat (first | apply Kd.R_alloc | apply Kd.R_drewN | apply Kd.R_drew)); exact HO213.out)) k_ hk)); (case aO => exact (by (with_reducible repeat (first | apply Kd.R_alloc | apply Kd.R_drewN | apply Kd.R_drew)); exact Kd.R_mono HO_8.out (fun _ hk => hk.2))); (case aS => exact (below_size (by repeat (first | (with_reducible first | exact HB.out | apply below_alloc | apply pw_below_drewN | apply below_drew1) | exact HB.out)))); (case aL => have := LMc43.out; omega); intro v215 w46 ho hb hg hat; rw [← Ny214.out] at ho; have n0_ := Aside0.mk (Kd.R_after (ok := (fun _ => True)) (by (with_reducible repeat (first | apply Kd.R_alloc | apply Kd.R_drewN | apply Kd.R_drew)); exact HO213.out) hg hat); have n1_ := Aside0.mk (hb); have n2_ := Aside0.mk (ho); clear HO213; clear HB; clear HO_8; have HO213 := n0_; have HB := n1_; have HO216 := n2_; clear n0_ n1_ n2_; clear ho hb hg hat))
                    go_roundg k4
                    case measure => have := HJ1.out; have := HK2.out; have := HK3.out; have := HK4.out; omega
                    case rel => exact ⟨(y214),(wrap64 (x56_4 + 1)),(by first | rfl | (simp; done) | (simp [*]; done) | (simp [*,wrap64]; done)),H',⟨by have := HJ1.out; have := HK2.out; have := HK3.out; have := HK4.out; omega⟩,⟨by (with_reducible repeat (first | apply Kd.R_alloc | apply Kd.R_drewN | apply Kd.R_drew)); exact Kd.R_mono HO216.out (fun _ hk => trivial)⟩,⟨by repeat (first | (with_reducible first | exact HB.out | apply below_alloc | apply pw_below_drewN | apply below_drew1) | exact HB.out)⟩⟩
                   ·rw [if_neg c43] at H
                    exact absurd H (by simp)
                  ·rw [if_neg c42] at H
                   exact absurd H (by simp)
            ·rw [if_neg c11] at H
             have c11b0 : decide (x56_4 < 6) = false := decide_eq_false c11
             clear c11
             obtain ⟨y217,hy217⟩ : ∃ y_ : List ByteArray,y_ = (([strOfNums x8_4,(⟨#[90]⟩ : ByteArray)] : List ByteArray)) := ⟨_,rfl⟩
             replace H : ((der_Put.f k4 23 y217).bind fun bt220 => (some (bt220.1,bt220.2))) = some (r1,r2) := by first | (rw [hy217]; with_reducible exact H) | (have H2_ := (Option.bind_some _ _).symm.trans H; rw [hy217]; with_reducible exact H2_) | (have H2_ := (Option.bind_some _ _).symm.trans H; with_reducible exact H2_) | with_reducible exact H | (rw [hy217]; exact H) | exact H
             have Ny217 := Aside0.mk hy217
             clear hy217
             replace H := Option.bind_eq_some_iff.mp H
             obtain ⟨⟨t220,t221⟩,A480,H⟩ := H
             replace H : (some (t220,t221)) = some (r1,r2) := H
             have A48 := Aside0.mk A480
             clear A480
             simp only [Option.some.injEq,Prod.mk.injEq] at H
             obtain ⟨rfl,rfl⟩ := H
             have hcv49 := own_string (P := Try.prog) Try.underlying38 Try.underlying5 Try.underlying9 (Kd.own_of_R HO_8.out)
             go_wp2_with (first | ((with_reducible refine gate_dst (N := 73) rfl ?_); refine Kd.R_lit Kd.string _ 9 ?hg (N := 73) ?hd (xs := ([strOfNums x8_4,(⟨#[90]⟩ : ByteArray)] : List ByteArray)) (inner := [.string (strOfNums x8_4),.string (⟨#[90]⟩ : ByteArray)]) (ok := fun _ => True) (okp := fun _ => True) ?hr ?hp (fun _ hk => hk) trivial (Below.refl _ _) (Nat.le_refl _) (by simp) ?_; (case hd => rfl); (case hg => rfl); (case hr => first | (go_simp; done) | (go_simp; rfl)); (case hp => exact (Reps.one (show Kd.M Kd.string _ _ _ (strOfNums x8_4) [.string (strOfNums x8_4)] from rfl) (Reps.one (show Kd.M Kd.string _ _ _ (⟨#[90]⟩ : ByteArray) [.string (⟨#[90]⟩ : ByteArray)] from rfl) (Reps.none _ _)))); intro v218 w50 ho51 hb hg_ hnew_; clear hg_ hnew_; (first | rw [← Ny217.out] at ho51 | (simp only [Int.reduceToNat] at ho51; rw [← Ny217.out] at ho51)); have n0_ := Aside0.mk (Kd.R_below (by (with_reducible repeat (first | apply Kd.R_alloc | apply Kd.R_drewN | apply Kd.R_drew)); exact HO_8.out) hb); have n1_ := Aside0.mk (Kd.R_lower ho51 (below_size (by repeat (first | (with_reducible first | exact HB.out | apply below_alloc | apply pw_below_drewN | apply below_drew1) | exact HB.out)))); have n2_ := Aside0.mk (below_step (by repeat (first | (with_reducible first | exact HB.out | apply below_alloc | apply pw_below_drewN | apply below_drew1) | exact HB.out)) hb); clear HO_8; clear HB; have HO_8 := n0_; have HO219 := n1_; have HB := n2_; clear n0_ n1_ n2_; clear hb ho51; obtain ⟨Ao52,co52,eo52⟩ := Kd.R_slice HO219.out; subst eo52) | ((with_reducible refine gate_callee (f := 18) rfl ?_); refine goesL_ (some 74) rfl rfl Try.func18 (by kernel_rfl) rfl #[.int .i64 23,.slice Ao52 y217.length co52] rfl (by (try simp only [List.map_toArray,List.map_cons,List.map_nil]); first | done | rfl | (simp only [List.length_drop,List.length_take]; rfl)) ?_; (with_reducible refine (der_Put.calls k4 23 _ _ y217 t220 t221 _ ?side1 ?side2 A48.out).mono ?_); (case side1 => repeat (first | exact (Kd.R_reads' HO219.out).2.2 | (with_reducible refine Kd.C_alloc ?_ _) | (with_reducible refine Kd.C_drewN ?_ _) | (with_reducible refine Kd.C_drew ?_))); (case side2 => exact (Kd.R_reads' HO219.out).2.1); rintro e w53 ⟨rfl,hb⟩; refine ⟨_,rfl,?_⟩; have n0_ := Aside0.mk (Kd.R_below (by (with_reducible repeat (first | apply Kd.R_alloc | apply Kd.R_drewN | apply Kd.R_drew)); exact HO_8.out) hb); have n1_ := Aside0.mk (Kd.R_below (by (with_reducible repeat (first | apply Kd.R_alloc | apply Kd.R_drewN | apply Kd.R_drew)); exact HO219.out) hb); have n2_ := Aside0.mk (below_step (by repeat (first | (with_reducible first | exact HB.out | apply below_alloc | apply pw_below_drewN | apply below_drew1) | exact HB.out)) hb); clear HO_8; clear HO219; clear HB; have HO_8 := n0_; have HO219 := n1_; have HB := n2_; clear n0_ n1_ n2_; (try clear hb); (try clear hb2); (try clear hk); (try clear hi)))
             go_ret2
             exact ⟨by first | rfl | (simp [errW_none,errW_some] <;> rfl) | (simp [*,errW_none,errW_some] <;> rfl),by repeat (first | (with_reducible first | exact HB.out | apply below_alloc | apply pw_below_drewN | apply below_drew1) | exact HB.out)⟩

end Go.Proofs.Ytonemdclfgckoaa.X
