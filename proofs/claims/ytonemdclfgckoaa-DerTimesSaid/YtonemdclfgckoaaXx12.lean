-- Written by a program of this session (wip/tools/xprint.py), over the kit's printer.
import Derived.Test.YtonemdclfgckoaaXx0
import Derived.Test.YtonemdclfgckoaaXx7
import Derived.Test.YtonemdclfgckoaaXx11
namespace Go.Proofs.Ytonemdclfgckoaa.X
open Go.RowKit Go.Proofs.YtonemdclfgckoaaW.PrintWords Go.Proofs.YtonemdclfgckoaaW.PrintLast Go.Proofs.YtonemdclfgckoaaW.PrintMore
attribute [local go_sem] max2_int min2_int max_two min_two max_three min_three max_four min_four   -- for this text's walks alone
set_option linter.unusedVariables false
set_option linter.unusedSimpArgs false

/-! ### halberdref13_Time: function 13 -/
mutual
def halberdref13_Time.j0 : Nat → Int → Bool → Option (ByteArray × Int)
 | 0,_,_ => none
 | k + 1,x0,x13 => if x13 = true then (some ((⟨#[]⟩ : ByteArray),1300)) else (halberdref13_Time.l0 k x0 (wrap64 (Int.tdiv x0 86400)) 1970 1)
def halberdref13_Time.l0 : Nat → Int → Int → Int → Int → Option (ByteArray × Int)
 | 0,_,_,_,_ => none
 | k + 1,x0,x4,x5,x6 => (halberdref13_days.f x5 x6).bind fun t226 => (if x4 ≥ t226 then ((halberdref13_days.f x5 x6).bind fun t227 => (if (wrap64 (x6 + 1)) > 12 then (halberdref13_Time.l0 k x0 (wrap64 (x4 - t227)) (wrap64 (x5 + 1)) 1) else (halberdref13_Time.l0 k x0 (wrap64 (x4 - t227)) x5 (wrap64 (x6 + 1))))) else ((halberdref13_two.f (Int.tmod x5 100)).bind fun t228 => ((halberdref13_two.f x6).bind fun t229 => (if t228.size + t229.size ≤ 9223372036854775807 then ((some (t228 ++ t229 : ByteArray)).bind fun ys230 => ((halberdref13_two.f (wrap64 (x4 + 1))).bind fun t231 => (if ys230.size + t231.size ≤ 9223372036854775807 then ((some (ys230 ++ t231 : ByteArray)).bind fun ys232 => ((halberdref13_two.f (wrap64 (Int.tdiv (Int.tmod x0 86400) 3600))).bind fun t233 => (if ys232.size + t233.size ≤ 9223372036854775807 then ((some (ys232 ++ t233 : ByteArray)).bind fun ys234 => ((halberdref13_two.f (Int.tmod (wrap64 (Int.tdiv (Int.tmod x0 86400) 60)) 60)).bind fun t235 => (if ys234.size + t235.size ≤ 9223372036854775807 then ((some (ys234 ++ t235 : ByteArray)).bind fun ys236 => ((halberdref13_two.f (Int.tmod (Int.tmod x0 86400) 60)).bind fun t237 => (if ys236.size + t237.size ≤ 9223372036854775807 then ((some (ys236 ++ t237 : ByteArray)).bind fun ys238 => (if ys238.size + 1 ≤ 9223372036854775807 then ((halberdref13_Tl.f k 23 (ys238 ++ (⟨#[90]⟩ : ByteArray))).bind fun t240 => (some (t240,0))) else (none))) else (none)))) else (none)))) else (none)))) else (none)))) else (none)))))
end
def halberdref13_Time.f (k : Nat) (a0 : Int) : Option (ByteArray × Int) := if a0 < 0 then (halberdref13_Time.j0 k a0 true) else (halberdref13_Time.j0 k a0 (decide (a0 > 2524607999)))
theorem halberdref13_Time.mono_l : ∀ k,(∀ y0 y1,LeO (halberdref13_Time.j0 k y0 y1) (halberdref13_Time.j0 (k + 1) y0 y1)) ∧ (∀ y0 y1 y2 y3,LeO (halberdref13_Time.l0 k y0 y1 y2 y3) (halberdref13_Time.l0 (k + 1) y0 y1 y2 y3))
 | 0 => ⟨fun _ _ r h => by simp [halberdref13_Time.j0] at h,fun _ _ _ _ r h => by simp [halberdref13_Time.l0] at h⟩
 | k + 1 => by
  obtain ⟨ih0,ih1⟩ := halberdref13_Time.mono_l k
  refine ⟨?_,?_⟩
  ·intro y0 y1
   unfold halberdref13_Time.j0
   repeat' first
   | (with_reducible exact ih0 _ _)
   | (with_reducible exact ih1 _ _ _ _)
   | (with_reducible exact halberdref13_Tl.mono _ _ _)
   | (with_reducible exact LeO.refl _)
   | (with_reducible exact LeO.none _)
   | (with_reducible refine LeO.ite ?_ ?_)
   | (with_reducible refine LeO.bind ?_ (fun _ => ?_))
   | exact ih0 _ _
   | exact ih1 _ _ _ _
   | exact halberdref13_Tl.mono _ _ _
   | exact LeO.none _
   | refine LeO.ite ?_ ?_
   | refine LeO.bind ?_ (fun _ => ?_)
  ·intro y0 y1 y2 y3
   unfold halberdref13_Time.l0
   repeat' first
   | (with_reducible exact ih0 _ _)
   | (with_reducible exact ih1 _ _ _ _)
   | (with_reducible exact halberdref13_Tl.mono _ _ _)
   | (with_reducible exact LeO.refl _)
   | (with_reducible exact LeO.none _)
   | (with_reducible refine LeO.ite ?_ ?_)
   | (with_reducible refine LeO.bind ?_ (fun _ => ?_))
   | exact ih0 _ _
   | exact ih1 _ _ _ _
   | exact halberdref13_Tl.mono _ _ _
   | exact LeO.none _
   | refine LeO.ite ?_ ?_
   | refine LeO.bind ?_ (fun _ => ?_)
theorem halberdref13_Time.mono : ∀ a0 k,LeO (halberdref13_Time.f k a0) (halberdref13_Time.f (k + 1) a0) := by
 intro a0 k
 obtain ⟨ih0,ih1⟩ := halberdref13_Time.mono_l k
 unfold halberdref13_Time.f
 repeat' first
   | (with_reducible exact ih0 _ _)
   | (with_reducible exact ih1 _ _ _ _)
   | (with_reducible exact halberdref13_Tl.mono _ _ _)
   | (with_reducible exact LeO.refl _)
   | (with_reducible exact LeO.none _)
   | (with_reducible refine LeO.ite ?_ ?_)
   | (with_reducible refine LeO.bind ?_ (fun _ => ?_))
   | exact ih0 _ _
   | exact ih1 _ _ _ _
   | exact halberdref13_Tl.mono _ _ _
   | exact LeO.none _
   | refine LeO.ite ?_ ?_
   | refine LeO.bind ?_ (fun _ => ?_)
set_option maxHeartbeats 8000000 in
set_option maxRecDepth 100000 in
theorem halberdref13_Time.calls (k : Nat) (a0 : Int) (r1 : ByteArray) (r2 : Int) (w : World) (h : halberdref13_Time.f k a0 = some (r1,r2)) :
  Calls Try.prog 13 #[.int .i64 a0] w fun e w' => e = .returned (.tuple #[.string r1,.int .i64 r2]) ∧ Below w.heap.size w w' := by
 have HB := Aside0.mk (Below.refl w.heap.size w)
 have H : (if a0 < 0 then (halberdref13_Time.j0 k a0 true) else (halberdref13_Time.j0 k a0 (decide (a0 > 2524607999)))) = some (r1,r2) := h
 clear h
 have HC2 := Aside0.mk H
 clear H
 go_enter Try.func13,Try.ntmps13
 go_upto_region 1 with (fail)
 go_cut [13] (fun v13 wc => ∃ (kq : Nat) (x13_1 : Bool),v13 = .bool x13_1 ∧ Aside0 (halberdref13_Time.j0 kq a0 x13_1 = some (r1,r2)) ∧ Aside0 (kq ≤ k) ∧ Aside0 (Below w.heap.size w wc))
 case first =>
  have H := HC2.out
  clear HC2
  by_cases c3 : a0 < 0
  ·rw [if_pos c3] at H
   have c3b0 : decide (a0 < 0) = true := decide_eq_true c3
   clear c3
   (first | rw [c3b0] | (simp only [i64_w,i32_w]; rw [c3b0]) | skip)
   have H' := Aside0.mk H
   clear H
   go_wp2
   go_meet
   case rel => exact ⟨_,(true),(by first | rfl | (simp; done) | (simp [*]; done)),H',⟨by first | omega | exact Nat.le_refl _⟩,⟨by repeat (first | (with_reducible first | exact HB.out | apply below_alloc | apply pw_below_drewN | apply below_drew1) | exact HB.out)⟩⟩
  ·rw [if_neg c3] at H
   have c3b0 : decide (a0 < 0) = false := decide_eq_false c3
   clear c3
   (first | rw [c3b0] | (simp only [i64_w,i32_w]; rw [c3b0]) | skip)
   have H' := Aside0.mk H
   clear H
   go_wp2
   go_meet
   case rel => exact ⟨_,(decide (a0 > 2524607999)),(by first | rfl | (simp; done) | (simp [*]; done)),H',⟨by first | omega | exact Nat.le_refl _⟩,⟨by repeat (first | (with_reducible first | exact HB.out | apply below_alloc | apply pw_below_drewN | apply below_drew1) | exact HB.out)⟩⟩
 case rest =>
  clear HC2
  try clear c1
  try clear p2
  try clear c3
  try clear c3b0
  obtain ⟨kq,x13_1,rfl,HA,HJ1,HB⟩ := hcut
  cases kq with
  | zero => exact absurd HA.out (by simp [halberdref13_Time.j0])
  | succ kj1 =>
   have H := HA.out
   clear HA
   simp only [halberdref13_Time.j0] at H
   by_cases c4 : x13_1 = true
   ·subst c4
    have H1 : (some ((⟨#[]⟩ : ByteArray),1300)) = some (r1,r2) := by rw [if_pos rfl] at H; exact H
    clear H
    have H := H1
    clear H1
    simp only [Option.some.injEq,Prod.mk.injEq] at H
    obtain ⟨rfl,rfl⟩ := H
    go_wp2
    go_ret2
    exact ⟨by first | rfl | (simp [errW_none,errW_some] <;> rfl) | (simp [*,errW_none,errW_some] <;> rfl),by repeat (first | (with_reducible first | exact HB.out | apply below_alloc | apply pw_below_drewN | apply below_drew1) | exact HB.out)⟩
   ·replace c4 := Bool.eq_false_iff.mpr c4
    subst c4
    have H1 : (halberdref13_Time.l0 kj1 a0 (wrap64 (Int.tdiv a0 86400)) 1970 1) = some (r1,r2) := by rw [if_neg (show ¬ (false = true) by decide)] at H; exact H
    clear H
    have H := H1
    clear H1
    have H' := Aside0.mk H
    clear H
    go_wp2
    go_loopg [4,5,6] kj1 (fun kq v4 v5 v6 w' => ∃ (x4_2 : Int) (x5_2 : Int) (x6_2 : Int),v4 = .int .i64 x4_2 ∧ v5 = .int .i64 x5_2 ∧ v6 = .int .i64 x6_2 ∧ Aside0 (halberdref13_Time.l0 kq a0 x4_2 x5_2 x6_2 = some (r1,r2)) ∧ Aside0 (kq ≤ kj1) ∧ Aside0 (Below w.heap.size w w'))
    case atStart => exact ⟨(wrap64 (Int.tdiv a0 86400)),(1970),(1),(by first | rfl | (simp; done) | (simp [*]; done)),(by first | rfl | (simp; done) | (simp [*]; done)),(by first | rfl | (simp; done) | (simp [*]; done)),H',⟨Nat.le_refl _⟩,⟨by repeat (first | (with_reducible first | exact HB.out | apply below_alloc | apply pw_below_drewN | apply below_drew1) | exact HB.out)⟩⟩
    case round =>
     clear H'
     try clear c1
     try clear p2
     try clear c3
     try clear c3b0
     try clear c4
     try clear p2
     obtain ⟨x4_2,x5_2,x6_2,rfl,rfl,rfl,HA,HK2,HB⟩ := hrel
     cases gk with
     | zero => exact absurd HA.out (by simp [halberdref13_Time.l0])
     | succ k2 =>
      have H := HA.out
      clear HA
      simp only [halberdref13_Time.l0] at H
      replace H := Option.bind_eq_some_iff.mp H
      obtain ⟨t226,A50,H⟩ := H
      replace H : (if x4_2 ≥ t226 then ((halberdref13_days.f x5_2 x6_2).bind fun t227 => (if (wrap64 (x6_2 + 1)) > 12 then (halberdref13_Time.l0 k2 a0 (wrap64 (x4_2 - t227)) (wrap64 (x5_2 + 1)) 1) else (halberdref13_Time.l0 k2 a0 (wrap64 (x4_2 - t227)) x5_2 (wrap64 (x6_2 + 1))))) else ((halberdref13_two.f (Int.tmod x5_2 100)).bind fun t228 => ((halberdref13_two.f x6_2).bind fun t229 => (if t228.size + t229.size ≤ 9223372036854775807 then ((some (t228 ++ t229 : ByteArray)).bind fun ys230 => ((halberdref13_two.f (wrap64 (x4_2 + 1))).bind fun t231 => (if ys230.size + t231.size ≤ 9223372036854775807 then ((some (ys230 ++ t231 : ByteArray)).bind fun ys232 => ((halberdref13_two.f (wrap64 (Int.tdiv (Int.tmod a0 86400) 3600))).bind fun t233 => (if ys232.size + t233.size ≤ 9223372036854775807 then ((some (ys232 ++ t233 : ByteArray)).bind fun ys234 => ((halberdref13_two.f (Int.tmod (wrap64 (Int.tdiv (Int.tmod a0 86400) 60)) 60)).bind fun t235 => (if ys234.size + t235.size ≤ 9223372036854775807 then ((some (ys234 ++ t235 : ByteArray)).bind fun ys236 => ((halberdref13_two.f (Int.tmod (Int.tmod a0 86400) 60)).bind fun t237 => (if ys236.size + t237.size ≤ 9223372036854775807 then ((some (ys236 ++ t237 : ByteArray)).bind fun ys238 => (if ys238.size + 1 ≤ 9223372036854775807 then ((halberdref13_Tl.f k2 23 (ys238 ++ (⟨#[90]⟩ : ByteArray))).bind fun t240 => (some (t240,0))) else (none))) else (none)))) else (none)))) else (none)))) else (none)))) else (none))))) = some (r1,r2) := H
      have A5 := Aside0.mk A50
      clear A50
      by_cases c6 : x4_2 ≥ t226
      ·rw [if_pos c6] at H
       have c6b0 : decide (t226 ≤ x4_2) = true := decide_eq_true c6
       clear c6
       replace H := Option.bind_eq_some_iff.mp H
       obtain ⟨t227,A70,H⟩ := H
       replace H : (if (wrap64 (x6_2 + 1)) > 12 then (halberdref13_Time.l0 k2 a0 (wrap64 (x4_2 - t227)) (wrap64 (x5_2 + 1)) 1) else (halberdref13_Time.l0 k2 a0 (wrap64 (x4_2 - t227)) x5_2 (wrap64 (x6_2 + 1)))) = some (r1,r2) := H
       have A7 := Aside0.mk A70
       clear A70
       by_cases c8 : (wrap64 (x6_2 + 1)) > 12
       ·rw [if_pos c8] at H
        have c8b0 : decide (12 < (wrap64 (x6_2 + 1))) = true := decide_eq_true c8
        clear c8
        have H' := Aside0.mk H
        clear H
        go_wp2_with (first | ((with_reducible refine gate_callee (f := 24) rfl ?_); refine goesL_ (some 19) rfl rfl Try.func24 (by kernel_rfl) rfl #[.int .i64 x5_2,.int .i64 x6_2] rfl (by (try simp only [List.map_toArray,List.map_cons,List.map_nil]); first | done | rfl | (simp only [List.length_drop,List.length_take]; rfl)) ?_; (with_reducible refine (halberdref13_days.calls x5_2 x6_2 t226 _ A5.out).mono ?_); rintro e w' ⟨rfl,⟨nd,rfl⟩⟩; refine ⟨_,rfl,?_⟩) | ((with_reducible refine gate_callee (f := 24) rfl ?_); refine goesL_ (some 24) rfl rfl Try.func24 (by kernel_rfl) rfl #[.int .i64 x5_2,.int .i64 x6_2] rfl (by (try simp only [List.map_toArray,List.map_cons,List.map_nil]); first | done | rfl | (simp only [List.length_drop,List.length_take]; rfl)) ?_; (with_reducible refine (halberdref13_days.calls x5_2 x6_2 t227 _ A7.out).mono ?_); rintro e w' ⟨rfl,⟨nd,rfl⟩⟩; refine ⟨_,rfl,?_⟩))
        go_roundg k2
        case measure => have := HJ1.out; have := HK2.out; omega
        case rel => exact ⟨(wrap64 (x4_2 - t227)),(wrap64 (x5_2 + 1)),(1),(by first | rfl | (simp; done) | (simp [*]; done)),(by first | rfl | (simp; done) | (simp [*]; done)),(by first | rfl | (simp; done) | (simp [*]; done)),H',⟨by have := HJ1.out; have := HK2.out; omega⟩,⟨by repeat (first | (with_reducible first | exact HB.out | apply below_alloc | apply pw_below_drewN | apply below_drew1) | exact HB.out)⟩⟩
       ·rw [if_neg c8] at H
        have c8b0 : decide (12 < (wrap64 (x6_2 + 1))) = false := decide_eq_false c8
        clear c8
        have H' := Aside0.mk H
        clear H
        go_wp2_with (first | ((with_reducible refine gate_callee (f := 24) rfl ?_); refine goesL_ (some 19) rfl rfl Try.func24 (by kernel_rfl) rfl #[.int .i64 x5_2,.int .i64 x6_2] rfl (by (try simp only [List.map_toArray,List.map_cons,List.map_nil]); first | done | rfl | (simp only [List.length_drop,List.length_take]; rfl)) ?_; (with_reducible refine (halberdref13_days.calls x5_2 x6_2 t226 _ A5.out).mono ?_); rintro e w' ⟨rfl,⟨nd,rfl⟩⟩; refine ⟨_,rfl,?_⟩) | ((with_reducible refine gate_callee (f := 24) rfl ?_); refine goesL_ (some 24) rfl rfl Try.func24 (by kernel_rfl) rfl #[.int .i64 x5_2,.int .i64 x6_2] rfl (by (try simp only [List.map_toArray,List.map_cons,List.map_nil]); first | done | rfl | (simp only [List.length_drop,List.length_take]; rfl)) ?_; (with_reducible refine (halberdref13_days.calls x5_2 x6_2 t227 _ A7.out).mono ?_); rintro e w' ⟨rfl,⟨nd,rfl⟩⟩; refine ⟨_,rfl,?_⟩))
        go_roundg k2
        case measure => have := HJ1.out; have := HK2.out; omega
        case rel => exact ⟨(wrap64 (x4_2 - t227)),(x5_2),(wrap64 (x6_2 + 1)),(by first | rfl | (simp; done) | (simp [*]; done)),(by first | rfl | (simp; done) | (simp [*]; done)),(by first | rfl | (simp; done) | (simp [*]; done)),H',⟨by have := HJ1.out; have := HK2.out; omega⟩,⟨by repeat (first | (with_reducible first | exact HB.out | apply below_alloc | apply pw_below_drewN | apply below_drew1) | exact HB.out)⟩⟩
      ·rw [if_neg c6] at H
       have c6b0 : decide (t226 ≤ x4_2) = false := decide_eq_false c6
       clear c6
       replace H := Option.bind_eq_some_iff.mp H
       obtain ⟨t228,A90,H⟩ := H
       replace H : ((halberdref13_two.f x6_2).bind fun t229 => (if t228.size + t229.size ≤ 9223372036854775807 then ((some (t228 ++ t229 : ByteArray)).bind fun ys230 => ((halberdref13_two.f (wrap64 (x4_2 + 1))).bind fun t231 => (if ys230.size + t231.size ≤ 9223372036854775807 then ((some (ys230 ++ t231 : ByteArray)).bind fun ys232 => ((halberdref13_two.f (wrap64 (Int.tdiv (Int.tmod a0 86400) 3600))).bind fun t233 => (if ys232.size + t233.size ≤ 9223372036854775807 then ((some (ys232 ++ t233 : ByteArray)).bind fun ys234 => ((halberdref13_two.f (Int.tmod (wrap64 (Int.tdiv (Int.tmod a0 86400) 60)) 60)).bind fun t235 => (if ys234.size + t235.size ≤ 9223372036854775807 then ((some (ys234 ++ t235 : ByteArray)).bind fun ys236 => ((halberdref13_two.f (Int.tmod (Int.tmod a0 86400) 60)).bind fun t237 => (if ys236.size + t237.size ≤ 9223372036854775807 then ((some (ys236 ++ t237 : ByteArray)).bind fun ys238 => (if ys238.size + 1 ≤ 9223372036854775807 then ((halberdref13_Tl.f k2 23 (ys238 ++ (⟨#[90]⟩ : ByteArray))).bind fun t240 => (some (t240,0))) else (none))) else (none)))) else (none)))) else (none)))) else (none)))) else (none))) = some (r1,r2) := H
       have A9 := Aside0.mk A90
       clear A90
       replace H := Option.bind_eq_some_iff.mp H
       obtain ⟨t229,A100,H⟩ := H
       replace H : (if t228.size + t229.size ≤ 9223372036854775807 then ((some (t228 ++ t229 : ByteArray)).bind fun ys230 => ((halberdref13_two.f (wrap64 (x4_2 + 1))).bind fun t231 => (if ys230.size + t231.size ≤ 9223372036854775807 then ((some (ys230 ++ t231 : ByteArray)).bind fun ys232 => ((halberdref13_two.f (wrap64 (Int.tdiv (Int.tmod a0 86400) 3600))).bind fun t233 => (if ys232.size + t233.size ≤ 9223372036854775807 then ((some (ys232 ++ t233 : ByteArray)).bind fun ys234 => ((halberdref13_two.f (Int.tmod (wrap64 (Int.tdiv (Int.tmod a0 86400) 60)) 60)).bind fun t235 => (if ys234.size + t235.size ≤ 9223372036854775807 then ((some (ys234 ++ t235 : ByteArray)).bind fun ys236 => ((halberdref13_two.f (Int.tmod (Int.tmod a0 86400) 60)).bind fun t237 => (if ys236.size + t237.size ≤ 9223372036854775807 then ((some (ys236 ++ t237 : ByteArray)).bind fun ys238 => (if ys238.size + 1 ≤ 9223372036854775807 then ((halberdref13_Tl.f k2 23 (ys238 ++ (⟨#[90]⟩ : ByteArray))).bind fun t240 => (some (t240,0))) else (none))) else (none)))) else (none)))) else (none)))) else (none)))) else (none)) = some (r1,r2) := H
       have A10 := Aside0.mk A100
       clear A100
       by_cases c11 : t228.size + t229.size ≤ 9223372036854775807
       ·rw [if_pos c11] at H
        have c11b0 := eq_true c11
        have c11b1 : decide (t228.size + t229.size ≤ 9223372036854775807) = true := decide_eq_true c11
        try have c11b2 : (9223372036854775807 < t228.size + t229.size) = False := eq_false (Nat.not_lt.2 c11)
        obtain ⟨ys230,hys230⟩ : ∃ y_ : ByteArray,y_ = (t228 ++ t229) := ⟨_,rfl⟩
        replace H : ((halberdref13_two.f (wrap64 (x4_2 + 1))).bind fun t231 => (if ys230.size + t231.size ≤ 9223372036854775807 then ((some (ys230 ++ t231 : ByteArray)).bind fun ys232 => ((halberdref13_two.f (wrap64 (Int.tdiv (Int.tmod a0 86400) 3600))).bind fun t233 => (if ys232.size + t233.size ≤ 9223372036854775807 then ((some (ys232 ++ t233 : ByteArray)).bind fun ys234 => ((halberdref13_two.f (Int.tmod (wrap64 (Int.tdiv (Int.tmod a0 86400) 60)) 60)).bind fun t235 => (if ys234.size + t235.size ≤ 9223372036854775807 then ((some (ys234 ++ t235 : ByteArray)).bind fun ys236 => ((halberdref13_two.f (Int.tmod (Int.tmod a0 86400) 60)).bind fun t237 => (if ys236.size + t237.size ≤ 9223372036854775807 then ((some (ys236 ++ t237 : ByteArray)).bind fun ys238 => (if ys238.size + 1 ≤ 9223372036854775807 then ((halberdref13_Tl.f k2 23 (ys238 ++ (⟨#[90]⟩ : ByteArray))).bind fun t240 => (some (t240,0))) else (none))) else (none)))) else (none)))) else (none)))) else (none))) = some (r1,r2) := by first | (rw [hys230]; with_reducible exact H) | (have H2_ := (Option.bind_some _ _).symm.trans H; rw [hys230]; with_reducible exact H2_) | (have H2_ := (Option.bind_some _ _).symm.trans H; with_reducible exact H2_) | with_reducible exact H | (rw [hys230]; exact H) | exact H
        have Nys230 := Aside0.mk hys230
        clear hys230
        have Sys230 := Nys230.out.symm
        replace H := Option.bind_eq_some_iff.mp H
        obtain ⟨t231,A120,H⟩ := H
        replace H : (if ys230.size + t231.size ≤ 9223372036854775807 then ((some (ys230 ++ t231 : ByteArray)).bind fun ys232 => ((halberdref13_two.f (wrap64 (Int.tdiv (Int.tmod a0 86400) 3600))).bind fun t233 => (if ys232.size + t233.size ≤ 9223372036854775807 then ((some (ys232 ++ t233 : ByteArray)).bind fun ys234 => ((halberdref13_two.f (Int.tmod (wrap64 (Int.tdiv (Int.tmod a0 86400) 60)) 60)).bind fun t235 => (if ys234.size + t235.size ≤ 9223372036854775807 then ((some (ys234 ++ t235 : ByteArray)).bind fun ys236 => ((halberdref13_two.f (Int.tmod (Int.tmod a0 86400) 60)).bind fun t237 => (if ys236.size + t237.size ≤ 9223372036854775807 then ((some (ys236 ++ t237 : ByteArray)).bind fun ys238 => (if ys238.size + 1 ≤ 9223372036854775807 then ((halberdref13_Tl.f k2 23 (ys238 ++ (⟨#[90]⟩ : ByteArray))).bind fun t240 => (some (t240,0))) else (none))) else (none)))) else (none)))) else (none)))) else (none)) = some (r1,r2) := H
        have A12 := Aside0.mk A120
        clear A120
        by_cases c13 : ys230.size + t231.size ≤ 9223372036854775807
        ·rw [if_pos c13] at H
         have c13b0 := eq_true c13
         have c13b1 : decide (ys230.size + t231.size ≤ 9223372036854775807) = true := decide_eq_true c13
         try have c13b2 : (9223372036854775807 < ys230.size + t231.size) = False := eq_false (Nat.not_lt.2 c13)
         obtain ⟨ys232,hys232⟩ : ∃ y_ : ByteArray,y_ = (ys230 ++ t231) := ⟨_,rfl⟩
         replace H : ((halberdref13_two.f (wrap64 (Int.tdiv (Int.tmod a0 86400) 3600))).bind fun t233 => (if ys232.size + t233.size ≤ 9223372036854775807 then ((some (ys232 ++ t233 : ByteArray)).bind fun ys234 => ((halberdref13_two.f (Int.tmod (wrap64 (Int.tdiv (Int.tmod a0 86400) 60)) 60)).bind fun t235 => (if ys234.size + t235.size ≤ 9223372036854775807 then ((some (ys234 ++ t235 : ByteArray)).bind fun ys236 => ((halberdref13_two.f (Int.tmod (Int.tmod a0 86400) 60)).bind fun t237 => (if ys236.size + t237.size ≤ 9223372036854775807 then ((some (ys236 ++ t237 : ByteArray)).bind fun ys238 => (if ys238.size + 1 ≤ 9223372036854775807 then ((halberdref13_Tl.f k2 23 (ys238 ++ (⟨#[90]⟩ : ByteArray))).bind fun t240 => (some (t240,0))) else (none))) else (none)))) else (none)))) else (none))) = some (r1,r2) := by first | (rw [hys232]; with_reducible exact H) | (have H2_ := (Option.bind_some _ _).symm.trans H; rw [hys232]; with_reducible exact H2_) | (have H2_ := (Option.bind_some _ _).symm.trans H; with_reducible exact H2_) | with_reducible exact H | (rw [hys232]; exact H) | exact H
         have Nys232 := Aside0.mk hys232
         clear hys232
         have Sys232 := Nys232.out.symm
         replace H := Option.bind_eq_some_iff.mp H
         obtain ⟨t233,A140,H⟩ := H
         replace H : (if ys232.size + t233.size ≤ 9223372036854775807 then ((some (ys232 ++ t233 : ByteArray)).bind fun ys234 => ((halberdref13_two.f (Int.tmod (wrap64 (Int.tdiv (Int.tmod a0 86400) 60)) 60)).bind fun t235 => (if ys234.size + t235.size ≤ 9223372036854775807 then ((some (ys234 ++ t235 : ByteArray)).bind fun ys236 => ((halberdref13_two.f (Int.tmod (Int.tmod a0 86400) 60)).bind fun t237 => (if ys236.size + t237.size ≤ 9223372036854775807 then ((some (ys236 ++ t237 : ByteArray)).bind fun ys238 => (if ys238.size + 1 ≤ 9223372036854775807 then ((halberdref13_Tl.f k2 23 (ys238 ++ (⟨#[90]⟩ : ByteArray))).bind fun t240 => (some (t240,0))) else (none))) else (none)))) else (none)))) else (none)) = some (r1,r2) := H
         have A14 := Aside0.mk A140
         clear A140
         by_cases c15 : ys232.size + t233.size ≤ 9223372036854775807
         ·rw [if_pos c15] at H
          have c15b0 := eq_true c15
          have c15b1 : decide (ys232.size + t233.size ≤ 9223372036854775807) = true := decide_eq_true c15
          try have c15b2 : (9223372036854775807 < ys232.size + t233.size) = False := eq_false (Nat.not_lt.2 c15)
          obtain ⟨ys234,hys234⟩ : ∃ y_ : ByteArray,y_ = (ys232 ++ t233) := ⟨_,rfl⟩
          replace H : ((halberdref13_two.f (Int.tmod (wrap64 (Int.tdiv (Int.tmod a0 86400) 60)) 60)).bind fun t235 => (if ys234.size + t235.size ≤ 9223372036854775807 then ((some (ys234 ++ t235 : ByteArray)).bind fun ys236 => ((halberdref13_two.f (Int.tmod (Int.tmod a0 86400) 60)).bind fun t237 => (if ys236.size + t237.size ≤ 9223372036854775807 then ((some (ys236 ++ t237 : ByteArray)).bind fun ys238 => (if ys238.size + 1 ≤ 9223372036854775807 then ((halberdref13_Tl.f k2 23 (ys238 ++ (⟨#[90]⟩ : ByteArray))).bind fun t240 => (some (t240,0))) else (none))) else (none)))) else (none))) = some (r1,r2) := by first | (rw [hys234]; with_reducible exact H) | (have H2_ := (Option.bind_some _ _).symm.trans H; rw [hys234]; with_reducible exact H2_) | (have H2_ := (Option.bind_some _ _).symm.trans H; with_reducible exact H2_) | with_reducible exact H | (rw [hys234]; exact H) | exact H
          have Nys234 := Aside0.mk hys234
          clear hys234
          have Sys234 := Nys234.out.symm
          replace H := Option.bind_eq_some_iff.mp H
          obtain ⟨t235,A160,H⟩ := H
          replace H : (if ys234.size + t235.size ≤ 9223372036854775807 then ((some (ys234 ++ t235 : ByteArray)).bind fun ys236 => ((halberdref13_two.f (Int.tmod (Int.tmod a0 86400) 60)).bind fun t237 => (if ys236.size + t237.size ≤ 9223372036854775807 then ((some (ys236 ++ t237 : ByteArray)).bind fun ys238 => (if ys238.size + 1 ≤ 9223372036854775807 then ((halberdref13_Tl.f k2 23 (ys238 ++ (⟨#[90]⟩ : ByteArray))).bind fun t240 => (some (t240,0))) else (none))) else (none)))) else (none)) = some (r1,r2) := H
          have A16 := Aside0.mk A160
          clear A160
          by_cases c17 : ys234.size + t235.size ≤ 9223372036854775807
          ·rw [if_pos c17] at H
           have c17b0 := eq_true c17
           have c17b1 : decide (ys234.size + t235.size ≤ 9223372036854775807) = true := decide_eq_true c17
           try have c17b2 : (9223372036854775807 < ys234.size + t235.size) = False := eq_false (Nat.not_lt.2 c17)
           obtain ⟨ys236,hys236⟩ : ∃ y_ : ByteArray,y_ = (ys234 ++ t235) := ⟨_,rfl⟩
           replace H : ((halberdref13_two.f (Int.tmod (Int.tmod a0 86400) 60)).bind fun t237 => (if ys236.size + t237.size ≤ 9223372036854775807 then ((some (ys236 ++ t237 : ByteArray)).bind fun ys238 => (if ys238.size + 1 ≤ 9223372036854775807 then ((halberdref13_Tl.f k2 23 (ys238 ++ (⟨#[90]⟩ : ByteArray))).bind fun t240 => (some (t240,0))) else (none))) else (none))) = some (r1,r2) := by first | (rw [hys236]; with_reducible exact H) | (have H2_ := (Option.bind_some _ _).symm.trans H; rw [hys236]; with_reducible exact H2_) | (have H2_ := (Option.bind_some _ _).symm.trans H; with_reducible exact H2_) | with_reducible exact H | (rw [hys236]; exact H) | exact H
           have Nys236 := Aside0.mk hys236
           clear hys236
           have Sys236 := Nys236.out.symm
           replace H := Option.bind_eq_some_iff.mp H
           obtain ⟨t237,A180,H⟩ := H
           replace H : (if ys236.size + t237.size ≤ 9223372036854775807 then ((some (ys236 ++ t237 : ByteArray)).bind fun ys238 => (if ys238.size + 1 ≤ 9223372036854775807 then ((halberdref13_Tl.f k2 23 (ys238 ++ (⟨#[90]⟩ : ByteArray))).bind fun t240 => (some (t240,0))) else (none))) else (none)) = some (r1,r2) := H
           have A18 := Aside0.mk A180
           clear A180
           by_cases c19 : ys236.size + t237.size ≤ 9223372036854775807
           ·rw [if_pos c19] at H
            have c19b0 := eq_true c19
            have c19b1 : decide (ys236.size + t237.size ≤ 9223372036854775807) = true := decide_eq_true c19
            try have c19b2 : (9223372036854775807 < ys236.size + t237.size) = False := eq_false (Nat.not_lt.2 c19)
            obtain ⟨ys238,hys238⟩ : ∃ y_ : ByteArray,y_ = (ys236 ++ t237) := ⟨_,rfl⟩
            replace H : (if ys238.size + 1 ≤ 9223372036854775807 then ((halberdref13_Tl.f k2 23 (ys238 ++ (⟨#[90]⟩ : ByteArray))).bind fun t240 => (some (t240,0))) else (none)) = some (r1,r2) := by first | (rw [hys238]; with_reducible exact H) | (have H2_ := (Option.bind_some _ _).symm.trans H; rw [hys238]; with_reducible exact H2_) | (have H2_ := (Option.bind_some _ _).symm.trans H; with_reducible exact H2_) | with_reducible exact H | (rw [hys238]; exact H) | exact H
            have Nys238 := Aside0.mk hys238
            clear hys238
            have Sys238 := Nys238.out.symm
            by_cases c20 : ys238.size + 1 ≤ 9223372036854775807
            ·rw [if_pos c20] at H
             have c20b0 := eq_true c20
             have c20b1 : decide (ys238.size + 1 ≤ 9223372036854775807) = true := decide_eq_true c20
             try have c20b2 : (9223372036854775807 < ys238.size + 1) = False := eq_false (Nat.not_lt.2 c20)
             obtain ⟨ys239,hys239⟩ : ∃ y_ : ByteArray,y_ = (ys238 ++ (⟨#[90]⟩ : ByteArray)) := ⟨_,rfl⟩
             replace H : ((halberdref13_Tl.f k2 23 ys239).bind fun t240 => (some (t240,0))) = some (r1,r2) := by first | (rw [hys239]; with_reducible exact H) | (have H2_ := (Option.bind_some _ _).symm.trans H; rw [hys239]; with_reducible exact H2_) | (have H2_ := (Option.bind_some _ _).symm.trans H; with_reducible exact H2_) | with_reducible exact H | (rw [hys239]; exact H) | exact H
             have Nys239 := Aside0.mk hys239
             clear hys239
             have Sys239 := Nys239.out.symm
             replace H := Option.bind_eq_some_iff.mp H
             obtain ⟨t240,A210,H⟩ := H
             replace H : (some (t240,0)) = some (r1,r2) := H
             have A21 := Aside0.mk A210
             clear A210
             simp only [Option.some.injEq,Prod.mk.injEq] at H
             obtain ⟨rfl,rfl⟩ := H
             have htm_ : Int.tmod (Int.tmod a0 86400) 60 = Int.tmod a0 60 := by simp
             rw [htm_] at A18
             clear htm_
             go_wp2_with (first | ((with_reducible refine gate_callee (f := 24) rfl ?_); refine goesL_ (some 19) rfl rfl Try.func24 (by kernel_rfl) rfl #[.int .i64 x5_2,.int .i64 x6_2] rfl (by (try simp only [List.map_toArray,List.map_cons,List.map_nil]); first | done | rfl | (simp only [List.length_drop,List.length_take]; rfl)) ?_; (with_reducible refine (halberdref13_days.calls x5_2 x6_2 t226 _ A5.out).mono ?_); rintro e w' ⟨rfl,⟨nd,rfl⟩⟩; refine ⟨_,rfl,?_⟩) | ((with_reducible refine gate_callee (f := 25) rfl ?_); refine goesL_ (some 36) rfl rfl Try.func25 (by kernel_rfl) rfl #[.int .i64 (Int.tmod x5_2 100)] rfl (by (try simp only [List.map_toArray,List.map_cons,List.map_nil]); first | done | rfl | (simp only [List.length_drop,List.length_take]; rfl)) ?_; (with_reducible refine (halberdref13_two.calls (Int.tmod x5_2 100) t228 _ A9.out).mono ?_); rintro e w22 ⟨rfl,hb⟩; refine ⟨_,rfl,?_⟩; have n0_ := Aside0.mk (below_step (by repeat (first | (with_reducible first | exact HB.out | apply below_alloc | apply pw_below_drewN | apply below_drew1) | exact HB.out)) hb); clear HB; have HB := n0_; clear n0_; (try clear hb); (try clear hb2); (try clear hk); (try clear hi)) | ((with_reducible refine gate_callee (f := 25) rfl ?_); refine goesL_ (some 38) rfl rfl Try.func25 (by kernel_rfl) rfl #[.int .i64 x6_2] rfl (by (try simp only [List.map_toArray,List.map_cons,List.map_nil]); first | done | rfl | (simp only [List.length_drop,List.length_take]; rfl)) ?_; (with_reducible refine (halberdref13_two.calls x6_2 t229 _ A10.out).mono ?_); rintro e w23 ⟨rfl,hb⟩; refine ⟨_,rfl,?_⟩; have n0_ := Aside0.mk (below_step (by repeat (first | (with_reducible first | exact HB.out | apply below_alloc | apply pw_below_drewN | apply below_drew1) | exact HB.out)) hb); clear HB; have HB := n0_; clear n0_; (try clear hb); (try clear hb2); (try clear hk); (try clear hi)) | ((with_reducible refine gate_callee (f := 25) rfl ?_); refine goesL_ (some 42) rfl rfl Try.func25 (by kernel_rfl) rfl #[.int .i64 (wrap64 (x4_2 + 1))] rfl (by (try simp only [List.map_toArray,List.map_cons,List.map_nil]); first | done | rfl | (simp only [List.length_drop,List.length_take]; rfl)) ?_; (with_reducible refine (halberdref13_two.calls (wrap64 (x4_2 + 1)) t231 _ A12.out).mono ?_); rintro e w24 ⟨rfl,hb⟩; refine ⟨_,rfl,?_⟩; have n0_ := Aside0.mk (below_step (by repeat (first | (with_reducible first | exact HB.out | apply below_alloc | apply pw_below_drewN | apply below_drew1) | exact HB.out)) hb); clear HB; have HB := n0_; clear n0_; (try clear hb); (try clear hb2); (try clear hk); (try clear hi)) | ((with_reducible refine gate_callee (f := 25) rfl ?_); refine goesL_ (some 46) rfl rfl Try.func25 (by kernel_rfl) rfl #[.int .i64 (wrap64 (Int.tdiv (Int.tmod a0 86400) 3600))] rfl (by (try simp only [List.map_toArray,List.map_cons,List.map_nil]); first | done | rfl | (simp only [List.length_drop,List.length_take]; rfl)) ?_; (with_reducible refine (halberdref13_two.calls (wrap64 (Int.tdiv (Int.tmod a0 86400) 3600)) t233 _ A14.out).mono ?_); rintro e w25 ⟨rfl,hb⟩; refine ⟨_,rfl,?_⟩; have n0_ := Aside0.mk (below_step (by repeat (first | (with_reducible first | exact HB.out | apply below_alloc | apply pw_below_drewN | apply below_drew1) | exact HB.out)) hb); clear HB; have HB := n0_; clear n0_; (try clear hb); (try clear hb2); (try clear hk); (try clear hi)) | ((with_reducible refine gate_callee (f := 25) rfl ?_); refine goesL_ (some 51) rfl rfl Try.func25 (by kernel_rfl) rfl #[.int .i64 (Int.tmod (wrap64 (Int.tdiv (Int.tmod a0 86400) 60)) 60)] rfl (by (try simp only [List.map_toArray,List.map_cons,List.map_nil]); first | done | rfl | (simp only [List.length_drop,List.length_take]; rfl)) ?_; (with_reducible refine (halberdref13_two.calls (Int.tmod (wrap64 (Int.tdiv (Int.tmod a0 86400) 60)) 60) t235 _ A16.out).mono ?_); rintro e w26 ⟨rfl,hb⟩; refine ⟨_,rfl,?_⟩; have n0_ := Aside0.mk (below_step (by repeat (first | (with_reducible first | exact HB.out | apply below_alloc | apply pw_below_drewN | apply below_drew1) | exact HB.out)) hb); clear HB; have HB := n0_; clear n0_; (try clear hb); (try clear hb2); (try clear hk); (try clear hi)) | ((with_reducible refine gate_callee (f := 25) rfl ?_); refine goesL_ (some 55) rfl rfl Try.func25 (by kernel_rfl) rfl #[.int .i64 (Int.tmod a0 60)] rfl (by (try simp only [List.map_toArray,List.map_cons,List.map_nil]); first | done | rfl | (simp only [List.length_drop,List.length_take]; rfl)) ?_; (with_reducible refine (halberdref13_two.calls (Int.tmod a0 60) t237 _ A18.out).mono ?_); rintro e w27 ⟨rfl,hb⟩; refine ⟨_,rfl,?_⟩; have n0_ := Aside0.mk (below_step (by repeat (first | (with_reducible first | exact HB.out | apply below_alloc | apply pw_below_drewN | apply below_drew1) | exact HB.out)) hb); clear HB; have HB := n0_; clear n0_; (try clear hb); (try clear hb2); (try clear hk); (try clear hi)) | ((with_reducible refine gate_callee (f := 21) rfl ?_); refine goesL_ (some 58) rfl rfl Try.func21 (by kernel_rfl) rfl #[.int .i64 23,.string ys239] rfl (by (try simp only [List.map_toArray,List.map_cons,List.map_nil]); first | done | rfl | (simp only [List.length_drop,List.length_take]; rfl)) ?_; (with_reducible refine (halberdref13_Tl.calls k2 23 ys239 t240 _ A21.out).mono ?_); rintro e w28 ⟨rfl,hb⟩; refine ⟨_,rfl,?_⟩; have n0_ := Aside0.mk (below_step (by repeat (first | (with_reducible first | exact HB.out | apply below_alloc | apply pw_below_drewN | apply below_drew1) | exact HB.out)) hb); clear HB; have HB := n0_; clear n0_; (try clear hb); (try clear hb2); (try clear hk); (try clear hi)))
             go_ret2
             exact ⟨by first | rfl | (simp [errW_none,errW_some] <;> rfl) | (simp [*,errW_none,errW_some] <;> rfl),by repeat (first | (with_reducible first | exact HB.out | apply below_alloc | apply pw_below_drewN | apply below_drew1) | exact HB.out)⟩
            ·rw [if_neg c20] at H
             exact absurd H (by simp)
           ·rw [if_neg c19] at H
            exact absurd H (by simp)
          ·rw [if_neg c17] at H
           exact absurd H (by simp)
         ·rw [if_neg c15] at H
          exact absurd H (by simp)
        ·rw [if_neg c13] at H
         exact absurd H (by simp)
       ·rw [if_neg c11] at H
        exact absurd H (by simp)

end Go.Proofs.Ytonemdclfgckoaa.X
