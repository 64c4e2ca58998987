-- Written by a program of this session (wip/tools/xprint.py), over the kit's printer.
import Derived.Test.YtonemdclfgckoaaXx0
import Derived.Test.YtonemdclfgckoaaXx5
namespace Go.Proofs.Ytonemdclfgckoaa.X
open Go.RowKit Go.Proofs.YtonemdclfgckoaaW.PrintWords Go.Proofs.YtonemdclfgckoaaW.PrintLast Go.Proofs.YtonemdclfgckoaaW.PrintMore
attribute [local go_sem] max2_int min2_int max_two min_two max_three min_three max_four min_four   -- for this text's walks alone
set_option linter.unusedVariables false
set_option linter.unusedSimpArgs false

/-! ### halberdref13_Put: function 30 -/
def halberdref13_Put.j0 : Nat → Int → ByteArray → Bool → Option (ByteArray × Int)
 | 0,_,_,_ => none
 | k + 1,x0,x1,x22 => if x22 = true then (some ((⟨#[]⟩ : ByteArray),1300)) else ((halberdref1_Be.f k (x1.size : Int) 1).bind fun t147 => (if (x1.size : Int) > 255 then ((halberdref1_Be.f k (x1.size : Int) 2).bind fun t148 => (if 1 + t148.size ≤ 9223372036854775807 then ((some ((⟨#[130]⟩ : ByteArray) ++ t148 : ByteArray)).bind fun ys149 => ((some (([(x0) % 256] : List Int) : List Int)).bind fun y150 => (if (strOfNums y150).size + ys149.size ≤ 9223372036854775807 then ((some ((strOfNums y150) ++ ys149 : ByteArray)).bind fun ys153 => (if ys153.size + x1.size ≤ 9223372036854775807 then (some ((ys153 ++ x1),0)) else (none))) else (none)))) else (none))) else (if (x1.size : Int) > 127 then (if 1 + t147.size ≤ 9223372036854775807 then ((some ((⟨#[129]⟩ : ByteArray) ++ t147 : ByteArray)).bind fun ys155 => ((some (([(x0) % 256] : List Int) : List Int)).bind fun y156 => (if (strOfNums y156).size + ys155.size ≤ 9223372036854775807 then ((some ((strOfNums y156) ++ ys155 : ByteArray)).bind fun ys159 => (if ys159.size + x1.size ≤ 9223372036854775807 then (some ((ys159 ++ x1),0)) else (none))) else (none)))) else (none)) else ((some (([(x0) % 256] : List Int) : List Int)).bind fun y161 => (if (strOfNums y161).size + t147.size ≤ 9223372036854775807 then ((some ((strOfNums y161) ++ t147 : ByteArray)).bind fun ys164 => (if ys164.size + x1.size ≤ 9223372036854775807 then (some ((ys164 ++ x1),0)) else (none))) else (none))))))
def halberdref13_Put.f (k : Nat) (a0 : Int) (a1 : ByteArray) : Option (ByteArray × Int) := if a0 < 0 then (halberdref13_Put.j0 k a0 a1 true) else (if a0 > 255 then (halberdref13_Put.j0 k a0 a1 true) else (if (Go.bits .and .i64 a0 31) = 31 then (halberdref13_Put.j0 k a0 a1 true) else (halberdref13_Put.j0 k a0 a1 (decide ((a1.size : Int) > 65535)))))
theorem halberdref13_Put.mono_l : ∀ k,(∀ y0 y1 y2,LeO (halberdref13_Put.j0 k y0 y1 y2) (halberdref13_Put.j0 (k + 1) y0 y1 y2))
 | 0 => fun _ _ _ r h => by simp [halberdref13_Put.j0] at h
 | k + 1 => by
  have ih0 := halberdref13_Put.mono_l k
  ·intro y0 y1 y2
   unfold halberdref13_Put.j0
   repeat' first
   | (with_reducible exact ih0 _ _ _)
   | (with_reducible exact halberdref1_Be.mono _ _ _)
   | (with_reducible exact LeO.refl _)
   | (with_reducible exact LeO.none _)
   | (with_reducible refine LeO.ite ?_ ?_)
   | (with_reducible refine LeO.bind ?_ (fun _ => ?_))
   | exact ih0 _ _ _
   | exact halberdref1_Be.mono _ _ _
   | exact LeO.none _
   | refine LeO.ite ?_ ?_
   | refine LeO.bind ?_ (fun _ => ?_)
theorem halberdref13_Put.mono : ∀ a0 a1 k,LeO (halberdref13_Put.f k a0 a1) (halberdref13_Put.f (k + 1) a0 a1) := by
 intro a0 a1 k
 have ih0 := halberdref13_Put.mono_l k
 unfold halberdref13_Put.f
 repeat' first
   | (with_reducible exact ih0 _ _ _)
   | (with_reducible exact halberdref1_Be.mono _ _ _)
   | (with_reducible exact LeO.refl _)
   | (with_reducible exact LeO.none _)
   | (with_reducible refine LeO.ite ?_ ?_)
   | (with_reducible refine LeO.bind ?_ (fun _ => ?_))
   | exact ih0 _ _ _
   | exact halberdref1_Be.mono _ _ _
   | exact LeO.none _
   | refine LeO.ite ?_ ?_
   | refine LeO.bind ?_ (fun _ => ?_)
set_option maxHeartbeats 8000000 in
set_option maxRecDepth 100000 in
theorem halberdref13_Put.calls (k : Nat) (a0 : Int) (a1 : ByteArray) (r1 : ByteArray) (r2 : Int) (w : World) (h : halberdref13_Put.f k a0 a1 = some (r1,r2)) :
  Calls Try.prog 30 #[.int .i64 a0,.string a1] w fun e w' => e = .returned (.tuple #[.string r1,.int .i64 r2]) ∧ Below w.heap.size w w' := by
 have HB := Aside0.mk (Below.refl w.heap.size w)
 have H : (if a0 < 0 then (halberdref13_Put.j0 k a0 a1 true) else (if a0 > 255 then (halberdref13_Put.j0 k a0 a1 true) else (if (Go.bits .and .i64 a0 31) = 31 then (halberdref13_Put.j0 k a0 a1 true) else (halberdref13_Put.j0 k a0 a1 (decide ((a1.size : Int) > 65535)))))) = some (r1,r2) := h
 clear h
 have HC3 := Aside0.mk H
 clear H
 go_enter Try.func30,Try.ntmps30
 go_upto_region 1 with (fail)
 go_cut [22] (fun v22 wc => ∃ (kq : Nat) (x22_2 : Bool),v22 = .bool x22_2 ∧ Aside0 (halberdref13_Put.j0 kq a0 a1 x22_2 = some (r1,r2)) ∧ Aside0 (kq ≤ k) ∧ Aside0 (Below w.heap.size w wc))
 case first =>
  have H := HC3.out
  clear HC3
  by_cases c4 : a0 < 0
  ·rw [if_pos c4] at H
   have c4b0 : decide (a0 < 0) = true := decide_eq_true c4
   clear c4
   (first | rw [c4b0] | (simp only [i64_w,i32_w]; rw [c4b0]) | skip)
   have H' := Aside0.mk H
   clear H
   go_wp2
   go_meet
   case rel => exact ⟨_,(true),(by first | rfl | (simp; done) | (simp [*]; done)),H',⟨by first | omega | exact Nat.le_refl _⟩,⟨by repeat (first | (with_reducible first | exact HB.out | apply below_alloc | apply pw_below_drewN | apply below_drew1) | exact HB.out)⟩⟩
  ·rw [if_neg c4] at H
   have c4b0 : decide (a0 < 0) = false := decide_eq_false c4
   clear c4
   (first | rw [c4b0] | (simp only [i64_w,i32_w]; rw [c4b0]) | skip)
   by_cases c5 : a0 > 255
   ·rw [if_pos c5] at H
    have c5b0 : decide (255 < a0) = true := decide_eq_true c5
    clear c5
    have H' := Aside0.mk H
    clear H
    go_wp2
    go_meet
    case rel => exact ⟨_,(true),(by first | rfl | (simp; done) | (simp [*]; done)),H',⟨by first | omega | exact Nat.le_refl _⟩,⟨by repeat (first | (with_reducible first | exact HB.out | apply below_alloc | apply pw_below_drewN | apply below_drew1) | exact HB.out)⟩⟩
   ·rw [if_neg c5] at H
    have c5b0 : decide (255 < a0) = false := decide_eq_false c5
    clear c5
    by_cases c6 : (Go.bits .and .i64 a0 31) = 31
    ·rw [if_pos c6] at H
     have c6b0 : ((Go.bits .and .i64 a0 31) == 31) = true := beq_iff_eq.mpr c6
     have c6b1 : ((Go.bits .and .i64 a0 31) != 31) = false := bne_eq_false_iff_eq.mpr c6
     clear c6
     have H' := Aside0.mk H
     clear H
     go_wp2
     go_meet
     case rel => exact ⟨_,(true),(by first | rfl | (simp; done) | (simp [*]; done)),H',⟨by first | omega | exact Nat.le_refl _⟩,⟨by repeat (first | (with_reducible first | exact HB.out | apply below_alloc | apply pw_below_drewN | apply below_drew1) | exact HB.out)⟩⟩
    ·rw [if_neg c6] at H
     have c6b0 : ((Go.bits .and .i64 a0 31) == 31) = false := beq_eq_false_iff_ne.mpr c6
     have c6b1 : ((Go.bits .and .i64 a0 31) != 31) = true := bne_iff_ne.mpr c6
     have H' := Aside0.mk H
     clear H
     go_wp2
     go_meet
     case rel => exact ⟨_,(decide ((a1.size : Int) > 65535)),(by first | rfl | (simp; done) | (simp [*]; done)),H',⟨by first | omega | exact Nat.le_refl _⟩,⟨by repeat (first | (with_reducible first | exact HB.out | apply below_alloc | apply pw_below_drewN | apply below_drew1) | exact HB.out)⟩⟩
 case rest =>
  clear HC3
  try clear p2
  try clear c3
  try clear c4
  try clear c4b0
  try clear c5
  try clear c5b0
  try clear c6
  try clear c6b0
  try clear c6b1
  obtain ⟨kq,x22_2,rfl,HA,HJ2,HB⟩ := hcut
  cases kq with
  | zero => exact absurd HA.out (by simp [halberdref13_Put.j0])
  | succ kj2 =>
   have H := HA.out
   clear HA
   simp only [halberdref13_Put.j0] at H
   by_cases c7 : x22_2 = true
   ·subst c7
    have H1 : (some ((⟨#[]⟩ : ByteArray),1300)) = some (r1,r2) := by rw [if_pos rfl] at H; exact H
    clear H
    have H := H1
    clear H1
    simp only [Option.some.injEq,Prod.mk.injEq] at H
    obtain ⟨rfl,rfl⟩ := H
    go_wp2
    go_ret2
    exact ⟨by first | rfl | (simp [errW_none,errW_some] <;> rfl) | (simp [*,errW_none,errW_some] <;> rfl),by repeat (first | (with_reducible first | exact HB.out | apply below_alloc | apply pw_below_drewN | apply below_drew1) | exact HB.out)⟩
   ·replace c7 := Bool.eq_false_iff.mpr c7
    subst c7
    have H1 : ((halberdref1_Be.f kj2 (a1.size : Int) 1).bind fun t147 => (if (a1.size : Int) > 255 then ((halberdref1_Be.f kj2 (a1.size : Int) 2).bind fun t148 => (if 1 + t148.size ≤ 9223372036854775807 then ((some ((⟨#[130]⟩ : ByteArray) ++ t148 : ByteArray)).bind fun ys149 => ((some (([(a0) % 256] : List Int) : List Int)).bind fun y150 => (if (strOfNums y150).size + ys149.size ≤ 9223372036854775807 then ((some ((strOfNums y150) ++ ys149 : ByteArray)).bind fun ys153 => (if ys153.size + a1.size ≤ 9223372036854775807 then (some ((ys153 ++ a1),0)) else (none))) else (none)))) else (none))) else (if (a1.size : Int) > 127 then (if 1 + t147.size ≤ 9223372036854775807 then ((some ((⟨#[129]⟩ : ByteArray) ++ t147 : ByteArray)).bind fun ys155 => ((some (([(a0) % 256] : List Int) : List Int)).bind fun y156 => (if (strOfNums y156).size + ys155.size ≤ 9223372036854775807 then ((some ((strOfNums y156) ++ ys155 : ByteArray)).bind fun ys159 => (if ys159.size + a1.size ≤ 9223372036854775807 then (some ((ys159 ++ a1),0)) else (none))) else (none)))) else (none)) else ((some (([(a0) % 256] : List Int) : List Int)).bind fun y161 => (if (strOfNums y161).size + t147.size ≤ 9223372036854775807 then ((some ((strOfNums y161) ++ t147 : ByteArray)).bind fun ys164 => (if ys164.size + a1.size ≤ 9223372036854775807 then (some ((ys164 ++ a1),0)) else (none))) else (none)))))) = some (r1,r2) := by rw [if_neg (show ¬ (false = true) by decide)] at H; exact H
    clear H
    have H := H1
    clear H1
    replace H := Option.bind_eq_some_iff.mp H
    obtain ⟨t147,A80,H⟩ := H
    replace H : (if (a1.size : Int) > 255 then ((halberdref1_Be.f kj2 (a1.size : Int) 2).bind fun t148 => (if 1 + t148.size ≤ 9223372036854775807 then ((some ((⟨#[130]⟩ : ByteArray) ++ t148 : ByteArray)).bind fun ys149 => ((some (([(a0) % 256] : List Int) : List Int)).bind fun y150 => (if (strOfNums y150).size + ys149.size ≤ 9223372036854775807 then ((some ((strOfNums y150) ++ ys149 : ByteArray)).bind fun ys153 => (if ys153.size + a1.size ≤ 9223372036854775807 then (some ((ys153 ++ a1),0)) else (none))) else (none)))) else (none))) else (if (a1.size : Int) > 127 then (if 1 + t147.size ≤ 9223372036854775807 then ((some ((⟨#[129]⟩ : ByteArray) ++ t147 : ByteArray)).bind fun ys155 => ((some (([(a0) % 256] : List Int) : List Int)).bind fun y156 => (if (strOfNums y156).size + ys155.size ≤ 9223372036854775807 then ((some ((strOfNums y156) ++ ys155 : ByteArray)).bind fun ys159 => (if ys159.size + a1.size ≤ 9223372036854775807 then (some ((ys159 ++ a1),0)) else (none))) else (none)))) else (none)) else ((some (([(a0) % 256] : List Int) : List Int)).bind fun y161 => (if (strOfNums y161).size + t147.size ≤ 9223372036854775807 then ((some ((strOfNums y161) ++ t147 : ByteArray)).bind fun ys164 => (if ys164.size + a1.size ≤ 9223372036854775807 then (some ((ys164 ++ a1),0)) else (none))) else (none))))) = some (r1,r2) := H
    have A8 := Aside0.mk A80
    clear A80
    by_cases c9 : (a1.size : Int) > 255
    ·rw [if_pos c9] at H
     have c9b0 : decide (255 < (a1.size : Int)) = true := decide_eq_true c9
     have c9b1 : decide (255 < a1.size) = true := decide_eq_true (by omega)
     clear c9
     replace H := Option.bind_eq_some_iff.mp H
     obtain ⟨t148,A100,H⟩ := H
     replace H : (if 1 + t148.size ≤ 9223372036854775807 then ((some ((⟨#[130]⟩ : ByteArray) ++ t148 : ByteArray)).bind fun ys149 => ((some (([(a0) % 256] : List Int) : List Int)).bind fun y150 => (if (strOfNums y150).size + ys149.size ≤ 9223372036854775807 then ((some ((strOfNums y150) ++ ys149 : ByteArray)).bind fun ys153 => (if ys153.size + a1.size ≤ 9223372036854775807 then (some ((ys153 ++ a1),0)) else (none))) else (none)))) else (none)) = some (r1,r2) := H
     have A10 := Aside0.mk A100
     clear A100
     by_cases c11 : 1 + t148.size ≤ 9223372036854775807
     ·rw [if_pos c11] at H
      have c11b0 := eq_true c11
      have c11b1 : decide (1 + t148.size ≤ 9223372036854775807) = true := decide_eq_true c11
      try have c11b2 : (9223372036854775807 < 1 + t148.size) = False := eq_false (Nat.not_lt.2 c11)
      obtain ⟨ys149,hys149⟩ : ∃ y_ : ByteArray,y_ = ((⟨#[130]⟩ : ByteArray) ++ t148) := ⟨_,rfl⟩
      replace H : ((some (([(a0) % 256] : List Int) : List Int)).bind fun y150 => (if (strOfNums y150).size + ys149.size ≤ 9223372036854775807 then ((some ((strOfNums y150) ++ ys149 : ByteArray)).bind fun ys153 => (if ys153.size + a1.size ≤ 9223372036854775807 then (some ((ys153 ++ a1),0)) else (none))) else (none))) = some (r1,r2) := by first | (rw [hys149]; with_reducible exact H) | (have H2_ := (Option.bind_some _ _).symm.trans H; rw [hys149]; with_reducible exact H2_) | (have H2_ := (Option.bind_some _ _).symm.trans H; with_reducible exact H2_) | with_reducible exact H | (rw [hys149]; exact H) | exact H
      have Nys149 := Aside0.mk hys149
      clear hys149
      have Sys149 := Nys149.out.symm
      obtain ⟨y150,hy150⟩ : ∃ y_ : List Int,y_ = (([(a0) % 256] : List Int)) := ⟨_,rfl⟩
      replace H : (if (strOfNums y150).size + ys149.size ≤ 9223372036854775807 then ((some ((strOfNums y150) ++ ys149 : ByteArray)).bind fun ys153 => (if ys153.size + a1.size ≤ 9223372036854775807 then (some ((ys153 ++ a1),0)) else (none))) else (none)) = some (r1,r2) := by first | (rw [hy150]; with_reducible exact H) | (have H2_ := (Option.bind_some _ _).symm.trans H; rw [hy150]; with_reducible exact H2_) | (have H2_ := (Option.bind_some _ _).symm.trans H; with_reducible exact H2_) | with_reducible exact H | (rw [hy150]; exact H) | exact H
      have Ny150 := Aside0.mk hy150
      clear hy150
      by_cases c12 : (strOfNums y150).size + ys149.size ≤ 9223372036854775807
      ·rw [if_pos c12] at H
       have c12b0 := eq_true c12
       have c12b1 : decide ((strOfNums y150).size + ys149.size ≤ 9223372036854775807) = true := decide_eq_true c12
       try have c12b2 : (9223372036854775807 < (strOfNums y150).size + ys149.size) = False := eq_false (Nat.not_lt.2 c12)
       obtain ⟨ys153,hys153⟩ : ∃ y_ : ByteArray,y_ = ((strOfNums y150) ++ ys149) := ⟨_,rfl⟩
       replace H : (if ys153.size + a1.size ≤ 9223372036854775807 then (some ((ys153 ++ a1),0)) else (none)) = some (r1,r2) := by first | (rw [hys153]; with_reducible exact H) | (have H2_ := (Option.bind_some _ _).symm.trans H; rw [hys153]; with_reducible exact H2_) | (have H2_ := (Option.bind_some _ _).symm.trans H; with_reducible exact H2_) | with_reducible exact H | (rw [hys153]; exact H) | exact H
       have Nys153 := Aside0.mk hys153
       clear hys153
       have Sys153 := Nys153.out.symm
       by_cases c13 : ys153.size + a1.size ≤ 9223372036854775807
       ·rw [if_pos c13] at H
        have c13b0 := eq_true c13
        have c13b1 : decide (ys153.size + a1.size ≤ 9223372036854775807) = true := decide_eq_true c13
        try have c13b2 : (9223372036854775807 < ys153.size + a1.size) = False := eq_false (Nat.not_lt.2 c13)
        obtain ⟨ys154,hys154⟩ : ∃ y_ : ByteArray,y_ = (ys153 ++ a1) := ⟨_,rfl⟩
        replace H : (some (ys154,0)) = some (r1,r2) := by first | (rw [hys154]; with_reducible exact H) | (have H2_ := (Option.bind_some _ _).symm.trans H; rw [hys154]; with_reducible exact H2_) | (have H2_ := (Option.bind_some _ _).symm.trans H; with_reducible exact H2_) | with_reducible exact H | (rw [hys154]; exact H) | exact H
        have Nys154 := Aside0.mk hys154
        clear hys154
        have Sys154 := Nys154.out.symm
        simp only [Option.some.injEq,Prod.mk.injEq] at H
        obtain ⟨rfl,rfl⟩ := H
        go_wp2_with (first | ((with_reducible refine gate_callee (f := 33) rfl ?_); refine goesL_ (some 25) rfl rfl Try.func33 (by kernel_rfl) rfl #[.int .i64 (a1.size : Int),.int .i64 1] rfl (by (try simp only [List.map_toArray,List.map_cons,List.map_nil]); first | done | rfl | (simp only [List.length_drop,List.length_take]; rfl)) ?_; (with_reducible refine (halberdref1_Be.calls kj2 (a1.size : Int) 1 t147 _ A8.out).mono ?_); rintro e w14 ⟨rfl,hb⟩; refine ⟨_,rfl,?_⟩; have n0_ := Aside0.mk (below_step (by repeat (first | (with_reducible first | exact HB.out | apply below_alloc | apply pw_below_drewN | apply below_drew1) | exact HB.out)) hb); clear HB; have HB := n0_; clear n0_; (try clear hb); (try clear hb2); (try clear hk); (try clear hi)) | ((with_reducible refine gate_callee (f := 33) rfl ?_); refine goesL_ (some 32) rfl rfl Try.func33 (by kernel_rfl) rfl #[.int .i64 (a1.size : Int),.int .i64 2] rfl (by (try simp only [List.map_toArray,List.map_cons,List.map_nil]); first | done | rfl | (simp only [List.length_drop,List.length_take]; rfl)) ?_; (with_reducible refine (halberdref1_Be.calls kj2 (a1.size : Int) 2 t148 _ A10.out).mono ?_); rintro e w15 ⟨rfl,hb⟩; refine ⟨_,rfl,?_⟩; have n0_ := Aside0.mk (below_step (by repeat (first | (with_reducible first | exact HB.out | apply below_alloc | apply pw_below_drewN | apply below_drew1) | exact HB.out)) hb); clear HB; have HB := n0_; clear n0_; (try clear hb); (try clear hb2); (try clear hk); (try clear hi)) | ((with_reducible refine gate_dst (N := 42) rfl ?_); (try (refine gate_guard (by rfl) ?_; dsimp only)); refine Kd.R_lit (Kd.int .u8) _ 5 ?hg (N := 42) ?hd (xs := ([(a0) % 256] : List Int)) (inner := [.int .u8 ((a0) % 256)]) (ok := fun _ => True) (okp := fun _ => True) ?hr ?hp (fun _ hk => hk) trivial (Below.refl _ _) (Nat.le_refl _) (by simp) ?_; (case hd => rfl); (case hg => rfl); (case hr => first | (go_simp; done) | (go_simp; rfl)); (case hp => exact (Reps.one (show Kd.M (Kd.int .u8) _ _ _ ((a0) % 256) [.int .u8 ((a0) % 256)] from rfl) (Reps.none _ _))); intro v151 w16 ho17 hb hg_ hnew_; clear hg_ hnew_; (first | rw [← Ny150.out] at ho17 | (simp only [Int.reduceToNat] at ho17; rw [← Ny150.out] at ho17)); have n0_ := Aside0.mk (Kd.R_lower ho17 (below_size (by repeat (first | (with_reducible first | exact HB.out | apply below_alloc | apply pw_below_drewN | apply below_drew1) | exact HB.out)))); have n1_ := Aside0.mk (below_step (by repeat (first | (with_reducible first | exact HB.out | apply below_alloc | apply pw_below_drewN | apply below_drew1) | exact HB.out)) hb); clear HB; have HO152 := n0_; have HB := n1_; clear n0_ n1_; clear hb ho17; have hcv18 := own_string (P := Try.prog) Try.underlying38 Try.underlying5 Try.underlying9 (Kd.own_of_R HO152.out)))
        go_ret2
        exact ⟨by first | rfl | (simp [errW_none,errW_some] <;> rfl) | (simp [*,errW_none,errW_some] <;> rfl),by repeat (first | (with_reducible first | exact HB.out | apply below_alloc | apply pw_below_drewN | apply below_drew1) | exact HB.out)⟩
       ·rw [if_neg c13] at H
        exact absurd H (by simp)
      ·rw [if_neg c12] at H
       exact absurd H (by simp)
     ·rw [if_neg c11] at H
      exact absurd H (by simp)
    ·rw [if_neg c9] at H
     have c9b0 : decide (255 < (a1.size : Int)) = false := decide_eq_false c9
     have c9b1 : decide (255 < a1.size) = false := decide_eq_false (by omega)
     clear c9
     by_cases c19 : (a1.size : Int) > 127
     ·rw [if_pos c19] at H
      have c19b0 : decide (127 < (a1.size : Int)) = true := decide_eq_true c19
      have c19b1 : decide (127 < a1.size) = true := decide_eq_true (by omega)
      clear c19
      by_cases c20 : 1 + t147.size ≤ 9223372036854775807
      ·rw [if_pos c20] at H
       have c20b0 := eq_true c20
       have c20b1 : decide (1 + t147.size ≤ 9223372036854775807) = true := decide_eq_true c20
       try have c20b2 : (9223372036854775807 < 1 + t147.size) = False := eq_false (Nat.not_lt.2 c20)
       obtain ⟨ys155,hys155⟩ : ∃ y_ : ByteArray,y_ = ((⟨#[129]⟩ : ByteArray) ++ t147) := ⟨_,rfl⟩
       replace H : ((some (([(a0) % 256] : List Int) : List Int)).bind fun y156 => (if (strOfNums y156).size + ys155.size ≤ 9223372036854775807 then ((some ((strOfNums y156) ++ ys155 : ByteArray)).bind fun ys159 => (if ys159.size + a1.size ≤ 9223372036854775807 then (some ((ys159 ++ a1),0)) else (none))) else (none))) = some (r1,r2) := by first | (rw [hys155]; with_reducible exact H) | (have H2_ := (Option.bind_some _ _).symm.trans H; rw [hys155]; with_reducible exact H2_) | (have H2_ := (Option.bind_some _ _).symm.trans H; with_reducible exact H2_) | with_reducible exact H | (rw [hys155]; exact H) | exact H
       have Nys155 := Aside0.mk hys155
       clear hys155
       have Sys155 := Nys155.out.symm
       obtain ⟨y156,hy156⟩ : ∃ y_ : List Int,y_ = (([(a0) % 256] : List Int)) := ⟨_,rfl⟩
       replace H : (if (strOfNums y156).size + ys155.size ≤ 9223372036854775807 then ((some ((strOfNums y156) ++ ys155 : ByteArray)).bind fun ys159 => (if ys159.size + a1.size ≤ 9223372036854775807 then (some ((ys159 ++ a1),0)) else (none))) else (none)) = some (r1,r2) := by first | (rw [hy156]; with_reducible exact H) | (have H2_ := (Option.bind_some _ _).symm.trans H; rw [hy156]; with_reducible exact H2_) | (have H2_ := (Option.bind_some _ _).symm.trans H; with_reducible exact H2_) | with_reducible exact H | (rw [hy156]; exact H) | exact H
       have Ny156 := Aside0.mk hy156
       clear hy156
       by_cases c21 : (strOfNums y156).size + ys155.size ≤ 9223372036854775807
       ·rw [if_pos c21] at H
        have c21b0 := eq_true c21
        have c21b1 : decide ((strOfNums y156).size + ys155.size ≤ 9223372036854775807) = true := decide_eq_true c21
        try have c21b2 : (9223372036854775807 < (strOfNums y156).size + ys155.size) = False := eq_false (Nat.not_lt.2 c21)
        obtain ⟨ys159,hys159⟩ : ∃ y_ : ByteArray,y_ = ((strOfNums y156) ++ ys155) := ⟨_,rfl⟩
        replace H : (if ys159.size + a1.size ≤ 9223372036854775807 then (some ((ys159 ++ a1),0)) else (none)) = some (r1,r2) := by first | (rw [hys159]; with_reducible exact H) | (have H2_ := (Option.bind_some _ _).symm.trans H; rw [hys159]; with_reducible exact H2_) | (have H2_ := (Option.bind_some _ _).symm.trans H; with_reducible exact H2_) | with_reducible exact H | (rw [hys159]; exact H) | exact H
        have Nys159 := Aside0.mk hys159
        clear hys159
        have Sys159 := Nys159.out.symm
        by_cases c22 : ys159.size + a1.size ≤ 9223372036854775807
        ·rw [if_pos c22] at H
         have c22b0 := eq_true c22
         have c22b1 : decide (ys159.size + a1.size ≤ 9223372036854775807) = true := decide_eq_true c22
         try have c22b2 : (9223372036854775807 < ys159.size + a1.size) = False := eq_false (Nat.not_lt.2 c22)
         obtain ⟨ys160,hys160⟩ : ∃ y_ : ByteArray,y_ = (ys159 ++ a1) := ⟨_,rfl⟩
         replace H : (some (ys160,0)) = some (r1,r2) := by first | (rw [hys160]; with_reducible exact H) | (have H2_ := (Option.bind_some _ _).symm.trans H; rw [hys160]; with_reducible exact H2_) | (have H2_ := (Option.bind_some _ _).symm.trans H; with_reducible exact H2_) | with_reducible exact H | (rw [hys160]; exact H) | exact H
         have Nys160 := Aside0.mk hys160
         clear hys160
         have Sys160 := Nys160.out.symm
         simp only [Option.some.injEq,Prod.mk.injEq] at H
         obtain ⟨rfl,rfl⟩ := H
         go_wp2_with (first | ((with_reducible refine gate_callee (f := 33) rfl ?_); refine goesL_ (some 25) rfl rfl Try.func33 (by kernel_rfl) rfl #[.int .i64 (a1.size : Int),.int .i64 1] rfl (by (try simp only [List.map_toArray,List.map_cons,List.map_nil]); first | done | rfl | (simp only [List.length_drop,List.length_take]; rfl)) ?_; (with_reducible refine (halberdref1_Be.calls kj2 (a1.size : Int) 1 t147 _ A8.out).mono ?_); rintro e w23 ⟨rfl,hb⟩; refine ⟨_,rfl,?_⟩; have n0_ := Aside0.mk (below_step (by repeat (first | (with_reducible first | exact HB.out | apply below_alloc | apply pw_below_drewN | apply below_drew1) | exact HB.out)) hb); clear HB; have HB := n0_; clear n0_; (try clear hb); (try clear hb2); (try clear hk); (try clear hi)) | ((with_reducible refine gate_dst (N := 42) rfl ?_); (try (refine gate_guard (by rfl) ?_; dsimp only)); refine Kd.R_lit (Kd.int .u8) _ 5 ?hg (N := 42) ?hd (xs := ([(a0) % 256] : List Int)) (inner := [.int .u8 ((a0) % 256)]) (ok := fun _ => True) (okp := fun _ => True) ?hr ?hp (fun _ hk => hk) trivial (Below.refl _ _) (Nat.le_refl _) (by simp) ?_; (case hd => rfl); (case hg => rfl); (case hr => first | (go_simp; done) | (go_simp; rfl)); (case hp => exact (Reps.one (show Kd.M (Kd.int .u8) _ _ _ ((a0) % 256) [.int .u8 ((a0) % 256)] from rfl) (Reps.none _ _))); intro v157 w24 ho25 hb hg_ hnew_; clear hg_ hnew_; (first | rw [← Ny156.out] at ho25 | (simp only [Int.reduceToNat] at ho25; rw [← Ny156.out] at ho25)); have n0_ := Aside0.mk (Kd.R_lower ho25 (below_size (by repeat (first | (with_reducible first | exact HB.out | apply below_alloc | apply pw_below_drewN | apply below_drew1) | exact HB.out)))); have n1_ := Aside0.mk (below_step (by repeat (first | (with_reducible first | exact HB.out | apply below_alloc | apply pw_below_drewN | apply below_drew1) | exact HB.out)) hb); clear HB; have HO158 := n0_; have HB := n1_; clear n0_ n1_; clear hb ho25; have hcv26 := own_string (P := Try.prog) Try.underlying38 Try.underlying5 Try.underlying9 (Kd.own_of_R HO158.out)))
         go_ret2
         exact ⟨by first | rfl | (simp [errW_none,errW_some] <;> rfl) | (simp [*,errW_none,errW_some] <;> rfl),by repeat (first | (with_reducible first | exact HB.out | apply below_alloc | apply pw_below_drewN | apply below_drew1) | exact HB.out)⟩
        ·rw [if_neg c22] at H
         exact absurd H (by simp)
       ·rw [if_neg c21] at H
        exact absurd H (by simp)
      ·rw [if_neg c20] at H
       exact absurd H (by simp)
     ·rw [if_neg c19] at H
      have c19b0 : decide (127 < (a1.size : Int)) = false := decide_eq_false c19
      have c19b1 : decide (127 < a1.size) = false := decide_eq_false (by omega)
      clear c19
      obtain ⟨y161,hy161⟩ : ∃ y_ : List Int,y_ = (([(a0) % 256] : List Int)) := ⟨_,rfl⟩
      replace H : (if (strOfNums y161).size + t147.size ≤ 9223372036854775807 then ((some ((strOfNums y161) ++ t147 : ByteArray)).bind fun ys164 => (if ys164.size + a1.size ≤ 9223372036854775807 then (some ((ys164 ++ a1),0)) else (none))) else (none)) = some (r1,r2) := by first | (rw [hy161]; with_reducible exact H) | (have H2_ := (Option.bind_some _ _).symm.trans H; rw [hy161]; with_reducible exact H2_) | (have H2_ := (Option.bind_some _ _).symm.trans H; with_reducible exact H2_) | with_reducible exact H | (rw [hy161]; exact H) | exact H
      have Ny161 := Aside0.mk hy161
      clear hy161
      by_cases c27 : (strOfNums y161).size + t147.size ≤ 9223372036854775807
      ·rw [if_pos c27] at H
       have c27b0 := eq_true c27
       have c27b1 : decide ((strOfNums y161).size + t147.size ≤ 9223372036854775807) = true := decide_eq_true c27
       try have c27b2 : (9223372036854775807 < (strOfNums y161).size + t147.size) = False := eq_false (Nat.not_lt.2 c27)
       obtain ⟨ys164,hys164⟩ : ∃ y_ : ByteArray,y_ = ((strOfNums y161) ++ t147) := ⟨_,rfl⟩
       replace H : (if ys164.size + a1.size ≤ 9223372036854775807 then (some ((ys164 ++ a1),0)) else (none)) = some (r1,r2) := by first | (rw [hys164]; with_reducible exact H) | (have H2_ := (Option.bind_some _ _).symm.trans H; rw [hys164]; with_reducible exact H2_) | (have H2_ := (Option.bind_some _ _).symm.trans H; with_reducible exact H2_) | with_reducible exact H | (rw [hys164]; exact H) | exact H
       have Nys164 := Aside0.mk hys164
       clear hys164
       have Sys164 := Nys164.out.symm
       by_cases c28 : ys164.size + a1.size ≤ 9223372036854775807
       ·rw [if_pos c28] at H
        have c28b0 := eq_true c28
        have c28b1 : decide (ys164.size + a1.size ≤ 9223372036854775807) = true := decide_eq_true c28
        try have c28b2 : (9223372036854775807 < ys164.size + a1.size) = False := eq_false (Nat.not_lt.2 c28)
        obtain ⟨ys165,hys165⟩ : ∃ y_ : ByteArray,y_ = (ys164 ++ a1) := ⟨_,rfl⟩
        replace H : (some (ys165,0)) = some (r1,r2) := by first | (rw [hys165]; with_reducible exact H) | (have H2_ := (Option.bind_some _ _).symm.trans H; rw [hys165]; with_reducible exact H2_) | (have H2_ := (Option.bind_some _ _).symm.trans H; with_reducible exact H2_) | with_reducible exact H | (rw [hys165]; exact H) | exact H
        have Nys165 := Aside0.mk hys165
        clear hys165
        have Sys165 := Nys165.out.symm
        simp only [Option.some.injEq,Prod.mk.injEq] at H
        obtain ⟨rfl,rfl⟩ := H
        go_wp2_with (first | ((with_reducible refine gate_callee (f := 33) rfl ?_); refine goesL_ (some 25) rfl rfl Try.func33 (by kernel_rfl) rfl #[.int .i64 (a1.size : Int),.int .i64 1] rfl (by (try simp only [List.map_toArray,List.map_cons,List.map_nil]); first | done | rfl | (simp only [List.length_drop,List.length_take]; rfl)) ?_; (with_reducible refine (halberdref1_Be.calls kj2 (a1.size : Int) 1 t147 _ A8.out).mono ?_); rintro e w29 ⟨rfl,hb⟩; refine ⟨_,rfl,?_⟩; have n0_ := Aside0.mk (below_step (by repeat (first | (with_reducible first | exact HB.out | apply below_alloc | apply pw_below_drewN | apply below_drew1) | exact HB.out)) hb); clear HB; have HB := n0_; clear n0_; (try clear hb); (try clear hb2); (try clear hk); (try clear hi)) | ((with_reducible refine gate_dst (N := 42) rfl ?_); (try (refine gate_guard (by rfl) ?_; dsimp only)); refine Kd.R_lit (Kd.int .u8) _ 5 ?hg (N := 42) ?hd (xs := ([(a0) % 256] : List Int)) (inner := [.int .u8 ((a0) % 256)]) (ok := fun _ => True) (okp := fun _ => True) ?hr ?hp (fun _ hk => hk) trivial (Below.refl _ _) (Nat.le_refl _) (by simp) ?_; (case hd => rfl); (case hg => rfl); (case hr => first | (go_simp; done) | (go_simp; rfl)); (case hp => exact (Reps.one (show Kd.M (Kd.int .u8) _ _ _ ((a0) % 256) [.int .u8 ((a0) % 256)] from rfl) (Reps.none _ _))); intro v162 w30 ho31 hb hg_ hnew_; clear hg_ hnew_; (first | rw [← Ny161.out] at ho31 | (simp only [Int.reduceToNat] at ho31; rw [← Ny161.out] at ho31)); have n0_ := Aside0.mk (Kd.R_lower ho31 (below_size (by repeat (first | (with_reducible first | exact HB.out | apply below_alloc | apply pw_below_drewN | apply below_drew1) | exact HB.out)))); have n1_ := Aside0.mk (below_step (by repeat (first | (with_reducible first | exact HB.out | apply below_alloc | apply pw_below_drewN | apply below_drew1) | exact HB.out)) hb); clear HB; have HO163 := n0_; have HB := n1_; clear n0_ n1_; clear hb ho31; have hcv32 := own_string (P := Try.prog) Try.underlying38 Try.underlying5 Try.underlying9 (Kd.own_of_R HO163.out)))
        go_ret2
        exact ⟨by first | rfl | (simp [errW_none,errW_some] <;> rfl) | (simp [*,errW_none,errW_some] <;> rfl),by repeat (first | (with_reducible first | exact HB.out | apply below_alloc | apply pw_below_drewN | apply below_drew1) | exact HB.out)⟩
       ·rw [if_neg c28] at H
        exact absurd H (by simp)
      ·rw [if_neg c27] at H
       exact absurd H (by simp)

end Go.Proofs.Ytonemdclfgckoaa.X
