/- Words, contracts and lemmas that the claim needs, in the order in which they build. Conditions: each lemma's own. -/
import Derived.OrdersHeld
import Derived.Tactics
import Derived.Test.YtlkebjkpmiehcaaHr3
section
namespace Go.Proofs.Ytlkebjkpmiehcaa.Ms
open Go.RowKit Go.Proofs.YtlkebjkpmiehcaaW.PrintWords Go.Proofs.YtlkebjkpmiehcaaW.PrintLast Go.Proofs.YtlkebjkpmiehcaaW.PrintMore Go.Proofs.Ytlkebjkpmiehcaa.X
open Go.Proofs.Ytlkebjkpmiehcaa.Pure (nv numOf vecOf nv_bd nv_bd4 number_any vec_ok)
set_option linter.unusedVariables false
def kuM (u : Int) : Mv := { zeroM with f0 := 24, f20 := u }
theorem num_f (e : Int) : halberdlaw0_Num.f e = some e := rfl
def s5 : ByteArray := ⟨#[24, 0, 0, 1, 1]⟩
theorem nreads (w : World) (u : Int) : Reads w (kuM u) hd0 := by
  constructor <;> first | exact C_nil _ _ | exact Nat.le_refl _
theorem ku_reads (u : Int) (h : Hd) (w : World) : Reads w (kuM u) h := by
  have e {α : Type} (d : Kd α) (A : Option Addr) : Kd.C d w A 0 [] := ⟨rfl, by omega, fun h => absurd h (by omega)⟩
  constructor <;> first | exact e _ _ | exact Nat.zero_le _
theorem put_two (w : World) : Calls Try.prog 23 #[.agg (cells (kuM 2) hd0)] w fun ex w' => ex = .returned (.tuple #[.string s5, .int .i64 0]) ∧ Below w.heap.size w w' := by
  have h := put_ok (kuM 2) hd0 (ByteArray.empty ++ (nm (wrap64 (2 - 1)) 1).1) w rfl (nreads w 2) (by decide) (by decide) (fun w1 lo g gm ha => by
    have hb := body24 lo g gm _ w w1 ha rfl 2 rfl
    rw [show ((false || !((2 : Int) == 1 || (2 : Int) == 2)) || !((nm (wrap64 (2 - 1)) 1).2 == 0)) = false from by decide +kernel] at hb
    exact hb) rfl (by decide +kernel)
  have e : framed (kuM 2).f0 (ByteArray.empty ++ (nm (wrap64 (2 - 1)) 1).1) = s5 := by kernel_rfl
  rw [e] at h
  exact h
theorem put_three (w : World) : Calls Try.prog 23 #[.agg (cells (kuM 3) hd0)] w fun ex w' => ex = .returned (.tuple #[.string ⟨#[]⟩, .int .i64 1700]) ∧ Below w.heap.size w w' :=
  put_bad (kuM 3) hd0 (ByteArray.empty ++ (nm (wrap64 (3 - 1)) 1).1) w rfl (nreads w 3) (by decide) (by decide) (fun w1 lo g gm ha => by
    have hb := body24 lo g gm _ w w1 ha rfl 3 rfl
    exact hb)
theorem get_five : getM s5 = (kuM 2, 0) := by kernel_rfl
theorem get_eo (s : ByteArray) (e : Int) (w : World) (hs : s.size ≤ 140737488351232) (BC : Aside0 (BodyC (getR s) { zeroM with f0 := bt s 0 })) (he : (getM s).2 = e) :
    Calls Try.prog 24 #[.string s] w fun ex w' => ∃ m h, ex = .returned (.tuple #[.agg (cells m h), .int .i64 e]) ∧ Below w.heap.size w w' :=
  (get_of s w hs BC).mono fun ex w' ⟨h, h1, _, h2⟩ => ⟨_, h, by rw [← he]; exact h1, h2⟩
theorem get_mo (s : ByteArray) (m : Mv) (w : World) (hs : s.size ≤ 140737488351232) (BC : Aside0 (BodyC (getR s) { zeroM with f0 := bt s 0 })) (he : getM s = (m, 0)) :
    Calls Try.prog 24 #[.string s] w fun ex w' => ∃ h, ex = .returned (.tuple #[.agg (cells m h), .int .i64 0]) ∧ Reads w' m h ∧ Below w.heap.size w w' := by
  have h := get_of s w hs BC
  rw [he] at h
  exact h
theorem bc1 : Aside0 (BodyC (getR s5) { zeroM with f0 := bt s5 0 }) := bc_no s5 24 (by decide +kernel) (by decide) (by decide) (by decide) (by decide) (by decide) (by decide) (by decide)
theorem bc2 : Aside0 (BodyC (getR ⟨#[24, 0, 0, 1, 2]⟩) { zeroM with f0 := bt ⟨#[24, 0, 0, 1, 2]⟩ 0 }) := bc_no ⟨#[24, 0, 0, 1, 2]⟩ 24 (by decide +kernel) (by decide) (by decide) (by decide) (by decide) (by decide) (by decide) (by decide)
theorem bc3 : Aside0 (BodyC (getR ⟨#[9]⟩) { zeroM with f0 := bt ⟨#[9]⟩ 0 }) := bc_no ⟨#[9]⟩ 9 (by decide +kernel) (by decide) (by decide) (by decide) (by decide) (by decide) (by decide) (by decide)
theorem bc4 : Aside0 (BodyC (getR ⟨#[24, 0, 0, 2, 1, 1]⟩) { zeroM with f0 := bt ⟨#[24, 0, 0, 2, 1, 1]⟩ 0 }) := bc_no ⟨#[24, 0, 0, 2, 1, 1]⟩ 24 (by decide +kernel) (by decide) (by decide) (by decide) (by decide) (by decide) (by decide) (by decide)
theorem got2 : (getM ⟨#[24, 0, 0, 1, 2]⟩).2 = 1702 := by decide +kernel
theorem got3 : (getM ⟨#[9]⟩).2 = 1701 := by decide +kernel
theorem got4 : (getM ⟨#[24, 0, 0, 2, 1, 1]⟩).2 = 1700 := by decide +kernel
set_option maxRecDepth 100000 in
set_option maxHeartbeats 8000000 in
theorem awake_c (w : World) : Calls Try.prog 22 #[] w fun ex w' => ex = .returned (.bool true) ∧ Below w.heap.size w w' := by
  have hs5 : (s5.toList == ([24, 0, 0, 1, 1] : List UInt8)) = true := by decide +kernel
  have hrt : (kuM 2).retry = false := by decide +kernel
  have HB := Aside0.mk (Below.refl w.heap.size w)
  go_enter Try.func22, Try.ntmps22
  go_wp2_with (first
    | ((with_reducible refine gate_callee (f := 23) rfl ?_); refine goesL_ (some 15) rfl rfl Try.func23 (by kernel_rfl) rfl #[.agg (cells (kuM 2) hd0)] rfl (by (try simp only [List.map_toArray, List.map_cons, List.map_nil]); first | done | rfl) ?_; (with_reducible refine (put_two _).mono ?_); rintro e_ w_ ⟨rfl, b_⟩; refine ⟨_, rfl, ?_⟩; have n0_ := Aside0.mk (below_step HB.out b_); clear HB; have HB := n0_; clear n0_; clear b_)
    | ((with_reducible refine gate_callee (f := 24) rfl ?_); refine goesL_ (some 20) rfl rfl Try.func24 (by kernel_rfl) rfl #[.string s5] rfl (by (try simp only [List.map_toArray, List.map_cons, List.map_nil]); first | done | rfl) ?_; (with_reducible refine (get_mo s5 (kuM 2) _ (by decide) bc1 get_five).mono ?_); rintro e_ w_ ⟨hm, rfl, r_, b_⟩; refine ⟨_, rfl, ?_⟩; have n0_ := Aside0.mk (below_step HB.out b_); clear HB; have HB := n0_; clear n0_; clear b_ r_)
    | ((with_reducible refine gate_callee (f := 24) rfl ?_); refine goesL_ (some 24) rfl rfl Try.func24 (by kernel_rfl) rfl #[.string ⟨#[24, 0, 0, 1, 2]⟩] rfl (by (try simp only [List.map_toArray, List.map_cons, List.map_nil]); first | done | rfl) ?_; (with_reducible refine (get_eo ⟨#[24, 0, 0, 1, 2]⟩ _ _ (by decide) bc2 got2).mono ?_); rintro e_ w_ ⟨m24, h24, rfl, b_⟩; refine ⟨_, rfl, ?_⟩; have n0_ := Aside0.mk (below_step HB.out b_); have n1_ := Aside0.mk ((b_.block g3 (blk_lt HX.out)).trans HX.out); clear HB; have HB := n0_; clear n0_; clear HX; have HX := n1_; clear n1_; clear b_)
    | ((with_reducible refine gate_callee (f := 24) rfl ?_); refine goesL_ (some 28) rfl rfl Try.func24 (by kernel_rfl) rfl #[.string ⟨#[9]⟩] rfl (by (try simp only [List.map_toArray, List.map_cons, List.map_nil]); first | done | rfl) ?_; (with_reducible refine (get_eo ⟨#[9]⟩ _ _ (by decide) bc3 got3).mono ?_); rintro e_ w_ ⟨m28, h28, rfl, b_⟩; refine ⟨_, rfl, ?_⟩; have n0_ := Aside0.mk (below_step HB.out b_); have n1_ := Aside0.mk ((b_.block g3 (blk_lt HX.out)).trans HX.out); clear HB; have HB := n0_; clear n0_; clear HX; have HX := n1_; clear n1_; clear b_)
    | ((with_reducible refine gate_callee (f := 24) rfl ?_); refine goesL_ (some 32) rfl rfl Try.func24 (by kernel_rfl) rfl #[.string ⟨#[24, 0, 0, 2, 1, 1]⟩] rfl (by (try simp only [List.map_toArray, List.map_cons, List.map_nil]); first | done | rfl) ?_; (with_reducible refine (get_eo ⟨#[24, 0, 0, 2, 1, 1]⟩ _ _ (by decide) bc4 got4).mono ?_); rintro e_ w_ ⟨m32, h32, rfl, b_⟩; refine ⟨_, rfl, ?_⟩; have n0_ := Aside0.mk (below_step HB.out b_); have n1_ := Aside0.mk ((b_.block g3 (blk_lt HX.out)).trans HX.out); clear HB; have HB := n0_; clear n0_; clear HX; have HX := n1_; clear n1_; clear b_)
    | ((with_reducible refine gate_callee (f := 23) rfl ?_); refine goesL_ (some 37) rfl rfl Try.func23 (by kernel_rfl) rfl #[.agg (cells (kuM 3) hd0)] rfl (by (try simp only [List.map_toArray, List.map_cons, List.map_nil]); first | done | rfl) ?_; (with_reducible refine (put_three _).mono ?_); rintro e_ w_ ⟨rfl, b_⟩; refine ⟨_, rfl, ?_⟩; have n0_ := Aside0.mk (below_step HB.out b_); have n1_ := Aside0.mk ((b_.block g3 (blk_lt HX.out)).trans HX.out); clear HB; have HB := n0_; clear n0_; clear HX; have HX := n1_; clear n1_; clear b_)
    | ((with_reducible refine gate_dst (N := 3) rfl ?_); refine alloc49' rfl rfl ?_; intro g3 eg w_ h2 b2; have HZ3 := Aside0.mk h2; have HE3 := Aside0.mk (show w.heap.size ≤ g3 from by have := HB.out.size; omega); have n0_ := Aside0.mk (below_step HB.out b2); clear HB; have HB := n0_; clear n0_; clear h2 b2 eg)
    | ((with_reducible refine gate_store (p := 3) rfl ?_); refine stRowN (cs := cells (kuM 2) hm) sz49 rfl rfl rfl rfl HZ3.out rfl rfl (cells_one _ _) ?_; intro w_ h3 b3 k3; have HX := Aside0.mk h3; have n0_ := Aside0.mk (HB.out.trans (b3 _ HE3.out)); clear HB; have HB := n0_; clear n0_; clear h3 b3 k3)
    | ((with_reducible refine gate_dst (N := 5) rfl ?_); refine alloc49' rfl rfl ?_; intro g5 eg w_ h2 b2; have HNE := Aside0.mk (show g3 ≠ g5 from by have := blk_lt HX.out; omega); have HZ5 := Aside0.mk h2; have HE5 := Aside0.mk (show w.heap.size ≤ g5 from by have := HB.out.size; omega); have n0_ := Aside0.mk (below_step HB.out b2); have n1_ := Aside0.mk ((b2.block g3 (blk_lt HX.out)).trans HX.out); clear HB; have HB := n0_; clear n0_; clear HX; have HX := n1_; clear n1_; clear h2 b2 eg)
    | ((with_reducible refine gate_store (p := 5) rfl ?_); refine stRowN sz49 rfl rfl rfl rfl HZ5.out rfl rfl (cells_one _ _) ?_; intro w_ h3 b3 k3; have n0_ := Aside0.mk ((k3.2 g3 (blk_lt HX.out) HNE.out (by simp)).trans HX.out); have n1_ := Aside0.mk (HB.out.trans (b3 _ HE5.out)); clear HX; have HX := n0_; clear n0_; clear HB; have HB := n1_; clear n1_; clear h3 b3 k3 HNE)
    | ((with_reducible refine gate_dst (N := 7) rfl ?_); refine alloc49' rfl rfl ?_; intro g7 eg w_ h2 b2; have HNE := Aside0.mk (show g3 ≠ g7 from by have := blk_lt HX.out; omega); have HZ7 := Aside0.mk h2; have HE7 := Aside0.mk (show w.heap.size ≤ g7 from by have := HB.out.size; omega); have n0_ := Aside0.mk (below_step HB.out b2); have n1_ := Aside0.mk ((b2.block g3 (blk_lt HX.out)).trans HX.out); clear HB; have HB := n0_; clear n0_; clear HX; have HX := n1_; clear n1_; clear h2 b2 eg)
    | ((with_reducible refine gate_store (p := 7) rfl ?_); refine stRowN sz49 rfl rfl rfl rfl HZ7.out rfl rfl (cells_one _ _) ?_; intro w_ h3 b3 k3; have n0_ := Aside0.mk ((k3.2 g3 (blk_lt HX.out) HNE.out (by simp)).trans HX.out); have n1_ := Aside0.mk (HB.out.trans (b3 _ HE7.out)); clear HX; have HX := n0_; clear n0_; clear HB; have HB := n1_; clear n1_; clear h3 b3 k3 HNE)
    | ((with_reducible refine gate_dst (N := 9) rfl ?_); refine alloc49' rfl rfl ?_; intro g9 eg w_ h2 b2; have HNE := Aside0.mk (show g3 ≠ g9 from by have := blk_lt HX.out; omega); have HZ9 := Aside0.mk h2; have HE9 := Aside0.mk (show w.heap.size ≤ g9 from by have := HB.out.size; omega); have n0_ := Aside0.mk (below_step HB.out b2); have n1_ := Aside0.mk ((b2.block g3 (blk_lt HX.out)).trans HX.out); clear HB; have HB := n0_; clear n0_; clear HX; have HX := n1_; clear n1_; clear h2 b2 eg)
    | ((with_reducible refine gate_store (p := 9) rfl ?_); refine stRowN sz49 rfl rfl rfl rfl HZ9.out rfl rfl (cells_one _ _) ?_; intro w_ h3 b3 k3; have n0_ := Aside0.mk ((k3.2 g3 (blk_lt HX.out) HNE.out (by simp)).trans HX.out); have n1_ := Aside0.mk (HB.out.trans (b3 _ HE9.out)); clear HX; have HX := n0_; clear n0_; clear HB; have HB := n1_; clear n1_; clear h3 b3 k3 HNE)
    | (go_at_call 18; (with_reducible refine (halberdlaw0_Num.calls _ _ _ (num_f _)).mono ?_); rintro ex_ wx_ ⟨rfl, d_⟩; have n0_ := Aside0.mk (below_step HB.out d_.below); have n1_ := Aside0.mk ((d_.below.block g3 (blk_lt HX.out)).trans HX.out); clear HB; have HB := n0_; clear n0_; clear HX; have HX := n1_; clear n1_; clear d_)
    | ((with_reducible refine gate_dst (N := 49) rfl ?_); refine gate_guard rfl ?_; refine ld (v := .int .i64 2) rfl rfl rfl HX.out Try.underlying3 rfl rfl ?_)
    | ((with_reducible refine gate_dst (N := 78) rfl ?_); refine gate_guard rfl ?_; refine wpList_load_row rfl 49 _ rfl g3 rfl 49 _ (0, 0) _ HX.out Try.underlying49 rfl sz49 ?_)
    | (go_at_call 30; (with_reducible refine (retry_calls (kuM 2) hm _ (ku_reads 2 hm _)).mono ?_); rintro e_ w_ ⟨rfl, b_⟩; have n0_ := Aside0.mk (below_step HB.out b_); clear HB; have HB := n0_; clear n0_; clear b_))
  go_ret
  exact ⟨rfl, HB.out⟩
end Go.Proofs.Ytlkebjkpmiehcaa.Ms
end
section
namespace Go.Proofs.Ytlkebjkpmiehcaa.X
open Go.RowKit Go.Proofs.YtlkebjkpmiehcaaW.PrintWords Go.Proofs.YtlkebjkpmiehcaaW.PrintLast Go.Proofs.YtlkebjkpmiehcaaW.PrintMore
attribute [local go_sem] max2_int min2_int max_two min_two max_three min_three max_four min_four   
set_option linter.unusedVariables false
set_option linter.unusedSimpArgs false
def halberdlaw17_vec.f (a0 : ByteArray) (a1 : Int) : Option (ByteArray) := (some (([((a0.size : Int) / 65536) % 256, ((a0.size : Int) / 256) % 256, ((a0.size : Int)) % 256] : List Int) : List Int)).bind fun y250 => (if 0 ≤ (wrap64 (3 - a1)) then (if (wrap64 (3 - a1)) ≤ ((strOfNums y250).size : Int) then (if ((strOfNums y250).extract ((wrap64 (3 - a1)) : Int).toNat (strOfNums y250).size).size + a0.size ≤ 9223372036854775807 then (some (((strOfNums y250).extract ((wrap64 (3 - a1)) : Int).toNat (strOfNums y250).size) ++ a0)) else (none)) else (none)) else (none))
set_option maxHeartbeats 8000000 in
set_option maxRecDepth 100000 in
theorem halberdlaw17_vec.calls (a0 : ByteArray) (a1 : Int) (r : ByteArray) (w : World) (h : halberdlaw17_vec.f a0 a1 = some r) :
    Calls Try.prog 29 #[.string a0, .int .i64 a1] w fun e w' => e = .returned (.string r) ∧ Below w.heap.size w w' := by
  have HB := Aside0.mk (Below.refl w.heap.size w)
  have H : ((some (([((a0.size : Int) / 65536) % 256, ((a0.size : Int) / 256) % 256, ((a0.size : Int)) % 256] : List Int) : List Int)).bind fun y250 => (if 0 ≤ (wrap64 (3 - a1)) then (if (wrap64 (3 - a1)) ≤ ((strOfNums y250).size : Int) then (if ((strOfNums y250).extract ((wrap64 (3 - a1)) : Int).toNat (strOfNums y250).size).size + a0.size ≤ 9223372036854775807 then (some (((strOfNums y250).extract ((wrap64 (3 - a1)) : Int).toNat (strOfNums y250).size) ++ a0)) else (none)) else (none)) else (none))) = some r := h
  clear h
  obtain ⟨y250, hy250⟩ : ∃ y_ : List Int, y_ = (([((a0.size : Int) / 65536) % 256, ((a0.size : Int) / 256) % 256, ((a0.size : Int)) % 256] : List Int)) := ⟨_, rfl⟩
  replace H : (if 0 ≤ (wrap64 (3 - a1)) then (if (wrap64 (3 - a1)) ≤ ((strOfNums y250).size : Int) then (if ((strOfNums y250).extract ((wrap64 (3 - a1)) : Int).toNat (strOfNums y250).size).size + a0.size ≤ 9223372036854775807 then (some (((strOfNums y250).extract ((wrap64 (3 - a1)) : Int).toNat (strOfNums y250).size) ++ a0)) else (none)) else (none)) else (none)) = some r := by first | (rw [hy250]; with_reducible exact H) | (have H2_ := (Option.bind_some _ _).symm.trans H; rw [hy250]; with_reducible exact H2_) | (have H2_ := (Option.bind_some _ _).symm.trans H; with_reducible exact H2_) | with_reducible exact H | (rw [hy250]; exact H) | exact H
  have Ny250 := Aside0.mk hy250
  clear hy250
  obtain ⟨ji3, hji3⟩ : ∃ j_ : Int, (wrap64 (3 - a1)) = j_ := ⟨_, rfl⟩
  replace H : (if 0 ≤ (ji3) then (if (ji3) ≤ ((strOfNums y250).size : Int) then (if ((strOfNums y250).extract ((ji3) : Int).toNat (strOfNums y250).size).size + a0.size ≤ 9223372036854775807 then (some (((strOfNums y250).extract ((ji3) : Int).toNat (strOfNums y250).size) ++ a0)) else (none)) else (none)) else (none)) = some r := by first | (rw [hji3] at H; exact H) | (simp only [hji3] at H ⊢; exact H)
  have hji3w : (IntKind.i64.wrap (3 - a1)) = ji3 := (i64_w _).trans hji3
  by_cases c4 : 0 ≤ (ji3)
  · rw [if_pos c4] at H
    have c4b0 := eq_true c4
    have c4b1 : decide (0 ≤ (ji3)) = true := decide_eq_true c4
    clear c4
    by_cases c5 : (ji3) ≤ ((strOfNums y250).size : Int)
    · rw [if_pos c5] at H
      have c5b0 := eq_true c5
      have c5b1 : decide ((ji3) ≤ ((strOfNums y250).size : Int)) = true := decide_eq_true c5
      clear c5
      by_cases c6 : ((strOfNums y250).extract ((ji3) : Int).toNat (strOfNums y250).size).size + a0.size ≤ 9223372036854775807
      · rw [if_pos c6] at H
        have c6b0 := eq_true c6
        have c6b1 : decide (((strOfNums y250).extract ((ji3) : Int).toNat (strOfNums y250).size).size + a0.size ≤ 9223372036854775807) = true := decide_eq_true c6
        try have c6b2 : (9223372036854775807 < ((strOfNums y250).extract ((ji3) : Int).toNat (strOfNums y250).size).size + a0.size) = False := eq_false (Nat.not_lt.2 c6)
        obtain ⟨ys253, hys253⟩ : ∃ y_ : ByteArray, y_ = (((strOfNums y250).extract ((ji3) : Int).toNat (strOfNums y250).size) ++ a0) := ⟨_, rfl⟩
        replace H : (some ys253) = some r := by first | (rw [hys253]; with_reducible exact H) | (have H2_ := (Option.bind_some _ _).symm.trans H; rw [hys253]; with_reducible exact H2_) | (have H2_ := (Option.bind_some _ _).symm.trans H; with_reducible exact H2_) | with_reducible exact H | (rw [hys253]; exact H) | exact H
        have Nys253 := Aside0.mk hys253
        clear hys253
        have Sys253 := Nys253.out.symm
        obtain rfl := Option.some.inj H
        go_enter Try.func29, Try.ntmps29
        go_wp2_with (first | ((with_reducible refine gate_dst (N := 16) rfl ?_); refine Kd.R_lit (Kd.int .u8) _ 5 ?hg (N := 16) ?hd (xs := ([((a0.size : Int) / 65536) % 256, ((a0.size : Int) / 256) % 256, ((a0.size : Int)) % 256] : List Int)) (inner := [.int .u8 (((a0.size : Int) / 65536) % 256), .int .u8 (((a0.size : Int) / 256) % 256), .int .u8 (((a0.size : Int)) % 256)]) (ok := fun _ => True) (okp := fun _ => True) ?hr ?hp (fun _ hk => hk) trivial (Below.refl _ _) (Nat.le_refl _) (by simp) ?_; (case hd => rfl); (case hg => rfl); (case hr => first | (go_simp; done) | (go_simp; rfl)); (case hp => exact (Reps.one (show Kd.M (Kd.int .u8) _ _ _ (((a0.size : Int) / 65536) % 256) [.int .u8 (((a0.size : Int) / 65536) % 256)] from rfl) (Reps.one (show Kd.M (Kd.int .u8) _ _ _ (((a0.size : Int) / 256) % 256) [.int .u8 (((a0.size : Int) / 256) % 256)] from rfl) (Reps.one (show Kd.M (Kd.int .u8) _ _ _ (((a0.size : Int)) % 256) [.int .u8 (((a0.size : Int)) % 256)] from rfl) (Reps.none _ _))))); intro v251 w7 ho8 hb hg_ hnew_; clear hg_ hnew_; (first | rw [← Ny250.out] at ho8 | (simp only [Int.reduceToNat] at ho8; rw [← Ny250.out] at ho8)); have n0_ := Aside0.mk (Kd.R_lower ho8 (below_size (by repeat (first | (with_reducible first | exact HB.out | apply below_alloc | apply pw_below_drewN | apply below_drew1) | exact HB.out)))); have n1_ := Aside0.mk (below_step (by repeat (first | (with_reducible first | exact HB.out | apply below_alloc | apply pw_below_drewN | apply below_drew1) | exact HB.out)) hb); clear HB; have HO252 := n0_; have HB := n1_; clear n0_ n1_; clear hb ho8; have hcv9 := own_string (P := Try.prog) Try.underlying39 Try.underlying5 Try.underlying9 (Kd.own_of_R HO252.out)))
        go_ret
        exact ⟨by first | rfl | (simp [errW_none, errW_some] <;> rfl) | (simp only [← hji3]; first | rfl | (simp [errW_none, errW_some] <;> rfl)) | (simp [*, errW_none, errW_some] <;> rfl), by repeat (first | (with_reducible first | exact HB.out | apply below_alloc | apply pw_below_drewN | apply below_drew1) | exact HB.out)⟩
      · rw [if_neg c6] at H
        exact absurd H (by simp)
    · rw [if_neg c5] at H
      exact absurd H (by simp)
  · rw [if_neg c4] at H
    exact absurd H (by simp)
def halberdlaw17_made.f (a0 : Int) (a1 : ByteArray) : Option (ByteArray) := (some (([(a0) % 256] : List Int) : List Int)).bind fun y254 => ((halberdlaw17_vec.f a1 3).bind fun t257 => (if (strOfNums y254).size + t257.size ≤ 9223372036854775807 then (some ((strOfNums y254) ++ t257)) else (none)))
def halberdlaw17_made.T1 : Bool × List (List Nat × List Nat) := (true, [([], []), ([0], [0]), ([1], [1]), ([2], [2]), ([], []), ([4], [4]), ([3, 5], [3, 5]), ([6, 5, 0, 1, 2, 3, 4, 5, 6], [6])])
def halberdlaw17_made.B1 : List Nat := [0, 1, 3, 7, 0, 16, 63, 127]
theorem halberdlaw17_made.tab1 : rtab .any (opsOf Try.f28 1) = halberdlaw17_made.T1 := by kernel_rfl
theorem halberdlaw17_made.bits1 : waitsOk halberdlaw17_made.T1.2 halberdlaw17_made.B1 = true := by kernel_rfl
set_option maxHeartbeats 8000000 in
set_option maxRecDepth 100000 in
theorem halberdlaw17_made.calls (a0 : Int) (a1 : ByteArray) (r : ByteArray) (w : World) (h : halberdlaw17_made.f a0 a1 = some r) :
    Calls Try.prog 28 #[.int .i64 a0, .string a1] w fun e w' => e = .returned (.string r) ∧ Below w.heap.size w w' := by
  have HB := Aside0.mk (Below.refl w.heap.size w)
  have H : ((some (([(a0) % 256] : List Int) : List Int)).bind fun y254 => ((halberdlaw17_vec.f a1 3).bind fun t257 => (if (strOfNums y254).size + t257.size ≤ 9223372036854775807 then (some ((strOfNums y254) ++ t257)) else (none)))) = some r := h
  clear h
  obtain ⟨y254, hy254⟩ : ∃ y_ : List Int, y_ = (([(a0) % 256] : List Int)) := ⟨_, rfl⟩
  replace H : ((halberdlaw17_vec.f a1 3).bind fun t257 => (if (strOfNums y254).size + t257.size ≤ 9223372036854775807 then (some ((strOfNums y254) ++ t257)) else (none))) = some r := by first | (rw [hy254]; with_reducible exact H) | (have H2_ := (Option.bind_some _ _).symm.trans H; rw [hy254]; with_reducible exact H2_) | (have H2_ := (Option.bind_some _ _).symm.trans H; with_reducible exact H2_) | with_reducible exact H | (rw [hy254]; exact H) | exact H
  have Ny254 := Aside0.mk hy254
  clear hy254
  replace H := Option.bind_eq_some_iff.mp H
  obtain ⟨t257, A30, H⟩ := H
  replace H : (if (strOfNums y254).size + t257.size ≤ 9223372036854775807 then (some ((strOfNums y254) ++ t257)) else (none)) = some r := H
  have A3 := Aside0.mk A30
  clear A30
  by_cases c4 : (strOfNums y254).size + t257.size ≤ 9223372036854775807
  · rw [if_pos c4] at H
    have c4b0 := eq_true c4
    have c4b1 : decide ((strOfNums y254).size + t257.size ≤ 9223372036854775807) = true := decide_eq_true c4
    try have c4b2 : (9223372036854775807 < (strOfNums y254).size + t257.size) = False := eq_false (Nat.not_lt.2 c4)
    obtain ⟨ys258, hys258⟩ : ∃ y_ : ByteArray, y_ = ((strOfNums y254) ++ t257) := ⟨_, rfl⟩
    replace H : (some ys258) = some r := by first | (rw [hys258]; with_reducible exact H) | (have H2_ := (Option.bind_some _ _).symm.trans H; rw [hys258]; with_reducible exact H2_) | (have H2_ := (Option.bind_some _ _).symm.trans H; with_reducible exact H2_) | with_reducible exact H | (rw [hys258]; exact H) | exact H
    have Nys258 := Aside0.mk hys258
    clear hys258
    have Sys258 := Nys258.out.symm
    obtain rfl := Option.some.inj H
    go_enter Try.func28, Try.ntmps28
    try go_wp2
    have n0_ := Aside0.mk (below_drew1 HB.out)
    clear HB
    have HB := n0_
    clear n0_
    refine start_ (n := 8) (S := fun w' => True) (ds := []) #[false, false, false, false, false, false, false, false] (by kernel_rfl) rfl rfl trivial (fun hHeld => ?_); refine with_tabW halberdlaw17_made.tab1 halberdlaw17_made.bits1 (fun HT_ HW_ => ?_)
    generalize w.drew = w5 at HB hHeld ⊢
    refine pure_ (i := 0) (N := some 5) (v := ?_) (a' := ?_) #[true, false, false, false, false, false, false, false] rfl rfl (any_of HT_.out (by kernel_rfl)) (fun _ _ _ h => h) (Or.inl ⟨by rfl, ?_⟩) ?_ ?_
    rotate_left
    · intro w'
      go_simp
      with_reducible rfl
    rotate_left
    · simp only [Act.put, List.setIfInBounds_toArray, List.set_cons_zero, List.set_cons_succ, i64_w, i32_w]
      rfl
    refine pure_ (i := 1) (N := some 6) (v := ?_) (a' := ?_) #[true, true, false, false, false, false, false, false] rfl rfl (any_of HT_.out (by kernel_rfl)) (fun _ _ _ h => h) (Or.inl ⟨by rfl, ?_⟩) ?_ ?_
    rotate_left
    · intro w'
      go_simp
      with_reducible rfl
    rotate_left
    · simp only [Act.put, List.setIfInBounds_toArray, List.set_cons_zero, List.set_cons_succ, i64_w, i32_w]
      rfl
    refine pure_ (i := 4) (N := some 9) (v := ?_) (a' := ?_) #[true, true, false, false, true, false, false, false] rfl rfl (any_of HT_.out (by kernel_rfl)) (fun _ _ _ h => h) (Or.inl ⟨by rfl, ?_⟩) ?_ ?_
    rotate_left
    · intro w'
      go_simp
      with_reducible rfl
    rotate_left
    · simp only [Act.put, List.setIfInBounds_toArray, List.set_cons_zero, List.set_cons_succ, i64_w, i32_w]
      rfl
    refine join_ (σ := Value) 2 #[true, true, true, true, true, true, false, false] (fun s_ => [(7, s_), (8, .string (strOfNums y254)), (10, .string t257)]) (fun s_ w' => (Kd.R (Kd.int .u8) 5 w' w.heap.size (fun _ => True) s_ y254) ∧ (Below w.heap.size w w')) ?_ ?_
    rotate_left
    · intro hCont
      refine two_ (i := 2) (j := 5) (Ni := some 7) (Nj := some 10) #[true, true, true, false, true, false, false, false] #[true, true, false, false, true, true, false, false] rfl rfl rfl rfl (two_of HT_.out (by kernel_rfl)) (by decide) (by decide) (fun K hK => ?_) (fun K hK => ?_)
      · skip
        refine Kd.R_lit_step (Kd.int .u8) _ 5 ?hg (N := 7) ?hd (xs := ([(a0) % 256] : List Int)) (inner := [.int .u8 ((a0) % 256)]) (ok := fun _ => True) (okp := fun _ => True) ?hr ?hp (fun _ hk => hk) trivial (Below.refl _ _) (Nat.le_refl _) (by simp) ?_; (case hd => rfl); (case hg => rfl); (case hr => first | (go_simp; done) | (go_simp; rfl)); (case hp => exact (Reps.one (show Kd.M (Kd.int .u8) _ _ _ ((a0) % 256) [.int .u8 ((a0) % 256)] from rfl) (Reps.none _ _)))
        intro v255 w6 ho7 hb hg_ hnew_
        clear hg_ hnew_
        (first | rw [← Ny254.out] at ho7 | (simp only [Int.reduceToNat] at ho7; rw [← Ny254.out] at ho7))
        have n0_ := Aside0.mk (Kd.R_lower ho7 (below_size (by repeat (first | (with_reducible first | exact HB.out | apply below_alloc | apply pw_below_drewN | apply below_drew1) | exact HB.out))))
        have n1_ := Aside0.mk (below_step (by repeat (first | (with_reducible first | exact HB.out | apply below_alloc | apply pw_below_drewN | apply below_drew1) | exact HB.out)) hb)
        clear HB
        have HO256 := n0_
        have HB := n1_
        clear n0_ n1_
        clear hb ho7
        refine hK.out _ _ trivial (fun hHeld => ?_)
        clear hK K
        refine norm_ (a' := ?_) ?_ ?_
        rotate_left
        · show Act.put _ (some 7) _ = _
          simp only [Act.put, List.setIfInBounds_toArray, List.set_cons_zero, List.set_cons_succ, i64_w, i32_w]
          rfl
        refine two_ (i := 3) (j := 5) (Ni := some 8) (Nj := some 10) #[true, true, true, true, true, false, false, false] #[true, true, true, false, true, true, false, false] rfl rfl rfl rfl (two_of HT_.out (by kernel_rfl)) (by decide) (by decide) (fun K hK => ?_) (fun K hK => ?_)
        · skip
          have hcv8 := own_string (P := Try.prog) Try.underlying39 Try.underlying5 Try.underlying9 (Kd.own_of_R HO256.out)
          refine value_ (w1 := ?_) (v := ?_) (by rfl) rfl ?_ ?_
          rotate_left 2
          · go_simp
            constructor
            · rfl
            · rfl
          clear hcv8
          refine hK.out _ _ trivial (fun hHeld => ?_)
          clear hK K
          refine norm_ (a' := ?_) ?_ ?_
          rotate_left
          · show Act.put _ (some 8) _ = _
            simp only [Act.put, List.setIfInBounds_toArray, List.set_cons_zero, List.set_cons_succ, i64_w, i32_w]
            rfl
          refine one_ (i := 5) (N := some 10) #[true, true, true, true, true, true, false, false] rfl rfl (one_of HT_.out (by kernel_rfl)) (by decide) (fun K hK => ?_)
          refine goes_ Try.func29 (by kernel_rfl) rfl #[.string a1, .int .i64 3] (by rfl) rfl rfl (by (try simp only [List.map_toArray, List.map_cons, List.map_nil]); first | done | rfl | (simp only [List.length_drop, List.length_take]; rfl)) ?_
          with_reducible refine (halberdlaw17_vec.calls a1 3 t257 _ A3.out).mono ?_
          rintro e w9 ⟨rfl, hb⟩
          refine ⟨_, rfl, ?_⟩
          have n0_ := Aside0.mk (Kd.R_below (by (with_reducible repeat (first | apply Kd.R_alloc | apply Kd.R_drewN | apply Kd.R_drew)); exact HO256.out) hb)
          have n1_ := Aside0.mk (below_step (by repeat (first | (with_reducible first | exact HB.out | apply below_alloc | apply pw_below_drewN | apply below_drew1) | exact HB.out)) hb)
          clear HO256
          clear HB
          have HO256 := n0_
          have HB := n1_
          clear n0_ n1_
          (try clear hb)
          (try clear hb2)
          (try clear hk)
          (try clear hi)
          refine hK.out _ _ trivial (fun hHeld => ?_)
          clear hK K
          refine norm_ (a' := ?_) ?_ ?_
          rotate_left
          · show Act.put _ (some 10) _ = _
            simp only [Act.put, List.setIfInBounds_toArray, List.set_cons_zero, List.set_cons_succ, i64_w, i32_w]
            rfl
          exact norm_ (by simp only [putAll, Act.put, List.setIfInBounds_toArray, List.set_cons_zero, List.set_cons_succ]) (hCont (v255) _ ⟨(by (with_reducible repeat (first | apply Kd.R_alloc | apply Kd.R_drewN | apply Kd.R_drew)); exact HO256.out), (by repeat (first | (with_reducible first | exact HB.out | apply below_alloc | apply pw_below_drewN | apply below_drew1) | exact HB.out))⟩)
        · skip
          refine goes_ Try.func29 (by kernel_rfl) rfl #[.string a1, .int .i64 3] (by rfl) rfl rfl (by (try simp only [List.map_toArray, List.map_cons, List.map_nil]); first | done | rfl | (simp only [List.length_drop, List.length_take]; rfl)) ?_
          with_reducible refine (halberdlaw17_vec.calls a1 3 t257 _ A3.out).mono ?_
          rintro e w8 ⟨rfl, hb⟩
          refine ⟨_, rfl, ?_⟩
          have n0_ := Aside0.mk (Kd.R_below (by (with_reducible repeat (first | apply Kd.R_alloc | apply Kd.R_drewN | apply Kd.R_drew)); exact HO256.out) hb)
          have n1_ := Aside0.mk (below_step (by repeat (first | (with_reducible first | exact HB.out | apply below_alloc | apply pw_below_drewN | apply below_drew1) | exact HB.out)) hb)
          clear HO256
          clear HB
          have HO256 := n0_
          have HB := n1_
          clear n0_ n1_
          (try clear hb)
          (try clear hb2)
          (try clear hk)
          (try clear hi)
          refine hK.out _ _ trivial (fun hHeld => ?_)
          clear hK K
          refine norm_ (a' := ?_) ?_ ?_
          rotate_left
          · show Act.put _ (some 10) _ = _
            simp only [Act.put, List.setIfInBounds_toArray, List.set_cons_zero, List.set_cons_succ, i64_w, i32_w]
            rfl
          refine one_ (i := 3) (N := some 8) #[true, true, true, true, true, true, false, false] rfl rfl (one_of HT_.out (by kernel_rfl)) (by decide) (fun K hK => ?_)
          have hcv9 := own_string (P := Try.prog) Try.underlying39 Try.underlying5 Try.underlying9 (Kd.own_of_R HO256.out)
          refine value_ (w1 := ?_) (v := ?_) (by rfl) rfl ?_ ?_
          rotate_left 2
          · go_simp
            constructor
            · rfl
            · rfl
          clear hcv9
          refine hK.out _ _ trivial (fun hHeld => ?_)
          clear hK K
          refine norm_ (a' := ?_) ?_ ?_
          rotate_left
          · show Act.put _ (some 8) _ = _
            simp only [Act.put, List.setIfInBounds_toArray, List.set_cons_zero, List.set_cons_succ, i64_w, i32_w]
            rfl
          exact norm_ (by simp only [putAll, Act.put, List.setIfInBounds_toArray, List.set_cons_zero, List.set_cons_succ]) (hCont (v255) _ ⟨(by (with_reducible repeat (first | apply Kd.R_alloc | apply Kd.R_drewN | apply Kd.R_drew)); exact HO256.out), (by repeat (first | (with_reducible first | exact HB.out | apply below_alloc | apply pw_below_drewN | apply below_drew1) | exact HB.out))⟩)
      · skip
        refine goes_ Try.func29 (by kernel_rfl) rfl #[.string a1, .int .i64 3] (by rfl) rfl rfl (by (try simp only [List.map_toArray, List.map_cons, List.map_nil]); first | done | rfl | (simp only [List.length_drop, List.length_take]; rfl)) ?_
        with_reducible refine (halberdlaw17_vec.calls a1 3 t257 _ A3.out).mono ?_
        rintro e w6 ⟨rfl, hb⟩
        refine ⟨_, rfl, ?_⟩
        have n0_ := Aside0.mk (below_step (by repeat (first | (with_reducible first | exact HB.out | apply below_alloc | apply pw_below_drewN | apply below_drew1) | exact HB.out)) hb)
        clear HB
        have HB := n0_
        clear n0_
        (try clear hb)
        (try clear hb2)
        (try clear hk)
        (try clear hi)
        refine hK.out _ _ trivial (fun hHeld => ?_)
        clear hK K
        refine norm_ (a' := ?_) ?_ ?_
        rotate_left
        · show Act.put _ (some 10) _ = _
          simp only [Act.put, List.setIfInBounds_toArray, List.set_cons_zero, List.set_cons_succ, i64_w, i32_w]
          rfl
        refine one_ (i := 2) (N := some 7) #[true, true, true, false, true, true, false, false] rfl rfl (one_of HT_.out (by kernel_rfl)) (by decide) (fun K hK => ?_)
        refine Kd.R_lit_step (Kd.int .u8) _ 5 ?hg (N := 7) ?hd (xs := ([(a0) % 256] : List Int)) (inner := [.int .u8 ((a0) % 256)]) (ok := fun _ => True) (okp := fun _ => True) ?hr ?hp (fun _ hk => hk) trivial (Below.refl _ _) (Nat.le_refl _) (by simp) ?_; (case hd => rfl); (case hg => rfl); (case hr => first | (go_simp; done) | (go_simp; rfl)); (case hp => exact (Reps.one (show Kd.M (Kd.int .u8) _ _ _ ((a0) % 256) [.int .u8 ((a0) % 256)] from rfl) (Reps.none _ _)))
        intro v255 w7 ho8 hb hg_ hnew_
        clear hg_ hnew_
        (first | rw [← Ny254.out] at ho8 | (simp only [Int.reduceToNat] at ho8; rw [← Ny254.out] at ho8))
        have n0_ := Aside0.mk (Kd.R_lower ho8 (below_size (by repeat (first | (with_reducible first | exact HB.out | apply below_alloc | apply pw_below_drewN | apply below_drew1) | exact HB.out))))
        have n1_ := Aside0.mk (below_step (by repeat (first | (with_reducible first | exact HB.out | apply below_alloc | apply pw_below_drewN | apply below_drew1) | exact HB.out)) hb)
        clear HB
        have HO256 := n0_
        have HB := n1_
        clear n0_ n1_
        clear hb ho8
        refine hK.out _ _ trivial (fun hHeld => ?_)
        clear hK K
        refine norm_ (a' := ?_) ?_ ?_
        rotate_left
        · show Act.put _ (some 7) _ = _
          simp only [Act.put, List.setIfInBounds_toArray, List.set_cons_zero, List.set_cons_succ, i64_w, i32_w]
          rfl
        refine one_ (i := 3) (N := some 8) #[true, true, true, true, true, true, false, false] rfl rfl (one_of HT_.out (by kernel_rfl)) (by decide) (fun K hK => ?_)
        have hcv9 := own_string (P := Try.prog) Try.underlying39 Try.underlying5 Try.underlying9 (Kd.own_of_R HO256.out)
        refine value_ (w1 := ?_) (v := ?_) (by rfl) rfl ?_ ?_
        rotate_left 2
        · go_simp
          constructor
          · rfl
          · rfl
        clear hcv9
        refine hK.out _ _ trivial (fun hHeld => ?_)
        clear hK K
        refine norm_ (a' := ?_) ?_ ?_
        rotate_left
        · show Act.put _ (some 8) _ = _
          simp only [Act.put, List.setIfInBounds_toArray, List.set_cons_zero, List.set_cons_succ, i64_w, i32_w]
          rfl
        exact norm_ (by simp only [putAll, Act.put, List.setIfInBounds_toArray, List.set_cons_zero, List.set_cons_succ]) (hCont (v255) _ ⟨(by (with_reducible repeat (first | apply Kd.R_alloc | apply Kd.R_drewN | apply Kd.R_drew)); exact HO256.out), (by repeat (first | (with_reducible first | exact HB.out | apply below_alloc | apply pw_below_drewN | apply below_drew1) | exact HB.out))⟩)
    rintro v255 w10 ⟨h0_, h1_⟩
    have n0_ : Aside0 (Kd.R (Kd.int .u8) 5 w10 w.heap.size (fun _ => True) v255 y254) := ⟨h0_⟩
    have n1_ : Aside0 (Below w.heap.size w w10) := ⟨h1_⟩
    clear HB
    clear h0_ h1_
    have HO256 := n0_
    have HB := n1_
    clear n0_ n1_
    have hHeld := trivial
    refine norm_ (a' := ?_) ?_ ?_
    rotate_left
    · simp only [putAll, Act.put, List.setIfInBounds_toArray, List.set_cons_zero, List.set_cons_succ]
      rfl
    refine pure_ (i := 6) (N := some 11) (v := ?_) (a' := ?_) #[true, true, true, true, true, true, true, false] rfl rfl (any_of HT_.out (by kernel_rfl)) (fun _ _ _ h => h) (Or.inl ⟨by rfl, ?_⟩) ?_ ?_
    rotate_left
    · intro w'
      go_simp
      with_reducible rfl
    rotate_left
    · simp only [Act.put, List.setIfInBounds_toArray, List.set_cons_zero, List.set_cons_succ, i64_w, i32_w]
      rfl
    refine pure_ (i := 7) (N := some 4) (v := ?_) (a' := ?_) #[true, true, true, true, true, true, true, true] rfl rfl (any_of HT_.out (by kernel_rfl)) (fun _ _ _ h => h) (Or.inl ⟨by rfl, ?_⟩) ?_ ?_
    rotate_left
    · intro w'
      go_simp
      with_reducible rfl
    rotate_left
    · simp only [Act.put, List.setIfInBounds_toArray, List.set_cons_zero, List.set_cons_succ, i64_w, i32_w]
      rfl
    refine done_ (done_of HT_.out (by kernel_rfl)) ?_
    try go_wp2
    go_ret
    exact ⟨by first | rfl | (simp [errW_none, errW_some] <;> rfl) | (simp [*, errW_none, errW_some] <;> rfl), by repeat (first | (with_reducible first | exact HB.out | apply below_alloc | apply pw_below_drewN | apply below_drew1) | exact HB.out)⟩
  · rw [if_neg c4] at H
    exact absurd H (by simp)
end Go.Proofs.Ytlkebjkpmiehcaa.X
end
section
namespace Go.Proofs.Ytlkebjkpmiehcaa.Ms
open Go.RowKit Go.Proofs.YtlkebjkpmiehcaaW.PrintWords Go.Proofs.YtlkebjkpmiehcaaW.PrintLast Go.Proofs.YtlkebjkpmiehcaaW.PrintMore Go.Proofs.Ytlkebjkpmiehcaa.X
open Go.Proofs.Ytlkebjkpmiehcaa.Pure (nv numOf vecOf nv_bd From beL beL_length bytesOf_app bytesOf_strOf beL_byte bytesOf_inj strOf_size putVecOf putVec_ok bytes_ok bt_get)
set_option linter.unusedVariables false
set_option linter.unusedSimpArgs false
theorem xe_putVec : wire_PutVec.f = E.wire_PutVec.f := by kernel_rfl
theorem xe_bytes : wire_Bytes.f = E.wire_Bytes.f := by kernel_rfl
theorem pw {n : Nat} (h3 : n ≤ 3) (x : Int) (h : x < 256 ^ n) : x < 16777216 := by
  have : n = 0 ∨ n = 1 ∨ n = 2 ∨ n = 3 := by omega
  rcases this with rfl | rfl | rfl | rfl <;> simp at h <;> omega
theorem vec_from {s t : ByteArray} {p n : Nat} {m : List Int} (h : From s p (beL n t.size ++ (bytesOf t ++ m))) (ht : (t.size : Int) < 256 ^ n) :
    vecOf s p n = (t, ((p + n + t.size : Nat) : Int), 0) ∧ From s (p + n + t.size) m := by
  obtain ⟨h1, h2⟩ := h.number
  obtain ⟨h3, h4⟩ := h2.text
  have hl := h.len
  have hl4 := h4.len
  rw [List.length_append, beL_length, List.length_append, bytesOf_length] at hl
  have hv : nv s p n = t.size := by rw [h1]; exact Int.emod_eq_of_lt (by omega) ht
  refine ⟨?_, h4⟩
  unfold vecOf
  rw [hv, if_neg (by omega), if_neg (by omega)]
  have e1 : ((p : Int) + (n : Int)).toNat = p + n := by omega
  have e2 : ((p : Int) + (n : Int) + (t.size : Int)).toNat = p + n + t.size := by omega
  rw [e1, e2, h3]
  congr 1
theorem num_from {s : ByteArray} {p n : Nat} {x : Int} {m : List Int} (h : From s p (beL n x ++ m)) (h0 : 0 ≤ x) (hx : x < 256 ^ n) :
    numOf s p n = (x, ((p + n : Nat) : Int), 0) ∧ From s (p + n) m := by
  obtain ⟨h1, h2⟩ := h.number
  have hl := h.len
  rw [List.length_append, beL_length] at hl
  refine ⟨?_, h2⟩
  unfold numOf
  rw [h1, if_neg (by omega), Int.emod_eq_of_lt h0 hx]
  congr 1
theorem rvec {s t : ByteArray} {p n : Nat} {m : List Int} {tw la : Bool} (lo hi : Int) (h : From s p (beL n t.size ++ (bytesOf t ++ m))) (ht : (t.size : Int) < 256 ^ n) (h1 : lo ≤ t.size) (h2 : (t.size : Int) ≤ hi) :
    (Rp.mk s p 0 tw la).vecV n lo hi = t ∧ (Rp.mk s p 0 tw la).vecR n lo hi = ⟨s, ((p + n + t.size : Nat) : Int), 0, tw, la⟩ ∧ From s (p + n + t.size) m := by
  obtain ⟨e, hf⟩ := vec_from h ht
  have hc : (Rp.mk s p 0 tw la).vecC n lo hi = 0 := by
    unfold Rp.vecC
    show needed 0 (vecOk (vecOf s p n).1 (vecOf s p n).2.2 lo hi) = 0
    rw [e]
    unfold vecOk
    simp [h1, h2, needed]
  refine ⟨?_, ?_, hf⟩
  · unfold Rp.vecV
    rw [hc]
    show sel 0 (vecOf s p n).1 _ = t
    rw [e]
    exact sel_pos rfl
  · unfold Rp.vecR
    rw [hc]
    show Rp.mk s (sel 0 (vecOf s p n).2.1 _) 0 tw la = _
    rw [e, sel_pos rfl]
theorem rin {s t : ByteArray} {p n : Nat} {m : List Int} {tw la : Bool} (h : From s p (beL n t.size ++ (bytesOf t ++ m))) (ht : (t.size : Int) < 256 ^ n) (h3 : n ≤ 3) :
    (Rp.mk s p 0 tw la).inR n = ⟨t, 0, 0, tw, false⟩ ∧ (Rp.mk s p 0 tw la).outR n = ⟨s, ((p + n + t.size : Nat) : Int), 0, tw, la⟩ ∧ From s (p + n + t.size) m := by
  have hb := pw h3 _ ht
  obtain ⟨e1, e2, hf⟩ := rvec (tw := tw) (la := la) 0 16777216 h ht (by omega) (by omega)
  refine ⟨?_, e2, hf⟩
  have hc : (Rp.mk s p 0 tw la).vecC n 0 16777216 = 0 := congrArg Rp.c e2
  unfold Rp.inR
  rw [e1, hc]
theorem rnum {s : ByteArray} {p n : Nat} {x : Int} {m : List Int} {tw la : Bool} (h : From s p (beL n x ++ m)) (h0 : 0 ≤ x) (hx : x < 256 ^ n) :
    (Rp.mk s p 0 tw la).numV n = x ∧ (Rp.mk s p 0 tw la).numR n = ⟨s, ((p + n : Nat) : Int), 0, tw, la⟩ ∧ From s (p + n) m := by
  obtain ⟨e, hf⟩ := num_from h h0 hx
  have hc : (Rp.mk s p 0 tw la).numC n = 0 := by
    unfold Rp.numC
    show needed 0 ((numOf s p n).2.2 == 0) = 0
    rw [e]
    simp [needed]
  refine ⟨?_, ?_, hf⟩
  · unfold Rp.numV
    rw [hc]
    show sel 0 (numOf s p n).1 _ = x
    rw [e]
    exact sel_pos rfl
  · unfold Rp.numR
    rw [hc]
    show Rp.mk s (sel 0 (numOf s p n).2.1 _) 0 tw la = _
    rw [e, sel_pos rfl]
def V (n : Nat) (s : ByteArray) : ByteArray := strOfNums (beL n s.size) ++ s
theorem V_size (n : Nat) (s : ByteArray) : (V n s).size = n + s.size := by
  unfold V
  rw [ByteArray.size_append, strOf_size, beL_length]
theorem V_bytes (n : Nat) (s : ByteArray) : bytesOf (V n s) = beL n s.size ++ bytesOf s := by
  unfold V
  rw [bytesOf_app, bytesOf_strOf (beL_byte _ _)]
theorem vec3 (s : ByteArray) (hs : s.size ≤ 140737488351232) : halberdlaw17_vec.f s 3 = some (V 3 s) := by
  unfold halberdlaw17_vec.f
  simp only [Option.bind_some]
  have e0 : wrap64 (3 - 3) = 0 := by unfold wrap64; omega
  have e1 : ([((s.size : Int) / 65536) % 256, ((s.size : Int) / 256) % 256, ((s.size : Int)) % 256] : List Int) = beL 3 s.size := by
    simp [beL, Int.ediv_ediv]
  rw [e0, e1, if_pos (by omega), if_pos (by omega)]
  have e2 : (strOfNums (beL 3 (s.size : Int))).extract (0 : Int).toNat (strOfNums (beL 3 (s.size : Int))).size = strOfNums (beL 3 s.size) := by
    apply ByteArray.ext
    simp
  rw [e2, strOf_size, beL_length, if_pos (by omega)]
  rfl
def framedV (k : Int) (u : ByteArray) : ByteArray := strOfNums [k % 256] ++ V 3 u
theorem made_ok (k : Int) (u : ByteArray) (hu : u.size ≤ 140737488351232) : halberdlaw17_made.f k u = some (framedV k u) := by
  unfold halberdlaw17_made.f
  rw [vec3 u hu]
  simp only [Option.bind_some]
  rw [V_size, if_pos (by rw [strOf_size]; simp only [List.length_cons, List.length_nil]; omega)]
  rfl
theorem framedV_size (k : Int) (u : ByteArray) : (framedV k u).size = u.size + 4 := by
  unfold framedV
  rw [ByteArray.size_append, V_size, strOf_size]
  simp only [List.length_cons, List.length_nil]
  omega
theorem framedV_bytes (k : Int) (u : ByteArray) : bytesOf (framedV k u) = (k % 256) :: (beL 3 u.size ++ bytesOf u) := by
  unfold framedV
  have hb : 0 ≤ k % 256 ∧ k % 256 ≤ 255 := by omega
  rw [bytesOf_app, V_bytes, bytesOf_strOf (by intro x hx; rw [List.mem_singleton] at hx; rw [hx]; exact hb)]
  rfl
theorem framed_eq (k : Int) (u : ByteArray) : framed k u = framedV k u := by
  unfold framed framedV V be3
  rw [xe_bytes, show E.wire_Bytes.f (u.size : Int) 3 = some (strOfNums (beL 3 u.size)) from bytes_ok u.size 3 (by omega) (by omega), ByteArray.append_assoc]
  rfl
theorem pv_ok (v : ByteArray) (n : Nat) (h0 : 1 ≤ n) (h1 : n ≤ 3) (hv : (v.size : Int) < 256 ^ n) : pv v n = (V n v, 0) := by
  have := pw h1 _ hv
  unfold pv
  rw [xe_putVec, putVec_ok v n h0 h1 (by omega)]
  unfold putVecOf
  rw [if_pos hv]
  rfl
theorem head_ok {k : Int} {u : ByteArray} (hu : u.size ≤ 65532) : headed (framedV k u) = true ∧ getR (framedV k u) = ⟨u, 0, 0, false, false⟩ ∧ bt (framedV k u) 0 = k % 256 := by
  have hz := framedV_size k u
  have h0 := From.start (framedV k u)
  rw [framedV_bytes] at h0
  have h1 : From (framedV k u) 1 (beL 3 u.size ++ bytesOf u) := From.skip (l := [k % 256]) h0
  have h1' : From (framedV k u) 1 (beL 3 u.size ++ (bytesOf u ++ [])) := by rwa [List.append_nil]
  obtain ⟨e, h4⟩ := num_from h1 (by omega) (by omega)
  obtain ⟨h5, _⟩ := (Go.Proofs.Ytlkebjkpmiehcaa.Pure.From.text (s := framedV k u) (t := u) (p := 4) (m := []) (by rw [List.append_nil]; exact h4))
  refine ⟨?_, ?_, ?_⟩
  · unfold headed
    have e' : numOf (framedV k u) 1 3 = ((u.size : Int), ((1 + 3 : Nat) : Int), 0) := e
    rw [e', hz]
    rw [decide_eq_true (show ((u.size + 4 : Nat) : Int) ≤ 65536 by omega)]
    simp only [beq_self_eq_true, Bool.true_and, Bool.and_true, beq_iff_eq]
    omega
  · unfold getR
    rw [hz, Nat.add_comm u.size 4, h5]
  · rw [bt_get, framedV_bytes]
    rfl
end Go.Proofs.Ytlkebjkpmiehcaa.Ms
end
section
namespace Go.Proofs.Ytlkebjkpmiehcaa.Ms
open Go.RowKit Go.Proofs.YtlkebjkpmiehcaaW.PrintWords Go.Proofs.YtlkebjkpmiehcaaW.PrintLast Go.Proofs.YtlkebjkpmiehcaaW.PrintMore Go.Proofs.Ytlkebjkpmiehcaa.X
open Go.Proofs.Ytlkebjkpmiehcaa.Pure (nv numOf vecOf nv_bd From beL beL_length bytesOf_app bytesOf_strOf beL_byte bytesOf_inj strOf_size putVecOf putVec_ok bytes_ok bt_get)
set_option linter.unusedVariables false
set_option linter.unusedSimpArgs false
theorem ex_parts {s t : ByteArray} {p : Nat} {kd : Int} {m : List Int} {seen : List Int} (h : From s p (beL 2 kd ++ (beL 2 t.size ++ (bytesOf t ++ m)))) (h0 : 0 ≤ kd) (h1 : kd < 65536) (ht : (t.size : Int) < 65536) (hs : kd ∉ seen) :
    Rp.exK ⟨s, p, 0, false, false⟩ = kd ∧ Rp.exI ⟨s, p, 0, false, false⟩ seen = ⟨t, 0, 0, false, false⟩ ∧ Rp.exP ⟨s, p, 0, false, false⟩ seen = ⟨s, ((p + 4 + t.size : Nat) : Int), 0, false, false⟩ ∧ From s (p + 4 + t.size) m := by
  obtain ⟨e1, e2, f1⟩ := rnum (tw := false) (la := false) h h0 (by omega)
  obtain ⟨e3, e4, f2⟩ := rin (tw := false) (la := false) f1 (by omega) (by omega)
  have hA : Rp.exA ⟨s, p, 0, false, false⟩ = ⟨s, p, 0, false, false⟩ := rfl
  have hK : Rp.exK ⟨s, p, 0, false, false⟩ = kd := by unfold Rp.exK; rw [hA]; exact e1
  have hB : Rp.exB ⟨s, p, 0, false, false⟩ = ⟨s, ((p + 2 : Nat) : Int), 0, false, false⟩ := by unfold Rp.exB; rw [hA]; exact e2
  have hT : Rp.exT ⟨s, p, 0, false, false⟩ seen = false := by unfold Rp.exT; rw [hK]; simp [hs]
  have e : p + 2 + 2 + t.size = p + 4 + t.size := by omega
  rw [e] at e4 f2
  refine ⟨hK, ?_, ?_, f2⟩
  · unfold Rp.exI
    rw [hB, hT]
    show { (Rp.mk s ((p + 2 : Nat) : Int) 0 false false).inR 2 with t := false } = _
    have e3' : (Rp.mk s ((p + 2 : Nat) : Int) 0 false false).inR 2 = _ := e3
    rw [e3']
  · unfold Rp.exP
    rw [hB, hT]
    have e4' : (Rp.mk s ((p + 2 : Nat) : Int) 0 false false).outR 2 = _ := e4
    rw [e4']
theorem more_at {s : ByteArray} {p : Nat} (h : p < s.size) : Rp.more ⟨s, p, 0, false, false⟩ = true := by
  unfold Rp.more
  rw [decide_eq_true (show (p : Int) < (s.size : Int) by omega)]
  rfl
theorem more_end {s : ByteArray} : Rp.more ⟨s, (s.size : Int), 0, false, false⟩ = false := by
  unfold Rp.more
  simp
theorem exts_end (take : Int → Mv → Rp → Bool × Mv × Rp) (lastf : Int → Bool → Bool) (k : Nat) (seen : List Int) (m : Mv) (s : ByteArray) : exts take lastf k seen m ⟨s, (s.size : Int), 0, false, false⟩ = ([], m, ⟨s, (s.size : Int), 0, false, false⟩) := by
  cases k with
  | zero => rfl
  | succ k =>
    unfold exts
    rw [if_neg (by rw [more_end]; decide)]
theorem exts_take {take : Int → Mv → Rp → Bool × Mv × Rp} {s t : ByteArray} {p k : Nat} {kd : Int} {m : List Int} {seen : List Int} {mv mv' : Mv} (h : From s p (beL 2 kd ++ (beL 2 t.size ++ (bytesOf t ++ m)))) (h0 : 0 ≤ kd) (h1 : kd < 65536) (ht : (t.size : Int) < 65536) (hs : kd ∉ seen)
    (hx : take kd mv ⟨t, 0, 0, false, false⟩ = (true, mv', ⟨t, (t.size : Int), 0, false, false⟩)) :
    exts take sameL (k + 1) seen mv ⟨s, p, 0, false, false⟩ = exts take sameL k (seen ++ [kd]) mv' ⟨s, ((p + 4 + t.size : Nat) : Int), 0, false, false⟩ := by
  obtain ⟨e1, e2, e3, f⟩ := ex_parts h h0 h1 ht hs
  have hl := h.len
  rw [List.length_append, beL_length] at hl
  have hX : exX take ⟨s, p, 0, false, false⟩ seen mv = (true, mv', ⟨t, (t.size : Int), 0, false, false⟩) := by
    unfold exX
    rw [e1, e2, hx]
  have hQ : exQ take sameL ⟨s, p, 0, false, false⟩ seen mv = ⟨s, ((p + 4 + t.size : Nat) : Int), 0, false, false⟩ := by
    unfold exQ
    rw [e3, hX]
    rfl
  have hd : Rp.done ⟨t, (t.size : Int), 0, false, false⟩ = ⟨t, (t.size : Int), 0, false, false⟩ := by
    unfold Rp.done Rp.need
    simp [needed]
  have hN : exN take sameL ⟨s, p, 0, false, false⟩ seen mv = ⟨s, ((p + 4 + t.size : Nat) : Int), 0, false, false⟩ := by
    unfold exN
    rw [hX, hQ, hd]
    rfl
  have hO : exO take sameL ⟨s, p, 0, false, false⟩ seen mv = [] := by
    unfold exO
    rw [hX]
    rfl
  conv => lhs; unfold exts
  rw [if_pos (more_at (by omega)), hO, hN, hX, e1]
  rfl
theorem exts_other {take : Int → Mv → Rp → Bool × Mv × Rp} {s t : ByteArray} {p k : Nat} {kd : Int} {m : List Int} {seen : List Int} {mv : Mv} (h : From s p (beL 2 kd ++ (beL 2 t.size ++ (bytesOf t ++ m)))) (h0 : 0 ≤ kd) (h1 : kd < 65536) (ht : (t.size : Int) < 65536) (hs : kd ∉ seen)
    (hx : take kd mv ⟨t, 0, 0, false, false⟩ = (false, mv, ⟨t, 0, 0, false, false⟩)) :
    exts take sameL (k + 1) seen mv ⟨s, p, 0, false, false⟩ = (kd :: (exts take sameL k (seen ++ [kd]) mv ⟨s, ((p + 4 + t.size : Nat) : Int), 0, false, false⟩).1, (exts take sameL k (seen ++ [kd]) mv ⟨s, ((p + 4 + t.size : Nat) : Int), 0, false, false⟩).2) := by
  obtain ⟨e1, e2, e3, f⟩ := ex_parts h h0 h1 ht hs
  have hl := h.len
  rw [List.length_append, beL_length] at hl
  have hX : exX take ⟨s, p, 0, false, false⟩ seen mv = (false, mv, ⟨t, 0, 0, false, false⟩) := by
    unfold exX
    rw [e1, e2, hx]
  have hQ : exQ take sameL ⟨s, p, 0, false, false⟩ seen mv = ⟨s, ((p + 4 + t.size : Nat) : Int), 0, false, false⟩ := by
    unfold exQ
    rw [e3, hX]
    rfl
  have hN : exN take sameL ⟨s, p, 0, false, false⟩ seen mv = ⟨s, ((p + 4 + t.size : Nat) : Int), 0, false, false⟩ := by
    unfold exN
    rw [hX, hQ]
    rfl
  have hO : exO take sameL ⟨s, p, 0, false, false⟩ seen mv = [kd] := by
    unfold exO
    rw [hX, hQ, e1]
    rfl
  conv => lhs; unfold exts
  rw [if_pos (more_at (by omega)), hO, hN, hX, e1]
  rfl
theorem rbyt {s t : ByteArray} {p n : Nat} {m : List Int} {tw la : Bool} (h : From s p (bytesOf t ++ m)) (hn : t.size = n) :
    (Rp.mk s p 0 tw la).bytV n = t ∧ (Rp.mk s p 0 tw la).bytR n = ⟨s, ((p + n : Nat) : Int), 0, tw, la⟩ ∧ From s (p + n) m := by
  have hl := h.len
  rw [List.length_append, bytesOf_length] at hl
  obtain ⟨e, f⟩ := h.text
  rw [hn] at e f hl
  have hc : (Rp.mk s p 0 tw la).bytC n = 0 := by
    unfold Rp.bytC
    show needed 0 (decide ((n : Int) ≤ (s.size : Int) - (p : Int))) = 0
    rw [decide_eq_true (by omega)]
    rfl
  refine ⟨?_, ?_, f⟩
  · unfold Rp.bytV
    rw [hc, sel_pos rfl]
    show s.extract (p : Int).toNat ((p : Int) + (n : Int)).toNat = t
    have e1 : ((p : Int) + (n : Int)).toNat = p + n := by omega
    rw [e1, Int.toNat_natCast, e]
  · unfold Rp.bytR
    rw [hc, sel_pos rfl]
    show Rp.mk s ((p : Int) + (n : Int)) 0 tw la = _
    congr 1
theorem sh_read {s r E : ByteArray} {su : Int} (hs : bytesOf s = beL 2 771 ++ (bytesOf r ++ (beL 1 (⟨#[]⟩ : ByteArray).size ++ (bytesOf (⟨#[]⟩ : ByteArray) ++ (beL 2 su ++ (beL 1 0 ++ (beL 2 E.size ++ (bytesOf E ++ [])))))))) (hr : r.size = 32) (h0 : 0 ≤ su) (h1 : su < 65536) (hE : (E.size : Int) < 65536) (m : Mv) :
    Rp.sX ⟨s, 0, 0, false, false⟩ m = exts srv sameL E.size [] { m with f1 := r, f2 := ⟨#[]⟩, f3 := [su] } ⟨E, 0, 0, false, false⟩ ∧ (Rp.s6 ⟨s, 0, 0, false, false⟩).outR 2 = ⟨s, (s.size : Int), 0, false, false⟩ := by
  have f0 := From.start s
  rw [hs] at f0
  obtain ⟨a1, a2, f1⟩ := rnum (tw := false) (la := false) f0 (by decide) (by decide)
  have eh1 : Rp.h1 ⟨s, 0, 0, false, false⟩ = ⟨s, ((0 + 2 : Nat) : Int), 0, false, false⟩ := by
    unfold Rp.h1 Rp.verR
    have a1' : (Rp.mk s 0 0 false false).numV 2 = 771 := a1
    have a2' : (Rp.mk s 0 0 false false).numR 2 = _ := a2
    rw [a1', a2']
    rfl
  obtain ⟨b1, b2, f2⟩ := rbyt (tw := false) (la := false) f1 hr
  have eh2 : Rp.h2 ⟨s, 0, 0, false, false⟩ = ⟨s, ((0 + 2 + 32 : Nat) : Int), 0, false, false⟩ := by
    unfold Rp.h2
    rw [eh1]
    exact b2
  obtain ⟨c1, c2, f3⟩ := rvec (tw := false) (la := false) 0 32 f2 (by decide) (by decide) (by decide)
  have eh3 : Rp.h3 ⟨s, 0, 0, false, false⟩ = ⟨s, ((0 + 2 + 32 + 1 + 0 : Nat) : Int), 0, false, false⟩ := by
    unfold Rp.h3
    rw [eh2]
    exact c2
  obtain ⟨d1, d2, f4⟩ := rnum (tw := false) (la := false) f3 h0 (by omega)
  have es4 : Rp.s4 ⟨s, 0, 0, false, false⟩ = ⟨s, ((0 + 2 + 32 + 1 + 0 + 2 : Nat) : Int), 0, false, false⟩ := by
    unfold Rp.s4
    rw [eh3]
    exact d2
  obtain ⟨g1, g2, f5⟩ := rnum (tw := false) (la := false) f4 (by decide) (by decide)
  have es6 : Rp.s6 ⟨s, 0, 0, false, false⟩ = ⟨s, ((0 + 2 + 32 + 1 + 0 + 2 + 1 : Nat) : Int), 0, false, false⟩ := by
    unfold Rp.s6 Rp.s5
    rw [es4]
    have g1' : (Rp.mk s ((0 + 2 + 32 + 1 + 0 + 2 : Nat) : Int) 0 false false).numV 1 = 0 := g1
    have g2' : (Rp.mk s ((0 + 2 + 32 + 1 + 0 + 2 : Nat) : Int) 0 false false).numR 1 = _ := g2
    rw [g1', g2']
    rfl
  obtain ⟨k1, k2, f6⟩ := rin (tw := false) (la := false) f5 (by omega) (by omega)
  have hz := f6.len
  simp only [List.length_nil, Nat.add_zero] at hz
  have eM : Rp.sM ⟨s, 0, 0, false, false⟩ m = { m with f1 := r, f2 := ⟨#[]⟩, f3 := [su] } := by
    unfold Rp.sM Rp.hM
    rw [eh1, eh2, eh3]
    have b1' : (Rp.mk s ((0 + 2 : Nat) : Int) 0 false false).bytV 32 = r := b1
    have c1' : (Rp.mk s ((0 + 2 + 32 : Nat) : Int) 0 false false).vecV 1 0 32 = ⟨#[]⟩ := c1
    have d1' : (Rp.mk s ((0 + 2 + 32 + 1 + 0 : Nat) : Int) 0 false false).numV 2 = su := d1
    rw [b1', c1', d1']
  refine ⟨?_, ?_⟩
  · unfold Rp.sX
    rw [es6, eM]
    have k1' : (Rp.mk s ((0 + 2 + 32 + 1 + 0 + 2 + 1 : Nat) : Int) 0 false false).inR 2 = _ := k1
    rw [k1']
  · rw [es6]
    have k2' : (Rp.mk s ((0 + 2 + 32 + 1 + 0 + 2 + 1 : Nat) : Int) 0 false false).outR 2 = _ := k2
    rw [k2']
    congr 1
    omega
theorem get_good {u : ByteArray} {k : Int} {mm : Mv} (hk0 : 0 ≤ k) (hk1 : k < 256) (hk : knownB k = true) (hu : u.size ≤ 65532) (hb : bodyP ⟨u, 0, 0, false, false⟩ { zeroM with f0 := k } = (mm, ⟨u, (u.size : Int), 0, false, false⟩)) : getM (framedV k u) = (mm, 0) := by
  obtain ⟨e1, e2, e3⟩ := head_ok (k := k) hu
  rw [Int.emod_eq_of_lt hk0 hk1] at e3
  have hB : getB (framedV k u) = (mm, ⟨u, (u.size : Int), 0, false, false⟩) := by
    unfold getB
    rw [e2, e3, hb]
  have hd : Rp.done ⟨u, (u.size : Int), 0, false, false⟩ = ⟨u, (u.size : Int), 0, false, false⟩ := by
    unfold Rp.done Rp.need
    simp [needed]
  have hF : getF (framedV k u) = ⟨u, (u.size : Int), 0, false, false⟩ := by
    unfold getF
    rw [hB, hd]
    rfl
  unfold getM
  rw [framedV_size, if_neg (by omega), e3, hk, if_neg (by decide), e1, if_neg (by decide), hF, hB]
  rfl
theorem known2 : knownB 2 = true := by decide +kernel
theorem sh_get {s r E : ByteArray} {su : Int} {O : List Int} {m' : Mv} (hs : bytesOf s = beL 2 771 ++ (bytesOf r ++ (beL 1 (⟨#[]⟩ : ByteArray).size ++ (bytesOf (⟨#[]⟩ : ByteArray) ++ (beL 2 su ++ (beL 1 0 ++ (beL 2 E.size ++ (bytesOf E ++ [])))))))) (hr : r.size = 32) (h0 : 0 ≤ su) (h1 : su < 65536) (hE : (E.size : Int) < 65536) (hz : s.size ≤ 65532)
    (hx : exts srv sameL E.size [] { zeroM with f0 := 2, f1 := r, f2 := ⟨#[]⟩, f3 := [su] } ⟨E, 0, 0, false, false⟩ = (O, m', ⟨E, (E.size : Int), 0, false, false⟩)) : getM (framedV 2 s) = ({ m' with f13 := O }, 0) := by
  obtain ⟨e1, e2⟩ := sh_read hs hr h0 h1 hE { zeroM with f0 := 2 }
  refine get_good (by decide) (by decide) known2 hz ?_
  have e1' : Rp.sX ⟨s, 0, 0, false, false⟩ { zeroM with f0 := 2 } = (O, m', ⟨E, (E.size : Int), 0, false, false⟩) := e1.trans hx
  show (Rp.shM ⟨s, 0, 0, false, false⟩ { zeroM with f0 := 2 }, Rp.shR ⟨s, 0, 0, false, false⟩ { zeroM with f0 := 2 }) = _
  unfold Rp.shM Rp.shR
  rw [e1', e2]
  rfl
end Go.Proofs.Ytlkebjkpmiehcaa.Ms
end
section
namespace Go.Proofs.Ytlkebjkpmiehcaa.Ms
open Go.RowKit Go.Proofs.YtlkebjkpmiehcaaW.PrintWords Go.Proofs.YtlkebjkpmiehcaaW.PrintLast Go.Proofs.YtlkebjkpmiehcaaW.PrintMore Go.Proofs.Ytlkebjkpmiehcaa.X
open Go.Proofs.Ytlkebjkpmiehcaa.Pure (nv numOf vecOf nv_bd From beL beL_length bytesOf_app bytesOf_strOf beL_byte bytesOf_inj strOf_size putVecOf putVec_ok bytes_ok bt_get)
set_option linter.unusedVariables false
set_option linter.unusedSimpArgs false
def two (x : Int) : ByteArray := strOfNums (beL 2 x)
theorem two_size (x : Int) : (two x).size = 2 := by unfold two; rw [strOf_size, beL_length]
theorem two_bytes (x : Int) : bytesOf (two x) = beL 2 x := bytesOf_strOf (beL_byte 2 x)
theorem num_alone (x : Int) (h0 : 0 ≤ x) (h1 : x < 65536) : (Rp.mk (two x) 0 0 false false).numV 2 = x ∧ (Rp.mk (two x) 0 0 false false).numR 2 = ⟨two x, ((two x).size : Int), 0, false, false⟩ := by
  have f0 := From.start (two x)
  rw [two_bytes] at f0
  have f0' : From (two x) 0 (beL 2 x ++ []) := by rwa [List.append_nil]
  obtain ⟨e1, e2, _⟩ := rnum (tw := false) (la := false) f0' h0 (by omega)
  refine ⟨e1, ?_⟩
  have e2' : (Rp.mk (two x) 0 0 false false).numR 2 = _ := e2
  rw [e2', two_size]
theorem ra_exts {E : ByteArray} {g q : Int} {M : Mv} (hE : bytesOf E = beL 2 51 ++ (beL 2 (two g).size ++ (bytesOf (two g) ++ (beL 2 41 ++ (beL 2 (two q).size ++ (bytesOf (two q) ++ [])))))) (h0 : 0 ≤ g) (h1 : g < 65536) (hM : M.retry = true) :
    exts srv sameL E.size [] M ⟨E, 0, 0, false, false⟩ = ([41], { M with f6 := [g] }, ⟨E, (E.size : Int), 0, false, false⟩) := by
  have f0 := From.start E
  rw [hE] at f0
  have hz := f0.len
  simp only [List.length_append, beL_length, bytesOf_length, two_size, List.length_nil] at hz
  have hs : E.size = 10 + 1 + 1 := by omega
  obtain ⟨n1, n2⟩ := num_alone g h0 h1
  have f1 : From E (0 + 4 + (two g).size) (beL 2 41 ++ (beL 2 (two q).size ++ (bytesOf (two q) ++ []))) := (ex_parts (seen := []) f0 (by decide) (by decide) (by rw [two_size]; decide) (by simp)).2.2.2
  conv => lhs; rw [hs]
  have a := exts_take (take := srv) (k := 10 + 1) (mv := M) (mv' := { M with f6 := [g] }) (seen := []) f0 (by decide) (by decide) (by rw [two_size]; decide) (by simp) (by
    unfold srv
    rw [if_neg (by decide), if_pos rfl, if_pos hM, n1, n2])
  have a' : exts srv sameL (10 + 1 + 1) [] M ⟨E, 0, 0, false, false⟩ = _ := a
  rw [a']
  have hM' : ({ M with f6 := [g] } : Mv).retry = true := hM
  rw [exts_other (take := srv) (k := 10) (mv := { M with f6 := [g] }) f1 (by decide) (by decide) (by rw [two_size]; decide) (by simp) (by
    unfold srv
    rw [if_neg (by decide), if_neg (by decide), if_pos rfl, if_pos hM'])]
  have ez : ((0 + 4 + (two g).size + 4 + (two q).size : Nat) : Int) = (E.size : Int) := by
    rw [two_size, two_size]
    omega
  rw [ez, exts_end]
theorem exts_stop (take : Int → Mv → Rp → Bool × Mv × Rp) (lastf : Int → Bool → Bool) (k : Nat) (seen : List Int) (m : Mv) (R : Rp) (h : R.c ≠ 0) : exts take lastf k seen m R = ([], m, R) := by
  cases k with
  | zero => rfl
  | succ k =>
    unfold exts
    rw [if_neg]
    unfold Rp.more
    simp [h]
theorem exts_fault {take : Int → Mv → Rp → Bool × Mv × Rp} {s t : ByteArray} {p k : Nat} {kd : Int} {m : List Int} {seen : List Int} {mv mv' : Mv} {B : Rp} (h : From s p (beL 2 kd ++ (beL 2 t.size ++ (bytesOf t ++ m)))) (h0 : 0 ≤ kd) (h1 : kd < 65536) (ht : (t.size : Int) < 65536) (hs : kd ∉ seen)
    (hx : take kd mv ⟨t, 0, 0, false, false⟩ = (true, mv', B)) (hc : B.done.c = 1700) (hb : B.done.t = false) :
    ∃ R, exts take sameL (k + 1) seen mv ⟨s, p, 0, false, false⟩ = ([], mv', R) ∧ R.c = 1700 ∧ R.t = false := by
  obtain ⟨e1, e2, e3, f⟩ := ex_parts h h0 h1 ht hs
  have hl := h.len
  rw [List.length_append, beL_length] at hl
  have hX : exX take ⟨s, p, 0, false, false⟩ seen mv = (true, mv', B) := by
    unfold exX
    rw [e1, e2, hx]
  have hO : exO take sameL ⟨s, p, 0, false, false⟩ seen mv = [] := by
    unfold exO
    rw [hX]
    rfl
  have hNc : (exN take sameL ⟨s, p, 0, false, false⟩ seen mv).c = 1700 ∧ (exN take sameL ⟨s, p, 0, false, false⟩ seen mv).t = false := by
    unfold exN
    rw [hX]
    exact ⟨hc, hb⟩
  refine ⟨exN take sameL ⟨s, p, 0, false, false⟩ seen mv, ?_, hNc.1, hNc.2⟩
  conv => lhs; unfold exts
  rw [if_pos (more_at (by omega)), hO, hX, exts_stop _ _ _ _ _ _ (by rw [hNc.1]; decide)]
  rfl
theorem get_form {u : ByteArray} {k : Int} {mm : Mv} {R : Rp} (hk0 : 0 ≤ k) (hk1 : k < 256) (hk : knownB k = true) (hu : u.size ≤ 65532) (hb : bodyP ⟨u, 0, 0, false, false⟩ { zeroM with f0 := k } = (mm, R)) (hc : R.c = 1700) (ht : R.t = false) : getM (framedV k u) = (zeroM, 1700) := by
  obtain ⟨e1, e2, e3⟩ := head_ok (k := k) hu
  rw [Int.emod_eq_of_lt hk0 hk1] at e3
  have hB : getB (framedV k u) = (mm, R) := by
    unfold getB
    rw [e2, e3, hb]
  have hd : R.done.c = 1700 ∧ R.done.t = false := by
    refine ⟨?_, ht⟩
    unfold Rp.done Rp.need
    show needed R.c _ = 1700
    rw [hc]
    unfold needed bad
    split <;> rfl
  have hF : (getF (framedV k u)).c = 1700 := by
    unfold getF
    rw [hB, hd.2]
    exact hd.1
  unfold getM
  rw [framedV_size, if_neg (by omega), e3, hk, if_neg (by decide), e1, if_neg (by decide), hF, if_neg (by decide)]
theorem sh_form {s r E : ByteArray} {su : Int} {O : List Int} {m' : Mv} {R : Rp} (hs : bytesOf s = beL 2 771 ++ (bytesOf r ++ (beL 1 (⟨#[]⟩ : ByteArray).size ++ (bytesOf (⟨#[]⟩ : ByteArray) ++ (beL 2 su ++ (beL 1 0 ++ (beL 2 E.size ++ (bytesOf E ++ [])))))))) (hr : r.size = 32) (h0 : 0 ≤ su) (h1 : su < 65536) (hE : (E.size : Int) < 65536) (hz : s.size ≤ 65532)
    (hx : exts srv sameL E.size [] { zeroM with f0 := 2, f1 := r, f2 := ⟨#[]⟩, f3 := [su] } ⟨E, 0, 0, false, false⟩ = (O, m', R)) (hc : R.c = 1700) (ht : R.t = false) : getM (framedV 2 s) = (zeroM, 1700) := by
  obtain ⟨e1, e2⟩ := sh_read hs hr h0 h1 hE { zeroM with f0 := 2 }
  have e1' : Rp.sX ⟨s, 0, 0, false, false⟩ { zeroM with f0 := 2 } = (O, m', R) := e1.trans hx
  refine get_form (mm := { m' with f13 := O }) (R := (⟨s, (s.size : Int), 0, false, false⟩ : Rp).back R) (by decide) (by decide) known2 hz ?_ hc ht
  show (Rp.shM ⟨s, 0, 0, false, false⟩ { zeroM with f0 := 2 }, Rp.shR ⟨s, 0, 0, false, false⟩ { zeroM with f0 := 2 }) = _
  unfold Rp.shM Rp.shR
  rw [e1', e2]
theorem rb_take {t : ByteArray} {g : Int} {l : List Int} {M : Mv} (ht : bytesOf t = beL 2 g ++ l) (hl : l ≠ []) (h0 : 0 ≤ g) (h1 : g < 65536) (hM : M.retry = true) :
    ∃ m' B, srv 51 M ⟨t, 0, 0, false, false⟩ = (true, m', B) ∧ B.done.c = 1700 ∧ B.done.t = false := by
  have f0 := From.start t
  rw [ht] at f0
  have hz := f0.len
  rw [List.length_append, beL_length] at hz
  have hp : 0 < l.length := by cases l with | nil => exact absurd rfl hl | cons a r => exact Nat.succ_pos _
  obtain ⟨e1, e2, _⟩ := rnum (tw := false) (la := false) f0 h0 (by omega)
  have e2' : (Rp.mk t 0 0 false false).numR 2 = ⟨t, ((0 + 2 : Nat) : Int), 0, false, false⟩ := e2
  refine ⟨_, _, by unfold srv; rw [if_neg (by decide), if_pos rfl, if_pos hM], ?_, ?_⟩
  · rw [e2']
    unfold Rp.done Rp.need
    show needed 0 (((0 + 2 : Nat) : Int) == (t.size : Int)) = 1700
    rw [beq_eq_false_iff_ne.mpr (by omega)]
    rfl
  · rw [e2']
    rfl
theorem rc_take {t key : ByteArray} {g : Int} {M : Mv} (ht : bytesOf t = beL 2 g ++ (beL 2 key.size ++ (bytesOf key ++ []))) (h0 : 0 ≤ g) (h1 : g < 65536) (hk : 1 ≤ key.size) (hk2 : key.size < 65536) (hM : M.retry = false) :
    srv 51 M ⟨t, 0, 0, false, false⟩ = (true, { M with f9 := [⟨g, key⟩] }, ⟨t, (t.size : Int), 0, false, false⟩) := by
  have f0 := From.start t
  rw [ht] at f0
  have hz := f0.len
  simp only [List.length_append, beL_length, bytesOf_length, List.length_nil] at hz
  obtain ⟨e1, e2, f1⟩ := rnum (tw := false) (la := false) f0 h0 (by omega)
  obtain ⟨e3, e4, _⟩ := rvec (tw := false) (la := false) 1 65536 f1 (by omega) (by omega) (by omega)
  have e1' : (Rp.mk t 0 0 false false).numV 2 = g := e1
  have e2' : (Rp.mk t 0 0 false false).numR 2 = ⟨t, ((0 + 2 : Nat) : Int), 0, false, false⟩ := e2
  have e3' : (Rp.mk t ((0 + 2 : Nat) : Int) 0 false false).vecV 2 1 65536 = key := e3
  have e4' : (Rp.mk t ((0 + 2 : Nat) : Int) 0 false false).vecR 2 1 65536 = _ := e4
  unfold srv
  rw [if_neg (by decide), if_pos rfl, if_neg (by rw [hM]; decide)]
  unfold Rp.shaV Rp.shaR
  rw [e1', e2', e3', e4']
  congr 3
  omega
theorem rc_psk {q : Int} {M : Mv} (h0 : 0 ≤ q) (h1 : q < 65536) (hM : M.retry = false) : srv 41 M ⟨two q, 0, 0, false, false⟩ = (true, { M with f12 := q + 1 }, ⟨two q, ((two q).size : Int), 0, false, false⟩) := by
  obtain ⟨n1, n2⟩ := num_alone q h0 h1
  unfold srv
  rw [if_neg (by decide), if_neg (by decide), if_pos rfl, if_neg (by rw [hM]; decide), n1, n2]
theorem rd_take {g : Int} {M : Mv} (h0 : 0 ≤ g) (h1 : g < 65536) (hM : M.retry = false) :
    ∃ m' B, srv 51 M ⟨two g, 0, 0, false, false⟩ = (true, m', B) ∧ B.done.c = 1700 ∧ B.done.t = false := by
  obtain ⟨n1, n2⟩ := num_alone g h0 h1
  have hv : vecOf (two g) ((two g).size : Int) 2 = (⟨#[]⟩, 0, 100) := by
    unfold vecOf
    rw [if_pos (by omega)]
  have dn : ∀ R : Rp, R.c = 1700 → R.done.c = 1700 := fun R h => by
    unfold Rp.done Rp.need
    show needed R.c _ = 1700
    rw [h]
    unfold needed bad
    split <;> rfl
  have hc : (Rp.mk (two g) ((two g).size : Int) 0 false false).vecC 2 1 65536 = 1700 := by
    unfold Rp.vecC
    show needed 0 (vecOk (vecOf (two g) ((two g).size : Int) 2).1 (vecOf (two g) ((two g).size : Int) 2).2.2 1 65536) = 1700
    rw [hv]
    rfl
  refine ⟨_, _, by unfold srv; rw [if_neg (by decide), if_pos rfl, if_neg (by rw [hM]; decide)], ?_, ?_⟩
  · unfold Rp.shaR
    rw [n2]
    exact dn _ hc
  · unfold Rp.shaR
    rw [n2]
    rfl
end Go.Proofs.Ytlkebjkpmiehcaa.Ms
end
section
namespace Go.Proofs.Ytlkebjkpmiehcaa.Ms
open Go.RowKit Go.Proofs.YtlkebjkpmiehcaaW.PrintWords Go.Proofs.YtlkebjkpmiehcaaW.PrintLast Go.Proofs.YtlkebjkpmiehcaaW.PrintMore Go.Proofs.Ytlkebjkpmiehcaa.X
open Go.Proofs.Ytlkebjkpmiehcaa.Pure (nv numOf vecOf nv_bd From beL beL_length bytesOf_app bytesOf_strOf beL_byte bytesOf_inj strOf_size putVecOf putVec_ok bytes_ok bt_get)
set_option linter.unusedVariables false
set_option linter.unusedSimpArgs false
def shS (r E : ByteArray) : ByteArray := (((⟨#[3, 3]⟩ : ByteArray) ++ r) ++ ⟨#[0, 19, 1, 0]⟩) ++ V 2 E
theorem shS_bytes (r E : ByteArray) : bytesOf (shS r E) = beL 2 771 ++ (bytesOf r ++ (beL 1 (⟨#[]⟩ : ByteArray).size ++ (bytesOf (⟨#[]⟩ : ByteArray) ++ (beL 2 4865 ++ (beL 1 0 ++ (beL 2 E.size ++ (bytesOf E ++ []))))))) := by
  unfold shS
  rw [bytesOf_app, bytesOf_app, bytesOf_app, V_bytes, List.append_nil, List.append_assoc, List.append_assoc]
  rfl
theorem shS_size (r E : ByteArray) : (shS r E).size = r.size + E.size + 8 := by
  unfold shS
  rw [ByteArray.size_append, ByteArray.size_append, ByteArray.size_append, V_size]
  show 2 + r.size + 4 + (2 + E.size) = _
  omega
def shM0 (r : ByteArray) : Mv := { zeroM with f0 := 2, f1 := r, f2 := ⟨#[]⟩, f3 := [4865] }
theorem r_one {r E : ByteArray} {g q : Int} (hE : bytesOf E = beL 2 51 ++ (beL 2 (two g).size ++ (bytesOf (two g) ++ (beL 2 41 ++ (beL 2 (two q).size ++ (bytesOf (two q) ++ [])))))) (hz : E.size = 12) (hr : r.size = 32) (h0 : 0 ≤ g) (h1 : g < 65536) (hM : (shM0 r).retry = true) :
    getM (framedV 2 (shS r E)) = ({ shM0 r with f6 := [g], f13 := [41] }, 0) :=
  sh_get (shS_bytes r E) hr (by decide) (by decide) (by omega) (by rw [shS_size]; omega) (ra_exts hE h0 h1 hM)
theorem r_two {r E t : ByteArray} {g : Int} {l : List Int} (hE : bytesOf E = beL 2 51 ++ (beL 2 t.size ++ (bytesOf t ++ []))) (ht : bytesOf t = beL 2 g ++ l) (hl : l ≠ []) (hz : E.size ≤ 1000) (hr : r.size = 32) (h0 : 0 ≤ g) (h1 : g < 65536) (hM : (shM0 r).retry = true) :
    getM (framedV 2 (shS r E)) = (zeroM, 1700) := by
  have f0 := From.start E
  rw [hE] at f0
  have hlen := f0.len
  simp only [List.length_append, beL_length, bytesOf_length, List.length_nil] at hlen
  obtain ⟨m', B, hx, hc, hb⟩ := rb_take ht hl h0 h1 hM
  obtain ⟨R, he, hRc, hRt⟩ := exts_fault (k := E.size - 1) (seen := []) (mv := shM0 r) f0 (by decide) (by decide) (by omega) (by simp) hx hc hb
  have hn : E.size - 1 + 1 = E.size := by omega
  rw [hn] at he
  exact sh_form (shS_bytes r E) hr (by decide) (by decide) (by omega) (by rw [shS_size]; omega) he hRc hRt
theorem r_four {r E : ByteArray} {g : Int} (hE : bytesOf E = beL 2 51 ++ (beL 2 (two g).size ++ (bytesOf (two g) ++ []))) (hz : E.size ≤ 1000) (hr : r.size = 32) (h0 : 0 ≤ g) (h1 : g < 65536) (hM : (shM0 r).retry = false) :
    getM (framedV 2 (shS r E)) = (zeroM, 1700) := by
  have f0 := From.start E
  rw [hE] at f0
  have hlen := f0.len
  simp only [List.length_append, beL_length, bytesOf_length, List.length_nil, two_size] at hlen
  obtain ⟨m', B, hx, hc, hb⟩ := rd_take h0 h1 hM
  obtain ⟨R, he, hRc, hRt⟩ := exts_fault (k := E.size - 1) (seen := []) (mv := shM0 r) f0 (by decide) (by decide) (by rw [two_size]; decide) (by simp) hx hc hb
  have hn : E.size - 1 + 1 = E.size := by omega
  rw [hn] at he
  exact sh_form (shS_bytes r E) hr (by decide) (by decide) (by omega) (by rw [shS_size]; omega) he hRc hRt
theorem r_three {r E t key : ByteArray} {g q : Int} (hE : bytesOf E = beL 2 51 ++ (beL 2 t.size ++ (bytesOf t ++ (beL 2 41 ++ (beL 2 (two q).size ++ (bytesOf (two q) ++ [])))))) (ht : bytesOf t = beL 2 g ++ (beL 2 key.size ++ (bytesOf key ++ []))) (hk : 1 ≤ key.size) (hz : E.size ≤ 1000) (hr : r.size = 32) (h0 : 0 ≤ g) (h1 : g < 65536) (h2 : 0 ≤ q) (h3 : q < 65536) (hM : (shM0 r).retry = false) :
    getM (framedV 2 (shS r E)) = ({ shM0 r with f9 := [⟨g, key⟩], f12 := q + 1, f13 := [] }, 0) := by
  have f0 := From.start E
  rw [hE] at f0
  have hlen := f0.len
  simp only [List.length_append, beL_length, bytesOf_length, List.length_nil, two_size] at hlen
  have htl : t.size = 4 + key.size := by
    have := congrArg List.length ht
    simp only [List.length_append, beL_length, bytesOf_length, List.length_nil] at this
    omega
  have f1 := (ex_parts (seen := []) f0 (by decide) (by decide) (by omega) (by simp)).2.2.2
  have a := exts_take (take := srv) (k := E.size - 2 + 1) (seen := []) (mv := shM0 r) f0 (by decide) (by decide) (by omega) (by simp) (rc_take ht h0 h1 hk (by omega) hM)
  have hM' : ({ shM0 r with f9 := [⟨g, key⟩] } : Mv).retry = false := hM
  have b := exts_take (take := srv) (k := E.size - 2) (seen := [] ++ [51]) (mv := { shM0 r with f9 := [⟨g, key⟩] }) f1 (by decide) (by decide) (by rw [two_size]; decide) (by simp) (rc_psk h2 h3 hM')
  rw [b] at a
  have ez : ((0 + 4 + t.size + 4 + (two q).size : Nat) : Int) = (E.size : Int) := by
    rw [two_size]
    omega
  rw [ez, exts_end] at a
  have hn : E.size - 2 + 1 + 1 = E.size := by omega
  rw [hn] at a
  exact sh_get (shS_bytes r E) hr (by decide) (by decide) (by omega) (by rw [shS_size]; omega) a
end Go.Proofs.Ytlkebjkpmiehcaa.Ms
end
section
namespace Go.Proofs.Ytlkebjkpmiehcaa.Ms
open Go.RowKit Go.Proofs.YtlkebjkpmiehcaaW.PrintWords Go.Proofs.YtlkebjkpmiehcaaW.PrintLast Go.Proofs.YtlkebjkpmiehcaaW.PrintMore Go.Proofs.Ytlkebjkpmiehcaa.X
open Go.Proofs.Ytlkebjkpmiehcaa.Pure (beL beL_length strOf_size)
set_option linter.unusedVariables false
set_option linter.unusedSimpArgs false
theorem cut1 (a b c : Int) : (strOfNums [a, b, c]).extract (1 : Int).toNat (strOfNums [a, b, c]).size = strOfNums [b, c] := by
  apply ByteArray.ext
  rw [ByteArray.data_extract]
  rfl
theorem vec2 (s : ByteArray) (hs : s.size ≤ 140737488351232) : halberdlaw17_vec.f s 2 = some (V 2 s) := by
  unfold halberdlaw17_vec.f
  simp only [Option.bind_some]
  have e0 : wrap64 (3 - 2) = 1 := by unfold wrap64; omega
  have e1 : ([((s.size : Int) / 256) % 256, ((s.size : Int)) % 256] : List Int) = beL 2 s.size := by
    simp [beL]
  rw [e0, if_pos (by omega), if_pos (by rw [strOf_size]; simp only [List.length_cons, List.length_nil]; omega), cut1, e1, strOf_size, beL_length, if_pos (by omega)]
  rfl
end Go.Proofs.Ytlkebjkpmiehcaa.Ms
end
section
namespace Go.Proofs.Ytlkebjkpmiehcaa.Ms
open Go.RowKit Go.Proofs.YtlkebjkpmiehcaaW.PrintWords Go.Proofs.YtlkebjkpmiehcaaW.PrintLast Go.Proofs.YtlkebjkpmiehcaaW.PrintMore Go.Proofs.Ytlkebjkpmiehcaa.X
set_option linter.unusedVariables false
set_option linter.unusedSimpArgs false
structure Wp where
  s : ByteArray
  b : Bool
abbrev WS (lo : Nat) (w : World) (g : Nat) (W : Wp) : Prop := Wt lo w g W.s W.b
def Wp.need (W : Wp) (is : Bool) : Wp := ⟨W.s, W.b || !is⟩
def Wp.num (W : Wp) (x : Int) (n : Int) : Wp := ⟨W.s ++ (nm x n).1, W.b || !((nm x n).2 == 0)⟩
def Wp.vec (W : Wp) (v : ByteArray) (n lo hi : Int) : Wp := ⟨W.s ++ (pv v n).1, W.b || !(vecOk v (pv v n).2 lo hi)⟩
def Wp.add (W : Wp) (v : ByteArray) : Wp := ⟨W.s ++ v, W.b⟩
def Wp.within (W U : Wp) (n : Int) : Wp := ⟨W.s ++ (pv U.s n).1, (W.b || !(!U.b)) || !(vecOk U.s (pv U.s n).2 0 16777216)⟩
def W0 : Wp := ⟨ByteArray.empty, false⟩
theorem need_w (lo g : Nat) (W : Wp) (is : Bool) (w : World) (h : WS lo w g W) :
    Calls Try.prog 61 #[.pointer (some ⟨g, 0, none⟩), .bool is] w fun e w' => e = .returned (.tuple #[]) ∧ WS lo w' g (W.need is) ∧ Fr lo g w w' :=
  (need_calls lo g W.s W.b is w h).mono fun e w' ⟨h1, h2, h3, h4⟩ => ⟨h1, h2, Fr.of_keep h3 h4⟩
theorem num_w (lo g : Nat) (W : Wp) (x size : Int) (w : World) (h : WS lo w g W) (h1 : 1 ≤ size) (h4 : size ≤ 4) (hn : W.s.size + 4 ≤ 140737488355328) :
    Calls Try.prog 60 #[.pointer (some ⟨g, 0, none⟩), .int .i64 x, .int .i64 size] w fun ex w' => ex = .returned (.tuple #[]) ∧ WS lo w' g (W.num x size) ∧ Fr lo g w w' :=
  num_calls' lo g W.s W.b x size w h h1 h4 hn
theorem vec_w (lo g : Nat) (W : Wp) (v : ByteArray) (size least most : Int) (w : World) (h : WS lo w g W) (h1 : 1 ≤ size) (h3 : size ≤ 3) (hn : W.s.size + 3 + v.size ≤ 140737488355328) :
    Calls Try.prog 57 #[.pointer (some ⟨g, 0, none⟩), .string v, .int .i64 size, .int .i64 least, .int .i64 most] w fun ex w' => ex = .returned (.tuple #[]) ∧ WS lo w' g (W.vec v size least most) ∧ Fr lo g w w' :=
  vec_calls' lo g W.s v W.b size least most w h h1 h3 hn
theorem Wp.num_size (W : Wp) (x n : Int) (h1 : 1 ≤ n) (h4 : n ≤ 4) : (W.num x n).s.size ≤ W.s.size + 4 := by
  have := nm_size x n h1 h4
  show (W.s ++ (nm x n).1).size ≤ _
  rw [ByteArray.size_append]
  omega
theorem Wp.vec_size (W : Wp) (v : ByteArray) (n lo hi : Int) (h1 : 1 ≤ n) (h3 : n ≤ 3) (hv : v.size ≤ 140737488355328) : (W.vec v n lo hi).s.size ≤ W.s.size + 3 + v.size := by
  have := pv_size v n h1 h3 hv
  show (W.s ++ (pv v n).1).size ≤ _
  rw [ByteArray.size_append]
  omega
theorem Wp.add_size (W : Wp) (v : ByteArray) : (W.add v).s.size = W.s.size + v.size := ByteArray.size_append
section
variable {ops : Array Oper} {oi : Oper} {a : Act} {Q : Exit → Act → World → Prop} {K : Act → World → Prop} {w : World} {N : Option Tmp}
theorem run_step {v : Value} {w' : World} (hw : Region.wanted oi (yielded ops a.tmps) = true) (hN : oi.dst = N) (hrun : (execOp a.eval oi).run Try.prog w = .ok (.value v) w') (h : K (a.put N v) w') :
    if Region.wanted oi (yielded ops a.tmps) = true then Oper.wp Try.prog oi a w K Q else K (a.put N undef) w := by
  rw [if_pos hw]
  unfold Oper.wp
  rw [hrun]
  subst hN
  exact h
theorem app_step (hw : Region.wanted oi (yielded ops a.tmps) = true) (hN : oi.dst = N) (sl x : Operand)
    (ho : oi.op = .call { callee := .builtin .append, args := #[sl, x], argTypes := #[39, 9] }) (lo g : Nat) (s t : ByteArray) (b : Bool) (v : Value)
    (hs : a.eval sl = v) (hx : a.eval x = .string t) (h1 : w.heap[g]? = some (.cells #[v, .bool b] 83 (0, 0))) (h2 : lo ≤ g) (h3 : w.ownsRow lo 5 1 v s.size (Lib.strCells s)) (hn : s.size + t.size ≤ 140737488355328)
    (H : ∀ v' w', Mid lo g w' (s ++ t) b v' → Fr lo g w w' → w'.heap[g]? = some (.cells #[v, .bool b] 83 (0, 0)) → K (a.put N v') w') : if Region.wanted oi (yielded ops a.tmps) = true then Oper.wp Try.prog oi a w K Q else K (a.put N undef) w := by
  rw [if_pos hw]
  have hinfo := info5
  obtain ⟨i0, hi, hzz⟩ := Option.map_eq_some_iff.1 hinfo
  simp only [Prod.mk.injEq] at hzz
  obtain ⟨hz0, hz1, hz2⟩ := hzz
  obtain ⟨v1, w1, hr, hown, hg, _⟩ := Lib.run_append_own_string (P := Try.prog) w lo 39 9 oi.type 5 i0 Try.underlying39 (by kernel_rfl) hi hz0 hz1 hz2 v s.size (Lib.strCells s) h3 t (by simp only [maxLen]; omega) hn (by have := blk_lt h1; omega)
  have hz : s.size + t.size = (s ++ t).size := by rw [ByteArray.size_append]
  unfold Oper.wp execOp
  simp only [ho, resolve, invoke, builtin, Sem.run_bind, Sem.run_pure, Result.andThen_ok, List.map_toArray, List.map_cons, List.map_nil, hs, hx, hr]
  subst hN
  show K (a.put oi.dst v1) w1
  refine H v1 w1 ⟨⟨v, blk_grown h1 hg (Wt.row h1 h3)⟩, h2, by rw [strCells_append, ← hz]; exact hown⟩ ⟨(Below.refl lo w).grown hg (by have := blk_lt h1; omega) (fun k hk => (h3.lt k hk).1), fun k cs ty hk hgk hty => blk_grown hk hg ?_⟩ (blk_grown h1 hg (Wt.row h1 h3))
  exact row_ne hty hk h3
end
theorem sz39w : (Try.prog.info? 39).map (·.size) = some 1 := by kernel_rfl
theorem own_keep {lo g : Nat} {w w1 : World} {s : ByteArray} {b : Bool} {v : Value} (m : Mid lo g w s b v) (k : KeepBut w w1 g none) (bl : Below lo w w1) : w1.ownsRow lo 5 1 v s.size (Lib.strCells s) := by
  obtain ⟨v0, h0⟩ := m.row
  have hne := row_ne (by decide) h0 m.own
  exact m.own.kept (row := some g) ⟨bl.os, bl.tape, bl.output, k.1, fun i hi hg => k.2 i hi (by simpa using hg) (by simp)⟩ (by
    cases hv : v.ownBlock with
    | none => exact .inl rfl
    | some q => exact .inr (fun e => hne (by first | exact e.symm | rw [hv]; exact e | rw [hv]; exact e.symm)))
theorem Wt.drew {lo g : Nat} {W : World} {s : ByteArray} {b : Bool} (h : Wt lo W g s b) : Wt lo W.drew g s b := h.below (below_drew (Below.refl _ _))
def Wp.hello (W : Wp) (r s : ByteArray) : Wp := (((W.num 771 2).need ((r.size : Int) == 32)).add r).vec s 1 0 32
set_option maxRecDepth 100000 in
set_option maxHeartbeats 8000000 in
theorem hello_w (lo g gm : Nat) (cs : Array Value) (W : Wp) (w : World) (h : WS lo w g W) (hb : w.heap[gm]? = some (.cells cs 49 (0, 0))) (hne : gm ≠ g) (r s : ByteArray) (hr : cs[1]? = some (.string r)) (hs : cs[2]? = some (.string s)) (hn : W.s.size + 16 + r.size + s.size ≤ 140737488355328) :
    Calls Try.prog 78 #[.pointer (some ⟨g, 0, none⟩), .pointer (some ⟨gm, 0, none⟩)] w fun ex w' => ex = .returned (.tuple #[]) ∧ WS lo w' g (W.hello r s) ∧ Fr lo g w w' := by
  have HW := Aside0.mk h
  have HB := Aside0.mk hb
  have HNE := Aside0.mk hne
  have HR := Aside0.mk hr
  have HS := Aside0.mk hs
  have z1 := W.num_size 771 2 (by omega) (by omega)
  have HN1 := Aside0.mk (show W.s.size + 4 ≤ 140737488355328 from by omega)
  have HN2 := Aside0.mk (show (W.num 771 2).s.size + r.size ≤ 140737488355328 from by omega)
  have HN3 := Aside0.mk (show (((W.num 771 2).need ((r.size : Int) == 32)).add r).s.size + 3 + s.size ≤ 140737488355328 from by rw [Wp.add_size]; show (W.num 771 2).s.size + r.size + 3 + s.size ≤ _; omega)
  clear h hb hne hr hs hn z1
  go_enter Try.func78, Try.ntmps78
  go_wp2_with (first
    | (go_at_call 60; (with_reducible refine (num_w lo g W 771 2 _ HW.out (by omega) (by omega) HN1.out).mono ?_); rintro e1 w1 ⟨rfl, i1, f1⟩; have HB1 := Aside0.mk (f1.blk HB.out HNE.out (by decide)); have HW1 := Aside0.mk i1; have HF1 := Aside0.mk f1; clear i1 f1)
    | ((with_reducible refine gate_dst (N := 10) rfl ?_); refine ld (v := .string r) rfl rfl rfl HB1.out Try.underlying9 rfl HR.out ?_)
    | (go_at_call 61; (with_reducible refine (need_w lo g (W.num 771 2) ((r.size : Int) == 32) _ HW1.out).mono ?_); rintro e2 w2 ⟨rfl, i2, f2⟩; have HB2 := Aside0.mk (f2.blk HB1.out HNE.out (by decide)); have HW2 := Aside0.mk i2; have HF2 := Aside0.mk (HF1.out.trans f2); clear i2 f2))
  obtain ⟨v, h1, h2, h3⟩ := HW2.out.drew
  obtain ⟨A, c, rfl⟩ := own_slice h3
  have HO := Aside0.mk h3
  have HL := Aside0.mk h2
  have HF3 := Aside0.mk (HF2.out.trans (Fr.of_below (g := g) HW2.out.size (below_drew (Below.refl _ _))))
  have hBd := (below_drew (Below.refl w2.heap.size w2)).block gm (blk_lt HB2.out) |>.trans HB2.out
  have HSd := Aside0.mk (And.intro h1 hBd)
  clear h3 h2
  refine start_ (n := 13) (S := fun w' => w'.heap[g]? = some (.cells #[.slice A ((W.num 771 2).need ((r.size : Int) == 32)).s.size c, .bool ((W.num 771 2).need ((r.size : Int) == 32)).b] 83 (0, 0)) ∧ w'.heap[gm]? = some (.cells cs 49 (0, 0))) (ds := [12]) #[false, false, false, false, false, false, false, false, false, false, false, false, false] (by kernel_rfl) rfl rfl ⟨h1, hBd⟩ (fun hHeld => ?_)
  clear h1 hBd
  generalize w2.drew = w3 at HO HF3 HSd hHeld ⊢
  refine pure_ (i := 0) (N := (some 14)) (v := ?_) (a' := ?_) #[true, false, false, false, false, false, false, false, false, false, false, false, false] rfl rfl (by kernel_rfl) (fun _ _ _ h => h) (Or.inl ⟨by rfl, ?_⟩) ?_ ?_
  rotate_left
  · intro w'
    go_simp
    with_reducible rfl
  rotate_left
  · simp only [Act.put, List.setIfInBounds_toArray, List.set_cons_zero, List.set_cons_succ]
    rfl
  refine pure_ (i := 1) (N := (some 15)) (v := ?_) (a' := ?_) #[true, true, false, false, false, false, false, false, false, false, false, false, false] rfl rfl (by kernel_rfl) (fun _ _ _ h => h) (Or.inl ⟨by rfl, ?_⟩) ?_ ?_
  rotate_left
  · intro w'
    go_simp
    with_reducible rfl
  rotate_left
  · simp only [Act.put, List.setIfInBounds_toArray, List.set_cons_zero, List.set_cons_succ]
    rfl
  refine pure_ (i := 2) (N := (some 16)) (v := ?_) (a' := ?_) #[true, true, true, false, false, false, false, false, false, false, false, false, false] rfl rfl (by kernel_rfl) (fun _ _ _ h => h) (Or.inl ⟨by rfl, ?_⟩) ?_ ?_
  rotate_left
  · intro w'
    go_simp
    with_reducible rfl
  rotate_left
  · simp only [Act.put, List.setIfInBounds_toArray, List.set_cons_zero, List.set_cons_succ]
    rfl
  refine pure_ (i := 3) (N := (some 17)) (v := ?_) (a' := ?_) #[true, true, true, true, false, false, false, false, false, false, false, false, false] rfl rfl (by kernel_rfl) (fun _ _ _ h => h) (Or.inl ⟨by rfl, ?_⟩) ?_ ?_
  rotate_left
  · intro w'
    go_simp
    with_reducible rfl
  rotate_left
  · simp only [Act.put, List.setIfInBounds_toArray, List.set_cons_zero, List.set_cons_succ]
    rfl
  refine take_ (i := 4) (N := (some 18)) (v := ?_) (a' := ?_) #[true, true, true, true, true, false, false, false, false, false, false, false, false] rfl rfl (by kernel_rfl) (fun _ _ _ h => h) (Or.inl ⟨by rfl, ?_⟩) hHeld ?_ ?_
  rotate_left
  · rintro w' hS
    have hc := cell0 hS.1
    go_simp
    with_reducible rfl
  rotate_left
  · simp only [Act.put, List.setIfInBounds_toArray, List.set_cons_zero, List.set_cons_succ]
    rfl
  refine pure_ (i := 5) (N := (some 19)) (v := ?_) (a' := ?_) #[true, true, true, true, true, true, false, false, false, false, false, false, false] rfl rfl (by kernel_rfl) (fun _ _ _ h => h) (Or.inl ⟨by rfl, ?_⟩) ?_ ?_
  rotate_left
  · intro w'
    go_simp
    with_reducible rfl
  rotate_left
  · simp only [Act.put, List.setIfInBounds_toArray, List.set_cons_zero, List.set_cons_succ]
    rfl
  refine pure_ (i := 6) (N := (some 20)) (v := ?_) (a' := ?_) #[true, true, true, true, true, true, true, false, false, false, false, false, false] rfl rfl (by kernel_rfl) (fun _ _ _ h => h) (Or.inl ⟨by rfl, ?_⟩) ?_ ?_
  rotate_left
  · intro w'
    go_simp
    with_reducible rfl
  rotate_left
  · simp only [Act.put, List.setIfInBounds_toArray, List.set_cons_zero, List.set_cons_succ]
    rfl
  refine pure_ (i := 7) (N := (some 21)) (v := ?_) (a' := ?_) #[true, true, true, true, true, true, true, true, false, false, false, false, false] rfl rfl (by kernel_rfl) (fun _ _ _ h => h) (Or.inl ⟨by rfl, ?_⟩) ?_ ?_
  rotate_left
  · intro w'
    go_simp
    with_reducible rfl
  rotate_left
  · simp only [Act.put, List.setIfInBounds_toArray, List.set_cons_zero, List.set_cons_succ]
    rfl
  refine take_ (i := 8) (N := (some 22)) (v := ?_) (a' := ?_) #[true, true, true, true, true, true, true, true, true, false, false, false, false] rfl rfl (by kernel_rfl) (fun _ _ _ h => h) (Or.inl ⟨by rfl, ?_⟩) hHeld ?_ ?_
  rotate_left
  · rintro w' hS
    have hc := (blk_cell hS.2 1).trans HR.out
    go_simp
    with_reducible rfl
  rotate_left
  · simp only [Act.put, List.setIfInBounds_toArray, List.set_cons_zero, List.set_cons_succ]
    rfl
  refine one_ (i := 9) (N := (some 23)) #[true, true, true, true, true, true, true, true, true, true, false, false, false] rfl rfl (by kernel_rfl) (by decide) (fun K hK => ?_)
  refine app_step (by rfl) rfl (.tmp 18) (.tmp 22) rfl lo g ((W.num 771 2).need ((r.size : Int) == 32)).s r _ _ rfl rfl HSd.out.1 HL.out HO.out HN2.out ?_
  intro v4 w4 m4 f4 g4
  obtain ⟨A4, c4, rfl⟩ := own_slice m4.own
  have HM4 := Aside0.mk m4
  have HF4 := Aside0.mk (HF3.out.trans f4)
  have HB4 := Aside0.mk (f4.blk HSd.out.2 HNE.out (by decide))
  have HH4 := Aside0.mk (And.intro g4 HB4.out)
  clear m4 f4 g4
  refine hK.out _ _ (HH4.out) (fun hHeld => ?_)
  clear hK K
  refine norm_ (a' := ?_) ?_ ?_
  rotate_left
  · show Act.put _ (some 23) _ = _
    simp only [Act.put, List.setIfInBounds_toArray, List.set_cons_zero, List.set_cons_succ]
    rfl
  refine pure_ (i := 10) (N := (some 24)) (v := ?_) (a' := ?_) #[true, true, true, true, true, true, true, true, true, true, true, false, false] rfl rfl (by kernel_rfl) (fun _ _ _ h => h) (Or.inl ⟨by rfl, ?_⟩) ?_ ?_
  rotate_left
  · intro w'
    go_simp
    with_reducible rfl
  rotate_left
  · simp only [Act.put, List.setIfInBounds_toArray, List.set_cons_zero, List.set_cons_succ]
    rfl
  refine pure_ (i := 11) (N := (some 25)) (v := ?_) (a' := ?_) #[true, true, true, true, true, true, true, true, true, true, true, true, false] rfl rfl (by kernel_rfl) (fun _ _ _ h => h) (Or.inl ⟨by rfl, ?_⟩) ?_ ?_
  rotate_left
  · intro w'
    go_simp
    with_reducible rfl
  rotate_left
  · simp only [Act.put, List.setIfInBounds_toArray, List.set_cons_zero, List.set_cons_succ]
    rfl
  refine last_ (i := 12) (N := none) #[true, true, true, true, true, true, true, true, true, true, true, true, true] rfl rfl (by kernel_rfl) (by decide) (fun K hK => ?_)
  refine stM (g := g) (i := 0) (by rfl) rfl rfl rfl HH4.out.1 sz39w rfl rfl rfl (by simp) ?_
  intro w5 h5 b5 k5
  have HB5 := Aside0.mk ((k5.2 gm (blk_lt HB4.out) HNE.out (by simp)).trans HB4.out)
  have HW5 := Aside0.mk (show WS lo w5 g (((W.num 771 2).need ((r.size : Int) == 32)).add r) from ⟨_, h5, HL.out, own_keep HM4.out k5 (b5 _ HL.out)⟩)
  have HF5 := Aside0.mk (HF4.out.trans (Fr.of_keep (b5 _ HL.out) k5))
  clear h5 b5 k5
  refine hK.out _ _ ?_
  clear hK K
  refine done_ (by kernel_rfl) ?_
  go_wp2_with (first
    | ((with_reducible refine gate_dst (N := 30) rfl ?_); refine ld (v := .string s) rfl rfl rfl HB5.out Try.underlying9 rfl HS.out ?_)
    | (go_at_call 57; (with_reducible refine (vec_w lo g (((W.num 771 2).need ((r.size : Int) == 32)).add r) s 1 0 32 _ HW5.out (by omega) (by omega) HN3.out).mono ?_); rintro e6 w6 ⟨rfl, i6, f6⟩; have HW6 := Aside0.mk i6; have HF6 := Aside0.mk (HF5.out.trans f6); clear i6 f6))
  first | go_end0 | ((try simp only [Exit.inBlock, Exit.then]); refine bodyPost_ret (results_none rfl _ _ _) rfl ?_)
  exact ⟨rfl, HW6.out, HF6.out⟩
end Go.Proofs.Ytlkebjkpmiehcaa.Ms
end
section
namespace Go.Proofs.Ytlkebjkpmiehcaa.Ms
open Go.RowKit Go.Proofs.YtlkebjkpmiehcaaW.PrintWords Go.Proofs.YtlkebjkpmiehcaaW.PrintLast Go.Proofs.YtlkebjkpmiehcaaW.PrintMore Go.Proofs.Ytlkebjkpmiehcaa.X
set_option linter.unusedVariables false
set_option linter.unusedSimpArgs false
def XS (x g : Nat) (w : World) (l : List E.S41) : Prop :=
  ∃ v, w.heap[x]? = some (.cells #[.pointer (some ⟨g, 0, none⟩), v] 115 (0, 0)) ∧ Kd.R E.k41 41 w x (fun _ => True) v l
structure Fx (lo g x : Nat) (w w' : World) : Prop where
  below : Below lo w w'
  keep : ∀ k cs t, w.heap[k]? = some (.cells cs t (0, 0)) → k ≠ g → k < x → t ≠ 5 → w'.heap[k]? = some (.cells cs t (0, 0))
theorem Fx.refl (lo g x : Nat) (w : World) : Fx lo g x w w := ⟨Below.refl _ _, fun _ _ _ h _ _ _ => h⟩
theorem Fx.trans {lo g x : Nat} {a b c : World} (h : Fx lo g x a b) (k : Fx lo g x b c) : Fx lo g x a c := ⟨h.below.trans k.below, fun i cs t hi hg hx ht => k.keep i cs t (h.keep i cs t hi hg hx ht) hg hx ht⟩
theorem Fx.of_fr {lo g x : Nat} {w w' : World} (h : Fr lo g w w') : Fx lo g x w w' := ⟨h.below, fun i cs t hi hg _ ht => h.keep i cs t hi hg ht⟩
theorem k41_E : (E.k41).E = [] := rfl
theorem k41_ty {t : TypeId} (ht : t ≠ 41) : ∀ q, q ∈ 41 :: (E.k41).E → q ≠ t := by
  intro q hq
  rw [k41_E] at hq
  simp only [List.mem_cons, List.not_mem_nil, or_false] at hq
  rw [hq]
  exact fun e => ht e.symm
theorem XS.below {x g : Nat} {w w' : World} {l : List E.S41} (h : XS x g w l) (b : Below w.heap.size w w') : XS x g w' l := by
  obtain ⟨v, h1, h3⟩ := h
  exact ⟨v, (b.block x (blk_lt h1)).trans h1, Kd.R_below h3 b⟩
theorem ty_ne {w : World} {x g : Nat} {cs ds : Array Value} {s t : TypeId} (h : w.heap[x]? = some (.cells cs s (0, 0))) (k : w.heap[g]? = some (.cells ds t (0, 0))) (hne : s ≠ t) : x ≠ g := by
  intro e
  subst e
  rw [h] at k
  injection k with k
  injection k with _ k
  exact hne k
theorem XS.keep {x g : Nat} {w w' : World} {l : List E.S41} (h : XS x g w l) {cs : Array Value} {k : Nat} {t : TypeId} (hk : w.heap[k]? = some (.cells cs t (0, 0))) (ht : t ≠ 41) (ht2 : t ≠ 115) (kb : KeepBut w w' k none) : XS x g w' l := by
  obtain ⟨v, h1, h3⟩ := h
  refine ⟨v, (kb.2 x (blk_lt h1) (ty_ne h1 hk (fun e => ht2 e.symm)) (by simp)).trans h1, ?_⟩
  exact Kd.R_mono (Kd.R_keep (Kd.R_types h3 hk (k41_ty ht)) kb (fun _ hk => hk.2)) (fun _ _ => trivial)
theorem XS.fr {lo x g : Nat} {w w' : World} {l : List E.S41} {W : Wp} (h : XS x g w l) (hw : WS lo w g W) (f : Fr lo g w w') : XS x g w' l := by
  obtain ⟨v, h1, h3⟩ := h
  obtain ⟨u, k1, _, _⟩ := hw
  refine ⟨v, f.blk h1 (ty_ne h1 k1 (by decide)) (by decide), ?_⟩
  refine Kd.R_mono (Kd.R_step (Kd.R_bound h3) (fun k hk _ => ?_)) (fun _ _ => trivial)
  obtain ⟨_, _, _, q, hq, cells, hc⟩ := hk
  have hq1 : q = 41 := by
    rw [k41_E] at hq
    simpa using hq
  subst hq1
  rw [f.blk hc (ty_ne hc k1 (by decide)) (by decide), hc]
theorem own5_ne {w : World} {lo lo2 n : Nat} {u v : Value} {xs : List Value} {l : List E.S41} (h3 : w.ownsRow lo2 5 1 u n xs) (r : Kd.R E.k41 41 w lo (fun _ => True) v l) : u.ownBlock = none ∨ v.ownBlock ≠ u.ownBlock := by
  rcases h3.2 with ⟨rfl, _⟩ | ⟨k, cap, cur, rfl, _, hh, _⟩
  · exact .inl rfl
  · exact .inr (fun e => Kd.R_ne r hh (by decide) (by rw [e]; rfl))
theorem Wt.grown41 {lo lo2 g : Nat} {w w1 : World} {s : ByteArray} {b : Bool} {v : Value} {l : List E.S41} (h : Wt lo2 w g s b) (r : Kd.R E.k41 41 w lo (fun _ => True) v l) (hg : w.grownBy w1 v.ownBlock) : Wt lo2 w1 g s b := by
  obtain ⟨u, h1, h2, h3⟩ := h
  exact ⟨u, blk_grown h1 hg (Kd.R_ne r h1 (by decide)), h2, h3.kept hg (by first | exact own5_ne h3 r | (rcases own5_ne h3 r with e | e; exact .inl e; exact .inr (fun e2 => e e2.symm)))⟩
theorem Wt.keep1 {lo g k : Nat} {w w1 : World} {s : ByteArray} {b : Bool} {cs : Array Value} {t : TypeId} (h : Wt lo w g s b) (hk : w.heap[k]? = some (.cells cs t (0, 0))) (ht : t ≠ 5) (ht2 : t ≠ 83) (bl : Below lo w w1) (kb : KeepBut w w1 k none) : Wt lo w1 g s b := by
  obtain ⟨u, h1, h2, h3⟩ := h
  refine ⟨u, (kb.2 g (blk_lt h1) (ty_ne h1 hk (fun e => ht2 e.symm)) (by simp)).trans h1, h2, ?_⟩
  exact h3.kept (row := some k) ⟨bl.os, bl.tape, bl.output, kb.1, fun i hi hg => kb.2 i hi (by simpa using hg) (by simp)⟩ (by
    cases hv : u.ownBlock with
    | none => exact .inl rfl
    | some q => exact .inr (fun e => row_ne ht hk h3 (by first | exact e.symm | rw [hv]; exact e | rw [hv]; exact e.symm)))
theorem built41 (k : Int) (s : ByteArray) : Try.prog.built 41 [(0, .int .i64 k), (1, .string s)] = some #[.int .i64 k, .string s] := by kernel_rfl
theorem run41 {oi : Oper} {a : Act} {w : World} {x y : Operand} {k : Int} {s : ByteArray} (ho : oi.op = .build 41 #[(0, x), (1, y)]) (hx : a.eval x = .int .i64 k) (hy : a.eval y = .string s) : (execOp a.eval oi).run Try.prog w = .ok (.value (.agg #[.int .i64 k, .string s])) w := by
  have hr := run_build (P := Try.prog) w 41 #[(0, .int .i64 k), (1, .string s)] _ (built41 k s)
  have he : (#[(0, x), (1, y)] : Array (Nat × Operand)).map (fun x => (x.fst, a.eval x.snd)) = #[(0, .int .i64 k), (1, .string s)] := by simp [hx, hy]
  unfold execOp
  simp only [ho, Sem.run_bind]
  rw [he, hr]
  rfl
theorem runCv {oi : Oper} {a : Act} {w : World} {x : Operand} {v : Value} {s : ByteArray} (ho : oi.op = .convert 39 9 x) (hx : a.eval x = v) (hc : (convert 39 9 v).run Try.prog w = .ok (.string s) w) : (execOp a.eval oi).run Try.prog w = .ok (.value (.string s)) w := by
  unfold execOp
  simp only [ho, hx]
  rw [Sem.run_bind, hc]
  rfl
theorem sz22 : (Try.prog.info? 22).map (·.size) = some 1 := by kernel_rfl
def xPut (is : Bool) (W U : Wp) : Wp := if is then W.need (!U.b) else W
def xPutL (is : Bool) (kind : Int) (U : Wp) (l : List E.S41) : List E.S41 := if is then l ++ [⟨kind, U.s⟩] else l
set_option maxRecDepth 100000 in
set_option maxHeartbeats 8000000 in
theorem xput_w (lo x g k : Nat) (cap : Array Value) (W U : Wp) (l : List E.S41) (is : Bool) (kind : Int) (w : World) (h : WS lo w g W) (hlx : lo ≤ x) (hx : XS x g w l) (hu : is = true → Writes k cap w U.s U.b)
    (eg : ∀ args w, (callFunc k args).run Try.prog w = .ok (.enter k args) w) (hl : l.length ≤ 1000000000) :
    Calls Try.prog 80 #[.pointer (some ⟨x, 0, none⟩), .bool is, .int .i64 kind, .func (.func k) #[] cap] w fun ex w' => ex = .returned (.tuple #[]) ∧ WS lo w' g (xPut is W U) ∧ XS x g w' (xPutL is kind U l) ∧ Fx lo g x w w' := by
  have HW := Aside0.mk h
  have HX := Aside0.mk hx
  have HXL := Aside0.mk hlx
  have HLE := Aside0.mk hl
  have hu41 := Try.underlying41
  cases is with
  | false =>
    clear h hx hu hl hlx
    go_enter Try.func80, Try.ntmps80
    go_wp2
    first | go_end0 | ((try simp only [Exit.inBlock, Exit.then]); refine bodyPost_ret (results_none rfl _ _ _) rfl ?_)
    exact ⟨rfl, HW.out, HX.out, Fx.refl _ _ _ _⟩
  | true =>
  have HC := Aside0.mk (hu rfl)
  clear h hx hu hl hlx
  go_enter Try.func80, Try.ntmps80
  go_wp2_with (first
    | ((with_reducible refine gate_dst (N := 10) rfl ?_); refine build83 rfl rfl ?_)
    | ((with_reducible refine gate_dst (N := 11) rfl ?_); refine box83 rfl _ rfl rfl ?_; intro g1 eg1 w1 i1 b1; have HE1 := Aside0.mk eg1; have HI1 := Aside0.mk i1; have HB1 := Aside0.mk b1; clear i1 b1 eg1)
    | ((refine (HC.out _ _ HB1.out HI1.out).mono ?_); rintro e2 w2 ⟨rfl, i2, f2⟩; have HB2 := Aside0.mk (HB1.out.trans f2.below); have HI2 := Aside0.mk i2; clear i2 f2))
  have HW2 := Aside0.mk (HW.out.below HB2.out)
  have HX2 := Aside0.mk (HX.out.below HB2.out)
  have HW3 := Aside0.mk (HW2.out.drew)
  have HB3 := Aside0.mk (below_step HB2.out (below_drew (Below.refl _ _)))
  have HX3 := Aside0.mk (HX2.out.below (below_drew (Below.refl _ _)))
  have HI3 := Aside0.mk (HI2.out.drew)
  obtain ⟨v, hx1, hx3⟩ := HX3.out
  obtain ⟨u, hi1, hi2, hi3⟩ := HI3.out
  have HSd := Aside0.mk (And.intro hx1 hi1)
  clear hx3 hi2 hi3
  refine start_ (n := 10) (S := fun w' => w'.heap[x]? = some (.cells #[.pointer (some ⟨g, 0, none⟩), v] 115 (0, 0)) ∧ w'.heap[g1]? = some (.cells #[u, .bool U.b] 83 (0, 0))) (ds := [9]) #[false, false, false, false, false, false, false, false, false, false] (by kernel_rfl) rfl rfl ⟨hx1, hi1⟩ (fun hHeld => ?_)
  clear hx1 hi1
  generalize w2.drew = w3 at HW3 HB3 HX3 HI3 HSd hHeld ⊢
  refine pure_ (i := 0) (N := (some 15)) (v := ?_) (a' := ?_) #[true, false, false, false, false, false, false, false, false, false] rfl rfl (by kernel_rfl) (fun _ _ _ h => h) (Or.inl ⟨by rfl, ?_⟩) ?_ ?_
  rotate_left
  · intro w'
    go_simp
    with_reducible rfl
  rotate_left
  · simp only [Act.put, List.setIfInBounds_toArray, List.set_cons_zero, List.set_cons_succ]
    rfl
  refine pure_ (i := 1) (N := (some 16)) (v := ?_) (a' := ?_) #[true, true, false, false, false, false, false, false, false, false] rfl rfl (by kernel_rfl) (fun _ _ _ h => h) (Or.inl ⟨by rfl, ?_⟩) ?_ ?_
  rotate_left
  · intro w'
    go_simp
    with_reducible rfl
  rotate_left
  · simp only [Act.put, List.setIfInBounds_toArray, List.set_cons_zero, List.set_cons_succ]
    rfl
  refine pure_ (i := 2) (N := (some 17)) (v := ?_) (a' := ?_) #[true, true, true, false, false, false, false, false, false, false] rfl rfl (by kernel_rfl) (fun _ _ _ h => h) (Or.inl ⟨by rfl, ?_⟩) ?_ ?_
  rotate_left
  · intro w'
    go_simp
    with_reducible rfl
  rotate_left
  · simp only [Act.put, List.setIfInBounds_toArray, List.set_cons_zero, List.set_cons_succ]
    rfl
  refine take_ (i := 3) (N := (some 18)) (v := ?_) (a' := ?_) #[true, true, true, true, false, false, false, false, false, false] rfl rfl (by kernel_rfl) (fun _ _ _ h => h) (Or.inl ⟨by rfl, ?_⟩) hHeld ?_ ?_
  rotate_left
  · rintro w' hS
    have hc := (blk_cell hS.1 0).trans rfl
    go_simp
    with_reducible rfl
  rotate_left
  · simp only [Act.put, List.setIfInBounds_toArray, List.set_cons_zero, List.set_cons_succ]
    rfl
  refine pure_ (i := 4) (N := (some 19)) (v := ?_) (a' := ?_) #[true, true, true, true, true, false, false, false, false, false] rfl rfl (by kernel_rfl) (fun _ _ _ h => h) (Or.inl ⟨by rfl, ?_⟩) ?_ ?_
  rotate_left
  · intro w'
    go_simp
    with_reducible rfl
  rotate_left
  · simp only [Act.put, List.setIfInBounds_toArray, List.set_cons_zero, List.set_cons_succ]
    rfl
  refine pure_ (i := 5) (N := (some 20)) (v := ?_) (a' := ?_) #[true, true, true, true, true, true, false, false, false, false] rfl rfl (by kernel_rfl) (fun _ _ _ h => h) (Or.inl ⟨by rfl, ?_⟩) ?_ ?_
  rotate_left
  · intro w'
    go_simp
    with_reducible rfl
  rotate_left
  · simp only [Act.put, List.setIfInBounds_toArray, List.set_cons_zero, List.set_cons_succ]
    rfl
  refine pure_ (i := 6) (N := (some 21)) (v := ?_) (a' := ?_) #[true, true, true, true, true, true, true, false, false, false] rfl rfl (by kernel_rfl) (fun _ _ _ h => h) (Or.inl ⟨by rfl, ?_⟩) ?_ ?_
  rotate_left
  · intro w'
    go_simp
    with_reducible rfl
  rotate_left
  · simp only [Act.put, List.setIfInBounds_toArray, List.set_cons_zero, List.set_cons_succ]
    rfl
  refine take_ (i := 7) (N := (some 22)) (v := ?_) (a' := ?_) #[true, true, true, true, true, true, true, true, false, false] rfl rfl (by kernel_rfl) (fun _ _ _ h => h) (Or.inl ⟨by rfl, ?_⟩) hHeld ?_ ?_
  rotate_left
  · rintro w' hS
    have hc := cell1 hS.2
    go_simp
    with_reducible rfl
  rotate_left
  · simp only [Act.put, List.setIfInBounds_toArray, List.set_cons_zero, List.set_cons_succ]
    rfl
  refine pure_ (i := 8) (N := (some 23)) (v := ?_) (a' := ?_) #[true, true, true, true, true, true, true, true, true, false] rfl rfl (by kernel_rfl) (fun _ _ _ h => h) (Or.inl ⟨by rfl, ?_⟩) ?_ ?_
  rotate_left
  · intro w'
    go_simp
    with_reducible rfl
  rotate_left
  · simp only [Act.put, List.setIfInBounds_toArray, List.set_cons_zero, List.set_cons_succ]
    rfl
  refine last_ (i := 9) (N := (some 24)) #[true, true, true, true, true, true, true, true, true, true] rfl rfl (by kernel_rfl) (by decide) (fun K hK => ?_)
  refine goes_ (f := 61) Try.func61 (by kernel_rfl) rfl #[.pointer (some ⟨g, 0, none⟩), .bool (!U.b)] (by rfl) rfl rfl (by (try simp only [List.map_toArray, List.map_cons, List.map_nil]); first | done | rfl) ?_
  refine (need_calls lo g W.s W.b (!U.b) _ HW3.out).mono ?_
  rintro e w4 ⟨rfl, i4, b4, k4⟩
  refine ⟨_, rfl, ?_⟩
  have HW4 := Aside0.mk (show WS lo w4 g (W.need (!U.b)) from i4)
  have hgg : ∃ cs, w3.heap[g]? = some (.cells cs 83 (0, 0)) := by obtain ⟨q, q1, _⟩ := HW3.out; exact ⟨_, q1⟩
  obtain ⟨csg, hgg⟩ := hgg
  have HX4 := Aside0.mk (HX3.out.keep hgg (by decide) (by decide) k4)
  have HG1 := Aside0.mk (show g1 ≠ g from by
    obtain ⟨q, q1, q2, q3⟩ := HI3.out
    have h1 := HW.out.lt
    omega)
  have HI4 := Aside0.mk (show Wt w.heap.size w4 g1 U.s U.b from by
    obtain ⟨q, q1, q2, q3⟩ := HI3.out
    refine ⟨q, (k4.2 g1 (blk_lt q1) HG1.out (by simp)).trans q1, q2, ?_⟩
    refine q3.kept (row := some g) ⟨b4.os, b4.tape, b4.output, k4.1, fun i hi hg => k4.2 i hi (by simpa using hg) (by simp)⟩ (by
      rcases q3.lt with hl
      cases hv : q.ownBlock with
      | none => exact .inl rfl
      | some z => exact .inr (by intro e; injection e with e; have := (hl z hv).1; have := HW.out.lt; omega)))
  have HF4 := Aside0.mk (Fr.trans (Fr.of_below (g := g) HW.out.size HB3.out) (Fr.of_keep b4 k4))
  clear i4 b4 k4 hgg
  refine hK.out _ _ ?_
  clear hK K
  refine norm_ (a' := ?_) ?_ ?_
  rotate_left
  · show Act.put _ (some 24) _ = _
    simp only [Act.put, List.setIfInBounds_toArray, List.set_cons_zero, List.set_cons_succ]
    rfl
  refine done_ (by kernel_rfl) ?_
  go_wp2
  have HW5 := Aside0.mk (HW4.out.drew)
  have HX5 := Aside0.mk (HX4.out.below (below_drew (Below.refl _ _)))
  have HI5 := Aside0.mk (HI4.out.drew)
  have HF5 := Aside0.mk (HF4.out.trans (Fr.of_below (g := g) HW4.out.size (below_drew (Below.refl _ _))))
  obtain ⟨v5, hx1, hx3⟩ := HX5.out
  obtain ⟨A5, c5, rfl⟩ := Kd.R_slice hx3
  obtain ⟨u5, hi1, hi2, hi3⟩ := HI5.out
  obtain ⟨B5, d5, rfl⟩ := own_slice hi3
  have HSd := Aside0.mk (And.intro hx1 hi1)
  have HO5 := Aside0.mk hi3
  have HR5 := Aside0.mk hx3
  clear hx3 hi2 hi3
  refine start_ (n := 17) (S := fun w' => w'.heap[x]? = some (.cells #[.pointer (some ⟨g, 0, none⟩), .slice A5 l.length c5] 115 (0, 0)) ∧ w'.heap[g1]? = some (.cells #[.slice B5 U.s.size d5, .bool U.b] 83 (0, 0))) (ds := [16]) #[false, false, false, false, false, false, false, false, false, false, false, false, false, false, false, false, false] (by kernel_rfl) rfl rfl ⟨hx1, hi1⟩ (fun hHeld => ?_)
  clear hx1 hi1
  generalize w4.drew = w5 at HW5 HX5 HI5 HF5 HO5 HR5 HSd hHeld ⊢
  refine pure_ (i := 0) (N := (some 25)) (v := ?_) (a' := ?_) #[true, false, false, false, false, false, false, false, false, false, false, false, false, false, false, false, false] rfl rfl (by kernel_rfl) (fun _ _ _ h => h) (Or.inl ⟨by rfl, ?_⟩) ?_ ?_
  rotate_left
  · intro w'
    go_simp
    with_reducible rfl
  rotate_left
  · simp only [Act.put, List.setIfInBounds_toArray, List.set_cons_zero, List.set_cons_succ]
    rfl
  refine pure_ (i := 1) (N := (some 26)) (v := ?_) (a' := ?_) #[true, true, false, false, false, false, false, false, false, false, false, false, false, false, false, false, false] rfl rfl (by kernel_rfl) (fun _ _ _ h => h) (Or.inl ⟨by rfl, ?_⟩) ?_ ?_
  rotate_left
  · intro w'
    go_simp
    with_reducible rfl
  rotate_left
  · simp only [Act.put, List.setIfInBounds_toArray, List.set_cons_zero, List.set_cons_succ]
    rfl
  refine pure_ (i := 2) (N := (some 27)) (v := ?_) (a' := ?_) #[true, true, true, false, false, false, false, false, false, false, false, false, false, false, false, false, false] rfl rfl (by kernel_rfl) (fun _ _ _ h => h) (Or.inl ⟨by rfl, ?_⟩) ?_ ?_
  rotate_left
  · intro w'
    go_simp
    with_reducible rfl
  rotate_left
  · simp only [Act.put, List.setIfInBounds_toArray, List.set_cons_zero, List.set_cons_succ]
    rfl
  refine pure_ (i := 3) (N := (some 28)) (v := ?_) (a' := ?_) #[true, true, true, true, false, false, false, false, false, false, false, false, false, false, false, false, false] rfl rfl (by kernel_rfl) (fun _ _ _ h => h) (Or.inl ⟨by rfl, ?_⟩) ?_ ?_
  rotate_left
  · intro w'
    go_simp
    with_reducible rfl
  rotate_left
  · simp only [Act.put, List.setIfInBounds_toArray, List.set_cons_zero, List.set_cons_succ]
    rfl
  refine take_ (i := 4) (N := (some 29)) (v := ?_) (a' := ?_) #[true, true, true, true, true, false, false, false, false, false, false, false, false, false, false, false, false] rfl rfl (by kernel_rfl) (fun _ _ _ h => h) (Or.inl ⟨by rfl, ?_⟩) hHeld ?_ ?_
  rotate_left
  · rintro w' hS
    have hc := (blk_cell hS.1 1).trans rfl
    go_simp
    with_reducible rfl
  rotate_left
  · simp only [Act.put, List.setIfInBounds_toArray, List.set_cons_zero, List.set_cons_succ]
    rfl
  refine pure_ (i := 5) (N := (some 30)) (v := ?_) (a' := ?_) #[true, true, true, true, true, true, false, false, false, false, false, false, false, false, false, false, false] rfl rfl (by kernel_rfl) (fun _ _ _ h => h) (Or.inl ⟨by rfl, ?_⟩) ?_ ?_
  rotate_left
  · intro w'
    go_simp
    with_reducible rfl
  rotate_left
  · simp only [Act.put, List.setIfInBounds_toArray, List.set_cons_zero, List.set_cons_succ]
    rfl
  refine pure_ (i := 6) (N := (some 31)) (v := ?_) (a' := ?_) #[true, true, true, true, true, true, true, false, false, false, false, false, false, false, false, false, false] rfl rfl (by kernel_rfl) (fun _ _ _ h => h) (Or.inl ⟨by rfl, ?_⟩) ?_ ?_
  rotate_left
  · intro w'
    go_simp
    with_reducible rfl
  rotate_left
  · simp only [Act.put, List.setIfInBounds_toArray, List.set_cons_zero, List.set_cons_succ]
    rfl
  refine pure_ (i := 7) (N := (some 32)) (v := ?_) (a' := ?_) #[true, true, true, true, true, true, true, true, false, false, false, false, false, false, false, false, false] rfl rfl (by kernel_rfl) (fun _ _ _ h => h) (Or.inl ⟨by rfl, ?_⟩) ?_ ?_
  rotate_left
  · intro w'
    go_simp
    with_reducible rfl
  rotate_left
  · simp only [Act.put, List.setIfInBounds_toArray, List.set_cons_zero, List.set_cons_succ]
    rfl
  refine pure_ (i := 8) (N := (some 33)) (v := ?_) (a' := ?_) #[true, true, true, true, true, true, true, true, true, false, false, false, false, false, false, false, false] rfl rfl (by kernel_rfl) (fun _ _ _ h => h) (Or.inl ⟨by rfl, ?_⟩) ?_ ?_
  rotate_left
  · intro w'
    go_simp
    with_reducible rfl
  rotate_left
  · simp only [Act.put, List.setIfInBounds_toArray, List.set_cons_zero, List.set_cons_succ]
    rfl
  refine take_ (i := 9) (N := (some 34)) (v := ?_) (a' := ?_) #[true, true, true, true, true, true, true, true, true, true, false, false, false, false, false, false, false] rfl rfl (by kernel_rfl) (fun _ _ _ h => h) (Or.inl ⟨by rfl, ?_⟩) hHeld ?_ ?_
  rotate_left
  · rintro w' hS
    have hc := cell0 hS.2
    go_simp
    with_reducible rfl
  rotate_left
  · simp only [Act.put, List.setIfInBounds_toArray, List.set_cons_zero, List.set_cons_succ]
    rfl
  refine one_ (i := 10) (N := (some 35)) #[true, true, true, true, true, true, true, true, true, true, true, false, false, false, false, false, false] rfl rfl (by kernel_rfl) (by decide) (fun K hK => ?_)
  refine run_step (by rfl) rfl (runCv rfl rfl (own_bytes HO5.out)) ?_
  refine hK.out _ _ (HSd.out) (fun hHeld => ?_)
  clear hK K
  refine norm_ (a' := ?_) ?_ ?_
  rotate_left
  · show Act.put _ (some 35) _ = _
    simp only [Act.put, List.setIfInBounds_toArray, List.set_cons_zero, List.set_cons_succ]
    rfl
  refine one_ (i := 11) (N := (some 36)) #[true, true, true, true, true, true, true, true, true, true, true, true, false, false, false, false, false] rfl rfl (by kernel_rfl) (by decide) (fun K hK => ?_)
  refine run_step (by rfl) rfl (run41 rfl rfl rfl) ?_
  refine hK.out _ _ (HSd.out) (fun hHeld => ?_)
  clear hK K
  refine norm_ (a' := ?_) ?_ ?_
  rotate_left
  · show Act.put _ (some 36) _ = _
    simp only [Act.put, List.setIfInBounds_toArray, List.set_cons_zero, List.set_cons_succ]
    rfl
  refine one_ (i := 12) (N := (some 37)) #[true, true, true, true, true, true, true, true, true, true, true, true, true, false, false, false, false] rfl rfl (by kernel_rfl) (by decide) (fun K hK => ?_)
  refine run_step (v := .slice (some ⟨w5.heap.size, 0, none⟩) 1 1) (w' := w5.alloc (.cells #[.int .i64 kind, .string U.s] 41)) (by rfl) rfl (by first | (go_simp; done) | (go_simp; rfl)) ?_
  have HA := Aside0.mk (below_alloc (Below.refl w5.heap.size w5) (.cells #[.int .i64 kind, .string U.s] 41))
  have HSa := Aside0.mk (And.intro ((HA.out.block x (blk_lt HSd.out.1)).trans HSd.out.1) ((HA.out.block g1 (blk_lt HSd.out.2)).trans HSd.out.2))
  refine hK.out _ _ (HSa.out) (fun hHeld => ?_)
  clear hK K
  refine norm_ (a' := ?_) ?_ ?_
  rotate_left
  · show Act.put _ (some 37) _ = _
    simp only [Act.put, List.setIfInBounds_toArray, List.set_cons_zero, List.set_cons_succ]
    rfl
  refine one_ (i := 13) (N := (some 38)) #[true, true, true, true, true, true, true, true, true, true, true, true, true, true, false, false, false] rfl rfl (by kernel_rfl) (by decide) (fun K hK => ?_)
  refine Kd.R_append_step E.k41 (w0 := w5) x (by rfl) (.tmp 29) (.tmp 37) 22 41 (.agg #[(.int .i64 0), (.string ⟨#[]⟩)]) 24 rfl Try.underlying22 E.info41 rfl (by decide) (by omega) (.slice A5 l.length c5) l ⟨kind, U.s⟩ [.int .i64 kind, .string U.s] (fun _ => True) (fun _ => False) rfl rfl (E.k41_mkM _ _ _ ⟨kind, U.s⟩) (fun _ hk => hk.elim) (fun _ _ => trivial) HR5.out (Below.refl _ _) (Nat.le_of_lt (blk_lt HSd.out.1)) (by have := HLE.out; omega) ?_
  intro v6 w6 r6 b6 g6 a6
  have HR6 := Aside0.mk r6
  have HS6 := Aside0.mk (And.intro (blk_grown HSd.out.1 g6 (Kd.R_ne HR5.out HSd.out.1 (by decide))) (blk_grown HSd.out.2 g6 (Kd.R_ne HR5.out HSd.out.2 (by decide))))
  have HW6 := Aside0.mk (HW5.out.grown41 HR5.out g6)
  have HF6 := Aside0.mk (show Fx lo g x w w6 from (Fx.of_fr HF5.out).trans ⟨b6.mono HXL.out, fun i cs t hi hg hx ht => (b6.block i hx).trans hi⟩)
  clear r6 b6 g6 a6
  refine hK.out _ _ (HS6.out) (fun hHeld => ?_)
  clear hK K
  refine norm_ (a' := ?_) ?_ ?_
  rotate_left
  · show Act.put _ (some 38) _ = _
    simp only [Act.put, List.setIfInBounds_toArray, List.set_cons_zero, List.set_cons_succ]
    rfl
  refine pure_ (i := 14) (N := (some 39)) (v := ?_) (a' := ?_) #[true, true, true, true, true, true, true, true, true, true, true, true, true, true, true, false, false] rfl rfl (by kernel_rfl) (fun _ _ _ h => h) (Or.inl ⟨by rfl, ?_⟩) ?_ ?_
  rotate_left
  · intro w'
    go_simp
    with_reducible rfl
  rotate_left
  · simp only [Act.put, List.setIfInBounds_toArray, List.set_cons_zero, List.set_cons_succ]
    rfl
  refine pure_ (i := 15) (N := (some 40)) (v := ?_) (a' := ?_) #[true, true, true, true, true, true, true, true, true, true, true, true, true, true, true, true, false] rfl rfl (by kernel_rfl) (fun _ _ _ h => h) (Or.inl ⟨by rfl, ?_⟩) ?_ ?_
  rotate_left
  · intro w'
    go_simp
    with_reducible rfl
  rotate_left
  · simp only [Act.put, List.setIfInBounds_toArray, List.set_cons_zero, List.set_cons_succ]
    rfl
  refine last_ (i := 16) (N := none) #[true, true, true, true, true, true, true, true, true, true, true, true, true, true, true, true, true] rfl rfl (by kernel_rfl) (by decide) (fun K hK => ?_)
  refine stM (g := x) (i := 1) (v := v6) (by rfl) rfl rfl rfl HS6.out.1 sz22 rfl (by obtain ⟨A_, c_, rfl⟩ := Kd.R_slice HR6.out; rfl) (by obtain ⟨A_, c_, rfl⟩ := Kd.R_slice HR6.out; rfl) (by simp) ?_
  intro w7 h7 b7 k7
  have HW7 := Aside0.mk (HW6.out.keep1 HS6.out.1 (by decide) (by decide) (b7 _ HXL.out) k7)
  have HX7 := Aside0.mk (show XS x g w7 (l ++ [⟨kind, U.s⟩]) from ⟨v6, h7, Kd.R_mono (Kd.R_keep (Kd.R_types HR6.out HS6.out.1 (k41_ty (by decide))) k7 (fun _ hk => hk.2)) (fun _ _ => trivial)⟩)
  have HF7 := Aside0.mk (HF6.out.trans ⟨b7 _ HXL.out, fun i cs t hi hg hx ht => (k7.2 i (blk_lt hi) (Nat.ne_of_lt hx) (by simp)).trans hi⟩)
  clear h7 b7 k7
  refine hK.out _ _ ?_
  clear hK K
  refine done_ (by kernel_rfl) ?_
  first | go_end0 | ((try simp only [Exit.inBlock, Exit.then]); refine bodyPost_ret (results_none rfl _ _ _) rfl ?_)
  exact ⟨rfl, HW7.out, HX7.out, HF7.out⟩
def Wp.ends (W : Wp) (l : List E.S41) : Wp := (W.need ((Go.Proofs.Ytlkebjkpmiehcaa.Pure.putL [] l).2 == 0)).vec (Go.Proofs.Ytlkebjkpmiehcaa.Pure.putL [] l).1 2 0 65536
set_option maxRecDepth 100000 in
set_option maxHeartbeats 8000000 in
theorem xend_w (lo x g : Nat) (W : Wp) (l : List E.S41) (w : World) (h : WS lo w g W) (hx : XS x g w l) (hl : l.length ≤ 16777216) (hb : ∀ y ∈ l, y.f1.size ≤ 140737488351232) (hn : W.s.size + 3 + (Go.Proofs.Ytlkebjkpmiehcaa.Pure.putL [] l).1.size ≤ 140737488355328) :
    Calls Try.prog 87 #[.pointer (some ⟨x, 0, none⟩)] w fun ex w' => ex = .returned (.tuple #[]) ∧ WS lo w' g (W.ends l) ∧ Fr lo g w w' := by
  obtain ⟨kp, hk⟩ := ev_at (Go.Proofs.Ytlkebjkpmiehcaa.Pure.put_any l hl hb)
  obtain ⟨v, h1, h3⟩ := hx
  obtain ⟨A, c, rfl, hlc, hC⟩ := Kd.R_reads h3
  have HW := Aside0.mk h
  have HC := Aside0.mk hC
  have HL := Aside0.mk hlc
  have HB := Aside0.mk h1
  have HK := Aside0.mk hk
  have HN := Aside0.mk (show (W.need ((Go.Proofs.Ytlkebjkpmiehcaa.Pure.putL [] l).2 == 0)).s.size + 3 + (Go.Proofs.Ytlkebjkpmiehcaa.Pure.putL [] l).1.size ≤ 140737488355328 from hn)
  have HNE := Aside0.mk (show x ≠ g from by obtain ⟨q, q1, _⟩ := h; exact ty_ne h1 q1 (by decide))
  clear h h1 h3 hC hlc hk hn hl hb
  go_enter Try.func87, Try.ntmps87
  go_wp2_with (first
    | ((with_reducible refine gate_dst (N := 8) rfl ?_); refine ld (v := .slice A l.length c) rfl rfl rfl HB.out Try.underlying22 rfl rfl ?_)
    | (go_at_call 15; (with_reducible refine (E.ext_Put.calls kp A c l _ _ _ HC.out HL.out HK.out).mono ?_); rintro e1 w1 ⟨rfl, b1⟩; have HW1 := Aside0.mk (HW.out.below b1); have HF1 := Aside0.mk (Fr.of_below (g := g) HW.out.size b1); have HB1 := Aside0.mk ((b1.block x (blk_lt HB.out)).trans HB.out); clear b1)
    | ((with_reducible refine gate_dst (N := 15) rfl ?_); refine ld (v := .pointer (some ⟨g, 0, none⟩)) rfl rfl rfl HB1.out Try.underlying81 rfl rfl ?_)
    | (go_at_call 61; (with_reducible refine (need_w lo g W ((Go.Proofs.Ytlkebjkpmiehcaa.Pure.putL [] l).2 == 0) _ HW1.out).mono ?_); rintro e2 w2 ⟨rfl, i2, f2⟩; have HW2 := Aside0.mk i2; have HB2 := Aside0.mk (f2.blk HB1.out HNE.out (by decide)); have HF2 := Aside0.mk (HF1.out.trans f2); clear i2 f2)
    | ((with_reducible refine gate_dst (N := 22) rfl ?_); refine ld (v := .pointer (some ⟨g, 0, none⟩)) rfl rfl rfl HB2.out Try.underlying81 rfl rfl ?_)
    | (go_at_call 57; (with_reducible refine (vec_w lo g (W.need ((Go.Proofs.Ytlkebjkpmiehcaa.Pure.putL [] l).2 == 0)) (Go.Proofs.Ytlkebjkpmiehcaa.Pure.putL [] l).1 2 0 65536 _ HW2.out (by omega) (by omega) HN.out).mono ?_); rintro e3 w3 ⟨rfl, i3, f3⟩; have HW3 := Aside0.mk i3; have HF3 := Aside0.mk (HF2.out.trans f3); clear i3 f3))
  first | go_end0 | ((try simp only [Exit.inBlock, Exit.then]); refine bodyPost_ret (results_none rfl _ _ _) rfl ?_)
  exact ⟨rfl, HW3.out, HF3.out⟩
end Go.Proofs.Ytlkebjkpmiehcaa.Ms
end
section
namespace Go.Proofs.Ytlkebjkpmiehcaa.Ms
open Go.RowKit Go.Proofs.YtlkebjkpmiehcaaW.PrintWords Go.Proofs.YtlkebjkpmiehcaaW.PrintLast Go.Proofs.YtlkebjkpmiehcaaW.PrintMore Go.Proofs.Ytlkebjkpmiehcaa.X
set_option linter.unusedVariables false
set_option linter.unusedSimpArgs false
def fw {α : Type} (f : Wp → α → Wp) (l : List α) : Wp := l.foldl f W0
def wN (n : Int) (W : Wp) (x : Int) : Wp := W.num x n
def wS (W : Wp) (s : S66) : Wp := (W.num s.f0 2).vec s.f1 2 1 65536
def wI (W : Wp) (s : S111) : Wp := (W.vec s.f0 2 1 65536).num s.f1 4
def wB (W : Wp) (s : ByteArray) : Wp := W.vec s 1 32 255
theorem wS_size (W : Wp) (s : S66) (hs : s.f1.size ≤ 2097152) : (wS W s).s.size ≤ W.s.size + 4194304 := by
  have h1 := W.num_size s.f0 2 (by omega) (by omega)
  have h2 := (W.num s.f0 2).vec_size s.f1 2 1 65536 (by omega) (by omega) (by omega)
  unfold wS
  omega
theorem boxT {ops : Array Oper} {rest : List Oper} {o : Oper} {a : Act} {Q : Exit → Act → World → Prop} {w : World} {t : TypeId} {x : Operand} (hgd : o.guard = none) (ho : o.op = .box t x) {v : Value} {cs : Array Value} (hx : a.eval x = v) (hv : v.cells = cs)
    (H : ∀ g, g = w.heap.size → ∀ w1, w1.heap[g]? = some (.cells cs t (0, 0)) → Below w.heap.size w w1 → wpList Try.prog ops Q rest (a.put o.dst (.pointer (some ⟨g, 0, none⟩))) w1) : wpList Try.prog ops Q (o :: rest) a w := by
  subst hv
  refine Kd.event_run hgd ?_ (H _ rfl _ (blk_new w _) (below_alloc (Below.refl _ _) _))
  unfold execOp
  simp only [ho, hx]
  rfl
set_option maxRecDepth 100000 in
set_option maxHeartbeats 8000000 in
theorem share_w (lo g : Nat) (W : Wp) (s : S66) (w : World) (h : WS lo w g W) (hn : W.s.size + 8 + s.f1.size ≤ 140737488355328) :
    Calls Try.prog 85 #[.pointer (some ⟨g, 0, none⟩), .agg #[.int .i64 s.f0, .string s.f1]] w fun ex w' => ex = .returned (.tuple #[]) ∧ WS lo w' g (wS W s) ∧ Fr lo g w w' := by
  have HW := Aside0.mk h
  have z1 := W.num_size s.f0 2 (by omega) (by omega)
  have HN1 := Aside0.mk (show W.s.size + 4 ≤ 140737488355328 from by omega)
  have HN2 := Aside0.mk (show (W.num s.f0 2).s.size + 3 + s.f1.size ≤ 140737488355328 from by omega)
  clear h hn z1
  go_enter Try.func85, Try.ntmps85
  go_wp2_with (first
    | ((with_reducible refine gate_dst (N := 3) rfl ?_); refine boxT rfl rfl rfl rfl ?_; intro gb eb w1 h1 b1; have HB := Aside0.mk h1; have HNE := Aside0.mk (show gb ≠ g from by have := HW.out.lt; omega); have HW1 := Aside0.mk (HW.out.below b1); have HF1 := Aside0.mk (Fr.of_below (g := g) HW.out.size b1); clear h1 b1 eb)
    | ((with_reducible refine gate_dst (N := 6) rfl ?_); refine ld (v := .int .i64 s.f0) rfl rfl rfl HB.out Try.underlying3 rfl rfl ?_)
    | (go_at_call 60; (with_reducible refine (num_w lo g W s.f0 2 _ HW1.out (by omega) (by omega) HN1.out).mono ?_); rintro e2 w2 ⟨rfl, i2, f2⟩; have HW2 := Aside0.mk i2; have HB2 := Aside0.mk (f2.blk HB.out HNE.out (by decide)); have HF2 := Aside0.mk (HF1.out.trans f2); clear i2 f2)
    | ((with_reducible refine gate_dst (N := 10) rfl ?_); refine ld (v := .string s.f1) rfl rfl rfl HB2.out Try.underlying9 rfl rfl ?_)
    | (go_at_call 57; (with_reducible refine (vec_w lo g (W.num s.f0 2) s.f1 2 1 65536 _ HW2.out (by omega) (by omega) HN2.out).mono ?_); rintro e3 w3 ⟨rfl, i3, f3⟩; have HW3 := Aside0.mk (show WS lo w3 g (wS W s) from i3); have HF3 := Aside0.mk (HF2.out.trans f3); clear i3 f3))
  first | go_end0 | ((try simp only [Exit.inBlock, Exit.then]); refine bodyPost_ret (results_none rfl _ _ _) rfl ?_)
  exact ⟨rfl, HW3.out, HF3.out⟩
end Go.Proofs.Ytlkebjkpmiehcaa.Ms
end
section
namespace Go.Proofs.Ytlkebjkpmiehcaa.Ms
open Go.RowKit Go.Proofs.YtlkebjkpmiehcaaW.PrintWords Go.Proofs.YtlkebjkpmiehcaaW.PrintLast Go.Proofs.YtlkebjkpmiehcaaW.PrintMore Go.Proofs.Ytlkebjkpmiehcaa.X
set_option linter.unusedVariables false
set_option linter.unusedSimpArgs false
theorem enters88 : ∀ args w, (callFunc 88 args).run Try.prog w = .ok (.enter 88 args) w := fun args w => enters_ Try.func88 (by kernel_rfl) rfl args w
theorem enters89 : ∀ args w, (callFunc 89 args).run Try.prog w = .ok (.enter 89 args) w := fun args w => enters_ Try.func89 (by kernel_rfl) rfl args w
theorem enters90 : ∀ args w, (callFunc 90 args).run Try.prog w = .ok (.enter 90 args) w := fun args w => enters_ Try.func90 (by kernel_rfl) rfl args w
theorem enters91 : ∀ args w, (callFunc 91 args).run Try.prog w = .ok (.enter 91 args) w := fun args w => enters_ Try.func91 (by kernel_rfl) rfl args w
theorem mkf : ∀ fn first cap w, (Instr.makeFunc fn first cap).run Try.prog w = .ok (.func fn first cap) w := fun _ _ _ _ => rfl
section
variable {ops : Array Oper} {rest : List Oper} {o : Oper} {a : Act} {Q : Exit → Act → World → Prop} {w : World}
theorem ldQ {ty : TypeId} {x : Operand} (hgd : o.guard = none) (ho : o.op = .load ty x) {p : Addr} (hx : a.eval x = .pointer (some p))
    {d : TypeDesc} (hu : Try.prog.underlying ty = some d) (hd : (match d with | .struct _ | .array _ _ => true | _ => false) = false) {v : Value} (hc : w.cell? p = some v) (H : wpList Try.prog ops Q rest (a.put o.dst v) w) : wpList Try.prog ops Q (o :: rest) a w := by
  refine Kd.event_run hgd ?_ H
  unfold execOp
  simp [ho, hx, Instr.loadAt, Instr.sureAddr, Sem.run_bind, loadVar, isAgg_no hu hd, load, Sem.run, hc]
end
theorem W0_size : W0.s.size = 0 := rfl
set_option maxRecDepth 100000 in
set_option maxHeartbeats 8000000 in
theorem sv1_w (gb gm : Nat) (cs : Array Value) (A : Option Addr) (c : Nat) (l : List Int) (w : World) (hcb : w.heap[gb]? = some (.cells #[.pointer (some ⟨gm, 0, none⟩)] 85 (0, 0))) (hcm : w.heap[gm]? = some (.cells cs 49 (0, 0))) (hv : cs[5]? = some (.slice A l.length c)) (hr : Kd.C (Kd.int .i64) w A l.length l) (hp : 0 < l.length) :
    Writes 88 #[.pointer (some ⟨gb, 0, none⟩)] w (W0.num (rd l 0) 2).s (W0.num (rd l 0) 2).b := by
  intro w0 g hb0 h
  have HW := Aside0.mk (show WS w.heap.size w0 g W0 from h)
  have HB0 := Aside0.mk hb0
  have HGE := Aside0.mk h.lt
  have hmf := mkf
  have hz0 := W0_size
  have HX := Aside0.mk ((hb0.block gb (blk_lt hcb)).trans hcb)
  have HX1 := Aside0.mk (show gb ≠ g from by have := blk_lt hcb; have := h.lt; omega)
  have HY := Aside0.mk ((hb0.block gm (blk_lt hcm)).trans hcm)
  have HY1 := Aside0.mk (show gm ≠ g from by have := blk_lt hcm; have := h.lt; omega)
  have HN1 := Aside0.mk (show W0.s.size + 4 ≤ 140737488355328 from by omega)
  have q : (0 : Int) < (l.length : Int) := by omega
  obtain ⟨ad, e0, hx⟩ := Kd.at_int (Kd.C_below hr hb0) 0 (by omega) q
  subst e0
  have e3 : ad.add (Int.toNat 0) = ad := by simp [Addr.add]
  rw [e3] at hx
  have HC := Aside0.mk hx
  have HV := Aside0.mk hv
  have q1 := eq_true q
  have q2 := eq_true hp
  clear hcb hcm hv hr e3 hx q
  clear h hb0 hz0
  show Calls Try.prog 88 _ w0 _
  go_enter Try.func88, Try.ntmps88
  go_wp2_with (first
    | ((with_reducible refine gate_dst (N := 4) rfl ?_); refine ld (v := .pointer (some ⟨gm, 0, none⟩)) rfl rfl rfl HX.out Try.underlying85 rfl rfl ?_)
    | ((with_reducible refine gate_dst (N := 7) rfl ?_); refine ld (v := .slice (some ad) l.length c) rfl rfl rfl HY.out Try.underlying44 rfl HV.out ?_)
    | ((with_reducible refine gate_dst (N := 9) rfl ?_); refine ldQ (v := .int .i64 (rd l 0)) rfl rfl rfl Try.underlying3 rfl HC.out ?_)
    | (go_at_call 60; (with_reducible refine (num_w w.heap.size g W0 (rd l 0) 2 _ HW.out (by omega) (by omega) HN1.out).mono ?_); rintro e1 w1 ⟨rfl, i1, f1⟩; have HWz := Aside0.mk i1; have HFz := Aside0.mk f1; clear i1 f1))
  first | go_end0 | ((try simp only [Exit.inBlock, Exit.then]); refine bodyPost_ret (results_none rfl _ _ _) rfl ?_)
  exact ⟨rfl, HWz.out, HFz.out⟩
set_option maxRecDepth 100000 in
set_option maxHeartbeats 8000000 in
theorem sv2_w (gb gm : Nat) (cs : Array Value) (A : Option Addr) (c : Nat) (l : List Int) (w : World) (hcb : w.heap[gb]? = some (.cells #[.pointer (some ⟨gm, 0, none⟩)] 85 (0, 0))) (hcm : w.heap[gm]? = some (.cells cs 49 (0, 0))) (hv : cs[6]? = some (.slice A l.length c)) (hr : Kd.C (Kd.int .i64) w A l.length l) (hp : 0 < l.length) :
    Writes 89 #[.pointer (some ⟨gb, 0, none⟩)] w (W0.num (rd l 0) 2).s (W0.num (rd l 0) 2).b := by
  intro w0 g hb0 h
  have HW := Aside0.mk (show WS w.heap.size w0 g W0 from h)
  have HB0 := Aside0.mk hb0
  have HGE := Aside0.mk h.lt
  have hmf := mkf
  have hz0 := W0_size
  have HX := Aside0.mk ((hb0.block gb (blk_lt hcb)).trans hcb)
  have HX1 := Aside0.mk (show gb ≠ g from by have := blk_lt hcb; have := h.lt; omega)
  have HY := Aside0.mk ((hb0.block gm (blk_lt hcm)).trans hcm)
  have HY1 := Aside0.mk (show gm ≠ g from by have := blk_lt hcm; have := h.lt; omega)
  have HN1 := Aside0.mk (show W0.s.size + 4 ≤ 140737488355328 from by omega)
  have q : (0 : Int) < (l.length : Int) := by omega
  obtain ⟨ad, e0, hx⟩ := Kd.at_int (Kd.C_below hr hb0) 0 (by omega) q
  subst e0
  have e3 : ad.add (Int.toNat 0) = ad := by simp [Addr.add]
  rw [e3] at hx
  have HC := Aside0.mk hx
  have HV := Aside0.mk hv
  have q1 := eq_true q
  have q2 := eq_true hp
  clear hcb hcm hv hr e3 hx q
  clear h hb0 hz0
  show Calls Try.prog 89 _ w0 _
  go_enter Try.func89, Try.ntmps89
  go_wp2_with (first
    | ((with_reducible refine gate_dst (N := 4) rfl ?_); refine ld (v := .pointer (some ⟨gm, 0, none⟩)) rfl rfl rfl HX.out Try.underlying85 rfl rfl ?_)
    | ((with_reducible refine gate_dst (N := 7) rfl ?_); refine ld (v := .slice (some ad) l.length c) rfl rfl rfl HY.out Try.underlying44 rfl HV.out ?_)
    | ((with_reducible refine gate_dst (N := 9) rfl ?_); refine ldQ (v := .int .i64 (rd l 0)) rfl rfl rfl Try.underlying3 rfl HC.out ?_)
    | (go_at_call 60; (with_reducible refine (num_w w.heap.size g W0 (rd l 0) 2 _ HW.out (by omega) (by omega) HN1.out).mono ?_); rintro e1 w1 ⟨rfl, i1, f1⟩; have HWz := Aside0.mk i1; have HFz := Aside0.mk f1; clear i1 f1))
  first | go_end0 | ((try simp only [Exit.inBlock, Exit.then]); refine bodyPost_ret (results_none rfl _ _ _) rfl ?_)
  exact ⟨rfl, HWz.out, HFz.out⟩
set_option maxRecDepth 100000 in
set_option maxHeartbeats 8000000 in
theorem sv3_w (gb gm : Nat) (cs : Array Value) (A : Option Addr) (c : Nat) (l : List S66) (w : World) (hcb : w.heap[gb]? = some (.cells #[.pointer (some ⟨gm, 0, none⟩)] 85 (0, 0))) (hcm : w.heap[gm]? = some (.cells cs 49 (0, 0))) (hv : cs[9]? = some (.slice A l.length c)) (hr : Kd.C k66 w A l.length l) (hp : 0 < l.length) (hsz : (rd_T66 l 0).f1.size ≤ 2097152) :
    Writes 90 #[.pointer (some ⟨gb, 0, none⟩)] w (wS W0 (rd_T66 l 0)).s (wS W0 (rd_T66 l 0)).b := by
  intro w0 g hb0 h
  have HW := Aside0.mk (show WS w.heap.size w0 g W0 from h)
  have HB0 := Aside0.mk hb0
  have HGE := Aside0.mk h.lt
  have hmf := mkf
  have hz0 := W0_size
  have HX := Aside0.mk ((hb0.block gb (blk_lt hcb)).trans hcb)
  have HX1 := Aside0.mk (show gb ≠ g from by have := blk_lt hcb; have := h.lt; omega)
  have HY := Aside0.mk ((hb0.block gm (blk_lt hcm)).trans hcm)
  have HY1 := Aside0.mk (show gm ≠ g from by have := blk_lt hcm; have := h.lt; omega)
  have hu66 := Try.underlying66
  have HN1 := Aside0.mk (show W0.s.size + 8 + (rd_T66 l 0).f1.size ≤ 140737488355328 from by omega)
  have q : (0 : Int) < (l.length : Int) := by omega
  obtain ⟨ad, e0, hx, hx2⟩ := at_T66 (Kd.C_below hr hb0) 0 (by omega) q
  subst e0
  have e3 : ad.add (Int.toNat 0 * 2) = ad := by simp [Addr.add]
  rw [e3] at hx hx2
  have HV := Aside0.mk hv
  have q1 := eq_true q
  have q2 := eq_true hp
  generalize rd_T66 l 0 = s at *
  clear hcb hcm hv hr e3 q hsz
  clear h hb0 hz0
  show Calls Try.prog 90 _ w0 _
  go_enter Try.func90, Try.ntmps90
  go_wp2_with (first
    | ((with_reducible refine gate_dst (N := 4) rfl ?_); refine ld (v := .pointer (some ⟨gm, 0, none⟩)) rfl rfl rfl HX.out Try.underlying85 rfl rfl ?_)
    | ((with_reducible refine gate_dst (N := 7) rfl ?_); refine ld (v := .slice (some ad) l.length c) rfl rfl rfl HY.out Try.underlying45 rfl HV.out ?_)
    | (go_at_call 85; (with_reducible refine (share_w w.heap.size g W0 s _ HW.out HN1.out).mono ?_); rintro e1 w1 ⟨rfl, i1, f1⟩; have HWz := Aside0.mk i1; have HFz := Aside0.mk f1; clear i1 f1))
  first | go_end0 | ((try simp only [Exit.inBlock, Exit.then]); refine bodyPost_ret (results_none rfl _ _ _) rfl ?_)
  exact ⟨rfl, HWz.out, HFz.out⟩
set_option maxRecDepth 100000 in
set_option maxHeartbeats 8000000 in
theorem sv4_w (gb gm : Nat) (cs : Array Value) (k : Int) (w : World) (hcb : w.heap[gb]? = some (.cells #[.pointer (some ⟨gm, 0, none⟩)] 85 (0, 0))) (hcm : w.heap[gm]? = some (.cells cs 49 (0, 0))) (hv : cs[12]? = some (.int .i64 k)) :
    Writes 91 #[.pointer (some ⟨gb, 0, none⟩)] w (W0.num (wrap64 (k - 1)) 2).s (W0.num (wrap64 (k - 1)) 2).b := by
  intro w0 g hb0 h
  have HW := Aside0.mk (show WS w.heap.size w0 g W0 from h)
  have HB0 := Aside0.mk hb0
  have HGE := Aside0.mk h.lt
  have hmf := mkf
  have hz0 := W0_size
  have HX := Aside0.mk ((hb0.block gb (blk_lt hcb)).trans hcb)
  have HX1 := Aside0.mk (show gb ≠ g from by have := blk_lt hcb; have := h.lt; omega)
  have HY := Aside0.mk ((hb0.block gm (blk_lt hcm)).trans hcm)
  have HY1 := Aside0.mk (show gm ≠ g from by have := blk_lt hcm; have := h.lt; omega)
  have HN1 := Aside0.mk (show W0.s.size + 4 ≤ 140737488355328 from by omega)
  have HV := Aside0.mk hv
  clear hcb hcm hv
  clear h hb0 hz0
  show Calls Try.prog 91 _ w0 _
  go_enter Try.func91, Try.ntmps91
  go_wp2_with (first
    | ((with_reducible refine gate_dst (N := 4) rfl ?_); refine ld (v := .pointer (some ⟨gm, 0, none⟩)) rfl rfl rfl HX.out Try.underlying85 rfl rfl ?_)
    | ((with_reducible refine gate_dst (N := 7) rfl ?_); refine ld (v := .int .i64 k) rfl rfl rfl HY.out Try.underlying3 rfl HV.out ?_)
    | (go_at_call 60; (with_reducible refine (num_w w.heap.size g W0 (wrap64 (k - 1)) 2 _ HW.out (by omega) (by omega) HN1.out).mono ?_); rintro e1 w1 ⟨rfl, i1, f1⟩; have HWz := Aside0.mk i1; have HFz := Aside0.mk f1; clear i1 f1))
  first | go_end0 | ((try simp only [Exit.inBlock, Exit.then]); refine bodyPost_ret (results_none rfl _ _ _) rfl ?_)
  exact ⟨rfl, HWz.out, HFz.out⟩
end Go.Proofs.Ytlkebjkpmiehcaa.Ms
end
section
namespace Go.Proofs.Ytlkebjkpmiehcaa.Ms
open Go.RowKit Go.Proofs.YtlkebjkpmiehcaaW.PrintWords Go.Proofs.YtlkebjkpmiehcaaW.PrintLast Go.Proofs.YtlkebjkpmiehcaaW.PrintMore Go.Proofs.Ytlkebjkpmiehcaa.X
set_option linter.unusedVariables false
set_option linter.unusedSimpArgs false
theorem putL_size (l : List E.S41) : (Go.Proofs.Ytlkebjkpmiehcaa.Pure.putL [] l).1.size ≤ 65539 * l.length := by
  have key : ∀ (r pre : List E.S41), (Go.Proofs.Ytlkebjkpmiehcaa.Pure.encs pre).size ≤ 65539 * pre.length → (Go.Proofs.Ytlkebjkpmiehcaa.Pure.putL pre r).1.size ≤ 65539 * (pre.length + r.length) := by
    intro r
    induction r with
    | nil =>
      intro pre hp
      unfold Go.Proofs.Ytlkebjkpmiehcaa.Pure.putL
      split
      · show (0 : Nat) ≤ _
        omega
      · show (Go.Proofs.Ytlkebjkpmiehcaa.Pure.encs pre).size ≤ _
        simp only [List.length_nil, Nat.add_zero]
        exact hp
    | cons y r ih =>
      intro pre hp
      unfold Go.Proofs.Ytlkebjkpmiehcaa.Pure.putL
      split
      · next hy =>
        have h1 := Go.Proofs.Ytlkebjkpmiehcaa.Pure.encE_size hy
        have h2 := ih (pre ++ [y]) (by
          rw [Go.Proofs.Ytlkebjkpmiehcaa.Pure.encs_snoc, ByteArray.size_append, List.length_append, List.length_singleton]
          omega)
        rw [List.length_append, List.length_singleton] at h2
        rw [List.length_cons]
        omega
      · show (0 : Nat) ≤ _
        omega
  have := key l [] (by show (0 : Nat) ≤ _; omega)
  simpa using this
theorem xPut_s (is : Bool) (W U : Wp) : (xPut is W U).s = W.s := by
  unfold xPut
  split <;> rfl
def XB (l : List E.S41) (n : Nat) : Prop := l.length ≤ n ∧ ∀ y ∈ l, y.f1.size ≤ 140737488351232
theorem XB.nil : XB [] 0 := ⟨Nat.le_refl _, fun y h => by cases h⟩
theorem XB.put {l : List E.S41} {n : Nat} (h : XB l n) (is : Bool) (k : Int) (U : Wp) (hU : U.s.size ≤ 140737488351232) : XB (xPutL is k U l) (n + 1) := by
  unfold xPutL
  split
  · refine ⟨by rw [List.length_append, List.length_singleton]; have := h.1; omega, fun y hy => ?_⟩
    rcases List.mem_append.1 hy with h1 | h1
    · exact h.2 y h1
    · rw [List.mem_singleton] at h1
      rw [h1]
      exact hU
  · exact ⟨by have := h.1; omega, h.2⟩
theorem WS.bad_cell {lo g : Nat} {w : World} {W : Wp} {b : Bool} (h : WS lo w g W) (hb : W.b = b) : ∃ v, w.heap[g]? = some (.cells #[v, .bool b] 83 (0, 0)) := by
  obtain ⟨v, h1, _, _⟩ := h
  rw [hb] at h1
  exact ⟨v, h1⟩
theorem built115 (g : Nat) : Try.prog.built 115 [(0, .pointer (some ⟨g, 0, none⟩))] = some #[.pointer (some ⟨g, 0, none⟩), .slice none 0 0] := by kernel_rfl
theorem build115 {ops : Array Oper} {rest : List Oper} {o : Oper} {a : Act} {Q : Exit → Act → World → Prop} {w : World} {x : Operand} {g : Nat} (hgd : o.guard = none) (ho : o.op = .build 115 #[(0, x)]) (hx : a.eval x = .pointer (some ⟨g, 0, none⟩))
    (H : wpList Try.prog ops Q rest (a.put o.dst (.agg #[.pointer (some ⟨g, 0, none⟩), .slice none 0 0])) w) : wpList Try.prog ops Q (o :: rest) a w := by
  refine Kd.event_run hgd ?_ H
  have hr := run_build (P := Try.prog) w 115 #[(0, .pointer (some ⟨g, 0, none⟩))] _ (built115 g)
  have he : (#[(0, x)] : Array (Nat × Operand)).map (fun x => (x.fst, a.eval x.snd)) = #[(0, .pointer (some ⟨g, 0, none⟩))] := by simp [hx]
  unfold execOp
  simp only [ho, Sem.run_bind]
  rw [he, hr]
  rfl
theorem XS.start {x g : Nat} {w : World} (h : w.heap[x]? = some (.cells #[.pointer (some ⟨g, 0, none⟩), .slice none 0 0] 115 (0, 0))) : XS x g w [] := ⟨_, h, Kd.R_nil _ _ _ _ _⟩
structure MB (m : Mv) : Prop where
  b1 : m.f1.size ≤ 2097152
  b2 : m.f2.size ≤ 2097152
  b3 : m.f3.length ≤ 16777216
  b4 : m.f4.size ≤ 2097152
  b5 : m.f5.length ≤ 16777216
  b6 : m.f6.length ≤ 16777216
  b7 : m.f7.length ≤ 16777216
  b8 : m.f8.length ≤ 16777216
  b9 : m.f9.length ≤ 16777216
  c9 : ∀ a, a ∈ m.f9 → a.f1.size ≤ 2097152
  b10 : m.f10.length ≤ 16777216
  c10 : ∀ a, a ∈ m.f10 → a.f0.size ≤ 2097152
  b11 : m.f11.length ≤ 16777216
  c11 : ∀ a, a ∈ m.f11 → a.size ≤ 2097152
  b14 : m.f14.length ≤ 16777216
  c14 : ∀ a, a ∈ m.f14 → a.size ≤ 2097152
  b16 : m.f16.size ≤ 2097152
  b19 : m.f19.size ≤ 2097152
def shOk1 (m : Mv) : Bool := ((m.f3.length : Int) == 1) && decide ((m.f5.length : Int) ≤ 1)
def shOk2 (m : Mv) : Bool := (m.retry && decide ((m.f6.length : Int) ≤ 1) && ((m.f9.length : Int) == 0) && (m.f12 == 0)) || (!m.retry && ((m.f6.length : Int) == 0) && decide ((m.f9.length : Int) ≤ 1))
def shW (W : Wp) (m : Mv) : Wp := ((W.hello m.f1 m.f2).need (shOk1 m)).need (shOk2 m)
theorem hello_size (W : Wp) (r s : ByteArray) (hr : r.size ≤ 2097152) (hs : s.size ≤ 2097152) : (W.hello r s).s.size ≤ W.s.size + 33554432 := by
  have h1 := W.num_size 771 2 (by omega) (by omega)
  have h2 := (((W.num 771 2).need ((r.size : Int) == 32)).add r).vec_size s 1 0 32 (by omega) (by omega) (by omega)
  rw [Wp.add_size] at h2
  have h3 : ((W.num 771 2).need ((r.size : Int) == 32)).s.size = (W.num 771 2).s.size := rfl
  unfold Wp.hello
  omega
theorem retry_at (m : Mv) (h : Hd) (w : World) (rd : Reads w m h) (r : Bool) (hr : m.retry = r) :
    Calls Try.prog 30 #[.agg (cells m h)] w fun e w' => e = .returned (.bool r) ∧ Below w.heap.size w w' := by
  rw [← hr]
  exact retry_calls m h w rd
theorem gate_load {ops : Array Oper} {rest : List Oper} {o : Oper} {a : Act} {Q : Exit → Act → World → Prop} {w : World} {t : TypeId} {x : Operand} (_ho : o.op = .load t x) (h : wpList Try.prog ops Q (o :: rest) a w) : wpList Try.prog ops Q (o :: rest) a w := h
theorem n_lo2 {lo g : Nat} {w : World} {W : Wp} (h : WS lo w g W) : lo ≤ w.heap.size := h.size
theorem n_lo {lo g : Nat} {w1 w : World} {W : Wp} (h : WS lo w1 g W) (b : Below w.heap.size w w1) (k : lo ≤ w.heap.size) : lo ≤ w.heap.size := k
theorem hb_ {w0 w w' : World} {lo g : Nat} (b : Below w0.heap.size w0 w) (f : Fr lo g w w') (hl : w0.heap.size ≤ lo) : Below w0.heap.size w0 w' := b.trans (f.below.mono hl)
theorem paths1 (a b : Bool) : (a = false ∧ True) ∨ (a = true ∧ b = false) ∨ (a = true ∧ b = true) := by cases a <;> cases b <;> simp
theorem paths2 (r a b c d e : Bool) : (r = true ∧ a = false ∧ True ∧ True) ∨ (r = true ∧ a = true ∧ b = false ∧ True) ∨ (r = true ∧ a = true ∧ b = true ∧ c = false) ∨ (r = true ∧ a = true ∧ b = true ∧ c = true) ∨ (r = false ∧ d = false ∧ True ∧ True) ∨ (r = false ∧ d = true ∧ e = false ∧ True) ∨ (r = false ∧ d = true ∧ e = true ∧ True) := by
  cases r <;> cases a <;> cases b <;> cases c <;> cases d <;> cases e <;> simp
set_option maxRecDepth 100000 in
set_option maxHeartbeats 8000000 in
theorem sh_bad (lo g gm : Nat) (m : Mv) (hd : Hd) (W : Wp) (w0 w : World) (h : WS lo w g W) (hlo : w0.heap.size ≤ lo) (hb0 : Below w0.heap.size w0 w) (hy : w.heap[gm]? = some (.cells (cells m hd) 49 (0, 0))) (hne : gm ≠ g) (hr : Reads w0 m hd) (hm : MB m) (hn : W.s.size ≤ 16777216) (hb : (shW W m).b = true) :
    Calls Try.prog 56 #[.pointer (some ⟨g, 0, none⟩), .pointer (some ⟨gm, 0, none⟩)] w fun ex w' => ex = .returned (.tuple #[]) ∧ WS lo w' g (shW W m) ∧ Fr lo g w w' := by
  have hsz_ := Aside0.mk h.size
  have HB0 := Aside0.mk hb0
  have HW := Aside0.mk h
  have HL := Aside0.mk hlo
  have HY := Aside0.mk hy
  have HYN := Aside0.mk hne
  have HR := Aside0.mk hr
  have HMB := Aside0.mk hm
  have HN := Aside0.mk (show W.s.size + 16 + m.f1.size + m.f2.size ≤ 140737488355328 from by have := hm.b1; have := hm.b2; omega)
  have HWS := Aside0.mk hn
  unfold shW shOk1 shOk2 at hb ⊢
  rcases paths1 ((m.f3.length : Int) == 1) (decide ((m.f5.length : Int) ≤ 1)) with ⟨e1, e2⟩ | ⟨e1, e2⟩ | ⟨e1, e2⟩ <;> rcases paths2 m.retry (decide ((m.f6.length : Int) ≤ 1)) ((m.f9.length : Int) == 0) (m.f12 == 0) ((m.f6.length : Int) == 0) (decide ((m.f9.length : Int) ≤ 1)) with ⟨er, e3, e4, e5⟩ | ⟨er, e3, e4, e5⟩ | ⟨er, e3, e4, e5⟩ | ⟨er, e3, e4, e5⟩ | ⟨er, e3, e4, e5⟩ | ⟨er, e3, e4, e5⟩ | ⟨er, e3, e4, e5⟩
  all_goals
    simp only [e1, e2, er, e3, e4, e5, Bool.and_false, Bool.and_true, Bool.false_and, Bool.true_and, Bool.or_false, Bool.or_true, Bool.false_or, Bool.true_or, Bool.not_true, Bool.not_false] at hb ⊢
    have ER := Aside0.mk er
    have HBB := Aside0.mk hb
    clear h hlo hy hne hr hm hb hb0 hn er
    go_enter Try.func56, Try.ntmps56
    go_wp2_with (first
      | ((with_reducible refine gate_dst (N := 3) rfl ?_); refine boxT (v := .pointer (some ⟨gm, 0, none⟩)) (cs := #[.pointer (some ⟨gm, 0, none⟩)]) rfl rfl rfl rfl ?_; intro gb eb w1 h1 b1; have HX := Aside0.mk h1; have HXN := Aside0.mk (show gb ≠ g from by have := HW.out.lt; omega); have n_ := Aside0.mk ((b1.block gm (blk_lt HY.out)).trans HY.out); clear HY; have HY := n_; clear n_; have n_ := Aside0.mk (HW.out.below b1); clear HW; have HW := n_; clear n_; have HF := Aside0.mk (Fr.of_below (g := g) (n_lo HW.out b1 hsz_.out) b1); clear h1 b1 eb)
      | ((with_reducible refine gate_load rfl ?_); first
        | ((with_reducible refine gate_dst (N := 6) rfl ?_); refine ld (v := .pointer (some ⟨gm, 0, none⟩)) rfl rfl rfl HX.out Try.underlying85 rfl rfl ?_)
        | ((with_reducible refine gate_dst (N := 8) rfl ?_); refine wpList_load_row rfl 49 _ rfl gm rfl 49 _ (0, 0) _ HY.out Try.underlying49 rfl sz49 ?_)
        | ((with_reducible refine gate_dst (N := 11) rfl ?_); refine ld (v := .pointer (some ⟨gm, 0, none⟩)) rfl rfl rfl HX.out Try.underlying85 rfl rfl ?_)
        | ((with_reducible refine gate_dst (N := 14) rfl ?_); refine ld (v := .pointer (some ⟨gm, 0, none⟩)) rfl rfl rfl HX.out Try.underlying85 rfl rfl ?_)
        | ((with_reducible refine gate_dst (N := 17) rfl ?_); refine ld (v := .slice hd.A3 m.f3.length hd.c3) rfl rfl rfl HY.out Try.underlying44 rfl rfl ?_)
        | ((with_reducible refine gate_dst (N := 21) rfl ?_); (have k_ : ((m.f3.length : Int) == 1) = true := by with_reducible exact e1); clear k_; refine gate_guard rfl ?_; refine ld (v := .pointer (some ⟨gm, 0, none⟩)) rfl rfl rfl HX.out Try.underlying85 rfl rfl ?_)
        | ((with_reducible refine gate_dst (N := 24) rfl ?_); (have k_ : ((m.f3.length : Int) == 1) = true := by with_reducible exact e1); clear k_; refine gate_guard rfl ?_; refine ld (v := .slice hd.A5 m.f5.length hd.c5) rfl rfl rfl HY.out Try.underlying44 rfl rfl ?_)
        | ((with_reducible refine gate_dst (N := 32) rfl ?_); (have k_ : m.retry = true := by with_reducible exact ER.out); clear k_; refine gate_guard rfl ?_; refine ld (v := .pointer (some ⟨gm, 0, none⟩)) rfl rfl rfl HX.out Try.underlying85 rfl rfl ?_)
        | ((with_reducible refine gate_dst (N := 35) rfl ?_); (have k_ : m.retry = true := by with_reducible exact ER.out); clear k_; refine gate_guard rfl ?_; refine ld (v := .slice hd.A6 m.f6.length hd.c6) rfl rfl rfl HY.out Try.underlying44 rfl rfl ?_)
        | ((with_reducible refine gate_dst (N := 40) rfl ?_); (have k_ : m.retry = true ∧ decide ((m.f6.length : Int) ≤ 1) = true := by with_reducible exact ⟨ER.out, e3⟩); clear k_; refine gate_guard rfl ?_; refine ld (v := .pointer (some ⟨gm, 0, none⟩)) rfl rfl rfl HX.out Try.underlying85 rfl rfl ?_)
        | ((with_reducible refine gate_dst (N := 43) rfl ?_); (have k_ : m.retry = true ∧ decide ((m.f6.length : Int) ≤ 1) = true := by with_reducible exact ⟨ER.out, e3⟩); clear k_; refine gate_guard rfl ?_; refine ld (v := .slice hd.A9 m.f9.length hd.c9) rfl rfl rfl HY.out Try.underlying45 rfl rfl ?_)
        | ((with_reducible refine gate_dst (N := 48) rfl ?_); (have k_ : m.retry = true ∧ ((m.f9.length : Int) == 0) = true := by with_reducible exact ⟨ER.out, e4⟩); clear k_; refine gate_guard rfl ?_; refine ld (v := .pointer (some ⟨gm, 0, none⟩)) rfl rfl rfl HX.out Try.underlying85 rfl rfl ?_)
        | ((with_reducible refine gate_dst (N := 51) rfl ?_); (have k_ : m.retry = true ∧ ((m.f9.length : Int) == 0) = true := by with_reducible exact ⟨ER.out, e4⟩); clear k_; refine gate_guard rfl ?_; refine ld (v := .int .i64 m.f12) rfl rfl rfl HY.out Try.underlying3 rfl rfl ?_)
        | ((with_reducible refine gate_dst (N := 58) rfl ?_); (have k_ : m.retry = false := by with_reducible exact ER.out); clear k_; refine gate_guard rfl ?_; refine ld (v := .pointer (some ⟨gm, 0, none⟩)) rfl rfl rfl HX.out Try.underlying85 rfl rfl ?_)
        | ((with_reducible refine gate_dst (N := 61) rfl ?_); (have k_ : m.retry = false := by with_reducible exact ER.out); clear k_; refine gate_guard rfl ?_; refine ld (v := .slice hd.A6 m.f6.length hd.c6) rfl rfl rfl HY.out Try.underlying44 rfl rfl ?_)
        | ((with_reducible refine gate_dst (N := 66) rfl ?_); (have k_ : m.retry = false ∧ ((m.f6.length : Int) == 0) = true := by with_reducible exact ⟨ER.out, e3⟩); clear k_; refine gate_guard rfl ?_; refine ld (v := .pointer (some ⟨gm, 0, none⟩)) rfl rfl rfl HX.out Try.underlying85 rfl rfl ?_)
        | ((with_reducible refine gate_dst (N := 69) rfl ?_); (have k_ : m.retry = false ∧ ((m.f6.length : Int) == 0) = true := by with_reducible exact ⟨ER.out, e3⟩); clear k_; refine gate_guard rfl ?_; refine ld (v := .slice hd.A9 m.f9.length hd.c9) rfl rfl rfl HY.out Try.underlying45 rfl rfl ?_)
        | ((with_reducible refine gate_dst (N := 78) rfl ?_); refine ld (v := .bool true) rfl rfl rfl H78.out Try.underlying4 rfl rfl ?_))
      | (go_at_call 30; (with_reducible refine (retry_at m hd _ (HR.out.below (hb_ HB0.out HF.out HL.out)) _ ER.out).mono ?_); rintro e1 w1 ⟨rfl, b1⟩; have n_ := Aside0.mk (HW.out.below b1); have f1 := Fr.of_below (g := g) (n_lo2 HW.out) b1; clear HW; have HW := n_; clear n_; have n_ := Aside0.mk (HF.out.trans f1); clear HF; have HF := n_; clear n_; have n_ := Aside0.mk (f1.blk HX.out HXN.out (by decide)); clear HX; have HX := n_; clear n_; have n_ := Aside0.mk (f1.blk HY.out HYN.out (by decide)); clear HY; have HY := n_; clear n_; clear b1 f1)
      | (go_at_call 78; (with_reducible refine (hello_w lo g gm (cells m hd) W _ HW.out HY.out HYN.out m.f1 m.f2 rfl rfl HN.out).mono ?_); rintro e2 w2 ⟨rfl, i2, f2⟩; have HW2 := Aside0.mk i2; have n_ := Aside0.mk (HF.out.trans f2); clear HF; have HF := n_; clear n_; have n_ := Aside0.mk (f2.blk HX.out HXN.out (by decide)); clear HX; have HX := n_; clear n_; have n_ := Aside0.mk (f2.blk HY.out HYN.out (by decide)); clear HY; have HY := n_; clear n_; clear i2 f2)
      | (go_at_call 61; first
        | ((with_reducible refine (need_w lo g _ _ _ HW3.out).mono ?_); rintro e4 w4 ⟨rfl, i4, f4⟩; have HW4 := Aside0.mk i4; obtain ⟨v78, h78⟩ := WS.bad_cell i4 HBB.out; have H78 := Aside0.mk h78; have n_ := Aside0.mk (HF.out.trans f4); clear HF; have HF := n_; clear n_; have n_ := Aside0.mk (f4.blk HX.out HXN.out (by decide)); clear HX; have HX := n_; clear n_; have n_ := Aside0.mk (f4.blk HY.out HYN.out (by decide)); clear HY; have HY := n_; clear n_; clear i4 f4 h78)
        | ((with_reducible refine (need_w lo g (W.hello m.f1 m.f2) _ _ HW2.out).mono ?_); rintro e3 w3 ⟨rfl, i3, f3⟩; have HW3 := Aside0.mk i3; have n_ := Aside0.mk (HF.out.trans f3); clear HF; have HF := n_; clear n_; have n_ := Aside0.mk (f3.blk HX.out HXN.out (by decide)); clear HX; have HX := n_; clear n_; have n_ := Aside0.mk (f3.blk HY.out HYN.out (by decide)); clear HY; have HY := n_; clear n_; clear i3 f3)))
    show bodyPost Try.prog Try.f56 _ Exit.ret ⟨_, []⟩ _
    refine bodyPost_ret (results_none rfl _ _ _) rfl ?_
    exact ⟨rfl, HW4.out, HF.out⟩
theorem or_paths (r a b c d e : Bool) (h : ((r && a && b && c) || (!r && d && e)) = true) : (r = true ∧ a = true ∧ b = true ∧ c = true) ∨ (r = false ∧ d = true ∧ e = true ∧ True) := by
  revert h
  cases r <;> cases a <;> cases b <;> cases c <;> cases d <;> cases e <;> simp
theorem or3 {a b c : Bool} (h : ((a || !b) || !c) = false) : a = false ∧ b = true ∧ c = true := by
  revert h
  cases a <;> cases b <;> cases c <;> simp
def xAll (W : Wp) (L : List (Bool × Int × Wp)) : Wp × List E.S41 := L.foldl (fun p e => (xPut e.1 p.1 e.2.2, xPutL e.1 e.2.1 e.2.2 p.2)) (W, [])
def shL (m : Mv) : List (Bool × Int × Wp) := [(decide (0 < m.f5.length), 43, W0.num (rd m.f5 0) 2), (decide (0 < m.f6.length), 51, W0.num (rd m.f6 0) 2), (decide (0 < m.f9.length), 51, wS W0 (rd_T66 m.f9 0)), (m.f12 != 0, 41, W0.num (wrap64 (m.f12 - 1)) 2)]
def shT (W : Wp) (m : Mv) : Wp := ((shW W m).num (rd m.f3 0) 2).num 0 1
def shP (W : Wp) (m : Mv) : Wp := if (shW W m).b = true then shW W m else (xAll (shT W m) (shL m)).1.ends (xAll (shT W m) (shL m)).2
theorem rdT_mem {l : List S66} (h : 0 < l.length) : rd_T66 l 0 ∈ l := by
  unfold rd_T66
  show l.getD 0 z66 ∈ l
  rw [List.getD_eq_getElem?_getD, List.getElem?_eq_getElem h]
  exact List.getElem_mem h
theorem Fx.fr {lo g x : Nat} {w w' : World} (h : Fx lo g x w w') (hx : w.heap.size ≤ x) : Fr lo g w w' := ⟨h.below, fun k cs t hk hg ht => h.keep k cs t hk hg (Nat.lt_of_lt_of_le (blk_lt hk) hx) ht⟩
theorem of_dec {l : Nat} (h : decide (0 < l) = true) : 0 < l := of_decide_eq_true h
set_option maxRecDepth 100000 in
set_option maxHeartbeats 8000000 in
theorem sh_good (lo g gm : Nat) (m : Mv) (hd : Hd) (W : Wp) (w0 w : World) (h : WS lo w g W) (hlo : w0.heap.size ≤ lo) (hb0 : Below w0.heap.size w0 w) (hy : w.heap[gm]? = some (.cells (cells m hd) 49 (0, 0))) (hne : gm ≠ g) (hr : Reads w0 m hd) (hm : MB m) (hn : W.s.size ≤ 16777216) (hb : (shW W m).b = false) :
    Calls Try.prog 56 #[.pointer (some ⟨g, 0, none⟩), .pointer (some ⟨gm, 0, none⟩)] w fun ex w' => ex = .returned (.tuple #[]) ∧ WS lo w' g ((xAll (shT W m) (shL m)).1.ends (xAll (shT W m) (shL m)).2) ∧ Fr lo g w w' := by
  have hmf := mkf
  have hsz_ := Aside0.mk h.size
  have HB0 := Aside0.mk hb0
  have HW := Aside0.mk h
  have HL := Aside0.mk hlo
  have HY := Aside0.mk hy
  have HYN := Aside0.mk hne
  have HR := Aside0.mk hr
  have HMB := Aside0.mk hm
  have HN := Aside0.mk (show W.s.size + 16 + m.f1.size + m.f2.size ≤ 140737488355328 from by have := hm.b1; have := hm.b2; omega)
  have HWS := Aside0.mk hn
  obtain ⟨_, ok1, ok2⟩ := or3 hb
  have EW0 : shW W m = ((W.hello m.f1 m.f2).need true).need true := by
    unfold shW
    rw [ok1, ok2]
  have hsz := hello_size W m.f1 m.f2 hm.b1 hm.b2
  obtain ⟨W4, hW4⟩ : ∃ X, shW W m = X := ⟨_, rfl⟩
  have h4s : W4.s.size ≤ 50331648 := by
    rw [← hW4]
    show (W.hello m.f1 m.f2).s.size ≤ _
    omega
  unfold shT
  rw [hW4] at hb EW0 ⊢
  have EW := Aside0.mk EW0.symm
  have HBB := Aside0.mk hb
  unfold shOk1 at ok1
  unfold shOk2 at ok2
  rw [Bool.and_eq_true] at ok1
  obtain ⟨e1, e2⟩ := ok1
  have l3 : m.f3.length = 1 := by
    have := beq_iff_eq.mp e1
    omega
  have Q0 := Aside0.mk (show (0 : Int) < (m.f3.length : Int) from by omega)
  have q1 := eq_true Q0.out
  have q2 : (0 < m.f3.length) = True := eq_true (by omega)
  have s5 := W4.num_size (rd m.f3 0) 2 (by omega) (by omega)
  have s6 := (W4.num (rd m.f3 0) 2).num_size 0 1 (by omega) (by omega)
  have HN4 := Aside0.mk (show W4.s.size + 4 ≤ 140737488355328 from by omega)
  have HN5 := Aside0.mk (show (W4.num (rd m.f3 0) 2).s.size + 4 ≤ 140737488355328 from by omega)
  have u1 : (W0.num (rd m.f5 0) 2).s.size ≤ 140737488351232 := Nat.le_trans (W0.num_size _ 2 (by omega) (by omega)) (by rw [W0_size]; omega)
  have u2 : (W0.num (rd m.f6 0) 2).s.size ≤ 140737488351232 := Nat.le_trans (W0.num_size _ 2 (by omega) (by omega)) (by rw [W0_size]; omega)
  have u4 : (W0.num (wrap64 (m.f12 - 1)) 2).s.size ≤ 140737488351232 := Nat.le_trans (W0.num_size _ 2 (by omega) (by omega)) (by rw [W0_size]; omega)
  have x1 := XB.nil.put (decide (0 < m.f5.length)) 43 (W0.num (rd m.f5 0) 2) u1
  have x2 := x1.put (decide (0 < m.f6.length)) 51 (W0.num (rd m.f6 0) 2) u2
  have x3 : XB (xPutL (decide (0 < m.f9.length)) 51 (wS W0 (rd_T66 m.f9 0)) (xPutL (decide (0 < m.f6.length)) 51 (W0.num (rd m.f6 0) 2) (xPutL (decide (0 < m.f5.length)) 43 (W0.num (rd m.f5 0) 2) ([] : List E.S41)))) 3 := by
    by_cases c : decide (0 < m.f9.length) = true
    · exact x2.put (decide (0 < m.f9.length)) 51 (wS W0 (rd_T66 m.f9 0)) (Nat.le_trans (wS_size W0 _ (HMB.out.c9 _ (rdT_mem (of_dec c)))) (by rw [W0_size]; omega))
    · have c' : (decide (0 < m.f9.length)) = false := by simpa using c
      rw [c']
      exact ⟨Nat.le_succ_of_le x2.1, x2.2⟩
  have x4 := x3.put (m.f12 != 0) 41 (W0.num (wrap64 (m.f12 - 1)) 2) u4
  have HLE6 := Aside0.mk (show ([] : List E.S41).length ≤ 1000000000 from by decide)
  have HLE7 := Aside0.mk (show (xPutL (decide (0 < m.f5.length)) 43 (W0.num (rd m.f5 0) 2) ([] : List E.S41)).length ≤ 1000000000 from Nat.le_trans x1.1 (by omega))
  have HLE8 := Aside0.mk (show (xPutL (decide (0 < m.f6.length)) 51 (W0.num (rd m.f6 0) 2) (xPutL (decide (0 < m.f5.length)) 43 (W0.num (rd m.f5 0) 2) ([] : List E.S41))).length ≤ 1000000000 from Nat.le_trans x2.1 (by omega))
  have HLE9 := Aside0.mk (show (xPutL (decide (0 < m.f9.length)) 51 (wS W0 (rd_T66 m.f9 0)) (xPutL (decide (0 < m.f6.length)) 51 (W0.num (rd m.f6 0) 2) (xPutL (decide (0 < m.f5.length)) 43 (W0.num (rd m.f5 0) 2) ([] : List E.S41)))).length ≤ 1000000000 from Nat.le_trans x3.1 (by omega))
  have HEL := Aside0.mk (show (xPutL (m.f12 != 0) 41 (W0.num (wrap64 (m.f12 - 1)) 2) (xPutL (decide (0 < m.f9.length)) 51 (wS W0 (rd_T66 m.f9 0)) (xPutL (decide (0 < m.f6.length)) 51 (W0.num (rd m.f6 0) 2) (xPutL (decide (0 < m.f5.length)) 43 (W0.num (rd m.f5 0) 2) ([] : List E.S41))))).length ≤ 16777216 from Nat.le_trans x4.1 (by omega))
  have HEB := Aside0.mk (show ∀ y ∈ (xPutL (m.f12 != 0) 41 (W0.num (wrap64 (m.f12 - 1)) 2) (xPutL (decide (0 < m.f9.length)) 51 (wS W0 (rd_T66 m.f9 0)) (xPutL (decide (0 < m.f6.length)) 51 (W0.num (rd m.f6 0) 2) (xPutL (decide (0 < m.f5.length)) 43 (W0.num (rd m.f5 0) 2) ([] : List E.S41))))), y.f1.size ≤ 140737488351232 from fun y hy => Nat.le_trans (x4.2 y hy) (by omega))
  have zL := putL_size (xPutL (m.f12 != 0) 41 (W0.num (wrap64 (m.f12 - 1)) 2) (xPutL (decide (0 < m.f9.length)) 51 (wS W0 (rd_T66 m.f9 0)) (xPutL (decide (0 < m.f6.length)) 51 (W0.num (rd m.f6 0) 2) (xPutL (decide (0 < m.f5.length)) 43 (W0.num (rd m.f5 0) 2) ([] : List E.S41)))))
  have HEN := Aside0.mk (show (xPut (m.f12 != 0) (xPut (decide (0 < m.f9.length)) (xPut (decide (0 < m.f6.length)) (xPut (decide (0 < m.f5.length)) (((W4.num (rd m.f3 0) 2).num 0 1)) (W0.num (rd m.f5 0) 2)) (W0.num (rd m.f6 0) 2)) (wS W0 (rd_T66 m.f9 0))) (W0.num (wrap64 (m.f12 - 1)) 2)).s.size + 3 + (Go.Proofs.Ytlkebjkpmiehcaa.Pure.putL [] (xPutL (m.f12 != 0) 41 (W0.num (wrap64 (m.f12 - 1)) 2) (xPutL (decide (0 < m.f9.length)) 51 (wS W0 (rd_T66 m.f9 0)) (xPutL (decide (0 < m.f6.length)) 51 (W0.num (rd m.f6 0) 2) (xPutL (decide (0 < m.f5.length)) 43 (W0.num (rd m.f5 0) 2) ([] : List E.S41)))))).1.size ≤ 140737488355328 from by
    have := x4.1
    simp only [xPut_s]
    omega)
  rcases or_paths _ _ _ _ _ _ ok2 with ⟨er, e3, e4, e5⟩ | ⟨er, e3, e4, e5⟩
  all_goals
    have ER := Aside0.mk er
    clear h hlo hy hne hr hm hb hb0 hn er ok2 hsz h4s hW4 EW0 s5 s6 u1 u2 u4 x1 x2 x3 x4 zL l3
    go_enter Try.func56, Try.ntmps56
    go_wp2_with (first
      | ((with_reducible refine gate_dst (N := 3) rfl ?_); refine boxT (v := .pointer (some ⟨gm, 0, none⟩)) (cs := #[.pointer (some ⟨gm, 0, none⟩)]) rfl rfl rfl rfl ?_; intro gb eb w1 h1 b1; have HX := Aside0.mk h1; have HXN := Aside0.mk (show gb ≠ g from by have := HW.out.lt; omega); have n_ := Aside0.mk ((b1.block gm (blk_lt HY.out)).trans HY.out); clear HY; have HY := n_; clear n_; have n_ := Aside0.mk (HW.out.below b1); clear HW; have HW := n_; clear n_; have HF := Aside0.mk (Fr.of_below (g := g) (n_lo HW.out b1 hsz_.out) b1); clear h1 b1 eb)
      | ((with_reducible refine gate_load rfl ?_); first
        | ((with_reducible refine gate_dst (N := 6) rfl ?_); refine ld (v := .pointer (some ⟨gm, 0, none⟩)) rfl rfl rfl HX.out Try.underlying85 rfl rfl ?_)
        | ((with_reducible refine gate_dst (N := 8) rfl ?_); refine wpList_load_row rfl 49 _ rfl gm rfl 49 _ (0, 0) _ HY.out Try.underlying49 rfl sz49 ?_)
        | ((with_reducible refine gate_dst (N := 11) rfl ?_); refine ld (v := .pointer (some ⟨gm, 0, none⟩)) rfl rfl rfl HX.out Try.underlying85 rfl rfl ?_)
        | ((with_reducible refine gate_dst (N := 14) rfl ?_); refine ld (v := .pointer (some ⟨gm, 0, none⟩)) rfl rfl rfl HX.out Try.underlying85 rfl rfl ?_)
        | ((with_reducible refine gate_dst (N := 17) rfl ?_); refine ld (v := .slice hd.A3 m.f3.length hd.c3) rfl rfl rfl HY.out Try.underlying44 rfl rfl ?_)
        | ((with_reducible refine gate_dst (N := 21) rfl ?_); (have k_ : ((m.f3.length : Int) == 1) = true := by with_reducible exact e1); clear k_; refine gate_guard rfl ?_; refine ld (v := .pointer (some ⟨gm, 0, none⟩)) rfl rfl rfl HX.out Try.underlying85 rfl rfl ?_)
        | ((with_reducible refine gate_dst (N := 24) rfl ?_); (have k_ : ((m.f3.length : Int) == 1) = true := by with_reducible exact e1); clear k_; refine gate_guard rfl ?_; refine ld (v := .slice hd.A5 m.f5.length hd.c5) rfl rfl rfl HY.out Try.underlying44 rfl rfl ?_)
        | ((with_reducible refine gate_dst (N := 32) rfl ?_); (have k_ : m.retry = true := by with_reducible exact ER.out); clear k_; refine gate_guard rfl ?_; refine ld (v := .pointer (some ⟨gm, 0, none⟩)) rfl rfl rfl HX.out Try.underlying85 rfl rfl ?_)
        | ((with_reducible refine gate_dst (N := 35) rfl ?_); (have k_ : m.retry = true := by with_reducible exact ER.out); clear k_; refine gate_guard rfl ?_; refine ld (v := .slice hd.A6 m.f6.length hd.c6) rfl rfl rfl HY.out Try.underlying44 rfl rfl ?_)
        | ((with_reducible refine gate_dst (N := 40) rfl ?_); (have k_ : m.retry = true ∧ decide ((m.f6.length : Int) ≤ 1) = true := by with_reducible exact ⟨ER.out, e3⟩); clear k_; refine gate_guard rfl ?_; refine ld (v := .pointer (some ⟨gm, 0, none⟩)) rfl rfl rfl HX.out Try.underlying85 rfl rfl ?_)
        | ((with_reducible refine gate_dst (N := 43) rfl ?_); (have k_ : m.retry = true ∧ decide ((m.f6.length : Int) ≤ 1) = true := by with_reducible exact ⟨ER.out, e3⟩); clear k_; refine gate_guard rfl ?_; refine ld (v := .slice hd.A9 m.f9.length hd.c9) rfl rfl rfl HY.out Try.underlying45 rfl rfl ?_)
        | ((with_reducible refine gate_dst (N := 48) rfl ?_); (have k_ : m.retry = true ∧ ((m.f9.length : Int) == 0) = true := by with_reducible exact ⟨ER.out, e4⟩); clear k_; refine gate_guard rfl ?_; refine ld (v := .pointer (some ⟨gm, 0, none⟩)) rfl rfl rfl HX.out Try.underlying85 rfl rfl ?_)
        | ((with_reducible refine gate_dst (N := 51) rfl ?_); (have k_ : m.retry = true ∧ ((m.f9.length : Int) == 0) = true := by with_reducible exact ⟨ER.out, e4⟩); clear k_; refine gate_guard rfl ?_; refine ld (v := .int .i64 m.f12) rfl rfl rfl HY.out Try.underlying3 rfl rfl ?_)
        | ((with_reducible refine gate_dst (N := 58) rfl ?_); (have k_ : m.retry = false := by with_reducible exact ER.out); clear k_; refine gate_guard rfl ?_; refine ld (v := .pointer (some ⟨gm, 0, none⟩)) rfl rfl rfl HX.out Try.underlying85 rfl rfl ?_)
        | ((with_reducible refine gate_dst (N := 61) rfl ?_); (have k_ : m.retry = false := by with_reducible exact ER.out); clear k_; refine gate_guard rfl ?_; refine ld (v := .slice hd.A6 m.f6.length hd.c6) rfl rfl rfl HY.out Try.underlying44 rfl rfl ?_)
        | ((with_reducible refine gate_dst (N := 66) rfl ?_); (have k_ : m.retry = false ∧ ((m.f6.length : Int) == 0) = true := by with_reducible exact ⟨ER.out, e3⟩); clear k_; refine gate_guard rfl ?_; refine ld (v := .pointer (some ⟨gm, 0, none⟩)) rfl rfl rfl HX.out Try.underlying85 rfl rfl ?_)
        | ((with_reducible refine gate_dst (N := 69) rfl ?_); (have k_ : m.retry = false ∧ ((m.f6.length : Int) == 0) = true := by with_reducible exact ⟨ER.out, e3⟩); clear k_; refine gate_guard rfl ?_; refine ld (v := .slice hd.A9 m.f9.length hd.c9) rfl rfl rfl HY.out Try.underlying45 rfl rfl ?_)
        | ((with_reducible refine gate_dst (N := 78) rfl ?_); refine ld (v := .bool false) rfl rfl rfl H78.out Try.underlying4 rfl rfl ?_)
        | ((with_reducible refine gate_dst (N := 80) rfl ?_); refine ld (v := .pointer (some ⟨gm, 0, none⟩)) rfl rfl rfl HX.out Try.underlying85 rfl rfl ?_)
        | ((with_reducible refine gate_dst (N := 83) rfl ?_); obtain ⟨ad, e0, hx0⟩ := Kd.at_int (Kd.C_below HR.out.r3 (hb_ HB0.out HF.out HL.out)) 0 (by omega) Q0.out; (have e3_ : ad.add (Int.toNat 0) = ad := by simp [Addr.add]); (rw [e3_] at hx0; clear e3_; refine ld (v := .slice (some ad) m.f3.length hd.c3) rfl rfl rfl HY.out Try.underlying44 rfl (by rw [← e0]; rfl) ?_; have HAD := Aside0.mk hx0; clear hx0 e0))
        | ((with_reducible refine gate_dst (N := 85) rfl ?_); refine ldQ (v := .int .i64 (rd m.f3 0)) rfl rfl rfl Try.underlying3 rfl HAD.out ?_)
        | ((with_reducible refine gate_dst (N := 93) rfl ?_); refine ld (v := .pointer (some ⟨gm, 0, none⟩)) rfl rfl rfl HX.out Try.underlying85 rfl rfl ?_)
        | ((with_reducible refine gate_dst (N := 96) rfl ?_); refine ld (v := .slice hd.A5 m.f5.length hd.c5) rfl rfl rfl HY.out Try.underlying44 rfl rfl ?_)
        | ((with_reducible refine gate_dst (N := 102) rfl ?_); refine ld (v := .pointer (some ⟨gm, 0, none⟩)) rfl rfl rfl HX.out Try.underlying85 rfl rfl ?_)
        | ((with_reducible refine gate_dst (N := 105) rfl ?_); refine ld (v := .slice hd.A6 m.f6.length hd.c6) rfl rfl rfl HY.out Try.underlying44 rfl rfl ?_)
        | ((with_reducible refine gate_dst (N := 111) rfl ?_); refine ld (v := .pointer (some ⟨gm, 0, none⟩)) rfl rfl rfl HX.out Try.underlying85 rfl rfl ?_)
        | ((with_reducible refine gate_dst (N := 114) rfl ?_); refine ld (v := .slice hd.A9 m.f9.length hd.c9) rfl rfl rfl HY.out Try.underlying45 rfl rfl ?_)
        | ((with_reducible refine gate_dst (N := 120) rfl ?_); refine ld (v := .pointer (some ⟨gm, 0, none⟩)) rfl rfl rfl HX.out Try.underlying85 rfl rfl ?_)
        | ((with_reducible refine gate_dst (N := 123) rfl ?_); refine ld (v := .int .i64 m.f12) rfl rfl rfl HY.out Try.underlying3 rfl rfl ?_))
      | (go_at_call 30; (with_reducible refine (retry_at m hd _ (HR.out.below (hb_ HB0.out HF.out HL.out)) _ ER.out).mono ?_); rintro e1 w1 ⟨rfl, b1⟩; have n_ := Aside0.mk (HW.out.below b1); have f1 := Fr.of_below (g := g) (n_lo2 HW.out) b1; clear HW; have HW := n_; clear n_; have n_ := Aside0.mk (HF.out.trans f1); clear HF; have HF := n_; clear n_; have n_ := Aside0.mk (f1.blk HX.out HXN.out (by decide)); clear HX; have HX := n_; clear n_; have n_ := Aside0.mk (f1.blk HY.out HYN.out (by decide)); clear HY; have HY := n_; clear n_; clear b1 f1)
      | (go_at_call 78; (with_reducible refine (hello_w lo g gm (cells m hd) W _ HW.out HY.out HYN.out m.f1 m.f2 rfl rfl HN.out).mono ?_); rintro e2 w2 ⟨rfl, i2, f2⟩; have HW2 := Aside0.mk i2; have n_ := Aside0.mk (HF.out.trans f2); clear HF; have HF := n_; clear n_; have n_ := Aside0.mk (f2.blk HX.out HXN.out (by decide)); clear HX; have HX := n_; clear n_; have n_ := Aside0.mk (f2.blk HY.out HYN.out (by decide)); clear HY; have HY := n_; clear n_; clear i2 f2)
      | (go_at_call 61; first
        | ((with_reducible refine (need_w lo g _ _ _ HW3.out).mono ?_); rintro e4 w4 ⟨rfl, i4, f4⟩; have HW4 := Aside0.mk (show WS lo w4 g W4 from by rw [← EW.out]; exact i4); obtain ⟨v78, h78⟩ := WS.bad_cell HW4.out HBB.out; have H78 := Aside0.mk h78; have n_ := Aside0.mk (HF.out.trans f4); clear HF; have HF := n_; clear n_; have n_ := Aside0.mk (f4.blk HX.out HXN.out (by decide)); clear HX; have HX := n_; clear n_; have n_ := Aside0.mk (f4.blk HY.out HYN.out (by decide)); clear HY; have HY := n_; clear n_; clear i4 f4 h78)
        | ((with_reducible refine (need_w lo g (W.hello m.f1 m.f2) _ _ HW2.out).mono ?_); rintro e3 w3 ⟨rfl, i3, f3⟩; have HW3 := Aside0.mk i3; have n_ := Aside0.mk (HF.out.trans f3); clear HF; have HF := n_; clear n_; have n_ := Aside0.mk (f3.blk HX.out HXN.out (by decide)); clear HX; have HX := n_; clear n_; have n_ := Aside0.mk (f3.blk HY.out HYN.out (by decide)); clear HY; have HY := n_; clear n_; clear i3 f3))
      | (go_at_call 60; first
        | ((with_reducible refine (num_w lo g (W4.num (rd m.f3 0) 2) 0 1 _ HW5.out (by omega) (by omega) HN5.out).mono ?_); rintro e6 w6 ⟨rfl, i6, f6⟩; have HW6 := Aside0.mk i6; have n_ := Aside0.mk (HF.out.trans f6); clear HF; have HF := n_; clear n_; have n_ := Aside0.mk (f6.blk HX.out HXN.out (by decide)); clear HX; have HX := n_; clear n_; have n_ := Aside0.mk (f6.blk HY.out HYN.out (by decide)); clear HY; have HY := n_; clear n_; clear i6 f6)
        | ((with_reducible refine (num_w lo g W4 (rd m.f3 0) 2 _ HW4.out (by omega) (by omega) HN4.out).mono ?_); rintro e5 w5 ⟨rfl, i5, f5⟩; have HW5 := Aside0.mk i5; have n_ := Aside0.mk (HF.out.trans f5); clear HF; have HF := n_; clear n_; have n_ := Aside0.mk (f5.blk HX.out HXN.out (by decide)); clear HX; have HX := n_; clear n_; have n_ := Aside0.mk (f5.blk HY.out HYN.out (by decide)); clear HY; have HY := n_; clear n_; clear i5 f5))
      | ((with_reducible refine gate_dst (N := 90) rfl ?_); refine build115 rfl rfl rfl ?_)
      | ((with_reducible refine gate_dst (N := 91) rfl ?_); refine boxT (v := .agg #[.pointer (some ⟨g, 0, none⟩), .slice none 0 0]) (cs := #[.pointer (some ⟨g, 0, none⟩), .slice none 0 0]) rfl rfl rfl rfl ?_; intro x ex w7 h7 b7; have HXS := Aside0.mk (XS.start h7); have HLX := Aside0.mk (show lo ≤ x from by have := HW6.out.size; omega); have HXX := Aside0.mk (show gb < x from by have := blk_lt HX.out; omega); have HYX := Aside0.mk (show gm < x from by have := blk_lt HY.out; omega); have HWX := Aside0.mk (show w.heap.size ≤ x from by have := HF.out.below.size; have := hsz_.out; first | omega | (rw [ex]; exact this)); have n_ := Aside0.mk (HW6.out.below b7); have f7 := Fr.of_below (g := g) HW6.out.size b7; clear HW6; have HW6 := n_; clear n_; have n_ := Aside0.mk (HF.out.trans f7); clear HF; have HF := n_; clear n_; have n_ := Aside0.mk (f7.blk HX.out HXN.out (by decide)); clear HX; have HX := n_; clear n_; have n_ := Aside0.mk (f7.blk HY.out HYN.out (by decide)); clear HY; have HY := n_; clear n_; have HG := Aside0.mk (Fx.of_fr (x := x) HF.out); clear h7 b7 f7 ex)
      | ((with_reducible refine gate_callee (f := 80) rfl ?_); refine goesL_ (some 100) rfl rfl Try.func80 (by kernel_rfl) rfl #[.pointer (some ⟨x, 0, none⟩), .bool (decide (0 < m.f5.length)), .int .i64 43, .func (.func 88) #[] #[.pointer (some ⟨gb, 0, none⟩)]] rfl (by (try simp only [List.map_toArray, List.map_cons, List.map_nil]); first | done | rfl) ?_; (refine (xput_w lo x g 88 _ (((W4.num (rd m.f3 0) 2).num 0 1)) (W0.num (rd m.f5 0) 2) ([] : List E.S41) (decide (0 < m.f5.length)) 43 _ HW6.out HLX.out HXS.out (fun hi => sv1_w gb gm (cells m hd) hd.A5 hd.c5 m.f5 _ HX.out HY.out rfl (Kd.C_below HR.out.r5 (HB0.out.trans (HG.out.below.mono HL.out))) (of_dec hi)) enters88 HLE6.out).mono ?_); rintro e_ w_ ⟨rfl, iw, ix, f_⟩; refine ⟨_, rfl, ?_⟩; have HW7 := Aside0.mk iw; clear HXS; have HXS := Aside0.mk ix; have n_ := Aside0.mk (HG.out.trans f_); clear HG; have HG := n_; clear n_; have n_ := Aside0.mk (f_.keep _ _ _ HX.out HXN.out HXX.out (by decide)); clear HX; have HX := n_; clear n_; have n_ := Aside0.mk (f_.keep _ _ _ HY.out HYN.out HYX.out (by decide)); clear HY; have HY := n_; clear n_; clear iw ix f_)
      | ((with_reducible refine gate_callee (f := 80) rfl ?_); refine goesL_ (some 109) rfl rfl Try.func80 (by kernel_rfl) rfl #[.pointer (some ⟨x, 0, none⟩), .bool (decide (0 < m.f6.length)), .int .i64 51, .func (.func 89) #[] #[.pointer (some ⟨gb, 0, none⟩)]] rfl (by (try simp only [List.map_toArray, List.map_cons, List.map_nil]); first | done | rfl) ?_; (refine (xput_w lo x g 89 _ (xPut (decide (0 < m.f5.length)) (((W4.num (rd m.f3 0) 2).num 0 1)) (W0.num (rd m.f5 0) 2)) (W0.num (rd m.f6 0) 2) (xPutL (decide (0 < m.f5.length)) 43 (W0.num (rd m.f5 0) 2) ([] : List E.S41)) (decide (0 < m.f6.length)) 51 _ HW7.out HLX.out HXS.out (fun hi => sv2_w gb gm (cells m hd) hd.A6 hd.c6 m.f6 _ HX.out HY.out rfl (Kd.C_below HR.out.r6 (HB0.out.trans (HG.out.below.mono HL.out))) (of_dec hi)) enters89 HLE7.out).mono ?_); rintro e_ w_ ⟨rfl, iw, ix, f_⟩; refine ⟨_, rfl, ?_⟩; have HW8 := Aside0.mk iw; clear HXS; have HXS := Aside0.mk ix; have n_ := Aside0.mk (HG.out.trans f_); clear HG; have HG := n_; clear n_; have n_ := Aside0.mk (f_.keep _ _ _ HX.out HXN.out HXX.out (by decide)); clear HX; have HX := n_; clear n_; have n_ := Aside0.mk (f_.keep _ _ _ HY.out HYN.out HYX.out (by decide)); clear HY; have HY := n_; clear n_; clear iw ix f_)
      | ((with_reducible refine gate_callee (f := 80) rfl ?_); refine goesL_ (some 118) rfl rfl Try.func80 (by kernel_rfl) rfl #[.pointer (some ⟨x, 0, none⟩), .bool (decide (0 < m.f9.length)), .int .i64 51, .func (.func 90) #[] #[.pointer (some ⟨gb, 0, none⟩)]] rfl (by (try simp only [List.map_toArray, List.map_cons, List.map_nil]); first | done | rfl) ?_; (refine (xput_w lo x g 90 _ (xPut (decide (0 < m.f6.length)) (xPut (decide (0 < m.f5.length)) (((W4.num (rd m.f3 0) 2).num 0 1)) (W0.num (rd m.f5 0) 2)) (W0.num (rd m.f6 0) 2)) (wS W0 (rd_T66 m.f9 0)) (xPutL (decide (0 < m.f6.length)) 51 (W0.num (rd m.f6 0) 2) (xPutL (decide (0 < m.f5.length)) 43 (W0.num (rd m.f5 0) 2) ([] : List E.S41))) (decide (0 < m.f9.length)) 51 _ HW8.out HLX.out HXS.out (fun hi => sv3_w gb gm (cells m hd) hd.A9 hd.c9 m.f9 _ HX.out HY.out rfl (Kd.C_below HR.out.r9 (HB0.out.trans (HG.out.below.mono HL.out))) (of_dec hi) (HMB.out.c9 _ (rdT_mem (of_dec hi)))) enters90 HLE8.out).mono ?_); rintro e_ w_ ⟨rfl, iw, ix, f_⟩; refine ⟨_, rfl, ?_⟩; have HW9 := Aside0.mk iw; clear HXS; have HXS := Aside0.mk ix; have n_ := Aside0.mk (HG.out.trans f_); clear HG; have HG := n_; clear n_; have n_ := Aside0.mk (f_.keep _ _ _ HX.out HXN.out HXX.out (by decide)); clear HX; have HX := n_; clear n_; have n_ := Aside0.mk (f_.keep _ _ _ HY.out HYN.out HYX.out (by decide)); clear HY; have HY := n_; clear n_; clear iw ix f_)
      | ((with_reducible refine gate_callee (f := 80) rfl ?_); refine goesL_ (some 126) rfl rfl Try.func80 (by kernel_rfl) rfl #[.pointer (some ⟨x, 0, none⟩), .bool (m.f12 != 0), .int .i64 41, .func (.func 91) #[] #[.pointer (some ⟨gb, 0, none⟩)]] rfl (by (try simp only [List.map_toArray, List.map_cons, List.map_nil]); first | done | rfl) ?_; (refine (xput_w lo x g 91 _ (xPut (decide (0 < m.f9.length)) (xPut (decide (0 < m.f6.length)) (xPut (decide (0 < m.f5.length)) (((W4.num (rd m.f3 0) 2).num 0 1)) (W0.num (rd m.f5 0) 2)) (W0.num (rd m.f6 0) 2)) (wS W0 (rd_T66 m.f9 0))) (W0.num (wrap64 (m.f12 - 1)) 2) (xPutL (decide (0 < m.f9.length)) 51 (wS W0 (rd_T66 m.f9 0)) (xPutL (decide (0 < m.f6.length)) 51 (W0.num (rd m.f6 0) 2) (xPutL (decide (0 < m.f5.length)) 43 (W0.num (rd m.f5 0) 2) ([] : List E.S41)))) (m.f12 != 0) 41 _ HW9.out HLX.out HXS.out (fun hi => sv4_w gb gm (cells m hd) m.f12 _ HX.out HY.out rfl) enters91 HLE9.out).mono ?_); rintro e_ w_ ⟨rfl, iw, ix, f_⟩; refine ⟨_, rfl, ?_⟩; have HW10 := Aside0.mk iw; clear HXS; have HXS := Aside0.mk ix; have n_ := Aside0.mk (HG.out.trans f_); clear HG; have HG := n_; clear n_; have n_ := Aside0.mk (f_.keep _ _ _ HX.out HXN.out HXX.out (by decide)); clear HX; have HX := n_; clear n_; have n_ := Aside0.mk (f_.keep _ _ _ HY.out HYN.out HYX.out (by decide)); clear HY; have HY := n_; clear n_; clear iw ix f_)
      | (go_at_call 87; (with_reducible refine (xend_w lo x g (xPut (m.f12 != 0) (xPut (decide (0 < m.f9.length)) (xPut (decide (0 < m.f6.length)) (xPut (decide (0 < m.f5.length)) (((W4.num (rd m.f3 0) 2).num 0 1)) (W0.num (rd m.f5 0) 2)) (W0.num (rd m.f6 0) 2)) (wS W0 (rd_T66 m.f9 0))) (W0.num (wrap64 (m.f12 - 1)) 2)) (xPutL (m.f12 != 0) 41 (W0.num (wrap64 (m.f12 - 1)) 2) (xPutL (decide (0 < m.f9.length)) 51 (wS W0 (rd_T66 m.f9 0)) (xPutL (decide (0 < m.f6.length)) 51 (W0.num (rd m.f6 0) 2) (xPutL (decide (0 < m.f5.length)) 43 (W0.num (rd m.f5 0) 2) ([] : List E.S41))))) _ HW10.out HXS.out HEL.out HEB.out HEN.out).mono ?_); rintro e_ w_ ⟨rfl, iw, f_⟩; have HWz := Aside0.mk iw; have HFz := Aside0.mk (HG.out.trans (Fx.of_fr f_)); clear iw f_))
    first | go_end0 | ((try simp only [Exit.inBlock, Exit.then]); refine bodyPost_ret (results_none rfl _ _ _) rfl ?_)
    exact ⟨rfl, HWz.out, HFz.out.fr HWX.out⟩
theorem sh_w (lo g gm : Nat) (m : Mv) (hd : Hd) (W : Wp) (w0 w : World) (h : WS lo w g W) (hlo : w0.heap.size ≤ lo) (hb0 : Below w0.heap.size w0 w) (hy : w.heap[gm]? = some (.cells (cells m hd) 49 (0, 0))) (hne : gm ≠ g) (hr : Reads w0 m hd) (hm : MB m) (hn : W.s.size ≤ 16777216) :
    Calls Try.prog 56 #[.pointer (some ⟨g, 0, none⟩), .pointer (some ⟨gm, 0, none⟩)] w fun ex w' => ex = .returned (.tuple #[]) ∧ WS lo w' g (shP W m) ∧ Fr lo g w w' := by
  unfold shP
  by_cases c : (shW W m).b = true
  · rw [if_pos c]
    exact sh_bad lo g gm m hd W w0 w h hlo hb0 hy hne hr hm hn c
  · rw [if_neg c]
    exact sh_good lo g gm m hd W w0 w h hlo hb0 hy hne hr hm hn (by simpa using c)
end Go.Proofs.Ytlkebjkpmiehcaa.Ms
end
section
namespace Go.Proofs.Ytlkebjkpmiehcaa.Ms
open Go.RowKit Go.Proofs.YtlkebjkpmiehcaaW.PrintWords Go.Proofs.YtlkebjkpmiehcaaW.PrintLast Go.Proofs.YtlkebjkpmiehcaaW.PrintMore Go.Proofs.Ytlkebjkpmiehcaa.X
set_option linter.unusedVariables false
set_option linter.unusedSimpArgs false
def chOk (m : Mv) : Bool := decide (0 < m.f3.length) && ((m.f11.length : Int) == (m.f10.length : Int))
def chL (m : Mv) : List (Bool × Int × Wp) := [(!m.f4.toList.isEmpty, 0, W0.within ((W0.num 0 1).vec m.f4 2 1 64) 2), (decide (0 < m.f6.length), 10, W0.within (fw (wN 2) m.f6) 2), (decide (0 < m.f7.length), 13, W0.within (fw (wN 2) m.f7) 2), (decide (0 < m.f5.length), 43, W0.within (fw (wN 2) m.f5) 1), (decide (0 < m.f8.length), 45, W0.within (fw (wN 1) m.f8) 1), (decide (0 < m.f9.length), 51, W0.within (fw wS m.f9) 2), (decide (0 < m.f10.length), 41, (W0.within (fw wI m.f10) 2).within (fw wB m.f11) 2)]
def chT (W : Wp) (m : Mv) : Wp := (((W.hello m.f1 m.f2).need (chOk m)).within (fw (wN 2) m.f3) 2).vec ⟨#[0]⟩ 1 1 1
def chP (W : Wp) (m : Mv) : Wp := (xAll (chT W m) (chL m)).1.ends (xAll (chT W m) (chL m)).2
end Go.Proofs.Ytlkebjkpmiehcaa.Ms
end
section
namespace Go.Proofs.Ytlkebjkpmiehcaa.Ms
open Go.RowKit Go.Proofs.YtlkebjkpmiehcaaW.PrintWords Go.Proofs.YtlkebjkpmiehcaaW.PrintLast Go.Proofs.YtlkebjkpmiehcaaW.PrintMore Go.Proofs.Ytlkebjkpmiehcaa.X
set_option linter.unusedVariables false
set_option linter.unusedSimpArgs false
set_option maxRecDepth 100000 in
set_option maxHeartbeats 8000000 in
theorem bod2 (m : Mv) (hd : Hd) (w0 w : World) (lo g gm : Nat) (h : At w0 w lo g gm (cells m hd)) (hr : Reads w0 m hd) (hm : MB m) (hk : m.f0 = 2) :
    Calls Try.prog 44 #[.pointer (some ⟨g, 0, none⟩), .pointer (some ⟨gm, 0, none⟩)] w fun ex w' => ex = .returned (.tuple #[]) ∧ WS lo w' g (shP W0 m) ∧ Fr lo g w w' := by
  have HW := Aside0.mk (show WS lo w g W0 from h.wt)
  have hsz_ := Aside0.mk h.wt.size
  have HL := Aside0.mk h.le
  have HB0 := Aside0.mk h.below
  have HY := Aside0.mk h.box
  have HYN := Aside0.mk (show gm ≠ g from by have := h.wt.lt; have := h.lt; omega)
  have HR := Aside0.mk hr
  have HMB := Aside0.mk hm
  have KK := Aside0.mk hk
  have hz0 := W0_size
  have HNW := Aside0.mk (show W0.s.size ≤ 16777216 from by omega)
  clear h hr hm hk hz0
  go_enter Try.func44, Try.ntmps44
  go_wp2_with (first
    | ((with_reducible refine gate_dst (N := 3) rfl ?_); refine boxT (v := .pointer (some ⟨gm, 0, none⟩)) (cs := #[.pointer (some ⟨gm, 0, none⟩)]) rfl rfl rfl rfl ?_; intro gb eb w1 h1 b1; have HX := Aside0.mk h1; have HXN := Aside0.mk (show gb ≠ g from by have := HW.out.lt; omega); have n_ := Aside0.mk ((b1.block gm (blk_lt HY.out)).trans HY.out); clear HY; have HY := n_; clear n_; have n_ := Aside0.mk (HW.out.below b1); clear HW; have HW := n_; clear n_; have HF := Aside0.mk (Fr.of_below (g := g) (n_lo HW.out b1 hsz_.out) b1); clear h1 b1 eb)
    | ((with_reducible refine gate_load rfl ?_); first
      | ((with_reducible refine gate_dst (N := 4) rfl ?_); refine ld (v := .pointer (some ⟨gm, 0, none⟩)) rfl rfl rfl HX.out Try.underlying85 rfl rfl ?_)
      | ((with_reducible refine gate_dst (N := 7) rfl ?_); refine ld (v := .int .i64 2) rfl rfl rfl HY.out Try.underlying3 rfl (by rw [← KK.out]; rfl) ?_)
      | ((with_reducible refine gate_dst (N := 37) rfl ?_); refine ld (v := .pointer (some ⟨gm, 0, none⟩)) rfl rfl rfl HX.out Try.underlying85 rfl rfl ?_))
    | (go_at_call 56; (with_reducible refine (sh_w lo g gm m hd W0 w0 _ HW.out HL.out (hb_ HB0.out HF.out HL.out) HY.out HYN.out HR.out HMB.out HNW.out).mono ?_); rintro e2 w2 ⟨rfl, i2, f2⟩; have HW2 := Aside0.mk i2; have n_ := Aside0.mk (HF.out.trans f2); clear HF; have HF := n_; clear n_; have n_ := Aside0.mk (f2.blk HX.out HXN.out (by decide)); clear HX; have HX := n_; clear n_; have n_ := Aside0.mk (f2.blk HY.out HYN.out (by decide)); clear HY; have HY := n_; clear n_; clear i2 f2))
  first | go_end0 | ((try simp only [Exit.inBlock, Exit.then]); refine bodyPost_ret (results_none rfl _ _ _) rfl ?_)
  exact ⟨rfl, HW2.out, HF.out⟩
end Go.Proofs.Ytlkebjkpmiehcaa.Ms
end
section
namespace Go.Proofs.Ytlkebjkpmiehcaa.Ms
open Go.RowKit Go.Proofs.YtlkebjkpmiehcaaW.PrintWords Go.Proofs.YtlkebjkpmiehcaaW.PrintLast Go.Proofs.YtlkebjkpmiehcaaW.PrintMore Go.Proofs.Ytlkebjkpmiehcaa.X
set_option linter.unusedVariables false
def bodyW (m : Mv) : Wp :=
  if m.f0 = 1 then chP W0 m
  else if m.f0 = 2 then shP W0 m
  else if m.f0 = 8 then W0.vec ⟨#[]⟩ 2 0 0
  else if m.f0 = 11 then (W0.vec ⟨#[]⟩ 1 0 0).within ⟨(certW m.f14).1, (certW m.f14).2⟩ 3
  else if m.f0 = 15 then (W0.num m.f15 2).vec m.f16 2 0 65536
  else if m.f0 = 20 then (W0.need (fin32 (m.f16.size : Int))).add m.f16
  else if m.f0 = 4 then ((((W0.num m.f17 4).num m.f18 4).vec m.f19 1 0 255).vec m.f16 2 1 65536).vec ⟨#[]⟩ 2 0 0
  else (W0.need (m.f20 == 1 || m.f20 == 2)).num (wrap64 (m.f20 - 1)) 1
def putM (m : Mv) : ByteArray × Int :=
  if knownB m.f0 = false then (⟨#[]⟩, 1701)
  else if (bodyW m).b = true ∨ m.unused.zero = false ∨ 65532 < (bodyW m).s.size then (⟨#[]⟩, 1700)
  else (framed m.f0 (bodyW m).s, 0)
theorem put_of (m : Mv) (hd : Hd) (w : World) (hr : Reads w m hd) (hk : knownB m.f0 = true) (ht : m.unused.texts ≤ 9223372036854775807) (hl : m.unused.lists ≤ 9223372036854775807) (hy : Bodies m hd w (bodyW m).s (bodyW m).b) :
    Calls Try.prog 23 #[.agg (cells m hd)] w fun ex w' => ex = .returned (.tuple #[.string (putM m).1, .int .i64 (putM m).2]) ∧ Below w.heap.size w w' := by
  have hkf : msg_known.f m.f0 = some true := by rw [known_f, hk]
  unfold putM
  rw [if_neg (by rw [hk]; decide)]
  by_cases c : (bodyW m).b = true ∨ m.unused.zero = false ∨ 65532 < (bodyW m).s.size
  · rw [if_pos c]
    by_cases c1 : (bodyW m).b = true
    · rw [c1] at hy
      exact put_bad m hd _ w hkf hr ht hl hy
    · have c1' : (bodyW m).b = false := by simpa using c1
      rw [c1'] at hy
      by_cases c2 : m.unused.zero = false
      · exact put_unused m hd _ w hkf hr ht hl hy c2
      · have c2' : m.unused.zero = true := by simpa using c2
        refine put_long m hd _ w hkf hr ht hl hy c2' ?_
        rcases c with c | c | c
        · exact absurd c c1
        · exact absurd c c2
        · exact c
  · rw [if_neg c]
    rw [not_or, not_or] at c
    obtain ⟨c1, c2, c3⟩ := c
    have c1' : (bodyW m).b = false := by simpa using c1
    have c2' : m.unused.zero = true := by simpa using c2
    rw [c1'] at hy
    exact put_ok m hd _ w hkf hr ht hl hy c2' (by omega)
end Go.Proofs.Ytlkebjkpmiehcaa.Ms
end
section
namespace Go.Proofs.Ytlkebjkpmiehcaa.Ms
open Go.RowKit Go.Proofs.YtlkebjkpmiehcaaW.PrintWords Go.Proofs.YtlkebjkpmiehcaaW.PrintLast Go.Proofs.YtlkebjkpmiehcaaW.PrintMore Go.Proofs.Ytlkebjkpmiehcaa.X
open Go.Proofs.Ytlkebjkpmiehcaa.Pure (beL beL_length strOf_size okE putL encs encE kindsOf dupB)
set_option linter.unusedVariables false
set_option linter.unusedSimpArgs false
def retR : ByteArray := ⟨#[207, 33, 173, 116, 229, 154, 97, 17, 190, 29, 140, 2, 30, 101, 184, 145, 194, 162, 17, 22, 122, 187, 140, 94, 7, 158, 9, 226, 200, 168, 51, 156]⟩
def zr32 : ByteArray := strOfNums (List.replicate (32 : Int).toNat 0)
def pM (r : ByteArray) (g q : Int) : Mv := { zeroM with f0 := 2, f1 := r, f3 := [5], f6 := [g], f12 := q }
theorem xe_put : wire_Put.f = E.wire_Put.f := by kernel_rfl
theorem nm_two (g : Int) (h0 : 0 ≤ g) (h1 : g < 65536) : nm g 2 = (two g, 0) := by
  unfold nm
  rw [xe_put]
  have h := Go.Proofs.Ytlkebjkpmiehcaa.Pure.put_ok g 2 (by omega) (by omega) h0
  have h' : E.wire_Put.f g 2 = some (Go.Proofs.Ytlkebjkpmiehcaa.Pure.putOf g 2) := h
  rw [h']
  unfold Go.Proofs.Ytlkebjkpmiehcaa.Pure.putOf
  rw [if_pos (by omega)]
  rfl
theorem pR_retry (g q : Int) : (pM retR g q).retry = true := by
  show (retR.toList == ([207, 33, 173, 116, 229, 154, 97, 17, 190, 29, 140, 2, 30, 101, 184, 145, 194, 162, 17, 22, 122, 187, 140, 94, 7, 158, 9, 226, 200, 168, 51, 156] : List UInt8)) = true
  decide +kernel
theorem pZ_retry (g q : Int) : (pM zr32 g q).retry = false := by
  show ((2 : Int) == 2 && zr32.toList == ([207, 33, 173, 116, 229, 154, 97, 17, 190, 29, 140, 2, 30, 101, 184, 145, 194, 162, 17, 22, 122, 187, 140, 94, 7, 158, 9, 226, 200, 168, 51, 156] : List UInt8)) = false
  decide +kernel
theorem known2' : knownB 2 = true := by decide +kernel
theorem p_psk (g : Int) : putM (pM retR g 1) = (⟨#[]⟩, 1700) := by
  have e : (shW W0 (pM retR g 1)).b = true := by
    have : shOk2 (pM retR g 1) = false := by
      unfold shOk2
      rw [pR_retry]
      rfl
    unfold shW Wp.need
    rw [this]
    simp
  unfold putM
  rw [if_neg (by show ¬ knownB 2 = false; rw [known2']; decide), if_pos]
  refine .inl ?_
  unfold bodyW
  rw [if_neg (by show ¬ (2 : Int) = 1; decide), if_pos (by rfl)]
  unfold shP
  rw [if_pos e, e]
theorem p_zero (g : Int) : putM (pM zr32 g 0) = (⟨#[]⟩, 1700) := by
  have e : (shW W0 (pM zr32 g 0)).b = true := by
    have : shOk2 (pM zr32 g 0) = false := by
      unfold shOk2
      rw [pZ_retry]
      rfl
    unfold shW Wp.need
    rw [this]
    simp
  unfold putM
  rw [if_neg (by show ¬ knownB 2 = false; rw [known2']; decide), if_pos]
  refine .inl ?_
  unfold bodyW
  rw [if_neg (by show ¬ (2 : Int) = 1; decide), if_pos (by rfl)]
  unfold shP
  rw [if_pos e, e]
theorem pv_nil1 : pv ⟨#[]⟩ 1 = (⟨#[0]⟩, 0) := by decide +kernel
theorem p_good (g : Int) (h0 : 0 ≤ g) (h1 : g < 65536) : (putM (pM retR g 0)).2 = 0 ∧ 40 < (putM (pM retR g 0)).1.size := by
  have n2 := nm_two g h0 h1
  have n771 : nm 771 2 = (⟨#[3, 3]⟩, 0) := by decide +kernel
  have n5 : nm 5 2 = (⟨#[0, 5]⟩, 0) := by decide +kernel
  have n0 : nm 0 1 = (⟨#[0]⟩, 0) := by decide +kernel
  have o2 : shOk2 (pM retR g 0) = true := by
    unfold shOk2
    rw [pR_retry]
    rfl
  have o1 : shOk1 (pM retR g 0) = true := rfl
  have eS : shW W0 (pM retR g 0) = ⟨(((ByteArray.empty ++ ⟨#[3, 3]⟩) ++ retR) ++ ⟨#[0]⟩), false⟩ := by
    unfold shW Wp.hello
    rw [o1, o2]
    unfold Wp.num Wp.vec Wp.add Wp.need
    show Wp.mk (((W0.s ++ (nm 771 2).1) ++ retR) ++ (pv ⟨#[]⟩ 1).1) ((((((W0.b || !((nm 771 2).2 == 0)) || !((retR.size : Int) == 32)) || !(vecOk ⟨#[]⟩ (pv ⟨#[]⟩ 1).2 0 32)) || !true) || !true)) = _
    rw [n771, pv_nil1]
    rfl
  have eT : shT W0 (pM retR g 0) = ⟨((((ByteArray.empty ++ ⟨#[3, 3]⟩) ++ retR) ++ ⟨#[0]⟩) ++ ⟨#[0, 5]⟩) ++ ⟨#[0]⟩, false⟩ := by
    unfold shT
    rw [eS]
    unfold Wp.num
    show Wp.mk ((_ ++ (nm 5 2).1) ++ (nm 0 1).1) ((false || !((nm 5 2).2 == 0)) || !((nm 0 1).2 == 0)) = _
    rw [n5, n0]
    rfl
  have eU : W0.num g 2 = ⟨two g, false⟩ := by
    unfold Wp.num
    rw [n2]
    show Wp.mk (ByteArray.empty ++ two g) _ = _
    rw [ByteArray.empty_append]
    rfl
  obtain ⟨T, hT⟩ : ∃ T, shT W0 (pM retR g 0) = T := ⟨_, rfl⟩
  have hTs : T.s.size = 38 := by rw [← hT, eT]; rfl
  have hTb : T.b = false := by rw [← hT, eT]
  have eL : xAll T (shL (pM retR g 0)) = (T.need true, [⟨51, two g⟩]) := by
    have e1 : xAll T (shL (pM retR g 0)) = (xPut true T (W0.num g 2), xPutL true 51 (W0.num g 2) []) := rfl
    rw [e1, eU]
    rfl
  have eP : putL [] [⟨51, two g⟩] = (encE ⟨51, two g⟩, 0) := by
    have ho : okE ⟨51, two g⟩ := ⟨by show (0 : Int) ≤ 51; decide, by show (51 : Int) ≤ 65535; decide, by show (two g).size ≤ 65535; rw [two_size]; decide⟩
    unfold putL
    rw [if_pos ho]
    unfold putL
    rw [if_neg (by show ¬ dupB [51] = true; decide)]
    show (Go.Proofs.Ytlkebjkpmiehcaa.Pure.encs [⟨51, two g⟩], (0 : Int)) = _
    unfold Go.Proofs.Ytlkebjkpmiehcaa.Pure.encs
    show (ByteArray.empty ++ encE ⟨51, two g⟩, (0 : Int)) = _
    rw [ByteArray.empty_append]
  have hE : (encE (⟨51, two g⟩ : E.S41)).size = 6 := by
    unfold encE
    rw [ByteArray.size_append, ByteArray.size_append, strOf_size, strOf_size, beL_length, beL_length]
    show 2 + (2 + (two g).size) = 6
    rw [two_size]
  have ePv : pv (encE (⟨51, two g⟩ : E.S41)) 2 = (V 2 (encE ⟨51, two g⟩), 0) := pv_ok _ 2 (by omega) (by omega) (by rw [hE]; decide)
  have eB : bodyW (pM retR g 0) = ⟨T.s ++ V 2 (encE ⟨51, two g⟩), false⟩ := by
    unfold bodyW
    rw [if_neg (by show ¬ (2 : Int) = 1; decide), if_pos (by rfl)]
    unfold shP
    rw [if_neg (by rw [eS]; decide), hT, eL]
    unfold Wp.ends
    rw [eP]
    unfold Wp.vec Wp.need
    show Wp.mk (T.s ++ (pv (encE ⟨51, two g⟩) 2).1) ((((T.b || !true) || !((0 : Int) == 0)) || !(vecOk (encE ⟨51, two g⟩) (pv (encE ⟨51, two g⟩) 2).2 0 65536))) = _
    rw [ePv, hTb]
    unfold vecOk
    rw [hE]
    rfl
  have hBs : (bodyW (pM retR g 0)).s.size = 46 := by
    rw [eB]
    show (T.s ++ V 2 (encE (⟨51, two g⟩ : E.S41))).size = 46
    rw [ByteArray.size_append, V_size, hTs, hE]
  have e : putM (pM retR g 0) = (framed 2 (bodyW (pM retR g 0)).s, 0) := by
    unfold putM
    rw [if_neg (by show ¬ knownB 2 = false; rw [known2']; decide), if_neg]
    · rfl
    · rw [not_or, not_or]
      refine ⟨by rw [eB]; exact Bool.false_ne_true, by show ¬ (({ zeroM with f0 := 2 } : Mv).zero = false); decide +kernel, by rw [hBs]; decide⟩
  rw [e]
  refine ⟨rfl, ?_⟩
  show 40 < (framed 2 (bodyW (pM retR g 0)).s).size
  rw [framed_eq, framedV_size, hBs]
  decide
end Go.Proofs.Ytlkebjkpmiehcaa.Ms
end
section
namespace Go.Proofs.Ytlkebjkpmiehcaa.X
open Go.RowKit Go.Proofs.YtlkebjkpmiehcaaW.PrintWords Go.Proofs.YtlkebjkpmiehcaaW.PrintLast Go.Proofs.YtlkebjkpmiehcaaW.PrintMore
attribute [local go_sem] max2_int min2_int max_two min_two max_three min_three max_four min_four   
set_option linter.unusedVariables false
set_option linter.unusedSimpArgs false
theorem eqA66 (d : Nat) (w : World) (x0 y0 : Int) (x1 y1 : ByteArray) :
    (Op.equalIn (d + 2) 66 (.agg #[.int .i64 x0, .string x1]) (.agg #[.int .i64 y0, .string y1])).run Try.prog w = .ok (x0 == y0 && (x1.toList == y1.toList)) w := by
  refine eqA_of Try.underlying66 (by kernel_rfl) ?_
  refine eqf_cons (by rfl) (by go_simp; rfl) (by go_simp; rfl) (by go_simp) ?_
  exact eqf_last (by rfl) (by go_simp; rfl) (by go_simp; rfl) (by go_simp)
end Go.Proofs.Ytlkebjkpmiehcaa.X
end
section
namespace Go.Proofs.Ytlkebjkpmiehcaa.X
open Go.RowKit Go.Proofs.YtlkebjkpmiehcaaW.PrintWords Go.Proofs.YtlkebjkpmiehcaaW.PrintLast Go.Proofs.YtlkebjkpmiehcaaW.PrintMore
attribute [local go_sem] max2_int min2_int max_two min_two max_three min_three max_four min_four   
set_option linter.unusedVariables false
set_option linter.unusedSimpArgs false
theorem eqA111 (d : Nat) (w : World) (x0 y0 : ByteArray) (x1 y1 : Int) :
    (Op.equalIn (d + 2) 111 (.agg #[.string x0, .int .i64 x1]) (.agg #[.string y0, .int .i64 y1])).run Try.prog w = .ok (x0.toList == y0.toList && (x1 == y1)) w := by
  refine eqA_of Try.underlying111 (by kernel_rfl) ?_
  refine eqf_cons (by rfl) (by go_simp; rfl) (by go_simp; rfl) (by go_simp) ?_
  exact eqf_last (by rfl) (by go_simp; rfl) (by go_simp; rfl) (by go_simp)
end Go.Proofs.Ytlkebjkpmiehcaa.X
end
section
namespace Go.Proofs.Ytlkebjkpmiehcaa.X
open Go.RowKit Go.Proofs.YtlkebjkpmiehcaaW.PrintWords Go.Proofs.YtlkebjkpmiehcaaW.PrintLast Go.Proofs.YtlkebjkpmiehcaaW.PrintMore
attribute [local go_sem] max2_int min2_int max_two min_two max_three min_three max_four min_four   
set_option linter.unusedVariables false
set_option linter.unusedSimpArgs false
attribute [local go_sem high] eqA66 eqA111
def halberdlaw0_SameShares.l0 : Nat → List (S66) → List (S66) → Int → Option (Bool)
  | 0, _, _, _ => none
  | k + 1, x0, x1, x5 => if x5 < (x0.length : Int) then (if 0 ≤ x5 then (if x5 < (x1.length : Int) then (if (!(((rd_T66 x0 x5).f0) == ((rd_T66 x1 x5).f0)) || (!((((rd_T66 x0 x5).f1).toList) == (((rd_T66 x1 x5).f1).toList)))) = true then (some false) else (halberdlaw0_SameShares.l0 k x0 x1 (wrap64 (x5 + 1)))) else (none)) else (none)) else (some true)
def halberdlaw0_SameShares.f (k : Nat) (l0 : List (S66)) (l1 : List (S66)) : Option (Bool) := if (l0.length : Int) = (l1.length : Int) then (halberdlaw0_SameShares.l0 k l0 l1 0) else (some false)
theorem halberdlaw0_SameShares.mono_l : ∀ k, (∀ y0 y1 y2, LeO (halberdlaw0_SameShares.l0 k y0 y1 y2) (halberdlaw0_SameShares.l0 (k + 1) y0 y1 y2))
  | 0 => fun _ _ _ r h => by simp [halberdlaw0_SameShares.l0] at h
  | k + 1 => by
    have ih0 := halberdlaw0_SameShares.mono_l k
    · intro y0 y1 y2
      unfold halberdlaw0_SameShares.l0
      repeat' first
      | (with_reducible exact ih0 _ _ _)
      | (with_reducible exact LeO.refl _)
      | (with_reducible exact LeO.none _)
      | (with_reducible refine LeO.ite ?_ ?_)
      | (with_reducible refine LeO.bind ?_ (fun _ => ?_))
      | exact ih0 _ _ _
      | exact LeO.none _
      | refine LeO.ite ?_ ?_
      | refine LeO.bind ?_ (fun _ => ?_)
theorem halberdlaw0_SameShares.mono : ∀ a0 a1 k, LeO (halberdlaw0_SameShares.f k a0 a1) (halberdlaw0_SameShares.f (k + 1) a0 a1) := by
  intro a0 a1 k
  have ih0 := halberdlaw0_SameShares.mono_l k
  unfold halberdlaw0_SameShares.f
  repeat' first
      | (with_reducible exact ih0 _ _ _)
      | (with_reducible exact LeO.refl _)
      | (with_reducible exact LeO.none _)
      | (with_reducible refine LeO.ite ?_ ?_)
      | (with_reducible refine LeO.bind ?_ (fun _ => ?_))
      | exact ih0 _ _ _
      | exact LeO.none _
      | refine LeO.ite ?_ ?_
      | refine LeO.bind ?_ (fun _ => ?_)
set_option maxHeartbeats 8000000 in
set_option maxRecDepth 100000 in
theorem halberdlaw0_SameShares.calls (k : Nat) (A0 : Option Addr) (c0 : Nat) (l0 : List (S66)) (A1 : Option Addr) (c1 : Nat) (l1 : List (S66)) (r : Bool) (w : World) (hr0 : Kd.C k66 w A0 l0.length l0) (hc0 : l0.length ≤ c0) (hr1 : Kd.C k66 w A1 l1.length l1) (hc1 : l1.length ≤ c1) (h : halberdlaw0_SameShares.f k l0 l1 = some r) :
    Calls Try.prog 32 #[.slice A0 l0.length c0, .slice A1 l1.length c1] w fun e w' => e = .returned (.bool r) ∧ Drawn0 w w' := by
  have hu66 := Try.underlying66
  have HR0 := Aside0.mk hr0
  have HC0 := Aside0.mk hc0
  clear hr0 hc0
  have HR1 := Aside0.mk hr1
  have HC1 := Aside0.mk hc1
  clear hr1 hc1
  have H : (if (l0.length : Int) = (l1.length : Int) then (halberdlaw0_SameShares.l0 k l0 l1 0) else (some false)) = some r := h
  clear h
  by_cases c3 : (l0.length : Int) = (l1.length : Int)
  · rw [if_pos c3] at H
    have c3b0 : ((l0.length : Int) == (l1.length : Int)) = true := beq_iff_eq.mpr c3
    have c3b1 : ((l0.length : Int) != (l1.length : Int)) = false := bne_eq_false_iff_eq.mpr c3
    have c3b2 : (l0.length == l1.length) = true := by first | simpa using c3 | (simp at c3 ⊢; omega)
    clear c3
    have H' := Aside0.mk H
    clear H
    go_enter Try.func32, Try.ntmps32
    go_wp2
    repeat (go_quiet (fail); try go_wp2)
    go_loopg [5] k (fun kq v5 w' => ∃ (x5_1 : Int), v5 = .int .i64 x5_1 ∧ Aside0 (halberdlaw0_SameShares.l0 kq l0 l1 x5_1 = some r) ∧ Aside0 (kq ≤ k) ∧ Drawn0 w w')
    case atStart => exact ⟨(0), (by first | rfl | (simp; done) | (simp [*]; done)), H', ⟨Nat.le_refl _⟩, by repeat (first | exact Drawn0.refl _ | apply Drawn0.step)⟩
    case round =>
      clear H'
      try clear c1
      try clear p2
      try clear c3
      try clear c3b0
      try clear c3b1
      try clear c3b2
      obtain ⟨x5_1, rfl, HA, HK1, ⟨m1, rfl⟩⟩ := hrel
      cases gk with
      | zero => exact absurd HA.out (by simp [halberdlaw0_SameShares.l0])
      | succ k1 =>
        have H := HA.out
        clear HA
        simp only [halberdlaw0_SameShares.l0] at H
        by_cases c4 : x5_1 < (l0.length : Int)
        · rw [if_pos c4] at H
          have c4b0 : decide (x5_1 < (l0.length : Int)) = true := decide_eq_true c4
          clear c4
          by_cases c5 : 0 ≤ x5_1
          · rw [if_pos c5] at H
            have c5b0 : decide (0 ≤ x5_1) = true := decide_eq_true c5
            clear c5
            by_cases c6 : x5_1 < (l1.length : Int)
            · rw [if_pos c6] at H
              have c6b0 : decide (x5_1 < (l1.length : Int)) = true := decide_eq_true c6
              clear c6
              by_cases c7 : (!(((rd_T66 l0 x5_1).f0) == ((rd_T66 l1 x5_1).f0)) || (!((((rd_T66 l0 x5_1).f1).toList) == (((rd_T66 l1 x5_1).f1).toList)))) = true
              · rw [if_pos c7] at H
                have c7b0 : (!(((rd_T66 l0 x5_1).f0) == ((rd_T66 l1 x5_1).f0)) || (!((((rd_T66 l0 x5_1).f1).toList) == (((rd_T66 l1 x5_1).f1).toList)))) = true := c7
                clear c7
                obtain rfl := Option.some.inj H
                have p243 : 0 ≤ (x5_1 : Int) := of_decide_eq_true (by first | (with_reducible assumption) | assumption)
                have q243 : x5_1 < (l0.length : Int) := of_decide_eq_true (by first | (with_reducible assumption) | assumption)
                obtain ⟨ad243, e243, hx243_0, hx243_1⟩ := at_T66 HR0.out x5_1 p243 q243
                cases e243
                replace p243 := eq_true p243
                replace q243 := eq_true q243
                have p244 : 0 ≤ (x5_1 : Int) := of_decide_eq_true (by first | (with_reducible assumption) | assumption)
                have q244 : x5_1 < (l1.length : Int) := of_decide_eq_true (by first | (with_reducible assumption) | assumption)
                obtain ⟨ad244, e244, hx244_0, hx244_1⟩ := at_T66 HR1.out x5_1 p244 q244
                cases e244
                replace p244 := eq_true p244
                replace q244 := eq_true q244
                go_wp2
                repeat (go_quiet (fail); try go_wp2)
                go_ret
                exact ⟨by first | rfl | (simp; done) | (simp [*]; done), by repeat (first | exact Drawn0.refl _ | apply Drawn0.step)⟩
              · rw [if_neg c7] at H
                have c7b0 : (!(((rd_T66 l0 x5_1).f0) == ((rd_T66 l1 x5_1).f0)) || (!((((rd_T66 l0 x5_1).f1).toList) == (((rd_T66 l1 x5_1).f1).toList)))) = false := by simpa using c7
                clear c7
                have H' := Aside0.mk H
                clear H
                have p243 : 0 ≤ (x5_1 : Int) := of_decide_eq_true (by first | (with_reducible assumption) | assumption)
                have q243 : x5_1 < (l0.length : Int) := of_decide_eq_true (by first | (with_reducible assumption) | assumption)
                obtain ⟨ad243, e243, hx243_0, hx243_1⟩ := at_T66 HR0.out x5_1 p243 q243
                cases e243
                replace p243 := eq_true p243
                replace q243 := eq_true q243
                have p244 : 0 ≤ (x5_1 : Int) := of_decide_eq_true (by first | (with_reducible assumption) | assumption)
                have q244 : x5_1 < (l1.length : Int) := of_decide_eq_true (by first | (with_reducible assumption) | assumption)
                obtain ⟨ad244, e244, hx244_0, hx244_1⟩ := at_T66 HR1.out x5_1 p244 q244
                cases e244
                replace p244 := eq_true p244
                replace q244 := eq_true q244
                go_wp2
                repeat (go_quiet (fail); try go_wp2)
                go_roundg k1
                case measure => have := HK1.out; omega
                case rel => exact ⟨(wrap64 (x5_1 + 1)), (by first | rfl | (simp; done) | (simp [*]; done)), H', ⟨by have := HK1.out; omega⟩, by repeat (first | exact Drawn0.refl _ | apply Drawn0.step)⟩
            · rw [if_neg c6] at H
              exact absurd H (by simp)
          · rw [if_neg c5] at H
            exact absurd H (by simp)
        · rw [if_neg c4] at H
          have c4b0 : decide (x5_1 < (l0.length : Int)) = false := decide_eq_false c4
          clear c4
          obtain rfl := Option.some.inj H
          go_wp2
          repeat (go_quiet (fail); try go_wp2)
          go_ret
          exact ⟨by first | rfl | (simp; done) | (simp [*]; done), by repeat (first | exact Drawn0.refl _ | apply Drawn0.step)⟩
  · rw [if_neg c3] at H
    have c3b0 : ((l0.length : Int) == (l1.length : Int)) = false := beq_eq_false_iff_ne.mpr c3
    have c3b1 : ((l0.length : Int) != (l1.length : Int)) = true := bne_iff_ne.mpr c3
    have c3b2 : (l0.length == l1.length) = false := by first | simpa using c3 | (simp at c3 ⊢; omega)
    obtain rfl := Option.some.inj H
    go_enter Try.func32, Try.ntmps32
    go_wp2
    repeat (go_quiet (fail); try go_wp2)
    go_ret
    exact ⟨by first | rfl | (simp; done) | (simp [*]; done), by repeat (first | exact Drawn0.refl _ | apply Drawn0.step)⟩
end Go.Proofs.Ytlkebjkpmiehcaa.X
end
section
namespace Go.Proofs.Ytlkebjkpmiehcaa.Ms
open Go.RowKit Go.Proofs.YtlkebjkpmiehcaaW.PrintWords Go.Proofs.YtlkebjkpmiehcaaW.PrintLast Go.Proofs.YtlkebjkpmiehcaaW.PrintMore Go.Proofs.Ytlkebjkpmiehcaa.X
open Go.Proofs.Ytlkebjkpmiehcaa.Pure (beL beL_length strOf_size bytesOf_app bytesOf_strOf)
set_option linter.unusedVariables false
set_option linter.unusedSimpArgs false
theorem si_go (l : List Int) (hl : l.length < 9223372036854775807) : ∀ (n i : Nat), i + n = l.length → halberdlaw0_SameInts.l0 (n + 1) l l (i : Int) = some true
  | 0, i, h => by
    unfold halberdlaw0_SameInts.l0
    rw [if_neg (by omega)]
  | n + 1, i, h => by
    unfold halberdlaw0_SameInts.l0
    rw [if_pos (by omega), if_pos (by omega), if_pos (by omega), if_pos rfl]
    have e : wrap64 ((i : Int) + 1) = ((i + 1 : Nat) : Int) := by unfold wrap64; omega
    rw [e]
    exact si_go l hl n (i + 1) (by omega)
theorem si_self (l : List Int) (hl : l.length < 9223372036854775807) : halberdlaw0_SameInts.f (l.length + 1) l l = some true := by
  unfold halberdlaw0_SameInts.f
  rw [if_pos rfl]
  exact si_go l hl l.length 0 (by omega)
theorem ss_go (l : List S66) (hl : l.length < 9223372036854775807) : ∀ (n i : Nat), i + n = l.length → halberdlaw0_SameShares.l0 (n + 1) l l (i : Int) = some true
  | 0, i, h => by
    unfold halberdlaw0_SameShares.l0
    rw [if_neg (by omega)]
  | n + 1, i, h => by
    unfold halberdlaw0_SameShares.l0
    rw [if_pos (by omega), if_pos (by omega), if_pos (by omega), if_neg (by simp)]
    have e : wrap64 ((i : Int) + 1) = ((i + 1 : Nat) : Int) := by unfold wrap64; omega
    rw [e]
    exact ss_go l hl n (i + 1) (by omega)
theorem ss_self (l : List S66) (hl : l.length < 9223372036854775807) : halberdlaw0_SameShares.f (l.length + 1) l l = some true := by
  unfold halberdlaw0_SameShares.f
  rw [if_pos rfl]
  exact ss_go l hl l.length 0 (by omega)
theorem two_mod (x : Int) : two x = two (x % 65536) := by
  unfold two
  have : beL 2 x = beL 2 (x % 65536) := by simp [beL]; omega
  rw [this]
theorem two_eq (x : Int) : strOfNums [x / 256 % 256, x % 256] = two x := by
  unfold two
  rw [show beL 2 x = [x / 256 % 256, x % 256] from by simp [beL]]
theorem bc_2 (s : ByteArray) (hk : bt s 0 = 2) : Aside0 (BodyC (getR s) { zeroM with f0 := bt s 0 }) := by
  refine ⟨fun lo r f gm w hl hl2 hg h ho hm => ?_⟩
  rw [hk] at hm ⊢
  exact body_2 lo r f gm (getR s) { zeroM with f0 := 2 } w rfl hl hl2 hg h ho hm
def mvA (g : Int) : Mv := { shM0 retR with f6 := [g], f13 := [41] }
def mvC (Z KK : ByteArray) (g q : Int) : Mv := { shM0 Z with f9 := [⟨g, KK⟩], f12 := q + 1, f13 := [] }
def hdP (A : Option Addr) (c : Nat) (B : Option Addr) (d : Nat) : Hd := { hd0 with A3 := A, c3 := c, A6 := B, c6 := d }
structure RF (g psk q : Int) (K T KK VK SH F1 FR Z Q1 PL W P VT A1 A2 VA A3 A4 VS B1 VB B2 B3 C1 VC C2 C3 D1 D2 D3 : ByteArray) : Prop where
  eT : two g = T
  sT : T.size = 2
  eKK : ⟨#[107]⟩ ++ K = KK
  sKK : KK.size = 1 + K.size
  cKK : (⟨#[107]⟩ : ByteArray).size + K.size ≤ 9223372036854775807
  eVK : V 2 KK = VK
  sVK : VK.size = 3 + K.size
  bVK : KK.size ≤ 140737488351232
  vVK : halberdlaw17_vec.f KK 2 = some VK
  eSH : T ++ VK = SH
  sSH : SH.size = 5 + K.size
  cSH : T.size + VK.size ≤ 9223372036854775807
  eF1 : ⟨#[3, 3]⟩ ++ retR = F1
  sF1 : F1.size = 34
  cF1 : (⟨#[3, 3]⟩ : ByteArray).size + retR.size ≤ 9223372036854775807
  eFR : F1 ++ ⟨#[0, 19, 1, 0]⟩ = FR
  sFR : FR.size = 38
  cFR : F1.size + (⟨#[0, 19, 1, 0]⟩ : ByteArray).size ≤ 9223372036854775807
  eZ : zr32 = Z
  sZ : Z.size = 32
  eQ1 : ⟨#[3, 3]⟩ ++ Z = Q1
  sQ1 : Q1.size = 34
  cQ1 : (⟨#[3, 3]⟩ : ByteArray).size + Z.size ≤ 9223372036854775807
  ePL : Q1 ++ ⟨#[0, 19, 1, 0]⟩ = PL
  sPL : PL.size = 38
  cPL : Q1.size + (⟨#[0, 19, 1, 0]⟩ : ByteArray).size ≤ 9223372036854775807
  eW : two psk = W
  sW : W.size = 2
  eP : ⟨#[0, 41, 0, 2]⟩ ++ W = P
  sP : P.size = 6
  cP : (⟨#[0, 41, 0, 2]⟩ : ByteArray).size + W.size ≤ 9223372036854775807
  eVT : V 2 T = VT
  sVT : VT.size = 4
  bVT : T.size ≤ 140737488351232
  vVT : halberdlaw17_vec.f T 2 = some VT
  eA1 : ⟨#[0, 51]⟩ ++ VT = A1
  sA1 : A1.size = 6
  cA1 : (⟨#[0, 51]⟩ : ByteArray).size + VT.size ≤ 9223372036854775807
  eA2 : A1 ++ P = A2
  sA2 : A2.size = 12
  cA2 : A1.size + P.size ≤ 9223372036854775807
  eVA : V 2 A2 = VA
  sVA : VA.size = 14
  bVA : A2.size ≤ 140737488351232
  vVA : halberdlaw17_vec.f A2 2 = some VA
  eA3 : FR ++ VA = A3
  sA3 : A3.size = 52
  cA3 : FR.size + VA.size ≤ 9223372036854775807
  eA4 : framedV 2 A3 = A4
  sA4 : A4.size = 56
  bA4 : A3.size ≤ 140737488351232
  mA4 : halberdlaw17_made.f 2 A3 = some A4
  lA4 : A4.size ≤ 140737488351232
  tA4 : Aside0 (BodyC (getR A4) { zeroM with f0 := bt A4 0 })
  eVS : V 2 SH = VS
  sVS : VS.size = 7 + K.size
  bVS : SH.size ≤ 140737488351232
  vVS : halberdlaw17_vec.f SH 2 = some VS
  eB1 : ⟨#[0, 51]⟩ ++ VS = B1
  sB1 : B1.size = 9 + K.size
  cB1 : (⟨#[0, 51]⟩ : ByteArray).size + VS.size ≤ 9223372036854775807
  eVB : V 2 B1 = VB
  sVB : VB.size = 11 + K.size
  bVB : B1.size ≤ 140737488351232
  vVB : halberdlaw17_vec.f B1 2 = some VB
  eB2 : FR ++ VB = B2
  sB2 : B2.size = 49 + K.size
  cB2 : FR.size + VB.size ≤ 9223372036854775807
  eB3 : framedV 2 B2 = B3
  sB3 : B3.size = 53 + K.size
  bB3 : B2.size ≤ 140737488351232
  mB3 : halberdlaw17_made.f 2 B2 = some B3
  lB3 : B3.size ≤ 140737488351232
  tB3 : Aside0 (BodyC (getR B3) { zeroM with f0 := bt B3 0 })
  eC1 : B1 ++ P = C1
  sC1 : C1.size = 15 + K.size
  cC1 : B1.size + P.size ≤ 9223372036854775807
  eVC : V 2 C1 = VC
  sVC : VC.size = 17 + K.size
  bVC : C1.size ≤ 140737488351232
  vVC : halberdlaw17_vec.f C1 2 = some VC
  eC2 : PL ++ VC = C2
  sC2 : C2.size = 55 + K.size
  cC2 : PL.size + VC.size ≤ 9223372036854775807
  eC3 : framedV 2 C2 = C3
  sC3 : C3.size = 59 + K.size
  bC3 : C2.size ≤ 140737488351232
  mC3 : halberdlaw17_made.f 2 C2 = some C3
  lC3 : C3.size ≤ 140737488351232
  tC3 : Aside0 (BodyC (getR C3) { zeroM with f0 := bt C3 0 })
  eD1 : V 2 A1 = D1
  sD1 : D1.size = 8
  bD1 : A1.size ≤ 140737488351232
  vD1 : halberdlaw17_vec.f A1 2 = some D1
  eD2 : PL ++ D1 = D2
  sD2 : D2.size = 46
  cD2 : PL.size + D1.size ≤ 9223372036854775807
  eD3 : framedV 2 D2 = D3
  sD3 : D3.size = 50
  bD3 : D2.size ≤ 140737488351232
  mD3 : halberdlaw17_made.f 2 D2 = some D3
  lD3 : D3.size ≤ 140737488351232
  tD3 : Aside0 (BodyC (getR D3) { zeroM with f0 := bt D3 0 })
  zR : retR.size ≤ 2097152
  zZ : Z.size ≤ 2097152
  gA : getM A4 = (mvA g, 0)
  gB : (getM B3).2 = 1700
  gC : getM C3 = (mvC Z KK g q, 0)
  gD : (getM D3).2 = 1700
  rA : (mvA g).retry = true
  rC : (mvC Z KK g q).retry = false
  p1 : (putM (pM retR g 0)).2 = 0
  p1s : 40 < (putM (pM retR g 0)).1.size
  p2 : putM (pM retR g 1) = (⟨#[]⟩, 1700)
  p3 : putM (pM Z g 0) = (⟨#[]⟩, 1700)
theorem retR_retry (m : Mv) (h : m.f0 = 2) (h1 : m.f1 = retR) : m.retry = true := by
  unfold Mv.retry
  rw [h, h1]
  decide +kernel
theorem zr32_retry (m : Mv) (h1 : m.f1 = zr32) : m.retry = false := by
  unfold Mv.retry
  rw [h1]
  have : (zr32.toList == ([207, 33, 173, 116, 229, 154, 97, 17, 190, 29, 140, 2, 30, 101, 184, 145, 194, 162, 17, 22, 122, 187, 140, 94, 7, 158, 9, 226, 200, 168, 51, 156] : List UInt8)) = false := by decide +kernel
  rw [this, Bool.and_false]
set_option maxHeartbeats 4000000 in
theorem rf_ex (g psk : Int) (K : ByteArray) (h0 : 0 ≤ g) (h1 : g < 65536) (hk : K.size ≤ 200) : ∃ T KK VK SH F1 FR Z Q1 PL W P VT A1 A2 VA A3 A4 VS B1 VB B2 B3 C1 VC C2 C3 D1 D2 D3, RF g psk (psk % 65536) K T KK VK SH F1 FR Z Q1 PL W P VT A1 A2 VA A3 A4 VS B1 VB B2 B3 C1 VC C2 C3 D1 D2 D3 := by
  obtain ⟨T, eT⟩ : ∃ T, two g = T := ⟨_, rfl⟩
  have sT : T.size = 2 := by rw [← eT]; exact two_size _
  obtain ⟨KK, eKK⟩ : ∃ KK, ⟨#[107]⟩ ++ K = KK := ⟨_, rfl⟩
  have sKK : KK.size = 1 + K.size := by rw [← eKK, ByteArray.size_append]; have := show (⟨#[107]⟩ : ByteArray).size = 1 from rfl; omega
  have cKK : (⟨#[107]⟩ : ByteArray).size + K.size ≤ 9223372036854775807 := by have := show (⟨#[107]⟩ : ByteArray).size = 1 from rfl; omega
  obtain ⟨VK, eVK⟩ : ∃ VK, V 2 KK = VK := ⟨_, rfl⟩
  have sVK : VK.size = 3 + K.size := by rw [← eVK, V_size]; omega
  have bVK : KK.size ≤ 140737488351232 := by omega
  have vVK : halberdlaw17_vec.f KK 2 = some VK := by rw [← eVK]; exact vec2 _ bVK
  obtain ⟨SH, eSH⟩ : ∃ SH, T ++ VK = SH := ⟨_, rfl⟩
  have sSH : SH.size = 5 + K.size := by rw [← eSH, ByteArray.size_append];  omega
  have cSH : T.size + VK.size ≤ 9223372036854775807 := by  omega
  obtain ⟨F1, eF1⟩ : ∃ F1, ⟨#[3, 3]⟩ ++ retR = F1 := ⟨_, rfl⟩
  have sF1 : F1.size = 34 := by rw [← eF1, ByteArray.size_append]; have := show (⟨#[3, 3]⟩ : ByteArray).size = 2 from rfl; have := show retR.size = 32 from rfl; omega
  have cF1 : (⟨#[3, 3]⟩ : ByteArray).size + retR.size ≤ 9223372036854775807 := by have := show (⟨#[3, 3]⟩ : ByteArray).size = 2 from rfl; have := show retR.size = 32 from rfl; omega
  obtain ⟨FR, eFR⟩ : ∃ FR, F1 ++ ⟨#[0, 19, 1, 0]⟩ = FR := ⟨_, rfl⟩
  have sFR : FR.size = 38 := by rw [← eFR, ByteArray.size_append]; have := show (⟨#[0, 19, 1, 0]⟩ : ByteArray).size = 4 from rfl; omega
  have cFR : F1.size + (⟨#[0, 19, 1, 0]⟩ : ByteArray).size ≤ 9223372036854775807 := by have := show (⟨#[0, 19, 1, 0]⟩ : ByteArray).size = 4 from rfl; omega
  obtain ⟨Z, eZ⟩ : ∃ Z, zr32 = Z := ⟨_, rfl⟩
  have sZ : Z.size = 32 := by rw [← eZ]; decide +kernel
  obtain ⟨Q1, eQ1⟩ : ∃ Q1, ⟨#[3, 3]⟩ ++ Z = Q1 := ⟨_, rfl⟩
  have sQ1 : Q1.size = 34 := by rw [← eQ1, ByteArray.size_append]; have := show (⟨#[3, 3]⟩ : ByteArray).size = 2 from rfl; omega
  have cQ1 : (⟨#[3, 3]⟩ : ByteArray).size + Z.size ≤ 9223372036854775807 := by have := show (⟨#[3, 3]⟩ : ByteArray).size = 2 from rfl; omega
  obtain ⟨PL, ePL⟩ : ∃ PL, Q1 ++ ⟨#[0, 19, 1, 0]⟩ = PL := ⟨_, rfl⟩
  have sPL : PL.size = 38 := by rw [← ePL, ByteArray.size_append]; have := show (⟨#[0, 19, 1, 0]⟩ : ByteArray).size = 4 from rfl; omega
  have cPL : Q1.size + (⟨#[0, 19, 1, 0]⟩ : ByteArray).size ≤ 9223372036854775807 := by have := show (⟨#[0, 19, 1, 0]⟩ : ByteArray).size = 4 from rfl; omega
  obtain ⟨W, eW⟩ : ∃ W, two psk = W := ⟨_, rfl⟩
  have sW : W.size = 2 := by rw [← eW]; exact two_size _
  obtain ⟨P, eP⟩ : ∃ P, ⟨#[0, 41, 0, 2]⟩ ++ W = P := ⟨_, rfl⟩
  have sP : P.size = 6 := by rw [← eP, ByteArray.size_append]; have := show (⟨#[0, 41, 0, 2]⟩ : ByteArray).size = 4 from rfl; omega
  have cP : (⟨#[0, 41, 0, 2]⟩ : ByteArray).size + W.size ≤ 9223372036854775807 := by have := show (⟨#[0, 41, 0, 2]⟩ : ByteArray).size = 4 from rfl; omega
  obtain ⟨VT, eVT⟩ : ∃ VT, V 2 T = VT := ⟨_, rfl⟩
  have sVT : VT.size = 4 := by rw [← eVT, V_size]; omega
  have bVT : T.size ≤ 140737488351232 := by omega
  have vVT : halberdlaw17_vec.f T 2 = some VT := by rw [← eVT]; exact vec2 _ bVT
  obtain ⟨A1, eA1⟩ : ∃ A1, ⟨#[0, 51]⟩ ++ VT = A1 := ⟨_, rfl⟩
  have sA1 : A1.size = 6 := by rw [← eA1, ByteArray.size_append]; have := show (⟨#[0, 51]⟩ : ByteArray).size = 2 from rfl; omega
  have cA1 : (⟨#[0, 51]⟩ : ByteArray).size + VT.size ≤ 9223372036854775807 := by have := show (⟨#[0, 51]⟩ : ByteArray).size = 2 from rfl; omega
  obtain ⟨A2, eA2⟩ : ∃ A2, A1 ++ P = A2 := ⟨_, rfl⟩
  have sA2 : A2.size = 12 := by rw [← eA2, ByteArray.size_append];  omega
  have cA2 : A1.size + P.size ≤ 9223372036854775807 := by  omega
  obtain ⟨VA, eVA⟩ : ∃ VA, V 2 A2 = VA := ⟨_, rfl⟩
  have sVA : VA.size = 14 := by rw [← eVA, V_size]; omega
  have bVA : A2.size ≤ 140737488351232 := by omega
  have vVA : halberdlaw17_vec.f A2 2 = some VA := by rw [← eVA]; exact vec2 _ bVA
  obtain ⟨A3, eA3⟩ : ∃ A3, FR ++ VA = A3 := ⟨_, rfl⟩
  have sA3 : A3.size = 52 := by rw [← eA3, ByteArray.size_append];  omega
  have cA3 : FR.size + VA.size ≤ 9223372036854775807 := by  omega
  obtain ⟨A4, eA4⟩ : ∃ A4, framedV 2 A3 = A4 := ⟨_, rfl⟩
  have sA4 : A4.size = 56 := by rw [← eA4, framedV_size]; omega
  have bA4 : A3.size ≤ 140737488351232 := by omega
  have mA4 : halberdlaw17_made.f 2 A3 = some A4 := by rw [← eA4]; exact made_ok _ _ bA4
  have lA4 : A4.size ≤ 140737488351232 := by omega
  have tA4 := bc_2 A4 (by rw [← eA4]; exact (head_ok (k := 2) (u := A3) (by omega)).2.2)
  obtain ⟨VS, eVS⟩ : ∃ VS, V 2 SH = VS := ⟨_, rfl⟩
  have sVS : VS.size = 7 + K.size := by rw [← eVS, V_size]; omega
  have bVS : SH.size ≤ 140737488351232 := by omega
  have vVS : halberdlaw17_vec.f SH 2 = some VS := by rw [← eVS]; exact vec2 _ bVS
  obtain ⟨B1, eB1⟩ : ∃ B1, ⟨#[0, 51]⟩ ++ VS = B1 := ⟨_, rfl⟩
  have sB1 : B1.size = 9 + K.size := by rw [← eB1, ByteArray.size_append]; have := show (⟨#[0, 51]⟩ : ByteArray).size = 2 from rfl; omega
  have cB1 : (⟨#[0, 51]⟩ : ByteArray).size + VS.size ≤ 9223372036854775807 := by have := show (⟨#[0, 51]⟩ : ByteArray).size = 2 from rfl; omega
  obtain ⟨VB, eVB⟩ : ∃ VB, V 2 B1 = VB := ⟨_, rfl⟩
  have sVB : VB.size = 11 + K.size := by rw [← eVB, V_size]; omega
  have bVB : B1.size ≤ 140737488351232 := by omega
  have vVB : halberdlaw17_vec.f B1 2 = some VB := by rw [← eVB]; exact vec2 _ bVB
  obtain ⟨B2, eB2⟩ : ∃ B2, FR ++ VB = B2 := ⟨_, rfl⟩
  have sB2 : B2.size = 49 + K.size := by rw [← eB2, ByteArray.size_append];  omega
  have cB2 : FR.size + VB.size ≤ 9223372036854775807 := by  omega
  obtain ⟨B3, eB3⟩ : ∃ B3, framedV 2 B2 = B3 := ⟨_, rfl⟩
  have sB3 : B3.size = 53 + K.size := by rw [← eB3, framedV_size]; omega
  have bB3 : B2.size ≤ 140737488351232 := by omega
  have mB3 : halberdlaw17_made.f 2 B2 = some B3 := by rw [← eB3]; exact made_ok _ _ bB3
  have lB3 : B3.size ≤ 140737488351232 := by omega
  have tB3 := bc_2 B3 (by rw [← eB3]; exact (head_ok (k := 2) (u := B2) (by omega)).2.2)
  obtain ⟨C1, eC1⟩ : ∃ C1, B1 ++ P = C1 := ⟨_, rfl⟩
  have sC1 : C1.size = 15 + K.size := by rw [← eC1, ByteArray.size_append];  omega
  have cC1 : B1.size + P.size ≤ 9223372036854775807 := by  omega
  obtain ⟨VC, eVC⟩ : ∃ VC, V 2 C1 = VC := ⟨_, rfl⟩
  have sVC : VC.size = 17 + K.size := by rw [← eVC, V_size]; omega
  have bVC : C1.size ≤ 140737488351232 := by omega
  have vVC : halberdlaw17_vec.f C1 2 = some VC := by rw [← eVC]; exact vec2 _ bVC
  obtain ⟨C2, eC2⟩ : ∃ C2, PL ++ VC = C2 := ⟨_, rfl⟩
  have sC2 : C2.size = 55 + K.size := by rw [← eC2, ByteArray.size_append];  omega
  have cC2 : PL.size + VC.size ≤ 9223372036854775807 := by  omega
  obtain ⟨C3, eC3⟩ : ∃ C3, framedV 2 C2 = C3 := ⟨_, rfl⟩
  have sC3 : C3.size = 59 + K.size := by rw [← eC3, framedV_size]; omega
  have bC3 : C2.size ≤ 140737488351232 := by omega
  have mC3 : halberdlaw17_made.f 2 C2 = some C3 := by rw [← eC3]; exact made_ok _ _ bC3
  have lC3 : C3.size ≤ 140737488351232 := by omega
  have tC3 := bc_2 C3 (by rw [← eC3]; exact (head_ok (k := 2) (u := C2) (by omega)).2.2)
  obtain ⟨D1, eD1⟩ : ∃ D1, V 2 A1 = D1 := ⟨_, rfl⟩
  have sD1 : D1.size = 8 := by rw [← eD1, V_size]; omega
  have bD1 : A1.size ≤ 140737488351232 := by omega
  have vD1 : halberdlaw17_vec.f A1 2 = some D1 := by rw [← eD1]; exact vec2 _ bD1
  obtain ⟨D2, eD2⟩ : ∃ D2, PL ++ D1 = D2 := ⟨_, rfl⟩
  have sD2 : D2.size = 46 := by rw [← eD2, ByteArray.size_append];  omega
  have cD2 : PL.size + D1.size ≤ 9223372036854775807 := by  omega
  obtain ⟨D3, eD3⟩ : ∃ D3, framedV 2 D2 = D3 := ⟨_, rfl⟩
  have sD3 : D3.size = 50 := by rw [← eD3, framedV_size]; omega
  have bD3 : D2.size ≤ 140737488351232 := by omega
  have mD3 : halberdlaw17_made.f 2 D2 = some D3 := by rw [← eD3]; exact made_ok _ _ bD3
  have lD3 : D3.size ≤ 140737488351232 := by omega
  have tD3 := bc_2 D3 (by rw [← eD3]; exact (head_ok (k := 2) (u := D2) (by omega)).2.2)
  have tb : bytesOf T = beL 2 g := by rw [← eT]; exact two_bytes g
  have wb : bytesOf W = beL 2 psk := by rw [← eW]; exact two_bytes psk
  have wq : W = two (psk % 65536) := by rw [← eW]; exact two_mod psk
  have b51 : bytesOf (⟨#[0, 51]⟩ : ByteArray) = beL 2 51 := rfl
  have b41 : bytesOf (⟨#[0, 41, 0, 2]⟩ : ByteArray) = beL 2 41 ++ beL 2 2 := rfl
  have pb : bytesOf P = beL 2 41 ++ (beL 2 2 ++ bytesOf W) := by rw [← eP, bytesOf_app, b41, List.append_assoc]
  have a1b : bytesOf A1 = beL 2 51 ++ (beL 2 T.size ++ bytesOf T) := by rw [← eA1, bytesOf_app, b51, ← eVT, V_bytes]
  have a2b : bytesOf A2 = beL 2 51 ++ (beL 2 (two g).size ++ (bytesOf (two g) ++ (beL 2 41 ++ (beL 2 (two psk).size ++ (bytesOf (two psk) ++ []))))) := by
    rw [← eA2, bytesOf_app, a1b, pb, eT, eW, sT, sW, List.append_nil, List.append_assoc, List.append_assoc]
    rfl
  have shb : bytesOf SH = beL 2 g ++ (beL 2 KK.size ++ (bytesOf KK ++ [])) := by rw [← eSH, bytesOf_app, tb, ← eVK, V_bytes, List.append_nil]
  have b1b : bytesOf B1 = beL 2 51 ++ (beL 2 SH.size ++ (bytesOf SH ++ [])) := by rw [← eB1, bytesOf_app, b51, ← eVS, V_bytes, List.append_nil]
  have c1b : bytesOf C1 = beL 2 51 ++ (beL 2 SH.size ++ (bytesOf SH ++ (beL 2 41 ++ (beL 2 (two (psk % 65536)).size ++ (bytesOf (two (psk % 65536)) ++ []))))) := by
    rw [← eC1, bytesOf_app, b1b, pb, ← wq, sW, List.append_nil, List.append_nil, List.append_assoc, List.append_assoc]
    rfl
  have d1b : bytesOf A1 = beL 2 51 ++ (beL 2 (two g).size ++ (bytesOf (two g) ++ [])) := by rw [a1b, eT, List.append_nil]
  have sR : retR.size = 32 := rfl
  have hR : (shM0 retR).retry = true := retR_retry _ rfl rfl
  have hZ : (shM0 Z).retry = false := zr32_retry _ eZ.symm
  have eA4' : framedV 2 (shS retR A2) = A4 := by
    rw [← eA4, ← eA3, ← eFR, ← eF1, ← eVA]
    rfl
  have eB3' : framedV 2 (shS retR B1) = B3 := by
    rw [← eB3, ← eB2, ← eFR, ← eF1, ← eVB]
    rfl
  have eC3' : framedV 2 (shS Z C1) = C3 := by
    rw [← eC3, ← eC2, ← ePL, ← eQ1, ← eVC]
    rfl
  have eD3' : framedV 2 (shS Z A1) = D3 := by
    rw [← eD3, ← eD2, ← ePL, ← eQ1, ← eD1]
    rfl
  have gA := r_one (r := retR) a2b sA2 sR h0 h1 hR
  have gB := r_two (r := retR) b1b shb (by intro h; have := congrArg List.length h; simp [beL_length] at this) (by omega) sR h0 h1 hR
  have gC := r_three (r := Z) c1b shb (by omega) (by omega) sZ h0 h1 (by omega) (by omega) hZ
  have gD := r_four (r := Z) d1b (by omega) sZ h0 h1 hZ
  rw [eA4'] at gA
  rw [eB3'] at gB
  rw [eC3'] at gC
  rw [eD3'] at gD
  refine ⟨T, KK, VK, SH, F1, FR, Z, Q1, PL, W, P, VT, A1, A2, VA, A3, A4, VS, B1, VB, B2, B3, C1, VC, C2, C3, D1, D2, D3, ⟨eT, sT, eKK, sKK, cKK, eVK, sVK, bVK, vVK, eSH, sSH, cSH, eF1, sF1, cF1, eFR, sFR, cFR, eZ, sZ, eQ1, sQ1, cQ1, ePL, sPL, cPL, eW, sW, eP, sP, cP, eVT, sVT, bVT, vVT, eA1, sA1, cA1, eA2, sA2, cA2, eVA, sVA, bVA, vVA, eA3, sA3, cA3, eA4, sA4, bA4, mA4, lA4, tA4, eVS, sVS, bVS, vVS, eB1, sB1, cB1, eVB, sVB, bVB, vVB, eB2, sB2, cB2, eB3, sB3, bB3, mB3, lB3, tB3, eC1, sC1, cC1, eVC, sVC, bVC, vVC, eC2, sC2, cC2, eC3, sC3, bC3, mC3, lC3, tC3, eD1, sD1, bD1, vD1, eD2, sD2, cD2, eD3, sD3, bD3, mD3, lD3, tD3, by omega, by omega, gA, by rw [gB], gC, by rw [gD], retR_retry _ rfl rfl, zr32_retry _ eZ.symm, ?_, ?_, ?_, ?_⟩⟩
  · exact (p_good g h0 h1).1
  · exact (p_good g h0 h1).2
  · exact p_psk g
  · rw [← eZ]; exact p_zero g
end Go.Proofs.Ytlkebjkpmiehcaa.Ms
end
section
namespace Go.Proofs.Ytlkebjkpmiehcaa.Iv
open Go Go.RowKit Go.Proofs.YtlkebjkpmiehcaaW.PrintWords
set_option linter.unusedVariables false
section
variable {P : Program} {ops : Array Oper} {Q : Exit → Act → World → Prop}
def dstOf (ops : Array Oper) (i : Nat) : Option Tmp := (ops[i]?).bind (·.dst)
def distinctB (ops : Array Oper) : Bool := (List.range ops.size).all fun i => (List.range ops.size).all fun j => i == j || (dstOf ops i).isNone || dstOf ops i != dstOf ops j
def backB (ops : Array Oper) : Bool := (List.range ops.size).all fun i => match ops[i]? with
  | some o => o.guard.isNone && o.after.all fun e => !Region.binds .any e || decide (e.on < i)
  | none => true
def fitsB (ops : Array Oper) (n : Nat) : Bool := (List.range ops.size).all fun i => match dstOf ops i with
  | some d => decide (d < n)
  | none => true
def needs (ops : Array Oper) (i j : Nat) : Bool := match ops[i]? with
  | some o => o.after.any fun e => Region.binds .any e && e.on == j
  | none => false
structure RInv (ops : Array Oper) (p : Nat → Value → World → Prop) (a0 : Act) (w0 : World) (listed : Array Bool) (a : Act) (w : World) : Prop where
  sz : listed.size = ops.size
  df : a.defers = a0.defers
  ts : a.tmps.size = a0.tmps.size
  below : Below w0.heap.size w0 w
  vals : ∃ vals : Nat → Value, ∀ j, j < ops.size → listed.getD j false = true → p j (vals j) w ∧ ∀ d, dstOf ops j = some d → a.tmps[d]? = some (vals j)
  free : ∀ t, (∀ j, j < ops.size → dstOf ops j ≠ some t) → a.tmps[t]? = a0.tmps[t]?
def Ob (P : Program) (ops : Array Oper) (Q : Exit → Act → World → Prop) (p : Nat → Value → World → Prop) (a0 : Act) (w0 : World) (i : Nat) : Prop :=
  ∀ oi, ops[i]? = some oi → ∀ (a : Act) (w : World) (vals : Nat → Value), Below w0.heap.size w0 w →
    (∀ j, needs ops i j = true → p j (vals j) w ∧ ∀ d, dstOf ops j = some d → a.tmps[d]? = some (vals j)) →
    (∀ t, (∀ j, j < ops.size → dstOf ops j ≠ some t) → a.tmps[t]? = a0.tmps[t]?) →
    ∀ K : Act → World → Prop, (∀ v w', p i v w' → Below w.heap.size w w' → K (a.put oi.dst v) w') → oi.wp P a w K Q
theorem put_get {a : Act} {d t : Nat} {v : Value} : (a.put (some d) v).tmps[t]? = if d = t then (if d < a.tmps.size then some v else none) else a.tmps[t]? := by
  show (a.tmps.setIfInBounds d v)[t]? = _
  by_cases h : d = t
  · subst h
    rw [if_pos rfl, Array.getElem?_setIfInBounds_self]
  · rw [if_neg h, Array.getElem?_setIfInBounds_ne h]
theorem RInv.step {p : Nat → Value → World → Prop} {a0 : Act} {w0 : World} {listed : Array Bool} {a : Act} {w : World} {i : Nat}
    (hd : distinctB ops = true) (hb : backB ops = true) (hf : fitsB ops a0.tmps.size = true)
    (hs : ∀ i v w w', p i v w → Below w.heap.size w w' → p i v w') (ob : Ob P ops Q p a0 w0 i)
    (h : RInv ops p a0 w0 listed a w) (hi : i ∈ Region.ready .any ops listed) : wpOp P ops Q i (fun a' w' => RInv ops p a0 w0 (listed.setIfInBounds i true) a' w') a w := by
  obtain ⟨hun, oi, hoi, hall⟩ := mem_ready.1 hi
  have hlt : i < ops.size := (Array.getElem?_eq_some_iff.1 hoi).1
  obtain ⟨vals, hv⟩ := h.vals
  have hg : oi.guard = none := by
    have := List.all_eq_true.1 hb i (List.mem_range.2 hlt)
    simp only [hoi, Bool.and_eq_true, Option.isNone_iff_eq_none] at this
    exact this.1
  unfold wpOp
  rw [hoi]
  show if Region.wanted oi (yielded ops a.tmps) = true then _ else _
  rw [if_pos (by unfold Region.wanted; rw [hg])]
  refine .inl (ob oi hoi a w vals h.below ?_ h.free _ ?_)
  · intro j hj
    unfold needs at hj
    rw [hoi] at hj
    obtain ⟨e, he, h1⟩ := Array.any_eq_true'.1 hj
    simp only [Bool.and_eq_true, beq_iff_eq] at h1
    have hl := hall e he h1.1
    rw [h1.2] at hl
    have hjl : j < ops.size := by
      rcases Nat.lt_or_ge j listed.size with h' | h'
      · rw [← h.sz]; exact h'
      · simp [Array.getElem?_eq_none h'] at hl
    exact hv j hjl hl
  · intro v w' hp hbl
    have hds : dstOf ops i = oi.dst := by unfold dstOf; rw [hoi]; rfl
    have hne : ∀ j d, j < ops.size → j ≠ i → oi.dst = some d → dstOf ops j ≠ some d := by
      intro j d hj hji hdd e
      have h1 := List.all_eq_true.1 (List.all_eq_true.1 hd i (List.mem_range.2 hlt)) j (List.mem_range.2 hj)
      rw [hds, hdd, e] at h1
      simp only [Bool.or_eq_true, beq_iff_eq, Option.isNone_some, bne_self_eq_false, or_false, Bool.false_eq_true] at h1
      exact hji h1.symm
    have hfit : ∀ d, oi.dst = some d → d < a.tmps.size := by
      intro d hdd
      have h1 := List.all_eq_true.1 hf i (List.mem_range.2 hlt)
      rw [hds, hdd] at h1
      rw [h.ts]
      exact of_decide_eq_true h1
    refine ⟨by rw [Array.size_setIfInBounds]; exact h.sz, ?_, ?_, h.below.trans (hbl.mono h.below.size), ⟨fun j => if j = i then v else vals j, ?_⟩, ?_⟩
    · cases hdd : oi.dst with
      | none => exact h.df
      | some d => exact h.df
    · cases hdd : oi.dst with
      | none => exact h.ts
      | some d => show (a.tmps.setIfInBounds d v).size = _; rw [Array.size_setIfInBounds]; exact h.ts
    · intro j hj hl
      by_cases hji : j = i
      · subst hji
        dsimp only
        rw [if_pos rfl]
        refine ⟨hp, fun d hdd => ?_⟩
        rw [hds] at hdd
        rw [hdd, put_get, if_pos rfl, if_pos (hfit d hdd)]
      · dsimp only
        rw [if_neg hji]
        rw [getD_set_ne false (fun e => hji e.symm)] at hl
        obtain ⟨h1, h2⟩ := hv j hj hl
        refine ⟨hs _ _ _ _ h1 hbl, fun d hdd => ?_⟩
        cases hdi : oi.dst with
        | none => exact h2 d hdd
        | some d' =>
          rw [put_get, if_neg (fun e => hne j d' hj hji hdi (by rw [e]; exact hdd))]
          exact h2 d hdd
    · intro t ht
      cases hdi : oi.dst with
      | none => exact h.free t ht
      | some d' =>
        rw [put_get, if_neg (fun e => ht i hlt (by rw [hds, hdi, e]))]
        exact h.free t ht
def setT (ops : Array Oper) (vals : Nat → Value) (t : Array Value) (i : Nat) : Array Value := match dstOf ops i with
  | some d => t.setIfInBounds d (vals i)
  | none => t
end
inductive PK where
  | val (u : Value)
  | row (xs : List Int)
  | texts (xs : List ByteArray)
def PK.holds : PK → Value → World → Prop
  | .val u, v, _ => v = u
  | .row xs, v, w => Kd.R (Kd.int .u8) 5 w 0 (fun _ => True) v xs
  | .texts xs, v, w => Kd.R Kd.string 9 w 0 (fun _ => True) v xs
end Go.Proofs.Ytlkebjkpmiehcaa.Iv
end
section
namespace Go.Proofs.Ytlkebjkpmiehcaa.Ms
open Go.RowKit Go.Proofs.YtlkebjkpmiehcaaW.PrintWords Go.Proofs.YtlkebjkpmiehcaaW.PrintLast Go.Proofs.YtlkebjkpmiehcaaW.PrintMore Go.Proofs.Ytlkebjkpmiehcaa.X Go.Proofs.Ytlkebjkpmiehcaa.Iv
set_option linter.unusedVariables false
set_option linter.unusedSimpArgs false
theorem toNat_ofInt64 (x : Int) : (BitVec.ofInt 64 x).toNat = (x % 18446744073709551616).toNat := by
  rw [BitVec.toNat_ofInt]
  have : ((2 ^ 64 : Nat) : Int) = 18446744073709551616 := rfl
  rw [this]
theorem and_mask (x : Int) (i : Nat) (hi : i ≤ 62) : Go.bits .and .i64 x ((2 ^ i - 1 : Nat) : Int) = x % ((2 ^ i : Nat) : Int) := by
  have hp : 0 < 2 ^ i := Nat.two_pow_pos i
  have hq : 2 ^ i ≤ 4611686018427387904 := by
    have : (4611686018427387904 : Nat) = 2 ^ 62 := by decide
    rw [this]; exact Nat.pow_le_pow_right (by decide) hi
  have hd : ((2 ^ i : Nat) : Int) ∣ 18446744073709551616 := by
    have h1 : (2 ^ i : Nat) ∣ 2 ^ 64 := Nat.pow_dvd_pow 2 (by omega)
    have h2 : ((2 ^ 64 : Nat) : Int) = 18446744073709551616 := rfl
    rw [← h2]
    exact Int.natCast_dvd_natCast.mpr h1
  have e2 : (BitVec.ofInt 64 x &&& BitVec.ofInt 64 ((2 ^ i - 1 : Nat) : Int)).toNat = (x % 18446744073709551616).toNat % 2 ^ i := by
    have hm : 2 ^ i - 1 < 2 ^ 64 := by
      have : (2 : Nat) ^ 64 = 18446744073709551616 := by decide
      omega
    rw [BitVec.toNat_and, BitVec.ofInt_natCast, BitVec.toNat_ofNat, Nat.mod_eq_of_lt hm, toNat_ofInt64, Nat.and_two_pow_sub_one_eq_mod]
  have e0 : Go.bits .and .i64 x ((2 ^ i - 1 : Nat) : Int) = IntKind.i64.wrap (((BitVec.ofInt 64 x &&& BitVec.ofInt 64 ((2 ^ i - 1 : Nat) : Int)).toNat : Nat) : Int) := rfl
  rw [e0, e2]
  generalize 2 ^ i = m at *
  have hb := Int.emod_nonneg x (b := (m : Int)) (by omega)
  have hl := Int.emod_lt_of_pos x (b := (m : Int)) (by omega)
  have hn := Int.emod_nonneg x (b := 18446744073709551616) (by decide)
  have hz := Int.emod_emod_of_dvd x hd
  rw [Int.natCast_emod, Int.toNat_of_nonneg hn, hz, Go.Proofs.Ytlkebjkpmiehcaa.Pure.wraps_i64 _ hb (by omega)]
theorem ob_cat {oi : Oper} {a : Act} {w : World} {x y : Operand} {s t : ByteArray} (ho : oi.op = .binOp .add 9 x y 9) (hx : a.eval x = .string s) (hy : a.eval y = .string t) (hz : s.size + t.size ≤ 9223372036854775807) : (execOp a.eval oi).run Try.prog w = .ok (.value (.string (s ++ t))) w := by
  have c1 := eq_true hz
  have c2 : (9223372036854775807 < s.size + t.size) = False := eq_false (Nat.not_lt.2 hz)
  unfold execOp
  simp only [ho, hx, hy]
  first | (go_simp; done) | (go_simp; rfl)
end Go.Proofs.Ytlkebjkpmiehcaa.Ms
end
section
namespace Go.Proofs.Ytlkebjkpmiehcaa.Ms
open Go.RowKit Go.Proofs.YtlkebjkpmiehcaaW.PrintWords Go.Proofs.YtlkebjkpmiehcaaW.PrintLast Go.Proofs.YtlkebjkpmiehcaaW.PrintMore Go.Proofs.Ytlkebjkpmiehcaa.X Go.Proofs.Ytlkebjkpmiehcaa.Iv
set_option linter.unusedVariables false
set_option linter.unusedSimpArgs false
section
variable {ops : Array Oper} {rest : List Oper} {o : Oper} {a : Act} {Q : Exit → Act → World → Prop} {w : World}
theorem catV (s t u : ByteArray) (hu : s ++ t = u) (hz : s.size + t.size ≤ 9223372036854775807) {x y : Operand} (hgd : o.guard = none) (ho : o.op = .binOp .add 9 x y 9) (hx : a.eval x = .string s) (hy : a.eval y = .string t)
    (H : wpList Try.prog ops Q rest (a.put o.dst (.string u)) w) : wpList Try.prog ops Q (o :: rest) a w := by
  rw [← hu] at H
  exact Kd.event_run hgd (ob_cat ho hx hy hz) H
end
end Go.Proofs.Ytlkebjkpmiehcaa.Ms
end
section
namespace Go.Proofs.YtlkebjkpmiehcaaW.PrintWords
open Go.RowKit
set_option linter.unusedVariables false
def strip (o : Oper) : Oper := { o with after := #[], pos := "" }
section
variable {P : Program} {ops : Array Oper} {rest : List Oper} {o : Oper} {a : Act} {Q : Exit → Act → World → Prop} {w : World}
theorem yielded_strip (ops : Array Oper) (tmps : Array Value) : yielded (ops.map strip) tmps = yielded ops tmps := by
  funext j
  unfold yielded
  rw [Array.getElem?_map]
  cases ops[j]? <;> rfl
theorem wpList_strip_eq : ∀ rest : List Oper, wpList P (ops.map strip) Q (rest.map strip) = wpList P ops Q rest
  | [] => rfl
  | o :: rest => by
    funext a w
    rw [List.map_cons, wpList, wpList, yielded_strip, wpList_strip_eq rest]
    rfl
theorem wpList_strip (rest : List Oper) (a : Act) (w : World) (h : wpList P (ops.map strip) Q (rest.map strip) a w) : wpList P ops Q rest a w := by
  rw [wpList_strip_eq] at h
  exact h
end
end Go.Proofs.YtlkebjkpmiehcaaW.PrintWords
end
