/- poly's whole, walked. Conditions: five limbs. -/
import Derived.Test.YtocckplgjbhlbaaAll
namespace Go.Proofs.Ytocckplgjbhlbaa.Pol
open Go.RowKit Go.Proofs.YtocckplgjbhlbaaW.PrintWords Go.Proofs.Ytocckplgjbhlbaa.Cha
set_option linter.unusedVariables false
def twice (xs : List Int) : List Int := given 0 (given 0 xs 6) 6
theorem twice_length (xs : List Int) : (twice xs).length = xs.length := by rw [twice, given_length, given_length]
def pull (y : List Int) (i : Nat) : List Int := y.set (i + 1) (IntKind.u64.wrap (gx y (i + 1) + gx y i / 67108864))
def push (y : List Int) (i : Nat) : List Int := y.set i (Go.bits .and .u64 (gx y i) 67108863)
def over5 (xs : List Int) : Nat → List Int
  | 0 => xs.set 0 (IntKind.u64.wrap (gx xs 0 + 5))
  | i + 1 => push (pull (over5 xs i) i) i
theorem over5_length (xs : List Int) : ∀ i, (over5 xs i).length = xs.length
  | 0 => by rw [over5, List.length_set]
  | i + 1 => by rw [over5, push, pull, List.length_set, List.length_set, over5_length xs i]
def wholed (xs : List Int) : List Int := if gx (over5 (twice xs) 4) 4 / 67108864 > 0 then push (over5 (twice xs) 4) 4 else twice xs
theorem wholed_length (xs : List Int) : (wholed xs).length = xs.length := by
  unfold wholed push
  split
  · rw [List.length_set, over5_length, twice_length]
  · rw [twice_length]
set_option maxRecDepth 100000 in
set_option maxHeartbeats 4000000 in
theorem whole_calls (xs : List Int) (hx : xs.length = 5) (w : World) :
    Calls Try.prog 44 #[agg .u64 xs] w fun e w' => e = .returned (agg .u64 (wholed xs)) ∧ Below w.heap.size w w' := by
  have HC := Aside0.mk (fun g (ys : List Int) (hy : ys.length = 5) W hW => carry_calls g 68 0 ys (by omega) W hW)
  have HL0 := Aside0.mk hx
  have HL1 := Aside0.mk (show (given 0 xs 6).length = 5 from by rw [given_length]; exact hx)
  have HL2 := Aside0.mk (show (twice xs).length = 5 from by rw [twice_length]; exact hx)
  go_enter Try.func44, Try.ntmps44
  go_wp2_with (first | ((with_reducible refine gate_dst (N := 1) rfl ?_); refine Arr.box (k := .u64) (xs := xs) rfl 68 _ rfl rfl ?_; intro g1 eg w1 k1 b1; have HX1 := Aside0.mk k1; have HB1 := Aside0.mk b1; have HG1 := Aside0.mk (show w.heap.size ≤ g1 from by rw [eg]; exact Nat.le_refl _); clear k1 b1 eg) | ((with_reducible refine gate_dst (N := 2) rfl ?_); refine box_event ?hg (N := 2) ?hd (cs := ((List.replicate 5 (0 : Int)).map (Value.int .u64)).toArray) (t := 68) ?hr ?_; (case hd => rfl); (case hg => rfl); (case hr => first | (go_simp; done) | (go_simp; rfl)); intro gr eg w2 k2 b2; have HR2 := Aside0.mk (show Arr .u64 w2 gr 68 (List.replicate 5 0) from k2); have HX2 := Aside0.mk (HX1.out.below b2); have HB2 := Aside0.mk (below_step HB1.out b2); have HGR := Aside0.mk (show w.heap.size ≤ gr ∧ g1 < gr from by rw [eg]; exact ⟨below_size HB1.out, HX1.out.lt⟩); clear k2 b2 eg) | (go_at_call 54; first | ((with_reducible refine (HC.out g1 (given 0 xs 6) HL1.out _ HX3.out).mono ?_); rintro e w4 ⟨rfl, k4, g4⟩; have HX4 := Aside0.mk (show Arr .u64 w4 g1 68 (twice xs) from k4); have HR4 := Aside0.mk (HR3.out.grown g4 (fun e => by have := Option.some.inj e; have := HGR.out.2; omega)); have HB4 := Aside0.mk (HB3.out.grown g4 (below_size HB3.out) (fun k hk => by rw [← Option.some.inj hk]; exact HG1.out)); clear k4 g4) | ((with_reducible refine (HC.out g1 xs HL0.out _ HX2.out).mono ?_); rintro e w3 ⟨rfl, k3, g3⟩; have HX3 := Aside0.mk k3; have HR3 := Aside0.mk (HR2.out.grown g3 (fun e => by have := Option.some.inj e; have := HGR.out.2; omega)); have HB3 := Aside0.mk (HB2.out.grown g3 (below_size HB2.out) (fun k hk => by rw [← Option.some.inj hk]; exact HG1.out)); clear k3 g3)) | ((with_reducible refine gate_dst (N := 7) rfl ?_); refine Arr.load (k := .u64) (xs := twice xs) (g := g1) (t := 68) rfl 68 _ rfl rfl HX4.out _ Try.underlying68 rfl 5 (by kernel_rfl) HL2.out ?_) | ((with_reducible refine gate_dst (N := 3) rfl ?_); refine box_event ?hg (N := 3) ?hd (cs := ((List.replicate 5 (0 : Int)).map (Value.int .u64)).toArray) (t := 68) ?hr ?_; (case hd => rfl); (case hg => rfl); (case hr => first | (go_simp; done) | (go_simp; rfl)); intro gy eg w5 k5 b5; have HY5 := Aside0.mk (show Arr .u64 w5 gy 68 (List.replicate 5 0) from k5); have HX5 := Aside0.mk (HX4.out.below b5); have HR5 := Aside0.mk (HR4.out.below b5); have HB5 := Aside0.mk (below_step HB4.out b5); have HGY := Aside0.mk (show w.heap.size ≤ gy ∧ g1 < gy ∧ gr < gy from by rw [eg]; exact ⟨below_size HB4.out, HX4.out.lt, HR4.out.lt⟩); clear k5 b5 eg) | ((with_reducible refine gate_store (t := 68) (p := 3) rfl ?_); refine Arr.put (k := .u64) (g := gy) (t := 68) (xs := List.replicate 5 0) (ys := twice xs) rfl 68 _ _ rfl rfl rfl HY5.out 5 (by kernel_rfl) rfl HL2.out ?_; intro w6 k6 g6; have HY6 := Aside0.mk k6; have HX6 := Aside0.mk (HX5.out.grown g6 (fun e => by have := Option.some.inj e; have := HGY.out.2.1; omega)); have HR6 := Aside0.mk (HR5.out.grown g6 (fun e => by have := Option.some.inj e; have := HGY.out.2.2; omega)); have HB6 := Aside0.mk (HB5.out.grown g6 (below_size HB5.out) (fun k hk => by rw [← Option.some.inj hk]; exact HGY.out.1)); have i0 : ∀ W, (Instr.indexAt 68 (.pointer (some ⟨gy, 0, none⟩)) (.int .i64 0)).run Try.prog W = .ok (.pointer (some ⟨gy, 0, none⟩)) W := fun W => ix68 gy 0 0 (by omega) W; have c0 := k6.cell 0 (by rw [HL2.out]; omega); have f0 := k6.frozen 0; clear k6 g6) | ((with_reducible refine gate_store (t := 66) (p := 11) rfl ?_); refine Arr.store (g := gy) (k := .u64) (xs := twice xs) (t := 68) rfl rfl 0 (IntKind.u64.wrap (gx (twice xs) 0 + 5)) ?hs HY6.out ?_; (case hs => (first | (go_simp; done) | (go_simp; rfl))); intro w7 k7 g7; have HY7 := Aside0.mk (show Arr .u64 w7 gy 68 (over5 (twice xs) 0) from k7); have HX7 := Aside0.mk (HX6.out.grown g7 (fun e => by have := Option.some.inj e; have := HGY.out.2.1; omega)); have HR7 := Aside0.mk (HR6.out.grown g7 (fun e => by have := Option.some.inj e; have := HGY.out.2.2; omega)); have HB7 := Aside0.mk (HB6.out.grown g7 (below_size HB6.out) (fun k hk => by rw [← Option.some.inj hk]; exact HGY.out.1)); clear k7 g7 c0 f0))
  clear i0
  go_loopw [12] (fun v wr => ∃ i : Nat, i ≤ 4 ∧ v = .int .i64 i ∧ Aside0 (Arr .u64 wr g1 68 (twice xs)) ∧ Aside0 (Arr .u64 wr gr 68 (List.replicate 5 0)) ∧ Aside0 (Arr .u64 wr gy 68 (over5 (twice xs) i)) ∧ Aside0 (Below w.heap.size w wr)) (fun v _ => 4 - (intOf v).toNat)
  case atStart => exact ⟨0, by omega, rfl, HX7, HR7, HY7, HB7⟩
  case round =>
  obtain ⟨i, hi, rfl, HXi, HRi, HYi, HBi⟩ := hrel
  by_cases hlt : i < 4
  · have t1 : decide ((i : Int) < 4) = true := decide_eq_true (by omega)
    obtain ⟨y, hy⟩ : ∃ y, y = over5 (twice xs) i := ⟨_, rfl⟩
    have hyl : y.length = 5 := by rw [hy, over5_length]; exact HL2.out
    rw [← hy] at HYi
    have HYE := Aside0.mk hy
    clear hy
    have ia : ∀ W, (Instr.indexAt 68 (.pointer (some ⟨gy, 0, none⟩)) (.int .i64 (i : Int))).run Try.prog W = .ok (.pointer (some ⟨gy, i, none⟩)) W := fun W => by rw [ix68 gy 0 i (by omega) W, Nat.zero_add]
    have ib : ∀ W, (Instr.indexAt 68 (.pointer (some ⟨gy, 0, none⟩)) (.int .i64 ((i : Int) + 1))).run Try.prog W = .ok (.pointer (some ⟨gy, i + 1, none⟩)) W := fun W => by rw [show (i : Int) + 1 = ((i + 1 : Nat) : Int) by omega, ix68 gy 0 (i + 1) (by omega) W, Nat.zero_add]
    have z1 : IntKind.i64.wrap ((i : Int) + 1) = (i : Int) + 1 := IntWalk.i64_in _ (by omega)
    have ca := HYi.out.cell i (by omega)
    have cb := HYi.out.cell (i + 1) (by omega)
    have fb := HYi.out.frozen (i + 1)
    go_wp2
    refine wp_region_quiet_tail 10 (by kernel_rfl) (by kernel_rfl) ?_
    simp only [List.take_succ_cons, List.take_zero, List.drop_succ_cons, List.drop_zero]
    repeat (quiet_step (fail))
    refine wpQuiet_nil ?_
    intro nq
    refine Arr.store (g := gy) (k := .u64) (xs := y) (t := 68) rfl rfl (i + 1) (IntKind.u64.wrap (gx y (i + 1) + gx y i / 67108864)) ?hs2 (HYi.out.drewN nq) ?_
    case hs2 => (first | (go_simp; done) | (go_simp; rfl))
    intro w5 k5 g5
    obtain ⟨y1, hy1⟩ : ∃ y1, y1 = pull y i := ⟨_, rfl⟩
    have hy1l : y1.length = 5 := by rw [hy1, pull, List.length_set]; exact hyl
    have HY5' := Aside0.mk (show Arr .u64 w5 gy 68 y1 from by rw [hy1]; exact k5)
    have HY1 := Aside0.mk hy1
    have HX5' := Aside0.mk ((HXi.out.drewN nq).grown g5 (fun e => by have := Option.some.inj e; have := HGY.out.2.1; omega))
    have HR5' := Aside0.mk ((HRi.out.drewN nq).grown g5 (fun e => by have := Option.some.inj e; have := HGY.out.2.2; omega))
    have HB5' := Aside0.mk ((pw_below_drewN HBi.out nq).grown g5 (below_size (pw_below_drewN HBi.out nq)) (fun k hk => by rw [← Option.some.inj hk]; exact HGY.out.1))
    clear k5 g5 ca cb fb hy1 ib
    have ca := HY5'.out.cell i (by omega)
    have fa := HY5'.out.frozen i
    go_wp2_with ((with_reducible refine gate_store (t := 66) (p := 29) rfl ?_); refine Arr.store (g := gy) (k := .u64) (xs := y1) (t := 68) rfl rfl i (Go.bits .and .u64 (gx y1 i) 67108863) ?hs HY5'.out ?_; (case hs => (first | (go_simp; done) | (go_simp; rfl))); intro w6 k6 g6; have HY6' := Aside0.mk (show Arr .u64 w6 gy 68 (over5 (twice xs) (i + 1)) from by rw [over5, ← HYE.out, ← HY1.out]; exact k6); have HX6' := Aside0.mk (HX5'.out.grown g6 (fun e => by have := Option.some.inj e; have := HGY.out.2.1; omega)); have HR6' := Aside0.mk (HR5'.out.grown g6 (fun e => by have := Option.some.inj e; have := HGY.out.2.2; omega)); have HB6' := Aside0.mk (HB5'.out.grown g6 (below_size HB5'.out) (fun k hk => by rw [← Option.some.inj hk]; exact HGY.out.1)); clear k6 g6 ca fa)
    go_roundw
    case rel => first | exact ⟨i + 1, by omega, by go_num, HX6', HR6', HY6', HB6'⟩ | ((repeat apply Exists.intro); exact ⟨⟨i + 1, by omega, by go_num, HX6', HR6', HY6', HB6'⟩, rfl⟩)
    case measure => simp [intOf]; omega
  obtain rfl : i = 4 := by omega
  clear hi hlt
  obtain ⟨y, hy⟩ : ∃ y, y = over5 (twice xs) 4 := ⟨_, rfl⟩
  have hyl : y.length = 5 := by rw [hy, over5_length]; exact HL2.out
  rw [← hy] at HYi
  have i4 : ∀ W, (Instr.indexAt 68 (.pointer (some ⟨gy, 0, none⟩)) (.int .i64 4)).run Try.prog W = .ok (.pointer (some ⟨gy, 4, none⟩)) W := fun W => by have := ix68 gy 0 4 (by omega) W; rw [Nat.zero_add] at this; exact this
  have c4 := HYi.out.cell 4 (by omega)
  have f4 := HYi.out.frozen 4
  by_cases hgt : gx y 4 / 67108864 > 0
  · have t2 : decide (gx y 4 / 67108864 > 0) = true := decide_eq_true hgt
    have t2' : decide (0 < gx y 4 / 67108864) = true := decide_eq_true hgt
    have hwd := Aside0.mk (show wholed xs = push y 4 from by rw [wholed, ← hy, if_pos hgt])
    clear hy
    have hpl := Aside0.mk (show (push y 4).length = 5 from by rw [push, List.length_set]; exact hyl)
    go_wp2_with (first | ((with_reducible refine gate_store (t := 66) (p := 38) rfl ?_); refine Arr.store (g := gy) (k := .u64) (xs := y) (t := 68) rfl rfl 4 (Go.bits .and .u64 (gx y 4) 67108863) ?hs HYi.out ?_; (case hs => (first | (go_simp; done) | (go_simp; rfl))); intro w8 k8 g8; have HY8 := Aside0.mk (show Arr .u64 w8 gy 68 (push y 4) from k8); have HR8 := Aside0.mk (HRi.out.grown g8 (fun e => by have := Option.some.inj e; have := HGY.out.2.2; omega)); have HB8 := Aside0.mk (HBi.out.grown g8 (below_size HBi.out) (fun k hk => by rw [← Option.some.inj hk]; exact HGY.out.1)); clear k8 g8) | ((with_reducible refine gate_dst (N := 39) rfl ?_); refine Arr.load (k := .u64) (xs := push y 4) (g := gy) (t := 68) rfl 68 _ rfl rfl HY8.out _ Try.underlying68 rfl 5 (by kernel_rfl) hpl.out ?_) | ((with_reducible refine gate_store (t := 68) (p := 2) rfl ?_); refine Arr.put (k := .u64) (g := gr) (t := 68) (xs := List.replicate 5 0) (ys := push y 4) rfl 68 _ _ rfl rfl rfl HR8.out 5 (by kernel_rfl) rfl hpl.out ?_; intro w9 k9 g9; have H9 := Aside0.mk k9; have G9 := Aside0.mk g9; clear k9 g9))
    refine bodyPost_ret (v := agg .u64 (push y 4)) (results_cell_row rfl _ _ gr 68 _ _ _ rfl H9.out Try.underlying68 rfl ?_) rfl ⟨by rw [hwd.out], ?_⟩
    · rw [info68]
      simp [hpl.out]
    · exact HB8.out.grown G9.out (below_size HB8.out) (fun k hk => by rw [← Option.some.inj hk]; exact HGR.out.1)
  · have t2 : decide (gx y 4 / 67108864 > 0) = false := decide_eq_false hgt
    have t2' : decide (0 < gx y 4 / 67108864) = false := decide_eq_false hgt
    have hwd := Aside0.mk (show wholed xs = twice xs from by rw [wholed, ← hy, if_neg hgt])
    clear hy
    go_wp2_with (first | ((with_reducible refine gate_dst (N := 40) rfl ?_); refine Arr.load (k := .u64) (xs := twice xs) (g := g1) (t := 68) rfl 68 _ rfl rfl HXi.out _ Try.underlying68 rfl 5 (by kernel_rfl) HL2.out ?_) | ((with_reducible refine gate_store (t := 68) (p := 2) rfl ?_); refine Arr.put (k := .u64) (g := gr) (t := 68) (xs := List.replicate 5 0) (ys := twice xs) rfl 68 _ _ rfl rfl rfl HRi.out 5 (by kernel_rfl) rfl HL2.out ?_; intro w9 k9 g9; have H9 := Aside0.mk k9; have G9 := Aside0.mk g9; clear k9 g9))
    refine bodyPost_ret (v := agg .u64 (twice xs)) (results_cell_row rfl _ _ gr 68 _ _ _ rfl H9.out Try.underlying68 rfl ?_) rfl ⟨by rw [hwd.out], ?_⟩
    · rw [info68]
      simp [HL2.out]
    · exact HBi.out.grown G9.out (below_size HBi.out) (fun k hk => by rw [← Option.some.inj hk]; exact HGR.out.1)
end Go.Proofs.Ytocckplgjbhlbaa.Pol
