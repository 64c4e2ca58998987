/- poly's load, walked. Conditions: at most 16 bytes, which lie in one block. -/
import Derived.Test.YtocckplgjbhlbaaTimes
namespace Go.Proofs.Ytocckplgjbhlbaa.Pol
open Go.RowKit Go.Proofs.YtocckplgjbhlbaaW.PrintWords Go.Proofs.Ytocckplgjbhlbaa.Cha
set_option linter.unusedVariables false
theorem ix79 (g i : Nat) (h : i < 3) (W : World) : (Instr.indexAt 79 (.pointer (some ⟨g, 0, none⟩)) (.int .i64 (i : Int))).run Try.prog W = .ok (.pointer (some ⟨g, i, none⟩)) W := by
  have hl : Try.prog.arrayLen 79 = 3 := by kernel_rfl
  have he : Try.prog.elem 79 = 66 := by kernel_rfl
  have hs : (sizeOf 66).run Try.prog W = .ok 1 W := by kernel_rfl
  rw [run_indexAt_array (P := Try.prog) (w := W) 79 ⟨g, 0, none⟩ .i64 i (by rw [hl, he]; exact Try.underlying79)]
  rw [hl, he, if_pos (by omega), hs]
  simp [Addr.add, Result.andThen]
  omega
theorem info68 : (Try.prog.info? 68).map (fun i => i.size) = some 5 := by kernel_rfl
/-- The three words of j bytes. -/
def words (xs : List Int) (o : Nat) : Nat → List Int
  | 0 => List.replicate 3 0
  | j + 1 => (words xs o j).set (j / 8) (Go.bits .or .u64 (gx (words xs o j) (j / 8)) (IntKind.u64.wrap (IntKind.u64.wrap (gx xs (o + j)) * 2 ^ (8 * (j % 8)))))
theorem words_length (xs : List Int) (o : Nat) : ∀ j, (words xs o j).length = 3
  | 0 => rfl
  | j + 1 => by rw [words, List.length_set, words_length xs o j]
/-- .. with the bit behind them. -/
def bitted (xs : List Int) (o n : Nat) : List Int := (words xs o n).set (n / 8) (Go.bits .or .u64 (gx (words xs o n) (n / 8)) (IntKind.u64.wrap (1 * 2 ^ (8 * (n % 8)))))
theorem bitted_length (xs : List Int) (o n : Nat) : (bitted xs o n).length = 3 := by rw [bitted, List.length_set, words_length]
def limbs (z : List Int) : List Int :=
  [Go.bits .and .u64 (gx z 0) 67108863, Go.bits .and .u64 (gx z 0 / 67108864) 67108863, Go.bits .and .u64 (Go.bits .or .u64 (gx z 0 / 4503599627370496) (IntKind.u64.wrap (gx z 1 * 4096))) 67108863,
   Go.bits .and .u64 (gx z 1 / 16384) 67108863, Go.bits .or .u64 (gx z 1 / 1099511627776) (IntKind.u64.wrap (gx z 2 * 16777216))]
set_option maxRecDepth 100000 in
set_option maxHeartbeats 4000000 in
theorem load_calls (g o n c : Nat) (xs : List Int) (hn : n ≤ 16) (ho : o + n ≤ xs.length) (w : World) (h : Bts w g xs) :
    Calls Try.prog 42 #[.slice (some ⟨g, o, none⟩) n c] w fun e w' => e = .returned (agg .u64 (limbs (bitted xs o n))) ∧ Below w.heap.size w w' := by
  have HX := Aside0.mk h
  clear h
  go_enter Try.func42, Try.ntmps42
  go_wp2_with (first | ((with_reducible refine gate_dst (N := 2) rfl ?_); refine box_event ?hg (N := 2) ?hd (cs := ((List.replicate 5 (0 : Int)).map (Value.int .u64)).toArray) (t := 68) ?hr ?_; (case hd => rfl); (case hg => rfl); (case hr => first | (go_simp; done) | (go_simp; rfl)); intro gr eg w2 k2 b2; have HR2 := Aside0.mk (show Arr .u64 w2 gr 68 (List.replicate 5 0) from k2); have HX2 := Aside0.mk (HX.out.below b2); have HB2 := Aside0.mk b2; have HGR := Aside0.mk (show w.heap.size ≤ gr from by rw [eg]; exact Nat.le_refl _); clear k2 b2 eg) | ((with_reducible refine gate_dst (N := 3) rfl ?_); refine box_event ?hg (N := 3) ?hd (cs := ((List.replicate 3 (0 : Int)).map (Value.int .u64)).toArray) (t := 79) ?hr ?_; (case hd => rfl); (case hg => rfl); (case hr => first | (go_simp; done) | (go_simp; rfl)); intro gw eg w3 k3 b3; have HW3 := Aside0.mk (show Arr .u64 w3 gw 79 (words xs o 0) from k3); have HX3 := Aside0.mk (HX2.out.below b3); have HR3 := Aside0.mk (HR2.out.below b3); have HB3 := Aside0.mk (below_step HB2.out b3); have HGW := Aside0.mk (show w.heap.size ≤ gw ∧ gr < gw ∧ g < gw from by rw [eg]; exact ⟨below_size HB2.out, HR2.out.lt, HX2.out.1⟩); clear k3 b3 eg))
  go_loopw [8] (fun v wr => ∃ j : Nat, j ≤ n ∧ v = .int .i64 j ∧ Aside0 (Bts wr g xs) ∧ Aside0 (Arr .u64 wr gr 68 (List.replicate 5 0)) ∧ Aside0 (Arr .u64 wr gw 79 (words xs o j)) ∧ Aside0 (Below w.heap.size w wr)) (fun v _ => n - (intOf v).toNat)
  case atStart => exact ⟨0, by omega, rfl, HX3, HR3, HW3, HB3⟩
  case round =>
  obtain ⟨j, hj, rfl, HXj, HRj, HWj, HBj⟩ := hrel
  by_cases hlt : j < n
  · have t1 : decide ((j : Int) < (n : Int)) = true := decide_eq_true (by omega)
    obtain ⟨q, hq⟩ : ∃ q, q = j / 8 := ⟨_, rfl⟩
    obtain ⟨m, hm⟩ : ∃ m, m = j % 8 := ⟨_, rfl⟩
    have HQE := Aside0.mk hq
    have HME := Aside0.mk hm
    have hq3 : q < 3 := by omega
    have hm8 : m < 8 := by omega
    have z1 : IntKind.i64.wrap ((j : Int) / 8) = (q : Int) := by rw [IntWalk.i64_in _ (by omega)]; omega
    have z1' : (j : Int) / 8 = (q : Int) := by omega
    have z1q : IntKind.i64.wrap (q : Int) = (q : Int) := IntWalk.i64_in _ (by omega)
    have z1'' : (j : Int).tdiv 8 = (q : Int) := by rw [Int.tdiv_eq_ediv_of_nonneg (by omega)]; omega
    have z2 : (j : Int).tmod 8 = (m : Int) := by rw [Int.tmod_eq_emod_of_nonneg (by omega)]; omega
    have z2' : (j : Int) % 8 = (m : Int) := by omega
    have z3 : IntKind.i64.wrap (m : Int) = (m : Int) := IntWalk.i64_in _ (by omega)
    have z4 : IntKind.i64.wrap (8 * (m : Int)) = 8 * (m : Int) := IntWalk.i64_in _ (by omega)
    have p0 : ((0 : Int) ≤ 8 * (m : Int)) = True := eq_true (by omega)
    have p1 : (8 * (m : Int) ≤ 64) = True := eq_true (by omega)
    have z5 : (8 * (m : Int)).toNat = 8 * m := by omega
    clear hq hm
    have ia := ixo g o n c j hlt
    have ca := HXj.out.cell (o + j) (by omega)
    have ib := ix79 gw q hq3
    have cb := HWj.out.cell q (by rw [words_length]; omega)
    have fb := HWj.out.frozen q
    go_wp2
    refine wp_region_quiet_tail 12 (by kernel_rfl) (by kernel_rfl) ?_
    simp only [List.take_succ_cons, List.take_zero, List.drop_succ_cons, List.drop_zero]
    repeat (quiet_step (fail))
    refine wpQuiet_nil ?_
    intro nq
    refine Arr.store (g := gw) (k := .u64) (xs := words xs o j) (t := 79) rfl rfl q (Go.bits .or .u64 (gx (words xs o j) q) (IntKind.u64.wrap (IntKind.u64.wrap (gx xs (o + j)) * 2 ^ (8 * m)))) ?hs (HWj.out.drewN nq) ?_
    case hs => (first | (go_simp; done) | (go_simp; rfl))
    intro w5 k5 g5
    have HW5 := Aside0.mk (show Arr .u64 w5 gw 79 (words xs o (j + 1)) from by rw [words, ← HQE.out, ← HME.out]; exact k5)
    have HX5 := Aside0.mk ((HXj.out.drewN nq).grown g5 (fun e => by have := Option.some.inj e; have := HGW.out.2.2; omega))
    have HR5 := Aside0.mk ((HRj.out.drewN nq).grown g5 (fun e => by have := Option.some.inj e; have := HGW.out.2.1; omega))
    have HB5 := Aside0.mk ((pw_below_drewN HBj.out nq).grown g5 (below_size (pw_below_drewN HBj.out nq)) (fun k hk => by rw [← Option.some.inj hk]; exact HGW.out.1))
    clear k5 g5 ia ca ib cb fb
    go_wp2
    go_roundw
    case rel => first | exact ⟨j + 1, by omega, by go_num, HX5, HR5, HW5, HB5⟩ | ((repeat apply Exists.intro); exact ⟨⟨j + 1, by omega, by go_num, HX5, HR5, HW5, HB5⟩, rfl⟩)
    case measure => simp [intOf]; omega
  obtain rfl : j = n := by omega
  clear hj hlt
  obtain ⟨q, hq⟩ : ∃ q, q = j / 8 := ⟨_, rfl⟩
  obtain ⟨m, hm⟩ : ∃ m, m = j % 8 := ⟨_, rfl⟩
  have HQE := Aside0.mk hq
  have HME := Aside0.mk hm
  have hq3 : q < 3 := by omega
  have hm8 : m < 8 := by omega
  have z1 : IntKind.i64.wrap ((j : Int) / 8) = (q : Int) := by rw [IntWalk.i64_in _ (by omega)]; omega
  have z1' : (j : Int) / 8 = (q : Int) := by omega
  have z1q : IntKind.i64.wrap (q : Int) = (q : Int) := IntWalk.i64_in _ (by omega)
  have z1'' : (j : Int).tdiv 8 = (q : Int) := by rw [Int.tdiv_eq_ediv_of_nonneg (by omega)]; omega
  have z2 : (j : Int).tmod 8 = (m : Int) := by rw [Int.tmod_eq_emod_of_nonneg (by omega)]; omega
  have z2' : (j : Int) % 8 = (m : Int) := by omega
  have z3 : IntKind.i64.wrap (m : Int) = (m : Int) := IntWalk.i64_in _ (by omega)
  have z4 : IntKind.i64.wrap (8 * (m : Int)) = 8 * (m : Int) := IntWalk.i64_in _ (by omega)
  have p0 : ((0 : Int) ≤ 8 * (m : Int)) = True := eq_true (by omega)
  have p1 : (8 * (m : Int) ≤ 64) = True := eq_true (by omega)
  clear hq hm
  have ib := ix79 gw q hq3
  have cb := HWj.out.cell q (by rw [words_length]; omega)
  have fb := HWj.out.frozen q
  go_wp2
  refine wp_region_quiet_tail 12 (by kernel_rfl) (by kernel_rfl) ?_
  simp only [List.take_succ_cons, List.take_zero, List.drop_succ_cons, List.drop_zero]
  repeat (quiet_step (fail))
  refine wpQuiet_nil ?_
  intro nq
  refine Arr.store (g := gw) (k := .u64) (xs := words xs o j) (t := 79) rfl rfl q (Go.bits .or .u64 (gx (words xs o j) q) (IntKind.u64.wrap (1 * 2 ^ (8 * m)))) ?hs2 (HWj.out.drewN nq) ?_
  case hs2 => (first | (go_simp; done) | (go_simp; rfl))
  intro w5 k5 g5
  obtain ⟨z, hz⟩ : ∃ z, z = bitted xs o j := ⟨_, rfl⟩
  have HZE := Aside0.mk hz
  have hzl : z.length = 3 := by rw [hz, bitted_length]
  have HW5 := Aside0.mk (show Arr .u64 w5 gw 79 z from by rw [hz, bitted, ← HQE.out, ← HME.out]; exact k5)
  have HR5 := Aside0.mk ((HRj.out.drewN nq).grown g5 (fun e => by have := Option.some.inj e; have := HGW.out.2.1; omega))
  have HB5 := Aside0.mk ((pw_below_drewN HBj.out nq).grown g5 (below_size (pw_below_drewN HBj.out nq)) (fun k hk => by rw [← Option.some.inj hk]; exact HGW.out.1))
  clear k5 g5 ib cb fb hz
  have i0 : ∀ W, (Instr.indexAt 79 (.pointer (some ⟨gw, 0, none⟩)) (.int .i64 0)).run Try.prog W = .ok (.pointer (some ⟨gw, 0, none⟩)) W := fun W => ix79 gw 0 (by omega) W
  have i1 : ∀ W, (Instr.indexAt 79 (.pointer (some ⟨gw, 0, none⟩)) (.int .i64 1)).run Try.prog W = .ok (.pointer (some ⟨gw, 1, none⟩)) W := fun W => ix79 gw 1 (by omega) W
  have i2 : ∀ W, (Instr.indexAt 79 (.pointer (some ⟨gw, 0, none⟩)) (.int .i64 2)).run Try.prog W = .ok (.pointer (some ⟨gw, 2, none⟩)) W := fun W => ix79 gw 2 (by omega) W
  have c0 := HW5.out.cell 0 (by omega)
  have c1 := HW5.out.cell 1 (by omega)
  have c2 := HW5.out.cell 2 (by omega)
  go_wp2_with ((with_reducible refine gate_store (t := 68) (p := 2) rfl ?_); refine Arr.put (k := .u64) (g := gr) (t := 68) (xs := List.replicate 5 0) (ys := limbs z) rfl 68 _ _ rfl rfl ?hy HR5.out 5 (by kernel_rfl) rfl rfl ?_; (case hy => (first | (go_simp; done) | (go_simp; rfl))); intro w9 k9 g9; have H9 := Aside0.mk k9; have G9 := Aside0.mk g9; clear k9 g9)
  rw [← HZE.out]
  refine bodyPost_ret (v := agg .u64 (limbs z)) (results_cell_row rfl _ _ gr 68 _ _ _ rfl H9.out Try.underlying68 rfl ?_) rfl ⟨rfl, ?_⟩
  · rw [info68]
    rfl
  · exact HB5.out.grown G9.out (below_size HB5.out) (fun k hk => by rw [← Option.some.inj hk]; exact HGR.out)
end Go.Proofs.Ytocckplgjbhlbaa.Pol
