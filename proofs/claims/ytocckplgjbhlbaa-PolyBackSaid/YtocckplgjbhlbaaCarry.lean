/- poly's carry, walked. Conditions: the five limbs lie in one block. -/
import Derived.Test.YtocckplgjbhlbaaXor
namespace Go.Proofs.Ytocckplgjbhlbaa.Pol
open Go.RowKit Go.Proofs.YtocckplgjbhlbaaW.PrintWords Go.Proofs.Ytocckplgjbhlbaa.Cha
set_option linter.unusedVariables false
theorem ix68 (g o i : Nat) (h : i < 5) (W : World) : (Instr.indexAt 68 (.pointer (some ⟨g, o, none⟩)) (.int .i64 (i : Int))).run Try.prog W = .ok (.pointer (some ⟨g, o + i, none⟩)) W := by
  have hl : Try.prog.arrayLen 68 = 5 := by kernel_rfl
  have he : Try.prog.elem 68 = 66 := by kernel_rfl
  have hs : (sizeOf 66).run Try.prog W = .ok 1 W := by kernel_rfl
  rw [run_indexAt_array (P := Try.prog) (w := W) 68 ⟨g, o, none⟩ .i64 i (by rw [hl, he]; exact Try.underlying68)]
  rw [hl, he, if_pos (by omega), hs]
  simp [Addr.add, Result.andThen]
/-- One limb gives on what is above 26 bits. -/
def give (o : Nat) (y : List Int) (i : Nat) : List Int :=
  if i % 5 = 4 then (y.set (o + i % 5) (Go.bits .and .u64 (gx y (o + i % 5)) 67108863)).set o (IntKind.u64.wrap (gx (y.set (o + i % 5) (Go.bits .and .u64 (gx y (o + i % 5)) 67108863)) o + IntKind.u64.wrap (5 * (gx y (o + i % 5) / 67108864))))
  else (y.set (o + i % 5) (Go.bits .and .u64 (gx y (o + i % 5)) 67108863)).set (o + (i % 5 + 1)) (IntKind.u64.wrap (gx (y.set (o + i % 5) (Go.bits .and .u64 (gx y (o + i % 5)) 67108863)) (o + (i % 5 + 1)) + gx y (o + i % 5) / 67108864))
def given (o : Nat) (xs : List Int) : Nat → List Int
  | 0 => xs
  | i + 1 => give o (given o xs i) i
theorem give_length (o : Nat) (y : List Int) (i : Nat) : (give o y i).length = y.length := by unfold give; split <;> simp
theorem given_length (o : Nat) (xs : List Int) : ∀ i, (given o xs i).length = xs.length
  | 0 => rfl
  | i + 1 => by rw [given, give_length, given_length o xs i]
set_option maxRecDepth 100000 in
set_option maxHeartbeats 4000000 in
theorem carry_calls (g t o : Nat) (xs : List Int) (ho : o + 5 ≤ xs.length) (w : World) (h : Arr .u64 w g t xs) :
    Calls Try.prog 54 #[.pointer (some ⟨g, o, none⟩)] w fun e w' => e = .returned (.tuple #[]) ∧ Arr .u64 w' g t (given o xs 6) ∧ w.grownBy w' (some g) := by
  have HX := Aside0.mk h
  clear h
  go_enter Try.func54, Try.ntmps54
  go_wp2
  go_loopw [4] (fun v wr => ∃ i : Nat, i ≤ 6 ∧ v = .int .i64 i ∧ Aside0 (Arr .u64 wr g t (given o xs i)) ∧ Aside0 (w.grownBy wr (some g))) (fun v _ => 6 - (intOf v).toNat)
  case atStart => exact ⟨0, by omega, rfl, HX, ⟨grown_refl _ _⟩⟩
  case round =>
  obtain ⟨i, hi, rfl, HXi, HGi⟩ := hrel
  by_cases hlt : i < 6
  · have t1 : decide ((i : Int) < 6) = true := decide_eq_true (by omega)
    obtain ⟨y, hy⟩ : ∃ y, y = given o xs i := ⟨_, rfl⟩
    have HYE := Aside0.mk hy
    have hyl : o + 5 ≤ y.length := by rw [hy, given_length]; exact ho
    rw [← hy] at HXi
    clear hy
    obtain ⟨j, hj⟩ : ∃ j, j = i % 5 := ⟨_, rfl⟩
    have HJE := Aside0.mk hj
    have hj5 : j < 5 := by omega
    have z2 : (i : Int).tmod 5 = (j : Int) := by rw [Int.tmod_eq_emod_of_nonneg (by omega)]; omega
    have z2' : (i : Int) % 5 = (j : Int) := by omega
    have z3 : IntKind.i64.wrap (j : Int) = (j : Int) := IntWalk.i64_in _ (by omega)
    clear hj
    have ia := ix68 g o j hj5
    have ca := HXi.out.cell (o + j) (by omega)
    have fa := HXi.out.frozen (o + j)
    go_wp2
    refine wp_region_quiet_tail 9 (by kernel_rfl) (by kernel_rfl) ?_
    simp only [List.take_succ_cons, List.take_zero, List.drop_succ_cons, List.drop_zero]
    repeat (quiet_step (fail))
    refine wpQuiet_nil ?_
    intro nq
    refine Arr.store (g := g) (k := .u64) (xs := y) (t := t) rfl rfl (o + j) (Go.bits .and .u64 (gx y (o + j)) 67108863) ?hs (HXi.out.drewN nq) ?_
    case hs => (first | (go_simp; done) | (go_simp; rfl))
    intro w5 k5 g5
    obtain ⟨y1, hy1⟩ : ∃ y1, y1 = y.set (o + j) (Go.bits .and .u64 (gx y (o + j)) 67108863) := ⟨_, rfl⟩
    have HY1 := Aside0.mk hy1
    have hy1l : o + 5 ≤ y1.length := by rw [hy1, List.length_set]; exact hyl
    rw [← hy1] at k5
    have HX5 := Aside0.mk k5
    have HG5 := Aside0.mk (grown_trans (grown_trans HGi.out (grown_drewN _ nq _)) g5)
    clear k5 g5 ia ca fa hy1
    by_cases hj4 : j = 4
    · have t2 : ((j : Int) == 4) = true := beq_iff_eq.mpr (by omega)
      have ib : ∀ W, (Instr.indexAt 68 (.pointer (some ⟨g, o, none⟩)) (.int .i64 0)).run Try.prog W = .ok (.pointer (some ⟨g, o, none⟩)) W := fun W => ix68 g o 0 (by omega) W
      have cb := HX5.out.cell o (by omega)
      have fb := HX5.out.frozen o
      go_wp2
      refine wp_region_quiet_tail 9 (by kernel_rfl) (by kernel_rfl) ?_
      simp only [List.take_succ_cons, List.take_zero, List.drop_succ_cons, List.drop_zero]
      repeat (quiet_step (fail))
      refine wpQuiet_nil ?_
      intro nq
      refine Arr.store (g := g) (k := .u64) (xs := y1) (t := t) rfl rfl o (IntKind.u64.wrap (gx y1 o + IntKind.u64.wrap (5 * (gx y (o + j) / 67108864)))) ?hs2 (HX5.out.drewN nq) ?_
      case hs2 => (first | (go_simp; done) | (go_simp; rfl))
      intro w6 k6 g6
      have hgv : given o xs (i + 1) = y1.set o (IntKind.u64.wrap (gx y1 o + IntKind.u64.wrap (5 * (gx y (o + j) / 67108864)))) := by
        rw [given, ← HYE.out, give, ← HJE.out, if_pos hj4, ← HY1.out]
      rw [← hgv] at k6
      have HX6 := Aside0.mk k6
      have HG6 := Aside0.mk (grown_trans (grown_trans HG5.out (grown_drewN _ nq _)) g6)
      clear k6 g6 ib cb fb hgv
      go_wp2
      go_roundw
      case rel => first | exact ⟨i + 1, by omega, by go_num, HX6, HG6⟩ | ((repeat apply Exists.intro); exact ⟨⟨i + 1, by omega, by go_num, HX6, HG6⟩, rfl⟩)
      case measure => simp [intOf]; omega
    · have t2 : ((j : Int) == 4) = false := beq_eq_false_iff_ne.mpr (by omega)
      have ib := ix68 g o (j + 1) (by omega)
      have ej : ((j + 1 : Nat) : Int) = (j : Int) + 1 := by omega
      rw [ej] at ib
      have z4 : IntKind.i64.wrap ((j : Int) + 1) = (j : Int) + 1 := IntWalk.i64_in _ (by omega)
      have cb := HX5.out.cell (o + (j + 1)) (by omega)
      have fb := HX5.out.frozen (o + (j + 1))
      go_wp2
      refine wp_region_quiet_tail 11 (by kernel_rfl) (by kernel_rfl) ?_
      simp only [List.take_succ_cons, List.take_zero, List.drop_succ_cons, List.drop_zero]
      repeat (quiet_step (fail))
      refine wpQuiet_nil ?_
      intro nq
      refine Arr.store (g := g) (k := .u64) (xs := y1) (t := t) rfl rfl (o + (j + 1)) (IntKind.u64.wrap (gx y1 (o + (j + 1)) + gx y (o + j) / 67108864)) ?hs3 (HX5.out.drewN nq) ?_
      case hs3 => (first | (go_simp; done) | (go_simp; rfl))
      intro w6 k6 g6
      have hgv : given o xs (i + 1) = y1.set (o + (j + 1)) (IntKind.u64.wrap (gx y1 (o + (j + 1)) + gx y (o + j) / 67108864)) := by
        rw [given, ← HYE.out, give, ← HJE.out, if_neg hj4, ← HY1.out]
      rw [← hgv] at k6
      have HX6 := Aside0.mk k6
      have HG6 := Aside0.mk (grown_trans (grown_trans HG5.out (grown_drewN _ nq _)) g6)
      clear k6 g6 ib cb fb hgv
      go_wp2
      go_roundw
      case rel => first | exact ⟨i + 1, by omega, by go_num, HX6, HG6⟩ | ((repeat apply Exists.intro); exact ⟨⟨i + 1, by omega, by go_num, HX6, HG6⟩, rfl⟩)
      case measure => simp [intOf]; omega
  obtain rfl : i = 6 := by omega
  go_wp2
  first
  | (go_end0
     exact ⟨rfl, HXi.out, HGi.out⟩)
  | (go_ret
     exact ⟨rfl, HXi.out, HGi.out⟩)
end Go.Proofs.Ytocckplgjbhlbaa.Pol
