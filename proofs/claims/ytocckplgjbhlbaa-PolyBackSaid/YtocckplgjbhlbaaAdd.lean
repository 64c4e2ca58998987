/- poly's add, walked. Conditions: the sum lies in one block, the bytes in another. -/
import Derived.Test.YtocckplgjbhlbaaLoad
namespace Go.Proofs.Ytocckplgjbhlbaa.Pol
open Go.RowKit Go.Proofs.YtocckplgjbhlbaaW.PrintWords Go.Proofs.Ytocckplgjbhlbaa.Cha
set_option linter.unusedVariables false
/-- A number's limbs added to those behind the fifth. -/
def plus (xs y : List Int) : Nat → List Int
  | 0 => xs
  | i + 1 => (plus xs y i).set (5 + i) (IntKind.u64.wrap (gx (plus xs y i) (5 + i) + gx y i))
theorem plus_length (xs y : List Int) : ∀ i, (plus xs y i).length = xs.length
  | 0 => rfl
  | i + 1 => by rw [plus, List.length_set, plus_length xs y i]
/-- The sum behind one block. -/
def added (xs bs : List Int) (o n : Nat) : List Int := timesd (plus xs (limbs (bitted bs o n)) 5) 5 0
theorem added_length (xs bs : List Int) (o n : Nat) : (added xs bs o n).length = xs.length := by rw [added, timesd_length, plus_length]
set_option maxRecDepth 100000 in
set_option maxHeartbeats 4000000 in
theorem add_calls (g t : Nat) (xs : List Int) (hx : xs.length = 10) (gb o n c : Nat) (bs : List Int) (hn : n ≤ 16) (ho : o + n ≤ bs.length) (hne : gb ≠ g) (w : World) (h : Arr .u64 w g t xs) (hb : Bts w gb bs) :
    Calls Try.prog 43 #[.pointer (some ⟨g, 0, none⟩), .slice (some ⟨gb, o, none⟩) n c] w fun e w' => e = .returned (.tuple #[]) ∧ Arr .u64 w' g t (added xs bs o n) ∧ w.grownBy w' (some g) := by
  have HX := Aside0.mk h
  have HB := Aside0.mk hb
  clear h
  have HLc := Aside0.mk (fun W hW => load_calls gb o n c bs hn ho W hW)
  obtain ⟨y, hy⟩ : ∃ y, y = limbs (bitted bs o n) := ⟨_, rfl⟩
  have hyl : y.length = 5 := by rw [hy]; rfl
  have HYE := Aside0.mk hy
  rw [← hy] at HLc
  clear hy hb
  go_enter Try.func43, Try.ntmps43
  go_wp2_with (first | (go_at_call 42; (with_reducible refine (HLc.out _ HB.out).mono ?_); rintro e w1 ⟨rfl, b1⟩; have HX1 := Aside0.mk (HX.out.below b1); have HG1 := Aside0.mk (grown_below (grown_refl w (some g)) b1); clear b1) | ((with_reducible refine gate_dst (N := 4) rfl ?_); refine box_event ?hg (N := 4) ?hd (cs := ((List.replicate 5 (0 : Int)).map (Value.int .u64)).toArray) (t := 68) ?hr ?_; (case hd => rfl); (case hg => rfl); (case hr => first | (go_simp; done) | (go_simp; rfl)); intro gy eg w2 k2 b2; have HY2 := Aside0.mk (show Arr .u64 w2 gy 68 (List.replicate 5 0) from k2); have HX2 := Aside0.mk (HX1.out.below b2); have HG2 := Aside0.mk (grown_below HG1.out b2); have HGY := Aside0.mk (show w.heap.size ≤ gy ∧ g < gy from by rw [eg]; exact ⟨HG1.out.size, HX1.out.lt⟩); clear k2 b2 eg) | ((with_reducible refine gate_store (t := 68) (p := 4) rfl ?_); refine Arr.put (k := .u64) (g := gy) (t := 68) (xs := List.replicate 5 0) (ys := y) rfl 68 _ _ rfl rfl rfl HY2.out 5 (by kernel_rfl) rfl hyl ?_; intro w3 k3 g3; have HY3 := Aside0.mk k3; have HX3 := Aside0.mk (show Arr .u64 w3 g t (plus xs y 0) from HX2.out.grown g3 (fun e => by have := Option.some.inj e; have := HGY.out.2; omega)); have HG3 := Aside0.mk (grown_new HG2.out g3 HGY.out.1); clear k3 g3))
  go_loopw [8] (fun v wr => ∃ i : Nat, i ≤ 5 ∧ v = .int .i64 i ∧ Aside0 (Arr .u64 wr g t (plus xs y i)) ∧ Aside0 (Arr .u64 wr gy 68 y) ∧ Aside0 (w.grownBy wr (some g))) (fun v _ => 5 - (intOf v).toNat)
  case atStart => exact ⟨0, by omega, rfl, HX3, HY3, HG3⟩
  case round =>
  obtain ⟨i, hi, rfl, HXi, HYi, HGi⟩ := hrel
  by_cases hlt : i < 5
  · have t1 : decide ((i : Int) < 5) = true := decide_eq_true (by omega)
    have ia := ix68 g 5 i hlt
    have ib : ∀ W, (Instr.indexAt 68 (.pointer (some ⟨gy, 0, none⟩)) (.int .i64 (i : Int))).run Try.prog W = .ok (.pointer (some ⟨gy, i, none⟩)) W := fun W => by rw [ix68 gy 0 i hlt W, Nat.zero_add]
    have ca := HXi.out.cell (5 + i) (by rw [plus_length]; omega)
    have fa := HXi.out.frozen (5 + i)
    have cb := HYi.out.cell i (by omega)
    go_wp2
    refine wp_region_quiet_tail 13 (by kernel_rfl) (by kernel_rfl) ?_
    simp only [List.take_succ_cons, List.take_zero, List.drop_succ_cons, List.drop_zero]
    repeat (quiet_step (fail))
    refine wpQuiet_nil ?_
    intro nq
    refine Arr.store (g := g) (k := .u64) (xs := plus xs y i) (t := t) rfl rfl (5 + i) (IntKind.u64.wrap (gx (plus xs y i) (5 + i) + gx y i)) ?hs (HXi.out.drewN nq) ?_
    case hs => (first | (go_simp; done) | (go_simp; rfl))
    intro w5 k5 g5
    have HX5 := Aside0.mk (show Arr .u64 w5 g t (plus xs y (i + 1)) from k5)
    have HY5 := Aside0.mk ((HYi.out.drewN nq).grown g5 (fun e => by have := Option.some.inj e; have := HGY.out.2; omega))
    have HG5 := Aside0.mk (grown_trans (grown_trans HGi.out (grown_drewN _ nq _)) g5)
    clear k5 g5 ia ca ib cb fa
    go_wp2
    go_roundw
    case rel => first | exact ⟨i + 1, by omega, by go_num, HX5, HY5, HG5⟩ | ((repeat apply Exists.intro); exact ⟨⟨i + 1, by omega, by go_num, HX5, HY5, HG5⟩, rfl⟩)
    case measure => simp [intOf]; omega
  obtain rfl : i = 5 := by omega
  clear hi hlt
  go_wp2
  refine wp_region_quiet_tail 6 (by kernel_rfl) (by kernel_rfl) ?_
  simp only [List.take_succ_cons, List.take_zero, List.drop_succ_cons, List.drop_zero]
  repeat (quiet_step (fail))
  refine wpQuiet_nil ?_
  intro nq
  have HT := Aside0.mk (fun W hW => times_calls g t 5 0 (plus xs y 5) (by rw [plus_length]; omega) (by rw [plus_length]; omega) W hW)
  go_wp2_with (go_at_call 53; (with_reducible refine (HT.out _ (HXi.out.drewN nq)).mono ?_); rintro e w6 ⟨rfl, k6, g6⟩)
  have HX6 := Aside0.mk (show Arr .u64 w6 g t (added xs bs o n) from by rw [added, ← HYE.out]; exact k6)
  have HG6 := Aside0.mk (grown_trans (grown_trans HGi.out (grown_drewN _ nq _)) g6)
  first
  | (go_end0
     exact ⟨rfl, HX6.out, HG6.out⟩)
  | (go_ret
     exact ⟨rfl, HX6.out, HG6.out⟩)
end Go.Proofs.Ytocckplgjbhlbaa.Pol
