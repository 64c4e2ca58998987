/- A quarter of a round of chacha's, walked: what its sixteen numbers are behind it. Conditions: the places lie among the sixteen. -/
import Derived.Test.YtocckplgjbhlbaaAr
import Derived.Test.YtocckplgjbhlbaaQTail
import Derived.Test.YtocckplgjbhlbaaXx1
namespace Go.Proofs.Ytocckplgjbhlbaa.Cha
open Go.RowKit Go.Proofs.YtocckplgjbhlbaaW.PrintWords Go.Proofs.Ytocckplgjbhlbaa.X
set_option linter.unusedVariables false
def ro (k : Nat) (x : Int) : Int := Go.bits .or .u32 ((x * 2 ^ k) % 4294967296) (x / 2 ^ (32 - k))
def addTo (x : List Int) (p s : Nat) : List Int := x.set p ((gx x p + gx x s) % 4294967296)
def xorRo (x : List Int) (p s r : Nat) : List Int := x.set p (ro r (Go.bits .xor .u32 (gx x p) (gx x s)))
def Q (x : List Int) (a b c d : Nat) : List Int := xorRo (addTo (xorRo (addTo (xorRo (addTo (xorRo (addTo x a b) d a 16) c d) b c 12) a b) d a 8) c d) b c 7
theorem ix48 (g i : Nat) (h : i < 16) (W : World) : (Instr.indexAt 48 (.pointer (some ⟨g, 0, none⟩)) (.int .i64 (i : Int))).run Try.prog W = .ok (.pointer (some ⟨g, i, none⟩)) W := by
  have hl : Try.prog.arrayLen 48 = 16 := by kernel_rfl
  have he : Try.prog.elem 48 = 46 := by kernel_rfl
  have hs : (sizeOf 46).run Try.prog W = .ok 1 W := by kernel_rfl
  rw [run_indexAt_array (P := Try.prog) (w := W) 48 ⟨g, 0, none⟩ .i64 i (by rw [hl, he]; exact Try.underlying48)]
  rw [he, hl, if_pos (by omega), hs]
  simp [Addr.add, Result.andThen]
  omega
theorem rot16 (x : Int) (w : World) : Calls Try.prog 51 #[.int .u32 x, .int .i64 16] w fun e w' => e = .returned (.int .u32 (ro 16 x)) ∧ w' = w := by
  have hb : Go.bits .and .u64 16 31 = 16 := by kernel_rfl
  go_enter Try.func51, Try.ntmps51
  go_wp2
  go_ret
  exact ⟨rfl, rfl⟩
theorem rot12 (x : Int) (w : World) : Calls Try.prog 51 #[.int .u32 x, .int .i64 12] w fun e w' => e = .returned (.int .u32 (ro 12 x)) ∧ w' = w := by
  have hb : Go.bits .and .u64 12 31 = 12 := by kernel_rfl
  go_enter Try.func51, Try.ntmps51
  go_wp2
  go_ret
  exact ⟨rfl, rfl⟩
theorem rot8 (x : Int) (w : World) : Calls Try.prog 51 #[.int .u32 x, .int .i64 8] w fun e w' => e = .returned (.int .u32 (ro 8 x)) ∧ w' = w := by
  have hb : Go.bits .and .u64 8 31 = 8 := by kernel_rfl
  go_enter Try.func51, Try.ntmps51
  go_wp2
  go_ret
  exact ⟨rfl, rfl⟩
theorem rot7 (x : Int) (w : World) : Calls Try.prog 51 #[.int .u32 x, .int .i64 7] w fun e w' => e = .returned (.int .u32 (ro 7 x)) ∧ w' = w := by
  have hb : Go.bits .and .u64 7 31 = 7 := by kernel_rfl
  go_enter Try.func51, Try.ntmps51
  go_wp2
  go_ret
  exact ⟨rfl, rfl⟩

set_option maxRecDepth 100000 in
set_option maxHeartbeats 2000000 in
theorem quarter_calls (g : Nat) (x0 : List Int) (hl : x0.length = 16) (a b c d : Nat) (ha : a < 16) (hb : b < 16) (hc : c < 16) (hd : d < 16) (w : World) (h : Arr .u32 w g 48 x0) :
    Calls Try.prog 39 #[.pointer (some ⟨g, 0, none⟩), .int .i64 a, .int .i64 b, .int .i64 c, .int .i64 d] w fun e w' => e = .returned (.tuple #[]) ∧ Arr .u32 w' g 48 (Q x0 a b c d) ∧ w.grownBy w' (some g) := by
  have xa := ix48 g a ha
  have xb := ix48 g b hb
  have xc := ix48 g c hc
  have xd := ix48 g d hd
  have HA0 := Aside0.mk h
  have HL0 := Aside0.mk hl
  have HG0 := Aside0.mk (grown_refl w (some g))
  clear h hl
  go_enter Try.func39, Try.ntmps39
  go_wp2
  have cp := HA0.out.cell a (by rw [HL0.out]; exact ha)
  have cs := HA0.out.cell b (by rw [HL0.out]; exact hb)
  have fp := HA0.out.frozen a
  refine wp_region_quiet_tail 13 (by kernel_rfl) (by kernel_rfl) ?_
  simp only [List.take_succ_cons, List.take_zero, List.drop_succ_cons, List.drop_zero]
  repeat (quiet_step (fail))
  refine wpQuiet_nil ?_
  intro nq
  refine Arr.store (g := g) (k := .u32) (xs := x0) (t := 48) rfl rfl a ((gx x0 a + gx x0 b) % 4294967296) ?hs1 (HA0.out.drewN nq) ?_
  case hs1 => first | (go_simp; done) | (go_simp; rfl)
  intro w1 k1 g1
  obtain ⟨x1, e1⟩ : ∃ y, y = x0.set a ((gx x0 a + gx x0 b) % 4294967296) := ⟨_, rfl⟩
  rw [← e1] at k1
  have HL1 := Aside0.mk (show x1.length = 16 from by rw [e1, List.length_set]; exact HL0.out)
  have HA1 := Aside0.mk k1
  have HE1 := Aside0.mk e1
  have HG1 := Aside0.mk (grown_trans HG0.out (grown_trans (grown_drewN _ nq _) g1))
  clear cp cs fp k1 g1 e1
  go_wp2
  have cp := HA1.out.cell d (by rw [HL1.out]; exact hd)
  have cs := HA1.out.cell a (by rw [HL1.out]; exact ha)
  have fp := HA1.out.frozen d
  refine wp_region_quiet_tail 16 (by kernel_rfl) (by kernel_rfl) ?_
  simp only [List.take_succ_cons, List.take_zero, List.drop_succ_cons, List.drop_zero]
  repeat (quiet_step ((refine Calls.quiet_of_same (rot16 _ _))))
  refine wpQuiet_nil ?_
  intro nq
  refine Arr.store (g := g) (k := .u32) (xs := x1) (t := 48) rfl rfl d (ro 16 (Go.bits .xor .u32 (gx x1 d) (gx x1 a))) ?hs2 (HA1.out.drewN nq) ?_
  case hs2 => first | (go_simp; done) | (go_simp; rfl)
  intro w2 k2 g2
  obtain ⟨x2, e2⟩ : ∃ y, y = x1.set d (ro 16 (Go.bits .xor .u32 (gx x1 d) (gx x1 a))) := ⟨_, rfl⟩
  rw [← e2] at k2
  have HL2 := Aside0.mk (show x2.length = 16 from by rw [e2, List.length_set]; exact HL1.out)
  have HA2 := Aside0.mk k2
  have HE2 := Aside0.mk e2
  have HG2 := Aside0.mk (grown_trans HG1.out (grown_trans (grown_drewN _ nq _) g2))
  clear cp cs fp k2 g2 e2
  go_wp2
  have cp := HA2.out.cell c (by rw [HL2.out]; exact hc)
  have cs := HA2.out.cell d (by rw [HL2.out]; exact hd)
  have fp := HA2.out.frozen c
  refine wp_region_quiet_tail 13 (by kernel_rfl) (by kernel_rfl) ?_
  simp only [List.take_succ_cons, List.take_zero, List.drop_succ_cons, List.drop_zero]
  repeat (quiet_step (fail))
  refine wpQuiet_nil ?_
  intro nq
  refine Arr.store (g := g) (k := .u32) (xs := x2) (t := 48) rfl rfl c ((gx x2 c + gx x2 d) % 4294967296) ?hs3 (HA2.out.drewN nq) ?_
  case hs3 => first | (go_simp; done) | (go_simp; rfl)
  intro w3 k3 g3
  obtain ⟨x3, e3⟩ : ∃ y, y = x2.set c ((gx x2 c + gx x2 d) % 4294967296) := ⟨_, rfl⟩
  rw [← e3] at k3
  have HL3 := Aside0.mk (show x3.length = 16 from by rw [e3, List.length_set]; exact HL2.out)
  have HA3 := Aside0.mk k3
  have HE3 := Aside0.mk e3
  have HG3 := Aside0.mk (grown_trans HG2.out (grown_trans (grown_drewN _ nq _) g3))
  clear cp cs fp k3 g3 e3
  go_wp2
  have cp := HA3.out.cell b (by rw [HL3.out]; exact hb)
  have cs := HA3.out.cell c (by rw [HL3.out]; exact hc)
  have fp := HA3.out.frozen b
  refine wp_region_quiet_tail 16 (by kernel_rfl) (by kernel_rfl) ?_
  simp only [List.take_succ_cons, List.take_zero, List.drop_succ_cons, List.drop_zero]
  repeat (quiet_step ((refine Calls.quiet_of_same (rot12 _ _))))
  refine wpQuiet_nil ?_
  intro nq
  refine Arr.store (g := g) (k := .u32) (xs := x3) (t := 48) rfl rfl b (ro 12 (Go.bits .xor .u32 (gx x3 b) (gx x3 c))) ?hs4 (HA3.out.drewN nq) ?_
  case hs4 => first | (go_simp; done) | (go_simp; rfl)
  intro w4 k4 g4
  obtain ⟨x4, e4⟩ : ∃ y, y = x3.set b (ro 12 (Go.bits .xor .u32 (gx x3 b) (gx x3 c))) := ⟨_, rfl⟩
  rw [← e4] at k4
  have HL4 := Aside0.mk (show x4.length = 16 from by rw [e4, List.length_set]; exact HL3.out)
  have HA4 := Aside0.mk k4
  have HE4 := Aside0.mk e4
  have HG4 := Aside0.mk (grown_trans HG3.out (grown_trans (grown_drewN _ nq _) g4))
  clear cp cs fp k4 g4 e4
  go_wp2
  have cp := HA4.out.cell a (by rw [HL4.out]; exact ha)
  have cs := HA4.out.cell b (by rw [HL4.out]; exact hb)
  have fp := HA4.out.frozen a
  refine wp_region_quiet_tail 13 (by kernel_rfl) (by kernel_rfl) ?_
  simp only [List.take_succ_cons, List.take_zero, List.drop_succ_cons, List.drop_zero]
  repeat (quiet_step (fail))
  refine wpQuiet_nil ?_
  intro nq
  refine Arr.store (g := g) (k := .u32) (xs := x4) (t := 48) rfl rfl a ((gx x4 a + gx x4 b) % 4294967296) ?hs5 (HA4.out.drewN nq) ?_
  case hs5 => first | (go_simp; done) | (go_simp; rfl)
  intro w5 k5 g5
  obtain ⟨x5, e5⟩ : ∃ y, y = x4.set a ((gx x4 a + gx x4 b) % 4294967296) := ⟨_, rfl⟩
  rw [← e5] at k5
  have HL5 := Aside0.mk (show x5.length = 16 from by rw [e5, List.length_set]; exact HL4.out)
  have HA5 := Aside0.mk k5
  have HE5 := Aside0.mk e5
  have HG5 := Aside0.mk (grown_trans HG4.out (grown_trans (grown_drewN _ nq _) g5))
  clear cp cs fp k5 g5 e5
  go_wp2
  have cp := HA5.out.cell d (by rw [HL5.out]; exact hd)
  have cs := HA5.out.cell a (by rw [HL5.out]; exact ha)
  have fp := HA5.out.frozen d
  refine wp_region_quiet_tail 16 (by kernel_rfl) (by kernel_rfl) ?_
  simp only [List.take_succ_cons, List.take_zero, List.drop_succ_cons, List.drop_zero]
  repeat (quiet_step ((refine Calls.quiet_of_same (rot8 _ _))))
  refine wpQuiet_nil ?_
  intro nq
  refine Arr.store (g := g) (k := .u32) (xs := x5) (t := 48) rfl rfl d (ro 8 (Go.bits .xor .u32 (gx x5 d) (gx x5 a))) ?hs6 (HA5.out.drewN nq) ?_
  case hs6 => first | (go_simp; done) | (go_simp; rfl)
  intro w6 k6 g6
  obtain ⟨x6, e6⟩ : ∃ y, y = x5.set d (ro 8 (Go.bits .xor .u32 (gx x5 d) (gx x5 a))) := ⟨_, rfl⟩
  rw [← e6] at k6
  have HL6 := Aside0.mk (show x6.length = 16 from by rw [e6, List.length_set]; exact HL5.out)
  have HA6 := Aside0.mk k6
  have HE6 := Aside0.mk e6
  have HG6 := Aside0.mk (grown_trans HG5.out (grown_trans (grown_drewN _ nq _) g6))
  clear cp cs fp k6 g6 e6
  go_wp2
  have cp := HA6.out.cell c (by rw [HL6.out]; exact hc)
  have cs := HA6.out.cell d (by rw [HL6.out]; exact hd)
  have fp := HA6.out.frozen c
  refine wp_region_quiet_tail 13 (by kernel_rfl) (by kernel_rfl) ?_
  simp only [List.take_succ_cons, List.take_zero, List.drop_succ_cons, List.drop_zero]
  repeat (quiet_step (fail))
  refine wpQuiet_nil ?_
  intro nq
  refine Arr.store (g := g) (k := .u32) (xs := x6) (t := 48) rfl rfl c ((gx x6 c + gx x6 d) % 4294967296) ?hs7 (HA6.out.drewN nq) ?_
  case hs7 => first | (go_simp; done) | (go_simp; rfl)
  intro w7 k7 g7
  obtain ⟨x7, e7⟩ : ∃ y, y = x6.set c ((gx x6 c + gx x6 d) % 4294967296) := ⟨_, rfl⟩
  rw [← e7] at k7
  have HL7 := Aside0.mk (show x7.length = 16 from by rw [e7, List.length_set]; exact HL6.out)
  have HA7 := Aside0.mk k7
  have HE7 := Aside0.mk e7
  have HG7 := Aside0.mk (grown_trans HG6.out (grown_trans (grown_drewN _ nq _) g7))
  clear cp cs fp k7 g7 e7
  go_wp2
  have cp := HA7.out.cell b (by rw [HL7.out]; exact hb)
  have cs := HA7.out.cell c (by rw [HL7.out]; exact hc)
  have fp := HA7.out.frozen b
  refine wp_region_quiet_tail 16 (by kernel_rfl) (by kernel_rfl) ?_
  simp only [List.take_succ_cons, List.take_zero, List.drop_succ_cons, List.drop_zero]
  repeat (quiet_step ((refine Calls.quiet_of_same (rot7 _ _))))
  refine wpQuiet_nil ?_
  intro nq
  refine Arr.store (g := g) (k := .u32) (xs := x7) (t := 48) rfl rfl b (ro 7 (Go.bits .xor .u32 (gx x7 b) (gx x7 c))) ?hs8 (HA7.out.drewN nq) ?_
  case hs8 => first | (go_simp; done) | (go_simp; rfl)
  intro w8 k8 g8
  obtain ⟨x8, e8⟩ : ∃ y, y = x7.set b (ro 7 (Go.bits .xor .u32 (gx x7 b) (gx x7 c))) := ⟨_, rfl⟩
  rw [← e8] at k8
  have HL8 := Aside0.mk (show x8.length = 16 from by rw [e8, List.length_set]; exact HL7.out)
  have HA8 := Aside0.mk k8
  have HE8 := Aside0.mk e8
  have HG8 := Aside0.mk (grown_trans HG7.out (grown_trans (grown_drewN _ nq _) g8))
  clear cp cs fp k8 g8 e8
  go_wp2
  have hQ : x8 = Q x0 a b c d := by rw [HE8.out, HE7.out, HE6.out, HE5.out, HE4.out, HE3.out, HE2.out, HE1.out]; rfl
  have hz := HA8.out
  rw [hQ] at hz
  go_end0
  exact ⟨rfl, hz, HG8.out⟩

theorem info47 : (Try.prog.info? 47).map (fun i => i.size) = some 16 := by kernel_rfl
theorem ix47 (g i : Nat) (h : i < 16) (W : World) : (Instr.indexAt 47 (.pointer (some ⟨g, 0, none⟩)) (.int .i64 (i : Int))).run Try.prog W = .ok (.pointer (some ⟨g, i, none⟩)) W := by
  have hl : Try.prog.arrayLen 47 = 16 := by kernel_rfl
  have he : Try.prog.elem 47 = 46 := by kernel_rfl
  have hs : (sizeOf 46).run Try.prog W = .ok 1 W := by kernel_rfl
  rw [run_indexAt_array (P := Try.prog) (w := W) 47 ⟨g, 0, none⟩ .i64 i (by rw [hl, he]; exact Try.underlying47)]
  rw [he, hl, if_pos (by omega), hs]
  simp [Addr.add, Result.andThen]
  omega
theorem left16 (x : Int) (w : World) : Calls Try.prog 52 #[.int .u32 x, .int .i64 16] w fun e w' => e = .returned (.int .u32 (ro 16 x)) ∧ ∃ m, w' = w.drewN m := by
  go_enter Try.func52, Try.ntmps52
  go_wp2
  go_quiet (fail)
  go_wp2
  go_ret
  exact ⟨rfl, _, rfl⟩
theorem left12 (x : Int) (w : World) : Calls Try.prog 52 #[.int .u32 x, .int .i64 12] w fun e w' => e = .returned (.int .u32 (ro 12 x)) ∧ ∃ m, w' = w.drewN m := by
  go_enter Try.func52, Try.ntmps52
  go_wp2
  go_quiet (fail)
  go_wp2
  go_ret
  exact ⟨rfl, _, rfl⟩
theorem left8 (x : Int) (w : World) : Calls Try.prog 52 #[.int .u32 x, .int .i64 8] w fun e w' => e = .returned (.int .u32 (ro 8 x)) ∧ ∃ m, w' = w.drewN m := by
  go_enter Try.func52, Try.ntmps52
  go_wp2
  go_quiet (fail)
  go_wp2
  go_ret
  exact ⟨rfl, _, rfl⟩
theorem left7 (x : Int) (w : World) : Calls Try.prog 52 #[.int .u32 x, .int .i64 7] w fun e w' => e = .returned (.int .u32 (ro 7 x)) ∧ ∃ m, w' = w.drewN m := by
  go_enter Try.func52, Try.ntmps52
  go_wp2
  go_quiet (fail)
  go_wp2
  go_ret
  exact ⟨rfl, _, rfl⟩

set_option maxRecDepth 100000 in
set_option maxHeartbeats 2000000 in
theorem rquarter_calls (x0 : List Int) (hl : x0.length = 16) (a b c d : Nat) (ha : a < 16) (hb : b < 16) (hc : c < 16) (hd : d < 16) (w : World) :
    Calls Try.prog 41 #[agg .u32 x0, .int .i64 a, .int .i64 b, .int .i64 c, .int .i64 d] w fun e w' => e = .returned (agg .u32 (Q x0 a b c d)) ∧ Below w.heap.size w w' := by
  have HL0 := Aside0.mk hl
  clear hl
  go_enter Try.func41, Try.ntmps41
  go_wp2_with (first | ((with_reducible refine gate_dst (N := 5) rfl ?_); refine Arr.box (k := .u32) (xs := x0) rfl 47 _ rfl rfl ?_; intro g eg w0 k0 b0; have H0 := Aside0.mk k0; have B0 := Aside0.mk b0; have E0 := Aside0.mk eg; clear k0 b0 eg) | ((with_reducible refine gate_dst (N := 10) rfl ?_); refine box_event ?hg (N := 10) ?hd (cs := ((List.replicate 16 (0 : Int)).map (Value.int .u32)).toArray) (t := 47) ?hr ?_; (case hd => rfl); (case hg => rfl); (case hr => first | (go_simp; done) | (go_simp; rfl)); intro gr er w2 kr br; have HR := Aside0.mk (show Arr .u32 w2 gr 47 (List.replicate 16 0) from kr); have HA0 := Aside0.mk (H0.out.below br); have HB := Aside0.mk (below_step B0.out br); have HN := Aside0.mk (show g ≠ gr from by have := H0.out.lt; omega); have HM := Aside0.mk (show w.heap.size ≤ g from by rw [E0.out]; exact Nat.le_refl _); have HRB := Aside0.mk (show w.heap.size ≤ gr from by rw [er]; exact below_size B0.out); clear kr br er H0 B0 E0))
  have xa := ix47 g a ha
  have xb := ix47 g b hb
  have xc := ix47 g c hc
  have xd := ix47 g d hd
  have HG0 := Aside0.mk (grown_refl w2 (some g))
  have cp := HA0.out.cell a (by rw [HL0.out]; exact ha)
  have cs := HA0.out.cell b (by rw [HL0.out]; exact hb)
  have fp := HA0.out.frozen a
  refine wp_region_quiet_tail 9 (by kernel_rfl) (by kernel_rfl) ?_
  simp only [List.take_succ_cons, List.take_zero, List.drop_succ_cons, List.drop_zero]
  repeat (quiet_step (fail))
  refine wpQuiet_nil ?_
  intro nq
  refine Arr.store (g := g) (k := .u32) (xs := x0) (t := 47) rfl rfl a ((gx x0 a + gx x0 b) % 4294967296) ?hs1 (HA0.out.drewN nq) ?_
  case hs1 => first | (go_simp; done) | (go_simp; rfl)
  intro w1 k1 g1
  obtain ⟨x1, e1⟩ : ∃ y, y = x0.set a ((gx x0 a + gx x0 b) % 4294967296) := ⟨_, rfl⟩
  rw [← e1] at k1
  have HL1 := Aside0.mk (show x1.length = 16 from by rw [e1, List.length_set]; exact HL0.out)
  have HA1 := Aside0.mk k1
  have HE1 := Aside0.mk e1
  have HG1 := Aside0.mk (grown_trans HG0.out (grown_trans (grown_drewN _ nq _) g1))
  clear cp cs fp k1 g1 e1
  go_wp2
  have cp := HA1.out.cell d (by rw [HL1.out]; exact hd)
  have cs := HA1.out.cell a (by rw [HL1.out]; exact ha)
  have fp := HA1.out.frozen d
  refine wp_region_quiet_tail 10 (by kernel_rfl) (by kernel_rfl) ?_
  simp only [List.take_succ_cons, List.take_zero, List.drop_succ_cons, List.drop_zero]
  repeat (quiet_step ((refine Calls.quiet_of (left16 _ _))))
  refine wpQuiet_nil ?_
  intro nq
  refine Arr.store (g := g) (k := .u32) (xs := x1) (t := 47) rfl rfl d (ro 16 (Go.bits .xor .u32 (gx x1 d) (gx x1 a))) ?hs2 (HA1.out.drewN nq) ?_
  case hs2 => first | (go_simp; done) | (go_simp; rfl)
  intro w2 k2 g2
  obtain ⟨x2, e2⟩ : ∃ y, y = x1.set d (ro 16 (Go.bits .xor .u32 (gx x1 d) (gx x1 a))) := ⟨_, rfl⟩
  rw [← e2] at k2
  have HL2 := Aside0.mk (show x2.length = 16 from by rw [e2, List.length_set]; exact HL1.out)
  have HA2 := Aside0.mk k2
  have HE2 := Aside0.mk e2
  have HG2 := Aside0.mk (grown_trans HG1.out (grown_trans (grown_drewN _ nq _) g2))
  clear cp cs fp k2 g2 e2
  go_wp2
  have cp := HA2.out.cell c (by rw [HL2.out]; exact hc)
  have cs := HA2.out.cell d (by rw [HL2.out]; exact hd)
  have fp := HA2.out.frozen c
  refine wp_region_quiet_tail 9 (by kernel_rfl) (by kernel_rfl) ?_
  simp only [List.take_succ_cons, List.take_zero, List.drop_succ_cons, List.drop_zero]
  repeat (quiet_step (fail))
  refine wpQuiet_nil ?_
  intro nq
  refine Arr.store (g := g) (k := .u32) (xs := x2) (t := 47) rfl rfl c ((gx x2 c + gx x2 d) % 4294967296) ?hs3 (HA2.out.drewN nq) ?_
  case hs3 => first | (go_simp; done) | (go_simp; rfl)
  intro w3 k3 g3
  obtain ⟨x3, e3⟩ : ∃ y, y = x2.set c ((gx x2 c + gx x2 d) % 4294967296) := ⟨_, rfl⟩
  rw [← e3] at k3
  have HL3 := Aside0.mk (show x3.length = 16 from by rw [e3, List.length_set]; exact HL2.out)
  have HA3 := Aside0.mk k3
  have HE3 := Aside0.mk e3
  have HG3 := Aside0.mk (grown_trans HG2.out (grown_trans (grown_drewN _ nq _) g3))
  clear cp cs fp k3 g3 e3
  go_wp2
  have cp := HA3.out.cell b (by rw [HL3.out]; exact hb)
  have cs := HA3.out.cell c (by rw [HL3.out]; exact hc)
  have fp := HA3.out.frozen b
  refine wp_region_quiet_tail 10 (by kernel_rfl) (by kernel_rfl) ?_
  simp only [List.take_succ_cons, List.take_zero, List.drop_succ_cons, List.drop_zero]
  repeat (quiet_step ((refine Calls.quiet_of (left12 _ _))))
  refine wpQuiet_nil ?_
  intro nq
  refine Arr.store (g := g) (k := .u32) (xs := x3) (t := 47) rfl rfl b (ro 12 (Go.bits .xor .u32 (gx x3 b) (gx x3 c))) ?hs4 (HA3.out.drewN nq) ?_
  case hs4 => first | (go_simp; done) | (go_simp; rfl)
  intro w4 k4 g4
  obtain ⟨x4, e4⟩ : ∃ y, y = x3.set b (ro 12 (Go.bits .xor .u32 (gx x3 b) (gx x3 c))) := ⟨_, rfl⟩
  rw [← e4] at k4
  have HL4 := Aside0.mk (show x4.length = 16 from by rw [e4, List.length_set]; exact HL3.out)
  have HA4 := Aside0.mk k4
  have HE4 := Aside0.mk e4
  have HG4 := Aside0.mk (grown_trans HG3.out (grown_trans (grown_drewN _ nq _) g4))
  clear cp cs fp k4 g4 e4
  go_wp2
  have cp := HA4.out.cell a (by rw [HL4.out]; exact ha)
  have cs := HA4.out.cell b (by rw [HL4.out]; exact hb)
  have fp := HA4.out.frozen a
  refine wp_region_quiet_tail 9 (by kernel_rfl) (by kernel_rfl) ?_
  simp only [List.take_succ_cons, List.take_zero, List.drop_succ_cons, List.drop_zero]
  repeat (quiet_step (fail))
  refine wpQuiet_nil ?_
  intro nq
  refine Arr.store (g := g) (k := .u32) (xs := x4) (t := 47) rfl rfl a ((gx x4 a + gx x4 b) % 4294967296) ?hs5 (HA4.out.drewN nq) ?_
  case hs5 => first | (go_simp; done) | (go_simp; rfl)
  intro w5 k5 g5
  obtain ⟨x5, e5⟩ : ∃ y, y = x4.set a ((gx x4 a + gx x4 b) % 4294967296) := ⟨_, rfl⟩
  rw [← e5] at k5
  have HL5 := Aside0.mk (show x5.length = 16 from by rw [e5, List.length_set]; exact HL4.out)
  have HA5 := Aside0.mk k5
  have HE5 := Aside0.mk e5
  have HG5 := Aside0.mk (grown_trans HG4.out (grown_trans (grown_drewN _ nq _) g5))
  clear cp cs fp k5 g5 e5
  go_wp2
  have cp := HA5.out.cell d (by rw [HL5.out]; exact hd)
  have cs := HA5.out.cell a (by rw [HL5.out]; exact ha)
  have fp := HA5.out.frozen d
  refine wp_region_quiet_tail 10 (by kernel_rfl) (by kernel_rfl) ?_
  simp only [List.take_succ_cons, List.take_zero, List.drop_succ_cons, List.drop_zero]
  repeat (quiet_step ((refine Calls.quiet_of (left8 _ _))))
  refine wpQuiet_nil ?_
  intro nq
  refine Arr.store (g := g) (k := .u32) (xs := x5) (t := 47) rfl rfl d (ro 8 (Go.bits .xor .u32 (gx x5 d) (gx x5 a))) ?hs6 (HA5.out.drewN nq) ?_
  case hs6 => first | (go_simp; done) | (go_simp; rfl)
  intro w6 k6 g6
  obtain ⟨x6, e6⟩ : ∃ y, y = x5.set d (ro 8 (Go.bits .xor .u32 (gx x5 d) (gx x5 a))) := ⟨_, rfl⟩
  rw [← e6] at k6
  have HL6 := Aside0.mk (show x6.length = 16 from by rw [e6, List.length_set]; exact HL5.out)
  have HA6 := Aside0.mk k6
  have HE6 := Aside0.mk e6
  have HG6 := Aside0.mk (grown_trans HG5.out (grown_trans (grown_drewN _ nq _) g6))
  clear cp cs fp k6 g6 e6
  go_wp2
  have cp := HA6.out.cell c (by rw [HL6.out]; exact hc)
  have cs := HA6.out.cell d (by rw [HL6.out]; exact hd)
  have fp := HA6.out.frozen c
  refine wp_region_quiet_tail 9 (by kernel_rfl) (by kernel_rfl) ?_
  simp only [List.take_succ_cons, List.take_zero, List.drop_succ_cons, List.drop_zero]
  repeat (quiet_step (fail))
  refine wpQuiet_nil ?_
  intro nq
  refine Arr.store (g := g) (k := .u32) (xs := x6) (t := 47) rfl rfl c ((gx x6 c + gx x6 d) % 4294967296) ?hs7 (HA6.out.drewN nq) ?_
  case hs7 => first | (go_simp; done) | (go_simp; rfl)
  intro w7 k7 g7
  obtain ⟨x7, e7⟩ : ∃ y, y = x6.set c ((gx x6 c + gx x6 d) % 4294967296) := ⟨_, rfl⟩
  rw [← e7] at k7
  have HL7 := Aside0.mk (show x7.length = 16 from by rw [e7, List.length_set]; exact HL6.out)
  have HA7 := Aside0.mk k7
  have HE7 := Aside0.mk e7
  have HG7 := Aside0.mk (grown_trans HG6.out (grown_trans (grown_drewN _ nq _) g7))
  clear cp cs fp k7 g7 e7
  go_wp2
  have cp := HA7.out.cell b (by rw [HL7.out]; exact hb)
  have cs := HA7.out.cell c (by rw [HL7.out]; exact hc)
  have fp := HA7.out.frozen b
  refine wp_region_quiet_tail 10 (by kernel_rfl) (by kernel_rfl) ?_
  simp only [List.take_succ_cons, List.take_zero, List.drop_succ_cons, List.drop_zero]
  repeat (quiet_step ((refine Calls.quiet_of (left7 _ _))))
  refine wpQuiet_nil ?_
  intro nq
  refine Arr.store (g := g) (k := .u32) (xs := x7) (t := 47) rfl rfl b (ro 7 (Go.bits .xor .u32 (gx x7 b) (gx x7 c))) ?hs8 (HA7.out.drewN nq) ?_
  case hs8 => first | (go_simp; done) | (go_simp; rfl)
  intro w8 k8 g8
  obtain ⟨x8, e8⟩ : ∃ y, y = x7.set b (ro 7 (Go.bits .xor .u32 (gx x7 b) (gx x7 c))) := ⟨_, rfl⟩
  rw [← e8] at k8
  have HL8 := Aside0.mk (show x8.length = 16 from by rw [e8, List.length_set]; exact HL7.out)
  have HA8 := Aside0.mk k8
  have HE8 := Aside0.mk e8
  have HG8 := Aside0.mk (grown_trans HG7.out (grown_trans (grown_drewN _ nq _) g8))
  clear cp cs fp k8 g8 e8
  have hR := Aside0.mk (HR.out.grown HG8.out (fun e => HN.out (Option.some.inj e).symm))
  have hQ : x8 = Q x0 a b c d := by rw [HE8.out, HE7.out, HE6.out, HE5.out, HE4.out, HE3.out, HE2.out, HE1.out]; rfl
  have hQ' := Aside0.mk hQ
  clear hQ
  go_wp2_with (first | ((with_reducible refine gate_dst (N := 87) rfl ?_); refine Arr.load (k := .u32) (xs := x8) (g := g) (t := 47) rfl 47 _ rfl rfl HA8.out _ Try.underlying47 rfl 16 (by kernel_rfl) HL8.out ?_) | ((with_reducible refine gate_store (t := 47) (p := 10) rfl ?_); refine Arr.put (k := .u32) (g := gr) (t := 47) (xs := List.replicate 16 0) (ys := x8) rfl 47 _ _ rfl rfl rfl hR.out 16 (by kernel_rfl) rfl HL8.out ?_; intro w9 k9 g9; have H9 := Aside0.mk k9; have G9 := Aside0.mk g9; clear k9 g9))
  have hz := H9.out
  rw [hQ'.out] at hz
  refine bodyPost_ret (v := agg .u32 (Q x0 a b c d)) (results_cell_row rfl _ _ gr 47 _ _ _ rfl hz Try.underlying47 rfl ?_) rfl ⟨rfl, ?_⟩
  · have : (Q x0 a b c d).length = 16 := by rw [← hQ'.out]; exact HL8.out
    rw [info47]
    simp [this]
  · have h1 := HB.out.grown HG8.out (below_size HB.out) (fun k hk => by rw [← Option.some.inj hk]; exact HM.out)
    exact h1.grown G9.out (below_size h1) (fun k hk => by rw [← Option.some.inj hk]; exact HRB.out)
end Go.Proofs.Ytocckplgjbhlbaa.Cha
