/- poly's carry, walked. Conditions: the five limbs lie in one block. -/
import Derived.Test.YtocckplgjbhlbaaXor
import Derived.Deep.MidRow
import Derived.Laws.Tables
namespace Go.Proofs.Ytocckplgjbhlbaa.Pol
open Go.RowKit Go.Proofs.YtocckplgjbhlbaaW.PrintWords Go.Proofs.Ytocckplgjbhlbaa.Cha
set_option linter.unusedVariables false
theorem ix68 (g o i : Nat) (h : i < 5) (W : World) : (Instr.indexAt 68 (.pointer (some ⟨g, o, none⟩)) (.int .i64 (i : Int))).run Try.prog W = .ok (.pointer (some ⟨g, o + i, none⟩)) W := by
  have hl : Try.prog.arrayLen 68 = 5 := by kernel_rfl
  have he : Try.prog.elem 68 = 66 := by kernel_rfl
  have hs : (sizeOf 66).run Try.prog W = .ok 1 W := by kernel_rfl
  rw [run_indexAt_array (P := Try.prog) (w := W) 68 ⟨g, o, none⟩ .i64 i (by rw [hl, he]; exact Try.underlying68)]
  rw [hl, he, if_pos (by omega), hs]
  simp [Addr.add, Result.andThen]
/-- One limb gives on what is above 26 bits. -/
def give (o : Nat) (y : List Int) (i : Nat) : List Int :=
  if i % 5 = 4 then (y.set (o + i % 5) (Go.bits .and .u64 (gx y (o + i % 5)) 67108863)).set o (IntKind.u64.wrap (gx (y.set (o + i % 5) (Go.bits .and .u64 (gx y (o + i % 5)) 67108863)) o + IntKind.u64.wrap (5 * (gx y (o + i % 5) / 67108864))))
  else (y.set (o + i % 5) (Go.bits .and .u64 (gx y (o + i % 5)) 67108863)).set (o + (i % 5 + 1)) (IntKind.u64.wrap (gx (y.set (o + i % 5) (Go.bits .and .u64 (gx y (o + i % 5)) 67108863)) (o + (i % 5 + 1)) + gx y (o + i % 5) / 67108864))
def given (o : Nat) (xs : List Int) : Nat → List Int
  | 0 => xs
  | i + 1 => give o (given o xs i) i
theorem give_length (o : Nat) (y : List Int) (i : Nat) : (give o y i).length = y.length := by unfold give; split <;> simp
theorem given_length (o : Nat) (xs : List Int) : ∀ i, (given o xs i).length = xs.length
  | 0 => rfl
  | i + 1 => by rw [given, give_length, given_length o xs i]
set_option maxRecDepth 100000 in
set_option maxHeartbeats 4000000 in
theorem carry_calls (g t o : Nat) (xs : List Int) (ho : o + 5 ≤ xs.length) (w : World) (h : Arr .u64 w g t xs) :
    Calls Try.prog 54 #[.pointer (some ⟨g, o, none⟩)] w fun e w' => e = .returned (.tuple #[]) ∧ Arr .u64 w' g t (given o xs 6) ∧ w.grownBy w' (some g) := by
  have HX := Aside0.mk h
  clear h
  go_enter Try.func54, Try.ntmps54
  go_wp2
  go_loopw [4] (fun v wr => ∃ i : Nat, i ≤ 6 ∧ v = .int .i64 i ∧ Aside0 (Arr .u64 wr g t (given o xs i)) ∧ Aside0 (w.grownBy wr (some g))) (fun v _ => 6 - (intOf v).toNat)
  case atStart => exact ⟨0, by omega, rfl, HX, ⟨grown_refl _ _⟩⟩
  case round =>
  obtain ⟨i, hi, rfl, HXi, HGi⟩ := hrel
  by_cases hlt : i < 6
  · have t1 : decide ((i : Int) < 6) = true := decide_eq_true (by omega)
    obtain ⟨y, hy⟩ : ∃ y, y = given o xs i := ⟨_, rfl⟩
    have HYE := Aside0.mk hy
    have hyl : o + 5 ≤ y.length := by rw [hy, given_length]; exact ho
    rw [← hy] at HXi
    clear hy
    obtain ⟨j, hj⟩ : ∃ j, j = i % 5 := ⟨_, rfl⟩
    have HJE := Aside0.mk hj
    have hj5 : j < 5 := by omega
    have z2 : (i : Int).tmod 5 = (j : Int) := by rw [Int.tmod_eq_emod_of_nonneg (by omega)]; omega
    have z2' : (i : Int) % 5 = (j : Int) := by omega
    have z3 : IntKind.i64.wrap (j : Int) = (j : Int) := IntWalk.i64_in _ (by omega)
    clear hj
    have ia := ix68 g o j hj5
    have ca := HXi.out.cell (o + j) (by omega)
    have fa := HXi.out.frozen (o + j)
    go_wp2
    refine wp_region_quiet_tail 9 (by kernel_rfl) (by kernel_rfl) ?_
    simp only [List.take_succ_cons, List.take_zero, List.drop_succ_cons, List.drop_zero]
    repeat (quiet_step (fail))
    refine wpQuiet_nil ?_
    intro nq
    refine Arr.store (g := g) (k := .u64) (xs := y) (t := t) rfl rfl (o + j) (Go.bits .and .u64 (gx y (o + j)) 67108863) ?hs (HXi.out.drewN nq) ?_
    case hs => (first | (go_simp; done) | (go_simp; rfl))
    intro w5 k5 g5
    obtain ⟨y1, hy1⟩ : ∃ y1, y1 = y.set (o + j) (Go.bits .and .u64 (gx y (o + j)) 67108863) := ⟨_, rfl⟩
    have HY1 := Aside0.mk hy1
    have hy1l : o + 5 ≤ y1.length := by rw [hy1, List.length_set]; exact hyl
    rw [← hy1] at k5
    have HX5 := Aside0.mk k5
    have HG5 := Aside0.mk (grown_trans (grown_trans HGi.out (grown_drewN _ nq _)) g5)
    clear k5 g5 ia ca fa hy1
    by_cases hj4 : j = 4
    · have t2 : ((j : Int) == 4) = true := beq_iff_eq.mpr (by omega)
      have ib : ∀ W, (Instr.indexAt 68 (.pointer (some ⟨g, o, none⟩)) (.int .i64 0)).run Try.prog W = .ok (.pointer (some ⟨g, o, none⟩)) W := fun W => ix68 g o 0 (by omega) W
      have cb := HX5.out.cell o (by omega)
      have fb := HX5.out.frozen o
      go_wp2
      refine wp_region_quiet_tail 9 (by kernel_rfl) (by kernel_rfl) ?_
      simp only [List.take_succ_cons, List.take_zero, List.drop_succ_cons, List.drop_zero]
      repeat (quiet_step (fail))
      refine wpQuiet_nil ?_
      intro nq
      refine Arr.store (g := g) (k := .u64) (xs := y1) (t := t) rfl rfl o (IntKind.u64.wrap (gx y1 o + IntKind.u64.wrap (5 * (gx y (o + j) / 67108864)))) ?hs2 (HX5.out.drewN nq) ?_
      case hs2 => (first | (go_simp; done) | (go_simp; rfl))
      intro w6 k6 g6
      have hgv : given o xs (i + 1) = y1.set o (IntKind.u64.wrap (gx y1 o + IntKind.u64.wrap (5 * (gx y (o + j) / 67108864)))) := by
        rw [given, ← HYE.out, give, ← HJE.out, if_pos hj4, ← HY1.out]
      rw [← hgv] at k6
      have HX6 := Aside0.mk k6
      have HG6 := Aside0.mk (grown_trans (grown_trans HG5.out (grown_drewN _ nq _)) g6)
      clear k6 g6 ib cb fb hgv
      go_wp2
      go_roundw
      case rel => first | exact ⟨i + 1, by omega, by go_num, HX6, HG6⟩ | ((repeat apply Exists.intro); exact ⟨⟨i + 1, by omega, by go_num, HX6, HG6⟩, rfl⟩)
      case measure => simp [intOf]; omega
    · have t2 : ((j : Int) == 4) = false := beq_eq_false_iff_ne.mpr (by omega)
      have ib := ix68 g o (j + 1) (by omega)
      have ej : ((j + 1 : Nat) : Int) = (j : Int) + 1 := by omega
      rw [ej] at ib
      have z4 : IntKind.i64.wrap ((j : Int) + 1) = (j : Int) + 1 := IntWalk.i64_in _ (by omega)
      have cb := HX5.out.cell (o + (j + 1)) (by omega)
      have fb := HX5.out.frozen (o + (j + 1))
      go_wp2
      refine wp_region_quiet_tail 11 (by kernel_rfl) (by kernel_rfl) ?_
      simp only [List.take_succ_cons, List.take_zero, List.drop_succ_cons, List.drop_zero]
      repeat (quiet_step (fail))
      refine wpQuiet_nil ?_
      intro nq
      refine Arr.store (g := g) (k := .u64) (xs := y1) (t := t) rfl rfl (o + (j + 1)) (IntKind.u64.wrap (gx y1 (o + (j + 1)) + gx y (o + j) / 67108864)) ?hs3 (HX5.out.drewN nq) ?_
      case hs3 => (first | (go_simp; done) | (go_simp; rfl))
      intro w6 k6 g6
      have hgv : given o xs (i + 1) = y1.set (o + (j + 1)) (IntKind.u64.wrap (gx y1 (o + (j + 1)) + gx y (o + j) / 67108864)) := by
        rw [given, ← HYE.out, give, ← HJE.out, if_neg hj4, ← HY1.out]
      rw [← hgv] at k6
      have HX6 := Aside0.mk k6
      have HG6 := Aside0.mk (grown_trans (grown_trans HG5.out (grown_drewN _ nq _)) g6)
      clear k6 g6 ib cb fb hgv
      go_wp2
      go_roundw
      case rel => first | exact ⟨i + 1, by omega, by go_num, HX6, HG6⟩ | ((repeat apply Exists.intro); exact ⟨⟨i + 1, by omega, by go_num, HX6, HG6⟩, rfl⟩)
      case measure => simp [intOf]; omega
  obtain rfl : i = 6 := by omega
  go_wp2
  first
  | (go_end0
     exact ⟨rfl, HXi.out, HGi.out⟩)
  | (go_ret
     exact ⟨rfl, HXi.out, HGi.out⟩)
end Go.Proofs.Ytocckplgjbhlbaa.Pol

/- poly's product, walked. Conditions: both numbers lie in one block. -/
namespace Go.Proofs.Ytocckplgjbhlbaa.Pol
open Go.RowKit Go.Proofs.YtocckplgjbhlbaaW.PrintWords Go.Proofs.Ytocckplgjbhlbaa.Cha
set_option linter.unusedVariables false
/-- Numbers laid over others from a place on. -/
def layAt : List Int → Nat → List Int → List Int
  | xs, _, [] => xs
  | xs, o, y :: ys => layAt (xs.set o y) (o + 1) ys
theorem layAt_length : ∀ (ys xs : List Int) (o : Nat), (layAt xs o ys).length = xs.length
  | [], _, _ => rfl
  | y :: ys, xs, o => by rw [layAt, layAt_length ys, List.length_set]
theorem Arr.mid {k : IntKind} {g t : Nat} : ∀ (ys xs : List Int) (o : Nat) (w : World), Arr k w g t xs → Arr k (w.setCells g o (ys.map (Value.int k))) g t (layAt xs o ys) ∧ w.grownBy (w.setCells g o (ys.map (Value.int k))) (some g)
  | [], xs, o, w, h => ⟨h, grown_refl _ _⟩
  | y :: ys, xs, o, w, h => by
    have h1 := h.set o y
    obtain ⟨a, b⟩ := Arr.mid ys (xs.set o y) (o + 1) _ h1
    exact ⟨a, grown_trans (grown_setCell w g o _) b⟩
theorem Arr.putMid {P : Program} {ops : Array Oper} {rest : List Oper} {op : Oper} {a : Act} {Q : Exit → Act → World → Prop} {w : World} {k : IntKind} {g t : Nat} {xs ys : List Int} (hgd : op.guard = none) (ty : TypeId) (x y : Operand) (ho : op.op = .store ty x y) (o : Nat) (hx : a.eval x = .pointer (some ⟨g, o, none⟩)) (hy : a.eval y = agg k ys)
    (h : Arr k w g t xs) (n : Nat) (hi : (P.info? ty).map (·.size) = some n) (hm : ys.length = n) (hn : o + n ≤ xs.length)
    (H : ∀ w1, Arr k w1 g t (layAt xs o ys) → w.grownBy w1 (some g) → wpList P ops Q rest (a.put op.dst undef) w1) : wpList P ops Q (op :: rest) a w := by
  refine wpList_store_mid hgd ty x y ho g o _ hx hy (fun j hj => ⟨?_, h.frozen _⟩) (by rw [hi]; simp [hm]) (by simp [Value.oneCell']) ?_
  · rw [h.cell (o + j) (by simp [hm] at hj; omega)]
    rfl
  · have := Arr.mid ys xs o w h
    exact H _ this.1 this.2
/-- One product of limbs. -/
def limb (xs : List Int) (ox r i k : Nat) : Int :=
  if i + k ≥ 5 then IntKind.u64.wrap (IntKind.u64.wrap (gx xs (ox + i) * gx xs (r + k)) * 5) else IntKind.u64.wrap (gx xs (ox + i) * gx xs (r + k))
def rowAcc (xs : List Int) (ox r : Nat) (y : List Int) (i : Nat) : Nat → List Int
  | 0 => y
  | k + 1 => (rowAcc xs ox r y i k).set ((i + k) % 5) (IntKind.u64.wrap (gx (rowAcc xs ox r y i k) ((i + k) % 5) + limb xs ox r i k))
def mulAcc (xs : List Int) (ox r : Nat) : Nat → List Int
  | 0 => List.replicate 5 0
  | i + 1 => rowAcc xs ox r (mulAcc xs ox r i) i 5
theorem rowAcc_length (xs : List Int) (ox r : Nat) (y : List Int) (i : Nat) : ∀ k, (rowAcc xs ox r y i k).length = y.length
  | 0 => rfl
  | k + 1 => by rw [rowAcc, List.length_set, rowAcc_length xs ox r y i k]
theorem mulAcc_length (xs : List Int) (ox r : Nat) : ∀ i, (mulAcc xs ox r i).length = 5
  | 0 => rfl
  | i + 1 => by rw [mulAcc, rowAcc_length, mulAcc_length xs ox r i]
/-- The numbers behind a product. -/
def timesd (xs : List Int) (ox r : Nat) : List Int := layAt xs ox (given 0 (mulAcc xs ox r 5) 6)
theorem timesd_length (xs : List Int) (ox r : Nat) : (timesd xs ox r).length = xs.length := layAt_length _ _ _
set_option maxRecDepth 100000 in
set_option maxHeartbeats 4000000 in
theorem times_calls (g t ox r : Nat) (xs : List Int) (ho : ox + 5 ≤ xs.length) (hr : r + 5 ≤ xs.length) (w : World) (h : Arr .u64 w g t xs) :
    Calls Try.prog 53 #[.pointer (some ⟨g, ox, none⟩), .pointer (some ⟨g, r, none⟩)] w fun e w' => e = .returned (.tuple #[]) ∧ Arr .u64 w' g t (timesd xs ox r) ∧ w.grownBy w' (some g) := by
  have HX := Aside0.mk h
  have HL := Aside0.mk h.lt
  clear h
  go_enter Try.func53, Try.ntmps53
  go_wp2_with ((with_reducible refine gate_dst (N := 4) rfl ?_); refine box_event ?hg (N := 4) ?hd (cs := ((List.replicate 5 (0 : Int)).map (Value.int .u64)).toArray) (t := 68) ?hr ?_; (case hd => rfl); (case hg => rfl); (case hr => first | (go_simp; done) | (go_simp; rfl)); intro go eg w2 k2 b2; have HO := Aside0.mk (show Arr .u64 w2 go 68 (mulAcc xs ox r 0) from k2); have HX2 := Aside0.mk (HX.out.below b2); have HG2 := Aside0.mk (grown_below (grown_refl w (some g)) b2); have HGO := Aside0.mk (show w.heap.size ≤ go ∧ g < go from by rw [eg]; exact ⟨Nat.le_refl _, HX.out.lt⟩); clear k2 b2 eg)
  go_loopw [8] (fun v wr => ∃ i : Nat, i ≤ 5 ∧ v = .int .i64 i ∧ Aside0 (Arr .u64 wr g t xs) ∧ Aside0 (Arr .u64 wr go 68 (mulAcc xs ox r i)) ∧ Aside0 (w.grownBy wr (some g))) (fun v _ => 5 - (intOf v).toNat)
  case atStart => exact ⟨0, by omega, rfl, HX2, HO, HG2⟩
  case round =>
  obtain ⟨i, hi, rfl, HXi, HOi, HGi⟩ := hrel
  by_cases hlt : i < 5
  · have t1 : decide ((i : Int) < 5) = true := decide_eq_true (by omega)
    go_wp2
    go_loopw [11] (fun v wr => ∃ k : Nat, k ≤ 5 ∧ v = .int .i64 k ∧ Aside0 (Arr .u64 wr g t xs) ∧ Aside0 (Arr .u64 wr go 68 (rowAcc xs ox r (mulAcc xs ox r i) i k)) ∧ Aside0 (w.grownBy wr (some g))) (fun v _ => 5 - (intOf v).toNat)
    case atStart => exact ⟨0, by omega, rfl, HXi, HOi, HGi⟩
    case round =>
    obtain ⟨k, hk, rfl, HXk, HOk, HGk⟩ := hrel
    by_cases hlk : k < 5
    · have t2 : decide ((k : Int) < 5) = true := decide_eq_true (by omega)
      obtain ⟨y, hy⟩ : ∃ y, y = rowAcc xs ox r (mulAcc xs ox r i) i k := ⟨_, rfl⟩
      have HYE := Aside0.mk hy
      have hyl : y.length = 5 := by rw [hy, rowAcc_length, mulAcc_length]
      rw [← hy] at HOk
      clear hy
      obtain ⟨m, hm⟩ : ∃ m, m = (i + k) % 5 := ⟨_, rfl⟩
      have HME := Aside0.mk hm
      have hm5 : m < 5 := by omega
      have z1 : IntKind.i64.wrap ((i : Int) + (k : Int)) = (i : Int) + (k : Int) := IntWalk.i64_in _ (by omega)
      have z2 : ((i : Int) + (k : Int)).tmod 5 = (m : Int) := by rw [Int.tmod_eq_emod_of_nonneg (by omega)]; omega
      have z2' : ((i : Int) + (k : Int)) % 5 = (m : Int) := by omega
      have z3 : IntKind.i64.wrap (m : Int) = (m : Int) := IntWalk.i64_in _ (by omega)
      clear hm
      have ia := ix68 g ox i hlt
      have ib := ix68 g r k hlk
      have ca := HXk.out.cell (ox + i) (by omega)
      have cb := HXk.out.cell (r + k) (by omega)
      go_wp2
      go_quiet (fail)
      clear ia ib ca cb
      have HXq := Aside0.mk (HXk.out.drewN nq)
      have HOq := Aside0.mk (HOk.out.drewN nq)
      have HGq := Aside0.mk (grown_trans HGk.out (grown_drewN _ nq _))
      have io : ∀ W, (Instr.indexAt 68 (.pointer (some ⟨go, 0, none⟩)) (.int .i64 (m : Int))).run Try.prog W = .ok (.pointer (some ⟨go, m, none⟩)) W := fun W => by rw [ix68 go 0 m hm5 W, Nat.zero_add]
      have co := HOq.out.cell m (by omega)
      have fo := HOq.out.frozen m
      by_cases hge : i + k ≥ 5
      · have t3 : decide ((i : Int) + (k : Int) ≥ 5) = true := decide_eq_true (by omega)
        have t3' : decide ((5 : Int) ≤ (i : Int) + (k : Int)) = true := decide_eq_true (by omega)
        have hlb : limb xs ox r i k = IntKind.u64.wrap (IntKind.u64.wrap (gx xs (ox + i) * gx xs (r + k)) * 5) := if_pos hge
        go_wp2_with ((with_reducible refine gate_store (t := 66) (p := 39) rfl ?_); refine Arr.store (g := go) (k := .u64) (xs := y) (t := 68) rfl rfl m (IntKind.u64.wrap (gx y m + limb xs ox r i k)) ?hs HOq.out ?_; (case hs => (rw [hlb]; first | (go_simp; done) | (go_simp; rfl))); intro w5 k5 g5; have HO5 := Aside0.mk (show Arr .u64 w5 go 68 (rowAcc xs ox r (mulAcc xs ox r i) i (k + 1)) from by rw [rowAcc, ← HYE.out, ← HME.out]; exact k5); have HX5 := Aside0.mk (HXq.out.grown g5 (fun e => by have := Option.some.inj e; have := HGO.out.2; omega)); have HG5 := Aside0.mk (grown_new HGq.out g5 HGO.out.1); clear k5 g5)
        go_roundw
        case rel => first | exact ⟨k + 1, by omega, by go_num, HX5, HO5, HG5⟩ | ((repeat apply Exists.intro); exact ⟨⟨k + 1, by omega, by go_num, HX5, HO5, HG5⟩, rfl⟩)
        case measure => simp [intOf]; omega
      · have t3 : decide ((i : Int) + (k : Int) ≥ 5) = false := decide_eq_false (by omega)
        have t3' : decide ((5 : Int) ≤ (i : Int) + (k : Int)) = false := decide_eq_false (by omega)
        have hlb : limb xs ox r i k = IntKind.u64.wrap (gx xs (ox + i) * gx xs (r + k)) := if_neg hge
        go_wp2_with ((with_reducible refine gate_store (t := 66) (p := 39) rfl ?_); refine Arr.store (g := go) (k := .u64) (xs := y) (t := 68) rfl rfl m (IntKind.u64.wrap (gx y m + limb xs ox r i k)) ?hs HOq.out ?_; (case hs => (rw [hlb]; first | (go_simp; done) | (go_simp; rfl))); intro w5 k5 g5; have HO5 := Aside0.mk (show Arr .u64 w5 go 68 (rowAcc xs ox r (mulAcc xs ox r i) i (k + 1)) from by rw [rowAcc, ← HYE.out, ← HME.out]; exact k5); have HX5 := Aside0.mk (HXq.out.grown g5 (fun e => by have := Option.some.inj e; have := HGO.out.2; omega)); have HG5 := Aside0.mk (grown_new HGq.out g5 HGO.out.1); clear k5 g5)
        go_roundw
        case rel => first | exact ⟨k + 1, by omega, by go_num, HX5, HO5, HG5⟩ | ((repeat apply Exists.intro); exact ⟨⟨k + 1, by omega, by go_num, HX5, HO5, HG5⟩, rfl⟩)
        case measure => simp [intOf]; omega
    obtain rfl : k = 5 := by omega
    clear hk hlk
    have HOf := Aside0.mk (show Arr .u64 wr go 68 (mulAcc xs ox r (i + 1)) from HOk.out)
    go_wp2
    go_roundw
    case rel => first | exact ⟨i + 1, by omega, by go_num, HXk, HOf, HGk⟩ | ((repeat apply Exists.intro); exact ⟨⟨i + 1, by omega, by go_num, HXk, HOf, HGk⟩, rfl⟩)
    case measure => simp [intOf]; omega
  obtain rfl : i = 5 := by omega
  clear hi hlt
  have HC := Aside0.mk (fun W hW => carry_calls go 68 0 (mulAcc xs ox r 5) (by rw [mulAcc_length]; omega) W hW)
  have HLm := Aside0.mk (show (given 0 (mulAcc xs ox r 5) 6).length = 5 from by rw [given_length, mulAcc_length])
  go_wp2_with (first | (go_at_call 54; (with_reducible refine (HC.out _ HOi.out).mono ?_); rintro e w6 ⟨rfl, k6, g6⟩; have HO6 := Aside0.mk k6; have HX6 := Aside0.mk (HXi.out.grown g6 (fun e => by have := Option.some.inj e; have := HGO.out.2; omega)); have HG6 := Aside0.mk (grown_new HGi.out g6 HGO.out.1); clear k6 g6) | ((with_reducible refine gate_dst (N := 44) rfl ?_); refine Arr.load (k := .u64) (xs := given 0 (mulAcc xs ox r 5) 6) (g := go) (t := 68) rfl 68 _ rfl rfl HO6.out _ Try.underlying68 rfl 5 (by kernel_rfl) HLm.out ?_) | ((with_reducible refine gate_store (t := 68) (p := 45) rfl ?_); refine Arr.putMid (k := .u64) (g := g) (t := t) (xs := xs) (ys := given 0 (mulAcc xs ox r 5) 6) rfl 68 _ _ rfl ox rfl rfl HX6.out 5 (by kernel_rfl) HLm.out ho ?_; intro w7 k7 g7; have HX7 := Aside0.mk (show Arr .u64 w7 g t (timesd xs ox r) from k7); have HG7 := Aside0.mk (grown_trans HG6.out g7); clear k7 g7))
  first
  | (go_end0
     exact ⟨rfl, HX7.out, HG7.out⟩)
  | (go_ret
     exact ⟨rfl, HX7.out, HG7.out⟩)
end Go.Proofs.Ytocckplgjbhlbaa.Pol

/- poly's load, walked. Conditions: at most 16 bytes, which lie in one block. -/
namespace Go.Proofs.Ytocckplgjbhlbaa.Pol
open Go.RowKit Go.Proofs.YtocckplgjbhlbaaW.PrintWords Go.Proofs.Ytocckplgjbhlbaa.Cha
set_option linter.unusedVariables false
theorem ix79 (g i : Nat) (h : i < 3) (W : World) : (Instr.indexAt 79 (.pointer (some ⟨g, 0, none⟩)) (.int .i64 (i : Int))).run Try.prog W = .ok (.pointer (some ⟨g, i, none⟩)) W := by
  have hl : Try.prog.arrayLen 79 = 3 := by kernel_rfl
  have he : Try.prog.elem 79 = 66 := by kernel_rfl
  have hs : (sizeOf 66).run Try.prog W = .ok 1 W := by kernel_rfl
  rw [run_indexAt_array (P := Try.prog) (w := W) 79 ⟨g, 0, none⟩ .i64 i (by rw [hl, he]; exact Try.underlying79)]
  rw [hl, he, if_pos (by omega), hs]
  simp [Addr.add, Result.andThen]
  omega
theorem info68 : (Try.prog.info? 68).map (fun i => i.size) = some 5 := by kernel_rfl
/-- The three words of j bytes. -/
def words (xs : List Int) (o : Nat) : Nat → List Int
  | 0 => List.replicate 3 0
  | j + 1 => (words xs o j).set (j / 8) (Go.bits .or .u64 (gx (words xs o j) (j / 8)) (IntKind.u64.wrap (IntKind.u64.wrap (gx xs (o + j)) * 2 ^ (8 * (j % 8)))))
theorem words_length (xs : List Int) (o : Nat) : ∀ j, (words xs o j).length = 3
  | 0 => rfl
  | j + 1 => by rw [words, List.length_set, words_length xs o j]
/-- .. with the bit behind them. -/
def bitted (xs : List Int) (o n : Nat) : List Int := (words xs o n).set (n / 8) (Go.bits .or .u64 (gx (words xs o n) (n / 8)) (IntKind.u64.wrap (1 * 2 ^ (8 * (n % 8)))))
theorem bitted_length (xs : List Int) (o n : Nat) : (bitted xs o n).length = 3 := by rw [bitted, List.length_set, words_length]
def limbs (z : List Int) : List Int :=
  [Go.bits .and .u64 (gx z 0) 67108863, Go.bits .and .u64 (gx z 0 / 67108864) 67108863, Go.bits .and .u64 (Go.bits .or .u64 (gx z 0 / 4503599627370496) (IntKind.u64.wrap (gx z 1 * 4096))) 67108863,
   Go.bits .and .u64 (gx z 1 / 16384) 67108863, Go.bits .or .u64 (gx z 1 / 1099511627776) (IntKind.u64.wrap (gx z 2 * 16777216))]
set_option maxRecDepth 100000 in
set_option maxHeartbeats 4000000 in
theorem load_calls (g o n c : Nat) (xs : List Int) (hn : n ≤ 16) (ho : o + n ≤ xs.length) (w : World) (h : Bts w g xs) :
    Calls Try.prog 42 #[.slice (some ⟨g, o, none⟩) n c] w fun e w' => e = .returned (agg .u64 (limbs (bitted xs o n))) ∧ Below w.heap.size w w' := by
  have HX := Aside0.mk h
  clear h
  go_enter Try.func42, Try.ntmps42
  go_wp2_with (first | ((with_reducible refine gate_dst (N := 2) rfl ?_); refine box_event ?hg (N := 2) ?hd (cs := ((List.replicate 5 (0 : Int)).map (Value.int .u64)).toArray) (t := 68) ?hr ?_; (case hd => rfl); (case hg => rfl); (case hr => first | (go_simp; done) | (go_simp; rfl)); intro gr eg w2 k2 b2; have HR2 := Aside0.mk (show Arr .u64 w2 gr 68 (List.replicate 5 0) from k2); have HX2 := Aside0.mk (HX.out.below b2); have HB2 := Aside0.mk b2; have HGR := Aside0.mk (show w.heap.size ≤ gr from by rw [eg]; exact Nat.le_refl _); clear k2 b2 eg) | ((with_reducible refine gate_dst (N := 3) rfl ?_); refine box_event ?hg (N := 3) ?hd (cs := ((List.replicate 3 (0 : Int)).map (Value.int .u64)).toArray) (t := 79) ?hr ?_; (case hd => rfl); (case hg => rfl); (case hr => first | (go_simp; done) | (go_simp; rfl)); intro gw eg w3 k3 b3; have HW3 := Aside0.mk (show Arr .u64 w3 gw 79 (words xs o 0) from k3); have HX3 := Aside0.mk (HX2.out.below b3); have HR3 := Aside0.mk (HR2.out.below b3); have HB3 := Aside0.mk (below_step HB2.out b3); have HGW := Aside0.mk (show w.heap.size ≤ gw ∧ gr < gw ∧ g < gw from by rw [eg]; exact ⟨below_size HB2.out, HR2.out.lt, HX2.out.1⟩); clear k3 b3 eg))
  go_loopw [8] (fun v wr => ∃ j : Nat, j ≤ n ∧ v = .int .i64 j ∧ Aside0 (Bts wr g xs) ∧ Aside0 (Arr .u64 wr gr 68 (List.replicate 5 0)) ∧ Aside0 (Arr .u64 wr gw 79 (words xs o j)) ∧ Aside0 (Below w.heap.size w wr)) (fun v _ => n - (intOf v).toNat)
  case atStart => exact ⟨0, by omega, rfl, HX3, HR3, HW3, HB3⟩
  case round =>
  obtain ⟨j, hj, rfl, HXj, HRj, HWj, HBj⟩ := hrel
  by_cases hlt : j < n
  · have t1 : decide ((j : Int) < (n : Int)) = true := decide_eq_true (by omega)
    obtain ⟨q, hq⟩ : ∃ q, q = j / 8 := ⟨_, rfl⟩
    obtain ⟨m, hm⟩ : ∃ m, m = j % 8 := ⟨_, rfl⟩
    have HQE := Aside0.mk hq
    have HME := Aside0.mk hm
    have hq3 : q < 3 := by omega
    have hm8 : m < 8 := by omega
    have z1 : IntKind.i64.wrap ((j : Int) / 8) = (q : Int) := by rw [IntWalk.i64_in _ (by omega)]; omega
    have z1' : (j : Int) / 8 = (q : Int) := by omega
    have z1q : IntKind.i64.wrap (q : Int) = (q : Int) := IntWalk.i64_in _ (by omega)
    have z1'' : (j : Int).tdiv 8 = (q : Int) := by rw [Int.tdiv_eq_ediv_of_nonneg (by omega)]; omega
    have z2 : (j : Int).tmod 8 = (m : Int) := by rw [Int.tmod_eq_emod_of_nonneg (by omega)]; omega
    have z2' : (j : Int) % 8 = (m : Int) := by omega
    have z3 : IntKind.i64.wrap (m : Int) = (m : Int) := IntWalk.i64_in _ (by omega)
    have z4 : IntKind.i64.wrap (8 * (m : Int)) = 8 * (m : Int) := IntWalk.i64_in _ (by omega)
    have p0 : ((0 : Int) ≤ 8 * (m : Int)) = True := eq_true (by omega)
    have p1 : (8 * (m : Int) ≤ 64) = True := eq_true (by omega)
    have z5 : (8 * (m : Int)).toNat = 8 * m := by omega
    clear hq hm
    have ia := ixo g o n c j hlt
    have ca := HXj.out.cell (o + j) (by omega)
    have ib := ix79 gw q hq3
    have cb := HWj.out.cell q (by rw [words_length]; omega)
    have fb := HWj.out.frozen q
    go_wp2
    refine wp_region_quiet_tail 12 (by kernel_rfl) (by kernel_rfl) ?_
    simp only [List.take_succ_cons, List.take_zero, List.drop_succ_cons, List.drop_zero]
    repeat (quiet_step (fail))
    refine wpQuiet_nil ?_
    intro nq
    refine Arr.store (g := gw) (k := .u64) (xs := words xs o j) (t := 79) rfl rfl q (Go.bits .or .u64 (gx (words xs o j) q) (IntKind.u64.wrap (IntKind.u64.wrap (gx xs (o + j)) * 2 ^ (8 * m)))) ?hs (HWj.out.drewN nq) ?_
    case hs => (first | (go_simp; done) | (go_simp; rfl))
    intro w5 k5 g5
    have HW5 := Aside0.mk (show Arr .u64 w5 gw 79 (words xs o (j + 1)) from by rw [words, ← HQE.out, ← HME.out]; exact k5)
    have HX5 := Aside0.mk ((HXj.out.drewN nq).grown g5 (fun e => by have := Option.some.inj e; have := HGW.out.2.2; omega))
    have HR5 := Aside0.mk ((HRj.out.drewN nq).grown g5 (fun e => by have := Option.some.inj e; have := HGW.out.2.1; omega))
    have HB5 := Aside0.mk ((pw_below_drewN HBj.out nq).grown g5 (below_size (pw_below_drewN HBj.out nq)) (fun k hk => by rw [← Option.some.inj hk]; exact HGW.out.1))
    clear k5 g5 ia ca ib cb fb
    go_wp2
    go_roundw
    case rel => first | exact ⟨j + 1, by omega, by go_num, HX5, HR5, HW5, HB5⟩ | ((repeat apply Exists.intro); exact ⟨⟨j + 1, by omega, by go_num, HX5, HR5, HW5, HB5⟩, rfl⟩)
    case measure => simp [intOf]; omega
  obtain rfl : j = n := by omega
  clear hj hlt
  obtain ⟨q, hq⟩ : ∃ q, q = j / 8 := ⟨_, rfl⟩
  obtain ⟨m, hm⟩ : ∃ m, m = j % 8 := ⟨_, rfl⟩
  have HQE := Aside0.mk hq
  have HME := Aside0.mk hm
  have hq3 : q < 3 := by omega
  have hm8 : m < 8 := by omega
  have z1 : IntKind.i64.wrap ((j : Int) / 8) = (q : Int) := by rw [IntWalk.i64_in _ (by omega)]; omega
  have z1' : (j : Int) / 8 = (q : Int) := by omega
  have z1q : IntKind.i64.wrap (q : Int) = (q : Int) := IntWalk.i64_in _ (by omega)
  have z1'' : (j : Int).tdiv 8 = (q : Int) := by rw [Int.tdiv_eq_ediv_of_nonneg (by omega)]; omega
  have z2 : (j : Int).tmod 8 = (m : Int) := by rw [Int.tmod_eq_emod_of_nonneg (by omega)]; omega
  have z2' : (j : Int) % 8 = (m : Int) := by omega
  have z3 : IntKind.i64.wrap (m : Int) = (m : Int) := IntWalk.i64_in _ (by omega)
  have z4 : IntKind.i64.wrap (8 * (m : Int)) = 8 * (m : Int) := IntWalk.i64_in _ (by omega)
  have p0 : ((0 : Int) ≤ 8 * (m : Int)) = True := eq_true (by omega)
  have p1 : (8 * (m : Int) ≤ 64) = True := eq_true (by omega)
  clear hq hm
  have ib := ix79 gw q hq3
  have cb := HWj.out.cell q (by rw [words_length]; omega)
  have fb := HWj.out.frozen q
  go_wp2
  refine wp_region_quiet_tail 12 (by kernel_rfl) (by kernel_rfl) ?_
  simp only [List.take_succ_cons, List.take_zero, List.drop_succ_cons, List.drop_zero]
  repeat (quiet_step (fail))
  refine wpQuiet_nil ?_
  intro nq
  refine Arr.store (g := gw) (k := .u64) (xs := words xs o j) (t := 79) rfl rfl q (Go.bits .or .u64 (gx (words xs o j) q) (IntKind.u64.wrap (1 * 2 ^ (8 * m)))) ?hs2 (HWj.out.drewN nq) ?_
  case hs2 => (first | (go_simp; done) | (go_simp; rfl))
  intro w5 k5 g5
  obtain ⟨z, hz⟩ : ∃ z, z = bitted xs o j := ⟨_, rfl⟩
  have HZE := Aside0.mk hz
  have hzl : z.length = 3 := by rw [hz, bitted_length]
  have HW5 := Aside0.mk (show Arr .u64 w5 gw 79 z from by rw [hz, bitted, ← HQE.out, ← HME.out]; exact k5)
  have HR5 := Aside0.mk ((HRj.out.drewN nq).grown g5 (fun e => by have := Option.some.inj e; have := HGW.out.2.1; omega))
  have HB5 := Aside0.mk ((pw_below_drewN HBj.out nq).grown g5 (below_size (pw_below_drewN HBj.out nq)) (fun k hk => by rw [← Option.some.inj hk]; exact HGW.out.1))
  clear k5 g5 ib cb fb hz
  have i0 : ∀ W, (Instr.indexAt 79 (.pointer (some ⟨gw, 0, none⟩)) (.int .i64 0)).run Try.prog W = .ok (.pointer (some ⟨gw, 0, none⟩)) W := fun W => ix79 gw 0 (by omega) W
  have i1 : ∀ W, (Instr.indexAt 79 (.pointer (some ⟨gw, 0, none⟩)) (.int .i64 1)).run Try.prog W = .ok (.pointer (some ⟨gw, 1, none⟩)) W := fun W => ix79 gw 1 (by omega) W
  have i2 : ∀ W, (Instr.indexAt 79 (.pointer (some ⟨gw, 0, none⟩)) (.int .i64 2)).run Try.prog W = .ok (.pointer (some ⟨gw, 2, none⟩)) W := fun W => ix79 gw 2 (by omega) W
  have c0 := HW5.out.cell 0 (by omega)
  have c1 := HW5.out.cell 1 (by omega)
  have c2 := HW5.out.cell 2 (by omega)
  go_wp2_with ((with_reducible refine gate_store (t := 68) (p := 2) rfl ?_); refine Arr.put (k := .u64) (g := gr) (t := 68) (xs := List.replicate 5 0) (ys := limbs z) rfl 68 _ _ rfl rfl ?hy HR5.out 5 (by kernel_rfl) rfl rfl ?_; (case hy => (first | (go_simp; done) | (go_simp; rfl))); intro w9 k9 g9; have H9 := Aside0.mk k9; have G9 := Aside0.mk g9; clear k9 g9)
  rw [← HZE.out]
  refine bodyPost_ret (v := agg .u64 (limbs z)) (results_cell_row rfl _ _ gr 68 _ _ _ rfl H9.out Try.underlying68 rfl ?_) rfl ⟨rfl, ?_⟩
  · rw [info68]
    rfl
  · exact HB5.out.grown G9.out (below_size HB5.out) (fun k hk => by rw [← Option.some.inj hk]; exact HGR.out)
end Go.Proofs.Ytocckplgjbhlbaa.Pol

/- poly's add, walked. Conditions: the sum lies in one block, the bytes in another. -/
namespace Go.Proofs.Ytocckplgjbhlbaa.Pol
open Go.RowKit Go.Proofs.YtocckplgjbhlbaaW.PrintWords Go.Proofs.Ytocckplgjbhlbaa.Cha
set_option linter.unusedVariables false
/-- A number's limbs added to those behind the fifth. -/
def plus (xs y : List Int) : Nat → List Int
  | 0 => xs
  | i + 1 => (plus xs y i).set (5 + i) (IntKind.u64.wrap (gx (plus xs y i) (5 + i) + gx y i))
theorem plus_length (xs y : List Int) : ∀ i, (plus xs y i).length = xs.length
  | 0 => rfl
  | i + 1 => by rw [plus, List.length_set, plus_length xs y i]
/-- The sum behind one block. -/
def added (xs bs : List Int) (o n : Nat) : List Int := timesd (plus xs (limbs (bitted bs o n)) 5) 5 0
theorem added_length (xs bs : List Int) (o n : Nat) : (added xs bs o n).length = xs.length := by rw [added, timesd_length, plus_length]
set_option maxRecDepth 100000 in
set_option maxHeartbeats 4000000 in
theorem add_calls (g t : Nat) (xs : List Int) (hx : xs.length = 10) (gb o n c : Nat) (bs : List Int) (hn : n ≤ 16) (ho : o + n ≤ bs.length) (hne : gb ≠ g) (w : World) (h : Arr .u64 w g t xs) (hb : Bts w gb bs) :
    Calls Try.prog 43 #[.pointer (some ⟨g, 0, none⟩), .slice (some ⟨gb, o, none⟩) n c] w fun e w' => e = .returned (.tuple #[]) ∧ Arr .u64 w' g t (added xs bs o n) ∧ w.grownBy w' (some g) := by
  have HX := Aside0.mk h
  have HB := Aside0.mk hb
  clear h
  have HLc := Aside0.mk (fun W hW => load_calls gb o n c bs hn ho W hW)
  obtain ⟨y, hy⟩ : ∃ y, y = limbs (bitted bs o n) := ⟨_, rfl⟩
  have hyl : y.length = 5 := by rw [hy]; rfl
  have HYE := Aside0.mk hy
  rw [← hy] at HLc
  clear hy hb
  go_enter Try.func43, Try.ntmps43
  go_wp2_with (first | (go_at_call 42; (with_reducible refine (HLc.out _ HB.out).mono ?_); rintro e w1 ⟨rfl, b1⟩; have HX1 := Aside0.mk (HX.out.below b1); have HG1 := Aside0.mk (grown_below (grown_refl w (some g)) b1); clear b1) | ((with_reducible refine gate_dst (N := 4) rfl ?_); refine box_event ?hg (N := 4) ?hd (cs := ((List.replicate 5 (0 : Int)).map (Value.int .u64)).toArray) (t := 68) ?hr ?_; (case hd => rfl); (case hg => rfl); (case hr => first | (go_simp; done) | (go_simp; rfl)); intro gy eg w2 k2 b2; have HY2 := Aside0.mk (show Arr .u64 w2 gy 68 (List.replicate 5 0) from k2); have HX2 := Aside0.mk (HX1.out.below b2); have HG2 := Aside0.mk (grown_below HG1.out b2); have HGY := Aside0.mk (show w.heap.size ≤ gy ∧ g < gy from by rw [eg]; exact ⟨HG1.out.size, HX1.out.lt⟩); clear k2 b2 eg) | ((with_reducible refine gate_store (t := 68) (p := 4) rfl ?_); refine Arr.put (k := .u64) (g := gy) (t := 68) (xs := List.replicate 5 0) (ys := y) rfl 68 _ _ rfl rfl rfl HY2.out 5 (by kernel_rfl) rfl hyl ?_; intro w3 k3 g3; have HY3 := Aside0.mk k3; have HX3 := Aside0.mk (show Arr .u64 w3 g t (plus xs y 0) from HX2.out.grown g3 (fun e => by have := Option.some.inj e; have := HGY.out.2; omega)); have HG3 := Aside0.mk (grown_new HG2.out g3 HGY.out.1); clear k3 g3))
  go_loopw [8] (fun v wr => ∃ i : Nat, i ≤ 5 ∧ v = .int .i64 i ∧ Aside0 (Arr .u64 wr g t (plus xs y i)) ∧ Aside0 (Arr .u64 wr gy 68 y) ∧ Aside0 (w.grownBy wr (some g))) (fun v _ => 5 - (intOf v).toNat)
  case atStart => exact ⟨0, by omega, rfl, HX3, HY3, HG3⟩
  case round =>
  obtain ⟨i, hi, rfl, HXi, HYi, HGi⟩ := hrel
  by_cases hlt : i < 5
  · have t1 : decide ((i : Int) < 5) = true := decide_eq_true (by omega)
    have ia := ix68 g 5 i hlt
    have ib : ∀ W, (Instr.indexAt 68 (.pointer (some ⟨gy, 0, none⟩)) (.int .i64 (i : Int))).run Try.prog W = .ok (.pointer (some ⟨gy, i, none⟩)) W := fun W => by rw [ix68 gy 0 i hlt W, Nat.zero_add]
    have ca := HXi.out.cell (5 + i) (by rw [plus_length]; omega)
    have fa := HXi.out.frozen (5 + i)
    have cb := HYi.out.cell i (by omega)
    go_wp2
    refine wp_region_quiet_tail 13 (by kernel_rfl) (by kernel_rfl) ?_
    simp only [List.take_succ_cons, List.take_zero, List.drop_succ_cons, List.drop_zero]
    repeat (quiet_step (fail))
    refine wpQuiet_nil ?_
    intro nq
    refine Arr.store (g := g) (k := .u64) (xs := plus xs y i) (t := t) rfl rfl (5 + i) (IntKind.u64.wrap (gx (plus xs y i) (5 + i) + gx y i)) ?hs (HXi.out.drewN nq) ?_
    case hs => (first | (go_simp; done) | (go_simp; rfl))
    intro w5 k5 g5
    have HX5 := Aside0.mk (show Arr .u64 w5 g t (plus xs y (i + 1)) from k5)
    have HY5 := Aside0.mk ((HYi.out.drewN nq).grown g5 (fun e => by have := Option.some.inj e; have := HGY.out.2; omega))
    have HG5 := Aside0.mk (grown_trans (grown_trans HGi.out (grown_drewN _ nq _)) g5)
    clear k5 g5 ia ca ib cb fa
    go_wp2
    go_roundw
    case rel => first | exact ⟨i + 1, by omega, by go_num, HX5, HY5, HG5⟩ | ((repeat apply Exists.intro); exact ⟨⟨i + 1, by omega, by go_num, HX5, HY5, HG5⟩, rfl⟩)
    case measure => simp [intOf]; omega
  obtain rfl : i = 5 := by omega
  clear hi hlt
  go_wp2
  refine wp_region_quiet_tail 6 (by kernel_rfl) (by kernel_rfl) ?_
  simp only [List.take_succ_cons, List.take_zero, List.drop_succ_cons, List.drop_zero]
  repeat (quiet_step (fail))
  refine wpQuiet_nil ?_
  intro nq
  have HT := Aside0.mk (fun W hW => times_calls g t 5 0 (plus xs y 5) (by rw [plus_length]; omega) (by rw [plus_length]; omega) W hW)
  go_wp2_with (go_at_call 53; (with_reducible refine (HT.out _ (HXi.out.drewN nq)).mono ?_); rintro e w6 ⟨rfl, k6, g6⟩)
  have HX6 := Aside0.mk (show Arr .u64 w6 g t (added xs bs o n) from by rw [added, ← HYE.out]; exact k6)
  have HG6 := Aside0.mk (grown_trans (grown_trans HGi.out (grown_drewN _ nq _)) g6)
  first
  | (go_end0
     exact ⟨rfl, HX6.out, HG6.out⟩)
  | (go_ret
     exact ⟨rfl, HX6.out, HG6.out⟩)
end Go.Proofs.Ytocckplgjbhlbaa.Pol

/- poly's all, walked. Conditions: the sum lies in one block, the bytes in another. -/
namespace Go.Proofs.Ytocckplgjbhlbaa.Pol
open Go.RowKit Go.Proofs.YtocckplgjbhlbaaW.PrintWords Go.Proofs.Ytocckplgjbhlbaa.Cha
set_option linter.unusedVariables false
theorem slh (g o r cr m : Nat) (h : m ≤ cr) (W : World) : (Instr.slice 32 (.slice (some ⟨g, o, none⟩) r cr) none (some (.int .i64 (m : Int))) none).run Try.prog W = .ok (.slice (some ⟨g, o, none⟩) m cr) W := by
  have he : Try.prog.elem 32 = 5 := by kernel_rfl
  have hs : (sizeOf 5).run Try.prog W = .ok 1 W := by kernel_rfl
  rw [run_slice_h (P := Try.prog) (w := W) 32 (some ⟨g, o, none⟩) r cr (by rw [he]; exact Try.underlying32) .i64 m (by omega) (by omega)]
  rw [he, hs]
  simp only [Result.andThen, sliced, Int.toNat_natCast, Option.map, Nat.zero_mul, Nat.sub_zero]
  have : (⟨g, o, none⟩ : Addr).add 0 = ⟨g, o, none⟩ := by simp [Addr.add]
  rw [this]
  split <;> rfl
/-- The sum behind q blocks of n bytes. -/
def alled (xs bs : List Int) (o n : Nat) : Nat → List Int
  | 0 => xs
  | q + 1 => added (alled xs bs o n q) bs (o + 16 * q) (min (n - 16 * q) 16)
theorem alled_length (xs bs : List Int) (o n : Nat) : ∀ q, (alled xs bs o n q).length = xs.length
  | 0 => rfl
  | q + 1 => by rw [alled, added_length, alled_length xs bs o n q]
set_option maxRecDepth 100000 in
set_option maxHeartbeats 4000000 in
theorem all_calls (g t : Nat) (xs : List Int) (hx : xs.length = 10) (gb o n c : Nat) (bs : List Int) (ho : o + n ≤ bs.length) (hc : n ≤ c) (hne : gb ≠ g) (w : World) (h : Arr .u64 w g t xs) (hb : Bts w gb bs) :
    Calls Try.prog 32 #[.pointer (some ⟨g, 0, none⟩), .slice (some ⟨gb, o, none⟩) n c] w fun e w' => e = .returned (.tuple #[]) ∧ Arr .u64 w' g t (alled xs bs o n ((n + 15) / 16)) ∧ w.grownBy w' (some g) := by
  have HX := Aside0.mk h
  have HB := Aside0.mk hb
  clear h hb
  go_enter Try.func32, Try.ntmps32
  go_wp2
  go_loopw [1] (fun v wr => ∃ q d p r cr : Nat, d + r = n ∧ d + cr = c ∧ v = .slice (some ⟨gb, p, none⟩) r cr ∧ Aside0 (0 < r → d = 16 * q ∧ p = o + d) ∧ Aside0 (r = 0 → q = (n + 15) / 16) ∧ Aside0 (Bts wr gb bs) ∧ Aside0 (Arr .u64 wr g t (alled xs bs o n q)) ∧ Aside0 (w.grownBy wr (some g))) (fun v _ => match v with | .slice _ r _ => r | _ => 0)
  case atStart => exact ⟨0, 0, o, n, c, by omega, by omega, rfl, ⟨fun _ => ⟨rfl, rfl⟩⟩, ⟨fun _ => by omega⟩, HB, HX, ⟨grown_refl _ _⟩⟩
  case round =>
  obtain ⟨q, d, p, r, cr, hd, hcr, rfl, HD, HQ, HBi, HXi, HGi⟩ := hrel
  by_cases hlt : 0 < r
  · have t1 : decide ((r : Int) > 0) = true := decide_eq_true (by omega)
    have t1' : decide ((0 : Int) < (r : Int)) = true := decide_eq_true (by omega)
    obtain ⟨hd1, hp⟩ := HD.out hlt
    subst hp
    subst hd1
    have hlz := alled_length xs bs o n q
    rw [hx] at hlz
    obtain ⟨z, hz⟩ : ∃ z, z = alled xs bs o n q := ⟨_, rfl⟩
    rw [← hz] at HXi hlz
    have HZE := Aside0.mk hz
    clear hz
    by_cases h16 : r ≤ 16
    · have t3 : ((r : Int) ≤ 16) = True := eq_true (by omega)
      have t4 : (r ≤ 16) = True := eq_true (by omega)
      have HA := Aside0.mk (fun W hW hb => add_calls g t z hlz gb (o + 16 * q) r cr bs (by omega) (by omega) hne W hW hb)
      have sh : ∀ W, (Instr.slice 32 (.slice (some ⟨gb, o + 16 * q, none⟩) r cr) none (some (.int .i64 (r : Int))) none).run Try.prog W = .ok (.slice (some ⟨gb, o + 16 * q, none⟩) r cr) W := fun W => slh gb (o + 16 * q) r cr r (by omega) W
      have sl : ∀ W, (Instr.slice 32 (.slice (some ⟨gb, o + 16 * q, none⟩) r cr) (some (.int .i64 (r : Int))) none none).run Try.prog W = .ok (.slice (some ⟨gb, if cr = r then o + 16 * q else o + 16 * q + r, none⟩) (r - r) (cr - r)) W := fun W => slo gb (o + 16 * q) r cr r (by omega) W
      go_wp2_with (go_at_call 43; (with_reducible refine (HA.out _ HXi.out HBi.out).mono ?_); rintro e w6 ⟨rfl, k6, g6⟩; have HX6 := Aside0.mk (show Arr .u64 w6 g t (alled xs bs o n (q + 1)) from by rw [alled, ← HZE.out, show min (n - 16 * q) 16 = r by omega]; exact k6); have HB6 := Aside0.mk (HBi.out.grown g6 (fun e => hne (Option.some.inj e))); have HG6 := Aside0.mk (grown_trans HGi.out g6); clear k6 g6)
      go_roundw
      case rel => first | exact ⟨q + 1, 16 * q + r, _, 0, cr - r, by omega, by omega, rfl, ⟨fun h => ⟨by omega, by first | omega | (exfalso; omega) | (rw [if_neg (by omega)]; omega)⟩⟩, ⟨fun h => by omega⟩, HB6, HX6, HG6⟩ | ((repeat apply Exists.intro); exact ⟨⟨q + 1, 16 * q + r, _, 0, cr - r, by omega, by omega, rfl, ⟨fun h => ⟨by omega, by first | omega | (exfalso; omega) | (rw [if_neg (by omega)]; omega)⟩⟩, ⟨fun h => by omega⟩, HB6, HX6, HG6⟩, rfl⟩)
      case measure => (first | (show r - r < r; omega) | (simp; omega))
    · have t3 : ((r : Int) ≤ 16) = False := eq_false (by omega)
      have t4 : (r ≤ 16) = False := eq_false (by omega)
      have HA := Aside0.mk (fun W hW hb => add_calls g t z hlz gb (o + 16 * q) 16 cr bs (by omega) (by omega) hne W hW hb)
      have sh : ∀ W, (Instr.slice 32 (.slice (some ⟨gb, o + 16 * q, none⟩) r cr) none (some (.int .i64 16)) none).run Try.prog W = .ok (.slice (some ⟨gb, o + 16 * q, none⟩) 16 cr) W := fun W => slh gb (o + 16 * q) r cr 16 (by omega) W
      have sl : ∀ W, (Instr.slice 32 (.slice (some ⟨gb, o + 16 * q, none⟩) r cr) (some (.int .i64 16)) none none).run Try.prog W = .ok (.slice (some ⟨gb, if cr = 16 then o + 16 * q else o + 16 * q + 16, none⟩) (r - 16) (cr - 16)) W := fun W => slo gb (o + 16 * q) r cr 16 (by omega) W
      go_wp2_with (go_at_call 43; (with_reducible refine (HA.out _ HXi.out HBi.out).mono ?_); rintro e w6 ⟨rfl, k6, g6⟩; have HX6 := Aside0.mk (show Arr .u64 w6 g t (alled xs bs o n (q + 1)) from by rw [alled, ← HZE.out, show min (n - 16 * q) 16 = 16 by omega]; exact k6); have HB6 := Aside0.mk (HBi.out.grown g6 (fun e => hne (Option.some.inj e))); have HG6 := Aside0.mk (grown_trans HGi.out g6); clear k6 g6)
      go_roundw
      case rel => first | exact ⟨q + 1, 16 * q + 16, _, r - 16, cr - 16, by omega, by omega, rfl, ⟨fun h => ⟨by omega, by first | omega | (exfalso; omega) | (rw [if_neg (by omega)]; omega)⟩⟩, ⟨fun h => by omega⟩, HB6, HX6, HG6⟩ | ((repeat apply Exists.intro); exact ⟨⟨q + 1, 16 * q + 16, _, r - 16, cr - 16, by omega, by omega, rfl, ⟨fun h => ⟨by omega, by first | omega | (exfalso; omega) | (rw [if_neg (by omega)]; omega)⟩⟩, ⟨fun h => by omega⟩, HB6, HX6, HG6⟩, rfl⟩)
      case measure => (first | (show r - 16 < r; omega) | (simp; omega))
  · obtain rfl : r = 0 := by omega
    have hqe := HQ.out rfl
    subst hqe
    go_wp2
    first
    | (go_end0
       exact ⟨rfl, HXi.out, HGi.out⟩)
    | (go_ret
       exact ⟨rfl, HXi.out, HGi.out⟩)
end Go.Proofs.Ytocckplgjbhlbaa.Pol

/- poly's whole, walked. Conditions: five limbs. -/
namespace Go.Proofs.Ytocckplgjbhlbaa.Pol
open Go.RowKit Go.Proofs.YtocckplgjbhlbaaW.PrintWords Go.Proofs.Ytocckplgjbhlbaa.Cha
set_option linter.unusedVariables false
def twice (xs : List Int) : List Int := given 0 (given 0 xs 6) 6
theorem twice_length (xs : List Int) : (twice xs).length = xs.length := by rw [twice, given_length, given_length]
def pull (y : List Int) (i : Nat) : List Int := y.set (i + 1) (IntKind.u64.wrap (gx y (i + 1) + gx y i / 67108864))
def push (y : List Int) (i : Nat) : List Int := y.set i (Go.bits .and .u64 (gx y i) 67108863)
def over5 (xs : List Int) : Nat → List Int
  | 0 => xs.set 0 (IntKind.u64.wrap (gx xs 0 + 5))
  | i + 1 => push (pull (over5 xs i) i) i
theorem over5_length (xs : List Int) : ∀ i, (over5 xs i).length = xs.length
  | 0 => by rw [over5, List.length_set]
  | i + 1 => by rw [over5, push, pull, List.length_set, List.length_set, over5_length xs i]
def wholed (xs : List Int) : List Int := if gx (over5 (twice xs) 4) 4 / 67108864 > 0 then push (over5 (twice xs) 4) 4 else twice xs
theorem wholed_length (xs : List Int) : (wholed xs).length = xs.length := by
  unfold wholed push
  split
  · rw [List.length_set, over5_length, twice_length]
  · rw [twice_length]
set_option maxRecDepth 100000 in
set_option maxHeartbeats 4000000 in
theorem whole_calls (xs : List Int) (hx : xs.length = 5) (w : World) :
    Calls Try.prog 44 #[agg .u64 xs] w fun e w' => e = .returned (agg .u64 (wholed xs)) ∧ Below w.heap.size w w' := by
  have HC := Aside0.mk (fun g (ys : List Int) (hy : ys.length = 5) W hW => carry_calls g 68 0 ys (by omega) W hW)
  have HL0 := Aside0.mk hx
  have HL1 := Aside0.mk (show (given 0 xs 6).length = 5 from by rw [given_length]; exact hx)
  have HL2 := Aside0.mk (show (twice xs).length = 5 from by rw [twice_length]; exact hx)
  go_enter Try.func44, Try.ntmps44
  go_wp2_with (first | ((with_reducible refine gate_dst (N := 1) rfl ?_); refine Arr.box (k := .u64) (xs := xs) rfl 68 _ rfl rfl ?_; intro g1 eg w1 k1 b1; have HX1 := Aside0.mk k1; have HB1 := Aside0.mk b1; have HG1 := Aside0.mk (show w.heap.size ≤ g1 from by rw [eg]; exact Nat.le_refl _); clear k1 b1 eg) | ((with_reducible refine gate_dst (N := 2) rfl ?_); refine box_event ?hg (N := 2) ?hd (cs := ((List.replicate 5 (0 : Int)).map (Value.int .u64)).toArray) (t := 68) ?hr ?_; (case hd => rfl); (case hg => rfl); (case hr => first | (go_simp; done) | (go_simp; rfl)); intro gr eg w2 k2 b2; have HR2 := Aside0.mk (show Arr .u64 w2 gr 68 (List.replicate 5 0) from k2); have HX2 := Aside0.mk (HX1.out.below b2); have HB2 := Aside0.mk (below_step HB1.out b2); have HGR := Aside0.mk (show w.heap.size ≤ gr ∧ g1 < gr from by rw [eg]; exact ⟨below_size HB1.out, HX1.out.lt⟩); clear k2 b2 eg) | (go_at_call 54; first | ((with_reducible refine (HC.out g1 (given 0 xs 6) HL1.out _ HX3.out).mono ?_); rintro e w4 ⟨rfl, k4, g4⟩; have HX4 := Aside0.mk (show Arr .u64 w4 g1 68 (twice xs) from k4); have HR4 := Aside0.mk (HR3.out.grown g4 (fun e => by have := Option.some.inj e; have := HGR.out.2; omega)); have HB4 := Aside0.mk (HB3.out.grown g4 (below_size HB3.out) (fun k hk => by rw [← Option.some.inj hk]; exact HG1.out)); clear k4 g4) | ((with_reducible refine (HC.out g1 xs HL0.out _ HX2.out).mono ?_); rintro e w3 ⟨rfl, k3, g3⟩; have HX3 := Aside0.mk k3; have HR3 := Aside0.mk (HR2.out.grown g3 (fun e => by have := Option.some.inj e; have := HGR.out.2; omega)); have HB3 := Aside0.mk (HB2.out.grown g3 (below_size HB2.out) (fun k hk => by rw [← Option.some.inj hk]; exact HG1.out)); clear k3 g3)) | ((with_reducible refine gate_dst (N := 7) rfl ?_); refine Arr.load (k := .u64) (xs := twice xs) (g := g1) (t := 68) rfl 68 _ rfl rfl HX4.out _ Try.underlying68 rfl 5 (by kernel_rfl) HL2.out ?_) | ((with_reducible refine gate_dst (N := 3) rfl ?_); refine box_event ?hg (N := 3) ?hd (cs := ((List.replicate 5 (0 : Int)).map (Value.int .u64)).toArray) (t := 68) ?hr ?_; (case hd => rfl); (case hg => rfl); (case hr => first | (go_simp; done) | (go_simp; rfl)); intro gy eg w5 k5 b5; have HY5 := Aside0.mk (show Arr .u64 w5 gy 68 (List.replicate 5 0) from k5); have HX5 := Aside0.mk (HX4.out.below b5); have HR5 := Aside0.mk (HR4.out.below b5); have HB5 := Aside0.mk (below_step HB4.out b5); have HGY := Aside0.mk (show w.heap.size ≤ gy ∧ g1 < gy ∧ gr < gy from by rw [eg]; exact ⟨below_size HB4.out, HX4.out.lt, HR4.out.lt⟩); clear k5 b5 eg) | ((with_reducible refine gate_store (t := 68) (p := 3) rfl ?_); refine Arr.put (k := .u64) (g := gy) (t := 68) (xs := List.replicate 5 0) (ys := twice xs) rfl 68 _ _ rfl rfl rfl HY5.out 5 (by kernel_rfl) rfl HL2.out ?_; intro w6 k6 g6; have HY6 := Aside0.mk k6; have HX6 := Aside0.mk (HX5.out.grown g6 (fun e => by have := Option.some.inj e; have := HGY.out.2.1; omega)); have HR6 := Aside0.mk (HR5.out.grown g6 (fun e => by have := Option.some.inj e; have := HGY.out.2.2; omega)); have HB6 := Aside0.mk (HB5.out.grown g6 (below_size HB5.out) (fun k hk => by rw [← Option.some.inj hk]; exact HGY.out.1)); have i0 : ∀ W, (Instr.indexAt 68 (.pointer (some ⟨gy, 0, none⟩)) (.int .i64 0)).run Try.prog W = .ok (.pointer (some ⟨gy, 0, none⟩)) W := fun W => ix68 gy 0 0 (by omega) W; have c0 := k6.cell 0 (by rw [HL2.out]; omega); have f0 := k6.frozen 0; clear k6 g6) | ((with_reducible refine gate_store (t := 66) (p := 11) rfl ?_); refine Arr.store (g := gy) (k := .u64) (xs := twice xs) (t := 68) rfl rfl 0 (IntKind.u64.wrap (gx (twice xs) 0 + 5)) ?hs HY6.out ?_; (case hs => (first | (go_simp; done) | (go_simp; rfl))); intro w7 k7 g7; have HY7 := Aside0.mk (show Arr .u64 w7 gy 68 (over5 (twice xs) 0) from k7); have HX7 := Aside0.mk (HX6.out.grown g7 (fun e => by have := Option.some.inj e; have := HGY.out.2.1; omega)); have HR7 := Aside0.mk (HR6.out.grown g7 (fun e => by have := Option.some.inj e; have := HGY.out.2.2; omega)); have HB7 := Aside0.mk (HB6.out.grown g7 (below_size HB6.out) (fun k hk => by rw [← Option.some.inj hk]; exact HGY.out.1)); clear k7 g7 c0 f0))
  clear i0
  go_loopw [12] (fun v wr => ∃ i : Nat, i ≤ 4 ∧ v = .int .i64 i ∧ Aside0 (Arr .u64 wr g1 68 (twice xs)) ∧ Aside0 (Arr .u64 wr gr 68 (List.replicate 5 0)) ∧ Aside0 (Arr .u64 wr gy 68 (over5 (twice xs) i)) ∧ Aside0 (Below w.heap.size w wr)) (fun v _ => 4 - (intOf v).toNat)
  case atStart => exact ⟨0, by omega, rfl, HX7, HR7, HY7, HB7⟩
  case round =>
  obtain ⟨i, hi, rfl, HXi, HRi, HYi, HBi⟩ := hrel
  by_cases hlt : i < 4
  · have t1 : decide ((i : Int) < 4) = true := decide_eq_true (by omega)
    obtain ⟨y, hy⟩ : ∃ y, y = over5 (twice xs) i := ⟨_, rfl⟩
    have hyl : y.length = 5 := by rw [hy, over5_length]; exact HL2.out
    rw [← hy] at HYi
    have HYE := Aside0.mk hy
    clear hy
    have ia : ∀ W, (Instr.indexAt 68 (.pointer (some ⟨gy, 0, none⟩)) (.int .i64 (i : Int))).run Try.prog W = .ok (.pointer (some ⟨gy, i, none⟩)) W := fun W => by rw [ix68 gy 0 i (by omega) W, Nat.zero_add]
    have ib : ∀ W, (Instr.indexAt 68 (.pointer (some ⟨gy, 0, none⟩)) (.int .i64 ((i : Int) + 1))).run Try.prog W = .ok (.pointer (some ⟨gy, i + 1, none⟩)) W := fun W => by rw [show (i : Int) + 1 = ((i + 1 : Nat) : Int) by omega, ix68 gy 0 (i + 1) (by omega) W, Nat.zero_add]
    have z1 : IntKind.i64.wrap ((i : Int) + 1) = (i : Int) + 1 := IntWalk.i64_in _ (by omega)
    have ca := HYi.out.cell i (by omega)
    have cb := HYi.out.cell (i + 1) (by omega)
    have fb := HYi.out.frozen (i + 1)
    go_wp2
    refine wp_region_quiet_tail 10 (by kernel_rfl) (by kernel_rfl) ?_
    simp only [List.take_succ_cons, List.take_zero, List.drop_succ_cons, List.drop_zero]
    repeat (quiet_step (fail))
    refine wpQuiet_nil ?_
    intro nq
    refine Arr.store (g := gy) (k := .u64) (xs := y) (t := 68) rfl rfl (i + 1) (IntKind.u64.wrap (gx y (i + 1) + gx y i / 67108864)) ?hs2 (HYi.out.drewN nq) ?_
    case hs2 => (first | (go_simp; done) | (go_simp; rfl))
    intro w5 k5 g5
    obtain ⟨y1, hy1⟩ : ∃ y1, y1 = pull y i := ⟨_, rfl⟩
    have hy1l : y1.length = 5 := by rw [hy1, pull, List.length_set]; exact hyl
    have HY5' := Aside0.mk (show Arr .u64 w5 gy 68 y1 from by rw [hy1]; exact k5)
    have HY1 := Aside0.mk hy1
    have HX5' := Aside0.mk ((HXi.out.drewN nq).grown g5 (fun e => by have := Option.some.inj e; have := HGY.out.2.1; omega))
    have HR5' := Aside0.mk ((HRi.out.drewN nq).grown g5 (fun e => by have := Option.some.inj e; have := HGY.out.2.2; omega))
    have HB5' := Aside0.mk ((pw_below_drewN HBi.out nq).grown g5 (below_size (pw_below_drewN HBi.out nq)) (fun k hk => by rw [← Option.some.inj hk]; exact HGY.out.1))
    clear k5 g5 ca cb fb hy1 ib
    have ca := HY5'.out.cell i (by omega)
    have fa := HY5'.out.frozen i
    go_wp2_with ((with_reducible refine gate_store (t := 66) (p := 29) rfl ?_); refine Arr.store (g := gy) (k := .u64) (xs := y1) (t := 68) rfl rfl i (Go.bits .and .u64 (gx y1 i) 67108863) ?hs HY5'.out ?_; (case hs => (first | (go_simp; done) | (go_simp; rfl))); intro w6 k6 g6; have HY6' := Aside0.mk (show Arr .u64 w6 gy 68 (over5 (twice xs) (i + 1)) from by rw [over5, ← HYE.out, ← HY1.out]; exact k6); have HX6' := Aside0.mk (HX5'.out.grown g6 (fun e => by have := Option.some.inj e; have := HGY.out.2.1; omega)); have HR6' := Aside0.mk (HR5'.out.grown g6 (fun e => by have := Option.some.inj e; have := HGY.out.2.2; omega)); have HB6' := Aside0.mk (HB5'.out.grown g6 (below_size HB5'.out) (fun k hk => by rw [← Option.some.inj hk]; exact HGY.out.1)); clear k6 g6 ca fa)
    go_roundw
    case rel => first | exact ⟨i + 1, by omega, by go_num, HX6', HR6', HY6', HB6'⟩ | ((repeat apply Exists.intro); exact ⟨⟨i + 1, by omega, by go_num, HX6', HR6', HY6', HB6'⟩, rfl⟩)
    case measure => simp [intOf]; omega
  obtain rfl : i = 4 := by omega
  clear hi hlt
  obtain ⟨y, hy⟩ : ∃ y, y = over5 (twice xs) 4 := ⟨_, rfl⟩
  have hyl : y.length = 5 := by rw [hy, over5_length]; exact HL2.out
  rw [← hy] at HYi
  have i4 : ∀ W, (Instr.indexAt 68 (.pointer (some ⟨gy, 0, none⟩)) (.int .i64 4)).run Try.prog W = .ok (.pointer (some ⟨gy, 4, none⟩)) W := fun W => by have := ix68 gy 0 4 (by omega) W; rw [Nat.zero_add] at this; exact this
  have c4 := HYi.out.cell 4 (by omega)
  have f4 := HYi.out.frozen 4
  by_cases hgt : gx y 4 / 67108864 > 0
  · have t2 : decide (gx y 4 / 67108864 > 0) = true := decide_eq_true hgt
    have t2' : decide (0 < gx y 4 / 67108864) = true := decide_eq_true hgt
    have hwd := Aside0.mk (show wholed xs = push y 4 from by rw [wholed, ← hy, if_pos hgt])
    clear hy
    have hpl := Aside0.mk (show (push y 4).length = 5 from by rw [push, List.length_set]; exact hyl)
    go_wp2_with (first | ((with_reducible refine gate_store (t := 66) (p := 38) rfl ?_); refine Arr.store (g := gy) (k := .u64) (xs := y) (t := 68) rfl rfl 4 (Go.bits .and .u64 (gx y 4) 67108863) ?hs HYi.out ?_; (case hs => (first | (go_simp; done) | (go_simp; rfl))); intro w8 k8 g8; have HY8 := Aside0.mk (show Arr .u64 w8 gy 68 (push y 4) from k8); have HR8 := Aside0.mk (HRi.out.grown g8 (fun e => by have := Option.some.inj e; have := HGY.out.2.2; omega)); have HB8 := Aside0.mk (HBi.out.grown g8 (below_size HBi.out) (fun k hk => by rw [← Option.some.inj hk]; exact HGY.out.1)); clear k8 g8) | ((with_reducible refine gate_dst (N := 39) rfl ?_); refine Arr.load (k := .u64) (xs := push y 4) (g := gy) (t := 68) rfl 68 _ rfl rfl HY8.out _ Try.underlying68 rfl 5 (by kernel_rfl) hpl.out ?_) | ((with_reducible refine gate_store (t := 68) (p := 2) rfl ?_); refine Arr.put (k := .u64) (g := gr) (t := 68) (xs := List.replicate 5 0) (ys := push y 4) rfl 68 _ _ rfl rfl rfl HR8.out 5 (by kernel_rfl) rfl hpl.out ?_; intro w9 k9 g9; have H9 := Aside0.mk k9; have G9 := Aside0.mk g9; clear k9 g9))
    refine bodyPost_ret (v := agg .u64 (push y 4)) (results_cell_row rfl _ _ gr 68 _ _ _ rfl H9.out Try.underlying68 rfl ?_) rfl ⟨by rw [hwd.out], ?_⟩
    · rw [info68]
      simp [hpl.out]
    · exact HB8.out.grown G9.out (below_size HB8.out) (fun k hk => by rw [← Option.some.inj hk]; exact HGR.out.1)
  · have t2 : decide (gx y 4 / 67108864 > 0) = false := decide_eq_false hgt
    have t2' : decide (0 < gx y 4 / 67108864) = false := decide_eq_false hgt
    have hwd := Aside0.mk (show wholed xs = twice xs from by rw [wholed, ← hy, if_neg hgt])
    clear hy
    go_wp2_with (first | ((with_reducible refine gate_dst (N := 40) rfl ?_); refine Arr.load (k := .u64) (xs := twice xs) (g := g1) (t := 68) rfl 68 _ rfl rfl HXi.out _ Try.underlying68 rfl 5 (by kernel_rfl) HL2.out ?_) | ((with_reducible refine gate_store (t := 68) (p := 2) rfl ?_); refine Arr.put (k := .u64) (g := gr) (t := 68) (xs := List.replicate 5 0) (ys := twice xs) rfl 68 _ _ rfl rfl rfl HRi.out 5 (by kernel_rfl) rfl HL2.out ?_; intro w9 k9 g9; have H9 := Aside0.mk k9; have G9 := Aside0.mk g9; clear k9 g9))
    refine bodyPost_ret (v := agg .u64 (twice xs)) (results_cell_row rfl _ _ gr 68 _ _ _ rfl H9.out Try.underlying68 rfl ?_) rfl ⟨by rw [hwd.out], ?_⟩
    · rw [info68]
      simp [HL2.out]
    · exact HBi.out.grown G9.out (below_size HBi.out) (fun k hk => by rw [← Option.some.inj hk]; exact HGR.out.1)
end Go.Proofs.Ytocckplgjbhlbaa.Pol

/- A load of some of the numbers of a block. Conditions: none. -/
namespace Go.Proofs.Ytocckplgjbhlbaa.Pol
open Go.RowKit Go.Proofs.YtocckplgjbhlbaaW.PrintWords Go.Proofs.Ytocckplgjbhlbaa.Cha
set_option linter.unusedVariables false
theorem Arr.loadMid {P : Program} {ops : Array Oper} {rest : List Oper} {op : Oper} {a : Act} {Q : Exit → Act → World → Prop} {w : World} {k : IntKind} {g t : Nat} {xs : List Int} (hgd : op.guard = none) (ty : TypeId) (x : Operand) (ho : op.op = .load ty x) (o : Nat) (hx : a.eval x = .pointer (some ⟨g, o, none⟩))
    (h : Arr k w g t xs) (d : TypeDesc) (hu : P.underlying ty = some d) (hd : d.isRow = true) (n : Nat) (hi : (P.info? ty).map (·.size) = some n) (hn : o + n ≤ xs.length)
    (H : wpList P ops Q rest (a.put op.dst (agg k ((xs.drop o).take n))) w) : wpList P ops Q (op :: rest) a w := by
  refine wpList_load_mid hgd ty x ho g o hx (((xs.drop o).take n).map (Value.int k)) d (fun j v hv => ?_) hu hd (by rw [hi]; simp; omega) H
  rw [List.getElem?_map] at hv
  have hj : j < n := by
    rcases Nat.lt_or_ge j n with h | h
    · exact h
    · rw [List.getElem?_eq_none (by simp; omega)] at hv
      cases hv
  rw [h.cell (o + j) (by omega), ← hv]
  simp [gx, List.getD_eq_getElem?_getD, hj, List.getElem?_drop, show o + j < xs.length by omega]
end Go.Proofs.Ytocckplgjbhlbaa.Pol

/- poly's tag, walked. Conditions: the sum lies in one block, the key has 32 bytes. -/
namespace Go.Proofs.Ytocckplgjbhlbaa.Pol
open Go.RowKit Go.Proofs.YtocckplgjbhlbaaW.PrintWords Go.Proofs.Ytocckplgjbhlbaa.Cha Go.Proofs.Ytocckplgjbhlbaa.X
set_option linter.unusedVariables false
/-- The words of a whole number. -/
def lo64 (y : List Int) : Int := Go.bits .or .u64 (Go.bits .or .u64 (gx y 0) (IntKind.u64.wrap (gx y 1 * 67108864))) (IntKind.u64.wrap (gx y 2 * 4503599627370496))
def hi64 (y : List Int) : Int := Go.bits .or .u64 (Go.bits .or .u64 (gx y 2 / 4096) (IntKind.u64.wrap (gx y 3 * 16384))) (IntKind.u64.wrap (gx y 4 * 1099511627776))
def half (y : List Int) (i : Nat) : Int := if i ≥ 8 then hi64 y else lo64 y
/-- A byte of the sum, with what was carried. -/
def tsum (y : List Int) (key : ByteArray) (c : Int) (i : Nat) : Int := IntKind.u64.wrap (c + IntKind.u64.wrap (Go.bits .and .u64 (half y i / 2 ^ (8 * (i % 8))) 255 + IntKind.u64.wrap (bt key (16 + (i : Int)))))
def tcar (y : List Int) (key : ByteArray) : Nat → Int
  | 0 => 0
  | i + 1 => tsum y key (tcar y key i) i / 256
def tout (y : List Int) (key : ByteArray) : Nat → List Int
  | 0 => List.replicate 16 0
  | i + 1 => (tout y key i).set i (IntKind.u8.wrap (tsum y key (tcar y key i) i))
theorem tout_length (y : List Int) (key : ByteArray) : ∀ i, (tout y key i).length = 16
  | 0 => rfl
  | i + 1 => by rw [tout, List.length_set, tout_length y key i]
/-- The tag of a sum. -/
def tagged (xs : List Int) (key : ByteArray) : ByteArray := strOfNums (tout (wholed ((xs.drop 5).take 5)) key 16)
theorem ixs16 (g i : Nat) (h : i < 16) (W : World) : (Instr.indexAt 32 (.slice (some ⟨g, 0, none⟩) 16 16) (.int .i64 (i : Int))).run Try.prog W = .ok (.pointer (some ⟨g, i, none⟩)) W := by
  have := ixo g 0 16 16 i h W
  rw [Nat.zero_add] at this
  exact this
set_option maxRecDepth 100000 in
set_option maxHeartbeats 4000000 in
theorem tag_calls (g t : Nat) (xs : List Int) (hx : xs.length = 10) (key : ByteArray) (hk : key.size = 32) (w : World) (h : Arr .u64 w g t xs) :
    Calls Try.prog 33 #[.pointer (some ⟨g, 0, none⟩), .string key] w fun e w' => e = .returned (.string (tagged xs key)) ∧ Below w.heap.size w w' := by
  have HX := Aside0.mk h
  have HK := Aside0.mk hk
  clear h hk
  have HL := Aside0.mk (show ((xs.drop 5).take 5).length = 5 from by simp [hx])
  have HLo := Aside0.mk (show 5 + 5 ≤ xs.length from by omega)
  obtain ⟨y, hy⟩ : ∃ y, y = wholed ((xs.drop 5).take 5) := ⟨_, rfl⟩
  have HYL := Aside0.mk (show y.length = 5 from by rw [hy, wholed_length]; exact HL.out)
  have HW := Aside0.mk (fun W => whole_calls ((xs.drop 5).take 5) HL.out W)
  rw [← hy] at HW
  have HYE := Aside0.mk hy
  clear hy hx
  obtain ⟨lo, hlo⟩ : ∃ lo, Go.bits .or .u64 (Go.bits .or .u64 (gx y 0) (IntKind.u64.wrap (gx y 1 * 67108864))) (IntKind.u64.wrap (gx y 2 * 4503599627370496)) = lo := ⟨_, rfl⟩
  obtain ⟨hi, hhi⟩ : ∃ hi, Go.bits .or .u64 (Go.bits .or .u64 (gx y 2 / 4096) (IntKind.u64.wrap (gx y 3 * 16384))) (IntKind.u64.wrap (gx y 4 * 1099511627776)) = hi := ⟨_, rfl⟩
  have HLE := Aside0.mk (show lo64 y = lo from hlo)
  have HHE := Aside0.mk (show hi64 y = hi from hhi)
  obtain ⟨ii, hi0, hz0, hz1, hz2⟩ := info_parts info5
  have HMK := Aside0.mk (fun W => run_make_u8 (P := Try.prog) 32 5 ii Try.underlying32 hi0 hz0 hz1 hz2 16 (by omega) W)
  clear hi0 hz0 hz1 hz2
  go_enter Try.func33, Try.ntmps33
  go_wp2_with (first | ((with_reducible refine gate_dst (N := 15) rfl ?_); refine Arr.loadMid (k := .u64) (xs := xs) (g := g) (t := t) rfl 68 _ rfl 5 rfl HX.out _ Try.underlying68 rfl 5 (by kernel_rfl) HLo.out ?_) | (go_at_call 44; (with_reducible refine (HW.out _).mono ?_); rintro e w1 ⟨rfl, b1⟩; have HB1 := Aside0.mk b1; clear b1) | ((with_reducible refine gate_dst (N := 5) rfl ?_); refine box_event ?hg (N := 5) ?hd (cs := ((List.replicate 5 (0 : Int)).map (Value.int .u64)).toArray) (t := 68) ?hr ?_; (case hd => rfl); (case hg => rfl); (case hr => first | (go_simp; done) | (go_simp; rfl)); intro gy eg w2 k2 b2; have HY2 := Aside0.mk (show Arr .u64 w2 gy 68 (List.replicate 5 0) from k2); have HB2 := Aside0.mk (below_step HB1.out b2); have HGY := Aside0.mk (show w.heap.size ≤ gy from by rw [eg]; exact below_size HB1.out); clear k2 b2 eg) | ((with_reducible refine gate_store (t := 68) (p := 5) rfl ?_); refine Arr.put (k := .u64) (g := gy) (t := 68) (xs := List.replicate 5 0) (ys := y) rfl 68 _ _ rfl rfl rfl HY2.out 5 (by kernel_rfl) rfl HYL.out ?_; intro w4 k4 g4; have i0 : ∀ W, (Instr.indexAt 68 (.pointer (some ⟨gy, 0, none⟩)) (.int .i64 0)).run Try.prog W = .ok (.pointer (some ⟨gy, 0, none⟩)) W := fun W => (by have := ix68 gy 0 0 (by omega) W; rw [Nat.zero_add] at this; exact this); have c0 := k4.cell 0 (by rw [HYL.out]; omega); have i1 : ∀ W, (Instr.indexAt 68 (.pointer (some ⟨gy, 0, none⟩)) (.int .i64 1)).run Try.prog W = .ok (.pointer (some ⟨gy, 1, none⟩)) W := fun W => (by have := ix68 gy 0 1 (by omega) W; rw [Nat.zero_add] at this; exact this); have c1 := k4.cell 1 (by rw [HYL.out]; omega); have i2 : ∀ W, (Instr.indexAt 68 (.pointer (some ⟨gy, 0, none⟩)) (.int .i64 2)).run Try.prog W = .ok (.pointer (some ⟨gy, 2, none⟩)) W := fun W => (by have := ix68 gy 0 2 (by omega) W; rw [Nat.zero_add] at this; exact this); have c2 := k4.cell 2 (by rw [HYL.out]; omega); have i3 : ∀ W, (Instr.indexAt 68 (.pointer (some ⟨gy, 0, none⟩)) (.int .i64 3)).run Try.prog W = .ok (.pointer (some ⟨gy, 3, none⟩)) W := fun W => (by have := ix68 gy 0 3 (by omega) W; rw [Nat.zero_add] at this; exact this); have c3 := k4.cell 3 (by rw [HYL.out]; omega); have i4 : ∀ W, (Instr.indexAt 68 (.pointer (some ⟨gy, 0, none⟩)) (.int .i64 4)).run Try.prog W = .ok (.pointer (some ⟨gy, 4, none⟩)) W := fun W => (by have := ix68 gy 0 4 (by omega) W; rw [Nat.zero_add] at this; exact this); have c4 := k4.cell 4 (by rw [HYL.out]; omega); have HY4 := Aside0.mk k4; have HB4 := Aside0.mk (HB2.out.grown g4 (below_size HB2.out) (fun k hk => by rw [← Option.some.inj hk]; exact HGY.out)); clear k4 g4) | ((with_reducible refine gate_dst (N := 38) rfl ?_); refine Arr.make (k := .u8) rfl 32 5 16 _ _ rfl rfl rfl HMK.out ?_; intro go eg w5 k5 b5; have HO := Aside0.mk (show Arr .u8 w5 go 5 (tout y key 0) from k5); have HB5 := Aside0.mk (below_step HB4.out b5); have HGO := Aside0.mk (show w.heap.size ≤ go from by rw [eg]; exact below_size HB4.out); clear k5 b5 eg i0 i1 i2 i3 i4 c0 c1 c2 c3 c4))
  clear hlo hhi
  go_loopw [41, 9] (fun v u wr => ∃ i : Nat, i ≤ 16 ∧ v = .int .i64 i ∧ u = .int .u64 (tcar y key i) ∧ Aside0 (Arr .u8 wr go 5 (tout y key i)) ∧ Aside0 (Below w.heap.size w wr)) (fun v _ _ => 16 - (intOf v).toNat)
  case atStart => exact ⟨0, by omega, rfl, rfl, HO, HB5⟩
  case round =>
  obtain ⟨i, hi_, rfl, rfl, HOi, HBi⟩ := hrel
  by_cases hlt : i < 16
  · have t1 : decide ((i : Int) < 16) = true := decide_eq_true (by omega)
    obtain ⟨c, hc⟩ : ∃ c, c = tcar y key i := ⟨_, rfl⟩
    obtain ⟨z, hz⟩ : ∃ z, z = tout y key i := ⟨_, rfl⟩
    rw [← hz] at HOi
    rw [← hc]
    have HCE := Aside0.mk hc
    have HZE := Aside0.mk hz
    have hzl : z.length = 16 := by rw [hz, tout_length]
    clear hc hz
    obtain ⟨m, hm⟩ : ∃ m, m = i % 8 := ⟨_, rfl⟩
    have HME := Aside0.mk hm
    have hm8 : m < 8 := by omega
    have z2 : (i : Int).tmod 8 = (m : Int) := by rw [Int.tmod_eq_emod_of_nonneg (by omega)]; omega
    have z2' : (i : Int) % 8 = (m : Int) := by omega
    have z3 : IntKind.i64.wrap (m : Int) = (m : Int) := IntWalk.i64_in _ (by omega)
    have z4 : IntKind.i64.wrap (8 * (m : Int)) = 8 * (m : Int) := IntWalk.i64_in _ (by omega)
    have z6 : IntKind.i64.wrap (16 + (i : Int)) = 16 + (i : Int) := IntWalk.i64_in _ (by omega)
    have p0 : ((0 : Int) ≤ 8 * (m : Int)) = True := eq_true (by omega)
    have p1 : (8 * (m : Int) ≤ 64) = True := eq_true (by omega)
    have z5 : (8 * (m : Int)).toNat = 8 * m := by omega
    have p2 : ((0 : Int) ≤ 16 + (i : Int)) = True := eq_true (by omega)
    have p3 : (16 + (i : Int) < (key.size : Int)) = True := eq_true (by have := HK.out; omega)
    have hxb := bt_at key (16 + (i : Int))
    have ia := ixs16 go i hlt
    have ca := HOi.out.cell i (by omega)
    have fa := HOi.out.frozen i
    clear hm
    by_cases hge : i ≥ 8
    · have t3 : decide ((i : Int) ≥ 8) = true := decide_eq_true (by omega)
      have t3' : decide ((8 : Int) ≤ (i : Int)) = true := decide_eq_true (by omega)
      obtain ⟨s, hs⟩ : ∃ s, IntKind.u64.wrap (c + IntKind.u64.wrap (Go.bits .and .u64 (hi / 2 ^ (8 * m)) 255 + IntKind.u64.wrap (bt key (16 + (i : Int))))) = s := ⟨_, rfl⟩
      have HSE := Aside0.mk (show tsum y key (tcar y key i) i = s from by rw [tsum, ← HCE.out, ← HME.out, half, if_pos hge, HHE.out]; exact hs)
      go_wp2
      go_quiet (fail)
      have HOq := Aside0.mk (HOi.out.drewN nq)
      have HBq := Aside0.mk (pw_below_drewN HBi.out nq)
      have ca := HOq.out.cell i (by omega)
      have fa := HOq.out.frozen i
      have hcr : tcar y key (i + 1) = s / 256 := by rw [tcar, HSE.out]
      have HCR := Aside0.mk hcr
      clear hcr
      go_wp2_with ((with_reducible refine gate_store (t := 5) (p := 66) rfl ?_); refine Arr.store (g := go) (k := .u8) (xs := z) (t := 5) rfl rfl i (IntKind.u8.wrap s) ?hs HOq.out ?_; (case hs => (first | (go_simp; done) | (go_simp; rfl))); intro w6 k6 g6; have HO6 := Aside0.mk (show Arr .u8 w6 go 5 (tout y key (i + 1)) from by rw [tout, ← HZE.out, HSE.out]; exact k6); have HB6 := Aside0.mk (HBq.out.grown g6 (below_size HBq.out) (fun k hk => by rw [← Option.some.inj hk]; exact HGO.out)); clear k6 g6)
      go_roundw
      case rel => first | exact ⟨i + 1, by omega, by go_num, by rw [HCR.out], HO6, HB6⟩ | ((repeat apply Exists.intro); exact ⟨⟨i + 1, by omega, by go_num, by rw [HCR.out], HO6, HB6⟩, rfl⟩)
      case measure => simp [intOf]; omega
    · have t3 : decide ((i : Int) ≥ 8) = false := decide_eq_false (by omega)
      have t3' : decide ((8 : Int) ≤ (i : Int)) = false := decide_eq_false (by omega)
      obtain ⟨s, hs⟩ : ∃ s, IntKind.u64.wrap (c + IntKind.u64.wrap (Go.bits .and .u64 (lo / 2 ^ (8 * m)) 255 + IntKind.u64.wrap (bt key (16 + (i : Int))))) = s := ⟨_, rfl⟩
      have HSE := Aside0.mk (show tsum y key (tcar y key i) i = s from by rw [tsum, ← HCE.out, ← HME.out, half, if_neg hge, HLE.out]; exact hs)
      go_wp2
      go_quiet (fail)
      have HOq := Aside0.mk (HOi.out.drewN nq)
      have HBq := Aside0.mk (pw_below_drewN HBi.out nq)
      have ca := HOq.out.cell i (by omega)
      have fa := HOq.out.frozen i
      have hcr : tcar y key (i + 1) = s / 256 := by rw [tcar, HSE.out]
      have HCR := Aside0.mk hcr
      clear hcr
      go_wp2_with ((with_reducible refine gate_store (t := 5) (p := 66) rfl ?_); refine Arr.store (g := go) (k := .u8) (xs := z) (t := 5) rfl rfl i (IntKind.u8.wrap s) ?hs HOq.out ?_; (case hs => (first | (go_simp; done) | (go_simp; rfl))); intro w6 k6 g6; have HO6 := Aside0.mk (show Arr .u8 w6 go 5 (tout y key (i + 1)) from by rw [tout, ← HZE.out, HSE.out]; exact k6); have HB6 := Aside0.mk (HBq.out.grown g6 (below_size HBq.out) (fun k hk => by rw [← Option.some.inj hk]; exact HGO.out)); clear k6 g6)
      go_roundw
      case rel => first | exact ⟨i + 1, by omega, by go_num, by rw [HCR.out], HO6, HB6⟩ | ((repeat apply Exists.intro); exact ⟨⟨i + 1, by omega, by go_num, by rw [HCR.out], HO6, HB6⟩, rfl⟩)
      case measure => simp [intOf]; omega
  obtain rfl : i = 16 := by omega
  clear hi_ hlt
  have ht := HOi.out.text (P := Try.prog) (n := 16) (tout_length y key 16) 32 5 9 Try.underlying32 Try.underlying5 Try.underlying9 16
  go_wp2
  go_ret
  rw [tagged, ← HYE.out]
  exact ⟨rfl, HBi.out⟩
end Go.Proofs.Ytocckplgjbhlbaa.Pol

/- poly's newSum, walked. Conditions: a key of 32 bytes. -/
namespace Go.Proofs.Ytocckplgjbhlbaa.Pol
open Go.RowKit Go.Proofs.YtocckplgjbhlbaaW.PrintWords Go.Proofs.Ytocckplgjbhlbaa.Cha Go.Proofs.Ytocckplgjbhlbaa.X
set_option linter.unusedVariables false
theorem built71 (r0 r1 r2 r3 r4 : Int) : Try.prog.built 71 [(0, agg .u64 [r0, r1, r2, r3, r4])] = some (([r0, r1, r2, r3, r4, 0, 0, 0, 0, 0] : List Int).map (Value.int .u64)).toArray := by kernel_rfl
theorem build71 {ops : Array Oper} {rest : List Oper} {o : Oper} {a : Act} {Q : Exit → Act → World → Prop} {w : World} (hgd : o.guard = none) (x : Operand) (ho : o.op = .build 71 #[(0, x)]) {xs : List Int} (hx : a.eval x = agg .u64 xs) (hl : xs.length = 5)
    (H : wpList Try.prog ops Q rest (a.put o.dst (agg .u64 (xs ++ List.replicate 5 0))) w) : wpList Try.prog ops Q (o :: rest) a w := by
  obtain ⟨r0, r1, r2, r3, r4, rfl⟩ : ∃ r0 r1 r2 r3 r4, xs = [r0, r1, r2, r3, r4] := by
    match xs, hl with
    | [a, b, c, d, e], _ => exact ⟨a, b, c, d, e, rfl⟩
  refine wpList_plain hgd fun K hK => ?_
  unfold Oper.wp execOp
  have hr := run_build (P := Try.prog) w 71 #[(0, agg .u64 [r0, r1, r2, r3, r4])] _ (built71 r0 r1 r2 r3 r4)
  have he : (#[(0, x)] : Array (Nat × Operand)).map (fun (i, x) => (i, a.eval x)) = #[(0, agg .u64 [r0, r1, r2, r3, r4])] := by
    simp [hx]
  simp only [ho, Sem.run_bind]
  rw [he, hr]
  exact hK _ _ H
/-- Every fourth byte from o on masked. -/
def masked (o : Nat) (m : Int) (xs : List Int) : Nat → List Int
  | 0 => xs
  | q + 1 => (masked o m xs q).set (o + 4 * q) (Go.bits .and .u8 (gx (masked o m xs q) (o + 4 * q)) m)
theorem masked_length (o : Nat) (m : Int) (xs : List Int) : ∀ q, (masked o m xs q).length = xs.length
  | 0 => rfl
  | q + 1 => by rw [masked, List.length_set, masked_length o m xs q]
/-- The clamped half of a key. -/
def clamp (key : ByteArray) : List Int := masked 4 252 (masked 3 15 (bytesOf (key.extract 0 16)) 4) 3
/-- The key's number. -/
def rOf (key : ByteArray) : List Int := (limbs (bitted (clamp key) 0 16)).set 4 (Go.bits .and .u64 (gx (limbs (bitted (clamp key) 0 16)) 4) 16777215)
theorem rOf_length (key : ByteArray) : (rOf key).length = 5 := by rw [rOf, List.length_set]; rfl
/-- A sum of nothing. -/
def sum0 (key : ByteArray) : List Int := rOf key ++ List.replicate 5 0
theorem sum0_length (key : ByteArray) : (sum0 key).length = 10 := by rw [sum0, List.length_append, rOf_length]; rfl
theorem half_size (key : ByteArray) (hk : key.size = 32) : (key.extract 0 16).size = 16 := by rw [ByteArray.size_extract]; omega
theorem gap32 : ∀ g o r cr : Nat, o = 0 → (Value.slice (some ⟨g, o, none⟩) r cr) = .slice (some ⟨g, 0, none⟩) r cr := fun g o r cr h => by rw [h]
set_option maxRecDepth 100000 in
set_option maxHeartbeats 4000000 in
theorem newSum_calls (key : ByteArray) (hk : key.size = 32) (w : World) :
    Calls Try.prog 31 #[.string key] w fun e w' => ∃ g, e = .returned (.pointer (some ⟨g, 0, none⟩)) ∧ w.heap.size ≤ g ∧ Arr .u64 w' g 71 (sum0 key) ∧ Below w.heap.size w w' := by
  have p0 : ((16 : Int) ≤ (key.size : Int)) = True := eq_true (by omega)
  obtain ⟨s, hs⟩ : ∃ s, s = key.extract 0 16 := ⟨_, rfl⟩
  have hsz : s.size = 16 := by rw [hs]; exact half_size key hk
  have HSZ := Aside0.mk hsz
  have HS := Aside0.mk hs
  have hbl : (bytesOf s).length = 16 := by rw [bytesOf_length, hsz]
  have HBL := Aside0.mk hbl
  have e16 : ((16 : Int)).toNat = 16 := rfl
  have hse : key.extract 0 16 = s := hs.symm
  clear hs hbl hsz
  go_enter Try.func31, Try.ntmps31
  go_wp2_with ((with_reducible refine gate_dst (N := 9) rfl ?_); refine conv_event rfl 9 32 5 _ s rfl rfl Try.underlying9 Try.underlying32 Try.underlying5 ?hc ?_; (case hc => exact grownCap_ge _ _ _ _); intro g eg c hc w1 k1 b1; have HB1 := Aside0.mk b1; have HX1 := Aside0.mk (show Bts w1 g (masked 3 15 (bytesOf s) 0) from k1); have HC := Aside0.mk (show 16 ≤ c from by rw [← HSZ.out]; exact hc); have HG := Aside0.mk (show w.heap.size ≤ g from by rw [eg]; exact Nat.le_refl _); clear k1 b1 hc eg)
  clear p0
  go_loopw [4] (fun v wr => ∃ q : Nat, q ≤ 4 ∧ v = .int .i64 (3 + 4 * (q : Int)) ∧ Aside0 (Bts wr g (masked 3 15 (bytesOf s) q)) ∧ Aside0 (Below w.heap.size w wr)) (fun v _ => 20 - (intOf v).toNat)
  case atStart => exact ⟨0, by omega, rfl, HX1, HB1⟩
  case round =>
  obtain ⟨q, hq, rfl, HXi, HBi⟩ := hrel
  by_cases hlt : q < 4
  · have t1 : decide (3 + 4 * (q : Int) < 16) = true := decide_eq_true (by omega)
    have hsz := HSZ.out
    have ia := ixo g 0 s.size c (3 + 4 * q) (by omega)
    rw [Nat.zero_add] at ia
    have ej : ((3 + 4 * q : Nat) : Int) = 3 + 4 * (q : Int) := by omega
    rw [ej] at ia
    clear hsz ej
    have hln : (masked 3 15 (bytesOf s) q).length = 16 := by rw [masked_length]; exact HBL.out
    have ca := HXi.out.cell (3 + 4 * q) (by rw [hln]; omega)
    have fa := HXi.out.frozen (3 + 4 * q) (by rw [hln]; omega)
    have z1 : IntKind.i64.wrap (3 + 4 * (q : Int) + 4) = 3 + 4 * (q : Int) + 4 := IntWalk.i64_in _ (by omega)
    clear hln
    go_wp2_with ((with_reducible refine gate_store (t := 5) (p := 19) rfl ?_); refine Bts.store (g := g) (xs := masked 3 15 (bytesOf s) q) rfl rfl (3 + 4 * q) (Go.bits .and .u8 (gx (masked 3 15 (bytesOf s) q) (3 + 4 * q)) 15) ?hs HXi.out ?_; (case hs => (first | (go_simp; done) | (go_simp; rfl))); intro w5 k5 g5; have HX5 := Aside0.mk (show Bts w5 g (masked 3 15 (bytesOf s) (q + 1)) from k5); have HB5 := Aside0.mk (HBi.out.grown g5 (below_size HBi.out) (fun k hk => by rw [← Option.some.inj hk]; exact HG.out)); clear k5 g5)
    go_roundw
    case rel => first | exact ⟨q + 1, by omega, by go_num, HX5, HB5⟩ | ((repeat apply Exists.intro); exact ⟨⟨q + 1, by omega, by first | go_num | (congr 1; omega), HX5, HB5⟩, rfl⟩)
    case measure => simp [intOf]; omega
  obtain rfl : q = 4 := by omega
  clear hq hlt
  have HX2 := Aside0.mk (show Bts wr g (masked 4 252 (masked 3 15 (bytesOf s) 4) 0) from HXi.out)
  have HB2 := Aside0.mk HBi.out
  have t1 : decide (3 + 4 * ((4 : Nat) : Int) < 16) = false := rfl
  go_wp2
  clear t1 HXi HBi
  go_loopw [5] (fun v wr => ∃ q : Nat, q ≤ 3 ∧ v = .int .i64 (4 + 4 * (q : Int)) ∧ Aside0 (Bts wr g (masked 4 252 (masked 3 15 (bytesOf s) 4) q)) ∧ Aside0 (Below w.heap.size w wr)) (fun v _ => 20 - (intOf v).toNat)
  case atStart => exact ⟨0, by omega, rfl, HX2, HB2⟩
  case round =>
  obtain ⟨q, hq, rfl, HXi, HBi⟩ := hrel
  by_cases hlt : q < 3
  · have t1 : decide (4 + 4 * (q : Int) < 16) = true := decide_eq_true (by omega)
    have hsz := HSZ.out
    have ia := ixo g 0 s.size c (4 + 4 * q) (by omega)
    rw [Nat.zero_add] at ia
    have ej : ((4 + 4 * q : Nat) : Int) = 4 + 4 * (q : Int) := by omega
    rw [ej] at ia
    clear hsz ej
    have hln : (masked 4 252 (masked 3 15 (bytesOf s) 4) q).length = 16 := by rw [masked_length, masked_length]; exact HBL.out
    have ca := HXi.out.cell (4 + 4 * q) (by rw [hln]; omega)
    have fa := HXi.out.frozen (4 + 4 * q) (by rw [hln]; omega)
    have z1 : IntKind.i64.wrap (4 + 4 * (q : Int) + 4) = 4 + 4 * (q : Int) + 4 := IntWalk.i64_in _ (by omega)
    clear hln
    go_wp2_with ((with_reducible refine gate_store (t := 5) (p := 29) rfl ?_); refine Bts.store (g := g) (xs := masked 4 252 (masked 3 15 (bytesOf s) 4) q) rfl rfl (4 + 4 * q) (Go.bits .and .u8 (gx (masked 4 252 (masked 3 15 (bytesOf s) 4) q) (4 + 4 * q)) 252) ?hs HXi.out ?_; (case hs => (first | (go_simp; done) | (go_simp; rfl))); intro w5 k5 g5; have HX5 := Aside0.mk (show Bts w5 g (masked 4 252 (masked 3 15 (bytesOf s) 4) (q + 1)) from k5); have HB5 := Aside0.mk (HBi.out.grown g5 (below_size HBi.out) (fun k hk => by rw [← Option.some.inj hk]; exact HG.out)); clear k5 g5)
    go_roundw
    case rel => first | exact ⟨q + 1, by omega, by go_num, HX5, HB5⟩ | ((repeat apply Exists.intro); exact ⟨⟨q + 1, by omega, by first | go_num | (congr 1; omega), HX5, HB5⟩, rfl⟩)
    case measure => simp [intOf]; omega
  obtain rfl : q = 3 := by omega
  clear hq hlt
  obtain ⟨cl, hcl⟩ : ∃ cl, cl = masked 4 252 (masked 3 15 (bytesOf s) 4) 3 := ⟨_, rfl⟩
  have hcll : cl.length = 16 := by rw [hcl, masked_length, masked_length]; exact HBL.out
  rw [← hcl] at HXi
  have HCL := Aside0.mk (show cl = clamp key from by rw [hcl, clamp, HS.out])
  clear hcl
  obtain ⟨y, hy⟩ : ∃ y, y = limbs (bitted cl 0 16) := ⟨_, rfl⟩
  have hyl : y.length = 5 := by rw [hy]; rfl
  have HLc := Aside0.mk (fun W hW => load_calls g 0 s.size c cl (by rw [HSZ.out]; omega) (by rw [HSZ.out]; omega) W hW)
  rw [HSZ.out] at HLc
  rw [← hy] at HLc
  have HYE := Aside0.mk hy
  clear hy
  have t1 : decide (4 + 4 * ((3 : Nat) : Int) < 16) = false := rfl
  have hyl2 : (y.set 4 (Go.bits .and .u64 (gx y 4) 16777215)).length = 5 := by rw [List.length_set]; exact hyl
  rw [HSZ.out]
  go_wp2_with (first
    | (go_at_call 42; (with_reducible refine (HLc.out _ HXi.out).mono ?_); rintro e w6 ⟨rfl, b6⟩; have HB6 := Aside0.mk (below_step HBi.out b6); clear b6)
    | ((with_reducible refine gate_dst (N := 6) rfl ?_); refine box_event ?hg (N := 6) ?hd (cs := ((List.replicate 5 (0 : Int)).map (Value.int .u64)).toArray) (t := 68) ?hr ?_; (case hd => rfl); (case hg => rfl); (case hr => first | (go_simp; done) | (go_simp; rfl)); intro gy eg w7 k7 b7; have HY7 := Aside0.mk (show Arr .u64 w7 gy 68 (List.replicate 5 0) from k7); have HB7 := Aside0.mk (below_step HB6.out b7); have HGY := Aside0.mk (show w.heap.size ≤ gy from by rw [eg]; exact below_size HB6.out); clear k7 b7 eg)
    | ((with_reducible refine gate_store (t := 68) (p := 6) rfl ?_); refine Arr.put (k := .u64) (g := gy) (t := 68) (xs := List.replicate 5 0) (ys := y) rfl 68 _ _ rfl rfl rfl HY7.out 5 (by kernel_rfl) rfl hyl ?_; intro w8 k8 g8; have i4 : ∀ W, (Instr.indexAt 68 (.pointer (some ⟨gy, 0, none⟩)) (.int .i64 4)).run Try.prog W = .ok (.pointer (some ⟨gy, 4, none⟩)) W := fun W => (by have := ix68 gy 0 4 (by omega) W; rw [Nat.zero_add] at this; exact this); have c4 := k8.cell 4 (by rw [hyl]; omega); have f4 := k8.frozen 4; have HY8 := Aside0.mk k8; have HB8 := Aside0.mk (HB7.out.grown g8 (below_size HB7.out) (fun k hk => by rw [← Option.some.inj hk]; exact HGY.out)); clear k8 g8)
    | ((with_reducible refine gate_store (t := 66) (p := 35) rfl ?_); refine Arr.store (g := gy) (k := .u64) (xs := y) (t := 68) rfl rfl 4 (Go.bits .and .u64 (gx y 4) 16777215) ?hs HY8.out ?_; (case hs => (first | (go_simp; done) | (go_simp; rfl))); intro w9 k9 g9; have HY9 := Aside0.mk k9; have HB9 := Aside0.mk (HB8.out.grown g9 (below_size HB8.out) (fun k hk => by rw [← Option.some.inj hk]; exact HGY.out)); clear k9 g9 c4 f4 i4)
    | ((with_reducible refine gate_dst (N := 36) rfl ?_); refine Arr.load (k := .u64) (xs := y.set 4 (Go.bits .and .u64 (gx y 4) 16777215)) (g := gy) (t := 68) rfl 68 _ rfl rfl HY9.out _ Try.underlying68 rfl 5 (by kernel_rfl) hyl2 ?_)
    | ((with_reducible refine gate_dst (N := 37) rfl ?_); refine build71 rfl _ rfl rfl hyl2 ?_)
    | ((with_reducible refine gate_dst (N := 38) rfl ?_); refine Arr.box (k := .u64) (xs := y.set 4 (Go.bits .and .u64 (gx y 4) 16777215) ++ List.replicate 5 0) rfl 71 _ rfl rfl ?_; intro gs egs w10 k10 b10; have HS10 := Aside0.mk k10; have HB10 := Aside0.mk (below_step HB9.out b10); have HGS := Aside0.mk (show w.heap.size ≤ gs from by rw [egs]; exact below_size HB9.out); clear k10 b10 egs))
  have hfin : y.set 4 (Go.bits .and .u64 (gx y 4) 16777215) ++ List.replicate 5 0 = sum0 key := by rw [sum0, rOf, ← HCL.out, ← HYE.out]
  rw [hfin] at HS10
  go_ret
  exact ⟨gs, rfl, HGS.out, HS10.out, HB10.out⟩
end Go.Proofs.Ytocckplgjbhlbaa.Pol

/- poly's Mac, walked. Conditions: none. -/
namespace Go.Proofs.Ytocckplgjbhlbaa.Pol
open Go.RowKit Go.Proofs.YtocckplgjbhlbaaW.PrintWords Go.Proofs.Ytocckplgjbhlbaa.Cha Go.Proofs.Ytocckplgjbhlbaa.X
set_option linter.unusedVariables false
/-- A text's tag. -/
def macOf (key s : ByteArray) : ByteArray := tagged (alled (sum0 key) (bytesOf s) 0 s.size ((s.size + 15) / 16)) key
theorem below_own {w w1 w2 : World} {g : Nat} (h : Below w.heap.size w w1) (hg : w.heap.size ≤ g) (g2 : w1.grownBy w2 (some g)) : Below w.heap.size w w2 :=
  h.grown g2 (below_size h) (fun k hk => by rw [← Option.some.inj hk]; exact hg)
set_option maxRecDepth 100000 in
set_option maxHeartbeats 4000000 in
theorem mac_yes (key s : ByteArray) (hk : key.size = 32) (w : World) :
    Calls Try.prog 18 #[.string key, .string s] w fun e w' => e = .returned (.tuple #[.string (macOf key s), .int .i64 0]) ∧ Below w.heap.size w w' := by
  have HK := Aside0.mk hk
  have t1 : (!((key.size : Int) == 32)) = false := by rw [hk]; rfl
  have t2 : ((key.size : Int) != 32) = false := by rw [hk]; rfl
  have HN := Aside0.mk (fun W => newSum_calls key hk W)
  have HSL := Aside0.mk (sum0_length key)
  have HA := Aside0.mk (fun g (gb c : Nat) (hc : s.size ≤ c) (hne : gb ≠ g) W hW hb => all_calls g 71 (sum0 key) HSL.out gb 0 s.size c (bytesOf s) (by rw [bytesOf_length]; omega) hc hne W hW hb)
  obtain ⟨z, hz⟩ : ∃ z, z = alled (sum0 key) (bytesOf s) 0 s.size ((s.size + 15) / 16) := ⟨_, rfl⟩
  have hzl : z.length = 10 := by rw [hz, alled_length]; exact HSL.out
  rw [← hz] at HA
  have HZE := Aside0.mk hz
  have HT := Aside0.mk (fun g W hW => tag_calls g 71 z hzl key HK.out W hW)
  clear hz hk hzl
  go_enter Try.func18, Try.ntmps18
  go_wp2_with (first
    | (go_at_call 31; (with_reducible refine (HN.out _).mono ?_); rintro e w1 ⟨g, rfl, hg, k1, b1⟩; have HX1 := Aside0.mk k1; have HB1 := Aside0.mk b1; have HG := Aside0.mk hg; clear k1 b1 hg)
    | ((with_reducible refine gate_dst (N := 14) rfl ?_); refine conv_event rfl 9 32 5 _ s rfl rfl Try.underlying9 Try.underlying32 Try.underlying5 ?hc ?_; (case hc => exact grownCap_ge _ _ _ _); intro gb eg c hc w2 k2 b2; have HB2 := Aside0.mk (below_step HB1.out b2); have HS2 := Aside0.mk k2; have HC := Aside0.mk hc; have HX2 := Aside0.mk (HX1.out.below b2); have HNE := Aside0.mk (show gb ≠ g from by rw [eg]; exact Nat.ne_of_gt HX1.out.lt); clear k2 b2 hc eg)
    | (go_at_call 32; (with_reducible refine (HA.out g gb c HC.out HNE.out _ HX2.out HS2.out).mono ?_); rintro e w3 ⟨rfl, k3, g3⟩; have HX3 := Aside0.mk k3; have HB3 := Aside0.mk (below_own HB2.out HG.out g3); clear k3 g3)
    | (go_at_call 33; (with_reducible refine (HT.out g _ HX3.out).mono ?_); rintro e w4 ⟨rfl, b4⟩; have HB4 := Aside0.mk (below_step HB3.out b4); clear b4))
  rw [macOf, ← HZE.out]
  first
  | (go_ret2
     exact ⟨rfl, HB4.out⟩)
 
set_option maxRecDepth 100000 in
set_option maxHeartbeats 4000000 in
theorem mac_no (key s : ByteArray) (hk : ¬ key.size = 32) (w : World) :
    Calls Try.prog 18 #[.string key, .string s] w fun e w' => e = .returned (.tuple #[.string ByteArray.empty, .int .i64 700]) ∧ Below w.heap.size w w' := by
  have t1 : (!((key.size : Int) == 32)) = true := by simp; omega
  have t2 : ((key.size : Int) != 32) = true := by simp; omega
  go_enter Try.func18, Try.ntmps18
  go_wp2
  first
  | (go_ret2
     exact ⟨rfl, Below.refl _ _⟩)
 
end Go.Proofs.Ytocckplgjbhlbaa.Pol
