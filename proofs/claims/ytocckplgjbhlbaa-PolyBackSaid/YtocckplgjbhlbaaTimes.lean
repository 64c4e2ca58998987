/- poly's product, walked. Conditions: both numbers lie in one block. -/
import Derived.Test.YtocckplgjbhlbaaCarry
import Derived.Deep.MidRow
namespace Go.Proofs.Ytocckplgjbhlbaa.Pol
open Go.RowKit Go.Proofs.YtocckplgjbhlbaaW.PrintWords Go.Proofs.Ytocckplgjbhlbaa.Cha
set_option linter.unusedVariables false
/-- Numbers laid over others from a place on. -/
def layAt : List Int → Nat → List Int → List Int
  | xs, _, [] => xs
  | xs, o, y :: ys => layAt (xs.set o y) (o + 1) ys
theorem layAt_length : ∀ (ys xs : List Int) (o : Nat), (layAt xs o ys).length = xs.length
  | [], _, _ => rfl
  | y :: ys, xs, o => by rw [layAt, layAt_length ys, List.length_set]
theorem Arr.mid {k : IntKind} {g t : Nat} : ∀ (ys xs : List Int) (o : Nat) (w : World), Arr k w g t xs → Arr k (w.setCells g o (ys.map (Value.int k))) g t (layAt xs o ys) ∧ w.grownBy (w.setCells g o (ys.map (Value.int k))) (some g)
  | [], xs, o, w, h => ⟨h, grown_refl _ _⟩
  | y :: ys, xs, o, w, h => by
    have h1 := h.set o y
    obtain ⟨a, b⟩ := Arr.mid ys (xs.set o y) (o + 1) _ h1
    exact ⟨a, grown_trans (grown_setCell w g o _) b⟩
theorem Arr.putMid {P : Program} {ops : Array Oper} {rest : List Oper} {op : Oper} {a : Act} {Q : Exit → Act → World → Prop} {w : World} {k : IntKind} {g t : Nat} {xs ys : List Int} (hgd : op.guard = none) (ty : TypeId) (x y : Operand) (ho : op.op = .store ty x y) (o : Nat) (hx : a.eval x = .pointer (some ⟨g, o, none⟩)) (hy : a.eval y = agg k ys)
    (h : Arr k w g t xs) (n : Nat) (hi : (P.info? ty).map (·.size) = some n) (hm : ys.length = n) (hn : o + n ≤ xs.length)
    (H : ∀ w1, Arr k w1 g t (layAt xs o ys) → w.grownBy w1 (some g) → wpList P ops Q rest (a.put op.dst undef) w1) : wpList P ops Q (op :: rest) a w := by
  refine wpList_store_mid hgd ty x y ho g o _ hx hy (fun j hj => ⟨?_, h.frozen _⟩) (by rw [hi]; simp [hm]) (by simp [Value.oneCell']) ?_
  · rw [h.cell (o + j) (by simp [hm] at hj; omega)]
    rfl
  · have := Arr.mid ys xs o w h
    exact H _ this.1 this.2
/-- One product of limbs. -/
def limb (xs : List Int) (ox r i k : Nat) : Int :=
  if i + k ≥ 5 then IntKind.u64.wrap (IntKind.u64.wrap (gx xs (ox + i) * gx xs (r + k)) * 5) else IntKind.u64.wrap (gx xs (ox + i) * gx xs (r + k))
def rowAcc (xs : List Int) (ox r : Nat) (y : List Int) (i : Nat) : Nat → List Int
  | 0 => y
  | k + 1 => (rowAcc xs ox r y i k).set ((i + k) % 5) (IntKind.u64.wrap (gx (rowAcc xs ox r y i k) ((i + k) % 5) + limb xs ox r i k))
def mulAcc (xs : List Int) (ox r : Nat) : Nat → List Int
  | 0 => List.replicate 5 0
  | i + 1 => rowAcc xs ox r (mulAcc xs ox r i) i 5
theorem rowAcc_length (xs : List Int) (ox r : Nat) (y : List Int) (i : Nat) : ∀ k, (rowAcc xs ox r y i k).length = y.length
  | 0 => rfl
  | k + 1 => by rw [rowAcc, List.length_set, rowAcc_length xs ox r y i k]
theorem mulAcc_length (xs : List Int) (ox r : Nat) : ∀ i, (mulAcc xs ox r i).length = 5
  | 0 => rfl
  | i + 1 => by rw [mulAcc, rowAcc_length, mulAcc_length xs ox r i]
/-- The numbers behind a product. -/
def timesd (xs : List Int) (ox r : Nat) : List Int := layAt xs ox (given 0 (mulAcc xs ox r 5) 6)
theorem timesd_length (xs : List Int) (ox r : Nat) : (timesd xs ox r).length = xs.length := layAt_length _ _ _
set_option maxRecDepth 100000 in
set_option maxHeartbeats 4000000 in
theorem times_calls (g t ox r : Nat) (xs : List Int) (ho : ox + 5 ≤ xs.length) (hr : r + 5 ≤ xs.length) (w : World) (h : Arr .u64 w g t xs) :
    Calls Try.prog 53 #[.pointer (some ⟨g, ox, none⟩), .pointer (some ⟨g, r, none⟩)] w fun e w' => e = .returned (.tuple #[]) ∧ Arr .u64 w' g t (timesd xs ox r) ∧ w.grownBy w' (some g) := by
  have HX := Aside0.mk h
  have HL := Aside0.mk h.lt
  clear h
  go_enter Try.func53, Try.ntmps53
  go_wp2_with ((with_reducible refine gate_dst (N := 4) rfl ?_); refine box_event ?hg (N := 4) ?hd (cs := ((List.replicate 5 (0 : Int)).map (Value.int .u64)).toArray) (t := 68) ?hr ?_; (case hd => rfl); (case hg => rfl); (case hr => first | (go_simp; done) | (go_simp; rfl)); intro go eg w2 k2 b2; have HO := Aside0.mk (show Arr .u64 w2 go 68 (mulAcc xs ox r 0) from k2); have HX2 := Aside0.mk (HX.out.below b2); have HG2 := Aside0.mk (grown_below (grown_refl w (some g)) b2); have HGO := Aside0.mk (show w.heap.size ≤ go ∧ g < go from by rw [eg]; exact ⟨Nat.le_refl _, HX.out.lt⟩); clear k2 b2 eg)
  go_loopw [8] (fun v wr => ∃ i : Nat, i ≤ 5 ∧ v = .int .i64 i ∧ Aside0 (Arr .u64 wr g t xs) ∧ Aside0 (Arr .u64 wr go 68 (mulAcc xs ox r i)) ∧ Aside0 (w.grownBy wr (some g))) (fun v _ => 5 - (intOf v).toNat)
  case atStart => exact ⟨0, by omega, rfl, HX2, HO, HG2⟩
  case round =>
  obtain ⟨i, hi, rfl, HXi, HOi, HGi⟩ := hrel
  by_cases hlt : i < 5
  · have t1 : decide ((i : Int) < 5) = true := decide_eq_true (by omega)
    go_wp2
    go_loopw [11] (fun v wr => ∃ k : Nat, k ≤ 5 ∧ v = .int .i64 k ∧ Aside0 (Arr .u64 wr g t xs) ∧ Aside0 (Arr .u64 wr go 68 (rowAcc xs ox r (mulAcc xs ox r i) i k)) ∧ Aside0 (w.grownBy wr (some g))) (fun v _ => 5 - (intOf v).toNat)
    case atStart => exact ⟨0, by omega, rfl, HXi, HOi, HGi⟩
    case round =>
    obtain ⟨k, hk, rfl, HXk, HOk, HGk⟩ := hrel
    by_cases hlk : k < 5
    · have t2 : decide ((k : Int) < 5) = true := decide_eq_true (by omega)
      obtain ⟨y, hy⟩ : ∃ y, y = rowAcc xs ox r (mulAcc xs ox r i) i k := ⟨_, rfl⟩
      have HYE := Aside0.mk hy
      have hyl : y.length = 5 := by rw [hy, rowAcc_length, mulAcc_length]
      rw [← hy] at HOk
      clear hy
      obtain ⟨m, hm⟩ : ∃ m, m = (i + k) % 5 := ⟨_, rfl⟩
      have HME := Aside0.mk hm
      have hm5 : m < 5 := by omega
      have z1 : IntKind.i64.wrap ((i : Int) + (k : Int)) = (i : Int) + (k : Int) := IntWalk.i64_in _ (by omega)
      have z2 : ((i : Int) + (k : Int)).tmod 5 = (m : Int) := by rw [Int.tmod_eq_emod_of_nonneg (by omega)]; omega
      have z2' : ((i : Int) + (k : Int)) % 5 = (m : Int) := by omega
      have z3 : IntKind.i64.wrap (m : Int) = (m : Int) := IntWalk.i64_in _ (by omega)
      clear hm
      have ia := ix68 g ox i hlt
      have ib := ix68 g r k hlk
      have ca := HXk.out.cell (ox + i) (by omega)
      have cb := HXk.out.cell (r + k) (by omega)
      go_wp2
      go_quiet (fail)
      clear ia ib ca cb
      have HXq := Aside0.mk (HXk.out.drewN nq)
      have HOq := Aside0.mk (HOk.out.drewN nq)
      have HGq := Aside0.mk (grown_trans HGk.out (grown_drewN _ nq _))
      have io : ∀ W, (Instr.indexAt 68 (.pointer (some ⟨go, 0, none⟩)) (.int .i64 (m : Int))).run Try.prog W = .ok (.pointer (some ⟨go, m, none⟩)) W := fun W => by rw [ix68 go 0 m hm5 W, Nat.zero_add]
      have co := HOq.out.cell m (by omega)
      have fo := HOq.out.frozen m
      by_cases hge : i + k ≥ 5
      · have t3 : decide ((i : Int) + (k : Int) ≥ 5) = true := decide_eq_true (by omega)
        have t3' : decide ((5 : Int) ≤ (i : Int) + (k : Int)) = true := decide_eq_true (by omega)
        have hlb : limb xs ox r i k = IntKind.u64.wrap (IntKind.u64.wrap (gx xs (ox + i) * gx xs (r + k)) * 5) := if_pos hge
        go_wp2_with ((with_reducible refine gate_store (t := 66) (p := 39) rfl ?_); refine Arr.store (g := go) (k := .u64) (xs := y) (t := 68) rfl rfl m (IntKind.u64.wrap (gx y m + limb xs ox r i k)) ?hs HOq.out ?_; (case hs => (rw [hlb]; first | (go_simp; done) | (go_simp; rfl))); intro w5 k5 g5; have HO5 := Aside0.mk (show Arr .u64 w5 go 68 (rowAcc xs ox r (mulAcc xs ox r i) i (k + 1)) from by rw [rowAcc, ← HYE.out, ← HME.out]; exact k5); have HX5 := Aside0.mk (HXq.out.grown g5 (fun e => by have := Option.some.inj e; have := HGO.out.2; omega)); have HG5 := Aside0.mk (grown_new HGq.out g5 HGO.out.1); clear k5 g5)
        go_roundw
        case rel => first | exact ⟨k + 1, by omega, by go_num, HX5, HO5, HG5⟩ | ((repeat apply Exists.intro); exact ⟨⟨k + 1, by omega, by go_num, HX5, HO5, HG5⟩, rfl⟩)
        case measure => simp [intOf]; omega
      · have t3 : decide ((i : Int) + (k : Int) ≥ 5) = false := decide_eq_false (by omega)
        have t3' : decide ((5 : Int) ≤ (i : Int) + (k : Int)) = false := decide_eq_false (by omega)
        have hlb : limb xs ox r i k = IntKind.u64.wrap (gx xs (ox + i) * gx xs (r + k)) := if_neg hge
        go_wp2_with ((with_reducible refine gate_store (t := 66) (p := 39) rfl ?_); refine Arr.store (g := go) (k := .u64) (xs := y) (t := 68) rfl rfl m (IntKind.u64.wrap (gx y m + limb xs ox r i k)) ?hs HOq.out ?_; (case hs => (rw [hlb]; first | (go_simp; done) | (go_simp; rfl))); intro w5 k5 g5; have HO5 := Aside0.mk (show Arr .u64 w5 go 68 (rowAcc xs ox r (mulAcc xs ox r i) i (k + 1)) from by rw [rowAcc, ← HYE.out, ← HME.out]; exact k5); have HX5 := Aside0.mk (HXq.out.grown g5 (fun e => by have := Option.some.inj e; have := HGO.out.2; omega)); have HG5 := Aside0.mk (grown_new HGq.out g5 HGO.out.1); clear k5 g5)
        go_roundw
        case rel => first | exact ⟨k + 1, by omega, by go_num, HX5, HO5, HG5⟩ | ((repeat apply Exists.intro); exact ⟨⟨k + 1, by omega, by go_num, HX5, HO5, HG5⟩, rfl⟩)
        case measure => simp [intOf]; omega
    obtain rfl : k = 5 := by omega
    clear hk hlk
    have HOf := Aside0.mk (show Arr .u64 wr go 68 (mulAcc xs ox r (i + 1)) from HOk.out)
    go_wp2
    go_roundw
    case rel => first | exact ⟨i + 1, by omega, by go_num, HXk, HOf, HGk⟩ | ((repeat apply Exists.intro); exact ⟨⟨i + 1, by omega, by go_num, HXk, HOf, HGk⟩, rfl⟩)
    case measure => simp [intOf]; omega
  obtain rfl : i = 5 := by omega
  clear hi hlt
  have HC := Aside0.mk (fun W hW => carry_calls go 68 0 (mulAcc xs ox r 5) (by rw [mulAcc_length]; omega) W hW)
  have HLm := Aside0.mk (show (given 0 (mulAcc xs ox r 5) 6).length = 5 from by rw [given_length, mulAcc_length])
  go_wp2_with (first | (go_at_call 54; (with_reducible refine (HC.out _ HOi.out).mono ?_); rintro e w6 ⟨rfl, k6, g6⟩; have HO6 := Aside0.mk k6; have HX6 := Aside0.mk (HXi.out.grown g6 (fun e => by have := Option.some.inj e; have := HGO.out.2; omega)); have HG6 := Aside0.mk (grown_new HGi.out g6 HGO.out.1); clear k6 g6) | ((with_reducible refine gate_dst (N := 44) rfl ?_); refine Arr.load (k := .u64) (xs := given 0 (mulAcc xs ox r 5) 6) (g := go) (t := 68) rfl 68 _ rfl rfl HO6.out _ Try.underlying68 rfl 5 (by kernel_rfl) HLm.out ?_) | ((with_reducible refine gate_store (t := 68) (p := 45) rfl ?_); refine Arr.putMid (k := .u64) (g := g) (t := t) (xs := xs) (ys := given 0 (mulAcc xs ox r 5) 6) rfl 68 _ _ rfl ox rfl rfl HX6.out 5 (by kernel_rfl) HLm.out ho ?_; intro w7 k7 g7; have HX7 := Aside0.mk (show Arr .u64 w7 g t (timesd xs ox r) from k7); have HG7 := Aside0.mk (grown_trans HG6.out g7); clear k7 g7))
  first
  | (go_end0
     exact ⟨rfl, HX7.out, HG7.out⟩)
  | (go_ret
     exact ⟨rfl, HX7.out, HG7.out⟩)
end Go.Proofs.Ytocckplgjbhlbaa.Pol
