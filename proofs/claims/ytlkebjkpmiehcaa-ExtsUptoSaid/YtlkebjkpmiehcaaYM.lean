/- Maps from whole numbers to truth values that a call makes for itself, as the list of the numbers that were put: what a walk may do with such a map. Conditions: each lemma's own. -/
import Derived.Test.YtlkebjkpmiehcaaWMore
import Derived.Test.YtlkebjkpmiehcaaProg
import Derived.KernelRfl
import Derived.Maps.OwnOps
import Derived.Maps.Views
namespace Go.Proofs.YtlkebjkpmiehcaaW.PrintWords
open Go.RowKit Go.Maps
set_option linter.unusedVariables false
/-- What a map reads as into which these numbers were put, each with true. -/
def Sd (xs : List Int) : DataW Unit := xs.foldl (fun D x => D.put (.int .i64 x) (.lit (.bool true))) (.map [])
theorem Sd_snoc (xs : List Int) (x : Int) : Sd (xs ++ [x]) = (Sd xs).put (.int .i64 x) (.lit (.bool true)) := by simp [Sd]
theorem Sd_fold (x : Int) (z : DataW Unit) : ∀ (xs : List Int) (D : DataW Unit), IsMap D → (xs.foldl (fun D x => D.put (.int .i64 x) (.lit (.bool true))) D).atKey (.int .i64 x) z = if x ∈ xs then .lit (.bool true) else D.atKey (.int .i64 x) z
  | [], D, _ => by simp
  | y :: xs, D, hD => by
    rw [List.foldl_cons, Sd_fold x z xs _ (hD.put _ _)]
    by_cases h : x ∈ xs
    · rw [if_pos h, if_pos (List.mem_cons_of_mem _ h)]
    · rw [if_neg h]
      by_cases hy : x = y
      · subst hy
        rw [if_pos List.mem_cons_self]
        exact atKey_put_same hD (by simp [WideAt.IsKeyLit]) _ _
      · rw [if_neg (by simp [hy, h])]
        exact atKey_put_other (fun e => hy (by injection e)) _ _
theorem Sd_at (x : Int) (xs : List Int) : (Sd xs).atKey (.int .i64 x) (.lit (.bool false)) = .lit (.bool (decide (x ∈ xs))) := by
  unfold Sd
  rw [Sd_fold x _ xs (.map []) ⟨_, rfl⟩]
  by_cases h : x ∈ xs
  · rw [if_pos h, decide_eq_true h]
  · rw [if_neg h, decide_eq_false h]
    rfl
theorem plainElem_bool_inv {P : Program} {e : TypeId} (he : P.underlying e = some .bool) {v : Value} {z : DataW Unit × List MemPlace} (h : plainElem P e v = some z) : ∃ b, v = .bool b ∧ z = (.lit (.bool b), []) := by
  unfold plainElem at h
  rw [he] at h
  cases v <;> simp at h
  exact ⟨_, rfl, h.symm⟩
theorem lit_bool {a b : Bool} (h : (DataW.lit (.bool a) : DataW Unit) = .lit (.bool b)) : a = b := by
  injection h with h2
  injection h2
/-- One map was written; nothing else has turned. -/
def MapTurn (W w1 : World) : Prop := ∃ g es c, W.heap[g]? = some (.map es c) ∧ W.grownBy w1 (some g)
namespace Kd
def Y (_ : Kd Int) (e : TypeId) (w : World) (base : Nat) (ok : Nat → Prop) (v : Value) (xs : List Int) : Prop := ∃ g, v = .map (some g) ∧ ok g ∧ base ≤ g ∧ w.ownsMap Go.Proofs.Try.prog e (plainElem (H := Unit) Go.Proofs.Try.prog 4) g xs.length (Sd xs)
section
variable {d : Kd Int} {e : TypeId} {w w1 : World} {base : Nat} {ok ok' : Nat → Prop} {v : Value} {xs : List Int}
theorem Y_step (h : Y d e w base ok v xs) (hm : ∀ k, ok k → k < w.heap.size → w1.heap[k]? = w.heap[k]?) : Y d e w1 base ok v xs := by
  obtain ⟨g, rfl, ho, hb, hw⟩ := h
  have hl := hw.lt
  obtain ⟨es, c, hh, r⟩ := hw
  exact ⟨g, rfl, ho, hb, es, c, (hm g ho hl).trans hh, r⟩
theorem Y_below (h : Y d e w base ok v xs) (hb : Below w.heap.size w w1) : Y d e w1 base ok v xs := Y_step h (fun k _ hk => hb.block k hk)
theorem Y_alloc (h : Y d e w base ok v xs) (o : Obj) : Y d e (w.alloc o) base ok v xs := Y_below h (below_alloc (Below.refl _ _) o)
theorem Y_drew (h : Y d e w base ok v xs) : Y d e w.drew base ok v xs := Y_below h (below_drew (Below.refl _ _))
theorem Y_drewN (h : Y d e w base ok v xs) (m : Nat) : Y d e (w.drewN m) base ok v xs := Y_below h (pw_below_drewN (Below.refl _ _) m)
theorem Y_far (h : Y d e w base ok v xs) {p : Addr} (hok : ∀ k, ok k → k ≠ p.block) (u : Value) : Y d e (w.setCell p u) base ok v xs := Y_step h (fun k ho _ => Below.heap_setCell w p u k (hok k ho))
theorem Y_mono (h : Y d e w base ok v xs) (hok : ∀ k, ok k → ok' k) : Y d e w base ok' v xs := by
  obtain ⟨g, rfl, ho, r⟩ := h
  exact ⟨g, rfl, hok g ho, r⟩
theorem Y_lower {base' : Nat} (h : Y d e w base ok v xs) (hb : base' ≤ base) : Y d e w base' ok v xs := by
  obtain ⟨g, rfl, ho, hb2, r⟩ := h
  exact ⟨g, rfl, ho, Nat.le_trans hb hb2, r⟩
theorem Y_lt (h : Y d e w base ok v xs) : ∀ k, v.ownBlock = some k → k < w.heap.size := by
  obtain ⟨g, rfl, _⟩ := h
  intro k hk
  simp [Value.ownBlock] at hk
theorem Y_typed (h : Y d e w base ok v xs) : ∀ k, v.ownBlock = some k → ∃ cells, w.heap[k]? = some (.cells cells e (0, 0)) := by
  obtain ⟨g, rfl, _⟩ := h
  intro k hk
  simp [Value.ownBlock] at hk
theorem Y_elderB (h : Y d e w base ok v xs) (a : Nat) (ha : w.heap.size ≤ a) : Y d e w base (fun k => ok k ∧ k ≠ a) v xs := by
  obtain ⟨g, rfl, ho, hb, hw⟩ := h
  have hl := hw.lt
  exact ⟨g, rfl, ⟨ho, by omega⟩, hb, hw⟩
theorem Y_types (h : Y d e w base ok v xs) {g t : Nat} {cells : Array Value} (hb : w.heap[g]? = some (.cells cells t (0, 0))) (ht : ∀ q, q ∈ e :: d.E → q ≠ t) : Y d e w base (fun k => ok k ∧ k ≠ g) v xs := by
  obtain ⟨g', rfl, ho, hbs, hw⟩ := h
  have hw2 := hw
  obtain ⟨es, c, hh, r⟩ := hw
  refine ⟨g', rfl, ⟨ho, fun e' => ?_⟩, hbs, hw2⟩
  subst e'
  rw [hh] at hb
  cases hb
/-- A row of the call's own is no map's block. -/
theorem Y_over' {u : Value} {W : World} {b e' : Nat} (h : Y d e W b ok v xs) (hty : ∀ k, u.ownBlock = some k → ∃ cells, W.heap[k]? = some (.cells cells e' (0, 0))) (_ht : ∀ q, q ∈ e :: d.E → q ≠ e') (hg : W.grownBy w1 u.ownBlock) : Y d e w1 b ok v xs := by
  obtain ⟨g', rfl, ho, hbs, hw⟩ := h
  refine ⟨g', rfl, ho, hbs, hw.kept hg (fun e2 => ?_)⟩
  obtain ⟨cells, hc⟩ := hty g' e2.symm
  obtain ⟨es, c, hh, r⟩ := hw
  rw [hh] at hc
  cases hc
theorem Y_grown {row : Option Nat} (h : Y d e w base ok v xs) (hg : w.grownBy w1 row) (hok : ∀ k, ok k → some k ≠ row) : Y d e w1 base ok v xs := Y_step h (fun k ho hk => hg.block k hk (hok k ho))
end
theorem R_map {α : Type} {d : Kd α} {e : Nat} {w w1 : World} {base : Nat} {ok : Nat → Prop} {v : Value} {xs : List α} (h : d.R e w base ok v xs) (hm : MapTurn w w1) : d.R e w1 base ok v xs := by
  obtain ⟨g, es, c, hh, hg⟩ := hm
  refine R_mono (R_grown (R_bound h) hg (fun k hk e1 => ?_)) (fun _ hk => hk.1)
  obtain ⟨_, _, _, q, _, cells, hc⟩ := hk
  injection e1 with e1
  subst e1
  rw [hh] at hc
  cases hc
section
variable {P : Program} {ops : Array Oper} {rest : List Oper} {o : Oper} {a : Act} {Q : Exit → Act → World → Prop}
theorem zeroB (w : World) : (zeroValue 4).run Go.Proofs.Try.prog w = .ok (.bool false) w := by kernel_rfl
theorem Y_make (d : Kd Int) {W : World} (e : Nat) (hgd : o.guard = none) {N : Tmp} (hd : o.dst = some N) (t : TypeId) (ho : o.op = .makeMap t none) {ok : Nat → Prop} (hok : ok W.heap.size)
    (h : ∀ v1 w1, Kd.Y d e w1 W.heap.size ok v1 [] → Below W.heap.size W w1 → wpList Go.Proofs.Try.prog ops Q rest (a.put o.dst v1) w1) : wpList Go.Proofs.Try.prog ops Q (o :: rest) a W := by
  have hmm := @run_makeMap Go.Proofs.Try.prog
  refine wpList_plain hgd fun K hK => ?_
  unfold Oper.wp
  simp [execOp, ho, hmm, Result.andThen]
  exact hK _ _ (h _ _ ⟨_, rfl, hok, Nat.le_refl _, World.ownsMap_made _ _ _ _⟩ (below_alloc (Below.refl _ _) _))
theorem Y_look (d : Kd Int) {W : World} (e : Nat) (hgd : o.guard = none) (t : TypeId) (m x : Operand) (ho : o.op = .lookup t m x false) (ht : Go.Proofs.Try.prog.underlying t = some (.map e 4)) (he : Go.Proofs.Try.prog.underlying e = some (.int .i64)) (hb : Go.Proofs.Try.prog.underlying 4 = some .bool)
    (hz : (zeroValue 4).run Go.Proofs.Try.prog W = .ok (.bool false) W) {v : Value} {k : Int} {base : Nat} {ok : Nat → Prop} {xs : List Int} (hm : a.eval m = v) (hx : a.eval x = .int .i64 k) (hk : (Lit.int .i64 k).wf = true)
    (HO : Kd.Y d e W base ok v xs) (h : ∀ w1, Below W.heap.size W w1 → wpList Go.Proofs.Try.prog ops Q rest (a.put o.dst (.bool (decide (k ∈ xs)))) w1) : wpList Go.Proofs.Try.prog ops Q (o :: rest) a W := by
  obtain ⟨g, rfl, _, _, hw⟩ := HO
  obtain ⟨u, ps, hrun, hu⟩ := hw.lookup (int_keyed he) ht hz (plainElem_bool hb false) (keyOf_int_mk he hk)
  obtain ⟨b, rfl, hzz⟩ := plainElem_bool_inv hb hu
  rw [Sd_at] at hzz
  have hbb : decide (k ∈ xs) = b := lit_bool (congrArg Prod.fst hzz)
  refine wpList_plain hgd fun K' hK' => ?_
  unfold Oper.wp
  simp [execOp, ho, hm, hx, hrun, Result.andThen]
  rw [← hbb]
  exact hK' _ _ (h _ (Below.refl _ _))
theorem Y_put (d : Kd Int) {w0 W : World} (base e : Nat) (hgd : o.guard = none) (t : TypeId) (m x y : Operand) (ho : o.op = .mapUpdate t m x y) (ht : Go.Proofs.Try.prog.underlying t = some (.map e 4)) (he : Go.Proofs.Try.prog.underlying e = some (.int .i64)) (hb : Go.Proofs.Try.prog.underlying 4 = some .bool)
    (v : Value) (xs : List Int) (k : Int) {ok : Nat → Prop} (hm : a.eval m = v) (hx : a.eval x = .int .i64 k) (hy : a.eval y = .bool true) (hk : (Lit.int .i64 k).wf = true) (hl : xs.length < maxLen)
    (HO : Kd.Y d e W base ok v xs) (HB : Below base w0 W) (hbase : base ≤ W.heap.size)
    (h : ∀ w1, Kd.Y d e w1 base ok v (xs ++ [k]) → Below base w0 w1 → MapTurn W w1 → wpList Go.Proofs.Try.prog ops Q rest (a.put o.dst undef) w1) : wpList Go.Proofs.Try.prog ops Q (o :: rest) a W := by
  obtain ⟨g, rfl, hok, hbg, hw⟩ := HO
  obtain ⟨w', hrun, r1, r2⟩ := hw.update (int_keyed he) ht hl (val := .bool true) (keyOf_int_mk he hk) (plainElem_bool hb true)
  have hw2 := hw
  obtain ⟨es, c, hh, _⟩ := hw2
  refine wpList_plain hgd fun K' hK' => ?_
  unfold Oper.wp
  simp [execOp, ho, hm, hx, hy, hrun, Result.andThen]
  refine hK' _ _ (h _ ⟨g, rfl, hok, hbg, ?_⟩ (HB.grown r2 hbase (fun k hk => by injection hk with e1; omega)) ⟨g, es, c, hh, r2⟩)
  rw [Sd_snoc, List.length_append]
  exact r1
end
end Kd
theorem blk_map {w w1 : World} {g : Nat} {o : Obj} (h : w.heap[g]? = some o) (hm : MapTurn w w1) (hne : ∀ es c, o ≠ .map es c := by (intro _ _ h_; cases h_)) : w1.heap[g]? = some o := by
  obtain ⟨b, es, c, hh, hg⟩ := hm
  have hlt : g < w.heap.size := (Array.getElem?_eq_some_iff.1 h).1
  refine (hg.block g hlt (fun e => ?_)).trans h
  injection e with e
  subst e
  rw [hh] at h
  injection h with h
  exact hne _ _ h.symm
end Go.Proofs.YtlkebjkpmiehcaaW.PrintWords
