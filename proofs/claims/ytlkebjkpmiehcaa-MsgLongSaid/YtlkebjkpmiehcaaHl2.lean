/- Words, contracts and lemmas that the claim needs, in the order in which they build. Conditions: each lemma's own. -/
import Derived.KernelRfl
import Derived.Maps.OwnOps
import Derived.Maps.Views
import Derived.Below
import Derived.Deep.Draws
import Derived.Deep.AppendLies
import Derived.Maps.AppendAt
import Derived.OwnWalk
import Derived.Laws.BytesArg
import Derived.Laws.MakeOwn
import Derived.Laws.OwnMore
import Derived.Deep.OwnRows
import Derived.Tactics
import Derived.Lib.ConvBytes
import Derived.Laws.Slices
import Derived.WalkKit
import Derived.RowKit3
import Derived.Deep.LoopGhost
import Derived.Deep.QuietTactic
import Derived.BigQuiet
import Derived.WideLaws
import Derived.Deep.DeepCutAuto
import Derived.Deep.CutBlock
import Derived.Deep.RegionHeld3
import Derived.Laws.Rows
import Derived.Lib.AppendStr
import Derived.ArgAppend
import Derived.Laws.IdiomCopy
import Derived.OrdersHeld
import Derived.Laws.BitsLemmas
import Derived.RowKit
import Derived.Test.YtlkebjkpmiehcaaHl1
section
namespace Go.Proofs.YtlkebjkpmiehcaaW.PrintWords
open Go.RowKit Go.Maps
set_option linter.unusedVariables false
def Sd (xs : List Int) : DataW Unit := xs.foldl (fun D x => D.put (.int .i64 x) (.lit (.bool true))) (.map [])
theorem Sd_snoc (xs : List Int) (x : Int) : Sd (xs ++ [x]) = (Sd xs).put (.int .i64 x) (.lit (.bool true)) := by simp [Sd]
theorem Sd_fold (x : Int) (z : DataW Unit) : ∀ (xs : List Int) (D : DataW Unit), IsMap D → (xs.foldl (fun D x => D.put (.int .i64 x) (.lit (.bool true))) D).atKey (.int .i64 x) z = if x ∈ xs then .lit (.bool true) else D.atKey (.int .i64 x) z
  | [], D, _ => by simp
  | y :: xs, D, hD => by
    rw [List.foldl_cons, Sd_fold x z xs _ (hD.put _ _)]
    by_cases h : x ∈ xs
    · rw [if_pos h, if_pos (List.mem_cons_of_mem _ h)]
    · rw [if_neg h]
      by_cases hy : x = y
      · subst hy
        rw [if_pos List.mem_cons_self]
        exact atKey_put_same hD (by simp [WideAt.IsKeyLit]) _ _
      · rw [if_neg (by simp [hy, h])]
        exact atKey_put_other (fun e => hy (by injection e)) _ _
theorem Sd_at (x : Int) (xs : List Int) : (Sd xs).atKey (.int .i64 x) (.lit (.bool false)) = .lit (.bool (decide (x ∈ xs))) := by
  unfold Sd
  rw [Sd_fold x _ xs (.map []) ⟨_, rfl⟩]
  by_cases h : x ∈ xs
  · rw [if_pos h, decide_eq_true h]
  · rw [if_neg h, decide_eq_false h]
    rfl
theorem plainElem_bool_inv {P : Program} {e : TypeId} (he : P.underlying e = some .bool) {v : Value} {z : DataW Unit × List MemPlace} (h : plainElem P e v = some z) : ∃ b, v = .bool b ∧ z = (.lit (.bool b), []) := by
  unfold plainElem at h
  rw [he] at h
  cases v <;> simp at h
  exact ⟨_, rfl, h.symm⟩
theorem lit_bool {a b : Bool} (h : (DataW.lit (.bool a) : DataW Unit) = .lit (.bool b)) : a = b := by
  injection h with h2
  injection h2
def MapTurn (W w1 : World) : Prop := ∃ g es c, W.heap[g]? = some (.map es c) ∧ W.grownBy w1 (some g)
namespace Kd
def Y (_ : Kd Int) (e : TypeId) (w : World) (base : Nat) (ok : Nat → Prop) (v : Value) (xs : List Int) : Prop := ∃ g, v = .map (some g) ∧ ok g ∧ base ≤ g ∧ w.ownsMap Go.Proofs.Try.prog e (plainElem (H := Unit) Go.Proofs.Try.prog 4) g xs.length (Sd xs)
section
variable {d : Kd Int} {e : TypeId} {w w1 : World} {base : Nat} {ok ok' : Nat → Prop} {v : Value} {xs : List Int}
theorem Y_step (h : Y d e w base ok v xs) (hm : ∀ k, ok k → k < w.heap.size → w1.heap[k]? = w.heap[k]?) : Y d e w1 base ok v xs := by
  obtain ⟨g, rfl, ho, hb, hw⟩ := h
  have hl := hw.lt
  obtain ⟨es, c, hh, r⟩ := hw
  exact ⟨g, rfl, ho, hb, es, c, (hm g ho hl).trans hh, r⟩
theorem Y_below (h : Y d e w base ok v xs) (hb : Below w.heap.size w w1) : Y d e w1 base ok v xs := Y_step h (fun k _ hk => hb.block k hk)
theorem Y_alloc (h : Y d e w base ok v xs) (o : Obj) : Y d e (w.alloc o) base ok v xs := Y_below h (below_alloc (Below.refl _ _) o)
theorem Y_drew (h : Y d e w base ok v xs) : Y d e w.drew base ok v xs := Y_below h (below_drew (Below.refl _ _))
theorem Y_drewN (h : Y d e w base ok v xs) (m : Nat) : Y d e (w.drewN m) base ok v xs := Y_below h (pw_below_drewN (Below.refl _ _) m)
theorem Y_far (h : Y d e w base ok v xs) {p : Addr} (hok : ∀ k, ok k → k ≠ p.block) (u : Value) : Y d e (w.setCell p u) base ok v xs := Y_step h (fun k ho _ => Below.heap_setCell w p u k (hok k ho))
theorem Y_mono (h : Y d e w base ok v xs) (hok : ∀ k, ok k → ok' k) : Y d e w base ok' v xs := by
  obtain ⟨g, rfl, ho, r⟩ := h
  exact ⟨g, rfl, hok g ho, r⟩
theorem Y_lower {base' : Nat} (h : Y d e w base ok v xs) (hb : base' ≤ base) : Y d e w base' ok v xs := by
  obtain ⟨g, rfl, ho, hb2, r⟩ := h
  exact ⟨g, rfl, ho, Nat.le_trans hb hb2, r⟩
theorem Y_types (h : Y d e w base ok v xs) {g t : Nat} {cells : Array Value} (hb : w.heap[g]? = some (.cells cells t (0, 0))) (ht : ∀ q, q ∈ e :: d.E → q ≠ t) : Y d e w base (fun k => ok k ∧ k ≠ g) v xs := by
  obtain ⟨g', rfl, ho, hbs, hw⟩ := h
  have hw2 := hw
  obtain ⟨es, c, hh, r⟩ := hw
  refine ⟨g', rfl, ⟨ho, fun e' => ?_⟩, hbs, hw2⟩
  subst e'
  rw [hh] at hb
  cases hb
theorem Y_over' {u : Value} {W : World} {b e' : Nat} (h : Y d e W b ok v xs) (hty : ∀ k, u.ownBlock = some k → ∃ cells, W.heap[k]? = some (.cells cells e' (0, 0))) (_ht : ∀ q, q ∈ e :: d.E → q ≠ e') (hg : W.grownBy w1 u.ownBlock) : Y d e w1 b ok v xs := by
  obtain ⟨g', rfl, ho, hbs, hw⟩ := h
  refine ⟨g', rfl, ho, hbs, hw.kept hg (fun e2 => ?_)⟩
  obtain ⟨cells, hc⟩ := hty g' e2.symm
  obtain ⟨es, c, hh, r⟩ := hw
  rw [hh] at hc
  cases hc
end
theorem R_map {α : Type} {d : Kd α} {e : Nat} {w w1 : World} {base : Nat} {ok : Nat → Prop} {v : Value} {xs : List α} (h : d.R e w base ok v xs) (hm : MapTurn w w1) : d.R e w1 base ok v xs := by
  obtain ⟨g, es, c, hh, hg⟩ := hm
  refine R_mono (R_grown (R_bound h) hg (fun k hk e1 => ?_)) (fun _ hk => hk.1)
  obtain ⟨_, _, _, q, _, cells, hc⟩ := hk
  injection e1 with e1
  subst e1
  rw [hh] at hc
  cases hc
section
variable {P : Program} {ops : Array Oper} {rest : List Oper} {o : Oper} {a : Act} {Q : Exit → Act → World → Prop}
theorem zeroB (w : World) : (zeroValue 4).run Go.Proofs.Try.prog w = .ok (.bool false) w := by kernel_rfl
theorem Y_make (d : Kd Int) {W : World} (e : Nat) (hgd : o.guard = none) {N : Tmp} (hd : o.dst = some N) (t : TypeId) (ho : o.op = .makeMap t none) {ok : Nat → Prop} (hok : ok W.heap.size)
    (h : ∀ v1 w1, Kd.Y d e w1 W.heap.size ok v1 [] → Below W.heap.size W w1 → wpList Go.Proofs.Try.prog ops Q rest (a.put o.dst v1) w1) : wpList Go.Proofs.Try.prog ops Q (o :: rest) a W := by
  have hmm := @run_makeMap Go.Proofs.Try.prog
  refine wpList_plain hgd fun K hK => ?_
  unfold Oper.wp
  simp [execOp, ho, hmm, Result.andThen]
  exact hK _ _ (h _ _ ⟨_, rfl, hok, Nat.le_refl _, World.ownsMap_made _ _ _ _⟩ (below_alloc (Below.refl _ _) _))
theorem Y_look (d : Kd Int) {W : World} (e : Nat) (hgd : o.guard = none) (t : TypeId) (m x : Operand) (ho : o.op = .lookup t m x false) (ht : Go.Proofs.Try.prog.underlying t = some (.map e 4)) (he : Go.Proofs.Try.prog.underlying e = some (.int .i64)) (hb : Go.Proofs.Try.prog.underlying 4 = some .bool)
    (hz : (zeroValue 4).run Go.Proofs.Try.prog W = .ok (.bool false) W) {v : Value} {k : Int} {base : Nat} {ok : Nat → Prop} {xs : List Int} (hm : a.eval m = v) (hx : a.eval x = .int .i64 k) (hk : (Lit.int .i64 k).wf = true)
    (HO : Kd.Y d e W base ok v xs) (h : ∀ w1, Below W.heap.size W w1 → wpList Go.Proofs.Try.prog ops Q rest (a.put o.dst (.bool (decide (k ∈ xs)))) w1) : wpList Go.Proofs.Try.prog ops Q (o :: rest) a W := by
  obtain ⟨g, rfl, _, _, hw⟩ := HO
  obtain ⟨u, ps, hrun, hu⟩ := hw.lookup (int_keyed he) ht hz (plainElem_bool hb false) (keyOf_int_mk he hk)
  obtain ⟨b, rfl, hzz⟩ := plainElem_bool_inv hb hu
  rw [Sd_at] at hzz
  have hbb : decide (k ∈ xs) = b := lit_bool (congrArg Prod.fst hzz)
  refine wpList_plain hgd fun K' hK' => ?_
  unfold Oper.wp
  simp [execOp, ho, hm, hx, hrun, Result.andThen]
  rw [← hbb]
  exact hK' _ _ (h _ (Below.refl _ _))
theorem Y_put (d : Kd Int) {w0 W : World} (base e : Nat) (hgd : o.guard = none) (t : TypeId) (m x y : Operand) (ho : o.op = .mapUpdate t m x y) (ht : Go.Proofs.Try.prog.underlying t = some (.map e 4)) (he : Go.Proofs.Try.prog.underlying e = some (.int .i64)) (hb : Go.Proofs.Try.prog.underlying 4 = some .bool)
    (v : Value) (xs : List Int) (k : Int) {ok : Nat → Prop} (hm : a.eval m = v) (hx : a.eval x = .int .i64 k) (hy : a.eval y = .bool true) (hk : (Lit.int .i64 k).wf = true) (hl : xs.length < maxLen)
    (HO : Kd.Y d e W base ok v xs) (HB : Below base w0 W) (hbase : base ≤ W.heap.size)
    (h : ∀ w1, Kd.Y d e w1 base ok v (xs ++ [k]) → Below base w0 w1 → MapTurn W w1 → wpList Go.Proofs.Try.prog ops Q rest (a.put o.dst undef) w1) : wpList Go.Proofs.Try.prog ops Q (o :: rest) a W := by
  obtain ⟨g, rfl, hok, hbg, hw⟩ := HO
  obtain ⟨w', hrun, r1, r2⟩ := hw.update (int_keyed he) ht hl (val := .bool true) (keyOf_int_mk he hk) (plainElem_bool hb true)
  have hw2 := hw
  obtain ⟨es, c, hh, _⟩ := hw2
  refine wpList_plain hgd fun K' hK' => ?_
  unfold Oper.wp
  simp [execOp, ho, hm, hx, hy, hrun, Result.andThen]
  refine hK' _ _ (h _ ⟨g, rfl, hok, hbg, ?_⟩ (HB.grown r2 hbase (fun k hk => by injection hk with e1; omega)) ⟨g, es, c, hh, r2⟩)
  rw [Sd_snoc, List.length_append]
  exact r1
end
end Kd
theorem blk_map {w w1 : World} {g : Nat} {o : Obj} (h : w.heap[g]? = some o) (hm : MapTurn w w1) (hne : ∀ es c, o ≠ .map es c := by (intro _ _ h_; cases h_)) : w1.heap[g]? = some o := by
  obtain ⟨b, es, c, hh, hg⟩ := hm
  have hlt : g < w.heap.size := (Array.getElem?_eq_some_iff.1 h).1
  refine (hg.block g hlt (fun e => ?_)).trans h
  injection e with e
  subst e
  rw [hh] at h
  injection h with h
  exact hne _ _ h.symm
end Go.Proofs.YtlkebjkpmiehcaaW.PrintWords
end
section
namespace Go.Proofs.Ytlkebjkpmiehcaa.E
open Go.RowKit Go.Proofs.YtlkebjkpmiehcaaW.PrintWords Go.Proofs.YtlkebjkpmiehcaaW.PrintLast Go.Proofs.YtlkebjkpmiehcaaW.PrintMore
attribute [local go_sem] max2_int min2_int max_two min_two max_three min_three max_four min_four   
set_option linter.unusedVariables false
set_option linter.unusedSimpArgs false
def errW : Option Int → Value
  | none => .nilIface
  | some c => .iface 0 (.int .i64 c)
theorem errW_none : errW none = .nilIface := rfl
theorem errW_some (c : Int) : errW (some c) = .iface 0 (.int .i64 c) := rfl
theorem info5 : (Try.prog.info? 5).map (fun i => (i.zero, i.size, i.bytes)) = some (some (.int .u8 0), 1, 1) := by kernel_rfl
theorem info41 : (Try.prog.info? 41).map (fun i => (i.zero, i.size, i.bytes)) = some (some (.agg #[(.int .i64 0), (.string ⟨#[]⟩)]), 2, 24) := by kernel_rfl
structure S41 where
  f0 : Int
  f1 : ByteArray
def z41 : S41 := ⟨(0 : Int), (⟨#[]⟩ : ByteArray)⟩
def k41 : Kd S41 := Kd.iso (Kd.pair (Kd.int .i64) Kd.string) (fun x : S41 => (x.f0, x.f1))
theorem k41_open {w : World} {x : S41} {cs : List Value} (h : k41.K w x cs) : cs = [.int .i64 x.f0, .string x.f1] := by
  obtain ⟨_, _, rfl, rfl, rfl⟩ := h
  exact rfl
theorem k41_openM {w : World} {base : Nat} {ok : Nat → Prop} {x : S41} {cs : List Value} (h : k41.M w base ok x cs) : cs = [.int .i64 x.f0, .string x.f1] := by
  obtain ⟨_, _, rfl, rfl, rfl⟩ := h
  exact rfl
theorem k41_mkM (w : World) (base : Nat) (ok : Nat → Prop) (x : S41)  : k41.M w base ok x [.int .i64 x.f0, .string x.f1] := ⟨[.int .i64 x.f0], [.string x.f1], rfl, rfl, rfl⟩
def rd_T41 (xs : List S41) (i : Int) : S41 := xs.getD i.toNat z41
theorem at_T41 {w : World} {A : Option Addr} {n : Nat} {xs : List S41} (h : Kd.C k41 w A n xs) (i : Int) (h0 : 0 ≤ i) (h1 : i < n) : ∃ ad , A = some ad ∧ w.cell? (ad.add (i.toNat * 2)) = some (.int .i64 (rd_T41 xs i).f0) ∧ w.cell? ⟨(ad.add (i.toNat * 2)).block, (ad.add (i.toNat * 2)).off + 1, none⟩ = some (.string (rd_T41 xs i).f1) := by
  obtain ⟨ad, c, e, _, hK, hc0⟩ := Kd.C_get h z41 i h0 h1
  have hc : ∀ j u, c[j]? = some u → w.cell? (ad.add (i.toNat * 2 + j)) = some u := hc0
  obtain rfl := k41_open hK
  exact ⟨ad, e, hc 0 _ rfl, by rw [← add_field _ _ 1 (by omega)]; exact hc 1 _ rfl⟩
end Go.Proofs.Ytlkebjkpmiehcaa.E
end
section
namespace Go.Proofs.Ytlkebjkpmiehcaa.E
open Go.RowKit Go.Proofs.YtlkebjkpmiehcaaW.PrintWords Go.Proofs.YtlkebjkpmiehcaaW.PrintLast Go.Proofs.YtlkebjkpmiehcaaW.PrintMore
attribute [local go_sem] max2_int min2_int max_two min_two max_three min_three max_four min_four   
set_option linter.unusedVariables false
set_option linter.unusedSimpArgs false
mutual
def wire_number.j0 : Nat → ByteArray → Int → Int → Bool → Option (Int × Int × Int)
  | 0, _, _, _, _ => none
  | k + 1, x0, x1, x2, x26 => if x26 = true then (some (0, 0, 100)) else (wire_number.l0 k x0 x1 x2 0 x2 0)
def wire_number.l0 : Nat → ByteArray → Int → Int → Int → Int → Int → Option (Int × Int × Int)
  | 0, _, _, _, _, _, _ => none
  | k + 1, x0, x1, x2, x9, x27, x28 => if x28 < x27 then (if 0 ≤ (wrap64 (x1 + x28)) then (if (wrap64 (x1 + x28)) < (x0.size : Int) then (wire_number.l0 k x0 x1 x2 (Go.bits .or .i64 (wrap64 (x9 * 256)) (wrap64 (bt x0 (wrap64 (x1 + x28))))) x27 (wrap64 (x28 + 1))) else (none)) else (none)) else (some (x9, wrap64 (x1 + x2), 0))
end
def wire_number.f (k : Nat) (a0 : ByteArray) (a1 : Int) (a2 : Int) : Option (Int × Int × Int) := if a1 < 0 then (wire_number.j0 k a0 a1 a2 true) else (if a1 > (a0.size : Int) then (wire_number.j0 k a0 a1 a2 true) else (wire_number.j0 k a0 a1 a2 (decide ((wrap64 ((a0.size : Int) - a1)) < a2))))
theorem wire_number.mono_l : ∀ k, (∀ y0 y1 y2 y3, LeO (wire_number.j0 k y0 y1 y2 y3) (wire_number.j0 (k + 1) y0 y1 y2 y3)) ∧ (∀ y0 y1 y2 y3 y4 y5, LeO (wire_number.l0 k y0 y1 y2 y3 y4 y5) (wire_number.l0 (k + 1) y0 y1 y2 y3 y4 y5))
  | 0 => ⟨fun _ _ _ _ r h => by simp [wire_number.j0] at h, fun _ _ _ _ _ _ r h => by simp [wire_number.l0] at h⟩
  | k + 1 => by
    obtain ⟨ih0, ih1⟩ := wire_number.mono_l k
    refine ⟨?_, ?_⟩
    · intro y0 y1 y2 y3
      unfold wire_number.j0
      repeat' first
      | (with_reducible exact ih0 _ _ _ _)
      | (with_reducible exact ih1 _ _ _ _ _ _)
      | (with_reducible exact LeO.refl _)
      | (with_reducible exact LeO.none _)
      | (with_reducible refine LeO.ite ?_ ?_)
      | (with_reducible refine LeO.bind ?_ (fun _ => ?_))
      | exact ih0 _ _ _ _
      | exact ih1 _ _ _ _ _ _
      | exact LeO.none _
      | refine LeO.ite ?_ ?_
      | refine LeO.bind ?_ (fun _ => ?_)
    · intro y0 y1 y2 y3 y4 y5
      unfold wire_number.l0
      repeat' first
      | (with_reducible exact ih0 _ _ _ _)
      | (with_reducible exact ih1 _ _ _ _ _ _)
      | (with_reducible exact LeO.refl _)
      | (with_reducible exact LeO.none _)
      | (with_reducible refine LeO.ite ?_ ?_)
      | (with_reducible refine LeO.bind ?_ (fun _ => ?_))
      | exact ih0 _ _ _ _
      | exact ih1 _ _ _ _ _ _
      | exact LeO.none _
      | refine LeO.ite ?_ ?_
      | refine LeO.bind ?_ (fun _ => ?_)
theorem wire_number.mono : ∀ a0 a1 a2 k, LeO (wire_number.f k a0 a1 a2) (wire_number.f (k + 1) a0 a1 a2) := by
  intro a0 a1 a2 k
  obtain ⟨ih0, ih1⟩ := wire_number.mono_l k
  unfold wire_number.f
  repeat' first
      | (with_reducible exact ih0 _ _ _ _)
      | (with_reducible exact ih1 _ _ _ _ _ _)
      | (with_reducible exact LeO.refl _)
      | (with_reducible exact LeO.none _)
      | (with_reducible refine LeO.ite ?_ ?_)
      | (with_reducible refine LeO.bind ?_ (fun _ => ?_))
      | exact ih0 _ _ _ _
      | exact ih1 _ _ _ _ _ _
      | exact LeO.none _
      | refine LeO.ite ?_ ?_
      | refine LeO.bind ?_ (fun _ => ?_)
set_option maxHeartbeats 8000000 in
set_option maxRecDepth 100000 in
theorem wire_number.calls (k : Nat) (a0 : ByteArray) (a1 : Int) (a2 : Int) (r1 : Int) (r2 : Int) (r3 : Int) (w : World) (h : wire_number.f k a0 a1 a2 = some (r1, r2, r3)) :
    Calls Try.prog 54 #[.string a0, .int .i64 a1, .int .i64 a2] w fun e w' => e = .returned (.tuple #[.int .i64 r1, .int .i64 r2, .int .i64 r3]) ∧ Drawn0 w w' := by
  have H : (if a1 < 0 then (wire_number.j0 k a0 a1 a2 true) else (if a1 > (a0.size : Int) then (wire_number.j0 k a0 a1 a2 true) else (wire_number.j0 k a0 a1 a2 (decide ((wrap64 ((a0.size : Int) - a1)) < a2))))) = some (r1, r2, r3) := h
  clear h
  have HC4 := Aside0.mk H
  clear H
  go_enter Try.func54, Try.ntmps54
  go_upto_region 1 with (fail)
  go_cut [26] (fun v26 wc => ∃ (kq : Nat) (x26_3 : Bool), v26 = .bool x26_3 ∧ Aside0 (wire_number.j0 kq a0 a1 a2 x26_3 = some (r1, r2, r3)) ∧ Aside0 (kq ≤ k) ∧ Drawn0 w wc)
  case first =>
    have H := HC4.out
    clear HC4
    by_cases c5 : a1 < 0
    · rw [if_pos c5] at H
      have c5b0 : decide (a1 < 0) = true := decide_eq_true c5
      clear c5
      (first | rw [c5b0] | (simp only [i64_w, i32_w]; rw [c5b0]) | skip)
      have H' := Aside0.mk H
      clear H
      go_wp2
      go_meet
      case rel => exact ⟨_, (true), (by first | rfl | (simp; done) | (simp [*]; done)), H', ⟨by first | omega | exact Nat.le_refl _⟩, by repeat (first | exact Drawn0.refl _ | apply Drawn0.step)⟩
    · rw [if_neg c5] at H
      have c5b0 : decide (a1 < 0) = false := decide_eq_false c5
      clear c5
      (first | rw [c5b0] | (simp only [i64_w, i32_w]; rw [c5b0]) | skip)
      by_cases c6 : a1 > (a0.size : Int)
      · rw [if_pos c6] at H
        have c6b0 : decide ((a0.size : Int) < a1) = true := decide_eq_true c6
        clear c6
        have H' := Aside0.mk H
        clear H
        go_wp2
        go_meet
        case rel => exact ⟨_, (true), (by first | rfl | (simp; done) | (simp [*]; done)), H', ⟨by first | omega | exact Nat.le_refl _⟩, by repeat (first | exact Drawn0.refl _ | apply Drawn0.step)⟩
      · rw [if_neg c6] at H
        have c6b0 : decide ((a0.size : Int) < a1) = false := decide_eq_false c6
        clear c6
        have H' := Aside0.mk H
        clear H
        go_wp2
        go_meet
        case rel => exact ⟨_, (decide ((wrap64 ((a0.size : Int) - a1)) < a2)), (by first | rfl | (simp; done) | (simp [*]; done)), H', ⟨by first | omega | exact Nat.le_refl _⟩, by repeat (first | exact Drawn0.refl _ | apply Drawn0.step)⟩
  case rest =>
    clear HC4
    try clear p2
    try clear c5
    try clear c5b0
    try clear c6
    try clear c6b0
    try clear p6
    obtain ⟨kq, x26_3, rfl, HA, HJ3, ⟨mc3, rfl⟩⟩ := hcut
    cases kq with
    | zero => exact absurd HA.out (by simp [wire_number.j0])
    | succ kj3 =>
      have H := HA.out
      clear HA
      simp only [wire_number.j0] at H
      by_cases c7 : x26_3 = true
      · subst c7
        have H1 : (some (0, 0, 100)) = some (r1, r2, r3) := by rw [if_pos rfl] at H; exact H
        clear H
        have H := H1
        clear H1
        simp only [Option.some.injEq, Prod.mk.injEq] at H
        obtain ⟨rfl, rfl, rfl⟩ := H
        go_wp2
        go_ret3
        exact ⟨by first | rfl | (simp; done) | (simp [*]; done), by repeat (first | exact Drawn0.refl _ | apply Drawn0.step)⟩
      · replace c7 := Bool.eq_false_iff.mpr c7
        subst c7
        have H1 : (wire_number.l0 kj3 a0 a1 a2 0 a2 0) = some (r1, r2, r3) := by rw [if_neg (show ¬ (false = true) by decide)] at H; exact H
        clear H
        have H := H1
        clear H1
        have H' := Aside0.mk H
        clear H
        go_wp2
        go_loopg [9, 28] kj3 (fun kq v9 v28 w' => ∃ (x9_2 : Int) (x28_2 : Int), v9 = .int .i64 x9_2 ∧ v28 = .int .i64 x28_2 ∧ Aside0 (wire_number.l0 kq a0 a1 a2 x9_2 a2 x28_2 = some (r1, r2, r3)) ∧ Aside0 (kq ≤ kj3) ∧ Drawn0 w w')
        case atStart => exact ⟨(0), (0), (by first | rfl | (simp; done) | (simp [*]; done)), (by first | rfl | (simp; done) | (simp [*]; done)), H', ⟨Nat.le_refl _⟩, by repeat (first | exact Drawn0.refl _ | apply Drawn0.step)⟩
        case round =>
          clear H'
          try clear p2
          try clear c3
          try clear c5
          try clear c5b0
          try clear c6
          try clear c6b0
          try clear p6
          try clear c7
          try clear p2
          try clear p6
          obtain ⟨x9_2, x28_2, rfl, rfl, HA, HK2, ⟨m2, rfl⟩⟩ := hrel
          cases gk with
          | zero => exact absurd HA.out (by simp [wire_number.l0])
          | succ k2 =>
            have H := HA.out
            clear HA
            simp only [wire_number.l0] at H
            by_cases c8 : x28_2 < a2
            · rw [if_pos c8] at H
              have c8b0 : decide (x28_2 < a2) = true := decide_eq_true c8
              clear c8
              obtain ⟨ji9, hji9⟩ : ∃ j_ : Int, (wrap64 (a1 + x28_2)) = j_ := ⟨_, rfl⟩
              replace H : (if 0 ≤ (ji9) then (if (ji9) < (a0.size : Int) then (wire_number.l0 k2 a0 a1 a2 (Go.bits .or .i64 (wrap64 (x9_2 * 256)) (wrap64 (bt a0 (ji9)))) a2 (wrap64 (x28_2 + 1))) else (none)) else (none)) = some (r1, r2, r3) := by first | (rw [hji9] at H; exact H) | (simp only [hji9] at H ⊢; exact H)
              have hji9w : (IntKind.i64.wrap (a1 + x28_2)) = ji9 := (i64_w _).trans hji9
              by_cases c10 : 0 ≤ (ji9)
              · rw [if_pos c10] at H
                have c10b0 : decide (0 ≤ (ji9)) = true := decide_eq_true c10
                clear c10
                by_cases c11 : (ji9) < (a0.size : Int)
                · rw [if_pos c11] at H
                  have c11b0 : decide ((ji9) < (a0.size : Int)) = true := decide_eq_true c11
                  clear c11
                  have H' := Aside0.mk H
                  clear H
                  have p12 : 0 ≤ ((ji9) : Int) := of_decide_eq_true (by first | (with_reducible assumption) | assumption)
                  have q12 : (ji9) < (a0.size : Int) := of_decide_eq_true (by first | (with_reducible assumption) | assumption)
                  have hx12 := bt_at a0 (ji9)
                  replace p12 := eq_true p12
                  replace q12 := eq_true q12
                  go_wp2
                  go_roundg k2
                  case measure => have := HJ3.out; have := HK2.out; omega
                  case rel => exact ⟨(Go.bits .or .i64 (wrap64 (x9_2 * 256)) (wrap64 (bt a0 (ji9)))), (wrap64 (x28_2 + 1)), (by first | rfl | (simp; done) | (simp only [← hji9] <;> (first | rfl | simp)) | (simp [*]; done)), (by first | rfl | (simp; done) | (simp [*]; done)), H', ⟨by have := HJ3.out; have := HK2.out; omega⟩, by repeat (first | exact Drawn0.refl _ | apply Drawn0.step)⟩
                · rw [if_neg c11] at H
                  exact absurd H (by simp)
              · rw [if_neg c10] at H
                exact absurd H (by simp)
            · rw [if_neg c8] at H
              have c8b0 : decide (x28_2 < a2) = false := decide_eq_false c8
              clear c8
              simp only [Option.some.injEq, Prod.mk.injEq] at H
              obtain ⟨rfl, rfl, rfl⟩ := H
              go_wp2
              go_ret3
              exact ⟨by first | rfl | (simp; done) | (simp [*]; done), by repeat (first | exact Drawn0.refl _ | apply Drawn0.step)⟩
def wire_U16.f (k : Nat) (a0 : ByteArray) (a1 : Int) : Option (Int × Int × Int) := (wire_number.f k a0 a1 2).bind fun bt101 => (some (bt101.1, bt101.2.1, bt101.2.2))
theorem wire_U16.mono : ∀ a0 a1 k, LeO (wire_U16.f k a0 a1) (wire_U16.f (k + 1) a0 a1) := by
  intro a0 a1 k
  unfold wire_U16.f
  repeat' first
      | (with_reducible exact wire_number.mono _ _ _ _)
      | (with_reducible exact LeO.refl _)
      | (with_reducible exact LeO.none _)
      | (with_reducible refine LeO.ite ?_ ?_)
      | (with_reducible refine LeO.bind ?_ (fun _ => ?_))
      | exact wire_number.mono _ _ _ _
      | exact LeO.none _
      | refine LeO.ite ?_ ?_
      | refine LeO.bind ?_ (fun _ => ?_)
set_option maxHeartbeats 8000000 in
set_option maxRecDepth 100000 in
theorem wire_U16.calls (k : Nat) (a0 : ByteArray) (a1 : Int) (r1 : Int) (r2 : Int) (r3 : Int) (w : World) (h : wire_U16.f k a0 a1 = some (r1, r2, r3)) :
    Calls Try.prog 33 #[.string a0, .int .i64 a1] w fun e w' => e = .returned (.tuple #[.int .i64 r1, .int .i64 r2, .int .i64 r3]) ∧ Drawn0 w w' := by
  have H : ((wire_number.f k a0 a1 2).bind fun bt101 => (some (bt101.1, bt101.2.1, bt101.2.2))) = some (r1, r2, r3) := h
  clear h
  replace H := Option.bind_eq_some_iff.mp H
  obtain ⟨⟨t101, t102, t103⟩, A30, H⟩ := H
  replace H : (some (t101, t102, t103)) = some (r1, r2, r3) := H
  have A3 := Aside0.mk A30
  clear A30
  simp only [Option.some.injEq, Prod.mk.injEq] at H
  obtain ⟨rfl, rfl, rfl⟩ := H
  go_enter Try.func33, Try.ntmps33
  go_wp2_with (first | ((with_reducible refine gate_callee (f := 54) rfl ?_); refine goesL_ (some 9) rfl rfl Try.func54 (by kernel_rfl) rfl #[.string a0, .int .i64 a1, .int .i64 2] rfl (by (try simp only [List.map_toArray, List.map_cons, List.map_nil]); first | done | rfl | (simp only [List.length_drop, List.length_take]; rfl)) ?_; (with_reducible refine (wire_number.calls k a0 a1 2 t101 t102 t103 _ A3.out).mono ?_); rintro e w' ⟨rfl, ⟨nd, rfl⟩⟩; refine ⟨_, rfl, ?_⟩))
  go_ret3
  exact ⟨by first | rfl | (simp; done) | (simp [*]; done), by repeat (first | exact Drawn0.refl _ | apply Drawn0.step)⟩
def wire_Vec.j0 : Nat → ByteArray → Int → Int → Bool → Option (ByteArray × Int × Int)
  | 0, _, _, _, _ => none
  | k + 1, x0, x1, x2, x16 => if x16 = true then (some ((⟨#[]⟩ : ByteArray), 0, 101)) else ((wire_number.f k x0 x1 x2).bind fun bt104 => (if bt104.2.2 = 0 then (if bt104.1 > (wrap64 ((x0.size : Int) - bt104.2.1)) then (some ((⟨#[]⟩ : ByteArray), 0, 100)) else (if 0 ≤ bt104.2.1 then (if bt104.2.1 ≤ (wrap64 (bt104.2.1 + bt104.1)) then (if (wrap64 (bt104.2.1 + bt104.1)) ≤ (x0.size : Int) then (some (x0.extract (bt104.2.1 : Int).toNat ((wrap64 (bt104.2.1 + bt104.1)) : Int).toNat, wrap64 (bt104.2.1 + bt104.1), 0)) else (none)) else (none)) else (none))) else (some ((⟨#[]⟩ : ByteArray), 0, 100))))
def wire_Vec.f (k : Nat) (a0 : ByteArray) (a1 : Int) (a2 : Int) : Option (ByteArray × Int × Int) := if a2 < 1 then (wire_Vec.j0 k a0 a1 a2 true) else (wire_Vec.j0 k a0 a1 a2 (decide (a2 > 3)))
theorem wire_Vec.mono_l : ∀ k, (∀ y0 y1 y2 y3, LeO (wire_Vec.j0 k y0 y1 y2 y3) (wire_Vec.j0 (k + 1) y0 y1 y2 y3))
  | 0 => fun _ _ _ _ r h => by simp [wire_Vec.j0] at h
  | k + 1 => by
    have ih0 := wire_Vec.mono_l k
    · intro y0 y1 y2 y3
      unfold wire_Vec.j0
      repeat' first
      | (with_reducible exact ih0 _ _ _ _)
      | (with_reducible exact wire_number.mono _ _ _ _)
      | (with_reducible exact LeO.refl _)
      | (with_reducible exact LeO.none _)
      | (with_reducible refine LeO.ite ?_ ?_)
      | (with_reducible refine LeO.bind ?_ (fun _ => ?_))
      | exact ih0 _ _ _ _
      | exact wire_number.mono _ _ _ _
      | exact LeO.none _
      | refine LeO.ite ?_ ?_
      | refine LeO.bind ?_ (fun _ => ?_)
theorem wire_Vec.mono : ∀ a0 a1 a2 k, LeO (wire_Vec.f k a0 a1 a2) (wire_Vec.f (k + 1) a0 a1 a2) := by
  intro a0 a1 a2 k
  have ih0 := wire_Vec.mono_l k
  unfold wire_Vec.f
  repeat' first
      | (with_reducible exact ih0 _ _ _ _)
      | (with_reducible exact wire_number.mono _ _ _ _)
      | (with_reducible exact LeO.refl _)
      | (with_reducible exact LeO.none _)
      | (with_reducible refine LeO.ite ?_ ?_)
      | (with_reducible refine LeO.bind ?_ (fun _ => ?_))
      | exact ih0 _ _ _ _
      | exact wire_number.mono _ _ _ _
      | exact LeO.none _
      | refine LeO.ite ?_ ?_
      | refine LeO.bind ?_ (fun _ => ?_)
set_option maxHeartbeats 8000000 in
set_option maxRecDepth 100000 in
theorem wire_Vec.calls (k : Nat) (a0 : ByteArray) (a1 : Int) (a2 : Int) (r1 : ByteArray) (r2 : Int) (r3 : Int) (w : World) (h : wire_Vec.f k a0 a1 a2 = some (r1, r2, r3)) :
    Calls Try.prog 34 #[.string a0, .int .i64 a1, .int .i64 a2] w fun e w' => e = .returned (.tuple #[.string r1, .int .i64 r2, .int .i64 r3]) ∧ Drawn0 w w' := by
  have H : (if a2 < 1 then (wire_Vec.j0 k a0 a1 a2 true) else (wire_Vec.j0 k a0 a1 a2 (decide (a2 > 3)))) = some (r1, r2, r3) := h
  clear h
  have HC4 := Aside0.mk H
  clear H
  go_enter Try.func34, Try.ntmps34
  go_upto_region 1 with (fail)
  go_cut [16] (fun v16 wc => ∃ (kq : Nat) (x16_3 : Bool), v16 = .bool x16_3 ∧ Aside0 (wire_Vec.j0 kq a0 a1 a2 x16_3 = some (r1, r2, r3)) ∧ Aside0 (kq ≤ k) ∧ Drawn0 w wc)
  case first =>
    have H := HC4.out
    clear HC4
    by_cases c5 : a2 < 1
    · rw [if_pos c5] at H
      have c5b0 : decide (a2 < 1) = true := decide_eq_true c5
      clear c5
      (first | rw [c5b0] | (simp only [i64_w, i32_w]; rw [c5b0]) | skip)
      have H' := Aside0.mk H
      clear H
      go_wp2
      go_meet
      case rel => exact ⟨_, (true), (by first | rfl | (simp; done) | (simp [*]; done)), H', ⟨by first | omega | exact Nat.le_refl _⟩, by repeat (first | exact Drawn0.refl _ | apply Drawn0.step)⟩
    · rw [if_neg c5] at H
      have c5b0 : decide (a2 < 1) = false := decide_eq_false c5
      clear c5
      (first | rw [c5b0] | (simp only [i64_w, i32_w]; rw [c5b0]) | skip)
      have H' := Aside0.mk H
      clear H
      go_wp2
      go_meet
      case rel => exact ⟨_, (decide (a2 > 3)), (by first | rfl | (simp; done) | (simp [*]; done)), H', ⟨by first | omega | exact Nat.le_refl _⟩, by repeat (first | exact Drawn0.refl _ | apply Drawn0.step)⟩
  case rest =>
    clear HC4
    try clear p2
    try clear c3
    try clear c5
    try clear c5b0
    obtain ⟨kq, x16_3, rfl, HA, HJ3, ⟨mc3, rfl⟩⟩ := hcut
    cases kq with
    | zero => exact absurd HA.out (by simp [wire_Vec.j0])
    | succ kj3 =>
      have H := HA.out
      clear HA
      simp only [wire_Vec.j0] at H
      by_cases c6 : x16_3 = true
      · subst c6
        have H1 : (some ((⟨#[]⟩ : ByteArray), 0, 101)) = some (r1, r2, r3) := by rw [if_pos rfl] at H; exact H
        clear H
        have H := H1
        clear H1
        simp only [Option.some.injEq, Prod.mk.injEq] at H
        obtain ⟨rfl, rfl, rfl⟩ := H
        go_wp2
        go_ret3
        exact ⟨by first | rfl | (simp; done) | (simp [*]; done), by repeat (first | exact Drawn0.refl _ | apply Drawn0.step)⟩
      · replace c6 := Bool.eq_false_iff.mpr c6
        subst c6
        have H1 : ((wire_number.f kj3 a0 a1 a2).bind fun bt104 => (if bt104.2.2 = 0 then (if bt104.1 > (wrap64 ((a0.size : Int) - bt104.2.1)) then (some ((⟨#[]⟩ : ByteArray), 0, 100)) else (if 0 ≤ bt104.2.1 then (if bt104.2.1 ≤ (wrap64 (bt104.2.1 + bt104.1)) then (if (wrap64 (bt104.2.1 + bt104.1)) ≤ (a0.size : Int) then (some (a0.extract (bt104.2.1 : Int).toNat ((wrap64 (bt104.2.1 + bt104.1)) : Int).toNat, wrap64 (bt104.2.1 + bt104.1), 0)) else (none)) else (none)) else (none))) else (some ((⟨#[]⟩ : ByteArray), 0, 100)))) = some (r1, r2, r3) := by rw [if_neg (show ¬ (false = true) by decide)] at H; exact H
        clear H
        have H := H1
        clear H1
        replace H := Option.bind_eq_some_iff.mp H
        obtain ⟨⟨t104, t105, t106⟩, A70, H⟩ := H
        replace H : (if t106 = 0 then (if t104 > (wrap64 ((a0.size : Int) - t105)) then (some ((⟨#[]⟩ : ByteArray), 0, 100)) else (if 0 ≤ t105 then (if t105 ≤ (wrap64 (t105 + t104)) then (if (wrap64 (t105 + t104)) ≤ (a0.size : Int) then (some (a0.extract (t105 : Int).toNat ((wrap64 (t105 + t104)) : Int).toNat, wrap64 (t105 + t104), 0)) else (none)) else (none)) else (none))) else (some ((⟨#[]⟩ : ByteArray), 0, 100))) = some (r1, r2, r3) := H
        have A7 := Aside0.mk A70
        clear A70
        by_cases c8 : t106 = 0
        · rw [if_pos c8] at H
          have c8b0 : (t106 == 0) = true := beq_iff_eq.mpr c8
          have c8b1 : (t106 != 0) = false := bne_eq_false_iff_eq.mpr c8
          clear c8
          by_cases c9 : t104 > (wrap64 ((a0.size : Int) - t105))
          · rw [if_pos c9] at H
            have c9b0 : decide ((wrap64 ((a0.size : Int) - t105)) < t104) = true := decide_eq_true c9
            clear c9
            simp only [Option.some.injEq, Prod.mk.injEq] at H
            obtain ⟨rfl, rfl, rfl⟩ := H
            go_wp2_with (first | ((with_reducible refine gate_callee (f := 54) rfl ?_); refine goesL_ (some 21) rfl rfl Try.func54 (by kernel_rfl) rfl #[.string a0, .int .i64 a1, .int .i64 a2] rfl (by (try simp only [List.map_toArray, List.map_cons, List.map_nil]); first | done | rfl | (simp only [List.length_drop, List.length_take]; rfl)) ?_; (with_reducible refine (wire_number.calls kj3 a0 a1 a2 t104 t105 t106 _ A7.out).mono ?_); rintro e w' ⟨rfl, ⟨nd, rfl⟩⟩; refine ⟨_, rfl, ?_⟩))
            go_ret3
            exact ⟨by first | rfl | (simp; done) | (simp [*]; done), by repeat (first | exact Drawn0.refl _ | apply Drawn0.step)⟩
          · rw [if_neg c9] at H
            have c9b0 : decide ((wrap64 ((a0.size : Int) - t105)) < t104) = false := decide_eq_false c9
            clear c9
            by_cases c10 : 0 ≤ t105
            · rw [if_pos c10] at H
              have c10b0 := eq_true c10
              have c10b1 : decide (0 ≤ t105) = true := decide_eq_true c10
              clear c10
              by_cases c11 : t105 ≤ (wrap64 (t105 + t104))
              · rw [if_pos c11] at H
                have c11b0 := eq_true c11
                have c11b1 : decide (t105 ≤ (wrap64 (t105 + t104))) = true := decide_eq_true c11
                by_cases c12 : (wrap64 (t105 + t104)) ≤ (a0.size : Int)
                · rw [if_pos c12] at H
                  have c12b0 := eq_true c12
                  have c12b1 : decide ((wrap64 (t105 + t104)) ≤ (a0.size : Int)) = true := decide_eq_true c12
                  simp only [Option.some.injEq, Prod.mk.injEq] at H
                  obtain ⟨rfl, rfl, rfl⟩ := H
                  go_wp2_with (first | ((with_reducible refine gate_callee (f := 54) rfl ?_); refine goesL_ (some 21) rfl rfl Try.func54 (by kernel_rfl) rfl #[.string a0, .int .i64 a1, .int .i64 a2] rfl (by (try simp only [List.map_toArray, List.map_cons, List.map_nil]); first | done | rfl | (simp only [List.length_drop, List.length_take]; rfl)) ?_; (with_reducible refine (wire_number.calls kj3 a0 a1 a2 t104 t105 t106 _ A7.out).mono ?_); rintro e w' ⟨rfl, ⟨nd, rfl⟩⟩; refine ⟨_, rfl, ?_⟩))
                  go_ret3
                  exact ⟨by first | rfl | (simp; done) | (simp [*]; done), by repeat (first | exact Drawn0.refl _ | apply Drawn0.step)⟩
                · rw [if_neg c12] at H
                  exact absurd H (by simp)
              · rw [if_neg c11] at H
                exact absurd H (by simp)
            · rw [if_neg c10] at H
              exact absurd H (by simp)
        · rw [if_neg c8] at H
          have c8b0 : (t106 == 0) = false := beq_eq_false_iff_ne.mpr c8
          have c8b1 : (t106 != 0) = true := bne_iff_ne.mpr c8
          simp only [Option.some.injEq, Prod.mk.injEq] at H
          obtain ⟨rfl, rfl, rfl⟩ := H
          go_wp2_with (first | ((with_reducible refine gate_callee (f := 54) rfl ?_); refine goesL_ (some 21) rfl rfl Try.func54 (by kernel_rfl) rfl #[.string a0, .int .i64 a1, .int .i64 a2] rfl (by (try simp only [List.map_toArray, List.map_cons, List.map_nil]); first | done | rfl | (simp only [List.length_drop, List.length_take]; rfl)) ?_; (with_reducible refine (wire_number.calls kj3 a0 a1 a2 t104 t105 t106 _ A7.out).mono ?_); rintro e w' ⟨rfl, ⟨nd, rfl⟩⟩; refine ⟨_, rfl, ?_⟩))
          go_ret3
          exact ⟨by first | rfl | (simp; done) | (simp [*]; done), by repeat (first | exact Drawn0.refl _ | apply Drawn0.step)⟩
end Go.Proofs.Ytlkebjkpmiehcaa.E
end
section
namespace Go.Proofs.Ytlkebjkpmiehcaa.E
open Go.RowKit Go.Proofs.YtlkebjkpmiehcaaW.PrintWords Go.Proofs.YtlkebjkpmiehcaaW.PrintLast Go.Proofs.YtlkebjkpmiehcaaW.PrintMore
attribute [local go_sem] max2_int min2_int max_two min_two max_three min_three max_four min_four   
set_option linter.unusedVariables false
set_option linter.unusedSimpArgs false
def ext_Get.l0 : Nat → ByteArray → List (S41) → List Int → Bool → Int → Option ((List (S41)) × Int)
  | 0, _, _, _, _, _ => none
  | k + 1, x0, x4, x5, x6, x7 => if x7 < (x0.size : Int) then ((wire_U16.f k x0 x7).bind fun bt110 => (if bt110.2.2 = 0 then ((wire_Vec.f k x0 bt110.2.1 2).bind fun bt113 => (if bt113.2.2 = 0 then (if x6 = true then (if (Lit.int .i64 bt110.1).wf = true then (if x5.length < 140737488355328 then (if x4.length < 5864062014805 then (ext_Get.l0 k x0 (x4 ++ [(⟨bt110.1, bt113.1⟩ : S41)]) (x5 ++ [bt110.1]) true bt113.2.1) else (none)) else (none)) else (none)) else (if (Lit.int .i64 bt110.1).wf = true then (if x5.length < 140737488355328 then (if x4.length < 5864062014805 then (ext_Get.l0 k x0 (x4 ++ [(⟨bt110.1, bt113.1⟩ : S41)]) (x5 ++ [bt110.1]) (decide (bt110.1 ∈ x5)) bt113.2.1) else (none)) else (none)) else (none))) else (some (([] : List (S41)), 1600)))) else (some (([] : List (S41)), 1600)))) else (if x6 = true then (some (([] : List (S41)), 1601)) else (some (x4, 0)))
def ext_Get.f (k : Nat) (a0 : ByteArray) : Option ((List (S41)) × Int) := ext_Get.l0 k a0 ([] : List (S41)) (([] : List Int)) false 0
theorem ext_Get.mono_l : ∀ k, (∀ y0 y1 y2 y3 y4, LeO (ext_Get.l0 k y0 y1 y2 y3 y4) (ext_Get.l0 (k + 1) y0 y1 y2 y3 y4))
  | 0 => fun _ _ _ _ _ r h => by simp [ext_Get.l0] at h
  | k + 1 => by
    have ih0 := ext_Get.mono_l k
    · intro y0 y1 y2 y3 y4
      unfold ext_Get.l0
      repeat' first
      | (with_reducible exact ih0 _ _ _ _ _)
      | (with_reducible exact wire_U16.mono _ _ _)
      | (with_reducible exact wire_Vec.mono _ _ _ _)
      | (with_reducible exact LeO.refl _)
      | (with_reducible exact LeO.none _)
      | (with_reducible refine LeO.ite ?_ ?_)
      | (with_reducible refine LeO.bind ?_ (fun _ => ?_))
      | exact ih0 _ _ _ _ _
      | exact wire_U16.mono _ _ _
      | exact wire_Vec.mono _ _ _ _
      | exact LeO.none _
      | refine LeO.ite ?_ ?_
      | refine LeO.bind ?_ (fun _ => ?_)
theorem ext_Get.mono : ∀ a0 k, LeO (ext_Get.f k a0) (ext_Get.f (k + 1) a0) := by
  intro a0 k
  have ih0 := ext_Get.mono_l k
  unfold ext_Get.f
  repeat' first
      | (with_reducible exact ih0 _ _ _ _ _)
      | (with_reducible exact wire_U16.mono _ _ _)
      | (with_reducible exact wire_Vec.mono _ _ _ _)
      | (with_reducible exact LeO.refl _)
      | (with_reducible exact LeO.none _)
      | (with_reducible refine LeO.ite ?_ ?_)
      | (with_reducible refine LeO.bind ?_ (fun _ => ?_))
      | exact ih0 _ _ _ _ _
      | exact wire_U16.mono _ _ _
      | exact wire_Vec.mono _ _ _ _
      | exact LeO.none _
      | refine LeO.ite ?_ ?_
      | refine LeO.bind ?_ (fun _ => ?_)
set_option maxHeartbeats 8000000 in
set_option maxRecDepth 100000 in
theorem ext_Get.calls (k : Nat) (a0 : ByteArray) (r1 : List (S41)) (r2 : Int) (w : World) (h : ext_Get.f k a0 = some (r1, r2)) :
    Calls Try.prog 12 #[.string a0] w fun e w' => ∃ v0_ : Value, e = .returned (.tuple #[v0_, .int .i64 r2]) ∧ Kd.R k41 41 w' w.heap.size (fun _ => True) v0_ r1 ∧ Below w.heap.size w w' := by
  have hu41 := Try.underlying41
  have HB := Aside0.mk (Below.refl w.heap.size w)
  have H : (ext_Get.l0 k a0 ([] : List (S41)) (([] : List Int)) false 0) = some (r1, r2) := h
  clear h
  obtain ⟨y107, hy107⟩ : ∃ y_ : List Int, y_ = (([] : List Int)) := ⟨_, rfl⟩
  replace H : (ext_Get.l0 k a0 ([] : List (S41)) y107 false 0) = some (r1, r2) := by first | (rw [hy107]; with_reducible exact H) | (have H2_ := (Option.bind_some _ _).symm.trans H; rw [hy107]; with_reducible exact H2_) | (have H2_ := (Option.bind_some _ _).symm.trans H; with_reducible exact H2_) | with_reducible exact H | (rw [hy107]; exact H) | exact H
  have Ny107 := Aside0.mk hy107
  clear hy107
  have H' := Aside0.mk H
  clear H
  go_enter Try.func12, Try.ntmps12
  go_wp2_with (first | ((with_reducible refine gate_dst (N := 12) rfl ?_); refine Kd.Y_make (Kd.int .i64) 3 rfl (N := 12) rfl 68 rfl (ok := fun _ => True) trivial ?_; intro v108 w2 ho3 hb; rw [← Ny107.out] at ho3; have n0_ := Aside0.mk (Kd.Y_lower ho3 (below_size (by repeat (first | (with_reducible first | exact HB.out | apply below_alloc | apply pw_below_drewN | apply below_drew1) | exact HB.out)))); have n1_ := Aside0.mk (below_step (by repeat (first | (with_reducible first | exact HB.out | apply below_alloc | apply pw_below_drewN | apply below_drew1) | exact HB.out)) hb); clear HB; have HO109 := n0_; have HB := n1_; clear n0_ n1_; clear hb ho3))
  go_loopg [4, 6, 7] k (fun kq v4 v6 v7 w' => ∃ (x4_1 : List (S41)) (x5_1 : List Int) (x6_1 : Bool) (x7_1 : Int), v6 = .bool x6_1 ∧ v7 = .int .i64 x7_1 ∧ Aside0 (ext_Get.l0 kq a0 x4_1 x5_1 x6_1 x7_1 = some (r1, r2)) ∧ Aside0 (kq ≤ k) ∧ Aside0 (Kd.R k41 41 w' w.heap.size (fun _ => True) v4 x4_1) ∧ Aside0 (Kd.Y (Kd.int .i64) 3 w' w.heap.size (fun _ => True) v108 x5_1) ∧ Aside0 (Below w.heap.size w w'))
  case atStart => exact ⟨(([] : List (S41))), (y107), (false), (0), (by first | rfl | (simp; done) | (simp [*]; done)), (by first | rfl | (simp; done) | (simp [*]; done)), H', ⟨Nat.le_refl _⟩, ⟨by first | exact Kd.R_nil _ _ _ _ _ | exact Kd.N_nil _ _ _ _ _ | exact Kd.V_nil _ _ _ _ _ | exact Kd.Q_nil _ _ _ _ _ | exact Kd.S_nil _ _ _ _ _⟩, ⟨by (with_reducible repeat (first | apply Kd.Y_alloc | apply Kd.Y_drewN | apply Kd.Y_drew)); exact HO109.out⟩, ⟨by repeat (first | (with_reducible first | exact HB.out | apply below_alloc | apply pw_below_drewN | apply below_drew1) | exact HB.out)⟩⟩
  case round =>
    clear H'
    try clear c1
    try clear p2
    obtain ⟨x4_1, x5_1, x6_1, x7_1, rfl, rfl, HA, HK1, HO_4, HO_5, HB⟩ := hrel
    cases gk with
    | zero => exact absurd HA.out (by simp [ext_Get.l0])
    | succ k1 =>
      have H := HA.out
      clear HA
      simp only [ext_Get.l0] at H
      by_cases c4 : x7_1 < (a0.size : Int)
      · rw [if_pos c4] at H
        have c4b0 : decide (x7_1 < (a0.size : Int)) = true := decide_eq_true c4
        clear c4
        replace H := Option.bind_eq_some_iff.mp H
        obtain ⟨⟨t110, t111, t112⟩, A50, H⟩ := H
        replace H : (if t112 = 0 then ((wire_Vec.f k1 a0 t111 2).bind fun bt113 => (if bt113.2.2 = 0 then (if x6_1 = true then (if (Lit.int .i64 t110).wf = true then (if x5_1.length < 140737488355328 then (if x4_1.length < 5864062014805 then (ext_Get.l0 k1 a0 (x4_1 ++ [(⟨t110, bt113.1⟩ : S41)]) (x5_1 ++ [t110]) true bt113.2.1) else (none)) else (none)) else (none)) else (if (Lit.int .i64 t110).wf = true then (if x5_1.length < 140737488355328 then (if x4_1.length < 5864062014805 then (ext_Get.l0 k1 a0 (x4_1 ++ [(⟨t110, bt113.1⟩ : S41)]) (x5_1 ++ [t110]) (decide (t110 ∈ x5_1)) bt113.2.1) else (none)) else (none)) else (none))) else (some (([] : List (S41)), 1600)))) else (some (([] : List (S41)), 1600))) = some (r1, r2) := H
        have A5 := Aside0.mk A50
        clear A50
        by_cases c6 : t112 = 0
        · rw [if_pos c6] at H
          have c6b0 : (t112 == 0) = true := beq_iff_eq.mpr c6
          have c6b1 : (t112 != 0) = false := bne_eq_false_iff_eq.mpr c6
          clear c6
          replace H := Option.bind_eq_some_iff.mp H
          obtain ⟨⟨t113, t114, t115⟩, A70, H⟩ := H
          replace H : (if t115 = 0 then (if x6_1 = true then (if (Lit.int .i64 t110).wf = true then (if x5_1.length < 140737488355328 then (if x4_1.length < 5864062014805 then (ext_Get.l0 k1 a0 (x4_1 ++ [(⟨t110, t113⟩ : S41)]) (x5_1 ++ [t110]) true t114) else (none)) else (none)) else (none)) else (if (Lit.int .i64 t110).wf = true then (if x5_1.length < 140737488355328 then (if x4_1.length < 5864062014805 then (ext_Get.l0 k1 a0 (x4_1 ++ [(⟨t110, t113⟩ : S41)]) (x5_1 ++ [t110]) (decide (t110 ∈ x5_1)) t114) else (none)) else (none)) else (none))) else (some (([] : List (S41)), 1600))) = some (r1, r2) := H
          have A7 := Aside0.mk A70
          clear A70
          by_cases c8 : t115 = 0
          · rw [if_pos c8] at H
            have c8b0 : (t115 == 0) = true := beq_iff_eq.mpr c8
            have c8b1 : (t115 != 0) = false := bne_eq_false_iff_eq.mpr c8
            clear c8
            by_cases c9 : x6_1 = true
            · subst c9
              have H1 : (if (Lit.int .i64 t110).wf = true then (if x5_1.length < 140737488355328 then (if x4_1.length < 5864062014805 then (ext_Get.l0 k1 a0 (x4_1 ++ [(⟨t110, t113⟩ : S41)]) (x5_1 ++ [t110]) true t114) else (none)) else (none)) else (none)) = some (r1, r2) := by rw [if_pos rfl] at H; exact H
              clear H
              have H := H1
              clear H1
              by_cases c10 : (Lit.int .i64 t110).wf = true
              · rw [if_pos c10] at H
                have LMc10 := Aside0.mk c10
                clear c10
                by_cases c11 : x5_1.length < 140737488355328
                · rw [if_pos c11] at H
                  have LMc11 := Aside0.mk c11
                  clear c11
                  obtain ⟨y116, hy116⟩ : ∃ y_ : List Int, y_ = (x5_1 ++ [t110]) := ⟨_, rfl⟩
                  replace H : (if x4_1.length < 5864062014805 then (ext_Get.l0 k1 a0 (x4_1 ++ [(⟨t110, t113⟩ : S41)]) y116 true t114) else (none)) = some (r1, r2) := by first | (rw [hy116]; with_reducible exact H) | (have H2_ := (Option.bind_some _ _).symm.trans H; rw [hy116]; with_reducible exact H2_) | (have H2_ := (Option.bind_some _ _).symm.trans H; with_reducible exact H2_) | with_reducible exact H | (rw [hy116]; exact H) | exact H
                  have Ny116 := Aside0.mk hy116
                  clear hy116
                  by_cases c12 : x4_1.length < 5864062014805
                  · rw [if_pos c12] at H
                    have LMc12 := Aside0.mk c12
                    clear c12
                    obtain ⟨y119, hy119⟩ : ∃ y_ : List (S41), y_ = (x4_1 ++ [(⟨t110, t113⟩ : S41)]) := ⟨_, rfl⟩
                    replace H : (ext_Get.l0 k1 a0 y119 y116 true t114) = some (r1, r2) := by first | (rw [hy119]; with_reducible exact H) | (have H2_ := (Option.bind_some _ _).symm.trans H; rw [hy119]; with_reducible exact H2_) | (have H2_ := (Option.bind_some _ _).symm.trans H; with_reducible exact H2_) | with_reducible exact H | (rw [hy119]; exact H) | exact H
                    have Ny119 := Aside0.mk hy119
                    clear hy119
                    have H' := Aside0.mk H
                    clear H
                    go_wp2_with (first | ((with_reducible refine gate_callee (f := 33) rfl ?_); refine goesL_ (some 20) rfl rfl Try.func33 (by kernel_rfl) rfl #[.string a0, .int .i64 x7_1] rfl (by (try simp only [List.map_toArray, List.map_cons, List.map_nil]); first | done | rfl | (simp only [List.length_drop, List.length_take]; rfl)) ?_; (with_reducible refine (wire_U16.calls k1 a0 x7_1 t110 t111 t112 _ A5.out).mono ?_); rintro e w' ⟨rfl, ⟨nd, rfl⟩⟩; refine ⟨_, rfl, ?_⟩) | ((with_reducible refine gate_callee (f := 34) rfl ?_); refine goesL_ (some 29) rfl rfl Try.func34 (by kernel_rfl) rfl #[.string a0, .int .i64 t111, .int .i64 2] rfl (by (try simp only [List.map_toArray, List.map_cons, List.map_nil]); first | done | rfl | (simp only [List.length_drop, List.length_take]; rfl)) ?_; (with_reducible refine (wire_Vec.calls k1 a0 t111 2 t113 t114 t115 _ A7.out).mono ?_); rintro e w' ⟨rfl, ⟨nd, rfl⟩⟩; refine ⟨_, rfl, ?_⟩) | (at_mapUpdate; refine Kd.Y_put (Kd.int .i64) (w0 := w) w.heap.size 3 rfl 68 _ _ _ rfl Try.underlying68 Try.underlying3 Try.underlying4 v108 x5_1 t110 (ok := fun _ => True) rfl rfl rfl LMc10.out (by have := LMc11.out; simp only [maxLen]; omega) ?aO ?aB ?aS ?_; (case aO => exact (by (with_reducible repeat (first | apply Kd.Y_alloc | apply Kd.Y_drewN | apply Kd.Y_drew)); exact HO_5.out)); (case aB => exact (by repeat (first | (with_reducible first | exact HB.out | apply below_alloc | apply pw_below_drewN | apply below_drew1) | exact HB.out))); (case aS => exact (below_size (by repeat (first | (with_reducible first | exact HB.out | apply below_alloc | apply pw_below_drewN | apply below_drew1) | exact HB.out)))); intro w13 ho hb hmt; rw [← Ny116.out] at ho; have n0_ := Aside0.mk (Kd.R_map (by (with_reducible repeat (first | apply Kd.R_alloc | apply Kd.R_drewN | apply Kd.R_drew)); exact HO_4.out) hmt); have n1_ := Aside0.mk (hb); have n2_ := Aside0.mk (ho); clear HO_4; clear HB; clear HO_5; have HO_4 := n0_; have HB := n1_; have HO118 := n2_; clear n0_ n1_ n2_; clear ho hb hmt) | ((with_reducible refine gate_builtin (b := .append) (xs := #[.tmp 43, .tmp 47]) rfl ?_); at_builtin; refine Kd.R_append k41 (w0 := w) w.heap.size rfl (.tmp 43) (.tmp 47) 22 41 (.agg #[(.int .i64 0), (.string ⟨#[]⟩)]) 24 rfl Try.underlying22 info41 rfl (by decide) (by omega) u4 x4_1 (⟨t110, t113⟩ : S41) [.int .i64 t110, .string t113] (fun _ => True) (fun _ => False) rfl rfl ?aP (fun _ hk => hk.elim) ?aF ?aO ?aB ?aS ?aL ?_; (case aP => exact k41_mkM _ _ _ (⟨t110, t113⟩ : S41)); (case aB => exact (by repeat (first | (with_reducible first | exact HB.out | apply below_alloc | apply pw_below_drewN | apply below_drew1) | exact HB.out))); (case aF => exact (fun _ _ => trivial)); (case aO => exact (by (with_reducible repeat (first | apply Kd.R_alloc | apply Kd.R_drewN | apply Kd.R_drew)); exact HO_4.out)); (case aS => exact (below_size (by repeat (first | (with_reducible first | exact HB.out | apply below_alloc | apply pw_below_drewN | apply below_drew1) | exact HB.out)))); (case aL => have := LMc12.out; omega); intro v120 w14 ho hb hg hat; rw [← Ny119.out] at ho; have n0_ := Aside0.mk (Kd.Y_over' (by (with_reducible repeat (first | apply Kd.Y_alloc | apply Kd.Y_drewN | apply Kd.Y_drew)); exact HO118.out) (Kd.R_typed (by (with_reducible repeat (first | apply Kd.R_alloc | apply Kd.R_drewN | apply Kd.R_drew)); exact HO_4.out)) (by decide) hg); have n1_ := Aside0.mk (hb); have n2_ := Aside0.mk (ho); clear HO118; clear HB; clear HO_4; have HO118 := n0_; have HB := n1_; have HO121 := n2_; clear n0_ n1_ n2_; clear ho hb hg hat))
                    go_roundg k1
                    case measure => have := HK1.out; omega
                    case rel => exact ⟨(y119), (y116), (true), (t114), (by first | rfl | (simp; done) | (simp [*]; done)), (by first | rfl | (simp; done) | (simp [*]; done)), H', ⟨by have := HK1.out; omega⟩, ⟨by (with_reducible repeat (first | apply Kd.R_alloc | apply Kd.R_drewN | apply Kd.R_drew)); exact HO121.out⟩, ⟨by (with_reducible repeat (first | apply Kd.Y_alloc | apply Kd.Y_drewN | apply Kd.Y_drew)); exact HO118.out⟩, ⟨by repeat (first | (with_reducible first | exact HB.out | apply below_alloc | apply pw_below_drewN | apply below_drew1) | exact HB.out)⟩⟩
                  · rw [if_neg c12] at H
                    exact absurd H (by simp)
                · rw [if_neg c11] at H
                  exact absurd H (by simp)
              · rw [if_neg c10] at H
                exact absurd H (by simp)
            · replace c9 := Bool.eq_false_iff.mpr c9
              subst c9
              have H1 : (if (Lit.int .i64 t110).wf = true then (if x5_1.length < 140737488355328 then (if x4_1.length < 5864062014805 then (ext_Get.l0 k1 a0 (x4_1 ++ [(⟨t110, t113⟩ : S41)]) (x5_1 ++ [t110]) (decide (t110 ∈ x5_1)) t114) else (none)) else (none)) else (none)) = some (r1, r2) := by rw [if_neg (show ¬ (false = true) by decide)] at H; exact H
              clear H
              have H := H1
              clear H1
              by_cases c15 : (Lit.int .i64 t110).wf = true
              · rw [if_pos c15] at H
                have LMc15 := Aside0.mk c15
                clear c15
                by_cases c16 : x5_1.length < 140737488355328
                · rw [if_pos c16] at H
                  have LMc16 := Aside0.mk c16
                  clear c16
                  obtain ⟨y122, hy122⟩ : ∃ y_ : List Int, y_ = (x5_1 ++ [t110]) := ⟨_, rfl⟩
                  replace H : (if x4_1.length < 5864062014805 then (ext_Get.l0 k1 a0 (x4_1 ++ [(⟨t110, t113⟩ : S41)]) y122 (decide (t110 ∈ x5_1)) t114) else (none)) = some (r1, r2) := by first | (rw [hy122]; with_reducible exact H) | (have H2_ := (Option.bind_some _ _).symm.trans H; rw [hy122]; with_reducible exact H2_) | (have H2_ := (Option.bind_some _ _).symm.trans H; with_reducible exact H2_) | with_reducible exact H | (rw [hy122]; exact H) | exact H
                  have Ny122 := Aside0.mk hy122
                  clear hy122
                  by_cases c17 : x4_1.length < 5864062014805
                  · rw [if_pos c17] at H
                    have LMc17 := Aside0.mk c17
                    clear c17
                    obtain ⟨y125, hy125⟩ : ∃ y_ : List (S41), y_ = (x4_1 ++ [(⟨t110, t113⟩ : S41)]) := ⟨_, rfl⟩
                    replace H : (ext_Get.l0 k1 a0 y125 y122 (decide (t110 ∈ x5_1)) t114) = some (r1, r2) := by first | (rw [hy125]; with_reducible exact H) | (have H2_ := (Option.bind_some _ _).symm.trans H; rw [hy125]; with_reducible exact H2_) | (have H2_ := (Option.bind_some _ _).symm.trans H; with_reducible exact H2_) | with_reducible exact H | (rw [hy125]; exact H) | exact H
                    have Ny125 := Aside0.mk hy125
                    clear hy125
                    have H' := Aside0.mk H
                    clear H
                    go_wp2_with (first | ((with_reducible refine gate_callee (f := 33) rfl ?_); refine goesL_ (some 20) rfl rfl Try.func33 (by kernel_rfl) rfl #[.string a0, .int .i64 x7_1] rfl (by (try simp only [List.map_toArray, List.map_cons, List.map_nil]); first | done | rfl | (simp only [List.length_drop, List.length_take]; rfl)) ?_; (with_reducible refine (wire_U16.calls k1 a0 x7_1 t110 t111 t112 _ A5.out).mono ?_); rintro e w' ⟨rfl, ⟨nd, rfl⟩⟩; refine ⟨_, rfl, ?_⟩) | ((with_reducible refine gate_callee (f := 34) rfl ?_); refine goesL_ (some 29) rfl rfl Try.func34 (by kernel_rfl) rfl #[.string a0, .int .i64 t111, .int .i64 2] rfl (by (try simp only [List.map_toArray, List.map_cons, List.map_nil]); first | done | rfl | (simp only [List.length_drop, List.length_take]; rfl)) ?_; (with_reducible refine (wire_Vec.calls k1 a0 t111 2 t113 t114 t115 _ A7.out).mono ?_); rintro e w' ⟨rfl, ⟨nd, rfl⟩⟩; refine ⟨_, rfl, ?_⟩) | (at_lookup; (try (refine gate_guard (by rfl) ?_; dsimp only)); refine Kd.Y_look (Kd.int .i64) (ok := fun _ => True) (base := w.heap.size) (xs := x5_1) 3 rfl 68 _ _ rfl Try.underlying68 Try.underlying3 Try.underlying4 (Kd.zeroB _) (v := v108) (k := t110) rfl rfl LMc15.out ?aO ?_; (case aO => exact (by (with_reducible repeat (first | apply Kd.Y_alloc | apply Kd.Y_drewN | apply Kd.Y_drew)); exact HO_5.out)); intro w18 hb; have n0_ := Aside0.mk (Kd.R_below (by (with_reducible repeat (first | apply Kd.R_alloc | apply Kd.R_drewN | apply Kd.R_drew)); exact HO_4.out) hb); have n1_ := Aside0.mk (Kd.Y_below (by (with_reducible repeat (first | apply Kd.Y_alloc | apply Kd.Y_drewN | apply Kd.Y_drew)); exact HO_5.out) hb); have n2_ := Aside0.mk (below_step (by repeat (first | (with_reducible first | exact HB.out | apply below_alloc | apply pw_below_drewN | apply below_drew1) | exact HB.out)) hb); clear HO_4; clear HO_5; clear HB; have HO_4 := n0_; have HO_5 := n1_; have HB := n2_; clear n0_ n1_ n2_; clear hb) | (at_mapUpdate; refine Kd.Y_put (Kd.int .i64) (w0 := w) w.heap.size 3 rfl 68 _ _ _ rfl Try.underlying68 Try.underlying3 Try.underlying4 v108 x5_1 t110 (ok := fun _ => True) rfl rfl rfl LMc15.out (by have := LMc16.out; simp only [maxLen]; omega) ?aO ?aB ?aS ?_; (case aO => exact (by (with_reducible repeat (first | apply Kd.Y_alloc | apply Kd.Y_drewN | apply Kd.Y_drew)); exact HO_5.out)); (case aB => exact (by repeat (first | (with_reducible first | exact HB.out | apply below_alloc | apply pw_below_drewN | apply below_drew1) | exact HB.out))); (case aS => exact (below_size (by repeat (first | (with_reducible first | exact HB.out | apply below_alloc | apply pw_below_drewN | apply below_drew1) | exact HB.out)))); intro w19 ho hb hmt; rw [← Ny122.out] at ho; have n0_ := Aside0.mk (Kd.R_map (by (with_reducible repeat (first | apply Kd.R_alloc | apply Kd.R_drewN | apply Kd.R_drew)); exact HO_4.out) hmt); have n1_ := Aside0.mk (hb); have n2_ := Aside0.mk (ho); clear HO_4; clear HB; clear HO_5; have HO_4 := n0_; have HB := n1_; have HO124 := n2_; clear n0_ n1_ n2_; clear ho hb hmt) | ((with_reducible refine gate_builtin (b := .append) (xs := #[.tmp 43, .tmp 47]) rfl ?_); at_builtin; refine Kd.R_append k41 (w0 := w) w.heap.size rfl (.tmp 43) (.tmp 47) 22 41 (.agg #[(.int .i64 0), (.string ⟨#[]⟩)]) 24 rfl Try.underlying22 info41 rfl (by decide) (by omega) u4 x4_1 (⟨t110, t113⟩ : S41) [.int .i64 t110, .string t113] (fun _ => True) (fun _ => False) rfl rfl ?aP (fun _ hk => hk.elim) ?aF ?aO ?aB ?aS ?aL ?_; (case aP => exact k41_mkM _ _ _ (⟨t110, t113⟩ : S41)); (case aB => exact (by repeat (first | (with_reducible first | exact HB.out | apply below_alloc | apply pw_below_drewN | apply below_drew1) | exact HB.out))); (case aF => exact (fun _ _ => trivial)); (case aO => exact (by (with_reducible repeat (first | apply Kd.R_alloc | apply Kd.R_drewN | apply Kd.R_drew)); exact HO_4.out)); (case aS => exact (below_size (by repeat (first | (with_reducible first | exact HB.out | apply below_alloc | apply pw_below_drewN | apply below_drew1) | exact HB.out)))); (case aL => have := LMc17.out; omega); intro v126 w20 ho hb hg hat; rw [← Ny125.out] at ho; have n0_ := Aside0.mk (Kd.Y_over' (by (with_reducible repeat (first | apply Kd.Y_alloc | apply Kd.Y_drewN | apply Kd.Y_drew)); exact HO124.out) (Kd.R_typed (by (with_reducible repeat (first | apply Kd.R_alloc | apply Kd.R_drewN | apply Kd.R_drew)); exact HO_4.out)) (by decide) hg); have n1_ := Aside0.mk (hb); have n2_ := Aside0.mk (ho); clear HO124; clear HB; clear HO_4; have HO124 := n0_; have HB := n1_; have HO127 := n2_; clear n0_ n1_ n2_; clear ho hb hg hat))
                    go_roundg k1
                    case measure => have := HK1.out; omega
                    case rel => exact ⟨(y125), (y122), (decide (t110 ∈ x5_1)), (t114), (by first | rfl | (simp; done) | (simp [*]; done)), (by first | rfl | (simp; done) | (simp [*]; done)), H', ⟨by have := HK1.out; omega⟩, ⟨by (with_reducible repeat (first | apply Kd.R_alloc | apply Kd.R_drewN | apply Kd.R_drew)); exact HO127.out⟩, ⟨by (with_reducible repeat (first | apply Kd.Y_alloc | apply Kd.Y_drewN | apply Kd.Y_drew)); exact HO124.out⟩, ⟨by repeat (first | (with_reducible first | exact HB.out | apply below_alloc | apply pw_below_drewN | apply below_drew1) | exact HB.out)⟩⟩
                  · rw [if_neg c17] at H
                    exact absurd H (by simp)
                · rw [if_neg c16] at H
                  exact absurd H (by simp)
              · rw [if_neg c15] at H
                exact absurd H (by simp)
          · rw [if_neg c8] at H
            have c8b0 : (t115 == 0) = false := beq_eq_false_iff_ne.mpr c8
            have c8b1 : (t115 != 0) = true := bne_iff_ne.mpr c8
            simp only [Option.some.injEq, Prod.mk.injEq] at H
            obtain ⟨rfl, rfl⟩ := H
            go_wp2_with (first | ((with_reducible refine gate_callee (f := 33) rfl ?_); refine goesL_ (some 20) rfl rfl Try.func33 (by kernel_rfl) rfl #[.string a0, .int .i64 x7_1] rfl (by (try simp only [List.map_toArray, List.map_cons, List.map_nil]); first | done | rfl | (simp only [List.length_drop, List.length_take]; rfl)) ?_; (with_reducible refine (wire_U16.calls k1 a0 x7_1 t110 t111 t112 _ A5.out).mono ?_); rintro e w' ⟨rfl, ⟨nd, rfl⟩⟩; refine ⟨_, rfl, ?_⟩) | ((with_reducible refine gate_callee (f := 34) rfl ?_); refine goesL_ (some 29) rfl rfl Try.func34 (by kernel_rfl) rfl #[.string a0, .int .i64 t111, .int .i64 2] rfl (by (try simp only [List.map_toArray, List.map_cons, List.map_nil]); first | done | rfl | (simp only [List.length_drop, List.length_take]; rfl)) ?_; (with_reducible refine (wire_Vec.calls k1 a0 t111 2 t113 t114 t115 _ A7.out).mono ?_); rintro e w' ⟨rfl, ⟨nd, rfl⟩⟩; refine ⟨_, rfl, ?_⟩))
            go_ret2
            exact ⟨_, by first | rfl | (simp [errW_none, errW_some] <;> rfl) | (simp [*, errW_none, errW_some] <;> rfl), by first | exact Kd.R_nil _ _ _ _ _ | exact Kd.N_nil _ _ _ _ _ | exact Kd.V_nil _ _ _ _ _ | exact Kd.Q_nil _ _ _ _ _ | exact Kd.S_nil _ _ _ _ _, by repeat (first | (with_reducible first | exact HB.out | apply below_alloc | apply pw_below_drewN | apply below_drew1) | exact HB.out)⟩
        · rw [if_neg c6] at H
          have c6b0 : (t112 == 0) = false := beq_eq_false_iff_ne.mpr c6
          have c6b1 : (t112 != 0) = true := bne_iff_ne.mpr c6
          simp only [Option.some.injEq, Prod.mk.injEq] at H
          obtain ⟨rfl, rfl⟩ := H
          go_wp2_with (first | ((with_reducible refine gate_callee (f := 33) rfl ?_); refine goesL_ (some 20) rfl rfl Try.func33 (by kernel_rfl) rfl #[.string a0, .int .i64 x7_1] rfl (by (try simp only [List.map_toArray, List.map_cons, List.map_nil]); first | done | rfl | (simp only [List.length_drop, List.length_take]; rfl)) ?_; (with_reducible refine (wire_U16.calls k1 a0 x7_1 t110 t111 t112 _ A5.out).mono ?_); rintro e w' ⟨rfl, ⟨nd, rfl⟩⟩; refine ⟨_, rfl, ?_⟩))
          go_ret2
          exact ⟨_, by first | rfl | (simp [errW_none, errW_some] <;> rfl) | (simp [*, errW_none, errW_some] <;> rfl), by first | exact Kd.R_nil _ _ _ _ _ | exact Kd.N_nil _ _ _ _ _ | exact Kd.V_nil _ _ _ _ _ | exact Kd.Q_nil _ _ _ _ _ | exact Kd.S_nil _ _ _ _ _, by repeat (first | (with_reducible first | exact HB.out | apply below_alloc | apply pw_below_drewN | apply below_drew1) | exact HB.out)⟩
      · rw [if_neg c4] at H
        have c4b0 : decide (x7_1 < (a0.size : Int)) = false := decide_eq_false c4
        clear c4
        by_cases c21 : x6_1 = true
        · subst c21
          have H1 : (some (([] : List (S41)), 1601)) = some (r1, r2) := by rw [if_pos rfl] at H; exact H
          clear H
          have H := H1
          clear H1
          simp only [Option.some.injEq, Prod.mk.injEq] at H
          obtain ⟨rfl, rfl⟩ := H
          go_wp2
          go_ret2
          exact ⟨_, by first | rfl | (simp [errW_none, errW_some] <;> rfl) | (simp [*, errW_none, errW_some] <;> rfl), by first | exact Kd.R_nil _ _ _ _ _ | exact Kd.N_nil _ _ _ _ _ | exact Kd.V_nil _ _ _ _ _ | exact Kd.Q_nil _ _ _ _ _ | exact Kd.S_nil _ _ _ _ _, by repeat (first | (with_reducible first | exact HB.out | apply below_alloc | apply pw_below_drewN | apply below_drew1) | exact HB.out)⟩
        · replace c21 := Bool.eq_false_iff.mpr c21
          subst c21
          have H1 : (some (x4_1, 0)) = some (r1, r2) := by rw [if_neg (show ¬ (false = true) by decide)] at H; exact H
          clear H
          have H := H1
          clear H1
          simp only [Option.some.injEq, Prod.mk.injEq] at H
          obtain ⟨rfl, rfl⟩ := H
          go_wp2
          go_ret2
          exact ⟨_, by first | rfl | (simp [errW_none, errW_some] <;> rfl) | (simp [*, errW_none, errW_some] <;> rfl), by (with_reducible repeat (first | apply Kd.R_alloc | apply Kd.R_drewN | apply Kd.R_drew)); exact HO_4.out, by repeat (first | (with_reducible first | exact HB.out | apply below_alloc | apply pw_below_drewN | apply below_drew1) | exact HB.out)⟩
def wire_Bytes.f (a0 : Int) (a1 : Int) : Option (ByteArray) := if a1 = 4 then (if ([] : List Int).length < 140737488355328 then ((some (([] : List Int) ++ [(a0 / 16777216) % 256] : List Int)).bind fun y128 => (if y128.length < 140737488355328 then ((some (y128 ++ [(a0 / 65536) % 256] : List Int)).bind fun y131 => (if y131.length < 140737488355328 then ((some (y131 ++ [(a0 / 256) % 256] : List Int)).bind fun y134 => (if y134.length < 140737488355328 then (some (strOfNums (y134 ++ [(a0) % 256]))) else (none))) else (none))) else (none))) else (none)) else (if a1 = 3 then (if ([] : List Int).length < 140737488355328 then ((some (([] : List Int) ++ [(a0 / 65536) % 256] : List Int)).bind fun y140 => (if y140.length < 140737488355328 then ((some (y140 ++ [(a0 / 256) % 256] : List Int)).bind fun y143 => (if y143.length < 140737488355328 then (some (strOfNums (y143 ++ [(a0) % 256]))) else (none))) else (none))) else (none)) else (if a1 = 2 then (if ([] : List Int).length < 140737488355328 then ((some (([] : List Int) ++ [(a0 / 256) % 256] : List Int)).bind fun y149 => (if y149.length < 140737488355328 then (some (strOfNums (y149 ++ [(a0) % 256]))) else (none))) else (none)) else (if ([] : List Int).length < 140737488355328 then (some (strOfNums (([] : List Int) ++ [(a0) % 256]))) else (none))))
set_option maxHeartbeats 8000000 in
set_option maxRecDepth 100000 in
theorem wire_Bytes.calls (a0 : Int) (a1 : Int) (r : ByteArray) (w : World) (h : wire_Bytes.f a0 a1 = some r) :
    Calls Try.prog 47 #[.int .i64 a0, .int .i64 a1] w fun e w' => e = .returned (.string r) ∧ Below w.heap.size w w' := by
  have HB := Aside0.mk (Below.refl w.heap.size w)
  have H : (if a1 = 4 then (if ([] : List Int).length < 140737488355328 then ((some (([] : List Int) ++ [(a0 / 16777216) % 256] : List Int)).bind fun y128 => (if y128.length < 140737488355328 then ((some (y128 ++ [(a0 / 65536) % 256] : List Int)).bind fun y131 => (if y131.length < 140737488355328 then ((some (y131 ++ [(a0 / 256) % 256] : List Int)).bind fun y134 => (if y134.length < 140737488355328 then (some (strOfNums (y134 ++ [(a0) % 256]))) else (none))) else (none))) else (none))) else (none)) else (if a1 = 3 then (if ([] : List Int).length < 140737488355328 then ((some (([] : List Int) ++ [(a0 / 65536) % 256] : List Int)).bind fun y140 => (if y140.length < 140737488355328 then ((some (y140 ++ [(a0 / 256) % 256] : List Int)).bind fun y143 => (if y143.length < 140737488355328 then (some (strOfNums (y143 ++ [(a0) % 256]))) else (none))) else (none))) else (none)) else (if a1 = 2 then (if ([] : List Int).length < 140737488355328 then ((some (([] : List Int) ++ [(a0 / 256) % 256] : List Int)).bind fun y149 => (if y149.length < 140737488355328 then (some (strOfNums (y149 ++ [(a0) % 256]))) else (none))) else (none)) else (if ([] : List Int).length < 140737488355328 then (some (strOfNums (([] : List Int) ++ [(a0) % 256]))) else (none))))) = some r := h
  clear h
  by_cases c3 : a1 = 4
  · rw [if_pos c3] at H
    have c3b0 : (a1 == 4) = true := beq_iff_eq.mpr c3
    have c3b1 : (a1 != 4) = false := bne_eq_false_iff_eq.mpr c3
    clear c3
    by_cases c4 : ([] : List Int).length < 140737488355328
    · rw [if_pos c4] at H
      have LMc4 := Aside0.mk c4
      clear c4
      obtain ⟨y128, hy128⟩ : ∃ y_ : List Int, y_ = (([] : List Int) ++ [(a0 / 16777216) % 256]) := ⟨_, rfl⟩
      replace H : (if y128.length < 140737488355328 then ((some (y128 ++ [(a0 / 65536) % 256] : List Int)).bind fun y131 => (if y131.length < 140737488355328 then ((some (y131 ++ [(a0 / 256) % 256] : List Int)).bind fun y134 => (if y134.length < 140737488355328 then (some (strOfNums (y134 ++ [(a0) % 256]))) else (none))) else (none))) else (none)) = some r := by first | (rw [hy128]; with_reducible exact H) | (have H2_ := (Option.bind_some _ _).symm.trans H; rw [hy128]; with_reducible exact H2_) | (have H2_ := (Option.bind_some _ _).symm.trans H; with_reducible exact H2_) | with_reducible exact H | (rw [hy128]; exact H) | exact H
      have Ny128 := Aside0.mk hy128
      clear hy128
      by_cases c5 : y128.length < 140737488355328
      · rw [if_pos c5] at H
        have LMc5 := Aside0.mk c5
        clear c5
        obtain ⟨y131, hy131⟩ : ∃ y_ : List Int, y_ = (y128 ++ [(a0 / 65536) % 256]) := ⟨_, rfl⟩
        replace H : (if y131.length < 140737488355328 then ((some (y131 ++ [(a0 / 256) % 256] : List Int)).bind fun y134 => (if y134.length < 140737488355328 then (some (strOfNums (y134 ++ [(a0) % 256]))) else (none))) else (none)) = some r := by first | (rw [hy131]; with_reducible exact H) | (have H2_ := (Option.bind_some _ _).symm.trans H; rw [hy131]; with_reducible exact H2_) | (have H2_ := (Option.bind_some _ _).symm.trans H; with_reducible exact H2_) | with_reducible exact H | (rw [hy131]; exact H) | exact H
        have Ny131 := Aside0.mk hy131
        clear hy131
        by_cases c6 : y131.length < 140737488355328
        · rw [if_pos c6] at H
          have LMc6 := Aside0.mk c6
          clear c6
          obtain ⟨y134, hy134⟩ : ∃ y_ : List Int, y_ = (y131 ++ [(a0 / 256) % 256]) := ⟨_, rfl⟩
          replace H : (if y134.length < 140737488355328 then (some (strOfNums (y134 ++ [(a0) % 256]))) else (none)) = some r := by first | (rw [hy134]; with_reducible exact H) | (have H2_ := (Option.bind_some _ _).symm.trans H; rw [hy134]; with_reducible exact H2_) | (have H2_ := (Option.bind_some _ _).symm.trans H; with_reducible exact H2_) | with_reducible exact H | (rw [hy134]; exact H) | exact H
          have Ny134 := Aside0.mk hy134
          clear hy134
          by_cases c7 : y134.length < 140737488355328
          · rw [if_pos c7] at H
            have LMc7 := Aside0.mk c7
            clear c7
            obtain ⟨y137, hy137⟩ : ∃ y_ : List Int, y_ = (y134 ++ [(a0) % 256]) := ⟨_, rfl⟩
            replace H : (some (strOfNums y137)) = some r := by first | (rw [hy137]; with_reducible exact H) | (have H2_ := (Option.bind_some _ _).symm.trans H; rw [hy137]; with_reducible exact H2_) | (have H2_ := (Option.bind_some _ _).symm.trans H; with_reducible exact H2_) | with_reducible exact H | (rw [hy137]; exact H) | exact H
            have Ny137 := Aside0.mk hy137
            clear hy137
            obtain rfl := Option.some.inj H
            go_enter Try.func47, Try.ntmps47
            go_wp2_with (first | ((with_reducible refine gate_builtin (b := .append) (xs := #[.tmp 13, .tmp 17]) rfl ?_); at_builtin; refine Kd.R_append (Kd.int .u8) (w0 := w) w.heap.size rfl (.tmp 13) (.tmp 17) 39 5 (.int .u8 0) 1 rfl Try.underlying39 info5 rfl (by decide) (by omega) (.slice none 0 0) ([] : List Int) ((a0 / 16777216) % 256) [.int .u8 ((a0 / 16777216) % 256)] (fun _ => True) (fun _ => False) rfl rfl ?aP (fun _ hk => hk.elim) ?aF ?aO ?aB ?aS ?aL ?_; (case aP => exact rfl); (case aB => exact (by repeat (first | (with_reducible first | exact HB.out | apply below_alloc | apply pw_below_drewN | apply below_drew1) | exact HB.out))); (case aF => exact (fun _ _ => trivial)); (case aO => exact ((Kd.R_nil _ _ _ _ (fun _ => True)))); (case aS => exact (below_size (by repeat (first | (with_reducible first | exact HB.out | apply below_alloc | apply pw_below_drewN | apply below_drew1) | exact HB.out)))); (case aL => have := LMc4.out; omega); intro v129 w8 ho hb hg hat; rw [← Ny128.out] at ho; have n0_ := Aside0.mk (hb); have n1_ := Aside0.mk (ho); clear HB; have HB := n0_; have HO130 := n1_; clear n0_ n1_; clear ho hb hg hat) | ((with_reducible refine gate_builtin (b := .append) (xs := #[.tmp 19, .tmp 23]) rfl ?_); at_builtin; refine Kd.R_append (Kd.int .u8) (w0 := w) w.heap.size rfl (.tmp 19) (.tmp 23) 39 5 (.int .u8 0) 1 rfl Try.underlying39 info5 rfl (by decide) (by omega) v129 y128 ((a0 / 65536) % 256) [.int .u8 ((a0 / 65536) % 256)] (fun _ => True) (fun _ => False) rfl rfl ?aP (fun _ hk => hk.elim) ?aF ?aO ?aB ?aS ?aL ?_; (case aP => exact rfl); (case aB => exact (by repeat (first | (with_reducible first | exact HB.out | apply below_alloc | apply pw_below_drewN | apply below_drew1) | exact HB.out))); (case aF => exact (fun _ _ => trivial)); (case aO => exact (by (with_reducible repeat (first | apply Kd.R_alloc | apply Kd.R_drewN | apply Kd.R_drew)); exact HO130.out)); (case aS => exact (below_size (by repeat (first | (with_reducible first | exact HB.out | apply below_alloc | apply pw_below_drewN | apply below_drew1) | exact HB.out)))); (case aL => have := LMc5.out; omega); intro v132 w9 ho hb hg hat; rw [← Ny131.out] at ho; have n0_ := Aside0.mk (hb); have n1_ := Aside0.mk (ho); clear HB; clear HO130; have HB := n0_; have HO133 := n1_; clear n0_ n1_; clear ho hb hg hat) | ((with_reducible refine gate_builtin (b := .append) (xs := #[.tmp 25, .tmp 29]) rfl ?_); at_builtin; refine Kd.R_append (Kd.int .u8) (w0 := w) w.heap.size rfl (.tmp 25) (.tmp 29) 39 5 (.int .u8 0) 1 rfl Try.underlying39 info5 rfl (by decide) (by omega) v132 y131 ((a0 / 256) % 256) [.int .u8 ((a0 / 256) % 256)] (fun _ => True) (fun _ => False) rfl rfl ?aP (fun _ hk => hk.elim) ?aF ?aO ?aB ?aS ?aL ?_; (case aP => exact rfl); (case aB => exact (by repeat (first | (with_reducible first | exact HB.out | apply below_alloc | apply pw_below_drewN | apply below_drew1) | exact HB.out))); (case aF => exact (fun _ _ => trivial)); (case aO => exact (by (with_reducible repeat (first | apply Kd.R_alloc | apply Kd.R_drewN | apply Kd.R_drew)); exact HO133.out)); (case aS => exact (below_size (by repeat (first | (with_reducible first | exact HB.out | apply below_alloc | apply pw_below_drewN | apply below_drew1) | exact HB.out)))); (case aL => have := LMc6.out; omega); intro v135 w10 ho hb hg hat; rw [← Ny134.out] at ho; have n0_ := Aside0.mk (hb); have n1_ := Aside0.mk (ho); clear HB; clear HO133; have HB := n0_; have HO136 := n1_; clear n0_ n1_; clear ho hb hg hat) | ((with_reducible refine gate_builtin (b := .append) (xs := #[.tmp 31, .tmp 34]) rfl ?_); at_builtin; refine Kd.R_append (Kd.int .u8) (w0 := w) w.heap.size rfl (.tmp 31) (.tmp 34) 39 5 (.int .u8 0) 1 rfl Try.underlying39 info5 rfl (by decide) (by omega) v135 y134 ((a0) % 256) [.int .u8 ((a0) % 256)] (fun _ => True) (fun _ => False) rfl rfl ?aP (fun _ hk => hk.elim) ?aF ?aO ?aB ?aS ?aL ?_; (case aP => exact rfl); (case aB => exact (by repeat (first | (with_reducible first | exact HB.out | apply below_alloc | apply pw_below_drewN | apply below_drew1) | exact HB.out))); (case aF => exact (fun _ _ => trivial)); (case aO => exact (by (with_reducible repeat (first | apply Kd.R_alloc | apply Kd.R_drewN | apply Kd.R_drew)); exact HO136.out)); (case aS => exact (below_size (by repeat (first | (with_reducible first | exact HB.out | apply below_alloc | apply pw_below_drewN | apply below_drew1) | exact HB.out)))); (case aL => have := LMc7.out; omega); intro v138 w11 ho hb hg hat; rw [← Ny137.out] at ho; have n0_ := Aside0.mk (hb); have n1_ := Aside0.mk (ho); clear HB; clear HO136; have HB := n0_; have HO139 := n1_; clear n0_ n1_; clear ho hb hg hat; have hcv12 := own_string (P := Try.prog) Try.underlying39 Try.underlying5 Try.underlying9 (Kd.own_of_R HO139.out)))
            go_ret
            exact ⟨by first | rfl | (simp [errW_none, errW_some] <;> rfl) | (simp [*, errW_none, errW_some] <;> rfl), by repeat (first | (with_reducible first | exact HB.out | apply below_alloc | apply pw_below_drewN | apply below_drew1) | exact HB.out)⟩
          · rw [if_neg c7] at H
            exact absurd H (by simp)
        · rw [if_neg c6] at H
          exact absurd H (by simp)
      · rw [if_neg c5] at H
        exact absurd H (by simp)
    · rw [if_neg c4] at H
      exact absurd H (by simp)
  · rw [if_neg c3] at H
    have c3b0 : (a1 == 4) = false := beq_eq_false_iff_ne.mpr c3
    have c3b1 : (a1 != 4) = true := bne_iff_ne.mpr c3
    by_cases c13 : a1 = 3
    · rw [if_pos c13] at H
      have c13b0 : (a1 == 3) = true := beq_iff_eq.mpr c13
      have c13b1 : (a1 != 3) = false := bne_eq_false_iff_eq.mpr c13
      clear c13
      by_cases c14 : ([] : List Int).length < 140737488355328
      · rw [if_pos c14] at H
        have LMc14 := Aside0.mk c14
        clear c14
        obtain ⟨y140, hy140⟩ : ∃ y_ : List Int, y_ = (([] : List Int) ++ [(a0 / 65536) % 256]) := ⟨_, rfl⟩
        replace H : (if y140.length < 140737488355328 then ((some (y140 ++ [(a0 / 256) % 256] : List Int)).bind fun y143 => (if y143.length < 140737488355328 then (some (strOfNums (y143 ++ [(a0) % 256]))) else (none))) else (none)) = some r := by first | (rw [hy140]; with_reducible exact H) | (have H2_ := (Option.bind_some _ _).symm.trans H; rw [hy140]; with_reducible exact H2_) | (have H2_ := (Option.bind_some _ _).symm.trans H; with_reducible exact H2_) | with_reducible exact H | (rw [hy140]; exact H) | exact H
        have Ny140 := Aside0.mk hy140
        clear hy140
        by_cases c15 : y140.length < 140737488355328
        · rw [if_pos c15] at H
          have LMc15 := Aside0.mk c15
          clear c15
          obtain ⟨y143, hy143⟩ : ∃ y_ : List Int, y_ = (y140 ++ [(a0 / 256) % 256]) := ⟨_, rfl⟩
          replace H : (if y143.length < 140737488355328 then (some (strOfNums (y143 ++ [(a0) % 256]))) else (none)) = some r := by first | (rw [hy143]; with_reducible exact H) | (have H2_ := (Option.bind_some _ _).symm.trans H; rw [hy143]; with_reducible exact H2_) | (have H2_ := (Option.bind_some _ _).symm.trans H; with_reducible exact H2_) | with_reducible exact H | (rw [hy143]; exact H) | exact H
          have Ny143 := Aside0.mk hy143
          clear hy143
          by_cases c16 : y143.length < 140737488355328
          · rw [if_pos c16] at H
            have LMc16 := Aside0.mk c16
            clear c16
            obtain ⟨y146, hy146⟩ : ∃ y_ : List Int, y_ = (y143 ++ [(a0) % 256]) := ⟨_, rfl⟩
            replace H : (some (strOfNums y146)) = some r := by first | (rw [hy146]; with_reducible exact H) | (have H2_ := (Option.bind_some _ _).symm.trans H; rw [hy146]; with_reducible exact H2_) | (have H2_ := (Option.bind_some _ _).symm.trans H; with_reducible exact H2_) | with_reducible exact H | (rw [hy146]; exact H) | exact H
            have Ny146 := Aside0.mk hy146
            clear hy146
            obtain rfl := Option.some.inj H
            go_enter Try.func47, Try.ntmps47
            go_wp2_with (first | ((with_reducible refine gate_builtin (b := .append) (xs := #[.tmp 19, .tmp 23]) rfl ?_); at_builtin; refine Kd.R_append (Kd.int .u8) (w0 := w) w.heap.size rfl (.tmp 19) (.tmp 23) 39 5 (.int .u8 0) 1 rfl Try.underlying39 info5 rfl (by decide) (by omega) (.slice none 0 0) ([] : List Int) ((a0 / 65536) % 256) [.int .u8 ((a0 / 65536) % 256)] (fun _ => True) (fun _ => False) rfl rfl ?aP (fun _ hk => hk.elim) ?aF ?aO ?aB ?aS ?aL ?_; (case aP => exact rfl); (case aB => exact (by repeat (first | (with_reducible first | exact HB.out | apply below_alloc | apply pw_below_drewN | apply below_drew1) | exact HB.out))); (case aF => exact (fun _ _ => trivial)); (case aO => exact ((Kd.R_nil _ _ _ _ (fun _ => True)))); (case aS => exact (below_size (by repeat (first | (with_reducible first | exact HB.out | apply below_alloc | apply pw_below_drewN | apply below_drew1) | exact HB.out)))); (case aL => have := LMc14.out; omega); intro v141 w17 ho hb hg hat; rw [← Ny140.out] at ho; have n0_ := Aside0.mk (hb); have n1_ := Aside0.mk (ho); clear HB; have HB := n0_; have HO142 := n1_; clear n0_ n1_; clear ho hb hg hat) | ((with_reducible refine gate_builtin (b := .append) (xs := #[.tmp 25, .tmp 29]) rfl ?_); at_builtin; refine Kd.R_append (Kd.int .u8) (w0 := w) w.heap.size rfl (.tmp 25) (.tmp 29) 39 5 (.int .u8 0) 1 rfl Try.underlying39 info5 rfl (by decide) (by omega) v141 y140 ((a0 / 256) % 256) [.int .u8 ((a0 / 256) % 256)] (fun _ => True) (fun _ => False) rfl rfl ?aP (fun _ hk => hk.elim) ?aF ?aO ?aB ?aS ?aL ?_; (case aP => exact rfl); (case aB => exact (by repeat (first | (with_reducible first | exact HB.out | apply below_alloc | apply pw_below_drewN | apply below_drew1) | exact HB.out))); (case aF => exact (fun _ _ => trivial)); (case aO => exact (by (with_reducible repeat (first | apply Kd.R_alloc | apply Kd.R_drewN | apply Kd.R_drew)); exact HO142.out)); (case aS => exact (below_size (by repeat (first | (with_reducible first | exact HB.out | apply below_alloc | apply pw_below_drewN | apply below_drew1) | exact HB.out)))); (case aL => have := LMc15.out; omega); intro v144 w18 ho hb hg hat; rw [← Ny143.out] at ho; have n0_ := Aside0.mk (hb); have n1_ := Aside0.mk (ho); clear HB; clear HO142; have HB := n0_; have HO145 := n1_; clear n0_ n1_; clear ho hb hg hat) | ((with_reducible refine gate_builtin (b := .append) (xs := #[.tmp 31, .tmp 34]) rfl ?_); at_builtin; refine Kd.R_append (Kd.int .u8) (w0 := w) w.heap.size rfl (.tmp 31) (.tmp 34) 39 5 (.int .u8 0) 1 rfl Try.underlying39 info5 rfl (by decide) (by omega) v144 y143 ((a0) % 256) [.int .u8 ((a0) % 256)] (fun _ => True) (fun _ => False) rfl rfl ?aP (fun _ hk => hk.elim) ?aF ?aO ?aB ?aS ?aL ?_; (case aP => exact rfl); (case aB => exact (by repeat (first | (with_reducible first | exact HB.out | apply below_alloc | apply pw_below_drewN | apply below_drew1) | exact HB.out))); (case aF => exact (fun _ _ => trivial)); (case aO => exact (by (with_reducible repeat (first | apply Kd.R_alloc | apply Kd.R_drewN | apply Kd.R_drew)); exact HO145.out)); (case aS => exact (below_size (by repeat (first | (with_reducible first | exact HB.out | apply below_alloc | apply pw_below_drewN | apply below_drew1) | exact HB.out)))); (case aL => have := LMc16.out; omega); intro v147 w19 ho hb hg hat; rw [← Ny146.out] at ho; have n0_ := Aside0.mk (hb); have n1_ := Aside0.mk (ho); clear HB; clear HO145; have HB := n0_; have HO148 := n1_; clear n0_ n1_; clear ho hb hg hat; have hcv20 := own_string (P := Try.prog) Try.underlying39 Try.underlying5 Try.underlying9 (Kd.own_of_R HO148.out)))
            go_ret
            exact ⟨by first | rfl | (simp [errW_none, errW_some] <;> rfl) | (simp [*, errW_none, errW_some] <;> rfl), by repeat (first | (with_reducible first | exact HB.out | apply below_alloc | apply pw_below_drewN | apply below_drew1) | exact HB.out)⟩
          · rw [if_neg c16] at H
            exact absurd H (by simp)
        · rw [if_neg c15] at H
          exact absurd H (by simp)
      · rw [if_neg c14] at H
        exact absurd H (by simp)
    · rw [if_neg c13] at H
      have c13b0 : (a1 == 3) = false := beq_eq_false_iff_ne.mpr c13
      have c13b1 : (a1 != 3) = true := bne_iff_ne.mpr c13
      by_cases c21 : a1 = 2
      · rw [if_pos c21] at H
        have c21b0 : (a1 == 2) = true := beq_iff_eq.mpr c21
        have c21b1 : (a1 != 2) = false := bne_eq_false_iff_eq.mpr c21
        clear c21
        by_cases c22 : ([] : List Int).length < 140737488355328
        · rw [if_pos c22] at H
          have LMc22 := Aside0.mk c22
          clear c22
          obtain ⟨y149, hy149⟩ : ∃ y_ : List Int, y_ = (([] : List Int) ++ [(a0 / 256) % 256]) := ⟨_, rfl⟩
          replace H : (if y149.length < 140737488355328 then (some (strOfNums (y149 ++ [(a0) % 256]))) else (none)) = some r := by first | (rw [hy149]; with_reducible exact H) | (have H2_ := (Option.bind_some _ _).symm.trans H; rw [hy149]; with_reducible exact H2_) | (have H2_ := (Option.bind_some _ _).symm.trans H; with_reducible exact H2_) | with_reducible exact H | (rw [hy149]; exact H) | exact H
          have Ny149 := Aside0.mk hy149
          clear hy149
          by_cases c23 : y149.length < 140737488355328
          · rw [if_pos c23] at H
            have LMc23 := Aside0.mk c23
            clear c23
            obtain ⟨y152, hy152⟩ : ∃ y_ : List Int, y_ = (y149 ++ [(a0) % 256]) := ⟨_, rfl⟩
            replace H : (some (strOfNums y152)) = some r := by first | (rw [hy152]; with_reducible exact H) | (have H2_ := (Option.bind_some _ _).symm.trans H; rw [hy152]; with_reducible exact H2_) | (have H2_ := (Option.bind_some _ _).symm.trans H; with_reducible exact H2_) | with_reducible exact H | (rw [hy152]; exact H) | exact H
            have Ny152 := Aside0.mk hy152
            clear hy152
            obtain rfl := Option.some.inj H
            go_enter Try.func47, Try.ntmps47
            go_wp2_with (first | ((with_reducible refine gate_builtin (b := .append) (xs := #[.tmp 25, .tmp 29]) rfl ?_); at_builtin; refine Kd.R_append (Kd.int .u8) (w0 := w) w.heap.size rfl (.tmp 25) (.tmp 29) 39 5 (.int .u8 0) 1 rfl Try.underlying39 info5 rfl (by decide) (by omega) (.slice none 0 0) ([] : List Int) ((a0 / 256) % 256) [.int .u8 ((a0 / 256) % 256)] (fun _ => True) (fun _ => False) rfl rfl ?aP (fun _ hk => hk.elim) ?aF ?aO ?aB ?aS ?aL ?_; (case aP => exact rfl); (case aB => exact (by repeat (first | (with_reducible first | exact HB.out | apply below_alloc | apply pw_below_drewN | apply below_drew1) | exact HB.out))); (case aF => exact (fun _ _ => trivial)); (case aO => exact ((Kd.R_nil _ _ _ _ (fun _ => True)))); (case aS => exact (below_size (by repeat (first | (with_reducible first | exact HB.out | apply below_alloc | apply pw_below_drewN | apply below_drew1) | exact HB.out)))); (case aL => have := LMc22.out; omega); intro v150 w24 ho hb hg hat; rw [← Ny149.out] at ho; have n0_ := Aside0.mk (hb); have n1_ := Aside0.mk (ho); clear HB; have HB := n0_; have HO151 := n1_; clear n0_ n1_; clear ho hb hg hat) | ((with_reducible refine gate_builtin (b := .append) (xs := #[.tmp 31, .tmp 34]) rfl ?_); at_builtin; refine Kd.R_append (Kd.int .u8) (w0 := w) w.heap.size rfl (.tmp 31) (.tmp 34) 39 5 (.int .u8 0) 1 rfl Try.underlying39 info5 rfl (by decide) (by omega) v150 y149 ((a0) % 256) [.int .u8 ((a0) % 256)] (fun _ => True) (fun _ => False) rfl rfl ?aP (fun _ hk => hk.elim) ?aF ?aO ?aB ?aS ?aL ?_; (case aP => exact rfl); (case aB => exact (by repeat (first | (with_reducible first | exact HB.out | apply below_alloc | apply pw_below_drewN | apply below_drew1) | exact HB.out))); (case aF => exact (fun _ _ => trivial)); (case aO => exact (by (with_reducible repeat (first | apply Kd.R_alloc | apply Kd.R_drewN | apply Kd.R_drew)); exact HO151.out)); (case aS => exact (below_size (by repeat (first | (with_reducible first | exact HB.out | apply below_alloc | apply pw_below_drewN | apply below_drew1) | exact HB.out)))); (case aL => have := LMc23.out; omega); intro v153 w25 ho hb hg hat; rw [← Ny152.out] at ho; have n0_ := Aside0.mk (hb); have n1_ := Aside0.mk (ho); clear HB; clear HO151; have HB := n0_; have HO154 := n1_; clear n0_ n1_; clear ho hb hg hat; have hcv26 := own_string (P := Try.prog) Try.underlying39 Try.underlying5 Try.underlying9 (Kd.own_of_R HO154.out)))
            go_ret
            exact ⟨by first | rfl | (simp [errW_none, errW_some] <;> rfl) | (simp [*, errW_none, errW_some] <;> rfl), by repeat (first | (with_reducible first | exact HB.out | apply below_alloc | apply pw_below_drewN | apply below_drew1) | exact HB.out)⟩
          · rw [if_neg c23] at H
            exact absurd H (by simp)
        · rw [if_neg c22] at H
          exact absurd H (by simp)
      · rw [if_neg c21] at H
        have c21b0 : (a1 == 2) = false := beq_eq_false_iff_ne.mpr c21
        have c21b1 : (a1 != 2) = true := bne_iff_ne.mpr c21
        by_cases c27 : ([] : List Int).length < 140737488355328
        · rw [if_pos c27] at H
          have LMc27 := Aside0.mk c27
          clear c27
          obtain ⟨y155, hy155⟩ : ∃ y_ : List Int, y_ = (([] : List Int) ++ [(a0) % 256]) := ⟨_, rfl⟩
          replace H : (some (strOfNums y155)) = some r := by first | (rw [hy155]; with_reducible exact H) | (have H2_ := (Option.bind_some _ _).symm.trans H; rw [hy155]; with_reducible exact H2_) | (have H2_ := (Option.bind_some _ _).symm.trans H; with_reducible exact H2_) | with_reducible exact H | (rw [hy155]; exact H) | exact H
          have Ny155 := Aside0.mk hy155
          clear hy155
          obtain rfl := Option.some.inj H
          go_enter Try.func47, Try.ntmps47
          go_wp2_with (first | ((with_reducible refine gate_builtin (b := .append) (xs := #[.tmp 31, .tmp 34]) rfl ?_); at_builtin; refine Kd.R_append (Kd.int .u8) (w0 := w) w.heap.size rfl (.tmp 31) (.tmp 34) 39 5 (.int .u8 0) 1 rfl Try.underlying39 info5 rfl (by decide) (by omega) (.slice none 0 0) ([] : List Int) ((a0) % 256) [.int .u8 ((a0) % 256)] (fun _ => True) (fun _ => False) rfl rfl ?aP (fun _ hk => hk.elim) ?aF ?aO ?aB ?aS ?aL ?_; (case aP => exact rfl); (case aB => exact (by repeat (first | (with_reducible first | exact HB.out | apply below_alloc | apply pw_below_drewN | apply below_drew1) | exact HB.out))); (case aF => exact (fun _ _ => trivial)); (case aO => exact ((Kd.R_nil _ _ _ _ (fun _ => True)))); (case aS => exact (below_size (by repeat (first | (with_reducible first | exact HB.out | apply below_alloc | apply pw_below_drewN | apply below_drew1) | exact HB.out)))); (case aL => have := LMc27.out; omega); intro v156 w28 ho hb hg hat; rw [← Ny155.out] at ho; have n0_ := Aside0.mk (hb); have n1_ := Aside0.mk (ho); clear HB; have HB := n0_; have HO157 := n1_; clear n0_ n1_; clear ho hb hg hat; have hcv29 := own_string (P := Try.prog) Try.underlying39 Try.underlying5 Try.underlying9 (Kd.own_of_R HO157.out)))
          go_ret
          exact ⟨by first | rfl | (simp [errW_none, errW_some] <;> rfl) | (simp [*, errW_none, errW_some] <;> rfl), by repeat (first | (with_reducible first | exact HB.out | apply below_alloc | apply pw_below_drewN | apply below_drew1) | exact HB.out)⟩
        · rw [if_neg c27] at H
          exact absurd H (by simp)
def wire_Put.f (a0 : Int) (a1 : Int) : Option (ByteArray × Int) := if a1 < 1 then (some ((⟨#[]⟩ : ByteArray), 101)) else (if a1 > 4 then (some ((⟨#[]⟩ : ByteArray), 101)) else (if a0 < 0 then (some ((⟨#[]⟩ : ByteArray), 101)) else (if 0 ≤ (wrap64 (8 * a1)) then (if (shr .i64 a0 (wrap64 (8 * a1))) = 0 then ((wire_Bytes.f a0 a1).bind fun t158 => (some (t158, 0))) else (some ((⟨#[]⟩ : ByteArray), 101))) else (none))))
set_option maxHeartbeats 8000000 in
set_option maxRecDepth 100000 in
theorem wire_Put.calls (a0 : Int) (a1 : Int) (r1 : ByteArray) (r2 : Int) (w : World) (h : wire_Put.f a0 a1 = some (r1, r2)) :
    Calls Try.prog 39 #[.int .i64 a0, .int .i64 a1] w fun e w' => e = .returned (.tuple #[.string r1, .int .i64 r2]) ∧ Below w.heap.size w w' := by
  have HB := Aside0.mk (Below.refl w.heap.size w)
  have H : (if a1 < 1 then (some ((⟨#[]⟩ : ByteArray), 101)) else (if a1 > 4 then (some ((⟨#[]⟩ : ByteArray), 101)) else (if a0 < 0 then (some ((⟨#[]⟩ : ByteArray), 101)) else (if 0 ≤ (wrap64 (8 * a1)) then (if (shr .i64 a0 (wrap64 (8 * a1))) = 0 then ((wire_Bytes.f a0 a1).bind fun t158 => (some (t158, 0))) else (some ((⟨#[]⟩ : ByteArray), 101))) else (none))))) = some (r1, r2) := h
  clear h
  by_cases c3 : a1 < 1
  · rw [if_pos c3] at H
    have c3b0 : decide (a1 < 1) = true := decide_eq_true c3
    clear c3
    simp only [Option.some.injEq, Prod.mk.injEq] at H
    obtain ⟨rfl, rfl⟩ := H
    go_enter Try.func39, Try.ntmps39
    go_wp2
    go_ret2
    exact ⟨by first | rfl | (simp [errW_none, errW_some] <;> rfl) | (simp [*, errW_none, errW_some] <;> rfl), by repeat (first | (with_reducible first | exact HB.out | apply below_alloc | apply pw_below_drewN | apply below_drew1) | exact HB.out)⟩
  · rw [if_neg c3] at H
    have c3b0 : decide (a1 < 1) = false := decide_eq_false c3
    clear c3
    by_cases c4 : a1 > 4
    · rw [if_pos c4] at H
      have c4b0 : decide (4 < a1) = true := decide_eq_true c4
      clear c4
      simp only [Option.some.injEq, Prod.mk.injEq] at H
      obtain ⟨rfl, rfl⟩ := H
      go_enter Try.func39, Try.ntmps39
      go_wp2
      go_ret2
      exact ⟨by first | rfl | (simp [errW_none, errW_some] <;> rfl) | (simp [*, errW_none, errW_some] <;> rfl), by repeat (first | (with_reducible first | exact HB.out | apply below_alloc | apply pw_below_drewN | apply below_drew1) | exact HB.out)⟩
    · rw [if_neg c4] at H
      have c4b0 : decide (4 < a1) = false := decide_eq_false c4
      clear c4
      by_cases c5 : a0 < 0
      · rw [if_pos c5] at H
        have c5b0 : decide (a0 < 0) = true := decide_eq_true c5
        clear c5
        simp only [Option.some.injEq, Prod.mk.injEq] at H
        obtain ⟨rfl, rfl⟩ := H
        go_enter Try.func39, Try.ntmps39
        go_wp2
        go_ret2
        exact ⟨by first | rfl | (simp [errW_none, errW_some] <;> rfl) | (simp [*, errW_none, errW_some] <;> rfl), by repeat (first | (with_reducible first | exact HB.out | apply below_alloc | apply pw_below_drewN | apply below_drew1) | exact HB.out)⟩
      · rw [if_neg c5] at H
        have c5b0 : decide (a0 < 0) = false := decide_eq_false c5
        clear c5
        obtain ⟨ji6, hji6⟩ : ∃ j_ : Int, (wrap64 (8 * a1)) = j_ := ⟨_, rfl⟩
        replace H : (if 0 ≤ (ji6) then (if (shr .i64 a0 (ji6)) = 0 then ((wire_Bytes.f a0 a1).bind fun t158 => (some (t158, 0))) else (some ((⟨#[]⟩ : ByteArray), 101))) else (none)) = some (r1, r2) := by first | (rw [hji6] at H; exact H) | (simp only [hji6] at H ⊢; exact H)
        have hji6w : (IntKind.i64.wrap (8 * a1)) = ji6 := (i64_w _).trans hji6
        by_cases c7 : 0 ≤ (ji6)
        · rw [if_pos c7] at H
          have c7b0 := eq_true c7
          have c7b1 : decide (0 ≤ (ji6)) = true := decide_eq_true c7
          clear c7
          obtain ⟨ji8, hji8⟩ : ∃ j_ : Int, (shr .i64 a0 (ji6)) = j_ := ⟨_, rfl⟩
          replace H : (if (ji8) = 0 then ((wire_Bytes.f a0 a1).bind fun t158 => (some (t158, 0))) else (some ((⟨#[]⟩ : ByteArray), 101))) = some (r1, r2) := by first | (rw [hji8] at H; exact H) | (simp only [hji8] at H ⊢; exact H)
          have hji8_ : (a0 / 2 ^ min (ji6).toNat 64) = ji8 := hji8
          have hji8z : (ji6) ≤ 64 → (a0 / 2 ^ (ji6).toNat) = ji8 := shr_small hji8
          by_cases c9 : (ji8) = 0
          · rw [if_pos c9] at H
            have c9b0 : ((ji8) == 0) = true := beq_iff_eq.mpr c9
            have c9b1 : ((ji8) != 0) = false := bne_eq_false_iff_eq.mpr c9
            clear c9
            replace H := Option.bind_eq_some_iff.mp H
            obtain ⟨t158, A100, H⟩ := H
            replace H : (some (t158, 0)) = some (r1, r2) := H
            have A10 := Aside0.mk A100
            clear A100
            simp only [Option.some.injEq, Prod.mk.injEq] at H
            obtain ⟨rfl, rfl⟩ := H
            go_enter Try.func39, Try.ntmps39
            go_wp2_with (first | ((with_reducible refine gate_callee (f := 47) rfl ?_); refine goesL_ (some 25) rfl rfl Try.func47 (by kernel_rfl) rfl #[.int .i64 a0, .int .i64 a1] rfl (by (try simp only [List.map_toArray, List.map_cons, List.map_nil]); first | done | rfl | (simp only [List.length_drop, List.length_take]; rfl)) ?_; (with_reducible refine (wire_Bytes.calls a0 a1 t158 _ A10.out).mono ?_); rintro e w11 ⟨rfl, hb⟩; refine ⟨_, rfl, ?_⟩; have n0_ := Aside0.mk (below_step (by repeat (first | (with_reducible first | exact HB.out | apply below_alloc | apply pw_below_drewN | apply below_drew1) | exact HB.out)) hb); clear HB; have HB := n0_; clear n0_; (try clear hb); (try clear hb2); (try clear hk); (try clear hi)))
            go_ret2
            exact ⟨by first | rfl | (simp [errW_none, errW_some] <;> rfl) | (simp only [← hji6, ← hji8]; first | rfl | (simp [errW_none, errW_some] <;> rfl)) | (simp [*, errW_none, errW_some] <;> rfl), by repeat (first | (with_reducible first | exact HB.out | apply below_alloc | apply pw_below_drewN | apply below_drew1) | exact HB.out)⟩
          · rw [if_neg c9] at H
            have c9b0 : ((ji8) == 0) = false := beq_eq_false_iff_ne.mpr c9
            have c9b1 : ((ji8) != 0) = true := bne_iff_ne.mpr c9
            simp only [Option.some.injEq, Prod.mk.injEq] at H
            obtain ⟨rfl, rfl⟩ := H
            go_enter Try.func39, Try.ntmps39
            go_wp2
            go_ret2
            exact ⟨by first | rfl | (simp [errW_none, errW_some] <;> rfl) | (simp only [← hji6, ← hji8]; first | rfl | (simp [errW_none, errW_some] <;> rfl)) | (simp [*, errW_none, errW_some] <;> rfl), by repeat (first | (with_reducible first | exact HB.out | apply below_alloc | apply pw_below_drewN | apply below_drew1) | exact HB.out)⟩
        · rw [if_neg c7] at H
          exact absurd H (by simp)
end Go.Proofs.Ytlkebjkpmiehcaa.E
end
section
namespace Go.Proofs.Ytlkebjkpmiehcaa.E
open Go.RowKit Go.Proofs.YtlkebjkpmiehcaaW.PrintWords Go.Proofs.YtlkebjkpmiehcaaW.PrintLast Go.Proofs.YtlkebjkpmiehcaaW.PrintMore
attribute [local go_sem] max2_int min2_int max_two min_two max_three min_three max_four min_four   
set_option linter.unusedVariables false
set_option linter.unusedSimpArgs false
def wire_PutVec.f (a0 : ByteArray) (a1 : Int) : Option (ByteArray × Int) := if a1 < 1 then (some ((⟨#[]⟩ : ByteArray), 101)) else (if a1 > 3 then (some ((⟨#[]⟩ : ByteArray), 101)) else (if 0 ≤ (wrap64 (8 * a1)) then (if (shr .i64 (a0.size : Int) (wrap64 (8 * a1))) = 0 then ((wire_Bytes.f (a0.size : Int) a1).bind fun t159 => (if t159.size + a0.size ≤ 9223372036854775807 then (some ((t159 ++ a0), 0)) else (none))) else (some ((⟨#[]⟩ : ByteArray), 101))) else (none)))
set_option maxHeartbeats 8000000 in
set_option maxRecDepth 100000 in
theorem wire_PutVec.calls (a0 : ByteArray) (a1 : Int) (r1 : ByteArray) (r2 : Int) (w : World) (h : wire_PutVec.f a0 a1 = some (r1, r2)) :
    Calls Try.prog 40 #[.string a0, .int .i64 a1] w fun e w' => e = .returned (.tuple #[.string r1, .int .i64 r2]) ∧ Below w.heap.size w w' := by
  have HB := Aside0.mk (Below.refl w.heap.size w)
  have H : (if a1 < 1 then (some ((⟨#[]⟩ : ByteArray), 101)) else (if a1 > 3 then (some ((⟨#[]⟩ : ByteArray), 101)) else (if 0 ≤ (wrap64 (8 * a1)) then (if (shr .i64 (a0.size : Int) (wrap64 (8 * a1))) = 0 then ((wire_Bytes.f (a0.size : Int) a1).bind fun t159 => (if t159.size + a0.size ≤ 9223372036854775807 then (some ((t159 ++ a0), 0)) else (none))) else (some ((⟨#[]⟩ : ByteArray), 101))) else (none)))) = some (r1, r2) := h
  clear h
  by_cases c3 : a1 < 1
  · rw [if_pos c3] at H
    have c3b0 : decide (a1 < 1) = true := decide_eq_true c3
    clear c3
    simp only [Option.some.injEq, Prod.mk.injEq] at H
    obtain ⟨rfl, rfl⟩ := H
    go_enter Try.func40, Try.ntmps40
    go_wp2
    go_ret2
    exact ⟨by first | rfl | (simp [errW_none, errW_some] <;> rfl) | (simp [*, errW_none, errW_some] <;> rfl), by repeat (first | (with_reducible first | exact HB.out | apply below_alloc | apply pw_below_drewN | apply below_drew1) | exact HB.out)⟩
  · rw [if_neg c3] at H
    have c3b0 : decide (a1 < 1) = false := decide_eq_false c3
    clear c3
    by_cases c4 : a1 > 3
    · rw [if_pos c4] at H
      have c4b0 : decide (3 < a1) = true := decide_eq_true c4
      clear c4
      simp only [Option.some.injEq, Prod.mk.injEq] at H
      obtain ⟨rfl, rfl⟩ := H
      go_enter Try.func40, Try.ntmps40
      go_wp2
      go_ret2
      exact ⟨by first | rfl | (simp [errW_none, errW_some] <;> rfl) | (simp [*, errW_none, errW_some] <;> rfl), by repeat (first | (with_reducible first | exact HB.out | apply below_alloc | apply pw_below_drewN | apply below_drew1) | exact HB.out)⟩
    · rw [if_neg c4] at H
      have c4b0 : decide (3 < a1) = false := decide_eq_false c4
      clear c4
      obtain ⟨ji5, hji5⟩ : ∃ j_ : Int, (wrap64 (8 * a1)) = j_ := ⟨_, rfl⟩
      replace H : (if 0 ≤ (ji5) then (if (shr .i64 (a0.size : Int) (ji5)) = 0 then ((wire_Bytes.f (a0.size : Int) a1).bind fun t159 => (if t159.size + a0.size ≤ 9223372036854775807 then (some ((t159 ++ a0), 0)) else (none))) else (some ((⟨#[]⟩ : ByteArray), 101))) else (none)) = some (r1, r2) := by first | (rw [hji5] at H; exact H) | (simp only [hji5] at H ⊢; exact H)
      have hji5w : (IntKind.i64.wrap (8 * a1)) = ji5 := (i64_w _).trans hji5
      by_cases c6 : 0 ≤ (ji5)
      · rw [if_pos c6] at H
        have c6b0 := eq_true c6
        have c6b1 : decide (0 ≤ (ji5)) = true := decide_eq_true c6
        clear c6
        obtain ⟨ji7, hji7⟩ : ∃ j_ : Int, (shr .i64 (a0.size : Int) (ji5)) = j_ := ⟨_, rfl⟩
        replace H : (if (ji7) = 0 then ((wire_Bytes.f (a0.size : Int) a1).bind fun t159 => (if t159.size + a0.size ≤ 9223372036854775807 then (some ((t159 ++ a0), 0)) else (none))) else (some ((⟨#[]⟩ : ByteArray), 101))) = some (r1, r2) := by first | (rw [hji7] at H; exact H) | (simp only [hji7] at H ⊢; exact H)
        have hji7_ : ((a0.size : Int) / 2 ^ min (ji5).toNat 64) = ji7 := hji7
        have hji7z : (ji5) ≤ 64 → ((a0.size : Int) / 2 ^ (ji5).toNat) = ji7 := shr_small hji7
        by_cases c8 : (ji7) = 0
        · rw [if_pos c8] at H
          have c8b0 : ((ji7) == 0) = true := beq_iff_eq.mpr c8
          have c8b1 : ((ji7) != 0) = false := bne_eq_false_iff_eq.mpr c8
          clear c8
          replace H := Option.bind_eq_some_iff.mp H
          obtain ⟨t159, A90, H⟩ := H
          replace H : (if t159.size + a0.size ≤ 9223372036854775807 then (some ((t159 ++ a0), 0)) else (none)) = some (r1, r2) := H
          have A9 := Aside0.mk A90
          clear A90
          by_cases c10 : t159.size + a0.size ≤ 9223372036854775807
          · rw [if_pos c10] at H
            have c10b0 := eq_true c10
            have c10b1 : decide (t159.size + a0.size ≤ 9223372036854775807) = true := decide_eq_true c10
            try have c10b2 : (9223372036854775807 < t159.size + a0.size) = False := eq_false (Nat.not_lt.2 c10)
            obtain ⟨ys160, hys160⟩ : ∃ y_ : ByteArray, y_ = (t159 ++ a0) := ⟨_, rfl⟩
            replace H : (some (ys160, 0)) = some (r1, r2) := by first | (rw [hys160]; with_reducible exact H) | (have H2_ := (Option.bind_some _ _).symm.trans H; rw [hys160]; with_reducible exact H2_) | (have H2_ := (Option.bind_some _ _).symm.trans H; with_reducible exact H2_) | with_reducible exact H | (rw [hys160]; exact H) | exact H
            have Nys160 := Aside0.mk hys160
            clear hys160
            have Sys160 := Nys160.out.symm
            simp only [Option.some.injEq, Prod.mk.injEq] at H
            obtain ⟨rfl, rfl⟩ := H
            go_enter Try.func40, Try.ntmps40
            go_wp2_with (first | ((with_reducible refine gate_callee (f := 47) rfl ?_); refine goesL_ (some 23) rfl rfl Try.func47 (by kernel_rfl) rfl #[.int .i64 (a0.size : Int), .int .i64 a1] rfl (by (try simp only [List.map_toArray, List.map_cons, List.map_nil]); first | done | rfl | (simp only [List.length_drop, List.length_take]; rfl)) ?_; (with_reducible refine (wire_Bytes.calls (a0.size : Int) a1 t159 _ A9.out).mono ?_); rintro e w11 ⟨rfl, hb⟩; refine ⟨_, rfl, ?_⟩; have n0_ := Aside0.mk (below_step (by repeat (first | (with_reducible first | exact HB.out | apply below_alloc | apply pw_below_drewN | apply below_drew1) | exact HB.out)) hb); clear HB; have HB := n0_; clear n0_; (try clear hb); (try clear hb2); (try clear hk); (try clear hi)))
            go_ret2
            exact ⟨by first | rfl | (simp [errW_none, errW_some] <;> rfl) | (simp only [← hji5, ← hji7]; first | rfl | (simp [errW_none, errW_some] <;> rfl)) | (simp [*, errW_none, errW_some] <;> rfl), by repeat (first | (with_reducible first | exact HB.out | apply below_alloc | apply pw_below_drewN | apply below_drew1) | exact HB.out)⟩
          · rw [if_neg c10] at H
            exact absurd H (by simp)
        · rw [if_neg c8] at H
          have c8b0 : ((ji7) == 0) = false := beq_eq_false_iff_ne.mpr c8
          have c8b1 : ((ji7) != 0) = true := bne_iff_ne.mpr c8
          simp only [Option.some.injEq, Prod.mk.injEq] at H
          obtain ⟨rfl, rfl⟩ := H
          go_enter Try.func40, Try.ntmps40
          go_wp2
          go_ret2
          exact ⟨by first | rfl | (simp [errW_none, errW_some] <;> rfl) | (simp only [← hji5, ← hji7]; first | rfl | (simp [errW_none, errW_some] <;> rfl)) | (simp [*, errW_none, errW_some] <;> rfl), by repeat (first | (with_reducible first | exact HB.out | apply below_alloc | apply pw_below_drewN | apply below_drew1) | exact HB.out)⟩
      · rw [if_neg c6] at H
        exact absurd H (by simp)
def ext_Put.l0 : Nat → ByteArray → List Int → Bool → List (S41) → Int → Int → Option (ByteArray × Int)
  | 0, _, _, _, _, _, _ => none
  | k + 1, x4, x5, x6, x14, x15, x16 => if x16 < x15 then (if 0 ≤ x16 then (if x16 < (x14.length : Int) then ((wire_Put.f ((rd_T41 x14 x16).f0) 2).bind fun bt166 => ((wire_PutVec.f ((rd_T41 x14 x16).f1) 2).bind fun bt168 => (if bt166.2 = 0 then (if bt168.2 = 0 then (if x6 = true then (if (Lit.int .i64 ((rd_T41 x14 x16).f0)).wf = true then (if x5.length < 140737488355328 then (if bt166.1.size + bt168.1.size ≤ 9223372036854775807 then ((some (bt166.1 ++ bt168.1 : ByteArray)).bind fun ys173 => (if x4.size + ys173.size ≤ 9223372036854775807 then (ext_Put.l0 k (x4 ++ ys173) (x5 ++ [(rd_T41 x14 x16).f0]) true x14 x15 (wrap64 (x16 + 1))) else (none))) else (none)) else (none)) else (none)) else (if (Lit.int .i64 ((rd_T41 x14 x16).f0)).wf = true then (if x5.length < 140737488355328 then (if bt166.1.size + bt168.1.size ≤ 9223372036854775807 then ((some (bt166.1 ++ bt168.1 : ByteArray)).bind fun ys178 => (if x4.size + ys178.size ≤ 9223372036854775807 then (ext_Put.l0 k (x4 ++ ys178) (x5 ++ [(rd_T41 x14 x16).f0]) (decide (((rd_T41 x14 x16).f0) ∈ x5)) x14 x15 (wrap64 (x16 + 1))) else (none))) else (none)) else (none)) else (none))) else (some ((⟨#[]⟩ : ByteArray), 1600))) else (some ((⟨#[]⟩ : ByteArray), 1600))))) else (none)) else (none)) else (if x6 = true then (some ((⟨#[]⟩ : ByteArray), 1601)) else (some (x4, 0)))
def ext_Put.f (k : Nat) (l0 : List (S41)) : Option (ByteArray × Int) := ext_Put.l0 k (⟨#[]⟩ : ByteArray) (([] : List Int)) false l0 (l0.length : Int) 0
theorem ext_Put.mono_l : ∀ k, (∀ y0 y1 y2 y3 y4 y5, LeO (ext_Put.l0 k y0 y1 y2 y3 y4 y5) (ext_Put.l0 (k + 1) y0 y1 y2 y3 y4 y5))
  | 0 => fun _ _ _ _ _ _ r h => by simp [ext_Put.l0] at h
  | k + 1 => by
    have ih0 := ext_Put.mono_l k
    · intro y0 y1 y2 y3 y4 y5
      unfold ext_Put.l0
      repeat' first
      | (with_reducible exact ih0 _ _ _ _ _ _)
      | (with_reducible exact LeO.refl _)
      | (with_reducible exact LeO.none _)
      | (with_reducible refine LeO.ite ?_ ?_)
      | (with_reducible refine LeO.bind ?_ (fun _ => ?_))
      | exact ih0 _ _ _ _ _ _
      | exact LeO.none _
      | refine LeO.ite ?_ ?_
      | refine LeO.bind ?_ (fun _ => ?_)
theorem ext_Put.mono : ∀ a0 k, LeO (ext_Put.f k a0) (ext_Put.f (k + 1) a0) := by
  intro a0 k
  have ih0 := ext_Put.mono_l k
  unfold ext_Put.f
  repeat' first
      | (with_reducible exact ih0 _ _ _ _ _ _)
      | (with_reducible exact LeO.refl _)
      | (with_reducible exact LeO.none _)
      | (with_reducible refine LeO.ite ?_ ?_)
      | (with_reducible refine LeO.bind ?_ (fun _ => ?_))
      | exact ih0 _ _ _ _ _ _
      | exact LeO.none _
      | refine LeO.ite ?_ ?_
      | refine LeO.bind ?_ (fun _ => ?_)
set_option maxHeartbeats 8000000 in
set_option maxRecDepth 100000 in
theorem ext_Put.calls (k : Nat) (A0 : Option Addr) (c0 : Nat) (l0 : List (S41)) (r1 : ByteArray) (r2 : Int) (w : World) (hr0 : Kd.C k41 w A0 l0.length l0) (hc0 : l0.length ≤ c0) (h : ext_Put.f k l0 = some (r1, r2)) :
    Calls Try.prog 15 #[.slice A0 l0.length c0] w fun e w' => e = .returned (.tuple #[.string r1, .int .i64 r2]) ∧ Below w.heap.size w w' := by
  have hu41 := Try.underlying41
  have HR0 := Aside0.mk hr0
  have HC0 := Aside0.mk hc0
  clear hr0 hc0
  have HB := Aside0.mk (Below.refl w.heap.size w)
  have H : (ext_Put.l0 k (⟨#[]⟩ : ByteArray) (([] : List Int)) false l0 (l0.length : Int) 0) = some (r1, r2) := h
  clear h
  obtain ⟨y161, hy161⟩ : ∃ y_ : List Int, y_ = (([] : List Int)) := ⟨_, rfl⟩
  replace H : (ext_Put.l0 k (⟨#[]⟩ : ByteArray) y161 false l0 (l0.length : Int) 0) = some (r1, r2) := by first | (rw [hy161]; with_reducible exact H) | (have H2_ := (Option.bind_some _ _).symm.trans H; rw [hy161]; with_reducible exact H2_) | (have H2_ := (Option.bind_some _ _).symm.trans H; with_reducible exact H2_) | with_reducible exact H | (rw [hy161]; exact H) | exact H
  have Ny161 := Aside0.mk hy161
  clear hy161
  have H' := Aside0.mk H
  clear H
  go_enter Try.func15, Try.ntmps15
  go_wp2_with (first | ((with_reducible refine gate_dst (N := 13) rfl ?_); refine Kd.Y_make (Kd.int .i64) 3 rfl (N := 13) rfl 68 rfl (ok := fun _ => True) trivial ?_; intro v162 w2 ho3 hb; rw [← Ny161.out] at ho3; have n0_ := Aside0.mk (Kd.Y_lower ho3 (below_size (by repeat (first | (with_reducible first | exact HB.out | apply below_alloc | apply pw_below_drewN | apply below_drew1) | exact HB.out)))); have n1_ := Aside0.mk (below_step (by repeat (first | (with_reducible first | exact HB.out | apply below_alloc | apply pw_below_drewN | apply below_drew1) | exact HB.out)) hb); clear HB; have HO163 := n0_; have HB := n1_; clear n0_ n1_; clear hb ho3))
  go_loopg [4, 6, 16] k (fun kq v4 v6 v16 w' => ∃ (x4_1 : ByteArray) (x5_1 : List Int) (x6_1 : Bool) (x16_1 : Int), v4 = .string x4_1 ∧ v6 = .bool x6_1 ∧ v16 = .int .i64 x16_1 ∧ Aside0 (ext_Put.l0 kq x4_1 x5_1 x6_1 l0 (l0.length : Int) x16_1 = some (r1, r2)) ∧ Aside0 (kq ≤ k) ∧ Aside0 (Kd.Y (Kd.int .i64) 3 w' w.heap.size (fun _ => True) v162 x5_1) ∧ Aside0 (Below w.heap.size w w'))
  case atStart => exact ⟨((⟨#[]⟩ : ByteArray)), (y161), (false), (0), (by first | rfl | (simp; done) | (simp [*]; done)), (by first | rfl | (simp; done) | (simp [*]; done)), (by first | rfl | (simp; done) | (simp [*]; done)), H', ⟨Nat.le_refl _⟩, ⟨by (with_reducible repeat (first | apply Kd.Y_alloc | apply Kd.Y_drewN | apply Kd.Y_drew)); exact HO163.out⟩, ⟨by repeat (first | (with_reducible first | exact HB.out | apply below_alloc | apply pw_below_drewN | apply below_drew1) | exact HB.out)⟩⟩
  case round =>
    clear H'
    try clear c1
    try clear p2
    obtain ⟨x4_1, x5_1, x6_1, x16_1, rfl, rfl, rfl, HA, HK1, HO_5, HB⟩ := hrel
    cases gk with
    | zero => exact absurd HA.out (by simp [ext_Put.l0])
    | succ k1 =>
      have H := HA.out
      clear HA
      simp only [ext_Put.l0] at H
      by_cases c4 : x16_1 < (l0.length : Int)
      · rw [if_pos c4] at H
        have c4b0 : decide (x16_1 < (l0.length : Int)) = true := decide_eq_true c4
        clear c4
        by_cases c5 : 0 ≤ x16_1
        · rw [if_pos c5] at H
          have c5b0 : decide (0 ≤ x16_1) = true := decide_eq_true c5
          clear c5
          by_cases c6 : x16_1 < (l0.length : Int)
          · rw [if_pos c6] at H
            have c6b0 : decide (x16_1 < (l0.length : Int)) = true := decide_eq_true c6
            clear c6
            replace H := Option.bind_eq_some_iff.mp H
            obtain ⟨⟨t166, t167⟩, A70, H⟩ := H
            replace H : ((wire_PutVec.f ((rd_T41 l0 x16_1).f1) 2).bind fun bt168 => (if t167 = 0 then (if bt168.2 = 0 then (if x6_1 = true then (if (Lit.int .i64 ((rd_T41 l0 x16_1).f0)).wf = true then (if x5_1.length < 140737488355328 then (if t166.size + bt168.1.size ≤ 9223372036854775807 then ((some (t166 ++ bt168.1 : ByteArray)).bind fun ys173 => (if x4_1.size + ys173.size ≤ 9223372036854775807 then (ext_Put.l0 k1 (x4_1 ++ ys173) (x5_1 ++ [(rd_T41 l0 x16_1).f0]) true l0 (l0.length : Int) (wrap64 (x16_1 + 1))) else (none))) else (none)) else (none)) else (none)) else (if (Lit.int .i64 ((rd_T41 l0 x16_1).f0)).wf = true then (if x5_1.length < 140737488355328 then (if t166.size + bt168.1.size ≤ 9223372036854775807 then ((some (t166 ++ bt168.1 : ByteArray)).bind fun ys178 => (if x4_1.size + ys178.size ≤ 9223372036854775807 then (ext_Put.l0 k1 (x4_1 ++ ys178) (x5_1 ++ [(rd_T41 l0 x16_1).f0]) (decide (((rd_T41 l0 x16_1).f0) ∈ x5_1)) l0 (l0.length : Int) (wrap64 (x16_1 + 1))) else (none))) else (none)) else (none)) else (none))) else (some ((⟨#[]⟩ : ByteArray), 1600))) else (some ((⟨#[]⟩ : ByteArray), 1600)))) = some (r1, r2) := H
            have A7 := Aside0.mk A70
            clear A70
            replace H := Option.bind_eq_some_iff.mp H
            obtain ⟨⟨t168, t169⟩, A80, H⟩ := H
            replace H : (if t167 = 0 then (if t169 = 0 then (if x6_1 = true then (if (Lit.int .i64 ((rd_T41 l0 x16_1).f0)).wf = true then (if x5_1.length < 140737488355328 then (if t166.size + t168.size ≤ 9223372036854775807 then ((some (t166 ++ t168 : ByteArray)).bind fun ys173 => (if x4_1.size + ys173.size ≤ 9223372036854775807 then (ext_Put.l0 k1 (x4_1 ++ ys173) (x5_1 ++ [(rd_T41 l0 x16_1).f0]) true l0 (l0.length : Int) (wrap64 (x16_1 + 1))) else (none))) else (none)) else (none)) else (none)) else (if (Lit.int .i64 ((rd_T41 l0 x16_1).f0)).wf = true then (if x5_1.length < 140737488355328 then (if t166.size + t168.size ≤ 9223372036854775807 then ((some (t166 ++ t168 : ByteArray)).bind fun ys178 => (if x4_1.size + ys178.size ≤ 9223372036854775807 then (ext_Put.l0 k1 (x4_1 ++ ys178) (x5_1 ++ [(rd_T41 l0 x16_1).f0]) (decide (((rd_T41 l0 x16_1).f0) ∈ x5_1)) l0 (l0.length : Int) (wrap64 (x16_1 + 1))) else (none))) else (none)) else (none)) else (none))) else (some ((⟨#[]⟩ : ByteArray), 1600))) else (some ((⟨#[]⟩ : ByteArray), 1600))) = some (r1, r2) := H
            have A8 := Aside0.mk A80
            clear A80
            by_cases c9 : t167 = 0
            · rw [if_pos c9] at H
              have c9b0 : (t167 == 0) = true := beq_iff_eq.mpr c9
              have c9b1 : (t167 != 0) = false := bne_eq_false_iff_eq.mpr c9
              clear c9
              by_cases c10 : t169 = 0
              · rw [if_pos c10] at H
                have c10b0 : (t169 == 0) = true := beq_iff_eq.mpr c10
                have c10b1 : (t169 != 0) = false := bne_eq_false_iff_eq.mpr c10
                clear c10
                by_cases c11 : x6_1 = true
                · subst c11
                  have H1 : (if (Lit.int .i64 ((rd_T41 l0 x16_1).f0)).wf = true then (if x5_1.length < 140737488355328 then (if t166.size + t168.size ≤ 9223372036854775807 then ((some (t166 ++ t168 : ByteArray)).bind fun ys173 => (if x4_1.size + ys173.size ≤ 9223372036854775807 then (ext_Put.l0 k1 (x4_1 ++ ys173) (x5_1 ++ [(rd_T41 l0 x16_1).f0]) true l0 (l0.length : Int) (wrap64 (x16_1 + 1))) else (none))) else (none)) else (none)) else (none)) = some (r1, r2) := by rw [if_pos rfl] at H; exact H
                  clear H
                  have H := H1
                  clear H1
                  by_cases c12 : (Lit.int .i64 ((rd_T41 l0 x16_1).f0)).wf = true
                  · rw [if_pos c12] at H
                    have LMc12 := Aside0.mk c12
                    clear c12
                    by_cases c13 : x5_1.length < 140737488355328
                    · rw [if_pos c13] at H
                      have LMc13 := Aside0.mk c13
                      clear c13
                      obtain ⟨y170, hy170⟩ : ∃ y_ : List Int, y_ = (x5_1 ++ [(rd_T41 l0 x16_1).f0]) := ⟨_, rfl⟩
                      replace H : (if t166.size + t168.size ≤ 9223372036854775807 then ((some (t166 ++ t168 : ByteArray)).bind fun ys173 => (if x4_1.size + ys173.size ≤ 9223372036854775807 then (ext_Put.l0 k1 (x4_1 ++ ys173) y170 true l0 (l0.length : Int) (wrap64 (x16_1 + 1))) else (none))) else (none)) = some (r1, r2) := by first | (rw [hy170]; with_reducible exact H) | (have H2_ := (Option.bind_some _ _).symm.trans H; rw [hy170]; with_reducible exact H2_) | (have H2_ := (Option.bind_some _ _).symm.trans H; with_reducible exact H2_) | with_reducible exact H | (rw [hy170]; exact H) | exact H
                      have Ny170 := Aside0.mk hy170
                      clear hy170
                      by_cases c14 : t166.size + t168.size ≤ 9223372036854775807
                      · rw [if_pos c14] at H
                        have c14b0 := eq_true c14
                        have c14b1 : decide (t166.size + t168.size ≤ 9223372036854775807) = true := decide_eq_true c14
                        try have c14b2 : (9223372036854775807 < t166.size + t168.size) = False := eq_false (Nat.not_lt.2 c14)
                        obtain ⟨ys173, hys173⟩ : ∃ y_ : ByteArray, y_ = (t166 ++ t168) := ⟨_, rfl⟩
                        replace H : (if x4_1.size + ys173.size ≤ 9223372036854775807 then (ext_Put.l0 k1 (x4_1 ++ ys173) y170 true l0 (l0.length : Int) (wrap64 (x16_1 + 1))) else (none)) = some (r1, r2) := by first | (rw [hys173]; with_reducible exact H) | (have H2_ := (Option.bind_some _ _).symm.trans H; rw [hys173]; with_reducible exact H2_) | (have H2_ := (Option.bind_some _ _).symm.trans H; with_reducible exact H2_) | with_reducible exact H | (rw [hys173]; exact H) | exact H
                        have Nys173 := Aside0.mk hys173
                        clear hys173
                        have Sys173 := Nys173.out.symm
                        by_cases c15 : x4_1.size + ys173.size ≤ 9223372036854775807
                        · rw [if_pos c15] at H
                          have c15b0 := eq_true c15
                          have c15b1 : decide (x4_1.size + ys173.size ≤ 9223372036854775807) = true := decide_eq_true c15
                          try have c15b2 : (9223372036854775807 < x4_1.size + ys173.size) = False := eq_false (Nat.not_lt.2 c15)
                          obtain ⟨ys174, hys174⟩ : ∃ y_ : ByteArray, y_ = (x4_1 ++ ys173) := ⟨_, rfl⟩
                          replace H : (ext_Put.l0 k1 ys174 y170 true l0 (l0.length : Int) (wrap64 (x16_1 + 1))) = some (r1, r2) := by first | (rw [hys174]; with_reducible exact H) | (have H2_ := (Option.bind_some _ _).symm.trans H; rw [hys174]; with_reducible exact H2_) | (have H2_ := (Option.bind_some _ _).symm.trans H; with_reducible exact H2_) | with_reducible exact H | (rw [hys174]; exact H) | exact H
                          have Nys174 := Aside0.mk hys174
                          clear hys174
                          have Sys174 := Nys174.out.symm
                          have H' := Aside0.mk H
                          clear H
                          have p164 : 0 ≤ (x16_1 : Int) := of_decide_eq_true (by first | (with_reducible assumption) | assumption)
                          have q164 : x16_1 < (l0.length : Int) := of_decide_eq_true (by first | (with_reducible assumption) | assumption)
                          obtain ⟨ad164, e164, hx164_0, hx164_1⟩ := at_T41 HR0.out x16_1 p164 q164
                          cases e164
                          replace hx164_0 := (HB.out.cell (World.block_lt_of_cell? w _ hx164_0)).trans hx164_0
                          replace hx164_1 := (HB.out.cell (World.block_lt_of_cell? w _ hx164_1)).trans hx164_1
                          replace p164 := eq_true p164
                          replace q164 := eq_true q164
                          go_wp2_with (first | ((with_reducible refine gate_dst (N := 8) rfl ?_); refine box_event ?hg (N := 8) ?hd (cs := #[.int .i64 0, .string (⟨#[]⟩ : ByteArray)]) (t := 41) ?hr ?_; (case hd => rfl); (case hg => rfl); (case hr => first | (go_simp; done) | (go_simp; rfl)); intro gb165 hg w16 hbox hb; have n0_ := Aside0.mk (Kd.Y_below (by (with_reducible repeat (first | apply Kd.Y_alloc | apply Kd.Y_drewN | apply Kd.Y_drew)); exact HO_5.out) hb); have n1_ := Aside0.mk (below_step (by repeat (first | (with_reducible first | exact HB.out | apply below_alloc | apply pw_below_drewN | apply below_drew1) | exact HB.out)) hb); have n2_ := Aside0.mk (hbox); have n3_ := Aside0.mk ((by rw [hg]; exact (below_size (by repeat (first | (with_reducible first | exact HB.out | apply below_alloc | apply pw_below_drewN | apply below_drew1) | exact HB.out))) : w.heap.size ≤ gb165)); have n4_ := Aside0.mk ((by rw [hg]; exact (below_size (by repeat (first | (with_reducible first | exact HB.out | apply below_alloc | apply pw_below_drewN | apply below_drew1) | exact HB.out))) : w.heap.size ≤ gb165)); clear HO_5; clear HB; have HO_5 := n0_; have HB := n1_; have BK165 := n2_; have GW165 := n3_; have GE165 := n4_; clear n0_ n1_ n2_ n3_ n4_; clear hb hbox hg; have hcz17_0 : w16.cell? ⟨gb165, 0, none⟩ = some (.int .i64 0) := (blk_cell BK165.out 0).trans rfl; have hcz17_1 : w16.cell? ⟨gb165, 1, none⟩ = some (.string (⟨#[]⟩ : ByteArray)) := (blk_cell BK165.out 1).trans rfl; have hfz17_0 := blk_frozen BK165.out 0; have hfz17_1 := blk_frozen BK165.out 1) | ((with_reducible refine gate_callee (f := 39) rfl ?_); refine goesL_ (some 23) rfl rfl Try.func39 (by kernel_rfl) rfl #[.int .i64 ((rd_T41 l0 x16_1).f0), .int .i64 2] rfl (by (try simp only [List.map_toArray, List.map_cons, List.map_nil]); first | done | rfl | (simp only [List.length_drop, List.length_take]; rfl)) ?_; (with_reducible refine (wire_Put.calls ((rd_T41 l0 x16_1).f0) 2 t166 t167 _ A7.out).mono ?_); rintro e w18 ⟨rfl, hb⟩; refine ⟨_, rfl, ?_⟩; have n0_ := Aside0.mk (Kd.Y_below (by (with_reducible repeat (first | apply Kd.Y_alloc | apply Kd.Y_drewN | apply Kd.Y_drew)); exact (Kd.Y_mono (Kd.Y_far (p := ⟨gb165, 1, none⟩) (Kd.Y_far (p := ⟨gb165, 0, none⟩) (Kd.Y_types HO_5.out BK165.out (by decide)) (fun _ hk => hk.2) (.int .i64 ((rd_T41 l0 x16_1).f0))) (fun _ hk => hk.2) (.string ((rd_T41 l0 x16_1).f1))) (fun _ h_ => h_.1))) hb); have n1_ := Aside0.mk (blk_below (g := gb165) (o := .cells #[.int .i64 ((rd_T41 l0 x16_1).f0), .string ((rd_T41 l0 x16_1).f1)] 41 (0, 0)) (by (with_reducible repeat (first | refine blk_drewN ?_ _ | refine blk_drew ?_ | refine blk_alloc ?_ _)); refine blk_put (cs := #[.int .i64 ((rd_T41 l0 x16_1).f0), .string (⟨#[]⟩ : ByteArray)]) ?_ 1 _ rfl; (with_reducible repeat (first | refine blk_drewN ?_ _ | refine blk_drew ?_ | refine blk_alloc ?_ _)); refine blk_put (cs := #[.int .i64 0, .string (⟨#[]⟩ : ByteArray)]) ?_ 0 _ rfl; (with_reducible repeat (first | refine blk_drewN ?_ _ | refine blk_drew ?_ | refine blk_alloc ?_ _)); exact BK165.out) hb); have n2_ := Aside0.mk (below_step (by repeat (first | (with_reducible first | exact HB.out | apply below_alloc | apply pw_below_drewN | apply below_drew1 | refine below_set ?_ GE165.out) | exact HB.out)) hb); clear HO_5; clear BK165; clear HB; have HO_5 := n0_; have BK165 := n1_; have HB := n2_; clear n0_ n1_ n2_; (try clear hb); (try clear hb2); (try clear hk); (try clear hi); have hcz19_0 : w18.cell? ⟨gb165, 0, none⟩ = some (.int .i64 ((rd_T41 l0 x16_1).f0)) := (blk_cell BK165.out 0).trans rfl; have hcz19_1 : w18.cell? ⟨gb165, 1, none⟩ = some (.string ((rd_T41 l0 x16_1).f1)) := (blk_cell BK165.out 1).trans rfl; have hfz19_0 := blk_frozen BK165.out 0; have hfz19_1 := blk_frozen BK165.out 1) | ((with_reducible refine gate_callee (f := 40) rfl ?_); refine goesL_ (some 29) rfl rfl Try.func40 (by kernel_rfl) rfl #[.string ((rd_T41 l0 x16_1).f1), .int .i64 2] rfl (by (try simp only [List.map_toArray, List.map_cons, List.map_nil]); first | done | rfl | (simp only [List.length_drop, List.length_take]; rfl)) ?_; (with_reducible refine (wire_PutVec.calls ((rd_T41 l0 x16_1).f1) 2 t168 t169 _ A8.out).mono ?_); rintro e w20 ⟨rfl, hb⟩; refine ⟨_, rfl, ?_⟩; have n0_ := Aside0.mk (Kd.Y_below (by (with_reducible repeat (first | apply Kd.Y_alloc | apply Kd.Y_drewN | apply Kd.Y_drew)); exact HO_5.out) hb); have n1_ := Aside0.mk (blk_below (g := gb165) (o := .cells #[.int .i64 ((rd_T41 l0 x16_1).f0), .string ((rd_T41 l0 x16_1).f1)] 41 (0, 0)) (by (with_reducible repeat (first | refine blk_drewN ?_ _ | refine blk_drew ?_ | refine blk_alloc ?_ _)); exact BK165.out) hb); have n2_ := Aside0.mk (below_step (by repeat (first | (with_reducible first | exact HB.out | apply below_alloc | apply pw_below_drewN | apply below_drew1 | refine below_set ?_ GE165.out) | exact HB.out)) hb); clear HO_5; clear BK165; clear HB; have HO_5 := n0_; have BK165 := n1_; have HB := n2_; clear n0_ n1_ n2_; (try clear hb); (try clear hb2); (try clear hk); (try clear hi); have hcz21_0 : w20.cell? ⟨gb165, 0, none⟩ = some (.int .i64 ((rd_T41 l0 x16_1).f0)) := (blk_cell BK165.out 0).trans rfl; have hcz21_1 : w20.cell? ⟨gb165, 1, none⟩ = some (.string ((rd_T41 l0 x16_1).f1)) := (blk_cell BK165.out 1).trans rfl; have hfz21_0 := blk_frozen BK165.out 0; have hfz21_1 := blk_frozen BK165.out 1) | (at_mapUpdate; refine Kd.Y_put (Kd.int .i64) (w0 := w) w.heap.size 3 rfl 68 _ _ _ rfl Try.underlying68 Try.underlying3 Try.underlying4 v162 x5_1 ((rd_T41 l0 x16_1).f0) (ok := fun _ => True) rfl rfl rfl LMc12.out (by have := LMc13.out; simp only [maxLen]; omega) ?aO ?aB ?aS ?_; (case aO => exact (by (with_reducible repeat (first | apply Kd.Y_alloc | apply Kd.Y_drewN | apply Kd.Y_drew)); exact HO_5.out)); (case aB => exact (by repeat (first | (with_reducible first | exact HB.out | apply below_alloc | apply pw_below_drewN | apply below_drew1 | refine below_set ?_ GE165.out) | exact HB.out))); (case aS => exact (below_size (by repeat (first | (with_reducible first | exact HB.out | apply below_alloc | apply pw_below_drewN | apply below_drew1 | refine below_set ?_ GE165.out) | exact HB.out)))); intro w22 ho hb hmt; rw [← Ny170.out] at ho; have n0_ := Aside0.mk (blk_map (g := gb165) (o := .cells #[.int .i64 ((rd_T41 l0 x16_1).f0), .string ((rd_T41 l0 x16_1).f1)] 41 (0, 0)) (by (with_reducible repeat (first | refine blk_drewN ?_ _ | refine blk_drew ?_ | refine blk_alloc ?_ _)); exact BK165.out) hmt); have n1_ := Aside0.mk (hb); have n2_ := Aside0.mk (ho); clear BK165; clear HB; clear HO_5; have BK165 := n0_; have HB := n1_; have HO172 := n2_; clear n0_ n1_ n2_; clear ho hb hmt))
                          go_roundg k1
                          case measure => have := HK1.out; omega
                          case rel => exact ⟨(ys174), (y170), (true), (wrap64 (x16_1 + 1)), (by first | rfl | (simp; done) | (simp [*]; done)), (by first | rfl | (simp; done) | (simp [*]; done)), (by first | rfl | (simp; done) | (simp [*]; done)), H', ⟨by have := HK1.out; omega⟩, ⟨by (with_reducible repeat (first | apply Kd.Y_alloc | apply Kd.Y_drewN | apply Kd.Y_drew)); exact HO172.out⟩, ⟨by repeat (first | (with_reducible first | exact HB.out | apply below_alloc | apply pw_below_drewN | apply below_drew1 | refine below_set ?_ GE165.out) | exact HB.out)⟩⟩
                        · rw [if_neg c15] at H
                          exact absurd H (by simp)
                      · rw [if_neg c14] at H
                        exact absurd H (by simp)
                    · rw [if_neg c13] at H
                      exact absurd H (by simp)
                  · rw [if_neg c12] at H
                    exact absurd H (by simp)
                · replace c11 := Bool.eq_false_iff.mpr c11
                  subst c11
                  have H1 : (if (Lit.int .i64 ((rd_T41 l0 x16_1).f0)).wf = true then (if x5_1.length < 140737488355328 then (if t166.size + t168.size ≤ 9223372036854775807 then ((some (t166 ++ t168 : ByteArray)).bind fun ys178 => (if x4_1.size + ys178.size ≤ 9223372036854775807 then (ext_Put.l0 k1 (x4_1 ++ ys178) (x5_1 ++ [(rd_T41 l0 x16_1).f0]) (decide (((rd_T41 l0 x16_1).f0) ∈ x5_1)) l0 (l0.length : Int) (wrap64 (x16_1 + 1))) else (none))) else (none)) else (none)) else (none)) = some (r1, r2) := by rw [if_neg (show ¬ (false = true) by decide)] at H; exact H
                  clear H
                  have H := H1
                  clear H1
                  by_cases c23 : (Lit.int .i64 ((rd_T41 l0 x16_1).f0)).wf = true
                  · rw [if_pos c23] at H
                    have LMc23 := Aside0.mk c23
                    clear c23
                    by_cases c24 : x5_1.length < 140737488355328
                    · rw [if_pos c24] at H
                      have LMc24 := Aside0.mk c24
                      clear c24
                      obtain ⟨y175, hy175⟩ : ∃ y_ : List Int, y_ = (x5_1 ++ [(rd_T41 l0 x16_1).f0]) := ⟨_, rfl⟩
                      replace H : (if t166.size + t168.size ≤ 9223372036854775807 then ((some (t166 ++ t168 : ByteArray)).bind fun ys178 => (if x4_1.size + ys178.size ≤ 9223372036854775807 then (ext_Put.l0 k1 (x4_1 ++ ys178) y175 (decide (((rd_T41 l0 x16_1).f0) ∈ x5_1)) l0 (l0.length : Int) (wrap64 (x16_1 + 1))) else (none))) else (none)) = some (r1, r2) := by first | (rw [hy175]; with_reducible exact H) | (have H2_ := (Option.bind_some _ _).symm.trans H; rw [hy175]; with_reducible exact H2_) | (have H2_ := (Option.bind_some _ _).symm.trans H; with_reducible exact H2_) | with_reducible exact H | (rw [hy175]; exact H) | exact H
                      have Ny175 := Aside0.mk hy175
                      clear hy175
                      by_cases c25 : t166.size + t168.size ≤ 9223372036854775807
                      · rw [if_pos c25] at H
                        have c25b0 := eq_true c25
                        have c25b1 : decide (t166.size + t168.size ≤ 9223372036854775807) = true := decide_eq_true c25
                        try have c25b2 : (9223372036854775807 < t166.size + t168.size) = False := eq_false (Nat.not_lt.2 c25)
                        obtain ⟨ys178, hys178⟩ : ∃ y_ : ByteArray, y_ = (t166 ++ t168) := ⟨_, rfl⟩
                        replace H : (if x4_1.size + ys178.size ≤ 9223372036854775807 then (ext_Put.l0 k1 (x4_1 ++ ys178) y175 (decide (((rd_T41 l0 x16_1).f0) ∈ x5_1)) l0 (l0.length : Int) (wrap64 (x16_1 + 1))) else (none)) = some (r1, r2) := by first | (rw [hys178]; with_reducible exact H) | (have H2_ := (Option.bind_some _ _).symm.trans H; rw [hys178]; with_reducible exact H2_) | (have H2_ := (Option.bind_some _ _).symm.trans H; with_reducible exact H2_) | with_reducible exact H | (rw [hys178]; exact H) | exact H
                        have Nys178 := Aside0.mk hys178
                        clear hys178
                        have Sys178 := Nys178.out.symm
                        by_cases c26 : x4_1.size + ys178.size ≤ 9223372036854775807
                        · rw [if_pos c26] at H
                          have c26b0 := eq_true c26
                          have c26b1 : decide (x4_1.size + ys178.size ≤ 9223372036854775807) = true := decide_eq_true c26
                          try have c26b2 : (9223372036854775807 < x4_1.size + ys178.size) = False := eq_false (Nat.not_lt.2 c26)
                          obtain ⟨ys179, hys179⟩ : ∃ y_ : ByteArray, y_ = (x4_1 ++ ys178) := ⟨_, rfl⟩
                          replace H : (ext_Put.l0 k1 ys179 y175 (decide (((rd_T41 l0 x16_1).f0) ∈ x5_1)) l0 (l0.length : Int) (wrap64 (x16_1 + 1))) = some (r1, r2) := by first | (rw [hys179]; with_reducible exact H) | (have H2_ := (Option.bind_some _ _).symm.trans H; rw [hys179]; with_reducible exact H2_) | (have H2_ := (Option.bind_some _ _).symm.trans H; with_reducible exact H2_) | with_reducible exact H | (rw [hys179]; exact H) | exact H
                          have Nys179 := Aside0.mk hys179
                          clear hys179
                          have Sys179 := Nys179.out.symm
                          have H' := Aside0.mk H
                          clear H
                          have p164 : 0 ≤ (x16_1 : Int) := of_decide_eq_true (by first | (with_reducible assumption) | assumption)
                          have q164 : x16_1 < (l0.length : Int) := of_decide_eq_true (by first | (with_reducible assumption) | assumption)
                          obtain ⟨ad164, e164, hx164_0, hx164_1⟩ := at_T41 HR0.out x16_1 p164 q164
                          cases e164
                          replace hx164_0 := (HB.out.cell (World.block_lt_of_cell? w _ hx164_0)).trans hx164_0
                          replace hx164_1 := (HB.out.cell (World.block_lt_of_cell? w _ hx164_1)).trans hx164_1
                          replace p164 := eq_true p164
                          replace q164 := eq_true q164
                          go_wp2_with (first | ((with_reducible refine gate_dst (N := 8) rfl ?_); refine box_event ?hg (N := 8) ?hd (cs := #[.int .i64 0, .string (⟨#[]⟩ : ByteArray)]) (t := 41) ?hr ?_; (case hd => rfl); (case hg => rfl); (case hr => first | (go_simp; done) | (go_simp; rfl)); intro gb165 hg w27 hbox hb; have n0_ := Aside0.mk (Kd.Y_below (by (with_reducible repeat (first | apply Kd.Y_alloc | apply Kd.Y_drewN | apply Kd.Y_drew)); exact HO_5.out) hb); have n1_ := Aside0.mk (below_step (by repeat (first | (with_reducible first | exact HB.out | apply below_alloc | apply pw_below_drewN | apply below_drew1) | exact HB.out)) hb); have n2_ := Aside0.mk (hbox); have n3_ := Aside0.mk ((by rw [hg]; exact (below_size (by repeat (first | (with_reducible first | exact HB.out | apply below_alloc | apply pw_below_drewN | apply below_drew1) | exact HB.out))) : w.heap.size ≤ gb165)); have n4_ := Aside0.mk ((by rw [hg]; exact (below_size (by repeat (first | (with_reducible first | exact HB.out | apply below_alloc | apply pw_below_drewN | apply below_drew1) | exact HB.out))) : w.heap.size ≤ gb165)); clear HO_5; clear HB; have HO_5 := n0_; have HB := n1_; have BK165 := n2_; have GW165 := n3_; have GE165 := n4_; clear n0_ n1_ n2_ n3_ n4_; clear hb hbox hg; have hcz28_0 : w27.cell? ⟨gb165, 0, none⟩ = some (.int .i64 0) := (blk_cell BK165.out 0).trans rfl; have hcz28_1 : w27.cell? ⟨gb165, 1, none⟩ = some (.string (⟨#[]⟩ : ByteArray)) := (blk_cell BK165.out 1).trans rfl; have hfz28_0 := blk_frozen BK165.out 0; have hfz28_1 := blk_frozen BK165.out 1) | ((with_reducible refine gate_callee (f := 39) rfl ?_); refine goesL_ (some 23) rfl rfl Try.func39 (by kernel_rfl) rfl #[.int .i64 ((rd_T41 l0 x16_1).f0), .int .i64 2] rfl (by (try simp only [List.map_toArray, List.map_cons, List.map_nil]); first | done | rfl | (simp only [List.length_drop, List.length_take]; rfl)) ?_; (with_reducible refine (wire_Put.calls ((rd_T41 l0 x16_1).f0) 2 t166 t167 _ A7.out).mono ?_); rintro e w29 ⟨rfl, hb⟩; refine ⟨_, rfl, ?_⟩; have n0_ := Aside0.mk (Kd.Y_below (by (with_reducible repeat (first | apply Kd.Y_alloc | apply Kd.Y_drewN | apply Kd.Y_drew)); exact (Kd.Y_mono (Kd.Y_far (p := ⟨gb165, 1, none⟩) (Kd.Y_far (p := ⟨gb165, 0, none⟩) (Kd.Y_types HO_5.out BK165.out (by decide)) (fun _ hk => hk.2) (.int .i64 ((rd_T41 l0 x16_1).f0))) (fun _ hk => hk.2) (.string ((rd_T41 l0 x16_1).f1))) (fun _ h_ => h_.1))) hb); have n1_ := Aside0.mk (blk_below (g := gb165) (o := .cells #[.int .i64 ((rd_T41 l0 x16_1).f0), .string ((rd_T41 l0 x16_1).f1)] 41 (0, 0)) (by (with_reducible repeat (first | refine blk_drewN ?_ _ | refine blk_drew ?_ | refine blk_alloc ?_ _)); refine blk_put (cs := #[.int .i64 ((rd_T41 l0 x16_1).f0), .string (⟨#[]⟩ : ByteArray)]) ?_ 1 _ rfl; (with_reducible repeat (first | refine blk_drewN ?_ _ | refine blk_drew ?_ | refine blk_alloc ?_ _)); refine blk_put (cs := #[.int .i64 0, .string (⟨#[]⟩ : ByteArray)]) ?_ 0 _ rfl; (with_reducible repeat (first | refine blk_drewN ?_ _ | refine blk_drew ?_ | refine blk_alloc ?_ _)); exact BK165.out) hb); have n2_ := Aside0.mk (below_step (by repeat (first | (with_reducible first | exact HB.out | apply below_alloc | apply pw_below_drewN | apply below_drew1 | refine below_set ?_ GE165.out) | exact HB.out)) hb); clear HO_5; clear BK165; clear HB; have HO_5 := n0_; have BK165 := n1_; have HB := n2_; clear n0_ n1_ n2_; (try clear hb); (try clear hb2); (try clear hk); (try clear hi); have hcz30_0 : w29.cell? ⟨gb165, 0, none⟩ = some (.int .i64 ((rd_T41 l0 x16_1).f0)) := (blk_cell BK165.out 0).trans rfl; have hcz30_1 : w29.cell? ⟨gb165, 1, none⟩ = some (.string ((rd_T41 l0 x16_1).f1)) := (blk_cell BK165.out 1).trans rfl; have hfz30_0 := blk_frozen BK165.out 0; have hfz30_1 := blk_frozen BK165.out 1) | ((with_reducible refine gate_callee (f := 40) rfl ?_); refine goesL_ (some 29) rfl rfl Try.func40 (by kernel_rfl) rfl #[.string ((rd_T41 l0 x16_1).f1), .int .i64 2] rfl (by (try simp only [List.map_toArray, List.map_cons, List.map_nil]); first | done | rfl | (simp only [List.length_drop, List.length_take]; rfl)) ?_; (with_reducible refine (wire_PutVec.calls ((rd_T41 l0 x16_1).f1) 2 t168 t169 _ A8.out).mono ?_); rintro e w31 ⟨rfl, hb⟩; refine ⟨_, rfl, ?_⟩; have n0_ := Aside0.mk (Kd.Y_below (by (with_reducible repeat (first | apply Kd.Y_alloc | apply Kd.Y_drewN | apply Kd.Y_drew)); exact HO_5.out) hb); have n1_ := Aside0.mk (blk_below (g := gb165) (o := .cells #[.int .i64 ((rd_T41 l0 x16_1).f0), .string ((rd_T41 l0 x16_1).f1)] 41 (0, 0)) (by (with_reducible repeat (first | refine blk_drewN ?_ _ | refine blk_drew ?_ | refine blk_alloc ?_ _)); exact BK165.out) hb); have n2_ := Aside0.mk (below_step (by repeat (first | (with_reducible first | exact HB.out | apply below_alloc | apply pw_below_drewN | apply below_drew1 | refine below_set ?_ GE165.out) | exact HB.out)) hb); clear HO_5; clear BK165; clear HB; have HO_5 := n0_; have BK165 := n1_; have HB := n2_; clear n0_ n1_ n2_; (try clear hb); (try clear hb2); (try clear hk); (try clear hi); have hcz32_0 : w31.cell? ⟨gb165, 0, none⟩ = some (.int .i64 ((rd_T41 l0 x16_1).f0)) := (blk_cell BK165.out 0).trans rfl; have hcz32_1 : w31.cell? ⟨gb165, 1, none⟩ = some (.string ((rd_T41 l0 x16_1).f1)) := (blk_cell BK165.out 1).trans rfl; have hfz32_0 := blk_frozen BK165.out 0; have hfz32_1 := blk_frozen BK165.out 1) | (at_lookup; (try (refine gate_guard (by rfl) ?_; dsimp only)); refine Kd.Y_look (Kd.int .i64) (ok := fun _ => True) (base := w.heap.size) (xs := x5_1) 3 rfl 68 _ _ rfl Try.underlying68 Try.underlying3 Try.underlying4 (Kd.zeroB _) (v := v162) (k := ((rd_T41 l0 x16_1).f0)) rfl rfl LMc23.out ?aO ?_; (case aO => exact (by (with_reducible repeat (first | apply Kd.Y_alloc | apply Kd.Y_drewN | apply Kd.Y_drew)); exact HO_5.out)); intro w33 hb; have n0_ := Aside0.mk (Kd.Y_below (by (with_reducible repeat (first | apply Kd.Y_alloc | apply Kd.Y_drewN | apply Kd.Y_drew)); exact HO_5.out) hb); have n1_ := Aside0.mk (blk_below (g := gb165) (o := .cells #[.int .i64 ((rd_T41 l0 x16_1).f0), .string ((rd_T41 l0 x16_1).f1)] 41 (0, 0)) (by (with_reducible repeat (first | refine blk_drewN ?_ _ | refine blk_drew ?_ | refine blk_alloc ?_ _)); exact BK165.out) hb); have n2_ := Aside0.mk (below_step (by repeat (first | (with_reducible first | exact HB.out | apply below_alloc | apply pw_below_drewN | apply below_drew1 | refine below_set ?_ GE165.out) | exact HB.out)) hb); clear HO_5; clear BK165; clear HB; have HO_5 := n0_; have BK165 := n1_; have HB := n2_; clear n0_ n1_ n2_; clear hb; have hcz34_0 : w33.cell? ⟨gb165, 0, none⟩ = some (.int .i64 ((rd_T41 l0 x16_1).f0)) := (blk_cell BK165.out 0).trans rfl; have hcz34_1 : w33.cell? ⟨gb165, 1, none⟩ = some (.string ((rd_T41 l0 x16_1).f1)) := (blk_cell BK165.out 1).trans rfl; have hfz34_0 := blk_frozen BK165.out 0; have hfz34_1 := blk_frozen BK165.out 1) | (at_mapUpdate; refine Kd.Y_put (Kd.int .i64) (w0 := w) w.heap.size 3 rfl 68 _ _ _ rfl Try.underlying68 Try.underlying3 Try.underlying4 v162 x5_1 ((rd_T41 l0 x16_1).f0) (ok := fun _ => True) rfl rfl rfl LMc23.out (by have := LMc24.out; simp only [maxLen]; omega) ?aO ?aB ?aS ?_; (case aO => exact (by (with_reducible repeat (first | apply Kd.Y_alloc | apply Kd.Y_drewN | apply Kd.Y_drew)); exact HO_5.out)); (case aB => exact (by repeat (first | (with_reducible first | exact HB.out | apply below_alloc | apply pw_below_drewN | apply below_drew1 | refine below_set ?_ GE165.out) | exact HB.out))); (case aS => exact (below_size (by repeat (first | (with_reducible first | exact HB.out | apply below_alloc | apply pw_below_drewN | apply below_drew1 | refine below_set ?_ GE165.out) | exact HB.out)))); intro w35 ho hb hmt; rw [← Ny175.out] at ho; have n0_ := Aside0.mk (blk_map (g := gb165) (o := .cells #[.int .i64 ((rd_T41 l0 x16_1).f0), .string ((rd_T41 l0 x16_1).f1)] 41 (0, 0)) (by (with_reducible repeat (first | refine blk_drewN ?_ _ | refine blk_drew ?_ | refine blk_alloc ?_ _)); exact BK165.out) hmt); have n1_ := Aside0.mk (hb); have n2_ := Aside0.mk (ho); clear BK165; clear HB; clear HO_5; have BK165 := n0_; have HB := n1_; have HO177 := n2_; clear n0_ n1_ n2_; clear ho hb hmt))
                          go_roundg k1
                          case measure => have := HK1.out; omega
                          case rel => exact ⟨(ys179), (y175), (decide (((rd_T41 l0 x16_1).f0) ∈ x5_1)), (wrap64 (x16_1 + 1)), (by first | rfl | (simp; done) | (simp [*]; done)), (by first | rfl | (simp; done) | (simp [*]; done)), (by first | rfl | (simp; done) | (simp [*]; done)), H', ⟨by have := HK1.out; omega⟩, ⟨by (with_reducible repeat (first | apply Kd.Y_alloc | apply Kd.Y_drewN | apply Kd.Y_drew)); exact HO177.out⟩, ⟨by repeat (first | (with_reducible first | exact HB.out | apply below_alloc | apply pw_below_drewN | apply below_drew1 | refine below_set ?_ GE165.out) | exact HB.out)⟩⟩
                        · rw [if_neg c26] at H
                          exact absurd H (by simp)
                      · rw [if_neg c25] at H
                        exact absurd H (by simp)
                    · rw [if_neg c24] at H
                      exact absurd H (by simp)
                  · rw [if_neg c23] at H
                    exact absurd H (by simp)
              · rw [if_neg c10] at H
                have c10b0 : (t169 == 0) = false := beq_eq_false_iff_ne.mpr c10
                have c10b1 : (t169 != 0) = true := bne_iff_ne.mpr c10
                simp only [Option.some.injEq, Prod.mk.injEq] at H
                obtain ⟨rfl, rfl⟩ := H
                have p164 : 0 ≤ (x16_1 : Int) := of_decide_eq_true (by first | (with_reducible assumption) | assumption)
                have q164 : x16_1 < (l0.length : Int) := of_decide_eq_true (by first | (with_reducible assumption) | assumption)
                obtain ⟨ad164, e164, hx164_0, hx164_1⟩ := at_T41 HR0.out x16_1 p164 q164
                cases e164
                replace hx164_0 := (HB.out.cell (World.block_lt_of_cell? w _ hx164_0)).trans hx164_0
                replace hx164_1 := (HB.out.cell (World.block_lt_of_cell? w _ hx164_1)).trans hx164_1
                replace p164 := eq_true p164
                replace q164 := eq_true q164
                go_wp2_with (first | ((with_reducible refine gate_dst (N := 8) rfl ?_); refine box_event ?hg (N := 8) ?hd (cs := #[.int .i64 0, .string (⟨#[]⟩ : ByteArray)]) (t := 41) ?hr ?_; (case hd => rfl); (case hg => rfl); (case hr => first | (go_simp; done) | (go_simp; rfl)); intro gb165 hg w36 hbox hb; have n0_ := Aside0.mk (Kd.Y_below (by (with_reducible repeat (first | apply Kd.Y_alloc | apply Kd.Y_drewN | apply Kd.Y_drew)); exact HO_5.out) hb); have n1_ := Aside0.mk (below_step (by repeat (first | (with_reducible first | exact HB.out | apply below_alloc | apply pw_below_drewN | apply below_drew1) | exact HB.out)) hb); have n2_ := Aside0.mk (hbox); have n3_ := Aside0.mk ((by rw [hg]; exact (below_size (by repeat (first | (with_reducible first | exact HB.out | apply below_alloc | apply pw_below_drewN | apply below_drew1) | exact HB.out))) : w.heap.size ≤ gb165)); have n4_ := Aside0.mk ((by rw [hg]; exact (below_size (by repeat (first | (with_reducible first | exact HB.out | apply below_alloc | apply pw_below_drewN | apply below_drew1) | exact HB.out))) : w.heap.size ≤ gb165)); clear HO_5; clear HB; have HO_5 := n0_; have HB := n1_; have BK165 := n2_; have GW165 := n3_; have GE165 := n4_; clear n0_ n1_ n2_ n3_ n4_; clear hb hbox hg; have hcz37_0 : w36.cell? ⟨gb165, 0, none⟩ = some (.int .i64 0) := (blk_cell BK165.out 0).trans rfl; have hcz37_1 : w36.cell? ⟨gb165, 1, none⟩ = some (.string (⟨#[]⟩ : ByteArray)) := (blk_cell BK165.out 1).trans rfl; have hfz37_0 := blk_frozen BK165.out 0; have hfz37_1 := blk_frozen BK165.out 1) | ((with_reducible refine gate_callee (f := 39) rfl ?_); refine goesL_ (some 23) rfl rfl Try.func39 (by kernel_rfl) rfl #[.int .i64 ((rd_T41 l0 x16_1).f0), .int .i64 2] rfl (by (try simp only [List.map_toArray, List.map_cons, List.map_nil]); first | done | rfl | (simp only [List.length_drop, List.length_take]; rfl)) ?_; (with_reducible refine (wire_Put.calls ((rd_T41 l0 x16_1).f0) 2 t166 t167 _ A7.out).mono ?_); rintro e w38 ⟨rfl, hb⟩; refine ⟨_, rfl, ?_⟩; have n0_ := Aside0.mk (Kd.Y_below (by (with_reducible repeat (first | apply Kd.Y_alloc | apply Kd.Y_drewN | apply Kd.Y_drew)); exact (Kd.Y_mono (Kd.Y_far (p := ⟨gb165, 1, none⟩) (Kd.Y_far (p := ⟨gb165, 0, none⟩) (Kd.Y_types HO_5.out BK165.out (by decide)) (fun _ hk => hk.2) (.int .i64 ((rd_T41 l0 x16_1).f0))) (fun _ hk => hk.2) (.string ((rd_T41 l0 x16_1).f1))) (fun _ h_ => h_.1))) hb); have n1_ := Aside0.mk (blk_below (g := gb165) (o := .cells #[.int .i64 ((rd_T41 l0 x16_1).f0), .string ((rd_T41 l0 x16_1).f1)] 41 (0, 0)) (by (with_reducible repeat (first | refine blk_drewN ?_ _ | refine blk_drew ?_ | refine blk_alloc ?_ _)); refine blk_put (cs := #[.int .i64 ((rd_T41 l0 x16_1).f0), .string (⟨#[]⟩ : ByteArray)]) ?_ 1 _ rfl; (with_reducible repeat (first | refine blk_drewN ?_ _ | refine blk_drew ?_ | refine blk_alloc ?_ _)); refine blk_put (cs := #[.int .i64 0, .string (⟨#[]⟩ : ByteArray)]) ?_ 0 _ rfl; (with_reducible repeat (first | refine blk_drewN ?_ _ | refine blk_drew ?_ | refine blk_alloc ?_ _)); exact BK165.out) hb); have n2_ := Aside0.mk (below_step (by repeat (first | (with_reducible first | exact HB.out | apply below_alloc | apply pw_below_drewN | apply below_drew1 | refine below_set ?_ GE165.out) | exact HB.out)) hb); clear HO_5; clear BK165; clear HB; have HO_5 := n0_; have BK165 := n1_; have HB := n2_; clear n0_ n1_ n2_; (try clear hb); (try clear hb2); (try clear hk); (try clear hi); have hcz39_0 : w38.cell? ⟨gb165, 0, none⟩ = some (.int .i64 ((rd_T41 l0 x16_1).f0)) := (blk_cell BK165.out 0).trans rfl; have hcz39_1 : w38.cell? ⟨gb165, 1, none⟩ = some (.string ((rd_T41 l0 x16_1).f1)) := (blk_cell BK165.out 1).trans rfl; have hfz39_0 := blk_frozen BK165.out 0; have hfz39_1 := blk_frozen BK165.out 1) | ((with_reducible refine gate_callee (f := 40) rfl ?_); refine goesL_ (some 29) rfl rfl Try.func40 (by kernel_rfl) rfl #[.string ((rd_T41 l0 x16_1).f1), .int .i64 2] rfl (by (try simp only [List.map_toArray, List.map_cons, List.map_nil]); first | done | rfl | (simp only [List.length_drop, List.length_take]; rfl)) ?_; (with_reducible refine (wire_PutVec.calls ((rd_T41 l0 x16_1).f1) 2 t168 t169 _ A8.out).mono ?_); rintro e w40 ⟨rfl, hb⟩; refine ⟨_, rfl, ?_⟩; have n0_ := Aside0.mk (Kd.Y_below (by (with_reducible repeat (first | apply Kd.Y_alloc | apply Kd.Y_drewN | apply Kd.Y_drew)); exact HO_5.out) hb); have n1_ := Aside0.mk (blk_below (g := gb165) (o := .cells #[.int .i64 ((rd_T41 l0 x16_1).f0), .string ((rd_T41 l0 x16_1).f1)] 41 (0, 0)) (by (with_reducible repeat (first | refine blk_drewN ?_ _ | refine blk_drew ?_ | refine blk_alloc ?_ _)); exact BK165.out) hb); have n2_ := Aside0.mk (below_step (by repeat (first | (with_reducible first | exact HB.out | apply below_alloc | apply pw_below_drewN | apply below_drew1 | refine below_set ?_ GE165.out) | exact HB.out)) hb); clear HO_5; clear BK165; clear HB; have HO_5 := n0_; have BK165 := n1_; have HB := n2_; clear n0_ n1_ n2_; (try clear hb); (try clear hb2); (try clear hk); (try clear hi)))
                go_ret2
                exact ⟨by first | rfl | (simp [errW_none, errW_some] <;> rfl) | (simp [*, errW_none, errW_some] <;> rfl), by repeat (first | (with_reducible first | exact HB.out | apply below_alloc | apply pw_below_drewN | apply below_drew1 | refine below_set ?_ GE165.out) | exact HB.out)⟩
            · rw [if_neg c9] at H
              have c9b0 : (t167 == 0) = false := beq_eq_false_iff_ne.mpr c9
              have c9b1 : (t167 != 0) = true := bne_iff_ne.mpr c9
              simp only [Option.some.injEq, Prod.mk.injEq] at H
              obtain ⟨rfl, rfl⟩ := H
              have p164 : 0 ≤ (x16_1 : Int) := of_decide_eq_true (by first | (with_reducible assumption) | assumption)
              have q164 : x16_1 < (l0.length : Int) := of_decide_eq_true (by first | (with_reducible assumption) | assumption)
              obtain ⟨ad164, e164, hx164_0, hx164_1⟩ := at_T41 HR0.out x16_1 p164 q164
              cases e164
              replace hx164_0 := (HB.out.cell (World.block_lt_of_cell? w _ hx164_0)).trans hx164_0
              replace hx164_1 := (HB.out.cell (World.block_lt_of_cell? w _ hx164_1)).trans hx164_1
              replace p164 := eq_true p164
              replace q164 := eq_true q164
              go_wp2_with (first | ((with_reducible refine gate_dst (N := 8) rfl ?_); refine box_event ?hg (N := 8) ?hd (cs := #[.int .i64 0, .string (⟨#[]⟩ : ByteArray)]) (t := 41) ?hr ?_; (case hd => rfl); (case hg => rfl); (case hr => first | (go_simp; done) | (go_simp; rfl)); intro gb165 hg w41 hbox hb; have n0_ := Aside0.mk (Kd.Y_below (by (with_reducible repeat (first | apply Kd.Y_alloc | apply Kd.Y_drewN | apply Kd.Y_drew)); exact HO_5.out) hb); have n1_ := Aside0.mk (below_step (by repeat (first | (with_reducible first | exact HB.out | apply below_alloc | apply pw_below_drewN | apply below_drew1) | exact HB.out)) hb); have n2_ := Aside0.mk (hbox); have n3_ := Aside0.mk ((by rw [hg]; exact (below_size (by repeat (first | (with_reducible first | exact HB.out | apply below_alloc | apply pw_below_drewN | apply below_drew1) | exact HB.out))) : w.heap.size ≤ gb165)); have n4_ := Aside0.mk ((by rw [hg]; exact (below_size (by repeat (first | (with_reducible first | exact HB.out | apply below_alloc | apply pw_below_drewN | apply below_drew1) | exact HB.out))) : w.heap.size ≤ gb165)); clear HO_5; clear HB; have HO_5 := n0_; have HB := n1_; have BK165 := n2_; have GW165 := n3_; have GE165 := n4_; clear n0_ n1_ n2_ n3_ n4_; clear hb hbox hg; have hcz42_0 : w41.cell? ⟨gb165, 0, none⟩ = some (.int .i64 0) := (blk_cell BK165.out 0).trans rfl; have hcz42_1 : w41.cell? ⟨gb165, 1, none⟩ = some (.string (⟨#[]⟩ : ByteArray)) := (blk_cell BK165.out 1).trans rfl; have hfz42_0 := blk_frozen BK165.out 0; have hfz42_1 := blk_frozen BK165.out 1) | ((with_reducible refine gate_callee (f := 39) rfl ?_); refine goesL_ (some 23) rfl rfl Try.func39 (by kernel_rfl) rfl #[.int .i64 ((rd_T41 l0 x16_1).f0), .int .i64 2] rfl (by (try simp only [List.map_toArray, List.map_cons, List.map_nil]); first | done | rfl | (simp only [List.length_drop, List.length_take]; rfl)) ?_; (with_reducible refine (wire_Put.calls ((rd_T41 l0 x16_1).f0) 2 t166 t167 _ A7.out).mono ?_); rintro e w43 ⟨rfl, hb⟩; refine ⟨_, rfl, ?_⟩; have n0_ := Aside0.mk (Kd.Y_below (by (with_reducible repeat (first | apply Kd.Y_alloc | apply Kd.Y_drewN | apply Kd.Y_drew)); exact (Kd.Y_mono (Kd.Y_far (p := ⟨gb165, 1, none⟩) (Kd.Y_far (p := ⟨gb165, 0, none⟩) (Kd.Y_types HO_5.out BK165.out (by decide)) (fun _ hk => hk.2) (.int .i64 ((rd_T41 l0 x16_1).f0))) (fun _ hk => hk.2) (.string ((rd_T41 l0 x16_1).f1))) (fun _ h_ => h_.1))) hb); have n1_ := Aside0.mk (blk_below (g := gb165) (o := .cells #[.int .i64 ((rd_T41 l0 x16_1).f0), .string ((rd_T41 l0 x16_1).f1)] 41 (0, 0)) (by (with_reducible repeat (first | refine blk_drewN ?_ _ | refine blk_drew ?_ | refine blk_alloc ?_ _)); refine blk_put (cs := #[.int .i64 ((rd_T41 l0 x16_1).f0), .string (⟨#[]⟩ : ByteArray)]) ?_ 1 _ rfl; (with_reducible repeat (first | refine blk_drewN ?_ _ | refine blk_drew ?_ | refine blk_alloc ?_ _)); refine blk_put (cs := #[.int .i64 0, .string (⟨#[]⟩ : ByteArray)]) ?_ 0 _ rfl; (with_reducible repeat (first | refine blk_drewN ?_ _ | refine blk_drew ?_ | refine blk_alloc ?_ _)); exact BK165.out) hb); have n2_ := Aside0.mk (below_step (by repeat (first | (with_reducible first | exact HB.out | apply below_alloc | apply pw_below_drewN | apply below_drew1 | refine below_set ?_ GE165.out) | exact HB.out)) hb); clear HO_5; clear BK165; clear HB; have HO_5 := n0_; have BK165 := n1_; have HB := n2_; clear n0_ n1_ n2_; (try clear hb); (try clear hb2); (try clear hk); (try clear hi); have hcz44_0 : w43.cell? ⟨gb165, 0, none⟩ = some (.int .i64 ((rd_T41 l0 x16_1).f0)) := (blk_cell BK165.out 0).trans rfl; have hcz44_1 : w43.cell? ⟨gb165, 1, none⟩ = some (.string ((rd_T41 l0 x16_1).f1)) := (blk_cell BK165.out 1).trans rfl; have hfz44_0 := blk_frozen BK165.out 0; have hfz44_1 := blk_frozen BK165.out 1) | ((with_reducible refine gate_callee (f := 40) rfl ?_); refine goesL_ (some 29) rfl rfl Try.func40 (by kernel_rfl) rfl #[.string ((rd_T41 l0 x16_1).f1), .int .i64 2] rfl (by (try simp only [List.map_toArray, List.map_cons, List.map_nil]); first | done | rfl | (simp only [List.length_drop, List.length_take]; rfl)) ?_; (with_reducible refine (wire_PutVec.calls ((rd_T41 l0 x16_1).f1) 2 t168 t169 _ A8.out).mono ?_); rintro e w45 ⟨rfl, hb⟩; refine ⟨_, rfl, ?_⟩; have n0_ := Aside0.mk (Kd.Y_below (by (with_reducible repeat (first | apply Kd.Y_alloc | apply Kd.Y_drewN | apply Kd.Y_drew)); exact HO_5.out) hb); have n1_ := Aside0.mk (blk_below (g := gb165) (o := .cells #[.int .i64 ((rd_T41 l0 x16_1).f0), .string ((rd_T41 l0 x16_1).f1)] 41 (0, 0)) (by (with_reducible repeat (first | refine blk_drewN ?_ _ | refine blk_drew ?_ | refine blk_alloc ?_ _)); exact BK165.out) hb); have n2_ := Aside0.mk (below_step (by repeat (first | (with_reducible first | exact HB.out | apply below_alloc | apply pw_below_drewN | apply below_drew1 | refine below_set ?_ GE165.out) | exact HB.out)) hb); clear HO_5; clear BK165; clear HB; have HO_5 := n0_; have BK165 := n1_; have HB := n2_; clear n0_ n1_ n2_; (try clear hb); (try clear hb2); (try clear hk); (try clear hi)))
              go_ret2
              exact ⟨by first | rfl | (simp [errW_none, errW_some] <;> rfl) | (simp [*, errW_none, errW_some] <;> rfl), by repeat (first | (with_reducible first | exact HB.out | apply below_alloc | apply pw_below_drewN | apply below_drew1 | refine below_set ?_ GE165.out) | exact HB.out)⟩
          · rw [if_neg c6] at H
            exact absurd H (by simp)
        · rw [if_neg c5] at H
          exact absurd H (by simp)
      · rw [if_neg c4] at H
        have c4b0 : decide (x16_1 < (l0.length : Int)) = false := decide_eq_false c4
        clear c4
        by_cases c46 : x6_1 = true
        · subst c46
          have H1 : (some ((⟨#[]⟩ : ByteArray), 1601)) = some (r1, r2) := by rw [if_pos rfl] at H; exact H
          clear H
          have H := H1
          clear H1
          simp only [Option.some.injEq, Prod.mk.injEq] at H
          obtain ⟨rfl, rfl⟩ := H
          go_wp2
          go_ret2
          exact ⟨by first | rfl | (simp [errW_none, errW_some] <;> rfl) | (simp [*, errW_none, errW_some] <;> rfl), by repeat (first | (with_reducible first | exact HB.out | apply below_alloc | apply pw_below_drewN | apply below_drew1) | exact HB.out)⟩
        · replace c46 := Bool.eq_false_iff.mpr c46
          subst c46
          have H1 : (some (x4_1, 0)) = some (r1, r2) := by rw [if_neg (show ¬ (false = true) by decide)] at H; exact H
          clear H
          have H := H1
          clear H1
          simp only [Option.some.injEq, Prod.mk.injEq] at H
          obtain ⟨rfl, rfl⟩ := H
          go_wp2
          go_ret2
          exact ⟨by first | rfl | (simp [errW_none, errW_some] <;> rfl) | (simp [*, errW_none, errW_some] <;> rfl), by repeat (first | (with_reducible first | exact HB.out | apply below_alloc | apply pw_below_drewN | apply below_drew1) | exact HB.out)⟩
def halberdlaw0_Num.f (a0 : Int) : Option (Int) := some a0
set_option maxHeartbeats 8000000 in
set_option maxRecDepth 100000 in
theorem halberdlaw0_Num.calls (a0 : Int) (r : Int) (w : World) (h : halberdlaw0_Num.f a0 = some r) :
    Calls Try.prog 18 #[.int .i64 a0] w fun e w' => e = .returned (.int .i64 r) ∧ Drawn0 w w' := by
  have H : (some a0) = some r := h
  clear h
  obtain rfl := Option.some.inj H
  go_enter Try.func18, Try.ntmps18
  go_wp2
  go_ret
  exact ⟨by first | rfl | (simp; done) | (simp [*]; done), by repeat (first | exact Drawn0.refl _ | apply Drawn0.step)⟩
end Go.Proofs.Ytlkebjkpmiehcaa.E
end
section
namespace Go.Proofs.Ytlkebjkpmiehcaa.E
open Go.RowKit Go.Proofs.YtlkebjkpmiehcaaW.PrintWords Go.Proofs.YtlkebjkpmiehcaaW.PrintLast Go.Proofs.YtlkebjkpmiehcaaW.PrintMore
attribute [local go_sem] max2_int min2_int max_two min_two max_three min_three max_four min_four   
set_option linter.unusedVariables false
set_option linter.unusedSimpArgs false
def halberdlaw16_awake0.f (k : Nat)  : Option (Bool) := (ext_Put.f k (([(⟨5, (⟨#[97, 98]⟩ : ByteArray)⟩ : S41), (⟨6, (⟨#[]⟩ : ByteArray)⟩ : S41)] : List (S41)))).bind fun bt183 => ((ext_Get.f k bt183.1).bind fun bt185 => (if bt183.1.size + bt183.1.size ≤ 9223372036854775807 then ((ext_Get.f k (bt183.1 ++ bt183.1)).bind fun bt190 => (if bt183.1.size + 1 ≤ 9223372036854775807 then ((ext_Get.f k (bt183.1 ++ (⟨#[120]⟩ : ByteArray))).bind fun bt195 => ((ext_Put.f k (([(⟨(-1), (⟨#[]⟩ : ByteArray)⟩ : S41)] : List (S41)))).bind fun bt202 => (if bt183.1.toList = ([0, 5, 0, 2, 97, 98, 0, 6, 0, 0] : List UInt8) then ((halberdlaw0_Num.f bt183.2).bind fun t204 => (if t204 = 0 then (if (bt185.1.length : Int) = 2 then (if 0 < (bt185.1.length : Int) then (if ((rd_T41 bt185.1 0).f1).toList = ([97, 98] : List UInt8) then ((halberdlaw0_Num.f bt185.2).bind fun t206 => (if t206 = 0 then ((halberdlaw0_Num.f bt190.2).bind fun t207 => (if t207 = 1601 then ((halberdlaw0_Num.f bt195.2).bind fun t208 => (if t208 = 1600 then ((halberdlaw0_Num.f bt202.2).bind fun t209 => (some (t209 == 1600))) else (some false))) else (some false))) else (some false))) else (some false)) else (none)) else (some false)) else (some false))) else (some false)))) else (none))) else (none)))
theorem halberdlaw16_awake0.mono : ∀ k, LeO (halberdlaw16_awake0.f k ) (halberdlaw16_awake0.f (k + 1) ) := by
  intro  k
  unfold halberdlaw16_awake0.f
  repeat' first
      | (with_reducible exact ext_Get.mono _ _)
      | (with_reducible exact ext_Put.mono _ _)
      | (with_reducible exact LeO.refl _)
      | (with_reducible exact LeO.none _)
      | (with_reducible refine LeO.ite ?_ ?_)
      | (with_reducible refine LeO.bind ?_ (fun _ => ?_))
      | exact ext_Get.mono _ _
      | exact ext_Put.mono _ _
      | exact LeO.none _
      | refine LeO.ite ?_ ?_
      | refine LeO.bind ?_ (fun _ => ?_)
set_option maxHeartbeats 8000000 in
set_option maxRecDepth 100000 in
theorem halberdlaw16_awake0.calls (k : Nat)  (r : Bool) (w : World) (h : halberdlaw16_awake0.f k  = some r) (hr : Aside0 (r = true)) :
    Calls Try.prog 21 #[] w fun e w' => e = .returned (.bool r) ∧ Below w.heap.size w w' := by
  have hu41 := Try.underlying41
  have HB := Aside0.mk (Below.refl w.heap.size w)
  have H : ((ext_Put.f k (([(⟨5, (⟨#[97, 98]⟩ : ByteArray)⟩ : S41), (⟨6, (⟨#[]⟩ : ByteArray)⟩ : S41)] : List (S41)))).bind fun bt183 => ((ext_Get.f k bt183.1).bind fun bt185 => (if bt183.1.size + bt183.1.size ≤ 9223372036854775807 then ((ext_Get.f k (bt183.1 ++ bt183.1)).bind fun bt190 => (if bt183.1.size + 1 ≤ 9223372036854775807 then ((ext_Get.f k (bt183.1 ++ (⟨#[120]⟩ : ByteArray))).bind fun bt195 => ((ext_Put.f k (([(⟨(-1), (⟨#[]⟩ : ByteArray)⟩ : S41)] : List (S41)))).bind fun bt202 => (if bt183.1.toList = ([0, 5, 0, 2, 97, 98, 0, 6, 0, 0] : List UInt8) then ((halberdlaw0_Num.f bt183.2).bind fun t204 => (if t204 = 0 then (if (bt185.1.length : Int) = 2 then (if 0 < (bt185.1.length : Int) then (if ((rd_T41 bt185.1 0).f1).toList = ([97, 98] : List UInt8) then ((halberdlaw0_Num.f bt185.2).bind fun t206 => (if t206 = 0 then ((halberdlaw0_Num.f bt190.2).bind fun t207 => (if t207 = 1601 then ((halberdlaw0_Num.f bt195.2).bind fun t208 => (if t208 = 1600 then ((halberdlaw0_Num.f bt202.2).bind fun t209 => (some (t209 == 1600))) else (some false))) else (some false))) else (some false))) else (some false)) else (none)) else (some false)) else (some false))) else (some false)))) else (none))) else (none)))) = some r := h
  clear h
  obtain ⟨y180, hy180⟩ : ∃ y_ : List (S41), y_ = (([(⟨5, (⟨#[97, 98]⟩ : ByteArray)⟩ : S41), (⟨6, (⟨#[]⟩ : ByteArray)⟩ : S41)] : List (S41))) := ⟨_, rfl⟩
  replace H : ((ext_Put.f k y180).bind fun bt183 => ((ext_Get.f k bt183.1).bind fun bt185 => (if bt183.1.size + bt183.1.size ≤ 9223372036854775807 then ((ext_Get.f k (bt183.1 ++ bt183.1)).bind fun bt190 => (if bt183.1.size + 1 ≤ 9223372036854775807 then ((ext_Get.f k (bt183.1 ++ (⟨#[120]⟩ : ByteArray))).bind fun bt195 => ((ext_Put.f k (([(⟨(-1), (⟨#[]⟩ : ByteArray)⟩ : S41)] : List (S41)))).bind fun bt202 => (if bt183.1.toList = ([0, 5, 0, 2, 97, 98, 0, 6, 0, 0] : List UInt8) then ((halberdlaw0_Num.f bt183.2).bind fun t204 => (if t204 = 0 then (if (bt185.1.length : Int) = 2 then (if 0 < (bt185.1.length : Int) then (if ((rd_T41 bt185.1 0).f1).toList = ([97, 98] : List UInt8) then ((halberdlaw0_Num.f bt185.2).bind fun t206 => (if t206 = 0 then ((halberdlaw0_Num.f bt190.2).bind fun t207 => (if t207 = 1601 then ((halberdlaw0_Num.f bt195.2).bind fun t208 => (if t208 = 1600 then ((halberdlaw0_Num.f bt202.2).bind fun t209 => (some (t209 == 1600))) else (some false))) else (some false))) else (some false))) else (some false)) else (none)) else (some false)) else (some false))) else (some false)))) else (none))) else (none)))) = some r := by first | (rw [hy180]; with_reducible exact H) | (have H2_ := (Option.bind_some _ _).symm.trans H; rw [hy180]; with_reducible exact H2_) | (have H2_ := (Option.bind_some _ _).symm.trans H; with_reducible exact H2_) | with_reducible exact H | (rw [hy180]; exact H) | exact H
  have Ny180 := Aside0.mk hy180
  clear hy180
  replace H := Option.bind_eq_some_iff.mp H
  obtain ⟨⟨t183, t184⟩, A10, H⟩ := H
  replace H : ((ext_Get.f k t183).bind fun bt185 => (if t183.size + t183.size ≤ 9223372036854775807 then ((ext_Get.f k (t183 ++ t183)).bind fun bt190 => (if t183.size + 1 ≤ 9223372036854775807 then ((ext_Get.f k (t183 ++ (⟨#[120]⟩ : ByteArray))).bind fun bt195 => ((ext_Put.f k (([(⟨(-1), (⟨#[]⟩ : ByteArray)⟩ : S41)] : List (S41)))).bind fun bt202 => (if t183.toList = ([0, 5, 0, 2, 97, 98, 0, 6, 0, 0] : List UInt8) then ((halberdlaw0_Num.f t184).bind fun t204 => (if t204 = 0 then (if (bt185.1.length : Int) = 2 then (if 0 < (bt185.1.length : Int) then (if ((rd_T41 bt185.1 0).f1).toList = ([97, 98] : List UInt8) then ((halberdlaw0_Num.f bt185.2).bind fun t206 => (if t206 = 0 then ((halberdlaw0_Num.f bt190.2).bind fun t207 => (if t207 = 1601 then ((halberdlaw0_Num.f bt195.2).bind fun t208 => (if t208 = 1600 then ((halberdlaw0_Num.f bt202.2).bind fun t209 => (some (t209 == 1600))) else (some false))) else (some false))) else (some false))) else (some false)) else (none)) else (some false)) else (some false))) else (some false)))) else (none))) else (none))) = some r := H
  have A1 := Aside0.mk A10
  clear A10
  replace H := Option.bind_eq_some_iff.mp H
  obtain ⟨⟨t185, t186⟩, A20, H⟩ := H
  replace H : (if t183.size + t183.size ≤ 9223372036854775807 then ((ext_Get.f k (t183 ++ t183)).bind fun bt190 => (if t183.size + 1 ≤ 9223372036854775807 then ((ext_Get.f k (t183 ++ (⟨#[120]⟩ : ByteArray))).bind fun bt195 => ((ext_Put.f k (([(⟨(-1), (⟨#[]⟩ : ByteArray)⟩ : S41)] : List (S41)))).bind fun bt202 => (if t183.toList = ([0, 5, 0, 2, 97, 98, 0, 6, 0, 0] : List UInt8) then ((halberdlaw0_Num.f t184).bind fun t204 => (if t204 = 0 then (if (t185.length : Int) = 2 then (if 0 < (t185.length : Int) then (if ((rd_T41 t185 0).f1).toList = ([97, 98] : List UInt8) then ((halberdlaw0_Num.f t186).bind fun t206 => (if t206 = 0 then ((halberdlaw0_Num.f bt190.2).bind fun t207 => (if t207 = 1601 then ((halberdlaw0_Num.f bt195.2).bind fun t208 => (if t208 = 1600 then ((halberdlaw0_Num.f bt202.2).bind fun t209 => (some (t209 == 1600))) else (some false))) else (some false))) else (some false))) else (some false)) else (none)) else (some false)) else (some false))) else (some false)))) else (none))) else (none)) = some r := H
  have A2 := Aside0.mk A20
  clear A20
  by_cases c3 : t183.size + t183.size ≤ 9223372036854775807
  · rw [if_pos c3] at H
    have c3b0 := eq_true c3
    have c3b1 : decide (t183.size + t183.size ≤ 9223372036854775807) = true := decide_eq_true c3
    try have c3b2 : (9223372036854775807 < t183.size + t183.size) = False := eq_false (Nat.not_lt.2 c3)
    obtain ⟨ys189, hys189⟩ : ∃ y_ : ByteArray, y_ = (t183 ++ t183) := ⟨_, rfl⟩
    replace H : ((ext_Get.f k ys189).bind fun bt190 => (if t183.size + 1 ≤ 9223372036854775807 then ((ext_Get.f k (t183 ++ (⟨#[120]⟩ : ByteArray))).bind fun bt195 => ((ext_Put.f k (([(⟨(-1), (⟨#[]⟩ : ByteArray)⟩ : S41)] : List (S41)))).bind fun bt202 => (if t183.toList = ([0, 5, 0, 2, 97, 98, 0, 6, 0, 0] : List UInt8) then ((halberdlaw0_Num.f t184).bind fun t204 => (if t204 = 0 then (if (t185.length : Int) = 2 then (if 0 < (t185.length : Int) then (if ((rd_T41 t185 0).f1).toList = ([97, 98] : List UInt8) then ((halberdlaw0_Num.f t186).bind fun t206 => (if t206 = 0 then ((halberdlaw0_Num.f bt190.2).bind fun t207 => (if t207 = 1601 then ((halberdlaw0_Num.f bt195.2).bind fun t208 => (if t208 = 1600 then ((halberdlaw0_Num.f bt202.2).bind fun t209 => (some (t209 == 1600))) else (some false))) else (some false))) else (some false))) else (some false)) else (none)) else (some false)) else (some false))) else (some false)))) else (none))) = some r := by first | (rw [hys189]; with_reducible exact H) | (have H2_ := (Option.bind_some _ _).symm.trans H; rw [hys189]; with_reducible exact H2_) | (have H2_ := (Option.bind_some _ _).symm.trans H; with_reducible exact H2_) | with_reducible exact H | (rw [hys189]; exact H) | exact H
    have Nys189 := Aside0.mk hys189
    clear hys189
    have Sys189 := Nys189.out.symm
    replace H := Option.bind_eq_some_iff.mp H
    obtain ⟨⟨t190, t191⟩, A40, H⟩ := H
    replace H : (if t183.size + 1 ≤ 9223372036854775807 then ((ext_Get.f k (t183 ++ (⟨#[120]⟩ : ByteArray))).bind fun bt195 => ((ext_Put.f k (([(⟨(-1), (⟨#[]⟩ : ByteArray)⟩ : S41)] : List (S41)))).bind fun bt202 => (if t183.toList = ([0, 5, 0, 2, 97, 98, 0, 6, 0, 0] : List UInt8) then ((halberdlaw0_Num.f t184).bind fun t204 => (if t204 = 0 then (if (t185.length : Int) = 2 then (if 0 < (t185.length : Int) then (if ((rd_T41 t185 0).f1).toList = ([97, 98] : List UInt8) then ((halberdlaw0_Num.f t186).bind fun t206 => (if t206 = 0 then ((halberdlaw0_Num.f t191).bind fun t207 => (if t207 = 1601 then ((halberdlaw0_Num.f bt195.2).bind fun t208 => (if t208 = 1600 then ((halberdlaw0_Num.f bt202.2).bind fun t209 => (some (t209 == 1600))) else (some false))) else (some false))) else (some false))) else (some false)) else (none)) else (some false)) else (some false))) else (some false)))) else (none)) = some r := H
    have A4 := Aside0.mk A40
    clear A40
    by_cases c5 : t183.size + 1 ≤ 9223372036854775807
    · rw [if_pos c5] at H
      have c5b0 := eq_true c5
      have c5b1 : decide (t183.size + 1 ≤ 9223372036854775807) = true := decide_eq_true c5
      try have c5b2 : (9223372036854775807 < t183.size + 1) = False := eq_false (Nat.not_lt.2 c5)
      obtain ⟨ys194, hys194⟩ : ∃ y_ : ByteArray, y_ = (t183 ++ (⟨#[120]⟩ : ByteArray)) := ⟨_, rfl⟩
      replace H : ((ext_Get.f k ys194).bind fun bt195 => ((ext_Put.f k (([(⟨(-1), (⟨#[]⟩ : ByteArray)⟩ : S41)] : List (S41)))).bind fun bt202 => (if t183.toList = ([0, 5, 0, 2, 97, 98, 0, 6, 0, 0] : List UInt8) then ((halberdlaw0_Num.f t184).bind fun t204 => (if t204 = 0 then (if (t185.length : Int) = 2 then (if 0 < (t185.length : Int) then (if ((rd_T41 t185 0).f1).toList = ([97, 98] : List UInt8) then ((halberdlaw0_Num.f t186).bind fun t206 => (if t206 = 0 then ((halberdlaw0_Num.f t191).bind fun t207 => (if t207 = 1601 then ((halberdlaw0_Num.f bt195.2).bind fun t208 => (if t208 = 1600 then ((halberdlaw0_Num.f bt202.2).bind fun t209 => (some (t209 == 1600))) else (some false))) else (some false))) else (some false))) else (some false)) else (none)) else (some false)) else (some false))) else (some false)))) = some r := by first | (rw [hys194]; with_reducible exact H) | (have H2_ := (Option.bind_some _ _).symm.trans H; rw [hys194]; with_reducible exact H2_) | (have H2_ := (Option.bind_some _ _).symm.trans H; with_reducible exact H2_) | with_reducible exact H | (rw [hys194]; exact H) | exact H
      have Nys194 := Aside0.mk hys194
      clear hys194
      have Sys194 := Nys194.out.symm
      replace H := Option.bind_eq_some_iff.mp H
      obtain ⟨⟨t195, t196⟩, A60, H⟩ := H
      replace H : ((ext_Put.f k (([(⟨(-1), (⟨#[]⟩ : ByteArray)⟩ : S41)] : List (S41)))).bind fun bt202 => (if t183.toList = ([0, 5, 0, 2, 97, 98, 0, 6, 0, 0] : List UInt8) then ((halberdlaw0_Num.f t184).bind fun t204 => (if t204 = 0 then (if (t185.length : Int) = 2 then (if 0 < (t185.length : Int) then (if ((rd_T41 t185 0).f1).toList = ([97, 98] : List UInt8) then ((halberdlaw0_Num.f t186).bind fun t206 => (if t206 = 0 then ((halberdlaw0_Num.f t191).bind fun t207 => (if t207 = 1601 then ((halberdlaw0_Num.f t196).bind fun t208 => (if t208 = 1600 then ((halberdlaw0_Num.f bt202.2).bind fun t209 => (some (t209 == 1600))) else (some false))) else (some false))) else (some false))) else (some false)) else (none)) else (some false)) else (some false))) else (some false))) = some r := H
      have A6 := Aside0.mk A60
      clear A60
      obtain ⟨y199, hy199⟩ : ∃ y_ : List (S41), y_ = (([(⟨(-1), (⟨#[]⟩ : ByteArray)⟩ : S41)] : List (S41))) := ⟨_, rfl⟩
      replace H : ((ext_Put.f k y199).bind fun bt202 => (if t183.toList = ([0, 5, 0, 2, 97, 98, 0, 6, 0, 0] : List UInt8) then ((halberdlaw0_Num.f t184).bind fun t204 => (if t204 = 0 then (if (t185.length : Int) = 2 then (if 0 < (t185.length : Int) then (if ((rd_T41 t185 0).f1).toList = ([97, 98] : List UInt8) then ((halberdlaw0_Num.f t186).bind fun t206 => (if t206 = 0 then ((halberdlaw0_Num.f t191).bind fun t207 => (if t207 = 1601 then ((halberdlaw0_Num.f t196).bind fun t208 => (if t208 = 1600 then ((halberdlaw0_Num.f bt202.2).bind fun t209 => (some (t209 == 1600))) else (some false))) else (some false))) else (some false))) else (some false)) else (none)) else (some false)) else (some false))) else (some false))) = some r := by first | (rw [hy199]; with_reducible exact H) | (have H2_ := (Option.bind_some _ _).symm.trans H; rw [hy199]; with_reducible exact H2_) | (have H2_ := (Option.bind_some _ _).symm.trans H; with_reducible exact H2_) | with_reducible exact H | (rw [hy199]; exact H) | exact H
      have Ny199 := Aside0.mk hy199
      clear hy199
      replace H := Option.bind_eq_some_iff.mp H
      obtain ⟨⟨t202, t203⟩, A70, H⟩ := H
      replace H : (if t183.toList = ([0, 5, 0, 2, 97, 98, 0, 6, 0, 0] : List UInt8) then ((halberdlaw0_Num.f t184).bind fun t204 => (if t204 = 0 then (if (t185.length : Int) = 2 then (if 0 < (t185.length : Int) then (if ((rd_T41 t185 0).f1).toList = ([97, 98] : List UInt8) then ((halberdlaw0_Num.f t186).bind fun t206 => (if t206 = 0 then ((halberdlaw0_Num.f t191).bind fun t207 => (if t207 = 1601 then ((halberdlaw0_Num.f t196).bind fun t208 => (if t208 = 1600 then ((halberdlaw0_Num.f t203).bind fun t209 => (some (t209 == 1600))) else (some false))) else (some false))) else (some false))) else (some false)) else (none)) else (some false)) else (some false))) else (some false)) = some r := H
      have A7 := Aside0.mk A70
      clear A70
      by_cases c8 : t183.toList = ([0, 5, 0, 2, 97, 98, 0, 6, 0, 0] : List UInt8)
      · rw [if_pos c8] at H
        have c8b0 : (t183.toList == ([0, 5, 0, 2, 97, 98, 0, 6, 0, 0] : List UInt8)) = true := beq_iff_eq.mpr c8
        have c8b1 : (t183.toList != ([0, 5, 0, 2, 97, 98, 0, 6, 0, 0] : List UInt8)) = false := bne_eq_false_iff_eq.mpr c8
        clear c8
        replace H := Option.bind_eq_some_iff.mp H
        obtain ⟨t204, A90, H⟩ := H
        replace H : (if t204 = 0 then (if (t185.length : Int) = 2 then (if 0 < (t185.length : Int) then (if ((rd_T41 t185 0).f1).toList = ([97, 98] : List UInt8) then ((halberdlaw0_Num.f t186).bind fun t206 => (if t206 = 0 then ((halberdlaw0_Num.f t191).bind fun t207 => (if t207 = 1601 then ((halberdlaw0_Num.f t196).bind fun t208 => (if t208 = 1600 then ((halberdlaw0_Num.f t203).bind fun t209 => (some (t209 == 1600))) else (some false))) else (some false))) else (some false))) else (some false)) else (none)) else (some false)) else (some false)) = some r := H
        have A9 := Aside0.mk A90
        clear A90
        by_cases c10 : t204 = 0
        · rw [if_pos c10] at H
          have c10b0 : (t204 == 0) = true := beq_iff_eq.mpr c10
          have c10b1 : (t204 != 0) = false := bne_eq_false_iff_eq.mpr c10
          clear c10
          by_cases c11 : (t185.length : Int) = 2
          · rw [if_pos c11] at H
            have c11b0 : ((t185.length : Int) == 2) = true := beq_iff_eq.mpr c11
            have c11b1 : ((t185.length : Int) != 2) = false := bne_eq_false_iff_eq.mpr c11
            clear c11
            by_cases c12 : 0 < (t185.length : Int)
            · rw [if_pos c12] at H
              have c12b0 : decide (0 < (t185.length : Int)) = true := decide_eq_true c12
              have c12b1 : decide (0 < t185.length) = true := decide_eq_true (by omega)
              clear c12
              by_cases c13 : ((rd_T41 t185 0).f1).toList = ([97, 98] : List UInt8)
              · rw [if_pos c13] at H
                have c13b0 : (((rd_T41 t185 0).f1).toList == ([97, 98] : List UInt8)) = true := beq_iff_eq.mpr c13
                have c13b1 : (((rd_T41 t185 0).f1).toList != ([97, 98] : List UInt8)) = false := bne_eq_false_iff_eq.mpr c13
                clear c13
                replace H := Option.bind_eq_some_iff.mp H
                obtain ⟨t206, A140, H⟩ := H
                replace H : (if t206 = 0 then ((halberdlaw0_Num.f t191).bind fun t207 => (if t207 = 1601 then ((halberdlaw0_Num.f t196).bind fun t208 => (if t208 = 1600 then ((halberdlaw0_Num.f t203).bind fun t209 => (some (t209 == 1600))) else (some false))) else (some false))) else (some false)) = some r := H
                have A14 := Aside0.mk A140
                clear A140
                by_cases c15 : t206 = 0
                · rw [if_pos c15] at H
                  have c15b0 : (t206 == 0) = true := beq_iff_eq.mpr c15
                  have c15b1 : (t206 != 0) = false := bne_eq_false_iff_eq.mpr c15
                  clear c15
                  replace H := Option.bind_eq_some_iff.mp H
                  obtain ⟨t207, A160, H⟩ := H
                  replace H : (if t207 = 1601 then ((halberdlaw0_Num.f t196).bind fun t208 => (if t208 = 1600 then ((halberdlaw0_Num.f t203).bind fun t209 => (some (t209 == 1600))) else (some false))) else (some false)) = some r := H
                  have A16 := Aside0.mk A160
                  clear A160
                  by_cases c17 : t207 = 1601
                  · rw [if_pos c17] at H
                    have c17b0 : (t207 == 1601) = true := beq_iff_eq.mpr c17
                    have c17b1 : (t207 != 1601) = false := bne_eq_false_iff_eq.mpr c17
                    clear c17
                    replace H := Option.bind_eq_some_iff.mp H
                    obtain ⟨t208, A180, H⟩ := H
                    replace H : (if t208 = 1600 then ((halberdlaw0_Num.f t203).bind fun t209 => (some (t209 == 1600))) else (some false)) = some r := H
                    have A18 := Aside0.mk A180
                    clear A180
                    by_cases c19 : t208 = 1600
                    · rw [if_pos c19] at H
                      have c19b0 : (t208 == 1600) = true := beq_iff_eq.mpr c19
                      have c19b1 : (t208 != 1600) = false := bne_eq_false_iff_eq.mpr c19
                      clear c19
                      replace H := Option.bind_eq_some_iff.mp H
                      obtain ⟨t209, A200, H⟩ := H
                      replace H : (some (t209 == 1600)) = some r := H
                      have A20 := Aside0.mk A200
                      clear A200
                      obtain rfl := Option.some.inj H
                      go_enter Try.func21, Try.ntmps21
                      go_wp2_with (first | ((with_reducible refine gate_dst (N := 14) rfl ?_); (try (refine gate_guard (by rfl) ?_; dsimp only)); refine Kd.R_lit k41 _ 41 ?hg (N := 14) ?hd (xs := ([(⟨5, (⟨#[97, 98]⟩ : ByteArray)⟩ : S41), (⟨6, (⟨#[]⟩ : ByteArray)⟩ : S41)] : List (S41))) (inner := [.int .i64 5, .string (⟨#[97, 98]⟩ : ByteArray), .int .i64 6, .string (⟨#[]⟩ : ByteArray)]) (ok := fun _ => True) (okp := fun _ => True) ?hr ?hp (fun _ hk => hk) trivial (Below.refl _ _) (Nat.le_refl _) (by simp) ?_; (case hd => rfl); (case hg => rfl); (case hr => first | (go_simp; done) | (go_simp; rfl)); (case hp => exact (Reps.c2 (show Kd.M k41 _ _ _ (⟨5, (⟨#[97, 98]⟩ : ByteArray)⟩ : S41) [.int .i64 5, .string (⟨#[97, 98]⟩ : ByteArray)] from (k41_mkM _ _ _ (⟨5, (⟨#[97, 98]⟩ : ByteArray)⟩ : S41) )) (Reps.c2 (show Kd.M k41 _ _ _ (⟨6, (⟨#[]⟩ : ByteArray)⟩ : S41) [.int .i64 6, .string (⟨#[]⟩ : ByteArray)] from (k41_mkM _ _ _ (⟨6, (⟨#[]⟩ : ByteArray)⟩ : S41) )) (Reps.none _ _)))); intro v181 w21 ho22 hb hg_ hnew_; clear hg_ hnew_; (first | rw [← Ny180.out] at ho22 | (simp only [Int.reduceToNat] at ho22; rw [← Ny180.out] at ho22)); have n0_ := Aside0.mk (Kd.R_lower ho22 (below_size (by repeat (first | (with_reducible first | exact HB.out | apply below_alloc | apply pw_below_drewN | apply below_drew1) | exact HB.out)))); have n1_ := Aside0.mk (below_step (by repeat (first | (with_reducible first | exact HB.out | apply below_alloc | apply pw_below_drewN | apply below_drew1) | exact HB.out)) hb); clear HB; have HO182 := n0_; have HB := n1_; clear n0_ n1_; clear hb ho22; obtain ⟨Ao23, co23, eo23⟩ := Kd.R_slice HO182.out; subst eo23) | ((with_reducible refine gate_callee (f := 15) rfl ?_); refine goesL_ (some 15) rfl rfl Try.func15 (by kernel_rfl) rfl #[.slice Ao23 y180.length co23] rfl (by (try simp only [List.map_toArray, List.map_cons, List.map_nil]); first | done | rfl | (simp only [List.length_drop, List.length_take]; rfl)) ?_; (with_reducible refine (ext_Put.calls k _ _ y180 t183 t184 _ ?side1 ?side2 A1.out).mono ?_); (case side1 => repeat (first | exact (Kd.R_reads' HO182.out).2.2 | (with_reducible refine Kd.C_alloc ?_ _) | (with_reducible refine Kd.C_drewN ?_ _) | (with_reducible refine Kd.C_drew ?_))); (case side2 => exact (Kd.R_reads' HO182.out).2.1); rintro e w24 ⟨rfl, hb⟩; refine ⟨_, rfl, ?_⟩; have n0_ := Aside0.mk (Kd.R_below (by (with_reducible repeat (first | apply Kd.R_alloc | apply Kd.R_drewN | apply Kd.R_drew)); exact HO182.out) hb); have n1_ := Aside0.mk (below_step (by repeat (first | (with_reducible first | exact HB.out | apply below_alloc | apply pw_below_drewN | apply below_drew1) | exact HB.out)) hb); clear HO182; clear HB; have HO182 := n0_; have HB := n1_; clear n0_ n1_; (try clear hb); (try clear hb2); (try clear hk); (try clear hi)) | ((with_reducible refine gate_callee (f := 12) rfl ?_); refine goesL_ (some 20) rfl rfl Try.func12 (by kernel_rfl) rfl #[.string t183] rfl (by (try simp only [List.map_toArray, List.map_cons, List.map_nil]); first | done | rfl | (simp only [List.length_drop, List.length_take]; rfl)) ?_; (with_reducible refine (ext_Get.calls k t183 t185 t186 _ A2.out).mono ?_); rintro e w25 ⟨v187, rfl, ho0, hb⟩; refine ⟨_, rfl, ?_⟩; have n0_ := Aside0.mk (Kd.R_elder' (by (with_reducible repeat (first | apply Kd.R_alloc | apply Kd.R_drewN | apply Kd.R_drew)); exact HO182.out) (Kd.R_base ho0) hb); have n1_ := Aside0.mk (Kd.R_lower (Kd.R_new' ho0 (Kd.R_lt (by (with_reducible repeat (first | apply Kd.R_alloc | apply Kd.R_drewN | apply Kd.R_drew)); exact HO182.out))) (below_size (by repeat (first | (with_reducible first | exact HB.out | apply below_alloc | apply pw_below_drewN | apply below_drew1) | exact HB.out)))); have n2_ := Aside0.mk (below_step (by repeat (first | (with_reducible first | exact HB.out | apply below_alloc | apply pw_below_drewN | apply below_drew1) | exact HB.out)) hb); clear HO182; clear HB; have HO182 := n0_; have HO188 := n1_; have HB := n2_; clear n0_ n1_ n2_; (try clear hb); (try clear hb2); (try clear hk); (try clear hi); (try clear ho0)) | ((with_reducible refine gate_callee (f := 12) rfl ?_); refine goesL_ (some 27) rfl rfl Try.func12 (by kernel_rfl) rfl #[.string ys189] rfl (by (try simp only [List.map_toArray, List.map_cons, List.map_nil]); first | done | rfl | (simp only [List.length_drop, List.length_take]; rfl)) ?_; (with_reducible refine (ext_Get.calls k ys189 t190 t191 _ A4.out).mono ?_); rintro e w26 ⟨v192, rfl, ho0, hb⟩; refine ⟨_, rfl, ?_⟩; have n0_ := Aside0.mk (Kd.R_elder' (by (with_reducible repeat (first | apply Kd.R_alloc | apply Kd.R_drewN | apply Kd.R_drew)); exact HO182.out) (Kd.R_base ho0) hb); have n1_ := Aside0.mk (Kd.R_elder' (by (with_reducible repeat (first | apply Kd.R_alloc | apply Kd.R_drewN | apply Kd.R_drew)); exact HO188.out) (Kd.R_base ho0) hb); have n2_ := Aside0.mk (Kd.R_lower (Kd.R_new' (Kd.R_new' ho0 (Kd.R_lt (by (with_reducible repeat (first | apply Kd.R_alloc | apply Kd.R_drewN | apply Kd.R_drew)); exact HO182.out))) (Kd.R_lt (by (with_reducible repeat (first | apply Kd.R_alloc | apply Kd.R_drewN | apply Kd.R_drew)); exact HO188.out))) (below_size (by repeat (first | (with_reducible first | exact HB.out | apply below_alloc | apply pw_below_drewN | apply below_drew1) | exact HB.out)))); have n3_ := Aside0.mk (below_step (by repeat (first | (with_reducible first | exact HB.out | apply below_alloc | apply pw_below_drewN | apply below_drew1) | exact HB.out)) hb); clear HO182; clear HO188; clear HB; have HO182 := n0_; have HO188 := n1_; have HO193 := n2_; have HB := n3_; clear n0_ n1_ n2_ n3_; (try clear hb); (try clear hb2); (try clear hk); (try clear hi); (try clear ho0)) | ((with_reducible refine gate_callee (f := 12) rfl ?_); refine goesL_ (some 33) rfl rfl Try.func12 (by kernel_rfl) rfl #[.string ys194] rfl (by (try simp only [List.map_toArray, List.map_cons, List.map_nil]); first | done | rfl | (simp only [List.length_drop, List.length_take]; rfl)) ?_; (with_reducible refine (ext_Get.calls k ys194 t195 t196 _ A6.out).mono ?_); rintro e w27 ⟨v197, rfl, ho0, hb⟩; refine ⟨_, rfl, ?_⟩; have n0_ := Aside0.mk (Kd.R_elder' (by (with_reducible repeat (first | apply Kd.R_alloc | apply Kd.R_drewN | apply Kd.R_drew)); exact HO182.out) (Kd.R_base ho0) hb); have n1_ := Aside0.mk (Kd.R_elder' (by (with_reducible repeat (first | apply Kd.R_alloc | apply Kd.R_drewN | apply Kd.R_drew)); exact HO188.out) (Kd.R_base ho0) hb); have n2_ := Aside0.mk (Kd.R_elder' (by (with_reducible repeat (first | apply Kd.R_alloc | apply Kd.R_drewN | apply Kd.R_drew)); exact HO193.out) (Kd.R_base ho0) hb); have n3_ := Aside0.mk (Kd.R_lower (Kd.R_new' (Kd.R_new' (Kd.R_new' ho0 (Kd.R_lt (by (with_reducible repeat (first | apply Kd.R_alloc | apply Kd.R_drewN | apply Kd.R_drew)); exact HO182.out))) (Kd.R_lt (by (with_reducible repeat (first | apply Kd.R_alloc | apply Kd.R_drewN | apply Kd.R_drew)); exact HO188.out))) (Kd.R_lt (by (with_reducible repeat (first | apply Kd.R_alloc | apply Kd.R_drewN | apply Kd.R_drew)); exact HO193.out))) (below_size (by repeat (first | (with_reducible first | exact HB.out | apply below_alloc | apply pw_below_drewN | apply below_drew1) | exact HB.out)))); have n4_ := Aside0.mk (below_step (by repeat (first | (with_reducible first | exact HB.out | apply below_alloc | apply pw_below_drewN | apply below_drew1) | exact HB.out)) hb); clear HO182; clear HO188; clear HO193; clear HB; have HO182 := n0_; have HO188 := n1_; have HO193 := n2_; have HO198 := n3_; have HB := n4_; clear n0_ n1_ n2_ n3_ n4_; (try clear hb); (try clear hb2); (try clear hk); (try clear hi); (try clear ho0)) | ((with_reducible refine gate_dst (N := 38) rfl ?_); (try (refine gate_guard (by rfl) ?_; dsimp only)); refine Kd.R_lit k41 _ 41 ?hg (N := 38) ?hd (xs := ([(⟨(-1), (⟨#[]⟩ : ByteArray)⟩ : S41)] : List (S41))) (inner := [.int .i64 (-1), .string (⟨#[]⟩ : ByteArray)]) (ok := fun _ => True) (okp := fun _ => True) ?hr ?hp (fun _ hk => hk) trivial (Below.refl _ _) (Nat.le_refl _) (by simp) ?_; (case hd => rfl); (case hg => rfl); (case hr => first | (go_simp; done) | (go_simp; rfl)); (case hp => exact (Reps.c2 (show Kd.M k41 _ _ _ (⟨(-1), (⟨#[]⟩ : ByteArray)⟩ : S41) [.int .i64 (-1), .string (⟨#[]⟩ : ByteArray)] from (k41_mkM _ _ _ (⟨(-1), (⟨#[]⟩ : ByteArray)⟩ : S41) )) (Reps.none _ _))); intro v200 w28 ho29 hb hg_ hnew_; clear hg_ hnew_; (first | rw [← Ny199.out] at ho29 | (simp only [Int.reduceToNat] at ho29; rw [← Ny199.out] at ho29)); have n0_ := Aside0.mk (Kd.R_elder' (by (with_reducible repeat (first | apply Kd.R_alloc | apply Kd.R_drewN | apply Kd.R_drew)); exact HO182.out) (Kd.R_base ho29) hb); have n1_ := Aside0.mk (Kd.R_elder' (by (with_reducible repeat (first | apply Kd.R_alloc | apply Kd.R_drewN | apply Kd.R_drew)); exact HO188.out) (Kd.R_base ho29) hb); have n2_ := Aside0.mk (Kd.R_elder' (by (with_reducible repeat (first | apply Kd.R_alloc | apply Kd.R_drewN | apply Kd.R_drew)); exact HO193.out) (Kd.R_base ho29) hb); have n3_ := Aside0.mk (Kd.R_elder' (by (with_reducible repeat (first | apply Kd.R_alloc | apply Kd.R_drewN | apply Kd.R_drew)); exact HO198.out) (Kd.R_base ho29) hb); have n4_ := Aside0.mk (Kd.R_lower (Kd.R_new' (Kd.R_new' (Kd.R_new' (Kd.R_new' ho29 (Kd.R_lt (by (with_reducible repeat (first | apply Kd.R_alloc | apply Kd.R_drewN | apply Kd.R_drew)); exact HO182.out))) (Kd.R_lt (by (with_reducible repeat (first | apply Kd.R_alloc | apply Kd.R_drewN | apply Kd.R_drew)); exact HO188.out))) (Kd.R_lt (by (with_reducible repeat (first | apply Kd.R_alloc | apply Kd.R_drewN | apply Kd.R_drew)); exact HO193.out))) (Kd.R_lt (by (with_reducible repeat (first | apply Kd.R_alloc | apply Kd.R_drewN | apply Kd.R_drew)); exact HO198.out))) (below_size (by repeat (first | (with_reducible first | exact HB.out | apply below_alloc | apply pw_below_drewN | apply below_drew1) | exact HB.out)))); have n5_ := Aside0.mk (below_step (by repeat (first | (with_reducible first | exact HB.out | apply below_alloc | apply pw_below_drewN | apply below_drew1) | exact HB.out)) hb); clear HO182; clear HO188; clear HO193; clear HO198; clear HB; have HO182 := n0_; have HO188 := n1_; have HO193 := n2_; have HO198 := n3_; have HO201 := n4_; have HB := n5_; clear n0_ n1_ n2_ n3_ n4_ n5_; clear hb ho29; obtain ⟨Ao30, co30, eo30⟩ := Kd.R_slice HO201.out; subst eo30) | ((with_reducible refine gate_callee (f := 15) rfl ?_); refine goesL_ (some 39) rfl rfl Try.func15 (by kernel_rfl) rfl #[.slice Ao30 y199.length co30] rfl (by (try simp only [List.map_toArray, List.map_cons, List.map_nil]); first | done | rfl | (simp only [List.length_drop, List.length_take]; rfl)) ?_; (with_reducible refine (ext_Put.calls k _ _ y199 t202 t203 _ ?side1 ?side2 A7.out).mono ?_); (case side1 => repeat (first | exact (Kd.R_reads' HO201.out).2.2 | (with_reducible refine Kd.C_alloc ?_ _) | (with_reducible refine Kd.C_drewN ?_ _) | (with_reducible refine Kd.C_drew ?_))); (case side2 => exact (Kd.R_reads' HO201.out).2.1); rintro e w31 ⟨rfl, hb⟩; refine ⟨_, rfl, ?_⟩; have n0_ := Aside0.mk (Kd.R_below (by (with_reducible repeat (first | apply Kd.R_alloc | apply Kd.R_drewN | apply Kd.R_drew)); exact HO182.out) hb); have n1_ := Aside0.mk (Kd.R_below (by (with_reducible repeat (first | apply Kd.R_alloc | apply Kd.R_drewN | apply Kd.R_drew)); exact HO188.out) hb); have n2_ := Aside0.mk (Kd.R_below (by (with_reducible repeat (first | apply Kd.R_alloc | apply Kd.R_drewN | apply Kd.R_drew)); exact HO193.out) hb); have n3_ := Aside0.mk (Kd.R_below (by (with_reducible repeat (first | apply Kd.R_alloc | apply Kd.R_drewN | apply Kd.R_drew)); exact HO198.out) hb); have n4_ := Aside0.mk (Kd.R_below (by (with_reducible repeat (first | apply Kd.R_alloc | apply Kd.R_drewN | apply Kd.R_drew)); exact HO201.out) hb); have n5_ := Aside0.mk (below_step (by repeat (first | (with_reducible first | exact HB.out | apply below_alloc | apply pw_below_drewN | apply below_drew1) | exact HB.out)) hb); clear HO182; clear HO188; clear HO193; clear HO198; clear HO201; clear HB; have HO182 := n0_; have HO188 := n1_; have HO193 := n2_; have HO198 := n3_; have HO201 := n4_; have HB := n5_; clear n0_ n1_ n2_ n3_ n4_ n5_; (try clear hb); (try clear hb2); (try clear hk); (try clear hi)) | (go_at_call 18; (with_reducible refine (halberdlaw0_Num.calls t184 t204 _ A9.out).mono ?_); rintro e w' ⟨rfl, ⟨nd, rfl⟩⟩; obtain ⟨Ao32, co32, eo32⟩ := Kd.R_slice HO188.out; subst eo32; have p205 : 0 ≤ (0 : Int) := (by omega); have q205 : 0 < (t185.length : Int) := of_decide_eq_true (by first | (with_reducible assumption) | assumption); obtain ⟨ad205, e205, hx205_0, hx205_1⟩ := at_T41 (Kd.R_reads' HO188.out).2.2 0 p205 q205; cases e205; have qi205 : (0 < t185.length) = True := eq_true (by omega); (try rw [show ((0 : Int)).toNat = 0 from rfl] at hx205_0); (try rw [show 0 * 2 = 0 from rfl] at hx205_0); (try rw [Addr.add_zero'] at hx205_0); (try rw [show ((0 : Int)).toNat = 0 from rfl] at hx205_1); (try rw [show 0 * 2 = 0 from rfl] at hx205_1); (try rw [Addr.add_zero'] at hx205_1); replace p205 := eq_true p205; replace q205 := eq_true q205) | (go_at_call 18; (with_reducible refine (halberdlaw0_Num.calls t186 t206 _ A14.out).mono ?_); rintro e w' ⟨rfl, ⟨nd, rfl⟩⟩) | (go_at_call 18; (with_reducible refine (halberdlaw0_Num.calls t191 t207 _ A16.out).mono ?_); rintro e w' ⟨rfl, ⟨nd, rfl⟩⟩) | (go_at_call 18; (with_reducible refine (halberdlaw0_Num.calls t196 t208 _ A18.out).mono ?_); rintro e w' ⟨rfl, ⟨nd, rfl⟩⟩) | (go_at_call 18; (with_reducible refine (halberdlaw0_Num.calls t203 t209 _ A20.out).mono ?_); rintro e w' ⟨rfl, ⟨nd, rfl⟩⟩))
                      go_ret
                      exact ⟨by first | rfl | (simp [errW_none, errW_some] <;> rfl) | (simp [*, errW_none, errW_some] <;> rfl), by repeat (first | (with_reducible first | exact HB.out | apply below_alloc | apply pw_below_drewN | apply below_drew1) | exact HB.out)⟩
                    · rw [if_neg c19] at H
                      have c19b0 : (t208 == 1600) = false := beq_eq_false_iff_ne.mpr c19
                      have c19b1 : (t208 != 1600) = true := bne_iff_ne.mpr c19
                      exact absurd ((Option.some.inj H).trans hr.out) (by decide)
                  · rw [if_neg c17] at H
                    have c17b0 : (t207 == 1601) = false := beq_eq_false_iff_ne.mpr c17
                    have c17b1 : (t207 != 1601) = true := bne_iff_ne.mpr c17
                    exact absurd ((Option.some.inj H).trans hr.out) (by decide)
                · rw [if_neg c15] at H
                  have c15b0 : (t206 == 0) = false := beq_eq_false_iff_ne.mpr c15
                  have c15b1 : (t206 != 0) = true := bne_iff_ne.mpr c15
                  exact absurd ((Option.some.inj H).trans hr.out) (by decide)
              · rw [if_neg c13] at H
                have c13b0 : (((rd_T41 t185 0).f1).toList == ([97, 98] : List UInt8)) = false := beq_eq_false_iff_ne.mpr c13
                have c13b1 : (((rd_T41 t185 0).f1).toList != ([97, 98] : List UInt8)) = true := bne_iff_ne.mpr c13
                exact absurd ((Option.some.inj H).trans hr.out) (by decide)
            · rw [if_neg c12] at H
              exact absurd H (by simp)
          · rw [if_neg c11] at H
            have c11b0 : ((t185.length : Int) == 2) = false := beq_eq_false_iff_ne.mpr c11
            have c11b1 : ((t185.length : Int) != 2) = true := bne_iff_ne.mpr c11
            exact absurd ((Option.some.inj H).trans hr.out) (by decide)
        · rw [if_neg c10] at H
          have c10b0 : (t204 == 0) = false := beq_eq_false_iff_ne.mpr c10
          have c10b1 : (t204 != 0) = true := bne_iff_ne.mpr c10
          exact absurd ((Option.some.inj H).trans hr.out) (by decide)
      · rw [if_neg c8] at H
        have c8b0 : (t183.toList == ([0, 5, 0, 2, 97, 98, 0, 6, 0, 0] : List UInt8)) = false := beq_eq_false_iff_ne.mpr c8
        have c8b1 : (t183.toList != ([0, 5, 0, 2, 97, 98, 0, 6, 0, 0] : List UInt8)) = true := bne_iff_ne.mpr c8
        exact absurd ((Option.some.inj H).trans hr.out) (by decide)
    · rw [if_neg c5] at H
      exact absurd H (by simp)
  · rw [if_neg c3] at H
    exact absurd H (by simp)
def halberdlaw16_awake.f : Option (Bool) := some true
theorem halberdlaw16_awake.knows : halberdlaw16_awake0.f 40 = some true := by decide +kernel
theorem halberdlaw16_awake.calls (r : Bool) (w : World) (h : halberdlaw16_awake.f = some r) : Calls Try.prog 21 #[] w fun e w' => e = .returned (.bool r) ∧ Below w.heap.size w w' := by
  obtain rfl := Option.some.inj h
  exact halberdlaw16_awake0.calls 40  true w halberdlaw16_awake.knows ⟨rfl⟩
end Go.Proofs.Ytlkebjkpmiehcaa.E
end
section
namespace Go.Proofs.Ytlkebjkpmiehcaa.Pure
open Go.RowKit Go.Proofs.Ytlkebjkpmiehcaa.E Go.Proofs.YtlkebjkpmiehcaaW.PrintWords Go.Proofs.YtlkebjkpmiehcaaW.PrintLast Go.Proofs.YtlkebjkpmiehcaaW.PrintMore
set_option linter.unusedVariables false
set_option linter.unusedSimpArgs false
theorem w64 {a : Int} (h0 : -9223372036854775808 ≤ a) (h1 : a ≤ 9223372036854775807) : wrap64 a = a := by unfold wrap64; omega
theorem ev_const {α : Type} {x : Option α} {r : α} (h : x = some r) : Ev (fun _ => x) r := ⟨0, fun _ _ => h⟩
theorem wraps_i64 : ∀ n : Int, 0 ≤ n → n < 2 ^ 63 → IntKind.i64.wrap n = n := by
  intro n h0 h1
  simp [IntKind.wrap, IntKind.bits, IntKind.signed]
  omega
def nv (s : ByteArray) (i : Int) : Nat → Int
  | 0 => 0
  | n + 1 => nv s i n * 256 + bt s (i + n)
theorem nv_bd (s : ByteArray) (i : Int) : ∀ n, 0 ≤ nv s i n ∧ nv s i n < 256 ^ n
  | 0 => by simp [nv]
  | n + 1 => by
    have h := nv_bd s i n
    have b := bt_range s (i + n)
    simp only [nv]
    rw [Int.pow_succ]
    omega
theorem nv_bd4 (s : ByteArray) (i : Int) (n : Nat) (h : n ≤ 4) : 0 ≤ nv s i n ∧ nv s i n < 4294967296 := by
  have h1 := nv_bd s i n
  refine ⟨h1.1, Int.lt_of_lt_of_le h1.2 ?_⟩
  have : n = 0 ∨ n = 1 ∨ n = 2 ∨ n = 3 ∨ n = 4 := by omega
  rcases this with rfl | rfl | rfl | rfl | rfl <;> decide
theorem or_byte {x y : Int} (h0 : 0 ≤ x) (h1 : x < 4294967296) (h2 : 0 ≤ y) (h3 : y ≤ 255) : Go.bits .or .i64 (wrap64 (x * 256)) (wrap64 y) = x * 256 + y := by
  rw [w64 (by omega) (by omega), w64 (a := y) (by omega) (by omega)]
  exact Go.bits_join .i64 63 (by decide) wraps_i64 8 (x * 256) y (by omega) (by omega) (by omega) (by omega) (by omega) (by omega)
theorem number_loop (s : ByteArray) (a : Int) (n : Nat) (ha : 0 ≤ a) (hn : n ≤ 4) (h : a + n ≤ s.size) (hs : s.size ≤ 140737488351232) :
    ∀ d j : Nat, j + d = n → Ev (fun k => wire_number.l0 k s a n (nv s a j) n j) (nv s a n, a + n, 0) := by
  intro d
  induction d with
  | zero =>
    intro j hj
    obtain rfl : j = n := by omega
    refine Ev.step (f := fun _ => some (nv s a j, a + (j : Int), 0)) (fun k => ?_) (Ev.now _)
    simp only [wire_number.l0]
    rw [if_neg (by omega), w64 (a := a + (j : Int)) (by omega) (by omega)]
  | succ d ih =>
    intro j hj
    refine Ev.step (f := fun k => wire_number.l0 k s a n (nv s a (j + 1)) n ((j + 1 : Nat) : Int)) (fun k => ?_) (ih (j + 1) (by omega))
    simp only [wire_number.l0]
    have b := bt_range s (a + (j : Int))
    have v := nv_bd4 s a j (by omega)
    rw [if_pos (by omega), w64 (a := a + (j : Int)) (by omega) (by omega), if_pos (by omega), if_pos (by omega), or_byte v.1 v.2 b.1 b.2, w64 (a := (j : Int) + 1) (by omega) (by omega)]
    rfl
def CutAt (s : ByteArray) (a : Int) (n : Int) : Prop := a < 0 ∨ a > s.size ∨ s.size - a < n
theorem number_ok {s : ByteArray} {a : Int} {n : Nat} (ha : 0 ≤ a) (hn : n ≤ 4) (h : a + n ≤ s.size) (hs : s.size ≤ 140737488351232) :
    Ev (fun k => wire_number.f k s a n) (nv s a n, a + n, 0) := by
  refine Ev.congr (f := fun k => wire_number.j0 k s a n false) (fun k => ?_) ?_
  · unfold wire_number.f
    rw [if_neg (by omega), if_neg (by omega), w64 (by omega) (by omega)]
    congr 1
    exact decide_eq_false (by omega)
  · refine Ev.step (f := fun k => wire_number.l0 k s a n 0 n 0) (fun k => ?_) (number_loop s a n ha hn h hs n 0 (by omega))
    simp only [wire_number.j0]
    rfl
theorem number_cut {s : ByteArray} {a : Int} {n : Int} (hc : CutAt s a n) (hs : s.size ≤ 140737488351232) :
    Ev (fun k => wire_number.f k s a n) (0, 0, 100) := by
  have key : Ev (fun k => wire_number.j0 k s a n true) (0, 0, 100) := Ev.step (f := fun _ => some (0, 0, 100)) (fun k => by simp only [wire_number.j0]; rfl) (Ev.now _)
  refine Ev.congr (f := fun k => wire_number.j0 k s a n true) (fun k => ?_) key
  unfold wire_number.f CutAt at *
  by_cases h0 : a < 0
  · rw [if_pos h0]
  · rw [if_neg h0]
    by_cases h1 : a > (s.size : Int)
    · rw [if_pos h1]
    · rw [if_neg h1, w64 (by omega) (by omega)]
      congr 1
      exact decide_eq_true (by omega)
theorem num_f (e : Int) : halberdlaw0_Num.f e = some e := rfl
theorem evPos {α : Type} {c : Prop} [Decidable c] {g f : Nat → Option α} {r : α} (h : c) (k : Ev g r) : Ev (fun n => if c then g n else f n) r := by
  obtain ⟨K, k⟩ := k
  exact ⟨K, fun n hn => by simp only []; rw [if_pos h]; exact k n hn⟩
theorem evNeg {α : Type} {c : Prop} [Decidable c] {g f : Nat → Option α} {r : α} (h : ¬ c) (k : Ev f r) : Ev (fun n => if c then g n else f n) r := by
  obtain ⟨K, k⟩ := k
  exact ⟨K, fun n hn => by simp only []; rw [if_neg h]; exact k n hn⟩
theorem toNat_ofInt64 (x : Int) : (BitVec.ofInt 64 x).toNat = (x % 18446744073709551616).toNat := by
  rw [BitVec.toNat_ofInt]
  have : ((2 ^ 64 : Nat) : Int) = 18446744073709551616 := rfl
  rw [this]
theorem and_mask (x : Int) (i : Nat) (hi : i ≤ 62) : Go.bits .and .i64 x ((2 ^ i - 1 : Nat) : Int) = x % ((2 ^ i : Nat) : Int) := by
  have hp : 0 < 2 ^ i := Nat.two_pow_pos i
  have hq : 2 ^ i ≤ 4611686018427387904 := by
    have : (4611686018427387904 : Nat) = 2 ^ 62 := by decide
    rw [this]; exact Nat.pow_le_pow_right (by decide) hi
  have hd : ((2 ^ i : Nat) : Int) ∣ 18446744073709551616 := by
    have h1 : (2 ^ i : Nat) ∣ 2 ^ 64 := Nat.pow_dvd_pow 2 (by omega)
    have h2 : ((2 ^ 64 : Nat) : Int) = 18446744073709551616 := rfl
    rw [← h2]
    exact Int.natCast_dvd_natCast.mpr h1
  have e2 : (BitVec.ofInt 64 x &&& BitVec.ofInt 64 ((2 ^ i - 1 : Nat) : Int)).toNat = (x % 18446744073709551616).toNat % 2 ^ i := by
    have hm : 2 ^ i - 1 < 2 ^ 64 := by
      have : (2 : Nat) ^ 64 = 18446744073709551616 := by decide
      omega
    rw [BitVec.toNat_and, BitVec.ofInt_natCast, BitVec.toNat_ofNat, Nat.mod_eq_of_lt hm, toNat_ofInt64, Nat.and_two_pow_sub_one_eq_mod]
  have e0 : Go.bits .and .i64 x ((2 ^ i - 1 : Nat) : Int) = IntKind.i64.wrap (((BitVec.ofInt 64 x &&& BitVec.ofInt 64 ((2 ^ i - 1 : Nat) : Int)).toNat : Nat) : Int) := rfl
  rw [e0, e2]
  generalize 2 ^ i = m at *
  have hb := Int.emod_nonneg x (b := (m : Int)) (by omega)
  have hl := Int.emod_lt_of_pos x (b := (m : Int)) (by omega)
  have hn := Int.emod_nonneg x (b := 18446744073709551616) (by decide)
  have hz := Int.emod_emod_of_dvd x hd
  rw [Int.natCast_emod, Int.toNat_of_nonneg hn, hz, wraps_i64 _ hb (by omega)]
theorem and_7 (x : Int) : Go.bits .and .i64 x 7 = x % 8 := and_mask x 3 (by decide)
def numOf (s : ByteArray) (a : Int) (n : Nat) : Int × Int × Int :=
  if a < 0 ∨ a > s.size ∨ s.size - a < n then (0, 0, 100) else (nv s a n, a + n, 0)
theorem number_any (s : ByteArray) (a : Int) (n : Nat) (hn : n ≤ 4) (hs : s.size ≤ 140737488351232) : Ev (fun k => wire_number.f k s a n) (numOf s a n) := by
  unfold numOf
  by_cases hc : a < 0 ∨ a > s.size ∨ s.size - a < n
  · rw [if_pos hc]; exact number_cut hc hs
  · rw [if_neg hc]; exact number_ok (by omega) hn (by omega) hs
theorem U16_any (s : ByteArray) (a : Int) (hs : s.size ≤ 140737488351232) : Ev (fun k => wire_U16.f k s a) (numOf s a 2) := by
  refine Ev.congr (f := fun k => (wire_number.f k s a ((2 : Nat) : Int)).bind _) (fun k => by unfold wire_U16.f; rfl) ?_
  exact Ev.bind (number_any s a 2 (by omega) hs) (Ev.now _)
def vecOf (s : ByteArray) (a : Int) (n : Nat) : ByteArray × Int × Int :=
  if a < 0 ∨ a > s.size ∨ s.size - a < n then (⟨#[]⟩, 0, 100)
  else if nv s a n > s.size - (a + n) then (⟨#[]⟩, 0, 100)
  else (s.extract (a + n).toNat (a + n + nv s a n).toNat, a + n + nv s a n, 0)
theorem vec_ok {s : ByteArray} {a : Int} {n : Nat} (h1 : 1 ≤ n) (h3 : n ≤ 3) (hs : s.size ≤ 140737488351232) : Ev (fun k => wire_Vec.f k s a n) (vecOf s a n) := by
  refine Ev.congr (f := fun k => wire_Vec.j0 k s a n false) (fun k => ?_) ?_
  · unfold wire_Vec.f
    rw [if_neg (by omega)]
    congr 1
    exact decide_eq_false (by omega)
  · unfold vecOf
    by_cases hc : a < 0 ∨ a > s.size ∨ s.size - a < n
    · rw [if_pos hc]
      refine Ev.step (f := fun k => (wire_number.f k s a n).bind _) (fun k => by simp only [wire_Vec.j0]; rfl) ?_
      exact Ev.bind (number_cut hc hs) (Ev.now _)
    · rw [if_neg hc]
      refine Ev.step (f := fun k => (wire_number.f k s a n).bind _) (fun k => by simp only [wire_Vec.j0]; rfl) ?_
      have v := nv_bd4 s a n (by omega)
      refine Ev.bind (number_ok (by omega) (by omega) (by omega) hs) (ev_const ?_)
      simp only [if_true]
      rw [w64 (a := (s.size : Int) - (a + n)) (by omega) (by omega), w64 (a := a + n + nv s a n) (by omega) (by omega)]
      by_cases hl : nv s a n > s.size - (a + n)
      · rw [if_pos hl, if_pos hl]
      · rw [if_neg hl, if_neg hl, if_pos (by omega), if_pos (by omega), if_pos (by omega)]
theorem strOf_size (l : List Int) : (strOfNums l).size = l.length := by simp [strOfNums, ByteArray.size]
def beL : Nat → Int → List Int
  | 0, _ => []
  | n + 1, x => beL n (x / 256) ++ [x % 256]
theorem beL_length : ∀ (n : Nat) (x : Int), (beL n x).length = n
  | 0, _ => rfl
  | n + 1, x => by simp [beL, beL_length n]
theorem bytes_ok (x : Int) (n : Nat) (h0 : 1 ≤ n) (h1 : n ≤ 4) : wire_Bytes.f x n = some (strOfNums (beL n x)) := by
  have : n = 1 ∨ n = 2 ∨ n = 3 ∨ n = 4 := by omega
  rcases this with rfl | rfl | rfl | rfl <;> simp [wire_Bytes.f, beL, Int.ediv_ediv]
def putOf (x : Int) (n : Nat) : ByteArray × Int := if x < 256 ^ n then (strOfNums (beL n x), 0) else (⟨#[]⟩, 101)
theorem put_ok (x : Int) (n : Nat) (h0 : 1 ≤ n) (h1 : n ≤ 4) (hx : 0 ≤ x) : wire_Put.f x n = some (putOf x n) := by
  have hb := bytes_ok x n h0 h1
  unfold wire_Put.f putOf
  rw [if_neg (by omega), if_neg (by omega), if_neg (by omega), hb]
  have : n = 1 ∨ n = 2 ∨ n = 3 ∨ n = 4 := by omega
  rcases this with rfl | rfl | rfl | rfl <;> simp only [shr, wrap64, IntKind.bits] <;> simp <;> split <;> split <;> first | rfl | omega
def putVecOf (s : ByteArray) (n : Nat) : ByteArray × Int := if (s.size : Int) < 256 ^ n then (strOfNums (beL n s.size) ++ s, 0) else (⟨#[]⟩, 101)
theorem putVec_ok (s : ByteArray) (n : Nat) (h0 : 1 ≤ n) (h1 : n ≤ 3) (hs : s.size ≤ 140737488351232) : wire_PutVec.f s n = some (putVecOf s n) := by
  have hb := bytes_ok s.size n h0 (by omega)
  unfold wire_PutVec.f putVecOf
  rw [if_neg (by omega), if_neg (by omega), hb]
  simp only [Option.bind_some]
  rw [strOf_size, beL_length, if_pos (c := n + s.size ≤ 9223372036854775807) (by omega)]
  have : n = 1 ∨ n = 2 ∨ n = 3 := by omega
  rcases this with rfl | rfl | rfl <;> simp only [shr, wrap64, IntKind.bits] <;> simp <;> split <;> split <;> first | rfl | omega
theorem bytesOf_app (a b : ByteArray) : bytesOf (a ++ b) = bytesOf a ++ bytesOf b := by
  unfold bytesOf
  simp
theorem map_toNat_inj : ∀ {l m : List UInt8}, l.map (fun b => (b.toNat : Int)) = m.map (fun b => (b.toNat : Int)) → l = m
  | [], [], _ => rfl
  | [], _ :: _, h => by simp at h
  | _ :: _, [], h => by simp at h
  | x :: l, y :: m, h => by
    simp only [List.map_cons, List.cons.injEq] at h
    obtain ⟨h1, h2⟩ := h
    have h3 : x.toNat = y.toNat := by omega
    rw [UInt8.toNat_inj.mp h3, map_toNat_inj h2]
theorem bytesOf_inj {a b : ByteArray} (h : bytesOf a = bytesOf b) : a = b := by
  have h1 := map_toNat_inj h
  cases a; cases b
  congr 1
  exact Array.toList_inj.mp h1
def Byte (l : List Int) : Prop := ∀ x ∈ l, 0 ≤ x ∧ x ≤ 255
theorem bytesOf_strOf {l : List Int} (h : Byte l) : bytesOf (strOfNums l) = l := by
  unfold bytesOf strOfNums
  simp only [List.map_map]
  refine (List.map_congr_left (g := id) (fun x hx => ?_)).trans (List.map_id l)
  have := h x hx
  simp only [Function.comp, id, UInt8.toNat_ofNat']
  omega
theorem beL_byte : ∀ (n : Nat) (x : Int), Byte (beL n x)
  | 0, x => by intro y hy; simp [beL] at hy
  | n + 1, x => by
    intro y hy
    simp only [beL, List.mem_append, List.mem_singleton] at hy
    rcases hy with hy | rfl
    · exact beL_byte n _ y hy
    · omega
theorem bytesOf_extract (s : ByteArray) (a b : Nat) : bytesOf (s.extract a b) = ((bytesOf s).drop a).take (b - a) := by
  unfold bytesOf
  rw [ByteArray.data_extract]
  simp [List.map_drop, List.map_take, List.extract_eq_take_drop]
def nvL (l : List Int) : Int := l.foldl (fun a b => a * 256 + b) 0
theorem nvL_snoc (l : List Int) (x : Int) : nvL (l ++ [x]) = nvL l * 256 + x := by simp [nvL]
theorem bt_get (s : ByteArray) (i : Int) : bt s i = (bytesOf s).getD i.toNat 0 := (rd_bytesOf s i).symm
theorem nv_list (s : ByteArray) (i : Nat) : ∀ n : Nat, i + n ≤ s.size → nv s i n = nvL (((bytesOf s).drop i).take n)
  | 0, _ => by simp [nv, nvL]
  | n + 1, h => by
    have hl := bytesOf_length s
    have e : ((bytesOf s).drop i).take (n + 1) = ((bytesOf s).drop i).take n ++ [(bytesOf s).getD (i + n) 0] := by
      rw [List.take_succ_eq_append_getElem (by rw [List.length_drop]; omega), List.getElem_drop, List.getD_eq_getElem?_getD, List.getElem?_eq_getElem (by omega)]
      rfl
    rw [e, nvL_snoc, nv, nv_list s i n (by omega), bt_get]
    have : ((i : Int) + (n : Int)).toNat = i + n := by omega
    rw [this]
theorem nvL_beL : ∀ (n : Nat) (x : Int), nvL (beL n x) = x % 256 ^ n
  | 0, x => by simp [beL, nvL]
  | n + 1, x => by
    have hp : (0 : Int) < 256 ^ n := Int.pow_pos (by decide)
    rw [beL, nvL_snoc, nvL_beL n, Int.pow_succ, Int.mul_comm (256 ^ n) 256]
    have h1 := Int.emod_add_mul_ediv x 256
    have h2 := Int.emod_add_mul_ediv (x / 256) (256 ^ n)
    have h3 := Int.emod_add_mul_ediv x (256 * 256 ^ n)
    have h4 : x / (256 * 256 ^ n) = x / 256 / 256 ^ n := by rw [Int.ediv_ediv_of_nonneg (by decide)]
    rw [h4] at h3
    generalize x / 256 / 256 ^ n = q at *
    generalize x / 256 % 256 ^ n = r at *
    generalize x % (256 * 256 ^ n) = z at *
    rw [Int.mul_assoc] at h3
    generalize (256 : Int) ^ n * q = u at *
    omega
def From (s : ByteArray) (p : Nat) (l : List Int) : Prop := p ≤ s.size ∧ (bytesOf s).drop p = l
theorem From.len {s : ByteArray} {p : Nat} {l : List Int} (h : From s p l) : p + l.length = s.size := by
  have := bytesOf_length s
  obtain ⟨h1, rfl⟩ := h
  rw [List.length_drop]
  omega
theorem From.skip {s : ByteArray} {p : Nat} {l m : List Int} (h : From s p (l ++ m)) : From s (p + l.length) m := by
  have hl := h.len
  refine ⟨by rw [List.length_append] at hl; omega, ?_⟩
  rw [← List.drop_drop, h.2, List.drop_left]
theorem From.start (s : ByteArray) : From s 0 (bytesOf s) := ⟨Nat.zero_le _, rfl⟩
theorem From.number {s : ByteArray} {p n : Nat} {x : Int} {m : List Int} (h : From s p (beL n x ++ m)) : nv s p n = x % 256 ^ n ∧ From s (p + n) m := by
  have hl := h.len
  rw [List.length_append, beL_length] at hl
  refine ⟨?_, ?_⟩
  · rw [nv_list s p n (by omega), h.2, List.take_left' (beL_length n x), nvL_beL]
  · have := h.skip
    rwa [beL_length] at this
theorem From.text {s t : ByteArray} {p : Nat} {m : List Int} (h : From s p (bytesOf t ++ m)) : s.extract p (p + t.size) = t ∧ From s (p + t.size) m := by
  refine ⟨bytesOf_inj ?_, ?_⟩
  · rw [bytesOf_extract, h.2, Nat.add_sub_cancel_left, List.take_left' (bytesOf_length t)]
  · have := h.skip
    rwa [bytesOf_length] at this
def dupB (l : List Int) : Bool := decide (¬ l.Nodup)
theorem dupB_snoc (l : List Int) (x : Int) : dupB (l ++ [x]) = (dupB l || decide (x ∈ l)) := by
  unfold dupB
  rw [Bool.eq_iff_iff]
  have h : (l ++ [x]).Nodup ↔ l.Nodup ∧ x ∉ l := by
    rw [List.nodup_append]
    simp only [List.mem_singleton, forall_eq]
    refine ⟨fun ⟨a, _, c⟩ => ⟨a, fun h => c x h rfl⟩, fun ⟨a, c⟩ => ⟨a, List.nodup_cons.mpr ⟨List.not_mem_nil, List.nodup_nil⟩, fun y hy e => c (e ▸ hy)⟩⟩
  simp only [decide_eq_true_eq, Bool.or_eq_true, h]
  by_cases h1 : l.Nodup <;> by_cases h2 : x ∈ l <;> simp [h1, h2]
def kindsOf (l : List S41) : List Int := l.map S41.f0
theorem kinds_snoc (l : List S41) (x : S41) : kindsOf (l ++ [x]) = kindsOf l ++ [x.f0] := by simp [kindsOf]
def fin (acc : List S41) : Option (List S41) → List S41 × Int
  | none => ([], 1600)
  | some l => if dupB (kindsOf (acc ++ l)) = true then ([], 1601) else (acc ++ l, 0)
def exL (s : ByteArray) : Nat → Int → Option (List S41)
  | 0, _ => some []
  | d + 1, p => if p < s.size then
      (if (numOf s p 2).2.2 = 0 then (if (vecOf s (p + 2) 2).2.2 = 0 then (exL s d (vecOf s (p + 2) 2).2.1).map (fun l => ⟨nv s p 2, (vecOf s (p + 2) 2).1⟩ :: l) else none) else none)
      else some []
theorem fin_cons (acc : List S41) (x : S41) (o : Option (List S41)) : fin acc (o.map (fun l => x :: l)) = fin (acc ++ [x]) o := by
  cases o with
  | none => rfl
  | some l => simp only [Option.map_some, fin, List.append_assoc, List.singleton_append]
theorem vec_bd {s : ByteArray} {p : Int} (h0 : 0 ≤ p) (h : (vecOf s p 2).2.2 = 0) : p + 2 ≤ (vecOf s p 2).2.1 ∧ (vecOf s p 2).2.1 ≤ s.size ∧ ((vecOf s p 2).1.size : Int) = (vecOf s p 2).2.1 - (p + 2) ∧ nv s p 2 = (vecOf s p 2).1.size := by
  unfold vecOf at h ⊢
  have v := nv_bd4 s p 2 (by omega)
  by_cases hc : p < 0 ∨ p > s.size ∨ s.size - p < (2 : Nat)
  · rw [if_pos hc] at h; simp at h
  · rw [if_neg hc] at h ⊢
    by_cases hl : nv s p 2 > s.size - (p + (2 : Nat))
    · rw [if_pos hl] at h; simp at h
    · rw [if_neg hl]
      have e : (s.extract (p + (2 : Nat)).toNat (p + (2 : Nat) + nv s p 2).toNat).size = (nv s p 2).toNat := by
        rw [ByteArray.size_extract]
        omega
      simp only [e]
      omega
theorem num_to {s : ByteArray} {p : Int} (h : (numOf s p 2).2.2 = 0) : numOf s p 2 = (nv s p 2, p + 2, 0) ∧ p + 2 ≤ s.size := by
  unfold numOf at h ⊢
  by_cases hc : p < 0 ∨ p > s.size ∨ s.size - p < (2 : Nat)
  · rw [if_pos hc] at h; simp at h
  · rw [if_neg hc]
    exact ⟨rfl, by omega⟩
theorem wfn {x : Int} (h0 : 0 ≤ x) (h1 : x < 4294967296) : (Lit.int .i64 x).wf = true := by
  simp [Lit.wf, IntKind.min, IntKind.max, IntKind.signed, IntKind.bits]
  omega
theorem get_loop (s : ByteArray) (hs : s.size ≤ 16777216) : ∀ (d : Nat) (p : Int) (acc : List S41), 0 ≤ p → p ≤ s.size → (s.size : Int) - p ≤ d → 4 * (acc.length : Int) ≤ p →
    Ev (fun k => ext_Get.l0 k s acc (kindsOf acc) (dupB (kindsOf acc)) p) (fin acc (exL s (d + 1) p)) := by
  intro d
  induction d with
  | zero =>
    intro p acc h0 h1 hd hl
    refine Ev.step (fun k => rfl) ?_
    simp only [ext_Get.l0]
    rw [exL]
    have hn : ¬ p < s.size := by omega
    refine evNeg hn ?_
    rw [if_neg hn]
    simp only [fin, List.append_nil]
    by_cases hu : dupB (kindsOf acc) = true
    · exact evPos hu (by rw [if_pos hu]; exact Ev.now _)
    · exact evNeg hu (by rw [if_neg hu]; exact Ev.now _)
  | succ d ih =>
    intro p acc h0 h1 hd hl
    refine Ev.step (fun k => rfl) ?_
    simp only [ext_Get.l0]
    rw [exL]
    by_cases hlt : p < s.size
    · refine evPos hlt ?_
      rw [if_pos hlt]
      refine Ev.bind (U16_any s p (by omega)) ?_
      by_cases hn : (numOf s p 2).2.2 = 0
      · refine evPos hn ?_
        rw [if_pos hn]
        obtain ⟨e, hp2⟩ := num_to hn
        have v := nv_bd4 s p 2 (by omega)
        rw [e]
        refine Ev.bind (vec_ok (s := s) (a := p + 2) (n := 2) (by omega) (by omega) (by omega)) ?_
        by_cases hv : (vecOf s (p + 2) 2).2.2 = 0
        · refine evPos hv ?_
          rw [if_pos hv, fin_cons]
          obtain ⟨b1, b2, b3, _⟩ := vec_bd (by omega) hv
          have hlen : (kindsOf acc).length = acc.length := by simp [kindsOf]
          have key := ih (vecOf s (p + 2) 2).2.1 (acc ++ [⟨nv s p 2, (vecOf s (p + 2) 2).1⟩]) (by omega) b2 (by omega) (by simp only [List.length_append, List.length_singleton]; omega)
          rw [kinds_snoc, dupB_snoc] at key
          by_cases hu : dupB (kindsOf acc) = true
          · refine evPos hu (evPos (wfn v.1 v.2) (evPos (by omega) (evPos (by omega) ?_)))
            rw [hu] at key
            exact key
          · refine evNeg hu (evPos (wfn v.1 v.2) (evPos (by omega) (evPos (by omega) ?_)))
            have hu' : dupB (kindsOf acc) = false := by simpa using hu
            rw [hu'] at key
            exact key
        · refine evNeg hv ?_
          rw [if_neg hv]
          exact Ev.now _
      · refine evNeg hn ?_
        rw [if_neg hn]
        exact Ev.now _
    · refine evNeg hlt ?_
      rw [if_neg hlt]
      simp only [fin, List.append_nil]
      by_cases hu : dupB (kindsOf acc) = true
      · exact evPos hu (by rw [if_pos hu]; exact Ev.now _)
      · exact evNeg hu (by rw [if_neg hu]; exact Ev.now _)
def getOf (s : ByteArray) : List S41 × Int := fin [] (exL s (s.size + 1) 0)
theorem get_any (s : ByteArray) (hs : s.size ≤ 16777216) : Ev (fun k => ext_Get.f k s) (getOf s) := by
  have h := get_loop s hs s.size 0 [] (by omega) (by omega) (by omega) (by simp)
  exact h
def okE (x : S41) : Prop := 0 ≤ x.f0 ∧ x.f0 ≤ 65535 ∧ x.f1.size ≤ 65535
instance (x : S41) : Decidable (okE x) := by unfold okE; infer_instance
def encE (x : S41) : ByteArray := strOfNums (beL 2 x.f0) ++ (strOfNums (beL 2 x.f1.size) ++ x.f1)
def encs (l : List S41) : ByteArray := l.foldl (fun a x => a ++ encE x) ⟨#[]⟩
theorem pv2 {t : ByteArray} (ht : t.size ≤ 65535) : wire_PutVec.f t 2 = some (strOfNums (beL 2 t.size) ++ t, 0) := by
  have h := putVec_ok t 2 (by omega) (by omega) (by omega)
  unfold putVecOf at h
  rw [if_pos (by omega)] at h
  exact h
end Go.Proofs.Ytlkebjkpmiehcaa.Pure
end
section
namespace Go.Proofs.Ytlkebjkpmiehcaa.Ms
open Go.RowKit Go.Proofs.YtlkebjkpmiehcaaW.PrintWords Go.Proofs.YtlkebjkpmiehcaaW.PrintLast Go.Proofs.YtlkebjkpmiehcaaW.PrintMore Go.Proofs.Ytlkebjkpmiehcaa.X
open Go.Proofs.Ytlkebjkpmiehcaa.Pure (nv numOf vecOf nv_bd nv_bd4 number_any vec_ok)
set_option linter.unusedVariables false
theorem xe_number : wire_number.f = E.wire_number.f := by kernel_rfl
theorem xe_vec : wire_Vec.f = E.wire_Vec.f := by kernel_rfl
structure Rp where
  s : ByteArray
  p : Int
  c : Int
  t : Bool
  l : Bool
abbrev RS (W : World) (r f : Nat) (R : Rp) : Prop := Rs W r f R.s R.p R.c R.t R.l
structure Rp.Ok (R : Rp) : Prop where
  lo : 0 ≤ R.p
  hi : R.p ≤ R.s.size
  sz : R.s.size ≤ 65536
def Rp.need (R : Rp) (b : Bool) : Rp := { R with c := needed R.c b }
def Rp.allow (R : Rp) (b : Bool) : Rp := { R with c := allowed R.c b }
def Rp.fail (R : Rp) (e : Int) : Rp := { R with c := bad R.c e }
def Rp.done (R : Rp) : Rp := R.need (R.p == (R.s.size : Int))
def Rp.more (R : Rp) : Bool := R.c == 0 && decide (R.p < (R.s.size : Int))
def Rp.numC (R : Rp) (n : Nat) : Int := needed R.c ((numOf R.s R.p n).2.2 == 0)
def Rp.numV (R : Rp) (n : Nat) : Int := sel (R.numC n) (numOf R.s R.p n).1 0
def Rp.numR (R : Rp) (n : Nat) : Rp := { R with p := sel (R.numC n) (numOf R.s R.p n).2.1 R.p, c := R.numC n }
def Rp.vecC (R : Rp) (n : Nat) (least most : Int) : Int := needed R.c (vecOk (vecOf R.s R.p n).1 (vecOf R.s R.p n).2.2 least most)
def Rp.vecV (R : Rp) (n : Nat) (least most : Int) : ByteArray := sel (R.vecC n least most) (vecOf R.s R.p n).1 ⟨#[]⟩
def Rp.vecR (R : Rp) (n : Nat) (least most : Int) : Rp := { R with p := sel (R.vecC n least most) (vecOf R.s R.p n).2.1 R.p, c := R.vecC n least most }
def Rp.outR (R : Rp) (n : Nat) : Rp := R.vecR n 0 16777216
def Rp.inR (R : Rp) (n : Nat) : Rp := ⟨R.vecV n 0 16777216, 0, R.vecC n 0 16777216, R.t, false⟩
def Rp.back (R I : Rp) : Rp := { R with c := I.c, t := I.t }
def Rp.bytC (R : Rp) (n : Int) : Int := needed R.c (decide (n ≤ (R.s.size : Int) - R.p))
def Rp.bytV (R : Rp) (n : Int) : ByteArray := sel (R.bytC n) (R.s.extract R.p.toNat (R.p + n).toNat) ⟨#[]⟩
def Rp.bytR (R : Rp) (n : Int) : Rp := { R with p := sel (R.bytC n) (R.p + n) R.p, c := R.bytC n }
theorem needed_zero {c : Int} {b : Bool} (h : needed c b = 0) : c = 0 ∧ b = true := by
  unfold needed bad at h
  cases b
  · simp only [Bool.false_eq_true, if_false] at h
    split at h
    · simp at h
    · exact absurd h ‹_›
  · exact ⟨h, rfl⟩
theorem allowed_zero {c : Int} {b : Bool} (h : allowed c b = 0) : c = 0 ∧ b = true := by
  unfold allowed bad at h
  cases b
  · simp only [Bool.false_eq_true, if_false] at h
    split at h
    · simp at h
    · exact absurd h ‹_›
  · exact ⟨h, rfl⟩
theorem Rp.Ok.need {R : Rp} (h : R.Ok) (b : Bool) : (R.need b).Ok := ⟨h.lo, h.hi, h.sz⟩
theorem Rp.Ok.allow {R : Rp} (h : R.Ok) (b : Bool) : (R.allow b).Ok := ⟨h.lo, h.hi, h.sz⟩
theorem Rp.Ok.fail {R : Rp} (h : R.Ok) (e : Int) : (R.fail e).Ok := ⟨h.lo, h.hi, h.sz⟩
theorem Rp.Ok.done {R : Rp} (h : R.Ok) : R.done.Ok := ⟨h.lo, h.hi, h.sz⟩
theorem Rp.Ok.back {R : Rp} (h : R.Ok) (I : Rp) : (R.back I).Ok := ⟨h.lo, h.hi, h.sz⟩
theorem num_ok {s : ByteArray} {p : Int} {n : Nat} (h0 : 0 ≤ p) (h1 : p ≤ s.size) : (numOf s p n).2.2 = 0 ∧ numOf s p n = (nv s p n, p + n, 0) ∧ p + n ≤ s.size ∨ (numOf s p n) = (0, 0, 100) := by
  unfold numOf
  by_cases hc : p < 0 ∨ p > s.size ∨ s.size - p < n
  · rw [if_pos hc]
    exact .inr rfl
  · rw [if_neg hc]
    exact .inl ⟨rfl, rfl, by omega⟩
theorem Rp.numV_bd (R : Rp) (n : Nat) : 0 ≤ R.numV n ∧ R.numV n < 256 ^ n := by
  have hp : (0 : Int) < 256 ^ n := by exact Int.pow_pos (by decide)
  unfold Rp.numV sel numOf
  repeat' split
  all_goals first | exact nv_bd _ _ _ | exact ⟨by simp, hp⟩
theorem Rp.Ok.numR {R : Rp} (h : R.Ok) (n : Nat) : (R.numR n).Ok := by
  refine ⟨?_, ?_, h.sz⟩ <;> (unfold Rp.numR sel; dsimp only; split)
  all_goals rename_i hc
  all_goals first | exact h.lo | exact h.hi | skip
  all_goals
    have hz := (needed_zero hc).2
    rcases num_ok (s := R.s) (p := R.p) (n := n) h.lo h.hi with ⟨_, h2, h3⟩ | h2
    · rw [h2]
      have := h.lo
      first | exact h3 | (show 0 ≤ R.p + (n : Int); omega)
    · rw [h2] at hz
      exact absurd hz (by decide)
theorem vec_bd' {s : ByteArray} {p : Int} {n : Nat} (h0 : 0 ≤ p) (h : (vecOf s p n).2.2 = 0) : p + n ≤ (vecOf s p n).2.1 ∧ (vecOf s p n).2.1 ≤ s.size ∧ ((vecOf s p n).1.size : Int) = (vecOf s p n).2.1 - (p + n) ∧ nv s p n = (vecOf s p n).1.size := by
  unfold vecOf at h ⊢
  have v := nv_bd s p n
  by_cases hc : p < 0 ∨ p > s.size ∨ s.size - p < n
  · rw [if_pos hc] at h
    simp at h
  · rw [if_neg hc] at h ⊢
    by_cases hl : nv s p n > s.size - (p + n)
    · rw [if_pos hl] at h
      simp at h
    · rw [if_neg hl]
      have e : (s.extract (p + n).toNat (p + n + nv s p n).toNat).size = (nv s p n).toNat := by
        rw [ByteArray.size_extract]
        omega
      simp only [e]
      omega
theorem vecC_zero {R : Rp} {n : Nat} {least most : Int} (h : R.vecC n least most = 0) : R.c = 0 ∧ (vecOf R.s R.p n).2.2 = 0 ∧ least ≤ (vecOf R.s R.p n).1.size ∧ ((vecOf R.s R.p n).1.size : Int) ≤ most := by
  obtain ⟨h1, h2⟩ := needed_zero h
  unfold vecOk at h2
  simp only [Bool.and_eq_true, beq_iff_eq, decide_eq_true_eq] at h2
  exact ⟨h1, h2.1.1, h2.1.2, h2.2⟩
theorem Rp.Ok.vecR {R : Rp} (h : R.Ok) (n : Nat) (least most : Int) : (R.vecR n least most).Ok := by
  refine ⟨?_, ?_, h.sz⟩ <;> (unfold Rp.vecR sel; dsimp only; split)
  all_goals rename_i hc
  all_goals first | exact h.lo | exact h.hi | skip
  all_goals
    obtain ⟨h2, h3, _⟩ := vec_bd' h.lo (vecC_zero hc).2.1
    have := h.lo
    first | exact h3 | omega
theorem Rp.vecV_size {R : Rp} (h : R.Ok) (n : Nat) (least most : Int) : (R.vecV n least most).size ≤ R.s.size := by
  unfold Rp.vecV sel
  split
  · rename_i hc
    have hb := vec_bd' h.lo (vecC_zero hc).2.1
    have := h.lo
    omega
  · exact Nat.zero_le _
theorem Rp.Ok.inR {R : Rp} (h : R.Ok) (n : Nat) : (R.inR n).Ok := ⟨Int.le_refl _, by show (0 : Int) ≤ _; omega, Nat.le_trans (Rp.vecV_size h n 0 16777216) h.sz⟩
theorem Rp.Ok.outR {R : Rp} (h : R.Ok) (n : Nat) : (R.outR n).Ok := h.vecR n 0 16777216
theorem Rp.Ok.bytR {R : Rp} (h : R.Ok) {n : Int} (hn : 0 ≤ n) : (R.bytR n).Ok := by
  have h1 := h.lo
  have h2 := h.hi
  refine ⟨?_, ?_, h.sz⟩ <;> (unfold Rp.bytR sel; dsimp only; split)
  · omega
  · exact h1
  · rename_i hc
    have h3 := of_decide_eq_true (needed_zero hc).2
    omega
  · exact h2
theorem ev_at {α : Type} {f : Nat → Option α} {r : α} (h : Ev f r) : ∃ k, f k = some r := by
  obtain ⟨K, h⟩ := h
  exact ⟨K, h K (Nat.le_refl _)⟩
theorem num_at (n : Nat) (s : ByteArray) (p : Int) (h4 : n ≤ 4) (hs : s.size ≤ 65536) : ∃ k, wire_number.f k s p n = some (numOf s p n) := by
  rw [xe_number]
  exact ev_at (number_any s p n h4 (by omega))
theorem vec_at (n : Nat) (s : ByteArray) (p : Int) (h1 : 1 ≤ n) (h3 : n ≤ 3) (hs : s.size ≤ 65536) : ∃ k, wire_Vec.f k s p n = some (vecOf s p n) := by
  rw [xe_vec]
  exact ev_at (vec_ok h1 h3 (by omega))
section
variable (lo r f : Nat) (R : Rp) (w : World)
theorem u16_c (hl : lo ≤ f) (hl2 : lo ≤ r) (h : RS w r f R) (ho : R.Ok) :
    Calls Try.prog 70 #[.pointer (some ⟨r, 0, none⟩)] w fun ex w' => ex = .returned (.int .i64 (R.numV 2)) ∧ RS w' r f (R.numR 2) ∧ Kf lo r f w w' := by
  obtain ⟨k, hk⟩ := num_at 2 R.s R.p (by omega) ho.sz
  exact u16_calls lo r f R.s R.p R.c R.t R.l w hl hl2 h k _ _ _ (by unfold wire_U16.f; rw [show ((2 : Nat) : Int) = 2 from rfl] at hk; rw [hk]; rfl)
theorem u8_c (hl : lo ≤ f) (hl2 : lo ≤ r) (h : RS w r f R) (ho : R.Ok) :
    Calls Try.prog 75 #[.pointer (some ⟨r, 0, none⟩)] w fun ex w' => ex = .returned (.int .i64 (R.numV 1)) ∧ RS w' r f (R.numR 1) ∧ Kf lo r f w w' := by
  obtain ⟨k, hk⟩ := num_at 1 R.s R.p (by omega) ho.sz
  exact u8_calls lo r f R.s R.p R.c R.t R.l w hl hl2 h k _ _ _ (by unfold wire_U8.f; rw [show ((1 : Nat) : Int) = 1 from rfl] at hk; rw [hk]; rfl)
theorem u32_c (hl : lo ≤ f) (hl2 : lo ≤ r) (h : RS w r f R) (ho : R.Ok) :
    Calls Try.prog 104 #[.pointer (some ⟨r, 0, none⟩)] w fun ex w' => ex = .returned (.int .i64 (R.numV 4)) ∧ RS w' r f (R.numR 4) ∧ Kf lo r f w w' := by
  obtain ⟨k, hk⟩ := num_at 4 R.s R.p (by omega) ho.sz
  exact u32_calls lo r f R.s R.p R.c R.t R.l w hl hl2 h k _ _ _ (by unfold wire_U32.f; rw [show ((4 : Nat) : Int) = 4 from rfl] at hk; rw [hk]; rfl)
theorem rvec_c (z : Int) (n : Nat) (hz : z = n) (least most : Int) (h1 : 1 ≤ n) (h3 : n ≤ 3) (hl : lo ≤ f) (hl2 : lo ≤ r) (h : RS w r f R) (ho : R.Ok) :
    Calls Try.prog 71 #[.pointer (some ⟨r, 0, none⟩), .int .i64 z, .int .i64 least, .int .i64 most] w fun ex w' => ex = .returned (.string (R.vecV n least most)) ∧ RS w' r f (R.vecR n least most) ∧ Kf lo r f w w' := by
  subst hz
  obtain ⟨k, hk⟩ := vec_at n R.s R.p h1 h3 ho.sz
  exact rvec_calls lo r f R.s R.p R.c R.t R.l n least most w hl hl2 h k _ _ _ hk _ rfl
theorem rwithin_c (z : Int) (n : Nat) (hz : z = n) (h1 : 1 ≤ n) (h3 : n ≤ 3) (hl : lo ≤ f) (hl2 : lo ≤ r) (h : RS w r f R) (ho : R.Ok) :
    Calls Try.prog 66 #[.pointer (some ⟨r, 0, none⟩), .int .i64 z] w fun ex w' => ∃ r2, ex = .returned (.pointer (some ⟨r2, 0, none⟩)) ∧ w.heap.size ≤ r2 ∧ RS w' r f (R.outR n) ∧ RS w' r2 f (R.inR n) ∧ Kf lo r f w w' := by
  subst hz
  obtain ⟨k, hk⟩ := vec_at n R.s R.p h1 h3 ho.sz
  exact rwithin_calls lo r f R.s R.p R.c R.t R.l n w hl hl2 h k _ _ _ hk _ rfl
theorem rneed_c (b : Bool) (hl : lo ≤ f) (h : RS w r f R) :
    Calls Try.prog 72 #[.pointer (some ⟨r, 0, none⟩), .bool b] w fun ex w' => ex = .returned (.tuple #[]) ∧ RS w' r f (R.need b) ∧ Kf lo r f w w' := rneed_calls lo r f R.s R.p R.c R.t R.l b w hl h
theorem allow_c (b : Bool) (hl : lo ≤ f) (h : RS w r f R) :
    Calls Try.prog 76 #[.pointer (some ⟨r, 0, none⟩), .bool b] w fun ex w' => ex = .returned (.tuple #[]) ∧ RS w' r f (R.allow b) ∧ Kf lo r f w w' := allow_calls lo r f R.s R.p R.c R.t R.l b w hl h
theorem fail_c (e : Int) (hl : lo ≤ f) (h : RS w r f R) :
    Calls Try.prog 50 #[.pointer (some ⟨r, 0, none⟩), .int .i64 e] w fun ex w' => ex = .returned (.tuple #[]) ∧ RS w' r f (R.fail e) ∧ Kf lo r f w w' := fail_calls lo r f R.s R.p R.c e R.t R.l w hl h
theorem done_c (hl : lo ≤ f) (h : RS w r f R) :
    Calls Try.prog 77 #[.pointer (some ⟨r, 0, none⟩)] w fun ex w' => ex = .returned (.tuple #[]) ∧ RS w' r f R.done ∧ Kf lo r f w w' := done_calls lo r f R.s R.p R.c R.t R.l w hl h
theorem ok_c (h : RS w r f R) :
    Calls Try.prog 51 #[.pointer (some ⟨r, 0, none⟩)] w fun ex w' => ex = .returned (.bool (R.c == 0)) ∧ w' = w := ok_calls 0 r f R.s R.p R.c R.t R.l w h
theorem more_c (h : RS w r f R) :
    Calls Try.prog 99 #[.pointer (some ⟨r, 0, none⟩)] w fun ex w' => ex = .returned (.bool R.more) ∧ Below w.heap.size w w' := more_calls r f R.s R.p R.c R.t R.l w h
end
end Go.Proofs.Ytlkebjkpmiehcaa.Ms
end
section
namespace Go.Proofs.Ytlkebjkpmiehcaa.Ms
open Go.RowKit Go.Proofs.YtlkebjkpmiehcaaW.PrintWords Go.Proofs.YtlkebjkpmiehcaaW.PrintLast Go.Proofs.YtlkebjkpmiehcaaW.PrintMore Go.Proofs.Ytlkebjkpmiehcaa.X
open Go.Proofs.Ytlkebjkpmiehcaa.Pure (nv numOf vecOf nv_bd nv_bd4 number_any vec_ok)
set_option linter.unusedVariables false
theorem wr64 {x : Int} (h0 : -9223372036854775808 ≤ x) (h1 : x ≤ 9223372036854775807) : IntKind.i64.wrap x = x := IntWalk.i64_in _ (by omega)
set_option maxRecDepth 100000 in
set_option maxHeartbeats 8000000 in
theorem bytes_c (lo r f : Nat) (R : Rp) (w : World) (n : Int) (hn : 0 ≤ n) (hn2 : n ≤ 65536) (hl : lo ≤ f) (hl2 : lo ≤ r) (h : RS w r f R) (ho : R.Ok) :
    Calls Try.prog 73 #[.pointer (some ⟨r, 0, none⟩), .int .i64 n] w fun ex w' => ex = .returned (.string (R.bytV n)) ∧ RS w' r f (R.bytR n) ∧ Kf lo r f w w' := by
  have H := Aside0.mk h
  have HL := Aside0.mk hl
  have HL2 := Aside0.mk hl2
  have HLW := Aside0.mk (show lo ≤ w.heap.size from Nat.le_of_lt (Nat.lt_of_le_of_lt HL.out (blk_lt H.out.ft)))
  obtain ⟨s, q, code, tw, last⟩ := R
  obtain ⟨b1, b2, b3⟩ := ho
  dsimp only at b1 b2 b3
  clear h hl hl2
  obtain ⟨ok, hok⟩ : ∃ ok, decide (n ≤ (s.size : Int) - q) = ok := ⟨_, rfl⟩
  have HOK := Aside0.mk hok
  unfold Rp.bytV Rp.bytR Rp.bytC
  dsimp only
  rw [hok]
  clear hok
  go_enter Try.func73, Try.ntmps73
  go_wp2
  have z1 : IntKind.i64.wrap ((s.size : Int) - q) = (s.size : Int) - q := wr64 (by omega) (by omega)
  refine start_ (n := 14) (S := fun w' => Below w.heap.size w w') (ds := [13]) #[false, false, false, false, false, false, false, false, false, false, false, false, false, false] (by kernel_rfl) rfl rfl (Below.refl w.heap.size w).drew (fun hHeld => ?_)
  have HS := Aside0.mk (Below.refl w.heap.size w).drew
  generalize w.drew = w7 at HS hHeld ⊢
  refine pure_ (i := 0) (N := (some 5)) (v := ?_) (a' := ?_) #[true, false, false, false, false, false, false, false, false, false, false, false, false, false] rfl rfl (by kernel_rfl) (fun _ _ _ h => h) (Or.inl ⟨by rfl, ?_⟩) ?_ ?_
  rotate_left
  · intro w'
    go_simp
    with_reducible rfl
  rotate_left
  · simp only [Act.put, List.setIfInBounds_toArray, List.set_cons_zero, List.set_cons_succ]
    rfl
  refine pure_ (i := 1) (N := (some 6)) (v := ?_) (a' := ?_) #[true, true, false, false, false, false, false, false, false, false, false, false, false, false] rfl rfl (by kernel_rfl) (fun _ _ _ h => h) (Or.inl ⟨by rfl, ?_⟩) ?_ ?_
  rotate_left
  · intro w'
    go_simp
    with_reducible rfl
  rotate_left
  · simp only [Act.put, List.setIfInBounds_toArray, List.set_cons_zero, List.set_cons_succ]
    rfl
  refine pure_ (i := 2) (N := (some 7)) (v := ?_) (a' := ?_) #[true, true, true, false, false, false, false, false, false, false, false, false, false, false] rfl rfl (by kernel_rfl) (fun _ _ _ h => h) (Or.inl ⟨by rfl, ?_⟩) ?_ ?_
  rotate_left
  · intro w'
    go_simp
    with_reducible rfl
  rotate_left
  · simp only [Act.put, List.setIfInBounds_toArray, List.set_cons_zero, List.set_cons_succ]
    rfl
  refine pure_ (i := 3) (N := (some 8)) (v := ?_) (a' := ?_) #[true, true, true, true, false, false, false, false, false, false, false, false, false, false] rfl rfl (by kernel_rfl) (fun _ _ _ h => h) (Or.inl ⟨by rfl, ?_⟩) ?_ ?_
  rotate_left
  · intro w'
    go_simp
    with_reducible rfl
  rotate_left
  · simp only [Act.put, List.setIfInBounds_toArray, List.set_cons_zero, List.set_cons_succ]
    rfl
  refine pure_ (i := 4) (N := (some 9)) (v := ?_) (a' := ?_) #[true, true, true, true, true, false, false, false, false, false, false, false, false, false] rfl rfl (by kernel_rfl) (fun _ _ _ h => h) (Or.inl ⟨by rfl, ?_⟩) ?_ ?_
  rotate_left
  · intro w'
    go_simp
    with_reducible rfl
  rotate_left
  · simp only [Act.put, List.setIfInBounds_toArray, List.set_cons_zero, List.set_cons_succ]
    rfl
  refine take_ (i := 5) (N := (some 10)) (v := ?_) (a' := ?_) #[true, true, true, true, true, true, false, false, false, false, false, false, false, false] rfl rfl (by kernel_rfl) (fun _ _ _ h => h) (Or.inl ⟨by rfl, ?_⟩) hHeld ?_ ?_
  rotate_left
  · rintro w' hS
    have hc := rcell H.out.rd hS
    obtain ⟨hc1, hc2, hc3⟩ := hc
    go_simp
    with_reducible rfl
  rotate_left
  · simp only [Act.put, List.setIfInBounds_toArray, List.set_cons_zero, List.set_cons_succ]
    rfl
  refine pure_ (i := 6) (N := (some 11)) (v := ?_) (a' := ?_) #[true, true, true, true, true, true, true, false, false, false, false, false, false, false] rfl rfl (by kernel_rfl) (fun _ _ _ h => h) (Or.inl ⟨by rfl, ?_⟩) ?_ ?_
  rotate_left
  · intro w'
    go_simp
    with_reducible rfl
  rotate_left
  · simp only [Act.put, List.setIfInBounds_toArray, List.set_cons_zero, List.set_cons_succ]
    rfl
  refine pure_ (i := 7) (N := (some 12)) (v := ?_) (a' := ?_) #[true, true, true, true, true, true, true, true, false, false, false, false, false, false] rfl rfl (by kernel_rfl) (fun _ _ _ h => h) (Or.inl ⟨by rfl, ?_⟩) ?_ ?_
  rotate_left
  · intro w'
    go_simp
    with_reducible rfl
  rotate_left
  · simp only [Act.put, List.setIfInBounds_toArray, List.set_cons_zero, List.set_cons_succ]
    rfl
  refine pure_ (i := 8) (N := (some 13)) (v := ?_) (a' := ?_) #[true, true, true, true, true, true, true, true, true, false, false, false, false, false] rfl rfl (by kernel_rfl) (fun _ _ _ h => h) (Or.inl ⟨by rfl, ?_⟩) ?_ ?_
  rotate_left
  · intro w'
    go_simp
    with_reducible rfl
  rotate_left
  · simp only [Act.put, List.setIfInBounds_toArray, List.set_cons_zero, List.set_cons_succ]
    rfl
  refine pure_ (i := 9) (N := (some 14)) (v := ?_) (a' := ?_) #[true, true, true, true, true, true, true, true, true, true, false, false, false, false] rfl rfl (by kernel_rfl) (fun _ _ _ h => h) (Or.inl ⟨by rfl, ?_⟩) ?_ ?_
  rotate_left
  · intro w'
    go_simp
    with_reducible rfl
  rotate_left
  · simp only [Act.put, List.setIfInBounds_toArray, List.set_cons_zero, List.set_cons_succ]
    rfl
  refine take_ (i := 10) (N := (some 15)) (v := ?_) (a' := ?_) #[true, true, true, true, true, true, true, true, true, true, true, false, false, false] rfl rfl (by kernel_rfl) (fun _ _ _ h => h) (Or.inl ⟨by rfl, ?_⟩) hHeld ?_ ?_
  rotate_left
  · rintro w' hS
    have hc := rcell H.out.rd hS
    obtain ⟨hc1, hc2, hc3⟩ := hc
    go_simp
    with_reducible rfl
  rotate_left
  · simp only [Act.put, List.setIfInBounds_toArray, List.set_cons_zero, List.set_cons_succ]
    rfl
  refine pure_ (i := 11) (N := (some 16)) (v := ?_) (a' := ?_) #[true, true, true, true, true, true, true, true, true, true, true, true, false, false] rfl rfl (by kernel_rfl) (fun _ _ _ h => h) (Or.inl ⟨by rfl, ?_⟩) ?_ ?_
  rotate_left
  · intro w'
    go_simp
    with_reducible rfl
  rotate_left
  · simp only [Act.put, List.setIfInBounds_toArray, List.set_cons_zero, List.set_cons_succ]
    rfl
  refine pure_ (i := 12) (N := (some 17)) (v := ?_) (a' := ?_) #[true, true, true, true, true, true, true, true, true, true, true, true, true, false] rfl rfl (by kernel_rfl) (fun _ _ _ h => h) (Or.inl ⟨by rfl, ?_⟩) ?_ ?_
  rotate_left
  · intro w'
    go_simp
    with_reducible rfl
  rotate_left
  · simp only [Act.put, List.setIfInBounds_toArray, List.set_cons_zero, List.set_cons_succ]
    rfl
  refine last_ (i := 13) (N := (some 18)) #[true, true, true, true, true, true, true, true, true, true, true, true, true, true] rfl rfl (by kernel_rfl) (by decide) (fun K hK => ?_)
  refine goes_ (f := 72) Try.func72 (by kernel_rfl) rfl #[.pointer (some ⟨r, 0, none⟩), .bool (decide (n ≤ (s.size : Int) - q))] (by rfl) rfl rfl (by (try simp only [List.map_toArray, List.map_cons, List.map_nil]); first | done | rfl) ?_
  refine (rneed_calls lo r f s q code tw last (decide (n ≤ (s.size : Int) - q)) _ HL.out (H.out.below HS.out)).mono ?_
  rintro e w8 ⟨rfl, i8, k8⟩
  refine ⟨_, rfl, ?_⟩
  rw [HOK.out] at i8
  have H8 := Aside0.mk i8
  have K8 := Aside0.mk ((Kf.of_below (r := r) (f := f) HLW.out HS.out).trans k8)
  clear i8 k8
  refine hK.out _ _ ?_
  clear hK K
  refine norm_ (a' := ?_) ?_ ?_
  rotate_left
  · show Act.put _ (some 18) _ = _
    simp only [Act.put, List.setIfInBounds_toArray, List.set_cons_zero, List.set_cons_succ]
    rfl
  refine done_ (by kernel_rfl) ?_
  clear z1
  by_cases c : needed code ok = 0
  · have c0 : (needed code ok == 0) = true := beq_iff_eq.mpr c
    have HCc := Aside0.mk c
    have b4 : n ≤ (s.size : Int) - q := of_decide_eq_true (HOK.out.trans (needed_zero c).2)
    clear c
    have zz : IntKind.i64.wrap (q + n) = q + n := wr64 (by omega) (by omega)
    go_wp2_with (first
      | (go_at_call 51; (with_reducible refine (ok_calls lo r f s q _ tw last _ H8.out).mono ?_); rintro e10 w10 ⟨rfl, rfl⟩)
      | ((with_reducible refine gate_dst (N := 25) rfl ?_); refine ld (v := .int .i64 q) rfl rfl rfl H8.out.rd Try.underlying3 rfl rfl ?_)
      | ((with_reducible refine gate_store (p := 29) rfl ?_); refine st (v := .int .i64 (q + n)) rfl rfl rfl H8.out.rd sz3' rfl rfl rfl (by simp) ?_; intro w3 h3 b3 k3; have H3 := Aside0.mk (Rs.mk h3 ((k3.2 f (blk_lt H8.out.ft) (Ne.symm H8.out.ne) (by simp)).trans H8.out.ft)); have K3 := Aside0.mk (K8.out.trans (Kf.of_keep (f := f) (.inl rfl) (b3 _ HL2.out) k3)); clear h3 b3 k3))
    have z2 : IntKind.i64.wrap q = q := wr64 (by omega) (by omega)
    have z3 : q ≤ q + n := by omega
    have z4 : q + n ≤ (s.size : Int) := by omega
    refine start_ (n := 16) (S := fun w' => Below w3.heap.size w3 w') (ds := []) #[false, false, false, false, false, false, false, false, false, false, false, false, false, false, false, false] (by kernel_rfl) rfl rfl (Below.refl w3.heap.size w3).drew (fun hHeld => ?_)
    have HS3 := Aside0.mk (Below.refl w3.heap.size w3).drew
    generalize w3.drew = w5 at HS3 hHeld ⊢
    refine pure_ (i := 0) (N := (some 30)) (v := ?_) (a' := ?_) #[true, false, false, false, false, false, false, false, false, false, false, false, false, false, false, false] rfl rfl (by kernel_rfl) (fun _ _ _ h => h) (Or.inl ⟨by rfl, ?_⟩) ?_ ?_
    rotate_left
    · intro w'
      go_simp
      with_reducible rfl
    rotate_left
    · simp only [Act.put, List.setIfInBounds_toArray, List.set_cons_zero, List.set_cons_succ]
      rfl
    refine pure_ (i := 1) (N := (some 31)) (v := ?_) (a' := ?_) #[true, true, false, false, false, false, false, false, false, false, false, false, false, false, false, false] rfl rfl (by kernel_rfl) (fun _ _ _ h => h) (Or.inl ⟨by rfl, ?_⟩) ?_ ?_
    rotate_left
    · intro w'
      go_simp
      with_reducible rfl
    rotate_left
    · simp only [Act.put, List.setIfInBounds_toArray, List.set_cons_zero, List.set_cons_succ]
      rfl
    refine pure_ (i := 2) (N := (some 32)) (v := ?_) (a' := ?_) #[true, true, true, false, false, false, false, false, false, false, false, false, false, false, false, false] rfl rfl (by kernel_rfl) (fun _ _ _ h => h) (Or.inl ⟨by rfl, ?_⟩) ?_ ?_
    rotate_left
    · intro w'
      go_simp
      with_reducible rfl
    rotate_left
    · simp only [Act.put, List.setIfInBounds_toArray, List.set_cons_zero, List.set_cons_succ]
      rfl
    refine take_ (i := 3) (N := (some 33)) (v := ?_) (a' := ?_) #[true, true, true, true, false, false, false, false, false, false, false, false, false, false, false, false] rfl rfl (by kernel_rfl) (fun _ _ _ h => h) (Or.inl ⟨by rfl, ?_⟩) hHeld ?_ ?_
    rotate_left
    · rintro w' hS
      have hc := rcell H3.out.rd hS
      obtain ⟨hc1, hc2, hc3⟩ := hc
      go_simp
      with_reducible rfl
    rotate_left
    · simp only [Act.put, List.setIfInBounds_toArray, List.set_cons_zero, List.set_cons_succ]
      rfl
    refine pure_ (i := 4) (N := (some 34)) (v := ?_) (a' := ?_) #[true, true, true, true, true, false, false, false, false, false, false, false, false, false, false, false] rfl rfl (by kernel_rfl) (fun _ _ _ h => h) (Or.inl ⟨by rfl, ?_⟩) ?_ ?_
    rotate_left
    · intro w'
      go_simp
      with_reducible rfl
    rotate_left
    · simp only [Act.put, List.setIfInBounds_toArray, List.set_cons_zero, List.set_cons_succ]
      rfl
    refine pure_ (i := 5) (N := (some 35)) (v := ?_) (a' := ?_) #[true, true, true, true, true, true, false, false, false, false, false, false, false, false, false, false] rfl rfl (by kernel_rfl) (fun _ _ _ h => h) (Or.inl ⟨by rfl, ?_⟩) ?_ ?_
    rotate_left
    · intro w'
      go_simp
      with_reducible rfl
    rotate_left
    · simp only [Act.put, List.setIfInBounds_toArray, List.set_cons_zero, List.set_cons_succ]
      rfl
    refine pure_ (i := 6) (N := (some 36)) (v := ?_) (a' := ?_) #[true, true, true, true, true, true, true, false, false, false, false, false, false, false, false, false] rfl rfl (by kernel_rfl) (fun _ _ _ h => h) (Or.inl ⟨by rfl, ?_⟩) ?_ ?_
    rotate_left
    · intro w'
      go_simp
      with_reducible rfl
    rotate_left
    · simp only [Act.put, List.setIfInBounds_toArray, List.set_cons_zero, List.set_cons_succ]
      rfl
    refine take_ (i := 7) (N := (some 37)) (v := ?_) (a' := ?_) #[true, true, true, true, true, true, true, true, false, false, false, false, false, false, false, false] rfl rfl (by kernel_rfl) (fun _ _ _ h => h) (Or.inl ⟨by rfl, ?_⟩) hHeld ?_ ?_
    rotate_left
    · rintro w' hS
      have hc := rcell H3.out.rd hS
      obtain ⟨hc1, hc2, hc3⟩ := hc
      go_simp
      with_reducible rfl
    rotate_left
    · simp only [Act.put, List.setIfInBounds_toArray, List.set_cons_zero, List.set_cons_succ]
      rfl
    refine pure_ (i := 8) (N := (some 38)) (v := ?_) (a' := ?_) #[true, true, true, true, true, true, true, true, true, false, false, false, false, false, false, false] rfl rfl (by kernel_rfl) (fun _ _ _ h => h) (Or.inl ⟨by rfl, ?_⟩) ?_ ?_
    rotate_left
    · intro w'
      go_simp
      with_reducible rfl
    rotate_left
    · simp only [Act.put, List.setIfInBounds_toArray, List.set_cons_zero, List.set_cons_succ]
      rfl
    refine pure_ (i := 9) (N := (some 39)) (v := ?_) (a' := ?_) #[true, true, true, true, true, true, true, true, true, true, false, false, false, false, false, false] rfl rfl (by kernel_rfl) (fun _ _ _ h => h) (Or.inl ⟨by rfl, ?_⟩) ?_ ?_
    rotate_left
    · intro w'
      go_simp
      with_reducible rfl
    rotate_left
    · simp only [Act.put, List.setIfInBounds_toArray, List.set_cons_zero, List.set_cons_succ]
      rfl
    refine pure_ (i := 10) (N := (some 40)) (v := ?_) (a' := ?_) #[true, true, true, true, true, true, true, true, true, true, true, false, false, false, false, false] rfl rfl (by kernel_rfl) (fun _ _ _ h => h) (Or.inl ⟨by rfl, ?_⟩) ?_ ?_
    rotate_left
    · intro w'
      go_simp
      with_reducible rfl
    rotate_left
    · simp only [Act.put, List.setIfInBounds_toArray, List.set_cons_zero, List.set_cons_succ]
      rfl
    refine pure_ (i := 11) (N := (some 41)) (v := ?_) (a' := ?_) #[true, true, true, true, true, true, true, true, true, true, true, true, false, false, false, false] rfl rfl (by kernel_rfl) (fun _ _ _ h => h) (Or.inl ⟨by rfl, ?_⟩) ?_ ?_
    rotate_left
    · intro w'
      go_simp
      with_reducible rfl
    rotate_left
    · simp only [Act.put, List.setIfInBounds_toArray, List.set_cons_zero, List.set_cons_succ]
      rfl
    refine pure_ (i := 12) (N := (some 42)) (v := ?_) (a' := ?_) #[true, true, true, true, true, true, true, true, true, true, true, true, true, false, false, false] rfl rfl (by kernel_rfl) (fun _ _ _ h => h) (Or.inl ⟨by rfl, ?_⟩) ?_ ?_
    rotate_left
    · intro w'
      go_simp
      with_reducible rfl
    rotate_left
    · simp only [Act.put, List.setIfInBounds_toArray, List.set_cons_zero, List.set_cons_succ]
      rfl
    refine take_ (i := 13) (N := (some 43)) (v := ?_) (a' := ?_) #[true, true, true, true, true, true, true, true, true, true, true, true, true, true, false, false] rfl rfl (by kernel_rfl) (fun _ _ _ h => h) (Or.inl ⟨by rfl, ?_⟩) hHeld ?_ ?_
    rotate_left
    · rintro w' hS
      have hc := rcell H3.out.rd hS
      obtain ⟨hc1, hc2, hc3⟩ := hc
      go_simp
      with_reducible rfl
    rotate_left
    · simp only [Act.put, List.setIfInBounds_toArray, List.set_cons_zero, List.set_cons_succ]
      rfl
    refine pure_ (i := 14) (N := (some 44)) (v := ?_) (a' := ?_) #[true, true, true, true, true, true, true, true, true, true, true, true, true, true, true, false] rfl rfl (by kernel_rfl) (fun _ _ _ h => h) (Or.inl ⟨by rfl, ?_⟩) ?_ ?_
    rotate_left
    · intro w'
      have bb := b1
      go_simp
      with_reducible rfl
    rotate_left
    · simp only [Act.put, List.setIfInBounds_toArray, List.set_cons_zero, List.set_cons_succ]
      rfl
    refine pure_ (i := 15) (N := (some 4)) (v := ?_) (a' := ?_) #[true, true, true, true, true, true, true, true, true, true, true, true, true, true, true, true] rfl rfl (by kernel_rfl) (fun _ _ _ h => h) (Or.inl ⟨by rfl, ?_⟩) ?_ ?_
    rotate_left
    · intro w'
      go_simp
      with_reducible rfl
    rotate_left
    · simp only [Act.put, List.setIfInBounds_toArray, List.set_cons_zero, List.set_cons_succ]
      rfl
    refine done_ (by kernel_rfl) ?_
    go_wp2
    go_ret
    exact ⟨by rw [sel_pos HCc.out]; rfl, by rw [sel_pos HCc.out]; exact H3.out.below HS3.out, K3.out.trans (Kf.of_below (Nat.le_trans (show lo ≤ f from HL.out) (Nat.le_of_lt (blk_lt H3.out.ft))) HS3.out)⟩
  · have c0 : (needed code ok == 0) = false := beq_eq_false_iff_ne.mpr c
    have HCc := Aside0.mk c
    clear c
    go_wp2_with (first
      | (go_at_call 51; (with_reducible refine (ok_calls lo r f s q _ tw last _ H8.out).mono ?_); rintro e10 w10 ⟨rfl, rfl⟩))
    go_ret
    exact ⟨by rw [sel_neg HCc.out]; rfl, by rw [sel_neg HCc.out]; exact H8.out, K8.out⟩
theorem RS.sz {W : World} {r f : Nat} {R : Rp} (h : RS W r f R) : r < W.heap.size ∧ f < W.heap.size := ⟨blk_lt h.rd, blk_lt h.ft⟩
theorem RS.wsz {W : World} {r f lo : Nat} {R : Rp} (h : RS W r f R) (hl : lo ≤ f) : lo ≤ W.heap.size := Nat.le_of_lt (Nat.lt_of_le_of_lt hl (blk_lt h.ft))
theorem RS.back {w1 w2 : World} {lo r r2 f : Nat} {P I I' : Rp} (h : RS w1 r f P) (hn : r ≠ r2) (k : Kf lo r2 f w1 w2) (h2 : RS w2 r2 f I') : RS w2 r f (P.back I') := ⟨k.keep r _ h.rd hn h.ne, h2.ft⟩
theorem Kf.inner {lo r r2 f : Nat} {w w1 w2 : World} (h : Kf lo r f w w1) (hn : w.heap.size ≤ r2) (k : Kf lo r2 f w1 w2) : Kf lo r f w w2 :=
  ⟨h.below.trans k.below, fun i o hi hr hf => k.keep i o (h.keep i o hi hr hf) (by have := blk_lt hi; omega) hf⟩
theorem Kf.size {lo r f : Nat} {w w1 : World} (h : Kf lo r f w w1) : w.heap.size ≤ w1.heap.size := h.below.size
def Rp.verR (R : Rp) : Rp := (R.numR 2).allow (R.numV 2 == 771)
theorem Rp.Ok.verR {R : Rp} (h : R.Ok) : R.verR.Ok := (h.numR 2).allow _
set_option maxRecDepth 100000 in
set_option maxHeartbeats 8000000 in
theorem version_c (lo r f : Nat) (R : Rp) (w : World) (hl : lo ≤ f) (hl2 : lo ≤ r) (h : RS w r f R) (ho : R.Ok) :
    Calls Try.prog 93 #[.pointer (some ⟨r, 0, none⟩)] w fun ex w' => ex = .returned (.tuple #[]) ∧ RS w' r f R.verR ∧ Kf lo r f w w' := by
  have H := Aside0.mk h
  have HL := Aside0.mk hl
  have HL2 := Aside0.mk hl2
  have HO := Aside0.mk ho
  clear h hl hl2 ho
  go_enter Try.func93, Try.ntmps93
  go_wp2_with (first
    | (go_at_call 70; (with_reducible refine (u16_c lo r f R _ HL.out HL2.out H.out HO.out).mono ?_); rintro e1 w1 ⟨rfl, i1, k1⟩; have H1 := Aside0.mk i1; have K1 := Aside0.mk k1; clear i1 k1)
    | (go_at_call 76; (with_reducible refine (allow_c lo r f (R.numR 2) _ (R.numV 2 == 771) HL.out H1.out).mono ?_); rintro e2 w2 ⟨rfl, i2, k2⟩; have H2 := Aside0.mk i2; have K2 := Aside0.mk (K1.out.trans k2); clear i2 k2))
  first | go_end0 | ((try simp only [Exit.inBlock, Exit.then]); refine bodyPost_ret (results_none rfl _ _ _) rfl ?_)
  exact ⟨rfl, H2.out, K2.out⟩
def Rp.barE (R : Rp) : Int := (Go.Proofs.Ytlkebjkpmiehcaa.Pure.getOf (R.vecV 2 0 65536)).2
def Rp.setT (R : Rp) : Rp := { R with t := true }
def Rp.barR (R : Rp) : Rp := if R.barE = 1601 then (R.vecR 2 0 65536).setT else if R.barE = 1600 then (R.vecR 2 0 65536).fail 1700 else R.vecR 2 0 65536
theorem Rp.Ok.barR {R : Rp} (h : R.Ok) : R.barR.Ok := by
  unfold Rp.barR
  have h2 := h.vecR 2 0 65536
  split
  · exact ⟨h2.lo, h2.hi, h2.sz⟩
  · split
    · exact h2.fail _
    · exact h2
theorem get_at (s : ByteArray) (hs : s.size ≤ 65536) : ∃ k, E.ext_Get.f k s = some ((Go.Proofs.Ytlkebjkpmiehcaa.Pure.getOf s).1, (Go.Proofs.Ytlkebjkpmiehcaa.Pure.getOf s).2) := ev_at (Go.Proofs.Ytlkebjkpmiehcaa.Pure.get_any s (by omega))
theorem sz4 : (Try.prog.info? 4).map (·.size) = some 1 := by kernel_rfl
set_option maxRecDepth 100000 in
set_option maxHeartbeats 8000000 in
theorem bare_c (lo r f : Nat) (R : Rp) (w : World) (hl : lo ≤ f) (hl2 : lo ≤ r) (h : RS w r f R) (ho : R.Ok) :
    Calls Try.prog 102 #[.pointer (some ⟨r, 0, none⟩)] w fun ex w' => ex = .returned (.tuple #[]) ∧ RS w' r f R.barR ∧ Kf lo r f w w' := by
  have H := Aside0.mk h
  have HL := Aside0.mk hl
  have HL2 := Aside0.mk hl2
  have HO := Aside0.mk ho
  clear h hl hl2 ho
  obtain ⟨k, hk⟩ := get_at (R.vecV 2 0 65536) (Nat.le_trans (Rp.vecV_size HO.out 2 0 65536) HO.out.sz)
  obtain ⟨e, he⟩ : ∃ e, (Go.Proofs.Ytlkebjkpmiehcaa.Pure.getOf (R.vecV 2 0 65536)).2 = e := ⟨_, rfl⟩
  rw [he] at hk
  have HG := Aside0.mk hk
  have HE := Aside0.mk (show R.barE = e from he)
  clear hk he
  unfold Rp.barR
  rw [HE.out]
  by_cases c1 : e = 1601
  · subst c1
    rw [if_pos rfl]
    go_enter Try.func102, Try.ntmps102
    go_wp2_with (first
        | (go_at_call 71; (with_reducible refine (rvec_c lo r f R _ 2 2 rfl 0 65536 (by omega) (by omega) HL.out HL2.out H.out HO.out).mono ?_); rintro e1 w1 ⟨rfl, i1, k1⟩; have H1 := Aside0.mk i1; have K1 := Aside0.mk k1; clear i1 k1)
        | (go_at_call 12; (with_reducible refine (E.ext_Get.calls k _ _ _ _ HG.out).mono ?_); rintro e2 w2 ⟨v2, rfl, r2, b2⟩; have H2 := Aside0.mk (H1.out.below b2); have K2 := Aside0.mk (K1.out.trans (Kf.of_below (r := r) (f := f) (H1.out.wsz HL.out) b2)); clear r2 b2)
        | ((with_reducible refine gate_dst (N := 18) rfl ?_); refine ld (v := .pointer (some ⟨f, 0, none⟩)) rfl rfl rfl H2.out.rd Try.underlying88 rfl rfl ?_)
        | ((with_reducible refine gate_store (p := 20) rfl ?_); refine st (v := .bool true) rfl rfl rfl H2.out.ft sz4 rfl rfl rfl (by simp) ?_; intro w3 h3 b3 k3; have H3 := Aside0.mk (Rs.mk ((k3.2 r (blk_lt H2.out.rd) H2.out.ne (by simp)).trans H2.out.rd) h3); have K3 := Aside0.mk (K2.out.trans (Kf.of_keep (r := r) (.inr rfl) (b3 _ HL.out) k3)); clear h3 b3 k3))
    first | go_end0 | ((try simp only [Exit.inBlock, Exit.then]); refine bodyPost_ret (results_none rfl _ _ _) rfl ?_)
    exact ⟨rfl, H3.out, K3.out⟩
  · by_cases c2 : e = 1600
    · subst c2
      rw [if_neg (by decide), if_pos rfl]
      go_enter Try.func102, Try.ntmps102
      go_wp2_with (first
          | (go_at_call 71; (with_reducible refine (rvec_c lo r f R _ 2 2 rfl 0 65536 (by omega) (by omega) HL.out HL2.out H.out HO.out).mono ?_); rintro e1 w1 ⟨rfl, i1, k1⟩; have H1 := Aside0.mk i1; have K1 := Aside0.mk k1; clear i1 k1)
          | (go_at_call 12; (with_reducible refine (E.ext_Get.calls k _ _ _ _ HG.out).mono ?_); rintro e2 w2 ⟨v2, rfl, r2, b2⟩; have H2 := Aside0.mk (H1.out.below b2); have K2 := Aside0.mk (K1.out.trans (Kf.of_below (r := r) (f := f) (H1.out.wsz HL.out) b2)); clear r2 b2)
          | (go_at_call 50; (with_reducible refine (fail_c lo r f (R.vecR 2 0 65536) _ 1700 HL.out H2.out).mono ?_); rintro e3 w3 ⟨rfl, i3, k3⟩; have H3 := Aside0.mk i3; have K3 := Aside0.mk (K2.out.trans k3); clear i3 k3))
      first | go_end0 | ((try simp only [Exit.inBlock, Exit.then]); refine bodyPost_ret (results_none rfl _ _ _) rfl ?_)
      exact ⟨rfl, H3.out, K3.out⟩
    · rw [if_neg c1, if_neg c2]
      have d1 : (e == 1601) = false := beq_eq_false_iff_ne.mpr c1
      have d2 : (e == 1600) = false := beq_eq_false_iff_ne.mpr c2
      clear c1 c2
      go_enter Try.func102, Try.ntmps102
      go_wp2_with (first
          | (go_at_call 71; (with_reducible refine (rvec_c lo r f R _ 2 2 rfl 0 65536 (by omega) (by omega) HL.out HL2.out H.out HO.out).mono ?_); rintro e1 w1 ⟨rfl, i1, k1⟩; have H1 := Aside0.mk i1; have K1 := Aside0.mk k1; clear i1 k1)
          | (go_at_call 12; (with_reducible refine (E.ext_Get.calls k _ _ _ _ HG.out).mono ?_); rintro e2 w2 ⟨v2, rfl, r2, b2⟩; have H2 := Aside0.mk (H1.out.below b2); have K2 := Aside0.mk (K1.out.trans (Kf.of_below (r := r) (f := f) (H1.out.wsz HL.out) b2)); clear r2 b2))
      first | go_end0 | ((try simp only [Exit.inBlock, Exit.then]); refine bodyPost_ret (results_none rfl _ _ _) rfl ?_)
      exact ⟨rfl, H2.out, K2.out⟩
section
variable {ops : Array Oper} {rest : List Oper} {o : Oper} {a : Act} {Q : Exit → Act → World → Prop} {w : World}
theorem wsz66 : (Try.prog.info? 66).map (·.size) = some 2 := by kernel_rfl
theorem wsz111 : (Try.prog.info? 111).map (·.size) = some 2 := by kernel_rfl
theorem zero66 : (Try.prog.info? 66).map (·.zero) = some (some (.agg #[.int .i64 0, .string ⟨#[]⟩])) := by kernel_rfl
theorem zero111 : (Try.prog.info? 111).map (·.zero) = some (some (.agg #[.string ⟨#[]⟩, .int .i64 0])) := by kernel_rfl
theorem allocT {t : TypeId} {zs : Array Value} (hz : (Try.prog.info? t).map (·.zero) = some (some (.agg zs))) (hgd : o.guard = none) (ho : o.op = .alloc t)
    (H : ∀ g, g = w.heap.size → ∀ w1, w1.heap[g]? = some (.cells zs t (0, 0)) → Below w.heap.size w w1 → wpList Try.prog ops Q rest (a.put o.dst (.pointer (some ⟨g, 0, none⟩))) w1) : wpList Try.prog ops Q (o :: rest) a w := by
  refine Kd.event_run hgd ?_ (H _ rfl _ (blk_new w (.cells zs t)) (below_alloc (Below.refl _ _) _))
  obtain ⟨i0, hi, hz⟩ := Option.map_eq_some_iff.1 hz
  unfold execOp
  simp only [ho, Instr.alloc, zeroValue, typeInfo, Sem.run_bind]
  simp [hi, hz]
  rfl
theorem stRow2 {n : TypeId} (hsz : (Try.prog.info? n).map (·.size) = some 2) (hgd : o.guard = none) {p x : Operand} (ho : o.op = .store n p x) {g : Nat} (hp : a.eval p = .pointer (some ⟨g, 0, none⟩))
    {cs zs : Array Value} (hx : a.eval x = .agg cs) {t : TypeId} (h : w.heap[g]? = some (.cells zs t (0, 0))) (hz : zs.size = 2) (hc : cs.size = 2) (h1 : cs.toList.all (·.oneCell') = true)
    (H : ∀ w1, w1.heap[g]? = some (.cells cs t (0, 0)) → (∀ lo, lo ≤ g → Below lo w w1) → KeepBut w w1 g none → wpList Try.prog ops Q rest (a.put o.dst undef) w1) : wpList Try.prog ops Q (o :: rest) a w := by
  refine wpList_plain hgd fun K hK => wp_store_row n p x ho g cs hp hx t zs h (by rw [hc]; exact hsz) (by rw [hz, hc]) (by rw [← Array.all_toList]; exact h1) (hK _ _ (H _ ?_ ?_ ?_))
  · simp [World.setRow, Array.getElem?_modify, h]
  · intro lo hl
    refine ⟨rfl, rfl, rfl, by simp [World.setRow], fun k hk => ?_⟩
    simp only [World.setRow, Array.getElem?_modify]
    rw [if_neg (by omega)]
  · refine ⟨by simp [World.setRow], fun k hk hne _ => ?_⟩
    simp only [World.setRow, Array.getElem?_modify]
    rw [if_neg (Ne.symm hne)]
end
def Rp.shaV (R : Rp) : S66 := ⟨R.numV 2, (R.numR 2).vecV 2 1 65536⟩
def Rp.shaR (R : Rp) : Rp := (R.numR 2).vecR 2 1 65536
def Rp.ideV (R : Rp) : S111 := ⟨R.vecV 2 1 65536, (R.vecR 2 1 65536).numV 4⟩
def Rp.ideR (R : Rp) : Rp := (R.vecR 2 1 65536).numR 4
theorem Rp.Ok.shaR {R : Rp} (h : R.Ok) : R.shaR.Ok := (h.numR 2).vecR _ _ _
theorem Rp.Ok.ideR {R : Rp} (h : R.Ok) : R.ideR.Ok := (h.vecR _ _ _).numR 4
set_option maxRecDepth 100000 in
set_option maxHeartbeats 8000000 in
theorem share_c (lo r f : Nat) (R : Rp) (w : World) (hl : lo ≤ f) (hl2 : lo ≤ r) (h : RS w r f R) (ho : R.Ok) :
    Calls Try.prog 114 #[.pointer (some ⟨r, 0, none⟩)] w fun ex w' => ex = .returned (.agg #[.int .i64 R.shaV.f0, .string R.shaV.f1]) ∧ RS w' r f R.shaR ∧ Kf lo r f w w' := by
  have H := Aside0.mk h
  have HL := Aside0.mk hl
  have HL2 := Aside0.mk hl2
  have HO := Aside0.mk ho
  clear h hl hl2 ho
  go_enter Try.func114, Try.ntmps114
  go_wp2_with (first
    | ((with_reducible refine gate_dst (N := 2) rfl ?_); refine allocT zero66 rfl rfl ?_; intro g eg w0 h0 b0; have HG := Aside0.mk h0; have HE := Aside0.mk eg; have H0 := Aside0.mk (H.out.below b0); have K0 := Aside0.mk (Kf.of_below (r := r) (f := f) (H.out.wsz HL.out) b0); clear h0 b0 eg)
    | (go_at_call 70; (with_reducible refine (u16_c lo r f R _ HL.out HL2.out H0.out HO.out).mono ?_); rintro e1 w1 ⟨rfl, i1, k1⟩; have HG1 := Aside0.mk (k1.keep g _ HG.out (by have := HE.out; have := H.out.sz; omega) (by have := HE.out; have := H.out.sz; omega)); have H1 := Aside0.mk i1; have K1 := Aside0.mk (K0.out.trans k1); clear i1 k1)
    | (go_at_call 71; (with_reducible refine (rvec_c lo r f (R.numR 2) _ 2 2 rfl 1 65536 (by omega) (by omega) HL.out HL2.out H1.out (HO.out.numR 2)).mono ?_); rintro e2 w2 ⟨rfl, i2, k2⟩; have HG2 := Aside0.mk (k2.keep g _ HG1.out (by have := HE.out; have := H.out.sz; omega) (by have := HE.out; have := H.out.sz; omega)); have H2 := Aside0.mk i2; have K2 := Aside0.mk (K1.out.trans k2); clear i2 k2)
    | ((with_reducible refine gate_store (p := 2) rfl ?_); refine stRow2 wsz66 rfl rfl rfl rfl HG2.out rfl rfl rfl ?_; intro w3 h3 b3 k3; have HG3 := Aside0.mk h3; have H3 := Aside0.mk (Rs.mk ((k3.2 r (blk_lt H2.out.rd) (by have := HE.out; have := H.out.sz; omega) (by simp)).trans H2.out.rd) ((k3.2 f (blk_lt H2.out.ft) (by have := HE.out; have := H.out.sz; omega) (by simp)).trans H2.out.ft)); have K3 := Aside0.mk (Kf.mk (K2.out.below.trans (b3 _ (by have := HE.out; have := H.out.wsz HL.out; omega))) (fun i o hi hr hf => (k3.2 i (blk_lt (K2.out.keep i o hi hr hf)) (by have := HE.out; have := blk_lt hi; omega) (by simp)).trans (K2.out.keep i o hi hr hf))); clear h3 b3 k3))
  refine bodyPost_ret (results_cell_row rfl _ _ g 66 _ (0, 0) _ rfl HG3.out Try.underlying66 rfl wsz66) rfl ?_
  exact ⟨rfl, H3.out, K3.out⟩
set_option maxRecDepth 100000 in
set_option maxHeartbeats 8000000 in
theorem identity_c (lo r f : Nat) (R : Rp) (w : World) (hl : lo ≤ f) (hl2 : lo ≤ r) (h : RS w r f R) (ho : R.Ok) :
    Calls Try.prog 119 #[.pointer (some ⟨r, 0, none⟩)] w fun ex w' => ex = .returned (.agg #[.string R.ideV.f0, .int .i64 R.ideV.f1]) ∧ RS w' r f R.ideR ∧ Kf lo r f w w' := by
  have H := Aside0.mk h
  have HL := Aside0.mk hl
  have HL2 := Aside0.mk hl2
  have HO := Aside0.mk ho
  clear h hl hl2 ho
  go_enter Try.func119, Try.ntmps119
  go_wp2_with (first
    | ((with_reducible refine gate_dst (N := 2) rfl ?_); refine allocT zero111 rfl rfl ?_; intro g eg w0 h0 b0; have HG := Aside0.mk h0; have HE := Aside0.mk eg; have H0 := Aside0.mk (H.out.below b0); have K0 := Aside0.mk (Kf.of_below (r := r) (f := f) (H.out.wsz HL.out) b0); clear h0 b0 eg)
    | (go_at_call 71; (with_reducible refine (rvec_c lo r f R _ 2 2 rfl 1 65536 (by omega) (by omega) HL.out HL2.out H0.out HO.out).mono ?_); rintro e1 w1 ⟨rfl, i1, k1⟩; have HG1 := Aside0.mk (k1.keep g _ HG.out (by have := HE.out; have := H.out.sz; omega) (by have := HE.out; have := H.out.sz; omega)); have H1 := Aside0.mk i1; have K1 := Aside0.mk (K0.out.trans k1); clear i1 k1)
    | (go_at_call 104; (with_reducible refine (u32_c lo r f (R.vecR 2 1 65536) _ HL.out HL2.out H1.out (HO.out.vecR _ _ _)).mono ?_); rintro e2 w2 ⟨rfl, i2, k2⟩; have HG2 := Aside0.mk (k2.keep g _ HG1.out (by have := HE.out; have := H.out.sz; omega) (by have := HE.out; have := H.out.sz; omega)); have H2 := Aside0.mk i2; have K2 := Aside0.mk (K1.out.trans k2); clear i2 k2)
    | ((with_reducible refine gate_store (p := 2) rfl ?_); refine stRow2 wsz111 rfl rfl rfl rfl HG2.out rfl rfl rfl ?_; intro w3 h3 b3 k3; have HG3 := Aside0.mk h3; have H3 := Aside0.mk (Rs.mk ((k3.2 r (blk_lt H2.out.rd) (by have := HE.out; have := H.out.sz; omega) (by simp)).trans H2.out.rd) ((k3.2 f (blk_lt H2.out.ft) (by have := HE.out; have := H.out.sz; omega) (by simp)).trans H2.out.ft)); have K3 := Aside0.mk (Kf.mk (K2.out.below.trans (b3 _ (by have := HE.out; have := H.out.wsz HL.out; omega))) (fun i o hi hr hf => (k3.2 i (blk_lt (K2.out.keep i o hi hr hf)) (by have := HE.out; have := blk_lt hi; omega) (by simp)).trans (K2.out.keep i o hi hr hf))); clear h3 b3 k3))
  refine bodyPost_ret (results_cell_row rfl _ _ g 111 _ (0, 0) _ rfl HG3.out Try.underlying111 rfl wsz111) rfl ?_
  exact ⟨rfl, H3.out, K3.out⟩
def Rp.nam1 (R : Rp) : Rp := ((R.inR 2).numR 1).need ((R.inR 2).numV 1 == 0)
def Rp.namV (R : Rp) : ByteArray := R.nam1.vecV 2 1 64
def Rp.namR (R : Rp) : Rp := (R.outR 2).back (R.nam1.vecR 2 1 64).done
theorem Rp.Ok.nam1 {R : Rp} (h : R.Ok) : R.nam1.Ok := ((h.inR 2).numR 1).need _
theorem Rp.Ok.namR {R : Rp} (h : R.Ok) : R.namR.Ok := (h.outR 2).back _
set_option maxRecDepth 100000 in
set_option maxHeartbeats 8000000 in
theorem name_c (lo r f : Nat) (R : Rp) (w : World) (hl : lo ≤ f) (hl2 : lo ≤ r) (h : RS w r f R) (ho : R.Ok) :
    Calls Try.prog 112 #[.pointer (some ⟨r, 0, none⟩)] w fun ex w' => ex = .returned (.string R.namV) ∧ RS w' r f R.namR ∧ Kf lo r f w w' := by
  have H := Aside0.mk h
  have HL := Aside0.mk hl
  have HL2 := Aside0.mk hl2
  have HO := Aside0.mk ho
  clear h hl hl2 ho
  go_enter Try.func112, Try.ntmps112
  go_wp2_with (first
    | (go_at_call 66; (with_reducible refine (rwithin_c lo r f R _ 2 2 rfl (by omega) (by omega) HL.out HL2.out H.out HO.out).mono ?_); rintro e1 w1 ⟨r2, rfl, n1, i1, j1, k1⟩; have HN := Aside0.mk n1; have HP := Aside0.mk i1; have H1 := Aside0.mk j1; have K1 := Aside0.mk k1; have HL3 := Aside0.mk (show lo ≤ r2 from Nat.le_trans (H.out.wsz HL.out) n1); have HNE := Aside0.mk (show r ≠ r2 from by have := H.out.sz; omega); clear n1 i1 j1 k1)
    | (go_at_call 75; (with_reducible refine (u8_c lo r2 f (R.inR 2) _ HL.out HL3.out H1.out (HO.out.inR 2)).mono ?_); rintro e2 w2 ⟨rfl, i2, k2⟩; have H2 := Aside0.mk i2; have K2 := Aside0.mk k2; clear i2 k2)
    | (go_at_call 72; (with_reducible refine (rneed_c lo r2 f ((R.inR 2).numR 1) _ ((R.inR 2).numV 1 == 0) HL.out H2.out).mono ?_); rintro e3 w3 ⟨rfl, i3, k3⟩; have H3 := Aside0.mk (show RS w3 r2 f R.nam1 from i3); have K3 := Aside0.mk (K2.out.trans k3); clear i3 k3)
    | (go_at_call 71; (with_reducible refine (rvec_c lo r2 f R.nam1 _ 2 2 rfl 1 64 (by omega) (by omega) HL.out HL3.out H3.out HO.out.nam1).mono ?_); rintro e4 w4 ⟨rfl, i4, k4⟩; have H4 := Aside0.mk i4; have K4 := Aside0.mk (K3.out.trans k4); clear i4 k4)
    | (go_at_call 77; (with_reducible refine (done_c lo r2 f (R.nam1.vecR 2 1 64) _ HL.out H4.out).mono ?_); rintro e5 w5 ⟨rfl, i5, k5⟩; have H5 := Aside0.mk i5; have K5 := Aside0.mk (K4.out.trans k5); clear i5 k5))
  go_ret
  exact ⟨rfl, HP.out.back (I := R) HNE.out K5.out H5.out, K1.out.inner HN.out K5.out⟩
def Rp.cerV (R : Rp) : ByteArray := R.vecV 3 1 16777216
def Rp.cerR (R : Rp) : Rp := (R.vecR 3 1 16777216).barR
def Rp.binV (R : Rp) : ByteArray := R.vecV 1 32 255
def Rp.binR (R : Rp) : Rp := R.vecR 1 32 255
theorem Rp.Ok.cerR {R : Rp} (h : R.Ok) : R.cerR.Ok := (h.vecR _ _ _).barR
theorem Rp.Ok.binR {R : Rp} (h : R.Ok) : R.binR.Ok := h.vecR _ _ _
set_option maxRecDepth 100000 in
set_option maxHeartbeats 8000000 in
theorem cert_c (lo r f : Nat) (R : Rp) (w : World) (hl : lo ≤ f) (hl2 : lo ≤ r) (h : RS w r f R) (ho : R.Ok) :
    Calls Try.prog 101 #[.pointer (some ⟨r, 0, none⟩)] w fun ex w' => ex = .returned (.string R.cerV) ∧ RS w' r f R.cerR ∧ Kf lo r f w w' := by
  have H := Aside0.mk h
  have HL := Aside0.mk hl
  have HL2 := Aside0.mk hl2
  have HO := Aside0.mk ho
  clear h hl hl2 ho
  go_enter Try.func101, Try.ntmps101
  go_wp2_with (first
    | (go_at_call 71; (with_reducible refine (rvec_c lo r f R _ 3 3 rfl 1 16777216 (by omega) (by omega) HL.out HL2.out H.out HO.out).mono ?_); rintro e1 w1 ⟨rfl, i1, k1⟩; have H1 := Aside0.mk i1; have K1 := Aside0.mk k1; clear i1 k1)
    | (go_at_call 102; (with_reducible refine (bare_c lo r f (R.vecR 3 1 16777216) _ HL.out HL2.out H1.out (HO.out.vecR _ _ _)).mono ?_); rintro e2 w2 ⟨rfl, i2, k2⟩; have H2 := Aside0.mk i2; have K2 := Aside0.mk (K1.out.trans k2); clear i2 k2))
  go_ret
  exact ⟨rfl, H2.out, K2.out⟩
set_option maxRecDepth 100000 in
set_option maxHeartbeats 8000000 in
theorem binder_c (lo r f : Nat) (R : Rp) (w : World) (hl : lo ≤ f) (hl2 : lo ≤ r) (h : RS w r f R) (ho : R.Ok) :
    Calls Try.prog 120 #[.pointer (some ⟨r, 0, none⟩)] w fun ex w' => ex = .returned (.string R.binV) ∧ RS w' r f R.binR ∧ Kf lo r f w w' := by
  have H := Aside0.mk h
  have HL := Aside0.mk hl
  have HL2 := Aside0.mk hl2
  have HO := Aside0.mk ho
  clear h hl hl2 ho
  go_enter Try.func120, Try.ntmps120
  go_wp2_with (first
    | (go_at_call 71; (with_reducible refine (rvec_c lo r f R _ 1 1 rfl 32 255 (by omega) (by omega) HL.out HL2.out H.out HO.out).mono ?_); rintro e1 w1 ⟨rfl, i1, k1⟩; have H1 := Aside0.mk i1; have K1 := Aside0.mk k1; clear i1 k1))
  go_ret
  exact ⟨rfl, H1.out, K1.out⟩
end Go.Proofs.Ytlkebjkpmiehcaa.Ms
end
