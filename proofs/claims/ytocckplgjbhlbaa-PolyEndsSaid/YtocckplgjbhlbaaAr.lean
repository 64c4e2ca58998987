/- Arrays that lie in memory of a call's own, told by the list of their numbers: what a walk may do with such an array. Conditions: each lemma's own. -/
import Derived.Test.YtocckplgjbhlbaaWMore
import Derived.StillTailTactics
import Derived.Laws.MakeOwn
import Derived.Test.YtocckplgjbhlbaaProg
namespace Go.Proofs.YtocckplgjbhlbaaW.PrintWords
open Go.RowKit
set_option linter.unusedVariables false
/-- The number at a place. -/
def gx (x : List Int) (i : Nat) : Int := x.getD i 0
/-- Block g of w holds these numbers, each of kind k, and nothing else. -/
def Arr (k : IntKind) (w : World) (g t : Nat) (xs : List Int) : Prop := w.heap[g]? = some (.cells (xs.map (Value.int k)).toArray t (0, 0))
section
variable {k : IntKind} {w w1 : World} {g t : Nat} {xs : List Int}
theorem Arr.cell (h : Arr k w g t xs) (i : Nat) (hi : i < xs.length) : w.cell? ⟨g, i, none⟩ = some (.int k (gx xs i)) := by
  unfold Arr at h
  simp [gx, World.cell?, h, List.getElem?_eq_getElem hi, List.getD_eq_getElem?_getD]
theorem Arr.frozen (h : Arr k w g t xs) (i : Nat) : w.frozen? ⟨g, i, none⟩ = false := by
  unfold Arr at h
  simp [World.frozen?, h]
theorem Arr.lt (h : Arr k w g t xs) : g < w.heap.size := (Array.getElem?_eq_some_iff.1 h).1
theorem Arr.drew (h : Arr k w g t xs) : Arr k w.drew g t xs := h
theorem Arr.drewN (h : Arr k w g t xs) (n : Nat) : Arr k (w.drewN n) g t xs := h
theorem Arr.below (h : Arr k w g t xs) (hb : Below w.heap.size w w1) : Arr k w1 g t xs := (hb.block g h.lt).trans h
theorem Arr.grown {row : Option Nat} (h : Arr k w g t xs) (hg : w.grownBy w1 row) (hne : some g ≠ row) : Arr k w1 g t xs := (hg.block g h.lt hne).trans h
theorem Arr.set (h : Arr k w g t xs) (i : Nat) (v : Int) : Arr k (w.setCell ⟨g, i, none⟩ (.int k v)) g t (xs.set i v) := by
  unfold Arr at h ⊢
  rw [heap_setCell_same w g i _ t _ h, List.map_set]
  simp
theorem grown_refl (w : World) (row : Option Nat) : w.grownBy w row := ⟨rfl, rfl, rfl, Nat.le_refl _, fun _ _ _ => rfl⟩
theorem grown_trans {w0 : World} {row : Option Nat} (h : w0.grownBy w row) (h2 : w.grownBy w1 row) : w0.grownBy w1 row :=
  ⟨h2.os.trans h.os, h2.tape.trans h.tape, h2.output.trans h.output, Nat.le_trans h.size h2.size, fun k hk hn => (h2.block k (Nat.lt_of_lt_of_le hk h.size) hn).trans (h.block k hk hn)⟩
theorem grown_drew (w : World) (row : Option Nat) : w.grownBy w.drew row := ⟨rfl, rfl, rfl, Nat.le_refl _, fun _ _ _ => rfl⟩
theorem grown_drewN (w : World) (n : Nat) (row : Option Nat) : w.grownBy (w.drewN n) row := ⟨rfl, rfl, rfl, Nat.le_refl _, fun _ _ _ => rfl⟩
theorem grown_setCell (w : World) (g i : Nat) (v : Value) : w.grownBy (w.setCell ⟨g, i, none⟩ v) (some g) :=
  ⟨rfl, rfl, rfl, by simp [World.setCell], fun k _ hn => heap_setCell_other w _ k v (fun e => hn (by rw [e]))⟩
end
section
variable {P : Program} {ops : Array Oper} {rest : List Oper} {o : Oper} {a : Act} {Q : Exit → Act → World → Prop}
/-- A store into such an array. -/
theorem Arr.store {w : World} {k : IntKind} {g t : Nat} {xs : List Int} (hgd : o.guard = none) {ty : TypeId} {p x : Operand} (ho : o.op = .store ty p x) (i : Nat) (v : Int)
    (hs : (Instr.storeAt ty (a.eval p) (a.eval x)).run P w = .ok () (w.setCell ⟨g, i, none⟩ (.int k v))) (h : Arr k w g t xs)
    (H : ∀ w1, Arr k w1 g t (xs.set i v) → w.grownBy w1 (some g) → wpList P ops Q rest (a.put o.dst undef) w1) : wpList P ops Q (o :: rest) a w := by
  refine wpList_plain hgd fun K hK => ?_
  unfold Oper.wp execOp
  simp only [ho, Sem.run_bind, hs, Result.andThen_ok, Sem.run_pure]
  exact hK _ _ (H _ (h.set i v) (grown_setCell _ _ _ _))
/-- The whole array's value. -/
def agg (k : IntKind) (xs : List Int) : Value := .agg (xs.map (Value.int k)).toArray
theorem agg_def (k : IntKind) (xs : List Int) : agg k xs = .agg (xs.map (Value.int k)).toArray := rfl
/-- Such an array is read whole. -/
theorem Arr.load {w : World} {k : IntKind} {g t : Nat} {xs : List Int} (hgd : o.guard = none) (ty : TypeId) (x : Operand) (ho : o.op = .load ty x) (hx : a.eval x = .pointer (some ⟨g, 0, none⟩)) (h : Arr k w g t xs)
    (d : TypeDesc) (hu : P.underlying ty = some d) (hd : (match d with | .struct _ | .array _ _ => true | _ => false) = true) (n : Nat) (hi : (P.info? ty).map (·.size) = some n) (hn : xs.length = n)
    (H : wpList P ops Q rest (a.put o.dst (agg k xs)) w) : wpList P ops Q (o :: rest) a w :=
  wpList_load_row hgd ty x ho g hx t _ _ d h hu hd (by rw [hi]; simp [hn]) H
/-- Such an array is written whole. -/
theorem Arr.put {w : World} {k : IntKind} {g t : Nat} {xs ys : List Int} (hgd : o.guard = none) (ty : TypeId) (x y : Operand) (ho : o.op = .store ty x y) (hx : a.eval x = .pointer (some ⟨g, 0, none⟩)) (hy : a.eval y = agg k ys)
    (h : Arr k w g t xs) (n : Nat) (hi : (P.info? ty).map (·.size) = some n) (hn : xs.length = n) (hm : ys.length = n)
    (H : ∀ w1, Arr k w1 g t ys → w.grownBy w1 (some g) → wpList P ops Q rest (a.put o.dst undef) w1) : wpList P ops Q (o :: rest) a w := by
  refine wpList_store_row hgd ty x y ho g _ hx hy t _ h (by rw [hi]; simp [hm]) (by simp [hn, hm]) (by simp [Value.oneCell']) ?_
  refine H _ (setRow_heap w g _ _ t _ h) ⟨rfl, rfl, rfl, by simp, fun j _ hj => setRow_other w g j _ (fun e => hj (by rw [e]))⟩
/-- A box of such an array's value. -/
theorem Arr.box {w : World} {k : IntKind} {xs : List Int} (hgd : o.guard = none) (t : TypeId) (x : Operand) (ho : o.op = .box t x) (hx : a.eval x = agg k xs)
    (H : ∀ g, g = w.heap.size → ∀ w1, Arr k w1 g t xs → Below w.heap.size w w1 → wpList P ops Q rest (a.put o.dst (.pointer (some ⟨g, 0, none⟩))) w1) : wpList P ops Q (o :: rest) a w := by
  refine Kd.event_run hgd ?_ (H _ rfl _ (blk_new w _) (below_alloc (Below.refl _ _) _))
  unfold execOp
  simp only [ho, hx]
  rfl
/-- A row of noughts is made. -/
theorem Arr.make {w : World} {k : IntKind} (hgd : o.guard = none) (t e n : Nat) (x y : Operand) (ho : o.op = .makeSlice t x y) (hx : a.eval x = .int .i64 n) (hy : a.eval y = .int .i64 n)
    (hr : ∀ W, (Instr.makeSlice t (.int .i64 n) (.int .i64 n)).run P W = .ok (.slice (some ⟨W.heap.size, 0, none⟩) n n) (W.alloc (.cells ((List.replicate n (0 : Int)).map (Value.int k)).toArray e (0, 0))))
    (H : ∀ g, g = w.heap.size → ∀ w1, Arr k w1 g e (List.replicate n 0) → Below w.heap.size w w1 → wpList P ops Q rest (a.put o.dst (.slice (some ⟨g, 0, none⟩) n n)) w1) : wpList P ops Q (o :: rest) a w := by
  refine Kd.event_run hgd ?_ (H _ rfl _ (blk_new w _) (below_alloc (Below.refl _ _) _))
  unfold execOp
  simp only [ho, hx, hy, Sem.run_bind, hr, Result.andThen_ok]
  rfl
end
theorem run_make_u8 {P : Program} (t e : TypeId) (i : TypeInfo) (ht : P.underlying t = some (.slice e)) (hi : P.info? e = some i) (hz : i.zero = some (.int .u8 0)) (hs1 : i.size = 1) (hb1 : i.bytes = 1) (n : Nat) (hn : n ≤ 281474976710656) (W : World) :
    (Instr.makeSlice t (.int .i64 n) (.int .i64 n)).run P W = .ok (.slice (some ⟨W.heap.size, 0, none⟩) n n) (W.alloc (.cells ((List.replicate n (0 : Int)).map (Value.int .u8)).toArray e (0, 0))) := by
  have h := run_make (P := P) W t e i (.int .u8 0) ht hi hz .i64 .i64 (n : Int) (n : Int) (by omega) (Int.le_refl _) (by rw [hb1]; omega) (by omega)
  rw [Int.toNat_natCast, hs1, Nat.mul_one] at h
  rw [h]
  have e1 : madeCells (Value.int .u8 0).cells n = ((List.replicate n (0 : Int)).map (Value.int .u8)).toArray := by
    apply Array.ext
    · simp [madeCells, Value.cells]
    · intro j h1 h2
      simp [madeCells, Value.cells, Nat.mod_one]
  rw [e1]
/-- The bytes of such a row as a text. -/
theorem Arr.text {P : Program} {w : World} {g t n : Nat} {xs : List Int} (h : Arr .u8 w g t xs) (hn : xs.length = n) (src e dst : TypeId) (hs : P.underlying src = some (.slice e)) (he : P.underlying e = some (.int .u8)) (hd : P.underlying dst = some .string) (cap : Nat) :
    (convert src dst (.slice (some ⟨g, 0, none⟩) n cap)).run P w = .ok (.string (strOfNums xs)) w := by
  subst hn
  refine run_convert_bytes_arg w src e hs he g 0 xs.length cap xs rfl (fun i hi => ?_) dst hd
  rw [Nat.zero_add]
  have := h.cell i hi
  exact this
theorem arr_of {k : IntKind} {w : World} {g t : Nat} {cs : Array Value} {xs : List Int} (h : w.heap[g]? = some (.cells cs t (0, 0))) (e : cs = (xs.map (Value.int k)).toArray) : Arr k w g t xs := by
  rw [e] at h
  exact h
end Go.Proofs.YtocckplgjbhlbaaW.PrintWords
