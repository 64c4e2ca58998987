/- The first cells of a block as numbers of one byte, and a text turned by a stream: laws without a program. Conditions: none. -/
import Derived.Test.YtocckplgjbhlbaaBlock
namespace Go.Proofs.Ytocckplgjbhlbaa.Cha
open Go.RowKit Go.Proofs.YtocckplgjbhlbaaW.PrintWords Go.Proofs.Ytocckplgjbhlbaa.X
set_option linter.unusedVariables false
/-- The first cells of block g are these bytes, and none of them is frozen. -/
def Bts (w : World) (g : Nat) (xs : List Int) : Prop := g < w.heap.size ∧ ∃ cs t lo hi, w.heap[g]? = some (.cells cs t (lo, hi)) ∧ ∀ i, i < xs.length → cs[i]? = some (.int .u8 (gx xs i)) ∧ (decide (lo ≤ i) && decide (i < hi)) = false
section
variable {w w1 : World} {g : Nat} {xs : List Int}
theorem Bts.cell (h : Bts w g xs) (i : Nat) (hi : i < xs.length) : w.cell? ⟨g, i, none⟩ = some (.int .u8 (gx xs i)) := by
  obtain ⟨hl, cs, t, lo, hh, e, H⟩ := h
  simp [World.cell?, e, (H i hi).1]
theorem Bts.frozen (h : Bts w g xs) (i : Nat) (hi : i < xs.length) : w.frozen? ⟨g, i, none⟩ = false := by
  obtain ⟨hl, cs, t, lo, hh, e, H⟩ := h
  have := (H i hi).2
  simp only [World.frozen?, e]
  exact this
theorem Bts.drewN (h : Bts w g xs) (n : Nat) : Bts (w.drewN n) g xs := h
theorem Bts.below (h : Bts w g xs) (hb : Below w.heap.size w w1) : Bts w1 g xs := by
  obtain ⟨hl, cs, t, lo, hh, e, H⟩ := h
  exact ⟨Nat.lt_of_lt_of_le hl hb.size, cs, t, lo, hh, (hb.block g hl).trans e, H⟩
theorem Bts.grown {row : Option Nat} (h : Bts w g xs) (hg : w.grownBy w1 row) (hne : some g ≠ row) : Bts w1 g xs := by
  obtain ⟨hl, cs, t, lo, hh, e, H⟩ := h
  exact ⟨Nat.lt_of_lt_of_le hl hg.size, cs, t, lo, hh, (hg.block g hl hne).trans e, H⟩
theorem Bts.set (h : Bts w g xs) (i : Nat) (v : Int) : Bts (w.setCell ⟨g, i, none⟩ (.int .u8 v)) g (xs.set i v) := by
  obtain ⟨hl, cs, t, lo, hh, e, H⟩ := h
  refine ⟨by simpa [World.setCell] using hl, cs.setIfInBounds i (.int .u8 v), t, lo, hh, by simp [World.setCell, Array.getElem?_modify, e], fun j hj => ?_⟩
  rw [List.length_set] at hj
  obtain ⟨h1, h2⟩ := H j hj
  refine ⟨?_, h2⟩
  have hjs : j < cs.size := by
    rcases Nat.lt_or_ge j cs.size with h | h
    · exact h
    · rw [Array.getElem?_eq_none h] at h1; cases h1
  by_cases he : i = j
  · subst he
    simp [gx, List.getD_eq_getElem?_getD, hj, hjs]
  · have e1 : gx (xs.set i v) j = gx xs j := by simp [gx, List.getD_eq_getElem?_getD, he]
    rw [e1, ← h1]
    simp [he]
theorem arr_bts {t : Nat} (h : Arr .u8 w g t xs) : Bts w g xs := by
  refine ⟨h.lt, _, t, 0, 0, h, fun i hi => ⟨?_, by simp⟩⟩
  simp [gx, List.getD_eq_getElem?_getD, hi]
theorem grown_below {w0 : World} {row : Option Nat} (h : w0.grownBy w row) (hb : Below w.heap.size w w1) : w0.grownBy w1 row :=
  ⟨hb.os.trans h.os, hb.tape.trans h.tape, hb.output.trans h.output, Nat.le_trans h.size hb.size, fun k hk hn => (hb.block k (Nat.lt_of_lt_of_le hk h.size)).trans (h.block k hk hn)⟩
theorem grown_new {w0 : World} {row : Option Nat} {n : Nat} (h : w0.grownBy w row) (h2 : w.grownBy w1 (some n)) (hn : w0.heap.size ≤ n) : w0.grownBy w1 row :=
  ⟨h2.os.trans h.os, h2.tape.trans h.tape, h2.output.trans h.output, Nat.le_trans h.size h2.size, fun k hk hx => (h2.block k (Nat.lt_of_lt_of_le hk h.size) (fun e => by have := Option.some.inj e; omega)).trans (h.block k hk hx)⟩
theorem Bts.text {P : Program} (h : Bts w g xs) {n : Nat} (hn : xs.length = n) (src e dst : TypeId) (hs : P.underlying src = some (.slice e)) (he : P.underlying e = some (.int .u8)) (hd : P.underlying dst = some .string) (cap : Nat) :
    (convert src dst (.slice (some ⟨g, 0, none⟩) n cap)).run P w = .ok (.string (strOfNums xs)) w := by
  subst hn
  refine run_convert_bytes_arg w src e hs he g 0 xs.length cap xs rfl (fun i hi => ?_) dst hd
  rw [Nat.zero_add]
  exact h.cell i hi
end
section
variable {P : Program} {ops : Array Oper} {rest : List Oper} {o : Oper} {a : Act} {Q : Exit → Act → World → Prop}
theorem Bts.store {w : World} {g : Nat} {xs : List Int} (hgd : o.guard = none) {ty : TypeId} {p x : Operand} (ho : o.op = .store ty p x) (i : Nat) (v : Int)
    (hs : (Instr.storeAt ty (a.eval p) (a.eval x)).run P w = .ok () (w.setCell ⟨g, i, none⟩ (.int .u8 v))) (h : Bts w g xs)
    (H : ∀ w1, Bts w1 g (xs.set i v) → w.grownBy w1 (some g) → wpList P ops Q rest (a.put o.dst undef) w1) : wpList P ops Q (o :: rest) a w := by
  refine wpList_plain hgd fun K hK => ?_
  unfold Oper.wp execOp
  simp only [ho, Sem.run_bind, hs, Result.andThen_ok, Sem.run_pure]
  exact hK _ _ (H _ (h.set i v) (grown_setCell _ _ _ _))
end
/-- The stream's bytes of block q. -/
def strm (key nonce : ByteArray) (c : Int) (q : Nat) : List Int := outs (begun key nonce ((c + (q : Int)) % 4294967296)) (twenty (begun key nonce ((c + (q : Int)) % 4294967296)) 10) 64
theorem strm_length (key nonce : ByteArray) (c : Int) (q : Nat) : (strm key nonce c q).length = 64 := outs_length _ _ _
/-- The stream's byte j. -/
def kb (key nonce : ByteArray) (c : Int) (j : Nat) : Int := gx (strm key nonce c (j / 64)) (j % 64)
/-- The first m bytes turned. -/
def xr (key nonce : ByteArray) (c : Int) (xs : List Int) (m : Nat) : List Int := (List.range xs.length).map fun j => if j < m then Go.bits .xor .u8 (gx xs j) (kb key nonce c j) else gx xs j
theorem xr_length (key nonce : ByteArray) (c : Int) (xs : List Int) (m : Nat) : (xr key nonce c xs m).length = xs.length := by simp [xr]
theorem xr_zero (key nonce : ByteArray) (c : Int) (xs : List Int) : xr key nonce c xs 0 = xs := by
  refine List.ext_getElem (by simp [xr]) fun i h1 h2 => ?_
  simp [xr, gx, List.getD_eq_getElem?_getD, h2]
theorem xr_at (key nonce : ByteArray) (c : Int) (xs : List Int) (m i : Nat) (hi : i < xs.length) (hm : m ≤ i) : gx (xr key nonce c xs m) i = gx xs i := by
  have : ¬ i < m := by omega
  simp [xr, gx, List.getD_eq_getElem?_getD, hi, this]
theorem xr_step (key nonce : ByteArray) (c : Int) (xs : List Int) (m : Nat) (hm : m < xs.length) : (xr key nonce c xs m).set m (Go.bits .xor .u8 (gx xs m) (kb key nonce c m)) = xr key nonce c xs (m + 1) := by
  refine List.ext_getElem (by simp [xr]) fun i h1 h2 => ?_
  rw [List.getElem_set]
  by_cases he : m = i
  · subst he
    simp [xr]
  · rw [if_neg he]
    have : (i < m) = (i < m + 1) := by apply propext; omega
    simp [xr, this]
theorem kb_at (key nonce : ByteArray) (c : Int) (q i : Nat) (hi : i < 64) : kb key nonce c (64 * q + i) = gx (strm key nonce c q) i := by
  unfold kb
  rw [show (64 * q + i) / 64 = q by omega, show (64 * q + i) % 64 = i by omega]
end Go.Proofs.Ytocckplgjbhlbaa.Cha
