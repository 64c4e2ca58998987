/- A load of some of the numbers of a block. Conditions: none. -/
import Derived.Test.YtocckplgjbhlbaaWhole
namespace Go.Proofs.Ytocckplgjbhlbaa.Pol
open Go.RowKit Go.Proofs.YtocckplgjbhlbaaW.PrintWords Go.Proofs.Ytocckplgjbhlbaa.Cha
set_option linter.unusedVariables false
theorem Arr.loadMid {P : Program} {ops : Array Oper} {rest : List Oper} {op : Oper} {a : Act} {Q : Exit → Act → World → Prop} {w : World} {k : IntKind} {g t : Nat} {xs : List Int} (hgd : op.guard = none) (ty : TypeId) (x : Operand) (ho : op.op = .load ty x) (o : Nat) (hx : a.eval x = .pointer (some ⟨g, o, none⟩))
    (h : Arr k w g t xs) (d : TypeDesc) (hu : P.underlying ty = some d) (hd : d.isRow = true) (n : Nat) (hi : (P.info? ty).map (·.size) = some n) (hn : o + n ≤ xs.length)
    (H : wpList P ops Q rest (a.put op.dst (agg k ((xs.drop o).take n))) w) : wpList P ops Q (op :: rest) a w := by
  refine wpList_load_mid hgd ty x ho g o hx (((xs.drop o).take n).map (Value.int k)) d (fun j v hv => ?_) hu hd (by rw [hi]; simp; omega) H
  rw [List.getElem?_map] at hv
  have hj : j < n := by
    rcases Nat.lt_or_ge j n with h | h
    · exact h
    · rw [List.getElem?_eq_none (by simp; omega)] at hv
      cases hv
  rw [h.cell (o + j) (by omega), ← hv]
  simp [gx, List.getD_eq_getElem?_getD, hj, List.getElem?_drop, show o + j < xs.length by omega]
end Go.Proofs.Ytocckplgjbhlbaa.Pol
