/- A long statement's operations without what only orders them ('after', 'pos'): the walk's goal gets short. Conditions: none. -/
import Derived.Tactics
import Derived.Test.YtlkebjkpmiehcaaWWords
namespace Go.Proofs.YtlkebjkpmiehcaaW.PrintWords
open Go.RowKit
set_option linter.unusedVariables false
/-- An operation without its edges and its place. -/
def strip (o : Oper) : Oper := { o with after := #[], pos := "" }
section
variable {P : Program} {ops : Array Oper} {rest : List Oper} {o : Oper} {a : Act} {Q : Exit → Act → World → Prop} {w : World}
theorem yielded_strip (ops : Array Oper) (tmps : Array Value) : yielded (ops.map strip) tmps = yielded ops tmps := by
  funext j
  unfold yielded
  rw [Array.getElem?_map]
  cases ops[j]? <;> rfl
theorem wpList_strip_eq : ∀ rest : List Oper, wpList P (ops.map strip) Q (rest.map strip) = wpList P ops Q rest
  | [] => rfl
  | o :: rest => by
    funext a w
    rw [List.map_cons, wpList, wpList, yielded_strip, wpList_strip_eq rest]
    rfl
theorem wpList_strip (rest : List Oper) (a : Act) (w : World) (h : wpList P (ops.map strip) Q (rest.map strip) a w) : wpList P ops Q rest a w := by
  rw [wpList_strip_eq] at h
  exact h
/-- The gate: a statement that stands at this place of the text. -/
theorem strip_gate {s : String} (hp : o.pos = s) (h : wpList P (ops.map strip) Q ((o :: rest).map strip) a w) : wpList P ops Q (o :: rest) a w := wpList_strip _ _ _ h
end
end Go.Proofs.YtlkebjkpmiehcaaW.PrintWords
