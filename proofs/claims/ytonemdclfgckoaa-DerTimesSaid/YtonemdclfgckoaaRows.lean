/-
  No cell of these rows narrows 'for every input' (looked for: loops, veiled, ifaces, maps, wideKeys, modest, calm, conditions, laid).
  DERIVED. THE GIVEN ROWS OF THIS SEAT. 7 by the template 'for every input the law returns true; each argument reads behind the call as it read before'; 0 by the template 'total and deterministic' (their statements: YtonemdclfgckoaaTotals.lean).
  GIVEN WITH THE SEED: the statements are not yours to turn. If you find one false, say at which input.
  Laid BY PROGRAM, IN A SANDBOX (cutbox-rows.mjs): the forced cells as the released guide's own fill.sh prints them over the translation 0c90320a30eb389b… (all of the seat's roots in one cut). By AI agents, Wed Nov 11 2026. No macro, syntax, notation, axiom, sorry.
-/
import Derived.Test.YtonemdclfgckoaaChecked
import GoSem.Claim
import GoSem.ClaimJoined
import GoSem.ClaimMapViews
import Derived.JoinedTies
import Derived.KernelRfl
namespace Go.Proofs.Ytonemdclfgckoaa
/- THE CELL 'sum', in the pinned program and in every row, IS THE sha256 OF THE DUMP (.gsa) THAT YtonemdclfgckoaaProg.lean LOADS. Nothing in Lean hashes anything: it is a label: what it is worth is what the hold of that sum in a sandbox is worth. -/
noncomputable def Try.pinned : Pinned := { name := "ytonemdclfgckoaa", sum := "0c90320a30eb389b93f9eacad61636a51cd2540b06b5deac0ecee3f9287c6b23", checked := Try.checked }
namespace Rows
def none {H : Type} : Left H := { results := [], args := [] }

/-- 'halberdlaw13.DerTimes': WHATEVER THE INPUT: true; the input reads as it did. -/
def derTimesSpec : ChangeSpec := { name := "derTimes", fn := fun _ => fun
  | [d1, d2, d3] => { results := [.lit (.bool true)], args := [d1, d2, d3] }
  | _ => none }
def derTimesRow : OpenClaim := { program := "ytonemdclfgckoaa", sum := "0c90320a30eb389b93f9eacad61636a51cd2540b06b5deac0ecee3f9287c6b23", func := "halberd/halberdlaw13.DerTimes", spec := "derTimes", apart := false }
def DerTimesSaid : Prop := derTimesRow.holds Try.pinned (OpenSpec.ofChange derTimesSpec)

/-- ITS FALSE NEIGHBOUR: 'it returns false'. Refute it at one input. -/
def derTimesWrong : ChangeSpec := { name := "derTimes", fn := fun _ => fun
  | [d1, d2, d3] => { results := [.lit (.bool false)], args := [d1, d2, d3] }
  | _ => none }
def DerTimesWrongFalsely : Prop := derTimesRow.holds Try.pinned (OpenSpec.ofChange derTimesWrong)

/-- 'halberdlaw13.DerBack': WHATEVER THE INPUT: true; the input reads as it did. -/
def derBackSpec : ChangeSpec := { name := "derBack", fn := fun _ => fun
  | [d1, d2, d3] => { results := [.lit (.bool true)], args := [d1, d2, d3] }
  | _ => none }
def derBackRow : OpenClaim := { program := "ytonemdclfgckoaa", sum := "0c90320a30eb389b93f9eacad61636a51cd2540b06b5deac0ecee3f9287c6b23", func := "halberd/halberdlaw13.DerBack", spec := "derBack", apart := false }
def DerBackSaid : Prop := derBackRow.holds Try.pinned (OpenSpec.ofChange derBackSpec)

/-- ITS FALSE NEIGHBOUR: 'it returns false'. Refute it at one input. -/
def derBackWrong : ChangeSpec := { name := "derBack", fn := fun _ => fun
  | [d1, d2, d3] => { results := [.lit (.bool false)], args := [d1, d2, d3] }
  | _ => none }
def DerBackWrongFalsely : Prop := derBackRow.holds Try.pinned (OpenSpec.ofChange derBackWrong)

/-- 'halberdlaw13.DerDays': WHATEVER THE INPUT: true; the input reads as it did. -/
def derDaysSpec : ChangeSpec := { name := "derDays", fn := fun _ => fun
  | [d1, d2] => { results := [.lit (.bool true)], args := [d1, d2] }
  | _ => none }
def derDaysRow : OpenClaim := { program := "ytonemdclfgckoaa", sum := "0c90320a30eb389b93f9eacad61636a51cd2540b06b5deac0ecee3f9287c6b23", func := "halberd/halberdlaw13.DerDays", spec := "derDays", apart := false }
def DerDaysSaid : Prop := derDaysRow.holds Try.pinned (OpenSpec.ofChange derDaysSpec)

/-- ITS FALSE NEIGHBOUR: 'it returns false'. Refute it at one input. -/
def derDaysWrong : ChangeSpec := { name := "derDays", fn := fun _ => fun
  | [d1, d2] => { results := [.lit (.bool false)], args := [d1, d2] }
  | _ => none }
def DerDaysWrongFalsely : Prop := derDaysRow.holds Try.pinned (OpenSpec.ofChange derDaysWrong)

/-- 'halberdlaw13.DerLengths': WHATEVER THE INPUT: true; the input reads as it did. -/
def derLengthsSpec : ChangeSpec := { name := "derLengths", fn := fun _ => fun
  | [d1, d2] => { results := [.lit (.bool true)], args := [d1, d2] }
  | _ => none }
def derLengthsRow : OpenClaim := { program := "ytonemdclfgckoaa", sum := "0c90320a30eb389b93f9eacad61636a51cd2540b06b5deac0ecee3f9287c6b23", func := "halberd/halberdlaw13.DerLengths", spec := "derLengths", apart := false }
def DerLengthsSaid : Prop := derLengthsRow.holds Try.pinned (OpenSpec.ofChange derLengthsSpec)

/-- ITS FALSE NEIGHBOUR: 'it returns false'. Refute it at one input. -/
def derLengthsWrong : ChangeSpec := { name := "derLengths", fn := fun _ => fun
  | [d1, d2] => { results := [.lit (.bool false)], args := [d1, d2] }
  | _ => none }
def DerLengthsWrongFalsely : Prop := derLengthsRow.holds Try.pinned (OpenSpec.ofChange derLengthsWrong)

/-- 'halberdlaw13.DerIntegers': WHATEVER THE INPUT: true; the input reads as it did. -/
def derIntegersSpec : ChangeSpec := { name := "derIntegers", fn := fun _ => fun
  | [d1, d2] => { results := [.lit (.bool true)], args := [d1, d2] }
  | _ => none }
def derIntegersRow : OpenClaim := { program := "ytonemdclfgckoaa", sum := "0c90320a30eb389b93f9eacad61636a51cd2540b06b5deac0ecee3f9287c6b23", func := "halberd/halberdlaw13.DerIntegers", spec := "derIntegers", apart := false }
def DerIntegersSaid : Prop := derIntegersRow.holds Try.pinned (OpenSpec.ofChange derIntegersSpec)

/-- ITS FALSE NEIGHBOUR: 'it returns false'. Refute it at one input. -/
def derIntegersWrong : ChangeSpec := { name := "derIntegers", fn := fun _ => fun
  | [d1, d2] => { results := [.lit (.bool false)], args := [d1, d2] }
  | _ => none }
def DerIntegersWrongFalsely : Prop := derIntegersRow.holds Try.pinned (OpenSpec.ofChange derIntegersWrong)

/-- 'halberdlaw13.DerWrong': WHATEVER THE INPUT: true; the input reads as it did. -/
def derWrongSpec : ChangeSpec := { name := "derWrong", fn := fun _ => fun
  | [d1, d2] => { results := [.lit (.bool true)], args := [d1, d2] }
  | _ => none }
def derWrongRow : OpenClaim := { program := "ytonemdclfgckoaa", sum := "0c90320a30eb389b93f9eacad61636a51cd2540b06b5deac0ecee3f9287c6b23", func := "halberd/halberdlaw13.DerWrong", spec := "derWrong", apart := false }
def DerWrongSaid : Prop := derWrongRow.holds Try.pinned (OpenSpec.ofChange derWrongSpec)

/-- ITS FALSE NEIGHBOUR: 'it returns false'. Refute it at one input. -/
def derWrongWrong : ChangeSpec := { name := "derWrong", fn := fun _ => fun
  | [d1, d2] => { results := [.lit (.bool false)], args := [d1, d2] }
  | _ => none }
def DerWrongWrongFalsely : Prop := derWrongRow.holds Try.pinned (OpenSpec.ofChange derWrongWrong)

/-- 'halberdlaw13.DerNests': WHATEVER THE INPUT: true; the input reads as it did. -/
def derNestsSpec : ChangeSpec := { name := "derNests", fn := fun _ => fun
  | [d1, d2, d3] => { results := [.lit (.bool true)], args := [d1, d2, d3] }
  | _ => none }
def derNestsRow : OpenClaim := { program := "ytonemdclfgckoaa", sum := "0c90320a30eb389b93f9eacad61636a51cd2540b06b5deac0ecee3f9287c6b23", func := "halberd/halberdlaw13.DerNests", spec := "derNests", apart := false }
def DerNestsSaid : Prop := derNestsRow.holds Try.pinned (OpenSpec.ofChange derNestsSpec)

/-- ITS FALSE NEIGHBOUR: 'it returns false'. Refute it at one input. -/
def derNestsWrong : ChangeSpec := { name := "derNests", fn := fun _ => fun
  | [d1, d2, d3] => { results := [.lit (.bool false)], args := [d1, d2, d3] }
  | _ => none }
def DerNestsWrongFalsely : Prop := derNestsRow.holds Try.pinned (OpenSpec.ofChange derNestsWrong)

/- THE SECOND FORM. 'bulk': how many values and letters a reading holds, each counted each time it is reached (what is shared counts as often as it is met; a slice's spare places count too). A statement '..UptoSaid' is the law's where the arguments, and the package variables that the reading takes, are together of bulk at most 1048576: NARROWER than '..Said'. Prove '..Said' where nothing that the law and all that it calls make is longer than what came in: it says more and counts as full. Else prove '..UptoSaid'. A law counts once. -/
mutual
def uptoBulk {H : Type} : DataW H → Nat
  | .lit (.string bytes) => bytes.length + 1
  | .lit _ => 1
  | .nil => 1
  | .ptr d => uptoBulk d + 1
  | .slice elems spare => uptoBulkAll elems + uptoBulkAll spare + 1
  | .agg parts => uptoBulkAll parts + 1
  | .iface _ d => uptoBulk d + 1
  | .map entries => uptoBulkEntries entries + 1
  | .held _ => 1
def uptoBulkAll {H : Type} : List (DataW H) → Nat
  | [] => 0
  | d :: r => uptoBulk d + uptoBulkAll r
def uptoBulkEntries {H : Type} : List (Lit × DataW H) → Nat
  | [] => 0
  | x :: r => uptoBulkEntry x + uptoBulkEntries r
def uptoBulkEntry {H : Type} : Lit × DataW H → Nat
  | (.string bytes, d) => bytes.length + uptoBulk d + 1
  | (_, d) => uptoBulk d + 1
 end
def uptoSmall : (H : Type) → List (DataW H) → Bool := fun _ ds => decide (uptoBulkAll ds ≤ 1048576)
def OpenSpec.upto (s : _root_.Go.ChangeSpec) : _root_.Go.OpenSpec := { _root_.Go.OpenSpec.ofChange s with cond := some uptoSmall }

/-- 'halberdlaw13.DerTimes', WHERE WHAT IT READS IS OF BULK AT MOST 1048576: true; the input reads as it did. -/
def derTimesUptoRow : OpenClaim := { program := "ytonemdclfgckoaa", sum := "0c90320a30eb389b93f9eacad61636a51cd2540b06b5deac0ecee3f9287c6b23", func := "halberd/halberdlaw13.DerTimes", spec := "derTimes", apart := false, narrowed := true }
def DerTimesUptoSaid : Prop := derTimesUptoRow.holds Try.pinned (OpenSpec.upto derTimesSpec)

/-- 'halberdlaw13.DerBack', WHERE WHAT IT READS IS OF BULK AT MOST 1048576: true; the input reads as it did. -/
def derBackUptoRow : OpenClaim := { program := "ytonemdclfgckoaa", sum := "0c90320a30eb389b93f9eacad61636a51cd2540b06b5deac0ecee3f9287c6b23", func := "halberd/halberdlaw13.DerBack", spec := "derBack", apart := false, narrowed := true }
def DerBackUptoSaid : Prop := derBackUptoRow.holds Try.pinned (OpenSpec.upto derBackSpec)

/-- 'halberdlaw13.DerDays', WHERE WHAT IT READS IS OF BULK AT MOST 1048576: true; the input reads as it did. -/
def derDaysUptoRow : OpenClaim := { program := "ytonemdclfgckoaa", sum := "0c90320a30eb389b93f9eacad61636a51cd2540b06b5deac0ecee3f9287c6b23", func := "halberd/halberdlaw13.DerDays", spec := "derDays", apart := false, narrowed := true }
def DerDaysUptoSaid : Prop := derDaysUptoRow.holds Try.pinned (OpenSpec.upto derDaysSpec)

/-- 'halberdlaw13.DerLengths', WHERE WHAT IT READS IS OF BULK AT MOST 1048576: true; the input reads as it did. -/
def derLengthsUptoRow : OpenClaim := { program := "ytonemdclfgckoaa", sum := "0c90320a30eb389b93f9eacad61636a51cd2540b06b5deac0ecee3f9287c6b23", func := "halberd/halberdlaw13.DerLengths", spec := "derLengths", apart := false, narrowed := true }
def DerLengthsUptoSaid : Prop := derLengthsUptoRow.holds Try.pinned (OpenSpec.upto derLengthsSpec)

/-- 'halberdlaw13.DerIntegers', WHERE WHAT IT READS IS OF BULK AT MOST 1048576: true; the input reads as it did. -/
def derIntegersUptoRow : OpenClaim := { program := "ytonemdclfgckoaa", sum := "0c90320a30eb389b93f9eacad61636a51cd2540b06b5deac0ecee3f9287c6b23", func := "halberd/halberdlaw13.DerIntegers", spec := "derIntegers", apart := false, narrowed := true }
def DerIntegersUptoSaid : Prop := derIntegersUptoRow.holds Try.pinned (OpenSpec.upto derIntegersSpec)

/-- 'halberdlaw13.DerWrong', WHERE WHAT IT READS IS OF BULK AT MOST 1048576: true; the input reads as it did. -/
def derWrongUptoRow : OpenClaim := { program := "ytonemdclfgckoaa", sum := "0c90320a30eb389b93f9eacad61636a51cd2540b06b5deac0ecee3f9287c6b23", func := "halberd/halberdlaw13.DerWrong", spec := "derWrong", apart := false, narrowed := true }
def DerWrongUptoSaid : Prop := derWrongUptoRow.holds Try.pinned (OpenSpec.upto derWrongSpec)

/-- 'halberdlaw13.DerNests', WHERE WHAT IT READS IS OF BULK AT MOST 1048576: true; the input reads as it did. -/
def derNestsUptoRow : OpenClaim := { program := "ytonemdclfgckoaa", sum := "0c90320a30eb389b93f9eacad61636a51cd2540b06b5deac0ecee3f9287c6b23", func := "halberd/halberdlaw13.DerNests", spec := "derNests", apart := false, narrowed := true }
def DerNestsUptoSaid : Prop := derNestsUptoRow.holds Try.pinned (OpenSpec.upto derNestsSpec)

end Rows
end Go.Proofs.Ytonemdclfgckoaa
