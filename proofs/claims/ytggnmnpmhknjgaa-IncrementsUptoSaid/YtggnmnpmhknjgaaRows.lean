/-
  No cell of these rows narrows 'for every input' (looked for: loops, veiled, ifaces, maps, wideKeys, modest, calm, conditions, laid).
  DERIVED. THE GIVEN ROWS OF THIS SEAT. 10 by the template 'for every input the law returns true; each argument reads behind the call as it read before'; 0 by the template 'total and deterministic' (their statements: YtggnmnpmhknjgaaTotals.lean).
  GIVEN WITH THE SEED: the statements are not yours to turn. If you find one false, say at which input.
  Laid BY PROGRAM, IN A SANDBOX (cutbox-rows.mjs): the forced cells as the released guide's own fill.sh prints them over the translation b8e23563e260856f… (all of the seat's roots in one cut). By AI agents, Wed Nov 11 2026. No macro, syntax, notation, axiom, sorry.
-/
import Derived.Test.YtggnmnpmhknjgaaChecked
import GoSem.Claim
import GoSem.ClaimJoined
import GoSem.ClaimMapViews
import Derived.JoinedTies
import Derived.KernelRfl
namespace Go.Proofs.Ytggnmnpmhknjgaa
/- THE CELL 'sum', in the pinned program and in every row, IS THE sha256 OF THE DUMP (.gsa) THAT YtggnmnpmhknjgaaProg.lean LOADS. Nothing in Lean hashes anything: it is a label: what it is worth is what the hold of that sum in a sandbox is worth. -/
noncomputable def Try.pinned : Pinned := { name := "ytggnmnpmhknjgaa", sum := "b8e23563e260856f6226d65c1930c39c5f31a1fe1216a8fecf7d89b0b0dab6ed", checked := Try.checked }
namespace Rows
def none {H : Type} : Left H := { results := [], args := [] }

/-- 'halberdlaw0.HalberdNames': WHATEVER THE INPUT: true; the input reads as it did. -/
def halberdNamesSpec : ChangeSpec := { name := "halberdNames", fn := fun _ => fun
  | [] => { results := [.lit (.bool true)], args := [] }
  | _ => none }
def halberdNamesRow : OpenClaim := { program := "ytggnmnpmhknjgaa", sum := "b8e23563e260856f6226d65c1930c39c5f31a1fe1216a8fecf7d89b0b0dab6ed", func := "halberd/halberdlaw0.HalberdNames", spec := "halberdNames", apart := false }
def HalberdNamesSaid : Prop := halberdNamesRow.holds Try.pinned (OpenSpec.ofChange halberdNamesSpec)

/-- ITS FALSE NEIGHBOUR: 'it returns false'. Refute it at one input. -/
def halberdNamesWrong : ChangeSpec := { name := "halberdNames", fn := fun _ => fun
  | [] => { results := [.lit (.bool false)], args := [] }
  | _ => none }
def HalberdNamesWrongFalsely : Prop := halberdNamesRow.holds Try.pinned (OpenSpec.ofChange halberdNamesWrong)

/-- 'halberdlaw18.Increments': WHATEVER THE INPUT: true; the input reads as it did. -/
def incrementsSpec : ChangeSpec := { name := "increments", fn := fun _ => fun
  | [d] => { results := [.lit (.bool true)], args := [d] }
  | _ => none }
def incrementsRow : OpenClaim := { program := "ytggnmnpmhknjgaa", sum := "b8e23563e260856f6226d65c1930c39c5f31a1fe1216a8fecf7d89b0b0dab6ed", func := "halberd/halberdlaw18.Increments", spec := "increments", apart := false }
def IncrementsSaid : Prop := incrementsRow.holds Try.pinned (OpenSpec.ofChange incrementsSpec)

/-- ITS FALSE NEIGHBOUR: 'it returns false'. Refute it at one input. -/
def incrementsWrong : ChangeSpec := { name := "increments", fn := fun _ => fun
  | [d] => { results := [.lit (.bool false)], args := [d] }
  | _ => none }
def IncrementsWrongFalsely : Prop := incrementsRow.holds Try.pinned (OpenSpec.ofChange incrementsWrong)

/-- 'halberdlaw18.IncrLimits': WHATEVER THE INPUT: true; the input reads as it did. -/
def incrLimitsSpec : ChangeSpec := { name := "incrLimits", fn := fun _ => fun
  | [d1, d2] => { results := [.lit (.bool true)], args := [d1, d2] }
  | _ => none }
def incrLimitsRow : OpenClaim := { program := "ytggnmnpmhknjgaa", sum := "b8e23563e260856f6226d65c1930c39c5f31a1fe1216a8fecf7d89b0b0dab6ed", func := "halberd/halberdlaw18.IncrLimits", spec := "incrLimits", apart := false }
def IncrLimitsSaid : Prop := incrLimitsRow.holds Try.pinned (OpenSpec.ofChange incrLimitsSpec)

/-- ITS FALSE NEIGHBOUR: 'it returns false'. Refute it at one input. -/
def incrLimitsWrong : ChangeSpec := { name := "incrLimits", fn := fun _ => fun
  | [d1, d2] => { results := [.lit (.bool false)], args := [d1, d2] }
  | _ => none }
def IncrLimitsWrongFalsely : Prop := incrLimitsRow.holds Try.pinned (OpenSpec.ofChange incrLimitsWrong)

/-- 'halberdlaw18.IncrBytes': WHATEVER THE INPUT: true; the input reads as it did. -/
def incrBytesSpec : ChangeSpec := { name := "incrBytes", fn := fun _ => fun
  | [d1, d2, d3] => { results := [.lit (.bool true)], args := [d1, d2, d3] }
  | _ => none }
def incrBytesRow : OpenClaim := { program := "ytggnmnpmhknjgaa", sum := "b8e23563e260856f6226d65c1930c39c5f31a1fe1216a8fecf7d89b0b0dab6ed", func := "halberd/halberdlaw18.IncrBytes", spec := "incrBytes", apart := false }
def IncrBytesSaid : Prop := incrBytesRow.holds Try.pinned (OpenSpec.ofChange incrBytesSpec)

/-- ITS FALSE NEIGHBOUR: 'it returns false'. Refute it at one input. -/
def incrBytesWrong : ChangeSpec := { name := "incrBytes", fn := fun _ => fun
  | [d1, d2, d3] => { results := [.lit (.bool false)], args := [d1, d2, d3] }
  | _ => none }
def IncrBytesWrongFalsely : Prop := incrBytesRow.holds Try.pinned (OpenSpec.ofChange incrBytesWrong)

/-- 'halberdlaw1.WirePuts': WHATEVER THE INPUT: true; the input reads as it did. -/
def wirePutsSpec : ChangeSpec := { name := "wirePuts", fn := fun _ => fun
  | [d1, d2, d3] => { results := [.lit (.bool true)], args := [d1, d2, d3] }
  | _ => none }
def wirePutsRow : OpenClaim := { program := "ytggnmnpmhknjgaa", sum := "b8e23563e260856f6226d65c1930c39c5f31a1fe1216a8fecf7d89b0b0dab6ed", func := "halberd/halberdlaw1.WirePuts", spec := "wirePuts", apart := false }
def WirePutsSaid : Prop := wirePutsRow.holds Try.pinned (OpenSpec.ofChange wirePutsSpec)

/-- ITS FALSE NEIGHBOUR: 'it returns false'. Refute it at one input. -/
def wirePutsWrong : ChangeSpec := { name := "wirePuts", fn := fun _ => fun
  | [d1, d2, d3] => { results := [.lit (.bool false)], args := [d1, d2, d3] }
  | _ => none }
def WirePutsWrongFalsely : Prop := wirePutsRow.holds Try.pinned (OpenSpec.ofChange wirePutsWrong)

/-- 'halberdlaw1.WireLimits': WHATEVER THE INPUT: true; the input reads as it did. -/
def wireLimitsSpec : ChangeSpec := { name := "wireLimits", fn := fun _ => fun
  | [d1, d2, d3] => { results := [.lit (.bool true)], args := [d1, d2, d3] }
  | _ => none }
def wireLimitsRow : OpenClaim := { program := "ytggnmnpmhknjgaa", sum := "b8e23563e260856f6226d65c1930c39c5f31a1fe1216a8fecf7d89b0b0dab6ed", func := "halberd/halberdlaw1.WireLimits", spec := "wireLimits", apart := false }
def WireLimitsSaid : Prop := wireLimitsRow.holds Try.pinned (OpenSpec.ofChange wireLimitsSpec)

/-- ITS FALSE NEIGHBOUR: 'it returns false'. Refute it at one input. -/
def wireLimitsWrong : ChangeSpec := { name := "wireLimits", fn := fun _ => fun
  | [d1, d2, d3] => { results := [.lit (.bool false)], args := [d1, d2, d3] }
  | _ => none }
def WireLimitsWrongFalsely : Prop := wireLimitsRow.holds Try.pinned (OpenSpec.ofChange wireLimitsWrong)

/-- 'halberdlaw1.WireCuts': WHATEVER THE INPUT: true; the input reads as it did. -/
def wireCutsSpec : ChangeSpec := { name := "wireCuts", fn := fun _ => fun
  | [d1, d2, d3] => { results := [.lit (.bool true)], args := [d1, d2, d3] }
  | _ => none }
def wireCutsRow : OpenClaim := { program := "ytggnmnpmhknjgaa", sum := "b8e23563e260856f6226d65c1930c39c5f31a1fe1216a8fecf7d89b0b0dab6ed", func := "halberd/halberdlaw1.WireCuts", spec := "wireCuts", apart := false }
def WireCutsSaid : Prop := wireCutsRow.holds Try.pinned (OpenSpec.ofChange wireCutsSpec)

/-- ITS FALSE NEIGHBOUR: 'it returns false'. Refute it at one input. -/
def wireCutsWrong : ChangeSpec := { name := "wireCuts", fn := fun _ => fun
  | [d1, d2, d3] => { results := [.lit (.bool false)], args := [d1, d2, d3] }
  | _ => none }
def WireCutsWrongFalsely : Prop := wireCutsRow.holds Try.pinned (OpenSpec.ofChange wireCutsWrong)

/-- 'halberdlaw1.WireGets': WHATEVER THE INPUT: true; the input reads as it did. -/
def wireGetsSpec : ChangeSpec := { name := "wireGets", fn := fun _ => fun
  | [d1, d2, d3] => { results := [.lit (.bool true)], args := [d1, d2, d3] }
  | _ => none }
def wireGetsRow : OpenClaim := { program := "ytggnmnpmhknjgaa", sum := "b8e23563e260856f6226d65c1930c39c5f31a1fe1216a8fecf7d89b0b0dab6ed", func := "halberd/halberdlaw1.WireGets", spec := "wireGets", apart := false }
def WireGetsSaid : Prop := wireGetsRow.holds Try.pinned (OpenSpec.ofChange wireGetsSpec)

/-- ITS FALSE NEIGHBOUR: 'it returns false'. Refute it at one input. -/
def wireGetsWrong : ChangeSpec := { name := "wireGets", fn := fun _ => fun
  | [d1, d2, d3] => { results := [.lit (.bool false)], args := [d1, d2, d3] }
  | _ => none }
def WireGetsWrongFalsely : Prop := wireGetsRow.holds Try.pinned (OpenSpec.ofChange wireGetsWrong)

/-- 'halberdlaw1.WireBack': WHATEVER THE INPUT: true; the input reads as it did. -/
def wireBackSpec : ChangeSpec := { name := "wireBack", fn := fun _ => fun
  | [d1, d2] => { results := [.lit (.bool true)], args := [d1, d2] }
  | _ => none }
def wireBackRow : OpenClaim := { program := "ytggnmnpmhknjgaa", sum := "b8e23563e260856f6226d65c1930c39c5f31a1fe1216a8fecf7d89b0b0dab6ed", func := "halberd/halberdlaw1.WireBack", spec := "wireBack", apart := false }
def WireBackSaid : Prop := wireBackRow.holds Try.pinned (OpenSpec.ofChange wireBackSpec)

/-- ITS FALSE NEIGHBOUR: 'it returns false'. Refute it at one input. -/
def wireBackWrong : ChangeSpec := { name := "wireBack", fn := fun _ => fun
  | [d1, d2] => { results := [.lit (.bool false)], args := [d1, d2] }
  | _ => none }
def WireBackWrongFalsely : Prop := wireBackRow.holds Try.pinned (OpenSpec.ofChange wireBackWrong)

/-- 'halberdlaw1.WireRows': WHATEVER THE INPUT: true; the input reads as it did. -/
def wireRowsSpec : ChangeSpec := { name := "wireRows", fn := fun _ => fun
  | [d1, d2] => { results := [.lit (.bool true)], args := [d1, d2] }
  | _ => none }
def wireRowsRow : OpenClaim := { program := "ytggnmnpmhknjgaa", sum := "b8e23563e260856f6226d65c1930c39c5f31a1fe1216a8fecf7d89b0b0dab6ed", func := "halberd/halberdlaw1.WireRows", spec := "wireRows", apart := false }
def WireRowsSaid : Prop := wireRowsRow.holds Try.pinned (OpenSpec.ofChange wireRowsSpec)

/-- ITS FALSE NEIGHBOUR: 'it returns false'. Refute it at one input. -/
def wireRowsWrong : ChangeSpec := { name := "wireRows", fn := fun _ => fun
  | [d1, d2] => { results := [.lit (.bool false)], args := [d1, d2] }
  | _ => none }
def WireRowsWrongFalsely : Prop := wireRowsRow.holds Try.pinned (OpenSpec.ofChange wireRowsWrong)

/- THE SECOND FORM. 'bulk': how many values and letters a reading holds, each counted each time it is reached (what is shared counts as often as it is met; a slice's spare places count too). A statement '..UptoSaid' is the law's where the arguments, and the package variables that the reading takes, are together of bulk at most 1048576: NARROWER than '..Said'. Prove '..Said' where nothing that the law and all that it calls make is longer than what came in: it says more and counts as full. Else prove '..UptoSaid'. A law counts once. -/
mutual
def uptoBulk {H : Type} : DataW H → Nat
  | .lit (.string bytes) => bytes.length + 1
  | .lit _ => 1
  | .nil => 1
  | .ptr d => uptoBulk d + 1
  | .slice elems spare => uptoBulkAll elems + uptoBulkAll spare + 1
  | .agg parts => uptoBulkAll parts + 1
  | .iface _ d => uptoBulk d + 1
  | .map entries => uptoBulkEntries entries + 1
  | .held _ => 1
def uptoBulkAll {H : Type} : List (DataW H) → Nat
  | [] => 0
  | d :: r => uptoBulk d + uptoBulkAll r
def uptoBulkEntries {H : Type} : List (Lit × DataW H) → Nat
  | [] => 0
  | x :: r => uptoBulkEntry x + uptoBulkEntries r
def uptoBulkEntry {H : Type} : Lit × DataW H → Nat
  | (.string bytes, d) => bytes.length + uptoBulk d + 1
  | (_, d) => uptoBulk d + 1
 end
def uptoSmall : (H : Type) → List (DataW H) → Bool := fun _ ds => decide (uptoBulkAll ds ≤ 1048576)
def OpenSpec.upto (s : _root_.Go.ChangeSpec) : _root_.Go.OpenSpec := { _root_.Go.OpenSpec.ofChange s with cond := some uptoSmall }

/-- 'halberdlaw0.HalberdNames', WHERE WHAT IT READS IS OF BULK AT MOST 1048576: true; the input reads as it did. -/
def halberdNamesUptoRow : OpenClaim := { program := "ytggnmnpmhknjgaa", sum := "b8e23563e260856f6226d65c1930c39c5f31a1fe1216a8fecf7d89b0b0dab6ed", func := "halberd/halberdlaw0.HalberdNames", spec := "halberdNames", apart := false, narrowed := true }
def HalberdNamesUptoSaid : Prop := halberdNamesUptoRow.holds Try.pinned (OpenSpec.upto halberdNamesSpec)

/-- 'halberdlaw18.Increments', WHERE WHAT IT READS IS OF BULK AT MOST 1048576: true; the input reads as it did. -/
def incrementsUptoRow : OpenClaim := { program := "ytggnmnpmhknjgaa", sum := "b8e23563e260856f6226d65c1930c39c5f31a1fe1216a8fecf7d89b0b0dab6ed", func := "halberd/halberdlaw18.Increments", spec := "increments", apart := false, narrowed := true }
def IncrementsUptoSaid : Prop := incrementsUptoRow.holds Try.pinned (OpenSpec.upto incrementsSpec)

/-- 'halberdlaw18.IncrLimits', WHERE WHAT IT READS IS OF BULK AT MOST 1048576: true; the input reads as it did. -/
def incrLimitsUptoRow : OpenClaim := { program := "ytggnmnpmhknjgaa", sum := "b8e23563e260856f6226d65c1930c39c5f31a1fe1216a8fecf7d89b0b0dab6ed", func := "halberd/halberdlaw18.IncrLimits", spec := "incrLimits", apart := false, narrowed := true }
def IncrLimitsUptoSaid : Prop := incrLimitsUptoRow.holds Try.pinned (OpenSpec.upto incrLimitsSpec)

/-- 'halberdlaw18.IncrBytes', WHERE WHAT IT READS IS OF BULK AT MOST 1048576: true; the input reads as it did. -/
def incrBytesUptoRow : OpenClaim := { program := "ytggnmnpmhknjgaa", sum := "b8e23563e260856f6226d65c1930c39c5f31a1fe1216a8fecf7d89b0b0dab6ed", func := "halberd/halberdlaw18.IncrBytes", spec := "incrBytes", apart := false, narrowed := true }
def IncrBytesUptoSaid : Prop := incrBytesUptoRow.holds Try.pinned (OpenSpec.upto incrBytesSpec)

/-- 'halberdlaw1.WirePuts', WHERE WHAT IT READS IS OF BULK AT MOST 1048576: true; the input reads as it did. -/
def wirePutsUptoRow : OpenClaim := { program := "ytggnmnpmhknjgaa", sum := "b8e23563e260856f6226d65c1930c39c5f31a1fe1216a8fecf7d89b0b0dab6ed", func := "halberd/halberdlaw1.WirePuts", spec := "wirePuts", apart := false, narrowed := true }
def WirePutsUptoSaid : Prop := wirePutsUptoRow.holds Try.pinned (OpenSpec.upto wirePutsSpec)

/-- 'halberdlaw1.WireLimits', WHERE WHAT IT READS IS OF BULK AT MOST 1048576: true; the input reads as it did. -/
def wireLimitsUptoRow : OpenClaim := { program := "ytggnmnpmhknjgaa", sum := "b8e23563e260856f6226d65c1930c39c5f31a1fe1216a8fecf7d89b0b0dab6ed", func := "halberd/halberdlaw1.WireLimits", spec := "wireLimits", apart := false, narrowed := true }
def WireLimitsUptoSaid : Prop := wireLimitsUptoRow.holds Try.pinned (OpenSpec.upto wireLimitsSpec)

/-- 'halberdlaw1.WireCuts', WHERE WHAT IT READS IS OF BULK AT MOST 1048576: true; the input reads as it did. -/
def wireCutsUptoRow : OpenClaim := { program := "ytggnmnpmhknjgaa", sum := "b8e23563e260856f6226d65c1930c39c5f31a1fe1216a8fecf7d89b0b0dab6ed", func := "halberd/halberdlaw1.WireCuts", spec := "wireCuts", apart := false, narrowed := true }
def WireCutsUptoSaid : Prop := wireCutsUptoRow.holds Try.pinned (OpenSpec.upto wireCutsSpec)

/-- 'halberdlaw1.WireGets', WHERE WHAT IT READS IS OF BULK AT MOST 1048576: true; the input reads as it did. -/
def wireGetsUptoRow : OpenClaim := { program := "ytggnmnpmhknjgaa", sum := "b8e23563e260856f6226d65c1930c39c5f31a1fe1216a8fecf7d89b0b0dab6ed", func := "halberd/halberdlaw1.WireGets", spec := "wireGets", apart := false, narrowed := true }
def WireGetsUptoSaid : Prop := wireGetsUptoRow.holds Try.pinned (OpenSpec.upto wireGetsSpec)

/-- 'halberdlaw1.WireBack', WHERE WHAT IT READS IS OF BULK AT MOST 1048576: true; the input reads as it did. -/
def wireBackUptoRow : OpenClaim := { program := "ytggnmnpmhknjgaa", sum := "b8e23563e260856f6226d65c1930c39c5f31a1fe1216a8fecf7d89b0b0dab6ed", func := "halberd/halberdlaw1.WireBack", spec := "wireBack", apart := false, narrowed := true }
def WireBackUptoSaid : Prop := wireBackUptoRow.holds Try.pinned (OpenSpec.upto wireBackSpec)

/-- 'halberdlaw1.WireRows', WHERE WHAT IT READS IS OF BULK AT MOST 1048576: true; the input reads as it did. -/
def wireRowsUptoRow : OpenClaim := { program := "ytggnmnpmhknjgaa", sum := "b8e23563e260856f6226d65c1930c39c5f31a1fe1216a8fecf7d89b0b0dab6ed", func := "halberd/halberdlaw1.WireRows", spec := "wireRows", apart := false, narrowed := true }
def WireRowsUptoSaid : Prop := wireRowsUptoRow.holds Try.pinned (OpenSpec.upto wireRowsSpec)

end Rows
end Go.Proofs.Ytggnmnpmhknjgaa
