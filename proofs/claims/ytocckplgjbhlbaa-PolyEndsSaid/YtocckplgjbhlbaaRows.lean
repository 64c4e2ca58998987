/-
  No cell of these rows narrows 'for every input' (looked for: loops, veiled, ifaces, maps, wideKeys, modest, calm, conditions, laid).
  DERIVED. THE GIVEN ROWS OF THIS SEAT. 9 by the template 'for every input the law returns true; each argument reads behind the call as it read before'; 0 by the template 'total and deterministic' (their statements: YtocckplgjbhlbaaTotals.lean).
  GIVEN WITH THE SEED: the statements are not yours to turn. If you find one false, say at which input.
  Laid BY PROGRAM, IN A SANDBOX (cutbox-rows.mjs): the forced cells as the released guide's own fill.sh prints them over the translation 748a57d55642d155… (all of the seat's roots in one cut). By AI agents, Wed Nov 11 2026. No macro, syntax, notation, axiom, sorry.
-/
import Derived.Test.YtocckplgjbhlbaaChecked
import GoSem.Claim
import GoSem.ClaimJoined
import GoSem.ClaimMapViews
import Derived.JoinedTies
import Derived.KernelRfl
namespace Go.Proofs.Ytocckplgjbhlbaa
/- THE CELL 'sum', in the pinned program and in every row, IS THE sha256 OF THE DUMP (.gsa) THAT YtocckplgjbhlbaaProg.lean LOADS. Nothing in Lean hashes anything: it is a label: what it is worth is what the hold of that sum in a sandbox is worth. -/
noncomputable def Try.pinned : Pinned := { name := "ytocckplgjbhlbaa", sum := "748a57d55642d15533cba748ef173d6b23b8e203d9d62e2d82c14f6b1ad62c61", checked := Try.checked }
namespace Rows
def none {H : Type} : Left H := { results := [], args := [] }

/-- 'halberdlaw6.Chachas': WHATEVER THE INPUT: true; the input reads as it did. -/
def chachasSpec : ChangeSpec := { name := "chachas", fn := fun _ => fun
  | [d1, d2, d3, d4] => { results := [.lit (.bool true)], args := [d1, d2, d3, d4] }
  | _ => none }
def chachasRow : OpenClaim := { program := "ytocckplgjbhlbaa", sum := "748a57d55642d15533cba748ef173d6b23b8e203d9d62e2d82c14f6b1ad62c61", func := "halberd/halberdlaw6.Chachas", spec := "chachas", apart := false }
def ChachasSaid : Prop := chachasRow.holds Try.pinned (OpenSpec.ofChange chachasSpec)

/-- ITS FALSE NEIGHBOUR: 'it returns false'. Refute it at one input. -/
def chachasWrong : ChangeSpec := { name := "chachas", fn := fun _ => fun
  | [d1, d2, d3, d4] => { results := [.lit (.bool false)], args := [d1, d2, d3, d4] }
  | _ => none }
def ChachasWrongFalsely : Prop := chachasRow.holds Try.pinned (OpenSpec.ofChange chachasWrong)

/-- 'halberdlaw6.ChachaTwice': WHATEVER THE INPUT: true; the input reads as it did. -/
def chachaTwiceSpec : ChangeSpec := { name := "chachaTwice", fn := fun _ => fun
  | [d1, d2, d3, d4] => { results := [.lit (.bool true)], args := [d1, d2, d3, d4] }
  | _ => none }
def chachaTwiceRow : OpenClaim := { program := "ytocckplgjbhlbaa", sum := "748a57d55642d15533cba748ef173d6b23b8e203d9d62e2d82c14f6b1ad62c61", func := "halberd/halberdlaw6.ChachaTwice", spec := "chachaTwice", apart := false }
def ChachaTwiceSaid : Prop := chachaTwiceRow.holds Try.pinned (OpenSpec.ofChange chachaTwiceSpec)

/-- ITS FALSE NEIGHBOUR: 'it returns false'. Refute it at one input. -/
def chachaTwiceWrong : ChangeSpec := { name := "chachaTwice", fn := fun _ => fun
  | [d1, d2, d3, d4] => { results := [.lit (.bool false)], args := [d1, d2, d3, d4] }
  | _ => none }
def ChachaTwiceWrongFalsely : Prop := chachaTwiceRow.holds Try.pinned (OpenSpec.ofChange chachaTwiceWrong)

/-- 'halberdlaw6.ChachaBlocks': WHATEVER THE INPUT: true; the input reads as it did. -/
def chachaBlocksSpec : ChangeSpec := { name := "chachaBlocks", fn := fun _ => fun
  | [d1, d2, d3] => { results := [.lit (.bool true)], args := [d1, d2, d3] }
  | _ => none }
def chachaBlocksRow : OpenClaim := { program := "ytocckplgjbhlbaa", sum := "748a57d55642d15533cba748ef173d6b23b8e203d9d62e2d82c14f6b1ad62c61", func := "halberd/halberdlaw6.ChachaBlocks", spec := "chachaBlocks", apart := false }
def ChachaBlocksSaid : Prop := chachaBlocksRow.holds Try.pinned (OpenSpec.ofChange chachaBlocksSpec)

/-- ITS FALSE NEIGHBOUR: 'it returns false'. Refute it at one input. -/
def chachaBlocksWrong : ChangeSpec := { name := "chachaBlocks", fn := fun _ => fun
  | [d1, d2, d3] => { results := [.lit (.bool false)], args := [d1, d2, d3] }
  | _ => none }
def ChachaBlocksWrongFalsely : Prop := chachaBlocksRow.holds Try.pinned (OpenSpec.ofChange chachaBlocksWrong)

/-- 'halberdlaw6.ChachaForms': WHATEVER THE INPUT: true; the input reads as it did. -/
def chachaFormsSpec : ChangeSpec := { name := "chachaForms", fn := fun _ => fun
  | [d1, d2, d3] => { results := [.lit (.bool true)], args := [d1, d2, d3] }
  | _ => none }
def chachaFormsRow : OpenClaim := { program := "ytocckplgjbhlbaa", sum := "748a57d55642d15533cba748ef173d6b23b8e203d9d62e2d82c14f6b1ad62c61", func := "halberd/halberdlaw6.ChachaForms", spec := "chachaForms", apart := false }
def ChachaFormsSaid : Prop := chachaFormsRow.holds Try.pinned (OpenSpec.ofChange chachaFormsSpec)

/-- ITS FALSE NEIGHBOUR: 'it returns false'. Refute it at one input. -/
def chachaFormsWrong : ChangeSpec := { name := "chachaForms", fn := fun _ => fun
  | [d1, d2, d3] => { results := [.lit (.bool false)], args := [d1, d2, d3] }
  | _ => none }
def ChachaFormsWrongFalsely : Prop := chachaFormsRow.holds Try.pinned (OpenSpec.ofChange chachaFormsWrong)

/-- 'halberdlaw7.Polys': WHATEVER THE INPUT: true; the input reads as it did. -/
def polysSpec : ChangeSpec := { name := "polys", fn := fun _ => fun
  | [d1, d2, d3, d4] => { results := [.lit (.bool true)], args := [d1, d2, d3, d4] }
  | _ => none }
def polysRow : OpenClaim := { program := "ytocckplgjbhlbaa", sum := "748a57d55642d15533cba748ef173d6b23b8e203d9d62e2d82c14f6b1ad62c61", func := "halberd/halberdlaw7.Polys", spec := "polys", apart := false }
def PolysSaid : Prop := polysRow.holds Try.pinned (OpenSpec.ofChange polysSpec)

/-- ITS FALSE NEIGHBOUR: 'it returns false'. Refute it at one input. -/
def polysWrong : ChangeSpec := { name := "polys", fn := fun _ => fun
  | [d1, d2, d3, d4] => { results := [.lit (.bool false)], args := [d1, d2, d3, d4] }
  | _ => none }
def PolysWrongFalsely : Prop := polysRow.holds Try.pinned (OpenSpec.ofChange polysWrong)

/-- 'halberdlaw7.PolyEnds': WHATEVER THE INPUT: true; the input reads as it did. -/
def polyEndsSpec : ChangeSpec := { name := "polyEnds", fn := fun _ => fun
  | [d1, d2, d3] => { results := [.lit (.bool true)], args := [d1, d2, d3] }
  | _ => none }
def polyEndsRow : OpenClaim := { program := "ytocckplgjbhlbaa", sum := "748a57d55642d15533cba748ef173d6b23b8e203d9d62e2d82c14f6b1ad62c61", func := "halberd/halberdlaw7.PolyEnds", spec := "polyEnds", apart := false }
def PolyEndsSaid : Prop := polyEndsRow.holds Try.pinned (OpenSpec.ofChange polyEndsSpec)

/-- ITS FALSE NEIGHBOUR: 'it returns false'. Refute it at one input. -/
def polyEndsWrong : ChangeSpec := { name := "polyEnds", fn := fun _ => fun
  | [d1, d2, d3] => { results := [.lit (.bool false)], args := [d1, d2, d3] }
  | _ => none }
def PolyEndsWrongFalsely : Prop := polyEndsRow.holds Try.pinned (OpenSpec.ofChange polyEndsWrong)

/-- 'halberdlaw7.PolyBack': WHATEVER THE INPUT: true; the input reads as it did. -/
def polyBackSpec : ChangeSpec := { name := "polyBack", fn := fun _ => fun
  | [d1, d2, d3] => { results := [.lit (.bool true)], args := [d1, d2, d3] }
  | _ => none }
def polyBackRow : OpenClaim := { program := "ytocckplgjbhlbaa", sum := "748a57d55642d15533cba748ef173d6b23b8e203d9d62e2d82c14f6b1ad62c61", func := "halberd/halberdlaw7.PolyBack", spec := "polyBack", apart := false }
def PolyBackSaid : Prop := polyBackRow.holds Try.pinned (OpenSpec.ofChange polyBackSpec)

/-- ITS FALSE NEIGHBOUR: 'it returns false'. Refute it at one input. -/
def polyBackWrong : ChangeSpec := { name := "polyBack", fn := fun _ => fun
  | [d1, d2, d3] => { results := [.lit (.bool false)], args := [d1, d2, d3] }
  | _ => none }
def PolyBackWrongFalsely : Prop := polyBackRow.holds Try.pinned (OpenSpec.ofChange polyBackWrong)

/-- 'halberdlaw7.PolyKnown': WHATEVER THE INPUT: true; the input reads as it did. -/
def polyKnownSpec : ChangeSpec := { name := "polyKnown", fn := fun _ => fun
  | [d] => { results := [.lit (.bool true)], args := [d] }
  | _ => none }
def polyKnownRow : OpenClaim := { program := "ytocckplgjbhlbaa", sum := "748a57d55642d15533cba748ef173d6b23b8e203d9d62e2d82c14f6b1ad62c61", func := "halberd/halberdlaw7.PolyKnown", spec := "polyKnown", apart := false }
def PolyKnownSaid : Prop := polyKnownRow.holds Try.pinned (OpenSpec.ofChange polyKnownSpec)

/-- ITS FALSE NEIGHBOUR: 'it returns false'. Refute it at one input. -/
def polyKnownWrong : ChangeSpec := { name := "polyKnown", fn := fun _ => fun
  | [d] => { results := [.lit (.bool false)], args := [d] }
  | _ => none }
def PolyKnownWrongFalsely : Prop := polyKnownRow.holds Try.pinned (OpenSpec.ofChange polyKnownWrong)

/-- 'halberdlaw7.PolyParts': WHATEVER THE INPUT: true; the input reads as it did. -/
def polyPartsSpec : ChangeSpec := { name := "polyParts", fn := fun _ => fun
  | [d1, d2, d3] => { results := [.lit (.bool true)], args := [d1, d2, d3] }
  | _ => none }
def polyPartsRow : OpenClaim := { program := "ytocckplgjbhlbaa", sum := "748a57d55642d15533cba748ef173d6b23b8e203d9d62e2d82c14f6b1ad62c61", func := "halberd/halberdlaw7.PolyParts", spec := "polyParts", apart := false }
def PolyPartsSaid : Prop := polyPartsRow.holds Try.pinned (OpenSpec.ofChange polyPartsSpec)

/-- ITS FALSE NEIGHBOUR: 'it returns false'. Refute it at one input. -/
def polyPartsWrong : ChangeSpec := { name := "polyParts", fn := fun _ => fun
  | [d1, d2, d3] => { results := [.lit (.bool false)], args := [d1, d2, d3] }
  | _ => none }
def PolyPartsWrongFalsely : Prop := polyPartsRow.holds Try.pinned (OpenSpec.ofChange polyPartsWrong)

/- THE SECOND FORM. 'bulk': how many values and letters a reading holds, each counted each time it is reached (what is shared counts as often as it is met; a slice's spare places count too). A statement '..UptoSaid' is the law's where the arguments, and the package variables that the reading takes, are together of bulk at most 1048576: NARROWER than '..Said'. Prove '..Said' where nothing that the law and all that it calls make is longer than what came in: it says more and counts as full. Else prove '..UptoSaid'. A law counts once. -/
mutual
def uptoBulk {H : Type} : DataW H → Nat
  | .lit (.string bytes) => bytes.length + 1
  | .lit _ => 1
  | .nil => 1
  | .ptr d => uptoBulk d + 1
  | .slice elems spare => uptoBulkAll elems + uptoBulkAll spare + 1
  | .agg parts => uptoBulkAll parts + 1
  | .iface _ d => uptoBulk d + 1
  | .map entries => uptoBulkEntries entries + 1
  | .held _ => 1
def uptoBulkAll {H : Type} : List (DataW H) → Nat
  | [] => 0
  | d :: r => uptoBulk d + uptoBulkAll r
def uptoBulkEntries {H : Type} : List (Lit × DataW H) → Nat
  | [] => 0
  | x :: r => uptoBulkEntry x + uptoBulkEntries r
def uptoBulkEntry {H : Type} : Lit × DataW H → Nat
  | (.string bytes, d) => bytes.length + uptoBulk d + 1
  | (_, d) => uptoBulk d + 1
 end
def uptoSmall : (H : Type) → List (DataW H) → Bool := fun _ ds => decide (uptoBulkAll ds ≤ 1048576)
def OpenSpec.upto (s : _root_.Go.ChangeSpec) : _root_.Go.OpenSpec := { _root_.Go.OpenSpec.ofChange s with cond := some uptoSmall }

/-- 'halberdlaw6.Chachas', WHERE WHAT IT READS IS OF BULK AT MOST 1048576: true; the input reads as it did. -/
def chachasUptoRow : OpenClaim := { program := "ytocckplgjbhlbaa", sum := "748a57d55642d15533cba748ef173d6b23b8e203d9d62e2d82c14f6b1ad62c61", func := "halberd/halberdlaw6.Chachas", spec := "chachas", apart := false, narrowed := true }
def ChachasUptoSaid : Prop := chachasUptoRow.holds Try.pinned (OpenSpec.upto chachasSpec)

/-- 'halberdlaw6.ChachaTwice', WHERE WHAT IT READS IS OF BULK AT MOST 1048576: true; the input reads as it did. -/
def chachaTwiceUptoRow : OpenClaim := { program := "ytocckplgjbhlbaa", sum := "748a57d55642d15533cba748ef173d6b23b8e203d9d62e2d82c14f6b1ad62c61", func := "halberd/halberdlaw6.ChachaTwice", spec := "chachaTwice", apart := false, narrowed := true }
def ChachaTwiceUptoSaid : Prop := chachaTwiceUptoRow.holds Try.pinned (OpenSpec.upto chachaTwiceSpec)

/-- 'halberdlaw6.ChachaBlocks', WHERE WHAT IT READS IS OF BULK AT MOST 1048576: true; the input reads as it did. -/
def chachaBlocksUptoRow : OpenClaim := { program := "ytocckplgjbhlbaa", sum := "748a57d55642d15533cba748ef173d6b23b8e203d9d62e2d82c14f6b1ad62c61", func := "halberd/halberdlaw6.ChachaBlocks", spec := "chachaBlocks", apart := false, narrowed := true }
def ChachaBlocksUptoSaid : Prop := chachaBlocksUptoRow.holds Try.pinned (OpenSpec.upto chachaBlocksSpec)

/-- 'halberdlaw6.ChachaForms', WHERE WHAT IT READS IS OF BULK AT MOST 1048576: true; the input reads as it did. -/
def chachaFormsUptoRow : OpenClaim := { program := "ytocckplgjbhlbaa", sum := "748a57d55642d15533cba748ef173d6b23b8e203d9d62e2d82c14f6b1ad62c61", func := "halberd/halberdlaw6.ChachaForms", spec := "chachaForms", apart := false, narrowed := true }
def ChachaFormsUptoSaid : Prop := chachaFormsUptoRow.holds Try.pinned (OpenSpec.upto chachaFormsSpec)

/-- 'halberdlaw7.Polys', WHERE WHAT IT READS IS OF BULK AT MOST 1048576: true; the input reads as it did. -/
def polysUptoRow : OpenClaim := { program := "ytocckplgjbhlbaa", sum := "748a57d55642d15533cba748ef173d6b23b8e203d9d62e2d82c14f6b1ad62c61", func := "halberd/halberdlaw7.Polys", spec := "polys", apart := false, narrowed := true }
def PolysUptoSaid : Prop := polysUptoRow.holds Try.pinned (OpenSpec.upto polysSpec)

/-- 'halberdlaw7.PolyEnds', WHERE WHAT IT READS IS OF BULK AT MOST 1048576: true; the input reads as it did. -/
def polyEndsUptoRow : OpenClaim := { program := "ytocckplgjbhlbaa", sum := "748a57d55642d15533cba748ef173d6b23b8e203d9d62e2d82c14f6b1ad62c61", func := "halberd/halberdlaw7.PolyEnds", spec := "polyEnds", apart := false, narrowed := true }
def PolyEndsUptoSaid : Prop := polyEndsUptoRow.holds Try.pinned (OpenSpec.upto polyEndsSpec)

/-- 'halberdlaw7.PolyBack', WHERE WHAT IT READS IS OF BULK AT MOST 1048576: true; the input reads as it did. -/
def polyBackUptoRow : OpenClaim := { program := "ytocckplgjbhlbaa", sum := "748a57d55642d15533cba748ef173d6b23b8e203d9d62e2d82c14f6b1ad62c61", func := "halberd/halberdlaw7.PolyBack", spec := "polyBack", apart := false, narrowed := true }
def PolyBackUptoSaid : Prop := polyBackUptoRow.holds Try.pinned (OpenSpec.upto polyBackSpec)

/-- 'halberdlaw7.PolyKnown', WHERE WHAT IT READS IS OF BULK AT MOST 1048576: true; the input reads as it did. -/
def polyKnownUptoRow : OpenClaim := { program := "ytocckplgjbhlbaa", sum := "748a57d55642d15533cba748ef173d6b23b8e203d9d62e2d82c14f6b1ad62c61", func := "halberd/halberdlaw7.PolyKnown", spec := "polyKnown", apart := false, narrowed := true }
def PolyKnownUptoSaid : Prop := polyKnownUptoRow.holds Try.pinned (OpenSpec.upto polyKnownSpec)

/-- 'halberdlaw7.PolyParts', WHERE WHAT IT READS IS OF BULK AT MOST 1048576: true; the input reads as it did. -/
def polyPartsUptoRow : OpenClaim := { program := "ytocckplgjbhlbaa", sum := "748a57d55642d15533cba748ef173d6b23b8e203d9d62e2d82c14f6b1ad62c61", func := "halberd/halberdlaw7.PolyParts", spec := "polyParts", apart := false, narrowed := true }
def PolyPartsUptoSaid : Prop := polyPartsUptoRow.holds Try.pinned (OpenSpec.upto polyPartsSpec)

end Rows
end Go.Proofs.Ytocckplgjbhlbaa
