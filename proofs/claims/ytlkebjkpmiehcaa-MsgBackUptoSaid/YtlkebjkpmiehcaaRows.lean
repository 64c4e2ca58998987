/-
  No cell of these rows narrows 'for every input' (looked for: loops, veiled, ifaces, maps, wideKeys, modest, calm, conditions, laid).
  DERIVED. THE GIVEN ROWS OF THIS SEAT. 9 by the template 'for every input the law returns true; each argument reads behind the call as it read before'; 0 by the template 'total and deterministic' (their statements: YtlkebjkpmiehcaaTotals.lean).
  GIVEN WITH THE SEED: the statements are not yours to turn. If you find one false, say at which input.
  Laid BY PROGRAM, IN A SANDBOX (cutbox-rows.mjs): the forced cells as the released guide's own fill.sh prints them over the translation c12b8172ebc258b1… (all of the seat's roots in one cut). By AI agents, Wed Nov 11 2026. No macro, syntax, notation, axiom, sorry.
-/
import Derived.Test.YtlkebjkpmiehcaaChecked
import GoSem.Claim
import GoSem.ClaimJoined
import GoSem.ClaimMapViews
import Derived.JoinedTies
import Derived.KernelRfl
namespace Go.Proofs.Ytlkebjkpmiehcaa
/- THE CELL 'sum', in the pinned program and in every row, IS THE sha256 OF THE DUMP (.gsa) THAT YtlkebjkpmiehcaaProg.lean LOADS. Nothing in Lean hashes anything: it is a label: what it is worth is what the hold of that sum in a sandbox is worth. -/
noncomputable def Try.pinned : Pinned := { name := "ytlkebjkpmiehcaa", sum := "c12b8172ebc258b111fc80d84128b61d8c00363bcd8ef2c8ce4c639e76d3e669", checked := Try.checked }
namespace Rows
def none {H : Type} : Left H := { results := [], args := [] }

/-- 'halberdlaw16.Exts': WHATEVER THE INPUT: true; the input reads as it did. -/
def extsSpec : ChangeSpec := { name := "exts", fn := fun _ => fun
  | [d1, d2] => { results := [.lit (.bool true)], args := [d1, d2] }
  | _ => none }
def extsRow : OpenClaim := { program := "ytlkebjkpmiehcaa", sum := "c12b8172ebc258b111fc80d84128b61d8c00363bcd8ef2c8ce4c639e76d3e669", func := "halberd/halberdlaw16.Exts", spec := "exts", apart := false }
def ExtsSaid : Prop := extsRow.holds Try.pinned (OpenSpec.ofChange extsSpec)

/-- ITS FALSE NEIGHBOUR: 'it returns false'. Refute it at one input. -/
def extsWrong : ChangeSpec := { name := "exts", fn := fun _ => fun
  | [d1, d2] => { results := [.lit (.bool false)], args := [d1, d2] }
  | _ => none }
def ExtsWrongFalsely : Prop := extsRow.holds Try.pinned (OpenSpec.ofChange extsWrong)

/-- 'halberdlaw16.ExtBack': WHATEVER THE INPUT: true; the input reads as it did. -/
def extBackSpec : ChangeSpec := { name := "extBack", fn := fun _ => fun
  | [d1, d2] => { results := [.lit (.bool true)], args := [d1, d2] }
  | _ => none }
def extBackRow : OpenClaim := { program := "ytlkebjkpmiehcaa", sum := "c12b8172ebc258b111fc80d84128b61d8c00363bcd8ef2c8ce4c639e76d3e669", func := "halberd/halberdlaw16.ExtBack", spec := "extBack", apart := false }
def ExtBackSaid : Prop := extBackRow.holds Try.pinned (OpenSpec.ofChange extBackSpec)

/-- ITS FALSE NEIGHBOUR: 'it returns false'. Refute it at one input. -/
def extBackWrong : ChangeSpec := { name := "extBack", fn := fun _ => fun
  | [d1, d2] => { results := [.lit (.bool false)], args := [d1, d2] }
  | _ => none }
def ExtBackWrongFalsely : Prop := extBackRow.holds Try.pinned (OpenSpec.ofChange extBackWrong)

/-- 'halberdlaw16.ExtForms': WHATEVER THE INPUT: true; the input reads as it did. -/
def extFormsSpec : ChangeSpec := { name := "extForms", fn := fun _ => fun
  | [d1, d2, d3] => { results := [.lit (.bool true)], args := [d1, d2, d3] }
  | _ => none }
def extFormsRow : OpenClaim := { program := "ytlkebjkpmiehcaa", sum := "c12b8172ebc258b111fc80d84128b61d8c00363bcd8ef2c8ce4c639e76d3e669", func := "halberd/halberdlaw16.ExtForms", spec := "extForms", apart := false }
def ExtFormsSaid : Prop := extFormsRow.holds Try.pinned (OpenSpec.ofChange extFormsSpec)

/-- ITS FALSE NEIGHBOUR: 'it returns false'. Refute it at one input. -/
def extFormsWrong : ChangeSpec := { name := "extForms", fn := fun _ => fun
  | [d1, d2, d3] => { results := [.lit (.bool false)], args := [d1, d2, d3] }
  | _ => none }
def ExtFormsWrongFalsely : Prop := extFormsRow.holds Try.pinned (OpenSpec.ofChange extFormsWrong)

/-- 'halberdlaw17.MsgBack': WHATEVER THE INPUT: true; the input reads as it did. -/
def msgBackSpec : ChangeSpec := { name := "msgBack", fn := fun _ => fun
  | [d1, d2, d3] => { results := [.lit (.bool true)], args := [d1, d2, d3] }
  | _ => none }
def msgBackRow : OpenClaim := { program := "ytlkebjkpmiehcaa", sum := "c12b8172ebc258b111fc80d84128b61d8c00363bcd8ef2c8ce4c639e76d3e669", func := "halberd/halberdlaw17.MsgBack", spec := "msgBack", unfollowed := true, recurses := true, apart := false }
def MsgBackSaid : Prop := msgBackRow.holds Try.pinned (OpenSpec.ofChange msgBackSpec)

/-- ITS FALSE NEIGHBOUR: 'it returns false'. Refute it at one input. -/
def msgBackWrong : ChangeSpec := { name := "msgBack", fn := fun _ => fun
  | [d1, d2, d3] => { results := [.lit (.bool false)], args := [d1, d2, d3] }
  | _ => none }
def MsgBackWrongFalsely : Prop := msgBackRow.holds Try.pinned (OpenSpec.ofChange msgBackWrong)

/-- 'halberdlaw17.MsgHellos': WHATEVER THE INPUT: true; the input reads as it did. -/
def msgHellosSpec : ChangeSpec := { name := "msgHellos", fn := fun _ => fun
  | [d1, d2] => { results := [.lit (.bool true)], args := [d1, d2] }
  | _ => none }
def msgHellosRow : OpenClaim := { program := "ytlkebjkpmiehcaa", sum := "c12b8172ebc258b111fc80d84128b61d8c00363bcd8ef2c8ce4c639e76d3e669", func := "halberd/halberdlaw17.MsgHellos", spec := "msgHellos", unfollowed := true, recurses := true, apart := false }
def MsgHellosSaid : Prop := msgHellosRow.holds Try.pinned (OpenSpec.ofChange msgHellosSpec)

/-- ITS FALSE NEIGHBOUR: 'it returns false'. Refute it at one input. -/
def msgHellosWrong : ChangeSpec := { name := "msgHellos", fn := fun _ => fun
  | [d1, d2] => { results := [.lit (.bool false)], args := [d1, d2] }
  | _ => none }
def MsgHellosWrongFalsely : Prop := msgHellosRow.holds Try.pinned (OpenSpec.ofChange msgHellosWrong)

/-- 'halberdlaw17.MsgOthers': WHATEVER THE INPUT: true; the input reads as it did. -/
def msgOthersSpec : ChangeSpec := { name := "msgOthers", fn := fun _ => fun
  | [d1, d2] => { results := [.lit (.bool true)], args := [d1, d2] }
  | _ => none }
def msgOthersRow : OpenClaim := { program := "ytlkebjkpmiehcaa", sum := "c12b8172ebc258b111fc80d84128b61d8c00363bcd8ef2c8ce4c639e76d3e669", func := "halberd/halberdlaw17.MsgOthers", spec := "msgOthers", unfollowed := true, recurses := true, apart := false }
def MsgOthersSaid : Prop := msgOthersRow.holds Try.pinned (OpenSpec.ofChange msgOthersSpec)

/-- ITS FALSE NEIGHBOUR: 'it returns false'. Refute it at one input. -/
def msgOthersWrong : ChangeSpec := { name := "msgOthers", fn := fun _ => fun
  | [d1, d2] => { results := [.lit (.bool false)], args := [d1, d2] }
  | _ => none }
def MsgOthersWrongFalsely : Prop := msgOthersRow.holds Try.pinned (OpenSpec.ofChange msgOthersWrong)

/-- 'halberdlaw17.MsgZeros': WHATEVER THE INPUT: true; the input reads as it did. -/
def msgZerosSpec : ChangeSpec := { name := "msgZeros", fn := fun _ => fun
  | [d1, d2] => { results := [.lit (.bool true)], args := [d1, d2] }
  | _ => none }
def msgZerosRow : OpenClaim := { program := "ytlkebjkpmiehcaa", sum := "c12b8172ebc258b111fc80d84128b61d8c00363bcd8ef2c8ce4c639e76d3e669", func := "halberd/halberdlaw17.MsgZeros", spec := "msgZeros", unfollowed := true, recurses := true, apart := false }
def MsgZerosSaid : Prop := msgZerosRow.holds Try.pinned (OpenSpec.ofChange msgZerosSpec)

/-- ITS FALSE NEIGHBOUR: 'it returns false'. Refute it at one input. -/
def msgZerosWrong : ChangeSpec := { name := "msgZeros", fn := fun _ => fun
  | [d1, d2] => { results := [.lit (.bool false)], args := [d1, d2] }
  | _ => none }
def MsgZerosWrongFalsely : Prop := msgZerosRow.holds Try.pinned (OpenSpec.ofChange msgZerosWrong)

/-- 'halberdlaw17.MsgLong': WHATEVER THE INPUT: true; the input reads as it did. -/
def msgLongSpec : ChangeSpec := { name := "msgLong", fn := fun _ => fun
  | [d] => { results := [.lit (.bool true)], args := [d] }
  | _ => none }
def msgLongRow : OpenClaim := { program := "ytlkebjkpmiehcaa", sum := "c12b8172ebc258b111fc80d84128b61d8c00363bcd8ef2c8ce4c639e76d3e669", func := "halberd/halberdlaw17.MsgLong", spec := "msgLong", unfollowed := true, recurses := true, apart := false }
def MsgLongSaid : Prop := msgLongRow.holds Try.pinned (OpenSpec.ofChange msgLongSpec)

/-- ITS FALSE NEIGHBOUR: 'it returns false'. Refute it at one input. -/
def msgLongWrong : ChangeSpec := { name := "msgLong", fn := fun _ => fun
  | [d] => { results := [.lit (.bool false)], args := [d] }
  | _ => none }
def MsgLongWrongFalsely : Prop := msgLongRow.holds Try.pinned (OpenSpec.ofChange msgLongWrong)

/-- 'halberdlaw17.MsgRetries': WHATEVER THE INPUT: true; the input reads as it did. -/
def msgRetriesSpec : ChangeSpec := { name := "msgRetries", fn := fun _ => fun
  | [d1, d2, d3] => { results := [.lit (.bool true)], args := [d1, d2, d3] }
  | _ => none }
def msgRetriesRow : OpenClaim := { program := "ytlkebjkpmiehcaa", sum := "c12b8172ebc258b111fc80d84128b61d8c00363bcd8ef2c8ce4c639e76d3e669", func := "halberd/halberdlaw17.MsgRetries", spec := "msgRetries", unfollowed := true, recurses := true, apart := false }
def MsgRetriesSaid : Prop := msgRetriesRow.holds Try.pinned (OpenSpec.ofChange msgRetriesSpec)

/-- ITS FALSE NEIGHBOUR: 'it returns false'. Refute it at one input. -/
def msgRetriesWrong : ChangeSpec := { name := "msgRetries", fn := fun _ => fun
  | [d1, d2, d3] => { results := [.lit (.bool false)], args := [d1, d2, d3] }
  | _ => none }
def MsgRetriesWrongFalsely : Prop := msgRetriesRow.holds Try.pinned (OpenSpec.ofChange msgRetriesWrong)

/- THE SECOND FORM. 'bulk': how many values and letters a reading holds, each counted each time it is reached (what is shared counts as often as it is met; a slice's spare places count too). A statement '..UptoSaid' is the law's where the arguments, and the package variables that the reading takes, are together of bulk at most 1048576: NARROWER than '..Said'. Prove '..Said' where nothing that the law and all that it calls make is longer than what came in: it says more and counts as full. Else prove '..UptoSaid'. A law counts once. -/
mutual
def uptoBulk {H : Type} : DataW H → Nat
  | .lit (.string bytes) => bytes.length + 1
  | .lit _ => 1
  | .nil => 1
  | .ptr d => uptoBulk d + 1
  | .slice elems spare => uptoBulkAll elems + uptoBulkAll spare + 1
  | .agg parts => uptoBulkAll parts + 1
  | .iface _ d => uptoBulk d + 1
  | .map entries => uptoBulkEntries entries + 1
  | .held _ => 1
def uptoBulkAll {H : Type} : List (DataW H) → Nat
  | [] => 0
  | d :: r => uptoBulk d + uptoBulkAll r
def uptoBulkEntries {H : Type} : List (Lit × DataW H) → Nat
  | [] => 0
  | x :: r => uptoBulkEntry x + uptoBulkEntries r
def uptoBulkEntry {H : Type} : Lit × DataW H → Nat
  | (.string bytes, d) => bytes.length + uptoBulk d + 1
  | (_, d) => uptoBulk d + 1
 end
def uptoSmall : (H : Type) → List (DataW H) → Bool := fun _ ds => decide (uptoBulkAll ds ≤ 1048576)
def OpenSpec.upto (s : _root_.Go.ChangeSpec) : _root_.Go.OpenSpec := { _root_.Go.OpenSpec.ofChange s with cond := some uptoSmall }

/-- 'halberdlaw16.Exts', WHERE WHAT IT READS IS OF BULK AT MOST 1048576: true; the input reads as it did. -/
def extsUptoRow : OpenClaim := { program := "ytlkebjkpmiehcaa", sum := "c12b8172ebc258b111fc80d84128b61d8c00363bcd8ef2c8ce4c639e76d3e669", func := "halberd/halberdlaw16.Exts", spec := "exts", apart := false, narrowed := true }
def ExtsUptoSaid : Prop := extsUptoRow.holds Try.pinned (OpenSpec.upto extsSpec)

/-- 'halberdlaw16.ExtBack', WHERE WHAT IT READS IS OF BULK AT MOST 1048576: true; the input reads as it did. -/
def extBackUptoRow : OpenClaim := { program := "ytlkebjkpmiehcaa", sum := "c12b8172ebc258b111fc80d84128b61d8c00363bcd8ef2c8ce4c639e76d3e669", func := "halberd/halberdlaw16.ExtBack", spec := "extBack", apart := false, narrowed := true }
def ExtBackUptoSaid : Prop := extBackUptoRow.holds Try.pinned (OpenSpec.upto extBackSpec)

/-- 'halberdlaw16.ExtForms', WHERE WHAT IT READS IS OF BULK AT MOST 1048576: true; the input reads as it did. -/
def extFormsUptoRow : OpenClaim := { program := "ytlkebjkpmiehcaa", sum := "c12b8172ebc258b111fc80d84128b61d8c00363bcd8ef2c8ce4c639e76d3e669", func := "halberd/halberdlaw16.ExtForms", spec := "extForms", apart := false, narrowed := true }
def ExtFormsUptoSaid : Prop := extFormsUptoRow.holds Try.pinned (OpenSpec.upto extFormsSpec)

/-- 'halberdlaw17.MsgBack', WHERE WHAT IT READS IS OF BULK AT MOST 1048576: true; the input reads as it did. -/
def msgBackUptoRow : OpenClaim := { program := "ytlkebjkpmiehcaa", sum := "c12b8172ebc258b111fc80d84128b61d8c00363bcd8ef2c8ce4c639e76d3e669", func := "halberd/halberdlaw17.MsgBack", spec := "msgBack", unfollowed := true, recurses := true, apart := false, narrowed := true }
def MsgBackUptoSaid : Prop := msgBackUptoRow.holds Try.pinned (OpenSpec.upto msgBackSpec)

/-- 'halberdlaw17.MsgHellos', WHERE WHAT IT READS IS OF BULK AT MOST 1048576: true; the input reads as it did. -/
def msgHellosUptoRow : OpenClaim := { program := "ytlkebjkpmiehcaa", sum := "c12b8172ebc258b111fc80d84128b61d8c00363bcd8ef2c8ce4c639e76d3e669", func := "halberd/halberdlaw17.MsgHellos", spec := "msgHellos", unfollowed := true, recurses := true, apart := false, narrowed := true }
def MsgHellosUptoSaid : Prop := msgHellosUptoRow.holds Try.pinned (OpenSpec.upto msgHellosSpec)

/-- 'halberdlaw17.MsgOthers', WHERE WHAT IT READS IS OF BULK AT MOST 1048576: true; the input reads as it did. -/
def msgOthersUptoRow : OpenClaim := { program := "ytlkebjkpmiehcaa", sum := "c12b8172ebc258b111fc80d84128b61d8c00363bcd8ef2c8ce4c639e76d3e669", func := "halberd/halberdlaw17.MsgOthers", spec := "msgOthers", unfollowed := true, recurses := true, apart := false, narrowed := true }
def MsgOthersUptoSaid : Prop := msgOthersUptoRow.holds Try.pinned (OpenSpec.upto msgOthersSpec)

/-- 'halberdlaw17.MsgZeros', WHERE WHAT IT READS IS OF BULK AT MOST 1048576: true; the input reads as it did. -/
def msgZerosUptoRow : OpenClaim := { program := "ytlkebjkpmiehcaa", sum := "c12b8172ebc258b111fc80d84128b61d8c00363bcd8ef2c8ce4c639e76d3e669", func := "halberd/halberdlaw17.MsgZeros", spec := "msgZeros", unfollowed := true, recurses := true, apart := false, narrowed := true }
def MsgZerosUptoSaid : Prop := msgZerosUptoRow.holds Try.pinned (OpenSpec.upto msgZerosSpec)

/-- 'halberdlaw17.MsgLong', WHERE WHAT IT READS IS OF BULK AT MOST 1048576: true; the input reads as it did. -/
def msgLongUptoRow : OpenClaim := { program := "ytlkebjkpmiehcaa", sum := "c12b8172ebc258b111fc80d84128b61d8c00363bcd8ef2c8ce4c639e76d3e669", func := "halberd/halberdlaw17.MsgLong", spec := "msgLong", unfollowed := true, recurses := true, apart := false, narrowed := true }
def MsgLongUptoSaid : Prop := msgLongUptoRow.holds Try.pinned (OpenSpec.upto msgLongSpec)

/-- 'halberdlaw17.MsgRetries', WHERE WHAT IT READS IS OF BULK AT MOST 1048576: true; the input reads as it did. -/
def msgRetriesUptoRow : OpenClaim := { program := "ytlkebjkpmiehcaa", sum := "c12b8172ebc258b111fc80d84128b61d8c00363bcd8ef2c8ce4c639e76d3e669", func := "halberd/halberdlaw17.MsgRetries", spec := "msgRetries", unfollowed := true, recurses := true, apart := false, narrowed := true }
def MsgRetriesUptoSaid : Prop := msgRetriesUptoRow.holds Try.pinned (OpenSpec.upto msgRetriesSpec)

end Rows
end Go.Proofs.Ytlkebjkpmiehcaa
