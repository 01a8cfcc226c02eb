/-
  No cell of these rows narrows 'for every input' (looked for: loops, veiled, ifaces, maps, wideKeys, modest, calm, conditions, laid).
  DERIVED. THE GIVEN ROWS OF THIS SEAT. 6 by the template 'for every input the law returns true; each argument reads behind the call as it read before'; 0 by the template 'total and deterministic' (their statements: YtogjpilkgghidaaTotals.lean).
  GIVEN WITH THE SEED: the statements are not yours to turn. If you find one false, say at which input.
  Laid BY PROGRAM, IN A SANDBOX (cutbox-rows.mjs): the forced cells as the released guide's own fill.sh prints them over the translation 08507b8306358cd0… (all of the seat's roots in one cut). By AI agents, Wed Nov 11 2026. No macro, syntax, notation, axiom, sorry.
-/
import Derived.Test.YtogjpilkgghidaaChecked
import GoSem.Claim
import GoSem.ClaimJoined
import GoSem.ClaimMapViews
import Derived.JoinedTies
import Derived.KernelRfl
namespace Go.Proofs.Ytogjpilkgghidaa
/- THE CELL 'sum', in the pinned program and in every row, IS THE sha256 OF THE DUMP (.gsa) THAT YtogjpilkgghidaaProg.lean LOADS. Nothing in Lean hashes anything: it is a label: what it is worth is what the hold of that sum in a sandbox is worth. -/
noncomputable def Try.pinned : Pinned := { name := "ytogjpilkgghidaa", sum := "08507b8306358cd0b4d9e33560b017fc0ec667f95f8c926677c0ad9368a4f219", checked := Try.checked }
namespace Rows
def none {H : Type} : Left H := { results := [], args := [] }

/-- 'plinthlaw04.BlockFits': WHATEVER THE INPUT: true; the input reads as it did. -/
def blockFitsSpec : ChangeSpec := { name := "blockFits", fn := fun _ => fun
  | [d1, d2] => { results := [.lit (.bool true)], args := [d1, d2] }
  | _ => none }
def blockFitsRow : OpenClaim := { program := "ytogjpilkgghidaa", sum := "08507b8306358cd0b4d9e33560b017fc0ec667f95f8c926677c0ad9368a4f219", func := "plinth/plinthlaw04.BlockFits", spec := "blockFits", apart := false }
def BlockFitsSaid : Prop := blockFitsRow.holds Try.pinned (OpenSpec.ofChange blockFitsSpec)

/-- ITS FALSE NEIGHBOUR: 'it returns false'. Refute it at one input. -/
def blockFitsWrong : ChangeSpec := { name := "blockFits", fn := fun _ => fun
  | [d1, d2] => { results := [.lit (.bool false)], args := [d1, d2] }
  | _ => none }
def BlockFitsWrongFalsely : Prop := blockFitsRow.holds Try.pinned (OpenSpec.ofChange blockFitsWrong)

/-- 'plinthlaw04.BlockOps': WHATEVER THE INPUT: true; the input reads as it did. -/
def blockOpsSpec : ChangeSpec := { name := "blockOps", fn := fun _ => fun
  | [d1, d2] => { results := [.lit (.bool true)], args := [d1, d2] }
  | _ => none }
def blockOpsRow : OpenClaim := { program := "ytogjpilkgghidaa", sum := "08507b8306358cd0b4d9e33560b017fc0ec667f95f8c926677c0ad9368a4f219", func := "plinth/plinthlaw04.BlockOps", spec := "blockOps", apart := false }
def BlockOpsSaid : Prop := blockOpsRow.holds Try.pinned (OpenSpec.ofChange blockOpsSpec)

/-- ITS FALSE NEIGHBOUR: 'it returns false'. Refute it at one input. -/
def blockOpsWrong : ChangeSpec := { name := "blockOps", fn := fun _ => fun
  | [d1, d2] => { results := [.lit (.bool false)], args := [d1, d2] }
  | _ => none }
def BlockOpsWrongFalsely : Prop := blockOpsRow.holds Try.pinned (OpenSpec.ofChange blockOpsWrong)

/-- 'plinthlaw04.BlockForms': WHATEVER THE INPUT: true; the input reads as it did. -/
def blockFormsSpec : ChangeSpec := { name := "blockForms", fn := fun _ => fun
  | [d1, d2, d3, d4] => { results := [.lit (.bool true)], args := [d1, d2, d3, d4] }
  | _ => none }
def blockFormsRow : OpenClaim := { program := "ytogjpilkgghidaa", sum := "08507b8306358cd0b4d9e33560b017fc0ec667f95f8c926677c0ad9368a4f219", func := "plinth/plinthlaw04.BlockForms", spec := "blockForms", apart := false }
def BlockFormsSaid : Prop := blockFormsRow.holds Try.pinned (OpenSpec.ofChange blockFormsSpec)

/-- ITS FALSE NEIGHBOUR: 'it returns false'. Refute it at one input. -/
def blockFormsWrong : ChangeSpec := { name := "blockForms", fn := fun _ => fun
  | [d1, d2, d3, d4] => { results := [.lit (.bool false)], args := [d1, d2, d3, d4] }
  | _ => none }
def BlockFormsWrongFalsely : Prop := blockFormsRow.holds Try.pinned (OpenSpec.ofChange blockFormsWrong)

/-- 'plinthlaw04.BlockResults': WHATEVER THE INPUT: true; the input reads as it did. -/
def blockResultsSpec : ChangeSpec := { name := "blockResults", fn := fun _ => fun
  | [d1, d2] => { results := [.lit (.bool true)], args := [d1, d2] }
  | _ => none }
def blockResultsRow : OpenClaim := { program := "ytogjpilkgghidaa", sum := "08507b8306358cd0b4d9e33560b017fc0ec667f95f8c926677c0ad9368a4f219", func := "plinth/plinthlaw04.BlockResults", spec := "blockResults", apart := false }
def BlockResultsSaid : Prop := blockResultsRow.holds Try.pinned (OpenSpec.ofChange blockResultsSpec)

/-- ITS FALSE NEIGHBOUR: 'it returns false'. Refute it at one input. -/
def blockResultsWrong : ChangeSpec := { name := "blockResults", fn := fun _ => fun
  | [d1, d2] => { results := [.lit (.bool false)], args := [d1, d2] }
  | _ => none }
def BlockResultsWrongFalsely : Prop := blockResultsRow.holds Try.pinned (OpenSpec.ofChange blockResultsWrong)

/-- 'plinthlaw04.BlockBack': WHATEVER THE INPUT: true; the input reads as it did. -/
def blockBackSpec : ChangeSpec := { name := "blockBack", fn := fun _ => fun
  | [d1, d2, d3] => { results := [.lit (.bool true)], args := [d1, d2, d3] }
  | _ => none }
def blockBackRow : OpenClaim := { program := "ytogjpilkgghidaa", sum := "08507b8306358cd0b4d9e33560b017fc0ec667f95f8c926677c0ad9368a4f219", func := "plinth/plinthlaw04.BlockBack", spec := "blockBack", apart := false }
def BlockBackSaid : Prop := blockBackRow.holds Try.pinned (OpenSpec.ofChange blockBackSpec)

/-- ITS FALSE NEIGHBOUR: 'it returns false'. Refute it at one input. -/
def blockBackWrong : ChangeSpec := { name := "blockBack", fn := fun _ => fun
  | [d1, d2, d3] => { results := [.lit (.bool false)], args := [d1, d2, d3] }
  | _ => none }
def BlockBackWrongFalsely : Prop := blockBackRow.holds Try.pinned (OpenSpec.ofChange blockBackWrong)

/-- 'plinthlaw04.BlockOnly': WHATEVER THE INPUT: true; the input reads as it did. -/
def blockOnlySpec : ChangeSpec := { name := "blockOnly", fn := fun _ => fun
  | [d] => { results := [.lit (.bool true)], args := [d] }
  | _ => none }
def blockOnlyRow : OpenClaim := { program := "ytogjpilkgghidaa", sum := "08507b8306358cd0b4d9e33560b017fc0ec667f95f8c926677c0ad9368a4f219", func := "plinth/plinthlaw04.BlockOnly", spec := "blockOnly", apart := false }
def BlockOnlySaid : Prop := blockOnlyRow.holds Try.pinned (OpenSpec.ofChange blockOnlySpec)

/-- ITS FALSE NEIGHBOUR: 'it returns false'. Refute it at one input. -/
def blockOnlyWrong : ChangeSpec := { name := "blockOnly", fn := fun _ => fun
  | [d] => { results := [.lit (.bool false)], args := [d] }
  | _ => none }
def BlockOnlyWrongFalsely : Prop := blockOnlyRow.holds Try.pinned (OpenSpec.ofChange blockOnlyWrong)

/- THE SECOND FORM. 'bulk': how many values and letters a reading holds, each counted each time it is reached (what is shared counts as often as it is met; a slice's spare places count too). A statement '..UptoSaid' is the law's where the arguments, and the package variables that the reading takes, are together of bulk at most 1048576: NARROWER than '..Said'. Prove '..Said' where nothing that the law and all that it calls make is longer than what came in: it says more and counts as full. Else prove '..UptoSaid'. A law counts once. -/
mutual
def uptoBulk {H : Type} : DataW H → Nat
  | .lit (.string bytes) => bytes.length + 1
  | .lit _ => 1
  | .nil => 1
  | .ptr d => uptoBulk d + 1
  | .slice elems spare => uptoBulkAll elems + uptoBulkAll spare + 1
  | .agg parts => uptoBulkAll parts + 1
  | .iface _ d => uptoBulk d + 1
  | .map entries => uptoBulkEntries entries + 1
  | .held _ => 1
def uptoBulkAll {H : Type} : List (DataW H) → Nat
  | [] => 0
  | d :: r => uptoBulk d + uptoBulkAll r
def uptoBulkEntries {H : Type} : List (Lit × DataW H) → Nat
  | [] => 0
  | x :: r => uptoBulkEntry x + uptoBulkEntries r
def uptoBulkEntry {H : Type} : Lit × DataW H → Nat
  | (.string bytes, d) => bytes.length + uptoBulk d + 1
  | (_, d) => uptoBulk d + 1
 end
def uptoSmall : (H : Type) → List (DataW H) → Bool := fun _ ds => decide (uptoBulkAll ds ≤ 1048576)
def OpenSpec.upto (s : _root_.Go.ChangeSpec) : _root_.Go.OpenSpec := { _root_.Go.OpenSpec.ofChange s with cond := some uptoSmall }

/-- 'plinthlaw04.BlockFits', WHERE WHAT IT READS IS OF BULK AT MOST 1048576: true; the input reads as it did. -/
def blockFitsUptoRow : OpenClaim := { program := "ytogjpilkgghidaa", sum := "08507b8306358cd0b4d9e33560b017fc0ec667f95f8c926677c0ad9368a4f219", func := "plinth/plinthlaw04.BlockFits", spec := "blockFits", apart := false, narrowed := true }
def BlockFitsUptoSaid : Prop := blockFitsUptoRow.holds Try.pinned (OpenSpec.upto blockFitsSpec)

/-- 'plinthlaw04.BlockOps', WHERE WHAT IT READS IS OF BULK AT MOST 1048576: true; the input reads as it did. -/
def blockOpsUptoRow : OpenClaim := { program := "ytogjpilkgghidaa", sum := "08507b8306358cd0b4d9e33560b017fc0ec667f95f8c926677c0ad9368a4f219", func := "plinth/plinthlaw04.BlockOps", spec := "blockOps", apart := false, narrowed := true }
def BlockOpsUptoSaid : Prop := blockOpsUptoRow.holds Try.pinned (OpenSpec.upto blockOpsSpec)

/-- 'plinthlaw04.BlockForms', WHERE WHAT IT READS IS OF BULK AT MOST 1048576: true; the input reads as it did. -/
def blockFormsUptoRow : OpenClaim := { program := "ytogjpilkgghidaa", sum := "08507b8306358cd0b4d9e33560b017fc0ec667f95f8c926677c0ad9368a4f219", func := "plinth/plinthlaw04.BlockForms", spec := "blockForms", apart := false, narrowed := true }
def BlockFormsUptoSaid : Prop := blockFormsUptoRow.holds Try.pinned (OpenSpec.upto blockFormsSpec)

/-- 'plinthlaw04.BlockResults', WHERE WHAT IT READS IS OF BULK AT MOST 1048576: true; the input reads as it did. -/
def blockResultsUptoRow : OpenClaim := { program := "ytogjpilkgghidaa", sum := "08507b8306358cd0b4d9e33560b017fc0ec667f95f8c926677c0ad9368a4f219", func := "plinth/plinthlaw04.BlockResults", spec := "blockResults", apart := false, narrowed := true }
def BlockResultsUptoSaid : Prop := blockResultsUptoRow.holds Try.pinned (OpenSpec.upto blockResultsSpec)

/-- 'plinthlaw04.BlockBack', WHERE WHAT IT READS IS OF BULK AT MOST 1048576: true; the input reads as it did. -/
def blockBackUptoRow : OpenClaim := { program := "ytogjpilkgghidaa", sum := "08507b8306358cd0b4d9e33560b017fc0ec667f95f8c926677c0ad9368a4f219", func := "plinth/plinthlaw04.BlockBack", spec := "blockBack", apart := false, narrowed := true }
def BlockBackUptoSaid : Prop := blockBackUptoRow.holds Try.pinned (OpenSpec.upto blockBackSpec)

/-- 'plinthlaw04.BlockOnly', WHERE WHAT IT READS IS OF BULK AT MOST 1048576: true; the input reads as it did. -/
def blockOnlyUptoRow : OpenClaim := { program := "ytogjpilkgghidaa", sum := "08507b8306358cd0b4d9e33560b017fc0ec667f95f8c926677c0ad9368a4f219", func := "plinth/plinthlaw04.BlockOnly", spec := "blockOnly", apart := false, narrowed := true }
def BlockOnlyUptoSaid : Prop := blockOnlyUptoRow.holds Try.pinned (OpenSpec.upto blockOnlySpec)

end Rows
end Go.Proofs.Ytogjpilkgghidaa
