/-
  No cell of these rows narrows 'for every input' (looked for: loops, veiled, ifaces, maps, wideKeys, modest, calm, conditions, laid).
  DERIVED. THE GIVEN ROWS OF THIS SEAT. 9 by the template 'for every input the law returns true; each argument reads behind the call as it read before'; 0 by the template 'total and deterministic' (their statements: YtbmmddngadnofaaTotals.lean).
  GIVEN WITH THE SEED: the statements are not yours to turn. If you find one false, say at which input.
  Laid BY PROGRAM, IN A SANDBOX (cutbox-rows.mjs): the forced cells as the released guide's own fill.sh prints them over the translation 6ff0a10fc3cbfe56… (all of the seat's roots in one cut). By AI agents, Wed Nov 11 2026. No macro, syntax, notation, axiom, sorry.
-/
import Derived.Test.YtbmmddngadnofaaChecked
import GoSem.Claim
import GoSem.ClaimJoined
import GoSem.ClaimMapViews
import Derived.JoinedTies
import Derived.KernelRfl
namespace Go.Proofs.Ytbmmddngadnofaa
/- THE CELL 'sum', in the pinned program and in every row, IS THE sha256 OF THE DUMP (.gsa) THAT YtbmmddngadnofaaProg.lean LOADS. Nothing in Lean hashes anything: it is a label: what it is worth is what the hold of that sum in a sandbox is worth. -/
noncomputable def Try.pinned : Pinned := { name := "ytbmmddngadnofaa", sum := "6ff0a10fc3cbfe562897bea4ff88b54f56a552df011b95bbc354e50a110d76bc", checked := Try.checked }
namespace Rows
def none {H : Type} : Left H := { results := [], args := [] }

/-- 'plinthlaw25.TreeProves': WHATEVER THE INPUT: true; the input reads as it did. -/
def treeProvesSpec : ChangeSpec := { name := "treeProves", fn := fun _ => fun
  | [d1, d2, d3, d4, d5, d6] => { results := [.lit (.bool true)], args := [d1, d2, d3, d4, d5, d6] }
  | _ => none }
def treeProvesRow : OpenClaim := { program := "ytbmmddngadnofaa", sum := "6ff0a10fc3cbfe562897bea4ff88b54f56a552df011b95bbc354e50a110d76bc", func := "plinth/plinthlaw25.TreeProves", spec := "treeProves", unfollowed := true, recurses := true, apart := false }
def TreeProvesSaid : Prop := treeProvesRow.holds Try.pinned (OpenSpec.ofChange treeProvesSpec)

/-- ITS FALSE NEIGHBOUR: 'it returns false'. Refute it at one input. -/
def treeProvesWrong : ChangeSpec := { name := "treeProves", fn := fun _ => fun
  | [d1, d2, d3, d4, d5, d6] => { results := [.lit (.bool false)], args := [d1, d2, d3, d4, d5, d6] }
  | _ => none }
def TreeProvesWrongFalsely : Prop := treeProvesRow.holds Try.pinned (OpenSpec.ofChange treeProvesWrong)

/-- 'plinthlaw25.TreeMakes': WHATEVER THE INPUT: true; the input reads as it did. -/
def treeMakesSpec : ChangeSpec := { name := "treeMakes", fn := fun _ => fun
  | [d1, d2] => { results := [.lit (.bool true)], args := [d1, d2] }
  | _ => none }
def treeMakesRow : OpenClaim := { program := "ytbmmddngadnofaa", sum := "6ff0a10fc3cbfe562897bea4ff88b54f56a552df011b95bbc354e50a110d76bc", func := "plinth/plinthlaw25.TreeMakes", spec := "treeMakes", unfollowed := true, recurses := true, apart := false }
def TreeMakesSaid : Prop := treeMakesRow.holds Try.pinned (OpenSpec.ofChange treeMakesSpec)

/-- ITS FALSE NEIGHBOUR: 'it returns false'. Refute it at one input. -/
def treeMakesWrong : ChangeSpec := { name := "treeMakes", fn := fun _ => fun
  | [d1, d2] => { results := [.lit (.bool false)], args := [d1, d2] }
  | _ => none }
def TreeMakesWrongFalsely : Prop := treeMakesRow.holds Try.pinned (OpenSpec.ofChange treeMakesWrong)

/-- 'plinthlaw25.TreeProved': WHATEVER THE INPUT: true; the input reads as it did. -/
def treeProvedSpec : ChangeSpec := { name := "treeProved", fn := fun _ => fun
  | [d1, d2, d3] => { results := [.lit (.bool true)], args := [d1, d2, d3] }
  | _ => none }
def treeProvedRow : OpenClaim := { program := "ytbmmddngadnofaa", sum := "6ff0a10fc3cbfe562897bea4ff88b54f56a552df011b95bbc354e50a110d76bc", func := "plinth/plinthlaw25.TreeProved", spec := "treeProved", unfollowed := true, recurses := true, apart := false }
def TreeProvedSaid : Prop := treeProvedRow.holds Try.pinned (OpenSpec.ofChange treeProvedSpec)

/-- ITS FALSE NEIGHBOUR: 'it returns false'. Refute it at one input. -/
def treeProvedWrong : ChangeSpec := { name := "treeProved", fn := fun _ => fun
  | [d1, d2, d3] => { results := [.lit (.bool false)], args := [d1, d2, d3] }
  | _ => none }
def TreeProvedWrongFalsely : Prop := treeProvedRow.holds Try.pinned (OpenSpec.ofChange treeProvedWrong)

/-- 'plinthlaw25.TreeAsks': WHATEVER THE INPUT: true; the input reads as it did. -/
def treeAsksSpec : ChangeSpec := { name := "treeAsks", fn := fun _ => fun
  | [d1, d2, d3, d4] => { results := [.lit (.bool true)], args := [d1, d2, d3, d4] }
  | _ => none }
def treeAsksRow : OpenClaim := { program := "ytbmmddngadnofaa", sum := "6ff0a10fc3cbfe562897bea4ff88b54f56a552df011b95bbc354e50a110d76bc", func := "plinth/plinthlaw25.TreeAsks", spec := "treeAsks", unfollowed := true, recurses := true, apart := false }
def TreeAsksSaid : Prop := treeAsksRow.holds Try.pinned (OpenSpec.ofChange treeAsksSpec)

/-- ITS FALSE NEIGHBOUR: 'it returns false'. Refute it at one input. -/
def treeAsksWrong : ChangeSpec := { name := "treeAsks", fn := fun _ => fun
  | [d1, d2, d3, d4] => { results := [.lit (.bool false)], args := [d1, d2, d3, d4] }
  | _ => none }
def TreeAsksWrongFalsely : Prop := treeAsksRow.holds Try.pinned (OpenSpec.ofChange treeAsksWrong)

/-- 'plinthlaw25.TreeDiffs': WHATEVER THE INPUT: true; the input reads as it did. -/
def treeDiffsSpec : ChangeSpec := { name := "treeDiffs", fn := fun _ => fun
  | [d1, d2] => { results := [.lit (.bool true)], args := [d1, d2] }
  | _ => none }
def treeDiffsRow : OpenClaim := { program := "ytbmmddngadnofaa", sum := "6ff0a10fc3cbfe562897bea4ff88b54f56a552df011b95bbc354e50a110d76bc", func := "plinth/plinthlaw25.TreeDiffs", spec := "treeDiffs", unfollowed := true, recurses := true, apart := false }
def TreeDiffsSaid : Prop := treeDiffsRow.holds Try.pinned (OpenSpec.ofChange treeDiffsSpec)

/-- ITS FALSE NEIGHBOUR: 'it returns false'. Refute it at one input. -/
def treeDiffsWrong : ChangeSpec := { name := "treeDiffs", fn := fun _ => fun
  | [d1, d2] => { results := [.lit (.bool false)], args := [d1, d2] }
  | _ => none }
def TreeDiffsWrongFalsely : Prop := treeDiffsRow.holds Try.pinned (OpenSpec.ofChange treeDiffsWrong)

/-- 'plinthlaw25.TreeFew': WHATEVER THE INPUT: true; the input reads as it did. -/
def treeFewSpec : ChangeSpec := { name := "treeFew", fn := fun _ => fun
  | [d1, d2, d3] => { results := [.lit (.bool true)], args := [d1, d2, d3] }
  | _ => none }
def treeFewRow : OpenClaim := { program := "ytbmmddngadnofaa", sum := "6ff0a10fc3cbfe562897bea4ff88b54f56a552df011b95bbc354e50a110d76bc", func := "plinth/plinthlaw25.TreeFew", spec := "treeFew", unfollowed := true, recurses := true, apart := false }
def TreeFewSaid : Prop := treeFewRow.holds Try.pinned (OpenSpec.ofChange treeFewSpec)

/-- ITS FALSE NEIGHBOUR: 'it returns false'. Refute it at one input. -/
def treeFewWrong : ChangeSpec := { name := "treeFew", fn := fun _ => fun
  | [d1, d2, d3] => { results := [.lit (.bool false)], args := [d1, d2, d3] }
  | _ => none }
def TreeFewWrongFalsely : Prop := treeFewRow.holds Try.pinned (OpenSpec.ofChange treeFewWrong)

/-- 'plinthlaw25.TreeStates': WHATEVER THE INPUT: true; the input reads as it did. -/
def treeStatesSpec : ChangeSpec := { name := "treeStates", fn := fun _ => fun
  | [d] => { results := [.lit (.bool true)], args := [d] }
  | _ => none }
def treeStatesRow : OpenClaim := { program := "ytbmmddngadnofaa", sum := "6ff0a10fc3cbfe562897bea4ff88b54f56a552df011b95bbc354e50a110d76bc", func := "plinth/plinthlaw25.TreeStates", spec := "treeStates", unfollowed := true, recurses := true, apart := false }
def TreeStatesSaid : Prop := treeStatesRow.holds Try.pinned (OpenSpec.ofChange treeStatesSpec)

/-- ITS FALSE NEIGHBOUR: 'it returns false'. Refute it at one input. -/
def treeStatesWrong : ChangeSpec := { name := "treeStates", fn := fun _ => fun
  | [d] => { results := [.lit (.bool false)], args := [d] }
  | _ => none }
def TreeStatesWrongFalsely : Prop := treeStatesRow.holds Try.pinned (OpenSpec.ofChange treeStatesWrong)

/-- 'plinthlaw25.TreePuts': WHATEVER THE INPUT: true; the input reads as it did. -/
def treePutsSpec : ChangeSpec := { name := "treePuts", fn := fun _ => fun
  | [d1, d2, d3, d4] => { results := [.lit (.bool true)], args := [d1, d2, d3, d4] }
  | _ => none }
def treePutsRow : OpenClaim := { program := "ytbmmddngadnofaa", sum := "6ff0a10fc3cbfe562897bea4ff88b54f56a552df011b95bbc354e50a110d76bc", func := "plinth/plinthlaw25.TreePuts", spec := "treePuts", unfollowed := true, recurses := true, apart := false }
def TreePutsSaid : Prop := treePutsRow.holds Try.pinned (OpenSpec.ofChange treePutsSpec)

/-- ITS FALSE NEIGHBOUR: 'it returns false'. Refute it at one input. -/
def treePutsWrong : ChangeSpec := { name := "treePuts", fn := fun _ => fun
  | [d1, d2, d3, d4] => { results := [.lit (.bool false)], args := [d1, d2, d3, d4] }
  | _ => none }
def TreePutsWrongFalsely : Prop := treePutsRow.holds Try.pinned (OpenSpec.ofChange treePutsWrong)

/-- 'plinthlaw25.TreeOne': WHATEVER THE INPUT: true; the input reads as it did. -/
def treeOneSpec : ChangeSpec := { name := "treeOne", fn := fun _ => fun
  | [d1, d2, d3, d4] => { results := [.lit (.bool true)], args := [d1, d2, d3, d4] }
  | _ => none }
def treeOneRow : OpenClaim := { program := "ytbmmddngadnofaa", sum := "6ff0a10fc3cbfe562897bea4ff88b54f56a552df011b95bbc354e50a110d76bc", func := "plinth/plinthlaw25.TreeOne", spec := "treeOne", unfollowed := true, recurses := true, apart := false }
def TreeOneSaid : Prop := treeOneRow.holds Try.pinned (OpenSpec.ofChange treeOneSpec)

/-- ITS FALSE NEIGHBOUR: 'it returns false'. Refute it at one input. -/
def treeOneWrong : ChangeSpec := { name := "treeOne", fn := fun _ => fun
  | [d1, d2, d3, d4] => { results := [.lit (.bool false)], args := [d1, d2, d3, d4] }
  | _ => none }
def TreeOneWrongFalsely : Prop := treeOneRow.holds Try.pinned (OpenSpec.ofChange treeOneWrong)

/- THE SECOND FORM. 'bulk': how many values and letters a reading holds, each counted each time it is reached (what is shared counts as often as it is met; a slice's spare places count too). A statement '..UptoSaid' is the law's where the arguments, and the package variables that the reading takes, are together of bulk at most 1048576: NARROWER than '..Said'. Prove '..Said' where nothing that the law and all that it calls make is longer than what came in: it says more and counts as full. Else prove '..UptoSaid'. A law counts once. -/
mutual
def uptoBulk {H : Type} : DataW H → Nat
  | .lit (.string bytes) => bytes.length + 1
  | .lit _ => 1
  | .nil => 1
  | .ptr d => uptoBulk d + 1
  | .slice elems spare => uptoBulkAll elems + uptoBulkAll spare + 1
  | .agg parts => uptoBulkAll parts + 1
  | .iface _ d => uptoBulk d + 1
  | .map entries => uptoBulkEntries entries + 1
  | .held _ => 1
def uptoBulkAll {H : Type} : List (DataW H) → Nat
  | [] => 0
  | d :: r => uptoBulk d + uptoBulkAll r
def uptoBulkEntries {H : Type} : List (Lit × DataW H) → Nat
  | [] => 0
  | x :: r => uptoBulkEntry x + uptoBulkEntries r
def uptoBulkEntry {H : Type} : Lit × DataW H → Nat
  | (.string bytes, d) => bytes.length + uptoBulk d + 1
  | (_, d) => uptoBulk d + 1
 end
def uptoSmall : (H : Type) → List (DataW H) → Bool := fun _ ds => decide (uptoBulkAll ds ≤ 1048576)
def OpenSpec.upto (s : _root_.Go.ChangeSpec) : _root_.Go.OpenSpec := { _root_.Go.OpenSpec.ofChange s with cond := some uptoSmall }

/-- 'plinthlaw25.TreeProves', WHERE WHAT IT READS IS OF BULK AT MOST 1048576: true; the input reads as it did. -/
def treeProvesUptoRow : OpenClaim := { program := "ytbmmddngadnofaa", sum := "6ff0a10fc3cbfe562897bea4ff88b54f56a552df011b95bbc354e50a110d76bc", func := "plinth/plinthlaw25.TreeProves", spec := "treeProves", unfollowed := true, recurses := true, apart := false, narrowed := true }
def TreeProvesUptoSaid : Prop := treeProvesUptoRow.holds Try.pinned (OpenSpec.upto treeProvesSpec)

/-- 'plinthlaw25.TreeMakes', WHERE WHAT IT READS IS OF BULK AT MOST 1048576: true; the input reads as it did. -/
def treeMakesUptoRow : OpenClaim := { program := "ytbmmddngadnofaa", sum := "6ff0a10fc3cbfe562897bea4ff88b54f56a552df011b95bbc354e50a110d76bc", func := "plinth/plinthlaw25.TreeMakes", spec := "treeMakes", unfollowed := true, recurses := true, apart := false, narrowed := true }
def TreeMakesUptoSaid : Prop := treeMakesUptoRow.holds Try.pinned (OpenSpec.upto treeMakesSpec)

/-- 'plinthlaw25.TreeProved', WHERE WHAT IT READS IS OF BULK AT MOST 1048576: true; the input reads as it did. -/
def treeProvedUptoRow : OpenClaim := { program := "ytbmmddngadnofaa", sum := "6ff0a10fc3cbfe562897bea4ff88b54f56a552df011b95bbc354e50a110d76bc", func := "plinth/plinthlaw25.TreeProved", spec := "treeProved", unfollowed := true, recurses := true, apart := false, narrowed := true }
def TreeProvedUptoSaid : Prop := treeProvedUptoRow.holds Try.pinned (OpenSpec.upto treeProvedSpec)

/-- 'plinthlaw25.TreeAsks', WHERE WHAT IT READS IS OF BULK AT MOST 1048576: true; the input reads as it did. -/
def treeAsksUptoRow : OpenClaim := { program := "ytbmmddngadnofaa", sum := "6ff0a10fc3cbfe562897bea4ff88b54f56a552df011b95bbc354e50a110d76bc", func := "plinth/plinthlaw25.TreeAsks", spec := "treeAsks", unfollowed := true, recurses := true, apart := false, narrowed := true }
def TreeAsksUptoSaid : Prop := treeAsksUptoRow.holds Try.pinned (OpenSpec.upto treeAsksSpec)

/-- 'plinthlaw25.TreeDiffs', WHERE WHAT IT READS IS OF BULK AT MOST 1048576: true; the input reads as it did. -/
def treeDiffsUptoRow : OpenClaim := { program := "ytbmmddngadnofaa", sum := "6ff0a10fc3cbfe562897bea4ff88b54f56a552df011b95bbc354e50a110d76bc", func := "plinth/plinthlaw25.TreeDiffs", spec := "treeDiffs", unfollowed := true, recurses := true, apart := false, narrowed := true }
def TreeDiffsUptoSaid : Prop := treeDiffsUptoRow.holds Try.pinned (OpenSpec.upto treeDiffsSpec)

/-- 'plinthlaw25.TreeFew', WHERE WHAT IT READS IS OF BULK AT MOST 1048576: true; the input reads as it did. -/
def treeFewUptoRow : OpenClaim := { program := "ytbmmddngadnofaa", sum := "6ff0a10fc3cbfe562897bea4ff88b54f56a552df011b95bbc354e50a110d76bc", func := "plinth/plinthlaw25.TreeFew", spec := "treeFew", unfollowed := true, recurses := true, apart := false, narrowed := true }
def TreeFewUptoSaid : Prop := treeFewUptoRow.holds Try.pinned (OpenSpec.upto treeFewSpec)

/-- 'plinthlaw25.TreeStates', WHERE WHAT IT READS IS OF BULK AT MOST 1048576: true; the input reads as it did. -/
def treeStatesUptoRow : OpenClaim := { program := "ytbmmddngadnofaa", sum := "6ff0a10fc3cbfe562897bea4ff88b54f56a552df011b95bbc354e50a110d76bc", func := "plinth/plinthlaw25.TreeStates", spec := "treeStates", unfollowed := true, recurses := true, apart := false, narrowed := true }
def TreeStatesUptoSaid : Prop := treeStatesUptoRow.holds Try.pinned (OpenSpec.upto treeStatesSpec)

/-- 'plinthlaw25.TreePuts', WHERE WHAT IT READS IS OF BULK AT MOST 1048576: true; the input reads as it did. -/
def treePutsUptoRow : OpenClaim := { program := "ytbmmddngadnofaa", sum := "6ff0a10fc3cbfe562897bea4ff88b54f56a552df011b95bbc354e50a110d76bc", func := "plinth/plinthlaw25.TreePuts", spec := "treePuts", unfollowed := true, recurses := true, apart := false, narrowed := true }
def TreePutsUptoSaid : Prop := treePutsUptoRow.holds Try.pinned (OpenSpec.upto treePutsSpec)

/-- 'plinthlaw25.TreeOne', WHERE WHAT IT READS IS OF BULK AT MOST 1048576: true; the input reads as it did. -/
def treeOneUptoRow : OpenClaim := { program := "ytbmmddngadnofaa", sum := "6ff0a10fc3cbfe562897bea4ff88b54f56a552df011b95bbc354e50a110d76bc", func := "plinth/plinthlaw25.TreeOne", spec := "treeOne", unfollowed := true, recurses := true, apart := false, narrowed := true }
def TreeOneUptoSaid : Prop := treeOneUptoRow.holds Try.pinned (OpenSpec.upto treeOneSpec)

end Rows
end Go.Proofs.Ytbmmddngadnofaa
