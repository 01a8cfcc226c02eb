-- Written by ext (this session's own program): what is asked of the law plinthlaw25_TreeMakes.
import Derived.Test.YtbmmddngadnofaaFx29b
namespace Go.Proofs.Ytbmmddngadnofaa.F
open Go.RowKit
def plinthlaw25_TreeMakes.Pure : Prop := ∀ (x0 : S39) (x1 : List (Int)), ((Lit.int .i64 x0.f0).wf = true ∧ (Lit.int .i64 x0.f1).wf = true ∧ (x0.f2.length ≤ maxLen ∧ x0.f2.length * 1 ≤ 140737488351232 ∧ ∀ x0_ ∈ x0.f2, (Lit.int .u8 x0_).wf = true)) → (x1.length ≤ maxLen ∧ x1.length * 4 ≤ 140737488351232 ∧ ∀ x0_ ∈ x1, (Lit.int .u32 x0_).wf = true) → ∃ k, plinthlaw25_TreeMakes.f k x0.f0 x0.f1 x0.f2 x1 = some true
end Go.Proofs.Ytbmmddngadnofaa.F
