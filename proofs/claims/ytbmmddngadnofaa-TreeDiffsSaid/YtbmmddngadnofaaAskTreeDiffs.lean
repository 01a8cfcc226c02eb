-- Written by ext (this session's own program): what is asked of the law plinthlaw25_TreeDiffs.
import Derived.Test.YtbmmddngadnofaaFx40
namespace Go.Proofs.Ytbmmddngadnofaa.F
open Go.RowKit
def plinthlaw25_TreeDiffs.Pure : Prop := ∀ (x0 : S24) (x1 : S24), ((x0.f0.length ≤ maxLen ∧ x0.f0.length * 24 ≤ 140737488351232 ∧ ∀ x0_ ∈ x0.f0, (x0_.length ≤ maxLen ∧ x0_.length * 4 ≤ 140737488351232 ∧ ∀ x1_ ∈ x0_, (Lit.int .u32 x1_).wf = true))) → ((x1.f0.length ≤ maxLen ∧ x1.f0.length * 24 ≤ 140737488351232 ∧ ∀ x0_ ∈ x1.f0, (x0_.length ≤ maxLen ∧ x0_.length * 4 ≤ 140737488351232 ∧ ∀ x1_ ∈ x0_, (Lit.int .u32 x1_).wf = true))) → ∃ k, plinthlaw25_TreeDiffs.f k x0.f0 x1.f0 = some true
end Go.Proofs.Ytbmmddngadnofaa.F
