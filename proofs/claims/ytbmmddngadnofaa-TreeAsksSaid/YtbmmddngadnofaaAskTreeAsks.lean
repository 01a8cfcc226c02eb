-- Written by ext (this session's own program): what is asked of the law plinthlaw25_TreeAsks.
import Derived.Test.YtbmmddngadnofaaFx35
namespace Go.Proofs.Ytbmmddngadnofaa.F
open Go.RowKit
def plinthlaw25_TreeAsks.Pure : Prop := ∀ (x0 : S24) (x1 : S24) (x2 : Int) (x3 : Int), ((x0.f0.length ≤ maxLen ∧ x0.f0.length * 24 ≤ 140737488351232 ∧ ∀ x0_ ∈ x0.f0, (x0_.length ≤ maxLen ∧ x0_.length * 4 ≤ 140737488351232 ∧ ∀ x1_ ∈ x0_, (Lit.int .u32 x1_).wf = true))) → ((x1.f0.length ≤ maxLen ∧ x1.f0.length * 24 ≤ 140737488351232 ∧ ∀ x0_ ∈ x1.f0, (x0_.length ≤ maxLen ∧ x0_.length * 4 ≤ 140737488351232 ∧ ∀ x1_ ∈ x0_, (Lit.int .u32 x1_).wf = true))) → (Lit.int .i64 x2).wf = true → (Lit.int .u32 x3).wf = true → ∃ k, plinthlaw25_TreeAsks.f k x0.f0 x1.f0 x2 x3 = some true
end Go.Proofs.Ytbmmddngadnofaa.F
