-- Written by ext (this session's own program): what is asked of the law plinthlaw25_TreeProves.
import Derived.Test.YtbmmddngadnofaaFx25
namespace Go.Proofs.Ytbmmddngadnofaa.F
open Go.RowKit
def plinthlaw25_TreeProves.Pure : Prop := ∀ (x0 : S24) (x1 : Int) (x2 : Int) (x3 : Int) (x4 : Int) (x5 : S27), ((x0.f0.length ≤ maxLen ∧ x0.f0.length * 24 ≤ 140737488351232 ∧ ∀ x0_ ∈ x0.f0, (x0_.length ≤ maxLen ∧ x0_.length * 4 ≤ 140737488351232 ∧ ∀ x1_ ∈ x0_, (Lit.int .u32 x1_).wf = true))) → (Lit.int .i64 x1).wf = true → (Lit.int .u32 x2).wf = true → (Lit.int .i64 x3).wf = true → (Lit.int .u32 x4).wf = true → ((Lit.int .i64 x5.f0).wf = true ∧ (x5.f1.length ≤ maxLen ∧ x5.f1.length * 24 ≤ 140737488351232 ∧ ∀ x0_ ∈ x5.f1, (x0_.length ≤ maxLen ∧ x0_.length * 4 ≤ 140737488351232 ∧ ∀ x1_ ∈ x0_, (Lit.int .u32 x1_).wf = true))) → ∃ k, plinthlaw25_TreeProves.f k x0.f0 x1 x2 x3 x4 x5.f0 x5.f1 = some true
end Go.Proofs.Ytbmmddngadnofaa.F
