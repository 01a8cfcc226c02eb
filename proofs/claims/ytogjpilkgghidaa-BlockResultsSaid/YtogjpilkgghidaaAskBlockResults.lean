-- Written by ext (this session's own program): what is asked of the law plinthlaw04_BlockResults.
import Derived.Test.YtogjpilkgghidaaFx30
namespace Go.Proofs.Ytogjpilkgghidaa.F
open Go.RowKit
def plinthlaw04_BlockResults.Pure : Prop := ∀ (x0 : S41) (x1 : List (Int)), ((Lit.int .u8 x0.f0).wf = true ∧ (x0.f1.length ≤ maxLen ∧ x0.f1.length * 1 ≤ 140737488351232 ∧ ∀ x0_ ∈ x0.f1, (Lit.int .u8 x0_).wf = true)) → (x1.length ≤ maxLen ∧ x1.length * 1 ≤ 140737488351232 ∧ ∀ x0_ ∈ x1, (Lit.int .u8 x0_).wf = true) → ∃ k, plinthlaw04_BlockResults.f k x0.f0 x0.f1 x1 = some true
end Go.Proofs.Ytogjpilkgghidaa.F
