-- Written by ext (this session's own program): what is asked of the law plinthlaw04_BlockBack.
import Derived.Test.YtogjpilkgghidaaFx31
namespace Go.Proofs.Ytogjpilkgghidaa.F
open Go.RowKit
def plinthlaw04_BlockBack.Pure : Prop := ∀ (x0 : S27) (x1 : S41) (x2 : List (Int)), ((Lit.int .u8 x0.f0).wf = true ∧ (Lit.int .i64 x0.f1).wf = true ∧ (Lit.int .i64 x0.f2).wf = true ∧ (x0.f3.length ≤ maxLen ∧ x0.f3.length * 1 ≤ 140737488351232 ∧ ∀ x0_ ∈ x0.f3, (Lit.int .u8 x0_).wf = true) ∧ (x0.f4.length ≤ maxLen ∧ x0.f4.length * 1 ≤ 140737488351232 ∧ ∀ x0_ ∈ x0.f4, (Lit.int .u8 x0_).wf = true)) → ((Lit.int .u8 x1.f0).wf = true ∧ (x1.f1.length ≤ maxLen ∧ x1.f1.length * 1 ≤ 140737488351232 ∧ ∀ x0_ ∈ x1.f1, (Lit.int .u8 x0_).wf = true)) → (x2.length ≤ maxLen ∧ x2.length * 1 ≤ 140737488351232 ∧ ∀ x0_ ∈ x2, (Lit.int .u8 x0_).wf = true) → ∃ k, plinthlaw04_BlockBack.f k x0.f0 x0.f1 x0.f2 x0.f3 x0.f4 x1.f0 x1.f1 x2 = some true
end Go.Proofs.Ytogjpilkgghidaa.F
