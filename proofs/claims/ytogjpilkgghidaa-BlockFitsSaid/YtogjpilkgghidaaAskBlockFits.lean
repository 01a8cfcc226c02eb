-- Written by ext (this session's own program): what is asked of the law plinthlaw04_BlockFits.
import Derived.Test.YtogjpilkgghidaaFx15
namespace Go.Proofs.Ytogjpilkgghidaa.F
open Go.RowKit
def plinthlaw04_BlockFits.Pure : Prop := ∀ (x0 : S23) (x1 : S27), ((Lit.int .i64 x0.f0).wf = true ∧ (Lit.int .i64 x0.f1).wf = true) → ((Lit.int .u8 x1.f0).wf = true ∧ (Lit.int .i64 x1.f1).wf = true ∧ (Lit.int .i64 x1.f2).wf = true ∧ (x1.f3.length ≤ maxLen ∧ x1.f3.length * 1 ≤ 140737488351232 ∧ ∀ x0_ ∈ x1.f3, (Lit.int .u8 x0_).wf = true) ∧ (x1.f4.length ≤ maxLen ∧ x1.f4.length * 1 ≤ 140737488351232 ∧ ∀ x0_ ∈ x1.f4, (Lit.int .u8 x0_).wf = true)) → ∃ k, plinthlaw04_BlockFits.f k x0.f0 x0.f1 x1.f0 x1.f1 x1.f2 x1.f3 x1.f4 = some true
end Go.Proofs.Ytogjpilkgghidaa.F
