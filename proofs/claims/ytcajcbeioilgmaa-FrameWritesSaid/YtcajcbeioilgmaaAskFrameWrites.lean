-- Written by ext (this session's own program): what is asked of the law plinthlaw03_FrameWrites.
import Derived.Test.YtcajcbeioilgmaaFx22
namespace Go.Proofs.Ytcajcbeioilgmaa.F
open Go.RowKit
def plinthlaw03_FrameWrites.Pure : Prop := ∀ (x0 : S26) (x1 : S26), ((Lit.int .u8 x0.f0).wf = true ∧ (Lit.int .u64 x0.f1).wf = true ∧ (x0.f2.length ≤ maxLen ∧ x0.f2.length * 1 ≤ 140737488351232 ∧ ∀ x0_ ∈ x0.f2, (Lit.int .u8 x0_).wf = true)) → ((Lit.int .u8 x1.f0).wf = true ∧ (Lit.int .u64 x1.f1).wf = true ∧ (x1.f2.length ≤ maxLen ∧ x1.f2.length * 1 ≤ 140737488351232 ∧ ∀ x0_ ∈ x1.f2, (Lit.int .u8 x0_).wf = true)) → ∃ k, plinthlaw03_FrameWrites.f k x0.f0 x0.f1 x0.f2 x1.f0 x1.f1 x1.f2 = some true
end Go.Proofs.Ytcajcbeioilgmaa.F
