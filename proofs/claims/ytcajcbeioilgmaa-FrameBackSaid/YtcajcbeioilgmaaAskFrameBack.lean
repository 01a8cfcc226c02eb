-- Written by ext (this session's own program): what is asked of the law plinthlaw03_FrameBack.
import Derived.Test.YtcajcbeioilgmaaFx23
namespace Go.Proofs.Ytcajcbeioilgmaa.F
open Go.RowKit
def plinthlaw03_FrameBack.Pure : Prop := ∀ (x0 : S26) (x1 : List (Int)) (x2 : List (Int)), ((Lit.int .u8 x0.f0).wf = true ∧ (Lit.int .u64 x0.f1).wf = true ∧ (x0.f2.length ≤ maxLen ∧ x0.f2.length * 1 ≤ 140737488351232 ∧ ∀ x0_ ∈ x0.f2, (Lit.int .u8 x0_).wf = true)) → (x1.length ≤ maxLen ∧ x1.length * 1 ≤ 140737488351232 ∧ ∀ x0_ ∈ x1, (Lit.int .u8 x0_).wf = true) → (x2.length ≤ maxLen ∧ x2.length * 1 ≤ 140737488351232 ∧ ∀ x0_ ∈ x2, (Lit.int .u8 x0_).wf = true) → ∃ k, plinthlaw03_FrameBack.f k x0.f0 x0.f1 x0.f2 x1 x2 = some true
end Go.Proofs.Ytcajcbeioilgmaa.F
