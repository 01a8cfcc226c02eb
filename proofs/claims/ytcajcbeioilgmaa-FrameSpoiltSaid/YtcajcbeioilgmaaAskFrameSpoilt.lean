-- Written by ext (this session's own program): what is asked of the law plinthlaw03_FrameSpoilt.
import Derived.Test.YtcajcbeioilgmaaFx24
namespace Go.Proofs.Ytcajcbeioilgmaa.F
open Go.RowKit
def plinthlaw03_FrameSpoilt.Pure : Prop := ∀ (x0 : S26) (x1 : Int) (x2 : Int) (x3 : Int), ((Lit.int .u8 x0.f0).wf = true ∧ (Lit.int .u64 x0.f1).wf = true ∧ (x0.f2.length ≤ maxLen ∧ x0.f2.length * 1 ≤ 140737488351232 ∧ ∀ x0_ ∈ x0.f2, (Lit.int .u8 x0_).wf = true)) → (Lit.int .u16 x1).wf = true → (Lit.int .u8 x2).wf = true → (Lit.int .u8 x3).wf = true → ∃ k, plinthlaw03_FrameSpoilt.f k x0.f0 x0.f1 x0.f2 x1 x2 x3 = some true
end Go.Proofs.Ytcajcbeioilgmaa.F
