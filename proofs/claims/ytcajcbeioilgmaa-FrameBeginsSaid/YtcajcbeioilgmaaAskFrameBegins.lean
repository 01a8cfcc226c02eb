-- Written by ext (this session's own program): what is asked of the law plinthlaw03_FrameBegins.
import Derived.Test.YtcajcbeioilgmaaFx32
namespace Go.Proofs.Ytcajcbeioilgmaa.F
open Go.RowKit
def plinthlaw03_FrameBegins.Pure : Prop := ∀ (x0 : List (S26)) (x1 : Int), (x0.length ≤ maxLen ∧ x0.length * 40 ≤ 140737488351232 ∧ ∀ x0_ ∈ x0, ((Lit.int .u8 x0_.f0).wf = true ∧ (Lit.int .u64 x0_.f1).wf = true ∧ (x0_.f2.length ≤ maxLen ∧ x0_.f2.length * 1 ≤ 140737488351232 ∧ ∀ x1_ ∈ x0_.f2, (Lit.int .u8 x1_).wf = true))) → (Lit.int .u16 x1).wf = true → ∃ k, plinthlaw03_FrameBegins.f k x0 x1 = some true
end Go.Proofs.Ytcajcbeioilgmaa.F
