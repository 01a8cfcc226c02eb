/- BlockFits: which requests fit which shapes: program and reference answer alike. No condition. -/
import Derived.Test.YtogjpilkgghidaaBlockAwake
import Derived.Test.YtogjpilkgghidaaAskBlockFits
namespace Go.Proofs.Ytogjpilkgghidaa.Pure
open Go.RowKit Go.Proofs.Ytogjpilkgghidaa.F Go.Proofs.Ytogjpilkgghidaa.Block Go.Proofs.YtogjpilkgghidaaW.PrintWords Go.Proofs.YtogjpilkgghidaaW.PrintLast Go.Proofs.YtogjpilkgghidaaW.PrintMore

theorem BlockFits : plinthlaw04_BlockFits.Pure := by
  rintro ⟨B, S⟩ ⟨kind, at_, n, data, old⟩ _ ⟨_, _, _, ⟨_, hd, _⟩, ⟨_, ho, _⟩⟩
  dsimp only at *
  refine Ev.rounds (g := fun k => plinthlaw04_BlockFits.f k B S kind at_ n data old) ?_
  unfold plinthlaw04_BlockFits.f
  refine Ev.bind (Fit_ B S kind at_ n data old) ?_
  refine Ev.bind (ref_Fit B S kind at_ n data old (by omega) (by omega)) ?_
  simp only [if_true]
  refine Ev.bind awake ?_
  exact Ev.now _
end Go.Proofs.Ytogjpilkgghidaa.Pure
