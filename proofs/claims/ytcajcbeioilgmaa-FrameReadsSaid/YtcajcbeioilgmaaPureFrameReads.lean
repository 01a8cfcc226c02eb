/- FrameReads: at any place of any bytes (at most 16,384 are looked at) program and reference tell the same frame, place and error. No condition. -/
import Derived.Test.YtcajcbeioilgmaaFrameWrite
import Derived.Test.YtcajcbeioilgmaaFrameRefRead
import Derived.Test.YtcajcbeioilgmaaFx16
namespace Go.Proofs.Ytcajcbeioilgmaa.Pure
open Go.RowKit Go.Proofs.Ytcajcbeioilgmaa.F Go.Proofs.Ytcajcbeioilgmaa.Frame Go.Proofs.Ytcajcbeioilgmaa.Bytes Go.Proofs.YtcajcbeioilgmaaW.PrintWords Go.Proofs.YtcajcbeioilgmaaW.PrintLast Go.Proofs.YtcajcbeioilgmaaW.PrintMore

theorem same_self (a b : Int) (l : List Int) : plinthref03_Same.f a b l a b l = some true := by
  unfold plinthref03_Same.f
  rw [if_pos rfl, if_pos rfl]
  simp
theorem FrameReads : plinthlaw03_FrameReads.Pure := by
  intro l0 a1 _ _ hb ha
  obtain ⟨c, h0, hc, he⟩ := cut_some l0
  have hbc : isByte c := by rw [he]; exact isByte_take _ (isByte_of hb)
  refine Ev.rounds (g := fun k => plinthlaw03_FrameReads.f k l0 a1) ?_
  unfold plinthlaw03_FrameReads.f
  simp only [h0, Option.bind_some]
  refine Ev.bind (Read_ c a1 hbc (by omega)) ?_
  refine Ev.bind (ref_Read c a1 hbc (by omega)) ?_
  simp only [same_self, Option.bind_some, if_true]
  refine Ev.bind awake ?_
  exact Ev.now _
end Go.Proofs.Ytcajcbeioilgmaa.Pure
