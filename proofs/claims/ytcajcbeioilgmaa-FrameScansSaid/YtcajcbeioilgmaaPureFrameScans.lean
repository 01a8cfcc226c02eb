/- FrameScans: all frames from the beginning of any bytes on (at most 16,384 are looked at): program and reference answer alike. No condition. -/
import Derived.Test.YtcajcbeioilgmaaFrameScan
import Derived.Test.YtcajcbeioilgmaaFx30
namespace Go.Proofs.Ytcajcbeioilgmaa.Pure
open Go.RowKit Go.Proofs.Ytcajcbeioilgmaa.F Go.Proofs.Ytcajcbeioilgmaa.Frame Go.Proofs.Ytcajcbeioilgmaa.Octets Go.Proofs.Ytcajcbeioilgmaa.Bytes Go.Proofs.YtcajcbeioilgmaaW.PrintWords Go.Proofs.YtcajcbeioilgmaaW.PrintLast Go.Proofs.YtcajcbeioilgmaaW.PrintMore

theorem FrameScans : plinthlaw03_FrameScans.Pure := by
  intro l _ _ hl
  obtain ⟨c, h0, hc, e0⟩ := cut_some l
  have bc : isByte c := by rw [e0]; exact isByte_take _ (isByte_of hl)
  have hL := all_length c
  refine Ev.rounds (g := fun k => plinthlaw03_FrameScans.f k l) ?_
  unfold plinthlaw03_FrameScans.f
  simp only [h0, Option.bind_some]
  refine Ev.bind (Scan_ c bc (by omega)) ?_
  refine Ev.bind (ref_Scan c bc (by omega)) ?_
  refine Ev.bind (same_all _ (by omega)) ?_
  simp only [if_true]
  exact Ev.bind awake (Ev.now _)
end Go.Proofs.Ytcajcbeioilgmaa.Pure
