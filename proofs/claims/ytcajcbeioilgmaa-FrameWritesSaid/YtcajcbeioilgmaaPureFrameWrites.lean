/- FrameWrites: the bytes of any frame (at most 16,384 bytes of its body are looked at), and which two frames are the same: program and reference answer alike. No condition. -/
import Derived.Test.YtcajcbeioilgmaaPlain
import Derived.Test.YtcajcbeioilgmaaAskFrameWrites
namespace Go.Proofs.Ytcajcbeioilgmaa.Pure
open Go.RowKit Go.Proofs.Ytcajcbeioilgmaa.F Go.Proofs.Ytcajcbeioilgmaa.Frame Go.Proofs.Ytcajcbeioilgmaa.Bytes Go.Proofs.YtcajcbeioilgmaaW.PrintWords Go.Proofs.YtcajcbeioilgmaaW.PrintLast Go.Proofs.YtcajcbeioilgmaaW.PrintMore

theorem FrameWrites : plinthlaw03_FrameWrites.Pure := by
  rintro ⟨a0, a1, l⟩ ⟨b0, b1, m⟩ ⟨_, ha1, _, _, _⟩ _
  dsimp only at *
  obtain ⟨c, h0, hc, _⟩ := cut_some l
  obtain ⟨d, h1, hd, _⟩ := cut_some m
  have hs := bounds_u64 ha1
  obtain ⟨r, hr, hr'⟩ := same_same a0 a1 c b0 b1 d
  refine Ev.rounds (g := fun k => plinthlaw03_FrameWrites.f k a0 a1 l b0 b1 m) ?_
  unfold plinthlaw03_FrameWrites.f
  simp only [h0, h1, Option.bind_some, hr, hr', same_self, beq_self_eq_true, if_true]
  refine Ev.bind (Write_ a0 a1 c hs (by omega)) ?_
  refine Ev.bind (ref_Write a0 a1 c hs (by omega)) ?_
  simp only [if_true]
  refine Ev.bind awake ?_
  exact Ev.now _
end Go.Proofs.Ytcajcbeioilgmaa.Pure
