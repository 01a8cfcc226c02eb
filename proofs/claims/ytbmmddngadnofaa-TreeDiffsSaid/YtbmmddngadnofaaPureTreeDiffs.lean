/- TreeDiffs: of any two trees (those with more than 12 rows are cut, those with a row of more than 4,097 digests are the empty one) program and reference tell the same places, the same count of pairs, and the same error. No condition. -/
import Derived.Test.YtbmmddngadnofaaTreeDiff
import Derived.Test.YtbmmddngadnofaaFx40
import Derived.Test.YtbmmddngadnofaaAskTreeDiffs
namespace Go.Proofs.Ytbmmddngadnofaa.Pure
open Go.RowKit Go.Proofs.Ytbmmddngadnofaa.F Go.Proofs.Ytbmmddngadnofaa.Tree Go.Proofs.YtbmmddngadnofaaW.PrintWords Go.Proofs.YtbmmddngadnofaaW.PrintLast Go.Proofs.YtbmmddngadnofaaW.PrintMore

theorem TreeDiffs : plinthlaw25_TreeDiffs.Pure := by
  intro x0 x1 h0 h1
  have hs := cut_slim (l := x0.f0) (fun r hr => (h0.2.2 r hr).2.2)
  have hp := cut_slim (l := x1.f0) (fun r hr => (h1.2.2 r hr).2.2)
  refine Ev.rounds (g := fun k => plinthlaw25_TreeDiffs.f k x0.f0 x1.f0) ?_
  unfold plinthlaw25_TreeDiffs.f
  refine Ev.bind (cut_ x0.f0) ?_
  refine Ev.bind (cut_ x1.f0) ?_
  refine Ev.bind (Diff_ _ _ (slim_thin hs) (fun r hr => (hs.2 r hr).1) (slim_thin hp) (fun r hr => (hp.2 r hr).1)) ?_
  refine Ev.bind (ref_Diff _ _ (slim_thin hs) (slim_thin hp)) ?_
  have h := SamePlaces_ (diffOf (cutOf x0.f0) (cutOf x1.f0)).1 (diffOf (cutOf x0.f0) (cutOf x1.f0)).1 (by have := diff_length (cutOf x0.f0) (cutOf x1.f0); omega)
  rw [decide_eq_true rfl] at h
  refine Ev.bind h ?_
  simp only [if_true]
  exact Ev.bind awake_ (Ev.now _)
end Go.Proofs.Ytbmmddngadnofaa.Pure
