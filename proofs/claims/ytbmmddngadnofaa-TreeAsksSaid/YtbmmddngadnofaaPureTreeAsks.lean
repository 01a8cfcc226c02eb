/- TreeAsks: of any two trees (those with more than 12 rows are cut, those with a row of more than 4,097 digests are the empty one), any place and digest, program and reference tell the same of whether the tree may be, the same digest of all, the same tree with the other digest, and the same of whether the two are alike. No condition. -/
import Derived.Test.YtbmmddngadnofaaTreeRefPut
import Derived.Test.YtbmmddngadnofaaFx35
import Derived.Test.YtbmmddngadnofaaAskTreeAsks
namespace Go.Proofs.Ytbmmddngadnofaa.Pure
open Go.RowKit Go.Proofs.Ytbmmddngadnofaa.F Go.Proofs.Ytbmmddngadnofaa.Tree Go.Proofs.YtbmmddngadnofaaW.PrintWords Go.Proofs.YtbmmddngadnofaaW.PrintLast Go.Proofs.YtbmmddngadnofaaW.PrintMore

theorem TreeAsks : plinthlaw25_TreeAsks.Pure := by
  intro x0 x1 x2 x3 h0 h1 h2 h3
  have hs := cut_slim (l := x0.f0) (fun r hr => (h0.2.2 r hr).2.2)
  have ht := slim_thin hs
  have hd : ∀ r ∈ cutOf x0.f0, isDig r := fun r hr => (hs.2 r hr).1
  have hx := bounds_u32 h3
  refine Ev.rounds (g := fun k => plinthlaw25_TreeAsks.f k x0.f0 x1.f0 x2 x3) ?_
  unfold plinthlaw25_TreeAsks.f
  refine Ev.bind (cut_ x0.f0) (Ev.bind (cut_ x1.f0) ?_)
  generalize cutOf x0.f0 = t at hs ht hd
  generalize cutOf x1.f0 = u
  refine Ev.bind (Root_ t ht hd) (Ev.bind (ref_Root t ht) (Ev.bind (PutT_ t ht hd x2 x3 hx) (Ev.bind (ref_PutT t ht x2 x3) (Ev.bind (Check_ t ht hd) (Ev.bind (ref_Check t ht) ?_)))))
  simp only [if_true]
  have hp := ref_Same (putT t x2 x3).1 (putT t x2 x3).1 (slim_thin (putT_slim hd hx))
  rw [decide_eq_true rfl] at hp
  refine Ev.bind hp ?_
  simp only [if_true]
  refine Ev.bind (Same_ t u ht) (Ev.bind (ref_Same t u ht) ?_)
  simp only [beq_self_eq_true, if_true]
  have hq := Same_ t t ht
  rw [decide_eq_true rfl] at hq
  refine Ev.bind hq ?_
  simp only [if_true]
  exact Ev.bind awake_ (Ev.now _)
end Go.Proofs.Ytbmmddngadnofaa.Pure
