/- TreeProves: of any tree, place and proof (a tree and a proof with more than 12 rows are cut, one with a row of more than 4,097 digests is the empty one) program and reference tell the same proof and error, and the same of whether the proof holds. No condition. -/
import Derived.Test.YtbmmddngadnofaaPlain
import Derived.Test.YtbmmddngadnofaaFx2
import Derived.Test.YtbmmddngadnofaaFx25
import Derived.Test.YtbmmddngadnofaaAskTreeProves
namespace Go.Proofs.Ytbmmddngadnofaa.Pure
open Go.RowKit Go.Proofs.Ytbmmddngadnofaa.F Go.Proofs.Ytbmmddngadnofaa.Tree Go.Proofs.YtbmmddngadnofaaW.PrintWords Go.Proofs.YtbmmddngadnofaaW.PrintLast Go.Proofs.YtbmmddngadnofaaW.PrintMore

theorem TreeProves : plinthlaw25_TreeProves.Pure := by
  intro x0 x1 x2 x3 x4 x5 h0 h1 h2 h3 h4 h5
  have hs := cut_slim (l := x0.f0) (fun r hr => (h0.2.2 r hr).2.2)
  have hp := cut_slim (l := x5.f1) (fun r hr => (h5.2.2.2 r hr).2.2)
  have ht := slim_thin hs
  have hd : ∀ r ∈ cutOf x0.f0, isDig r := fun r hr => (hs.2 r hr).1
  refine Ev.rounds (g := fun k => plinthlaw25_TreeProves.f k x0.f0 x1 x2 x3 x4 x5.f0 x5.f1) ?_
  unfold plinthlaw25_TreeProves.f
  refine Ev.bind (cut_ x0.f0) ?_
  refine Ev.bind (show Ev (fun k => plinthlaw25_light.f k x5.f0 x5.f1) (x5.f0, cutOf x5.f1) from Ev.bind (cut_ x5.f1) (Ev.now _)) ?_
  refine Ev.bind (Prove_ _ ht hd x1) ?_
  refine Ev.bind (ref_Prove _ ht x1) ?_
  have hps : thin (proveOf (cutOf x0.f0) x1).2.1 := by
    unfold proveOf
    split
    · split
      · refine slim_thin (path_slim (below (cutOf x0.f0)) ?_ (fun r hr => hd r (List.mem_of_mem_take hr)) _)
        have := hs.1
        rw [below, List.length_take]
        omega
      · exact ⟨by simp, fun r hr => by cases hr⟩
    · exact ⟨by simp, fun r hr => by cases hr⟩
  have hsame : Ev (fun k => plinthref25_SameProof.f k (proveOf (cutOf x0.f0) x1).1 (proveOf (cutOf x0.f0) x1).2.1 (proveOf (cutOf x0.f0) x1).1 (proveOf (cutOf x0.f0) x1).2.1) true := by
    unfold plinthref25_SameProof.f
    simp only [if_true]
    have := ref_Same _ (proveOf (cutOf x0.f0) x1).2.1 hps
    rw [decide_eq_true rfl] at this
    exact Ev.bind this (Ev.now _)
  refine Ev.bind hsame ?_
  simp only [if_true]
  refine Ev.bind (Proved_ x2 x3 x4 x5.f0 _ hp) ?_
  refine Ev.bind (ref_Proved x2 x3 x4 x5.f0 _ hp) ?_
  simp only [if_true]
  exact Ev.bind awake_ (Ev.now _)
end Go.Proofs.Ytbmmddngadnofaa.Pure
