/- TreeStates: of any state that is small (not more than 64 blocks of 64 bytes, 70 pages, 70 rows) program and reference make the same tree and tell the same error; of any other the law asks nothing but that it is awake. No condition. -/
import Derived.Test.YtbmmddngadnofaaTreeState
import Derived.Test.YtbmmddngadnofaaFx56
import Derived.Test.YtbmmddngadnofaaAskTreeStates
namespace Go.Proofs.Ytbmmddngadnofaa.Pure
open Go.RowKit Go.Proofs.Ytbmmddngadnofaa.F Go.Proofs.Ytbmmddngadnofaa.Tree Go.Proofs.Ytbmmddngadnofaa.Octets Go.Proofs.YtbmmddngadnofaaW.PrintWords Go.Proofs.YtbmmddngadnofaaW.PrintLast Go.Proofs.YtbmmddngadnofaaW.PrintMore
set_option linter.unusedSimpArgs false
set_option linter.unusedVariables false
theorem of_same (a0 a1 a2 : Int) (l3 : List State.Pg) (l4 : List State.Rw) (a5 : Int) (l6 : List Int) : Ev (fun k => plinthref25_Same.f k (ofOf a0 a1 a2 l3 l4 a5 l6).1 (ofOf a0 a1 a2 l3 l4 a5 l6).1) true := by
  unfold ofOf
  split
  · exact make_same _ (leaves_dig _ _ _)
  · have := ref_Same [] [] ⟨by simp, fun r hr => by cases hr⟩
    rwa [decide_eq_true rfl] at this
theorem TreeStates : plinthlaw25_TreeStates.Pure := by
  intro x0 h0
  obtain ⟨_, _, ⟨_, h3, hd⟩, ⟨_, h4, _⟩, _, _, h6, _⟩ := h0
  refine Ev.rounds (g := fun k => plinthlaw25_TreeStates.f k x0.f0 x0.f1.f0 x0.f1.f1 x0.f2 x0.f3 x0.f4.f0 x0.f4.f1) ?_
  unfold plinthlaw25_TreeStates.f
  obtain ⟨b, hb⟩ := small_some x0.f0 x0.f1.f0 x0.f1.f1 x0.f2 x0.f3 x0.f4.f0 x0.f4.f1
  simp only [hb, Option.bind_some]
  cases b
  · exact Ev.bind awake_ (Ev.now _)
  · simp only [if_true]
    have hdd : ∀ p ∈ x0.f2, p.f2.length ≤ 140737488351232 := fun p hp => by
      have := (hd p hp).2.2.2.1
      omega
    refine Ev.bind (Of_ _ _ _ _ _ _ _ (by omega) (by omega) (by omega) hdd) (Ev.bind (ref_Of _ _ _ _ _ _ _ (by omega) (by omega) (by omega) hdd) (Ev.bind (of_same _ _ _ _ _ _ _) ?_))
    simp only [if_true]
    exact Ev.bind awake_ (Ev.now _)
end Go.Proofs.Ytbmmddngadnofaa.Pure
