/- TreeMakes: of any page (not more than 5,000 bytes are looked at) and any digests (not more than 300 of 4,096 and fewer) program and reference tell the same digests of the page and of the row, and the same tree and error. No condition. -/
import Derived.Test.YtbmmddngadnofaaTreeLeaf
import Derived.Test.YtbmmddngadnofaaFx29b
import Derived.Test.YtbmmddngadnofaaAskTreeMakes
namespace Go.Proofs.Ytbmmddngadnofaa.Pure
open Go.RowKit Go.Proofs.Ytbmmddngadnofaa.F Go.Proofs.Ytbmmddngadnofaa.Tree Go.Proofs.Ytbmmddngadnofaa.Octets Go.Proofs.YtbmmddngadnofaaW.PrintWords Go.Proofs.YtbmmddngadnofaaW.PrintLast Go.Proofs.YtbmmddngadnofaaW.PrintMore

theorem make_same (l : List Int) (hd : isDig l) : Ev (fun k => plinthref25_Same.f k (makeOf l).1 (makeOf l).1) true := by
  have ht : thin (makeOf l).1 := by
    unfold makeOf
    split
    · rename_i h
      exact slim_thin (tree_slim hd h.2)
    · exact ⟨by simp, fun r hr => by cases hr⟩
  have := ref_Same _ (makeOf l).1 ht
  rwa [decide_eq_true rfl] at this
theorem TreeMakes : plinthlaw25_TreeMakes.Pure := by
  intro x0 x1 h0 h1
  have hb := h0.2.2.2.1
  refine Ev.rounds (g := fun k => plinthlaw25_TreeMakes.f k x0.f0 x0.f1 x0.f2 x1) ?_
  unfold plinthlaw25_TreeMakes.f
  simp only [few_, Option.bind_some]
  have hd := few_dig (isDig_of h1.2.2)
  have hl := few_le x1
  have hl2 := h1.2.1
  generalize fewOf x1 = l at hd hl
  have hm := Make_ l (fun _ => hd)
  have hr := ref_Make l
  have hrow := Row_ l hd (by omega)
  have hrow2 := ref_Row l (by omega)
  have hs := make_same l hd
  by_cases h5 : (x0.f2.length : Int) > 5000
  · simp only [if_pos h5, if_pos (show 5000 ≤ (x0.f2.length : Int) by omega)]
    have hb5 : (x0.f2.take 5000).length ≤ 140737488351232 := by rw [List.length_take]; omega
    refine Ev.bind hm (Ev.bind hr (Ev.bind (Leaf_ x0.f0 x0.f1 _ hb5) (Ev.bind (ref_Leaf x0.f0 x0.f1 _ hb5) ?_)))
    simp only [if_true]
    refine Ev.bind hrow (Ev.bind hrow2 ?_)
    simp only [if_true]
    refine Ev.bind hs ?_
    simp only [if_true]
    exact Ev.bind awake_ (Ev.now _)
  · simp only [if_neg h5]
    have hb5 : x0.f2.length ≤ 140737488351232 := by omega
    refine Ev.bind hm (Ev.bind hr (Ev.bind (Leaf_ x0.f0 x0.f1 _ hb5) (Ev.bind (ref_Leaf x0.f0 x0.f1 _ hb5) ?_)))
    simp only [if_true]
    refine Ev.bind hrow (Ev.bind hrow2 ?_)
    simp only [if_true]
    refine Ev.bind hs ?_
    simp only [if_true]
    exact Ev.bind awake_ (Ev.now _)
end Go.Proofs.Ytbmmddngadnofaa.Pure
