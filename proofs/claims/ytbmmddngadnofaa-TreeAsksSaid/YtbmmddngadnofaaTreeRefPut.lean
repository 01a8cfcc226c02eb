/- The reference's trees with another digest at a place; its digest of all. -/
import Derived.Test.YtbmmddngadnofaaTreePut
import Derived.Test.YtbmmddngadnofaaFx34
import Derived.Test.YtbmmddngadnofaaFx32
namespace Go.Proofs.Ytbmmddngadnofaa.Tree
open Go.RowKit Go.Proofs.Ytbmmddngadnofaa.F Go.Proofs.Ytbmmddngadnofaa.Bytes Go.Proofs.Ytbmmddngadnofaa.Octets Go.Proofs.YtbmmddngadnofaaW.PrintWords Go.Proofs.YtbmmddngadnofaaW.PrintLast Go.Proofs.YtbmmddngadnofaaW.PrintMore

theorem ref_Root (t : List (List Int)) (ht : thin t) : Ev (fun k => plinthref25_Root.f k t) (rootOf t) := by
  unfold plinthref25_Root.f rootOf
  refine Ev.bind (ref_Check t ht) ?_
  unfold checkOf
  by_cases h : good t
  · have hl := good_length h
    have hg := good_top h
    simp only [if_pos h, if_true, last_in t.length hl.1 (by omega), if_pos (show (0 : Int) ≤ ((t.length - 1 : Nat) : Int) by omega), if_pos (show ((t.length - 1 : Nat) : Int) < (t.length : Int) by omega), if_pos (show 0 < ((rd_L1 t ((t.length - 1 : Nat) : Int)).length : Int) by have := hg.1; omega), hg.2]
    exact Ev.now _
  · simp only [if_neg h]
    exact Ev.now _
theorem ref_PutT (t : List (List Int)) (ht : thin t) (i d : Int) : Ev (fun k => plinthref25_Put.f k t i d) (putT t i d) := by
  unfold plinthref25_Put.f putT
  refine Ev.bind (ref_Check t ht) ?_
  unfold checkOf
  by_cases h : good t
  · have hl := good_length h
    have hb := h.1
    simp only [if_pos h, if_true]
    by_cases h0 : i < 0
    · rw [if_neg (show ¬ (0 ≤ i ∧ i < ((base t).length : Int)) by omega)]
      simp only [if_pos h0]
      exact Ev.now _
    · simp only [if_neg h0, if_pos (show 0 < (t.length : Int) by omega), show rd_L1 t 0 = base t from rfl]
      by_cases h1 : i ≥ ((base t).length : Int)
      · rw [if_neg (show ¬ (0 ≤ i ∧ i < ((base t).length : Int)) by omega)]
        simp only [if_pos h1]
        exact Ev.now _
      · rw [if_pos (show (0 ≤ i ∧ i < ((base t).length : Int)) by omega)]
        simp only [if_neg h1, Option.bind_some, List.length_nil, List.nil_append, if_pos (show 0 + (base t).length < 35184372088832 by omega), if_pos (show 0 ≤ i by omega), if_pos (show i < ((base t).length : Int) by omega)]
        have hm := ref_Make ((base t).set i.toNat d)
        rw [makeOf, if_pos (by rw [List.length_set]; exact hb)] at hm
        exact Ev.bind hm (Ev.now _)
  · simp only [if_neg h]
    exact Ev.now _
end Go.Proofs.Ytbmmddngadnofaa.Tree
