/- BlockForms: which shapes, requests and results may be, which are the same, which change blocks: program and reference answer alike. No condition. -/
import Derived.Test.YtogjpilkgghidaaPlain
import Derived.Test.YtogjpilkgghidaaAskBlockForms
import Derived.Test.YtogjpilkgghidaaFx25
import Derived.Test.YtogjpilkgghidaaFx26
import Derived.Test.YtogjpilkgghidaaFx22
namespace Go.Proofs.Ytogjpilkgghidaa.Pure
open Go.RowKit Go.Proofs.Ytogjpilkgghidaa.F Go.Proofs.Ytogjpilkgghidaa.Block Go.Proofs.YtogjpilkgghidaaW.PrintWords Go.Proofs.YtogjpilkgghidaaW.PrintLast Go.Proofs.YtogjpilkgghidaaW.PrintMore

theorem block_same (a b c : Int) (l m : List Int) (a' b' c' : Int) (l' m' : List Int) : ∃ r, block_Same.f a b c l m a' b' c' l' m' = some r ∧ plinthref04_Same.f a b c l m a' b' c' l' m' = some r := by
  unfold block_Same.f plinthref04_Same.f bytes_Equal.f
  by_cases h : a = a'
  · rw [if_pos h, if_pos h]
    by_cases h1 : b = b'
    · rw [if_pos h1, if_pos h1]
      by_cases h2 : c = c'
      · rw [if_pos h2, if_pos h2]
        by_cases h3 : (strOfNums l).toList = (strOfNums l').toList
        · refine ⟨((strOfNums m).toList == (strOfNums m').toList), ?_, ?_⟩ <;> simp [h3]
        · refine ⟨false, ?_, ?_⟩ <;> simp [h3]
      · rw [if_neg h2, if_neg h2]
        exact ⟨_, rfl, rfl⟩
    · rw [if_neg h1, if_neg h1]
      exact ⟨_, rfl, rfl⟩
  · rw [if_neg h, if_neg h]
    exact ⟨_, rfl, rfl⟩
theorem block_same_self (a b c : Int) (l m : List Int) : block_Same.f a b c l m a b c l m = some true := by
  unfold block_Same.f bytes_Equal.f
  simp
theorem ref_Changes (kind at_ n : Int) (data old : List Int) : plinthref04_Changes.f kind at_ n data old = some (decide (kind = 2 ∨ kind = 3 ∨ kind = 5)) := by
  unfold plinthref04_Changes.f
  by_cases h2 : kind = 2
  · simp [h2]
  · by_cases h3 : kind = 3
    · simp [h3]
    · rw [if_neg h2, if_neg h3]
      refine congrArg some ?_
      rw [Bool.eq_iff_iff]
      simp [h2, h3]
theorem BlockForms : plinthlaw04_BlockForms.Pure := by
  rintro ⟨B, S⟩ ⟨kind, at_, n, data, old⟩ ⟨kind', at', n', data', old'⟩ ⟨code, res⟩ _ ⟨_, _, _, ⟨_, hd, _⟩, ⟨_, ho, _⟩⟩ _ _
  dsimp only at *
  obtain ⟨r, hr, hr'⟩ := block_same kind at_ n data old kind' at' n' data' old'
  refine Ev.rounds (g := fun k => plinthlaw04_BlockForms.f k B S kind at_ n data old kind' at' n' data' old' code res) ?_
  unfold plinthlaw04_BlockForms.f
  simp only [same_shape, Shape_, Option.bind_some, if_true, Form_]
  refine Ev.bind (ref_Form kind at_ n data old (by omega) (by omega)) ?_
  simp only [if_true]
  refine Ev.bind (Result_ code res) ?_
  refine Ev.bind (ref_Result code res) ?_
  simp only [bne_self_eq_false]
  refine Ev.step (fun k => plinthlaw04_BlockForms.j0.eq_2 _ _ _ _ _ _ _ _ _ _ _ k) ?_
  simp only [Bool.false_eq_true, if_false, hr, hr', Option.bind_some, beq_self_eq_true, if_true, block_same_self, Changes_, ref_Changes]
  refine Ev.bind awake ?_
  exact Ev.now _
end Go.Proofs.Ytogjpilkgghidaa.Pure
