/- What the laws on sums have in common: the bytes that are looked at, and the sum of the nine digits. -/
import Derived.Test.YtbpffhdecbgmpaaCrc
import Derived.Test.YtbpffhdecbgmpaaFx1
import Derived.Test.YtbpffhdecbgmpaaFx4
import Derived.OpenShut
namespace Go.Proofs.Ytbpffhdecbgmpaa.Crc
open Go.RowKit Go.Proofs.Ytbpffhdecbgmpaa.F Go.Proofs.YtbpffhdecbgmpaaW.PrintWords Go.Proofs.YtbpffhdecbgmpaaW.PrintLast Go.Proofs.YtbpffhdecbgmpaaW.PrintMore

theorem cut_some (l : List Int) : ∃ c, plinthlaw02_cut.f l = some c ∧ c.length ≤ 16384 ∧ c = l.take 16384 := by
  unfold plinthlaw02_cut.f
  by_cases h : (l.length : Int) > 16384
  · rw [if_pos h, if_pos (by omega)]
    exact ⟨_, rfl, by rw [List.length_take]; omega, rfl⟩
  · rw [if_neg h]
    exact ⟨_, rfl, by omega, (List.take_of_length_le (by omega)).symm⟩
theorem awake : Ev (fun k => plinthlaw02_awake.f k) true := by
  have h := all [[49, 50, 51, 52], [53, 54, 55, 56, 57]] (by simp) (by simp)
  have hs : I (sumAll [[49, 50, 51, 52], [53, 54, 55, 56, 57]]) = 3808858755 := by decide +kernel
  refine Ev.congr (f := fun k => (crc_Sum.f k [[49, 50, 51, 52], [53, 54, 55, 56, 57]]).bind fun t => some (t == 3808858755)) (fun k => rfl) ?_
  refine Ev.bind h ?_
  rw [hs]
  exact Ev.now _

end Go.Proofs.Ytbpffhdecbgmpaa.Crc
