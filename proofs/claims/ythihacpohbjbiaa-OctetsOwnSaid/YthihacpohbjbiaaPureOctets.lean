/- What the laws on octets have in common: the bytes that are looked at; a number and a text. -/
import Derived.Test.YthihacpohbjbiaaOctetsPutOne
import Derived.Test.YthihacpohbjbiaaOctetsGetText
import Derived.Test.YthihacpohbjbiaaFx1
import Derived.Test.YthihacpohbjbiaaFx8
namespace Go.Proofs.Ythihacpohbjbiaa.Octets
open Go.RowKit Go.Proofs.Ythihacpohbjbiaa.F Go.Proofs.Ythihacpohbjbiaa.Bytes Go.Proofs.YthihacpohbjbiaaW.PrintWords Go.Proofs.YthihacpohbjbiaaW.PrintLast Go.Proofs.YthihacpohbjbiaaW.PrintMore

theorem cut_some (l : List Int) : ∃ c, plinthlaw01_cut.f l = some c ∧ c.length ≤ 65536 ∧ c = l.take 65536 := by
  unfold plinthlaw01_cut.f
  by_cases h : (l.length : Int) > 65536
  · rw [if_pos h, if_pos (by omega)]
    exact ⟨_, rfl, by rw [List.length_take]; omega, rfl⟩
  · rw [if_neg h]
    exact ⟨_, rfl, by omega, (List.take_of_length_le (by omega)).symm⟩
theorem awake : Ev (fun k => plinthlaw01_awake.f k) true := by
  have h1 := Put_ [] 258 2 (by omega) (by simp)
  have h2 := PutText_ [2, 1] [97, 98] (by simp)
  have h3 := GetText_ [2, 1, 2, 0, 0, 0, 97, 98] 2 (by unfold isByte; decide) (by simp)
  rw [show putOf [] 258 2 = ([2, 1], 0) from by decide +kernel] at h1
  rw [show putTextOf [2, 1] [97, 98] = ([2, 1, 2, 0, 0, 0, 97, 98], 0) from by decide +kernel] at h2
  rw [show getTextOf [2, 1, 2, 0, 0, 0, 97, 98] 2 = ([97, 98], 8, 0) from by decide +kernel] at h3
  unfold plinthlaw01_awake.f
  refine Ev.bind h1 ?_
  refine Ev.bind h2 ?_
  refine Ev.bind h3 ?_
  have ht : (strOfNums [97, 98]).toList = ([97, 98] : List UInt8) := by
    rw [toList_data]
    rfl
  simp only [ht, if_true]
  exact Ev.now _
end Go.Proofs.Ythihacpohbjbiaa.Octets
