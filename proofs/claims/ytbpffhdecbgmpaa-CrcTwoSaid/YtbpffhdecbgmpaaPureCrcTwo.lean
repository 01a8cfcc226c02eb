/- CrcTwo: the sums of two rows of bytes (at most 16,384 of each are looked at), joined, are the sum of both. No condition. -/
import Derived.Test.YtbpffhdecbgmpaaCrcRefAll
import Derived.Test.YtbpffhdecbgmpaaCrcJoin
import Derived.Test.YtbpffhdecbgmpaaFx6
namespace Go.Proofs.Ytbpffhdecbgmpaa.Pure
open Go.RowKit Go.Proofs.Ytbpffhdecbgmpaa.F Go.Proofs.Ytbpffhdecbgmpaa.Crc Go.Proofs.YtbpffhdecbgmpaaW.PrintWords Go.Proofs.YtbpffhdecbgmpaaW.PrintLast Go.Proofs.YtbpffhdecbgmpaaW.PrintMore

theorem CrcTwo : plinthlaw02_CrcTwo.Pure := by
  intro l0 l1 _ _ _ _ _ _
  obtain ⟨c0, h0, hc0, _⟩ := cut_some l0
  obtain ⟨c1, h1, hc1, _⟩ := cut_some l1
  have hA := all [c0] (by simp) (by simp; omega)
  have hB := all [c1] (by simp) (by simp; omega)
  have hR := refAll [c0, c1] (by simp) (by simp; omega)
  have eA : sumAll [c0] = sum 0#32 c0 := rfl
  have eB : sumAll [c1] = sum 0#32 c1 := rfl
  have eR : sumAll [c0, c1] = sum 0#32 (c0 ++ c1) := by
    rw [sum_append]
    rfl
  rw [eA] at hA
  rw [eB] at hB
  rw [eR] at hR
  refine Ev.rounds (g := fun k => plinthlaw02_CrcTwo.f k l0 l1) ?_
  unfold plinthlaw02_CrcTwo.f
  simp only [h0, h1, Option.bind_some]
  refine Ev.bind hA ?_
  refine Ev.bind hB ?_
  simp only [join_ _ _ _ (show c1.length ≤ 16777216 by omega), Option.bind_some, if_true, sum_join]
  refine Ev.bind hR ?_
  simp only [if_true]
  exact Ev.bind awake (Ev.now _)
end Go.Proofs.Ytbpffhdecbgmpaa.Pure
