/- CrcSeals: any bytes (at most 16,384 are looked at) are sealed as by the reference; what is opened, and why not, is the reference's answer; what was sealed is opened as it was. No condition. -/
import Derived.Test.YtbpffhdecbgmpaaCrcLaw
import Derived.Test.YtbpffhdecbgmpaaCrcRefSeal
import Derived.Test.YtbpffhdecbgmpaaFx10
namespace Go.Proofs.Ytbpffhdecbgmpaa.Pure
open Go.RowKit Go.Proofs.Ytbpffhdecbgmpaa.F Go.Proofs.Ytbpffhdecbgmpaa.Crc Go.Proofs.Ytbpffhdecbgmpaa.Bytes Go.Proofs.YtbpffhdecbgmpaaW.PrintWords Go.Proofs.YtbpffhdecbgmpaaW.PrintLast Go.Proofs.YtbpffhdecbgmpaaW.PrintMore

theorem CrcSeals : plinthlaw02_CrcSeals.Pure := by
  intro l0 _ _ hb
  obtain ⟨c0, h0, hc0, he⟩ := cut_some l0
  have hbc : isByte c0 := by rw [he]; exact isByte_take _ (isByte_of hb)
  have hS := seal_ c0 (by omega)
  have hO := open_ c0 (by omega)
  have hR := ref_open c0 (by omega) hbc
  have hO2 := open_ (sealed c0) (by rw [sealed_length]; omega)
  rw [opened_sealed] at hO2
  have hS2 := ref_seal c0 (by omega)
  refine Ev.rounds (g := fun k => plinthlaw02_CrcSeals.f k l0) ?_
  unfold plinthlaw02_CrcSeals.f
  simp only [h0, Option.bind_some]
  refine Ev.bind hS ?_
  refine Ev.bind hO ?_
  refine Ev.bind hR ?_
  refine Ev.bind hO2 ?_
  refine Ev.bind hS2 ?_
  simp only [if_true]
  exact Ev.bind awake (Ev.now _)
end Go.Proofs.Ytbpffhdecbgmpaa.Pure
