/- BlockResults: the bytes of any result, and the result at the beginning of any bytes: program and reference answer alike. No condition. -/
import Derived.Test.YtogjpilkgghidaaCode
import Derived.Test.YtogjpilkgghidaaAskBlockResults
namespace Go.Proofs.Ytogjpilkgghidaa.Pure
open Go.RowKit Go.Proofs.Ytogjpilkgghidaa.F Go.Proofs.Ytogjpilkgghidaa.Bytes Go.Proofs.Ytogjpilkgghidaa.Block Go.Proofs.YtogjpilkgghidaaW.PrintWords Go.Proofs.YtogjpilkgghidaaW.PrintLast Go.Proofs.YtogjpilkgghidaaW.PrintMore

theorem BlockResults : plinthlaw04_BlockResults.Pure := by
  rintro ⟨code, data⟩ b ⟨_, ⟨_, hd, _⟩⟩ ⟨_, hl, hb⟩
  dsimp only at *
  have hb' : isByte b := isByte_of hb
  refine Ev.rounds (g := fun k => plinthlaw04_BlockResults.f k code data b) ?_
  unfold plinthlaw04_BlockResults.f
  refine Ev.bind (EncodeResult_ code data) ?_
  refine Ev.bind (ref_EncodeResult code data) ?_
  refine Ev.bind (DecodeResult_ b hb' (by omega)) ?_
  refine Ev.bind (ref_DecodeResult b hb' (by omega)) ?_
  simp only [if_true, same_result_self, Option.bind_some]
  exact Ev.bind awake (Ev.now _)
end Go.Proofs.Ytogjpilkgghidaa.Pure
