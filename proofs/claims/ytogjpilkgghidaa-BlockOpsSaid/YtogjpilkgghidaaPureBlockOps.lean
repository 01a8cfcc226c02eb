/- BlockOps: the bytes of any request, and the request at the beginning of any bytes: program and reference answer alike. No condition. -/
import Derived.Test.YtogjpilkgghidaaCode
import Derived.Test.YtogjpilkgghidaaAskBlockOps
namespace Go.Proofs.Ytogjpilkgghidaa.Pure
open Go.RowKit Go.Proofs.Ytogjpilkgghidaa.F Go.Proofs.Ytogjpilkgghidaa.Bytes Go.Proofs.Ytogjpilkgghidaa.Block Go.Proofs.YtogjpilkgghidaaW.PrintWords Go.Proofs.YtogjpilkgghidaaW.PrintLast Go.Proofs.YtogjpilkgghidaaW.PrintMore

theorem BlockOps : plinthlaw04_BlockOps.Pure := by
  rintro ⟨kind, at_, n, data, old⟩ b ⟨_, _, _, ⟨_, hd, _⟩, ⟨_, ho, _⟩⟩ ⟨_, hl, hb⟩
  dsimp only at *
  have hb' : isByte b := isByte_of hb
  refine Ev.rounds (g := fun k => plinthlaw04_BlockOps.f k kind at_ n data old b) ?_
  unfold plinthlaw04_BlockOps.f
  refine Ev.bind (EncodeOp_ kind at_ n data old) ?_
  refine Ev.bind (ref_EncodeOp kind at_ n data old (by omega) (by omega)) ?_
  refine Ev.bind (DecodeOp_ b hb' (by omega)) ?_
  refine Ev.bind (ref_DecodeOp b hb' (by omega)) ?_
  simp only [if_true, same_self, Option.bind_some]
  exact Ev.bind awake (Ev.now _)
end Go.Proofs.Ytogjpilkgghidaa.Pure
