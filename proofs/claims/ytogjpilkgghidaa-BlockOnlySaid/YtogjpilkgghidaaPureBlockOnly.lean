/- BlockOnly: what is decoded is encoded as just the bytes that it had. No condition. -/
import Derived.Test.YtogjpilkgghidaaBlockBack
import Derived.Test.YtogjpilkgghidaaFx32
namespace Go.Proofs.Ytogjpilkgghidaa.Pure
open Go.RowKit Go.Proofs.Ytogjpilkgghidaa.F Go.Proofs.Ytogjpilkgghidaa.Bytes Go.Proofs.Ytogjpilkgghidaa.Block Go.Proofs.YtogjpilkgghidaaW.PrintWords Go.Proofs.YtogjpilkgghidaaW.PrintLast Go.Proofs.YtogjpilkgghidaaW.PrintMore

theorem only_res (b : List Int) (hb : isByte b) (hl : b.length ≤ 140737488351232) : Ev (fun k => plinthlaw04_BlockOnly.j0 k b) true := by
  refine Ev.step (fun k => plinthlaw04_BlockOnly.j0.eq_2 _ k) ?_
  refine Ev.bind (DecodeResult_ b hb hl) ?_
  by_cases h : (decRes b).2.2.2 = 0
  · simp only [if_pos h]
    obtain ⟨m, hm, hn, he⟩ := res_only hb h
    refine Ev.bind (EncodeResult_ _ _) ?_
    simp only [he, hn, if_true, show (m : Int) ≤ b.length by omega, show (0 : Int) ≤ m by omega, Int.toNat_natCast, beq_self_eq_true]
    exact Ev.now _
  · simp only [if_neg h]
    obtain ⟨h1, h2⟩ := res_none h
    simp only [h1, h2, if_true, List.length_nil]
    exact Ev.now _
theorem BlockOnly : plinthlaw04_BlockOnly.Pure := by
  intro b _ hl hb
  have hb' : isByte b := isByte_of hb
  refine Ev.rounds (g := fun k => plinthlaw04_BlockOnly.f k b) ?_
  unfold plinthlaw04_BlockOnly.f
  refine Ev.bind awake ?_
  simp only [if_true]
  refine Ev.bind (DecodeOp_ b hb' (by omega)) ?_
  have hr := only_res b hb' (by omega)
  by_cases h : (decOp b).2.2.2.2.2.2 = 0
  · simp only [if_pos h]
    obtain ⟨m, hm, hn, he⟩ := op_only hb' h
    refine Ev.bind (EncodeOp_ _ _ _ _ _) ?_
    simp only [he, hn, if_true, show ¬ (m : Int) > b.length by omega, show (m : Int) ≤ b.length by omega, show (0 : Int) ≤ m by omega, Int.toNat_natCast, if_false]
    exact hr
  · simp only [if_neg h]
    exact hr
end Go.Proofs.Ytogjpilkgghidaa.Pure
