/- BlockBack: what is encoded is decoded, whatever (of at most 1048576 bytes) stands behind it. -/
import Derived.Test.YtogjpilkgghidaaBlockBack
import Derived.Test.YtogjpilkgghidaaAskBlockBack
namespace Go.Proofs.Ytogjpilkgghidaa.Pure
open Go.RowKit Go.Proofs.Ytogjpilkgghidaa.F Go.Proofs.Ytogjpilkgghidaa.Bytes Go.Proofs.Ytogjpilkgghidaa.Octets Go.Proofs.Ytogjpilkgghidaa.Block Go.Proofs.YtogjpilkgghidaaW.PrintWords Go.Proofs.YtogjpilkgghidaaW.PrintLast Go.Proofs.YtogjpilkgghidaaW.PrintMore

theorem isByte_cons {c : Int} {l : List Int} (hc : 0 ≤ c ∧ c ≤ 255) (hl : isByte l) : isByte (c :: l) := by
  intro x hx
  rcases List.mem_cons.1 hx with rfl | hx
  · exact hc
  · exact hl x hx
theorem isByte_op {kind at_ n : Int} {data old : List Int} (hk : 0 ≤ kind ∧ kind ≤ 255) (hd : isByte data) (ho : isByte old) : isByte (opBytes kind at_ n data old) := by
  unfold opBytes
  exact isByte_append (isByte_cons hk isByte_nil) (isByte_append (le_byte _ _) (isByte_append (le_byte _ _) (isByte_append (le_byte _ _) (isByte_append hd (isByte_append (le_byte _ _) ho)))))
theorem isByte_res {code : Int} {data : List Int} (hk : 0 ≤ code ∧ code ≤ 255) (hd : isByte data) : isByte (resBytes code data) := by
  unfold resBytes
  exact isByte_append (isByte_cons hk isByte_nil) (isByte_append (le_byte _ _) hd)
theorem back_res (code : Int) (data behind : List Int) (hk : 0 ≤ code ∧ code ≤ 255) (hd : isByte data) (hb : isByte behind) (hl : behind.length ≤ 1048576) : Ev (fun k => plinthlaw04_BlockBack.j0 k behind code data) true := by
  refine Ev.step (fun k => plinthlaw04_BlockBack.j0.eq_2 _ _ _ k) ?_
  refine Ev.bind (EncodeResult_ code data) ?_
  unfold encRes
  by_cases h : okResult code data
  · have hL := resBytes_length code data
    have h' := h
    unfold okResult at h'
    simp only [if_pos h, if_true, Option.bind_some, List.nil_append, List.length_nil]
    simp only [show 0 + (resBytes code data).length < 140737488355328 by omega, if_true, show (resBytes code data).length + behind.length < 140737488355328 by omega]
    refine Ev.bind (DecodeResult_ (resBytes code data ++ behind) (isByte_append (isByte_res hk hd) hb) (by rw [List.length_append]; omega)) ?_
    rw [res_back code data behind h]
    simp only [if_true, same_result_self, Option.bind_some]
    exact Ev.now _
  · simp only [if_neg h, show ¬ (42 : Int) = 0 by decide, if_false, List.length_nil]
    exact Ev.now _
theorem BlockBackUpto (x0 : S27) (x1 : S41) (x2 : List (Int)) : ((Lit.int .u8 x0.f0).wf = true ∧ (Lit.int .i64 x0.f1).wf = true ∧ (Lit.int .i64 x0.f2).wf = true ∧ (x0.f3.length ≤ maxLen ∧ x0.f3.length * 1 ≤ 140737488351232 ∧ ∀ x0_ ∈ x0.f3, (Lit.int .u8 x0_).wf = true) ∧ (x0.f4.length ≤ maxLen ∧ x0.f4.length * 1 ≤ 140737488351232 ∧ ∀ x0_ ∈ x0.f4, (Lit.int .u8 x0_).wf = true)) →
    ((Lit.int .u8 x1.f0).wf = true ∧ (x1.f1.length ≤ maxLen ∧ x1.f1.length * 1 ≤ 140737488351232 ∧ ∀ x0_ ∈ x1.f1, (Lit.int .u8 x0_).wf = true)) → (x2.length ≤ maxLen ∧ x2.length * 1 ≤ 140737488351232 ∧ ∀ x0_ ∈ x2, (Lit.int .u8 x0_).wf = true) → x2.length ≤ 1048576 →
    ∃ k, plinthlaw04_BlockBack.f k x0.f0 x0.f1 x0.f2 x0.f3 x0.f4 x1.f0 x1.f1 x2 = some true := by
  obtain ⟨kind, at_, n, data, old⟩ := x0
  obtain ⟨code, res⟩ := x1
  rintro ⟨hk, _, _, ⟨_, hd, hdb⟩, ⟨_, ho, hob⟩⟩ ⟨hc, ⟨_, hr, hrb⟩⟩ ⟨_, _, hbb⟩ hl
  dsimp only at *
  refine Ev.rounds (g := fun k => plinthlaw04_BlockBack.f k kind at_ n data old code res x2) ?_
  unfold plinthlaw04_BlockBack.f
  have hR := back_res code res x2 (bounds_u8 hc) (isByte_of hrb) (isByte_of hbb) hl
  refine Ev.bind awake ?_
  simp only [if_true]
  refine Ev.bind (EncodeOp_ kind at_ n data old) ?_
  unfold encOp
  by_cases h : okForm kind at_ n data old
  · have hL := opBytes_length kind at_ n data old
    have h' := h
    unfold okForm at h'
    simp only [if_pos h, if_true, Option.bind_some, List.nil_append, List.length_nil]
    simp only [show 0 + (opBytes kind at_ n data old).length < 140737488355328 by omega, if_true, show (opBytes kind at_ n data old).length + x2.length < 140737488355328 by omega]
    refine Ev.bind (DecodeOp_ (opBytes kind at_ n data old ++ x2) (isByte_append (isByte_op (bounds_u8 hk) (isByte_of hdb) (isByte_of hob)) (isByte_of hbb)) (by rw [List.length_append]; omega)) ?_
    rw [op_back kind at_ n data old x2 h]
    simp only [if_true, same_self, Option.bind_some]
    exact hR
  · simp only [if_neg h, show ¬ (41 : Int) = 0 by decide, if_false]
    exact hR
end Go.Proofs.Ytogjpilkgghidaa.Pure
