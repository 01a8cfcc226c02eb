-- Written by ext (this session's own program): the row of the law plinthlaw04_BlockFits, by RowKinds.
import Derived.Test.YtogjpilkgghidaaRows
import Derived.Test.YtogjpilkgghidaaFx15
import Derived.Test.YtogjpilkgghidaaPureBlockFits
import Derived.Test.YtogjpilkgghidaaAskBlockFits
import Derived.Test.YtogjpilkgghidaaRowKinds
import Derived.WalkKit
import Derived.ProofKit
import Derived.OpenShut
import Derived.ShutString
import Derived.ChangeOld
import Derived.Below
import Derived.Carry
import Derived.SizedLaws
namespace Go.Proofs.Ytogjpilkgghidaa.blockFits
open Go.ChangeShapes Go.WideShapes Go.ChangeAt Go.RowKit Go.Proofs.Ytogjpilkgghidaa.RowKinds Go.Proofs.Ytogjpilkgghidaa.F Go.Proofs.YtogjpilkgghidaaW.PrintWords
open Go.ChangeMaps (open_string shut_string)
set_option linter.unusedVariables false
theorem own : ownKnob Try.prog.godebug = none := by kernel_rfl
theorem laidOut : laidOutB Try.prog = true := by kernel_rfl
theorem opens0 : Opens Try.prog k23 23 (fun x => ((Lit.int .i64 x.f0).wf = true ∧ (Lit.int .i64 x.f1).wf = true)) := (show Opens Try.prog k23 23 _ from opens_struct (fun x : S23 => (x.f0, x.f1)) (fun p => (⟨p.1, p.2⟩ : S23)) (fun _ => rfl) Try.underlying23 (by kernel_rfl) (opensFs_cons (by rfl) (by kernel_rfl) (opens_int Try.underlying3) (opensFs_one (by rfl) (by kernel_rfl) (opens_int Try.underlying3))))
theorem opens1 : Opens Try.prog k27 27 (fun x => ((Lit.int .u8 x.f0).wf = true ∧ (Lit.int .i64 x.f1).wf = true ∧ (Lit.int .i64 x.f2).wf = true ∧ (x.f3.length ≤ maxLen ∧ x.f3.length * 1 ≤ 140737488351232 ∧ ∀ x0_ ∈ x.f3, (Lit.int .u8 x0_).wf = true) ∧ (x.f4.length ≤ maxLen ∧ x.f4.length * 1 ≤ 140737488351232 ∧ ∀ x0_ ∈ x.f4, (Lit.int .u8 x0_).wf = true))) := (show Opens Try.prog k27 27 _ from opens_struct (fun x : S27 => (x.f0, x.f1, x.f2, x.f3, x.f4)) (fun p => (⟨p.1, p.2.1, p.2.2.1, p.2.2.2.1, p.2.2.2.2⟩ : S27)) (fun _ => rfl) Try.underlying27 (by kernel_rfl) (opensFs_cons (by rfl) (by kernel_rfl) (opens_int Try.underlying24) (opensFs_cons (by rfl) (by kernel_rfl) (opens_int Try.underlying3) (opensFs_cons (by rfl) (by kernel_rfl) (opens_int Try.underlying3) (opensFs_cons (by rfl) (by kernel_rfl) (opens_slice 5 1 Try.underlying25 (by kernel_rfl) (by kernel_rfl) (opens_int Try.underlying5)) (opensFs_one (by rfl) (by kernel_rfl) (opens_slice 5 1 Try.underlying25 (by kernel_rfl) (by kernel_rfl) (opens_int Try.underlying5))))))))
set_option maxRecDepth 100000 in
theorem lifted (os : Os) (started : os.Started) (H : Type) (enc : TypeId × Value → H) :
    ReturnsInHanded {} Try.checked os 3 .any (Rows.blockFitsSpec.pre6 enc Try.prog Try.f3 Rows.blockFitsRow.domain false) (Rows.blockFitsSpec.post enc Try.prog Try.f3 false true false false) := by
  refine returnsInHanded_of_change_sized (C := Try.checked) own started (by kernel_rfl) Try.func3
    (ChangeSpec.witness6 (enc := enc) (C := Try.checked) false ⟨#[], #[.agg #[.int .i64 0, .int .i64 0], .agg #[.int .u8 0, .int .i64 0, .int .i64 0, .slice none 0 0, .slice none 0 0]], []⟩ 8 (by kernel_rfl) (by kernel_rfl) (by kernel_rfl) (by kernel_rfl)) ?_
  intro W base args ds gs before hval0 hW hcnd hsz0 _
  have hsz : (DataW.weightsEach Try.prog (Try.f3.params.toList ++ Rows.blockFitsSpec.plain.varTypes Try.prog) (ds ++ gs)).all (· ≤ reachBytes) = true := hsz0
  have hval : ∀ (j : Nat) t v, Try.f3.params[j]? = some t → args[j]? = some v → Value.okWide Try.prog W .any base t v := hval0
  have hW' := hW
  obtain ⟨p, q, hA0, hV, rfl, hfz, hnd⟩ := hW
  have hA : DataW.TrodAll enc Try.prog W 0 (fun _ => true) true Try.f3.params.toList args.toList ds p := hA0
  rw [Try.params3] at hA hval hsz
  obtain ⟨v0, vs0, d0, ds0, p0, q0, hargs, rfl, rfl, h0, r0⟩ := trodAll_cons hA
  obtain ⟨v1, vs1, d1, ds1, p1, q1, rfl, rfl, rfl, h1, r1⟩ := trodAll_cons r0
  obtain ⟨rfl, rfl, rfl⟩ := trodAll_nil r1
  obtain rfl : args = #[v0, v1] := by cases args; simp_all
  obtain ⟨rfl, rfl⟩ := trodVars_none hV
  have k0 := h0
  have lt0 : ∀ x ∈ p0, x.block < W.heap.size := by obtain ⟨m, hm⟩ := k0; exact DataW.trod_lt m _ _ _ hm
  obtain ⟨x0, K0, w0⟩ := opens_arg opens0 hsz (j := 0) rfl rfl h0
  obtain ⟨cs0, rfl, _⟩ := okWide_struct Try.underlying23 (hval 0 23 v0 rfl rfl)
  have e0 := k23_open K0
  obtain rfl : cs0 = #[.int .i64 x0.f0, .int .i64 x0.f1] := Array.ext' e0
  have k1 := h1
  have lt1 : ∀ x ∈ p1, x.block < W.heap.size := by obtain ⟨m, hm⟩ := k1; exact DataW.trod_lt m _ _ _ hm
  obtain ⟨x1, K1, w1⟩ := opens_arg opens1 hsz (j := 1) rfl rfl h1
  obtain ⟨cs1, rfl, _⟩ := okWide_struct Try.underlying27 (hval 1 27 v1 rfl rfl)
  obtain ⟨A1_3, c1_3, A1_4, c1_4, e1, hc1_3, hr1_3, hc1_4, hr1_4⟩ := k27_open K1
  obtain rfl : cs1 = #[.int .u8 x1.f0, .int .i64 x1.f1, .int .i64 x1.f2, .slice A1_3 x1.f3.length c1_3, .slice A1_4 x1.f4.length c1_4] := Array.ext' e1
  clear hA0 hval0 hsz0 hsz
  obtain ⟨k, h⟩ := Pure.BlockFits x0 x1 w0 w1
  refine (plinthlaw04_BlockFits.calls k x0.f0 x0.f1 x1.f0 x1.f1 x1.f2 A1_3 c1_3 x1.f3 A1_4 c1_4 x1.f4 true W hr1_3 hc1_3 hr1_4 hc1_4 h).mono fun e W' hd_ => ?_
  obtain ⟨rfl, hd_⟩ := hd_
  have bel : Below W.heap.size W W' := hd_
  exact ⟨_, rfl, _, _, _, [], _, [], hW', trodAll_mk1 (shut_bool Try.underlying4 _), (trodAll_cons_mk (Below.trod laidOut (by kernel_rfl) (of_decide_eq_true (by kernel_rfl)) k0 bel lt0) (trodAll_cons_mk (Below.trod laidOut (by kernel_rfl) (of_decide_eq_true (by kernel_rfl)) k1 bel lt1) trodAll_mk0)), rfl, bel.frame _, fun h => by cases h⟩
theorem over : Rows.blockFitsRow.holds Try.pinned (OpenSpec.ofChange Rows.blockFitsSpec) :=
  OpenClaim.holds_of_wide 3 Try.f3 rfl rfl rfl rfl rfl rfl rfl ⟨rfl, rfl, rfl, rfl, rfl⟩ rfl rfl rfl rfl rfl (by kernel_rfl) Try.func3 (by kernel_rfl)
    (of_decide_eq_true (by kernel_rfl)) (by unfold Func.isWrapper; first | (rw [if_pos (by decide +kernel)]; kernel_rfl) | (rw [if_neg (by decide +kernel)]; exact ⟨rfl, rfl⟩))
    (fun os started H enc _ => lifted os started H enc)
theorem proved : Rows.BlockFitsSaid := over
#print axioms proved
end Go.Proofs.Ytogjpilkgghidaa.blockFits
namespace Go.Proofs.Ytogjpilkgghidaa
/-- The row, under a short name, for the claim. -/
theorem blockFits_holds : Rows.BlockFitsSaid := blockFits.proved
end Go.Proofs.Ytogjpilkgghidaa
