-- Written by ext (this session's own program): the row of the law plinthlaw04_BlockForms, by RowKinds.
import Derived.Test.YtogjpilkgghidaaRows
import Derived.Test.YtogjpilkgghidaaFx27
import Derived.Test.YtogjpilkgghidaaPureBlockForms
import Derived.Test.YtogjpilkgghidaaAskBlockForms
import Derived.Test.YtogjpilkgghidaaRowKinds
import Derived.WalkKit
import Derived.ProofKit
import Derived.OpenShut
import Derived.ShutString
import Derived.ChangeOld
import Derived.Below
import Derived.Carry
import Derived.SizedLaws
namespace Go.Proofs.Ytogjpilkgghidaa.blockForms
open Go.ChangeShapes Go.WideShapes Go.ChangeAt Go.RowKit Go.Proofs.Ytogjpilkgghidaa.RowKinds Go.Proofs.Ytogjpilkgghidaa.F Go.Proofs.YtogjpilkgghidaaW.PrintWords
open Go.ChangeMaps (open_string shut_string)
set_option linter.unusedVariables false
theorem own : ownKnob Try.prog.godebug = none := by kernel_rfl
theorem laidOut : laidOutB Try.prog = true := by kernel_rfl
theorem opens0 : Opens Try.prog k23 23 (fun x => ((Lit.int .i64 x.f0).wf = true ∧ (Lit.int .i64 x.f1).wf = true)) := (show Opens Try.prog k23 23 _ from opens_struct (fun x : S23 => (x.f0, x.f1)) (fun p => (⟨p.1, p.2⟩ : S23)) (fun _ => rfl) Try.underlying23 (by kernel_rfl) (opensFs_cons (by rfl) (by kernel_rfl) (opens_int Try.underlying3) (opensFs_one (by rfl) (by kernel_rfl) (opens_int Try.underlying3))))
theorem opens1 : Opens Try.prog k27 27 (fun x => ((Lit.int .u8 x.f0).wf = true ∧ (Lit.int .i64 x.f1).wf = true ∧ (Lit.int .i64 x.f2).wf = true ∧ (x.f3.length ≤ maxLen ∧ x.f3.length * 1 ≤ 140737488351232 ∧ ∀ x0_ ∈ x.f3, (Lit.int .u8 x0_).wf = true) ∧ (x.f4.length ≤ maxLen ∧ x.f4.length * 1 ≤ 140737488351232 ∧ ∀ x0_ ∈ x.f4, (Lit.int .u8 x0_).wf = true))) := (show Opens Try.prog k27 27 _ from opens_struct (fun x : S27 => (x.f0, x.f1, x.f2, x.f3, x.f4)) (fun p => (⟨p.1, p.2.1, p.2.2.1, p.2.2.2.1, p.2.2.2.2⟩ : S27)) (fun _ => rfl) Try.underlying27 (by kernel_rfl) (opensFs_cons (by rfl) (by kernel_rfl) (opens_int Try.underlying24) (opensFs_cons (by rfl) (by kernel_rfl) (opens_int Try.underlying3) (opensFs_cons (by rfl) (by kernel_rfl) (opens_int Try.underlying3) (opensFs_cons (by rfl) (by kernel_rfl) (opens_slice 5 1 Try.underlying25 (by kernel_rfl) (by kernel_rfl) (opens_int Try.underlying5)) (opensFs_one (by rfl) (by kernel_rfl) (opens_slice 5 1 Try.underlying25 (by kernel_rfl) (by kernel_rfl) (opens_int Try.underlying5))))))))
theorem opens2 : Opens Try.prog k27 27 (fun x => ((Lit.int .u8 x.f0).wf = true ∧ (Lit.int .i64 x.f1).wf = true ∧ (Lit.int .i64 x.f2).wf = true ∧ (x.f3.length ≤ maxLen ∧ x.f3.length * 1 ≤ 140737488351232 ∧ ∀ x0_ ∈ x.f3, (Lit.int .u8 x0_).wf = true) ∧ (x.f4.length ≤ maxLen ∧ x.f4.length * 1 ≤ 140737488351232 ∧ ∀ x0_ ∈ x.f4, (Lit.int .u8 x0_).wf = true))) := (show Opens Try.prog k27 27 _ from opens_struct (fun x : S27 => (x.f0, x.f1, x.f2, x.f3, x.f4)) (fun p => (⟨p.1, p.2.1, p.2.2.1, p.2.2.2.1, p.2.2.2.2⟩ : S27)) (fun _ => rfl) Try.underlying27 (by kernel_rfl) (opensFs_cons (by rfl) (by kernel_rfl) (opens_int Try.underlying24) (opensFs_cons (by rfl) (by kernel_rfl) (opens_int Try.underlying3) (opensFs_cons (by rfl) (by kernel_rfl) (opens_int Try.underlying3) (opensFs_cons (by rfl) (by kernel_rfl) (opens_slice 5 1 Try.underlying25 (by kernel_rfl) (by kernel_rfl) (opens_int Try.underlying5)) (opensFs_one (by rfl) (by kernel_rfl) (opens_slice 5 1 Try.underlying25 (by kernel_rfl) (by kernel_rfl) (opens_int Try.underlying5))))))))
theorem opens3 : Opens Try.prog k41 41 (fun x => ((Lit.int .u8 x.f0).wf = true ∧ (x.f1.length ≤ maxLen ∧ x.f1.length * 1 ≤ 140737488351232 ∧ ∀ x0_ ∈ x.f1, (Lit.int .u8 x0_).wf = true))) := (show Opens Try.prog k41 41 _ from opens_struct (fun x : S41 => (x.f0, x.f1)) (fun p => (⟨p.1, p.2⟩ : S41)) (fun _ => rfl) Try.underlying41 (by kernel_rfl) (opensFs_cons (by rfl) (by kernel_rfl) (opens_int Try.underlying28) (opensFs_one (by rfl) (by kernel_rfl) (opens_slice 5 1 Try.underlying25 (by kernel_rfl) (by kernel_rfl) (opens_int Try.underlying5)))))
set_option maxRecDepth 100000 in
theorem lifted (os : Os) (started : os.Started) (H : Type) (enc : TypeId × Value → H) :
    ReturnsInHanded {} Try.checked os 5 .any (Rows.blockFormsSpec.pre6 enc Try.prog Try.f5 Rows.blockFormsRow.domain false) (Rows.blockFormsSpec.post enc Try.prog Try.f5 false true false false) := by
  refine returnsInHanded_of_change_sized (C := Try.checked) own started (by kernel_rfl) Try.func5
    (ChangeSpec.witness6 (enc := enc) (C := Try.checked) false ⟨#[], #[.agg #[.int .i64 0, .int .i64 0], .agg #[.int .u8 0, .int .i64 0, .int .i64 0, .slice none 0 0, .slice none 0 0], .agg #[.int .u8 0, .int .i64 0, .int .i64 0, .slice none 0 0, .slice none 0 0], .agg #[.int .u8 0, .slice none 0 0]], []⟩ 8 (by kernel_rfl) (by kernel_rfl) (by kernel_rfl) (by kernel_rfl)) ?_
  intro W base args ds gs before hval0 hW hcnd hsz0 _
  have hsz : (DataW.weightsEach Try.prog (Try.f5.params.toList ++ Rows.blockFormsSpec.plain.varTypes Try.prog) (ds ++ gs)).all (· ≤ reachBytes) = true := hsz0
  have hval : ∀ (j : Nat) t v, Try.f5.params[j]? = some t → args[j]? = some v → Value.okWide Try.prog W .any base t v := hval0
  have hW' := hW
  obtain ⟨p, q, hA0, hV, rfl, hfz, hnd⟩ := hW
  have hA : DataW.TrodAll enc Try.prog W 0 (fun _ => true) true Try.f5.params.toList args.toList ds p := hA0
  rw [Try.params5] at hA hval hsz
  obtain ⟨v0, vs0, d0, ds0, p0, q0, hargs, rfl, rfl, h0, r0⟩ := trodAll_cons hA
  obtain ⟨v1, vs1, d1, ds1, p1, q1, rfl, rfl, rfl, h1, r1⟩ := trodAll_cons r0
  obtain ⟨v2, vs2, d2, ds2, p2, q2, rfl, rfl, rfl, h2, r2⟩ := trodAll_cons r1
  obtain ⟨v3, vs3, d3, ds3, p3, q3, rfl, rfl, rfl, h3, r3⟩ := trodAll_cons r2
  obtain ⟨rfl, rfl, rfl⟩ := trodAll_nil r3
  obtain rfl : args = #[v0, v1, v2, v3] := by cases args; simp_all
  obtain ⟨rfl, rfl⟩ := trodVars_none hV
  have k0 := h0
  have lt0 : ∀ x ∈ p0, x.block < W.heap.size := by obtain ⟨m, hm⟩ := k0; exact DataW.trod_lt m _ _ _ hm
  obtain ⟨x0, K0, w0⟩ := opens_arg opens0 hsz (j := 0) rfl rfl h0
  obtain ⟨cs0, rfl, _⟩ := okWide_struct Try.underlying23 (hval 0 23 v0 rfl rfl)
  have e0 := k23_open K0
  obtain rfl : cs0 = #[.int .i64 x0.f0, .int .i64 x0.f1] := Array.ext' e0
  have k1 := h1
  have lt1 : ∀ x ∈ p1, x.block < W.heap.size := by obtain ⟨m, hm⟩ := k1; exact DataW.trod_lt m _ _ _ hm
  obtain ⟨x1, K1, w1⟩ := opens_arg opens1 hsz (j := 1) rfl rfl h1
  obtain ⟨cs1, rfl, _⟩ := okWide_struct Try.underlying27 (hval 1 27 v1 rfl rfl)
  obtain ⟨A1_3, c1_3, A1_4, c1_4, e1, hc1_3, hr1_3, hc1_4, hr1_4⟩ := k27_open K1
  obtain rfl : cs1 = #[.int .u8 x1.f0, .int .i64 x1.f1, .int .i64 x1.f2, .slice A1_3 x1.f3.length c1_3, .slice A1_4 x1.f4.length c1_4] := Array.ext' e1
  have k2 := h2
  have lt2 : ∀ x ∈ p2, x.block < W.heap.size := by obtain ⟨m, hm⟩ := k2; exact DataW.trod_lt m _ _ _ hm
  obtain ⟨x2, K2, w2⟩ := opens_arg opens2 hsz (j := 2) rfl rfl h2
  obtain ⟨cs2, rfl, _⟩ := okWide_struct Try.underlying27 (hval 2 27 v2 rfl rfl)
  obtain ⟨A2_3, c2_3, A2_4, c2_4, e2, hc2_3, hr2_3, hc2_4, hr2_4⟩ := k27_open K2
  obtain rfl : cs2 = #[.int .u8 x2.f0, .int .i64 x2.f1, .int .i64 x2.f2, .slice A2_3 x2.f3.length c2_3, .slice A2_4 x2.f4.length c2_4] := Array.ext' e2
  have k3 := h3
  have lt3 : ∀ x ∈ p3, x.block < W.heap.size := by obtain ⟨m, hm⟩ := k3; exact DataW.trod_lt m _ _ _ hm
  obtain ⟨x3, K3, w3⟩ := opens_arg opens3 hsz (j := 3) rfl rfl h3
  obtain ⟨cs3, rfl, _⟩ := okWide_struct Try.underlying41 (hval 3 41 v3 rfl rfl)
  obtain ⟨A3_1, c3_1, e3, hc3_1, hr3_1⟩ := k41_open K3
  obtain rfl : cs3 = #[.int .u8 x3.f0, .slice A3_1 x3.f1.length c3_1] := Array.ext' e3
  clear hA0 hval0 hsz0 hsz
  obtain ⟨k, h⟩ := Pure.BlockForms x0 x1 x2 x3 w0 w1 w2 w3
  refine (plinthlaw04_BlockForms.calls k x0.f0 x0.f1 x1.f0 x1.f1 x1.f2 A1_3 c1_3 x1.f3 A1_4 c1_4 x1.f4 x2.f0 x2.f1 x2.f2 A2_3 c2_3 x2.f3 A2_4 c2_4 x2.f4 x3.f0 A3_1 c3_1 x3.f1 true W hr1_3 hc1_3 hr1_4 hc1_4 hr2_3 hc2_3 hr2_4 hc2_4 hr3_1 hc3_1 h).mono fun e W' hd_ => ?_
  obtain ⟨rfl, hd_⟩ := hd_
  have bel : Below W.heap.size W W' := hd_
  exact ⟨_, rfl, _, _, _, [], _, [], hW', trodAll_mk1 (shut_bool Try.underlying4 _), (trodAll_cons_mk (Below.trod laidOut (by kernel_rfl) (of_decide_eq_true (by kernel_rfl)) k0 bel lt0) (trodAll_cons_mk (Below.trod laidOut (by kernel_rfl) (of_decide_eq_true (by kernel_rfl)) k1 bel lt1) (trodAll_cons_mk (Below.trod laidOut (by kernel_rfl) (of_decide_eq_true (by kernel_rfl)) k2 bel lt2) (trodAll_cons_mk (Below.trod laidOut (by kernel_rfl) (of_decide_eq_true (by kernel_rfl)) k3 bel lt3) trodAll_mk0)))), rfl, bel.frame _, fun h => by cases h⟩
theorem over : Rows.blockFormsRow.holds Try.pinned (OpenSpec.ofChange Rows.blockFormsSpec) :=
  OpenClaim.holds_of_wide 5 Try.f5 rfl rfl rfl rfl rfl rfl rfl ⟨rfl, rfl, rfl, rfl, rfl⟩ rfl rfl rfl rfl rfl (by kernel_rfl) Try.func5 (by kernel_rfl)
    (of_decide_eq_true (by kernel_rfl)) (by unfold Func.isWrapper; first | (rw [if_pos (by decide +kernel)]; kernel_rfl) | (rw [if_neg (by decide +kernel)]; exact ⟨rfl, rfl⟩))
    (fun os started H enc _ => lifted os started H enc)
theorem proved : Rows.BlockFormsSaid := over
#print axioms proved
end Go.Proofs.Ytogjpilkgghidaa.blockForms
namespace Go.Proofs.Ytogjpilkgghidaa
/-- The row, under a short name, for the claim. -/
theorem blockForms_holds : Rows.BlockFormsSaid := blockForms.proved
end Go.Proofs.Ytogjpilkgghidaa
