-- Written by ext (this session's own program): the row of the law plinthlaw04_BlockBack, by RowKinds.
import Derived.Test.YtogjpilkgghidaaRows
import Derived.Test.YtogjpilkgghidaaFx31
import Derived.Test.YtogjpilkgghidaaPureBlockBack
import Derived.Test.YtogjpilkgghidaaAskBlockBack
import Derived.Test.YtogjpilkgghidaaRowKinds
import Derived.WalkKit
import Derived.ProofKit
import Derived.OpenShut
import Derived.ShutString
import Derived.ChangeOld
import Derived.Below
import Derived.Carry
import Derived.SizedLaws
import Derived.Deep.CondSized
import Derived.JoinedCond
import Derived.Test.YtogjpilkgghidaaBulk
namespace Go.Proofs.Ytogjpilkgghidaa.blockBackUpto
open Go.ChangeShapes Go.WideShapes Go.ChangeAt Go.RowKit Go.Proofs.Ytogjpilkgghidaa.RowKinds Go.Proofs.Ytogjpilkgghidaa.F Go.Proofs.YtogjpilkgghidaaW.PrintWords
open Go.ChangeMaps (open_string shut_string)
set_option linter.unusedVariables false
theorem own : ownKnob Try.prog.godebug = none := by kernel_rfl
theorem laidOut : laidOutB Try.prog = true := by kernel_rfl
theorem opens0 : Opens Try.prog k27 27 (fun x => ((Lit.int .u8 x.f0).wf = true ∧ (Lit.int .i64 x.f1).wf = true ∧ (Lit.int .i64 x.f2).wf = true ∧ (x.f3.length ≤ maxLen ∧ x.f3.length * 1 ≤ 140737488351232 ∧ ∀ x0_ ∈ x.f3, (Lit.int .u8 x0_).wf = true) ∧ (x.f4.length ≤ maxLen ∧ x.f4.length * 1 ≤ 140737488351232 ∧ ∀ x0_ ∈ x.f4, (Lit.int .u8 x0_).wf = true))) := (show Opens Try.prog k27 27 _ from opens_struct (fun x : S27 => (x.f0, x.f1, x.f2, x.f3, x.f4)) (fun p => (⟨p.1, p.2.1, p.2.2.1, p.2.2.2.1, p.2.2.2.2⟩ : S27)) (fun _ => rfl) Try.underlying27 (by kernel_rfl) (opensFs_cons (by rfl) (by kernel_rfl) (opens_int Try.underlying24) (opensFs_cons (by rfl) (by kernel_rfl) (opens_int Try.underlying3) (opensFs_cons (by rfl) (by kernel_rfl) (opens_int Try.underlying3) (opensFs_cons (by rfl) (by kernel_rfl) (opens_slice 5 1 Try.underlying25 (by kernel_rfl) (by kernel_rfl) (opens_int Try.underlying5)) (opensFs_one (by rfl) (by kernel_rfl) (opens_slice 5 1 Try.underlying25 (by kernel_rfl) (by kernel_rfl) (opens_int Try.underlying5))))))))
theorem opens1 : Opens Try.prog k41 41 (fun x => ((Lit.int .u8 x.f0).wf = true ∧ (x.f1.length ≤ maxLen ∧ x.f1.length * 1 ≤ 140737488351232 ∧ ∀ x0_ ∈ x.f1, (Lit.int .u8 x0_).wf = true))) := (show Opens Try.prog k41 41 _ from opens_struct (fun x : S41 => (x.f0, x.f1)) (fun p => (⟨p.1, p.2⟩ : S41)) (fun _ => rfl) Try.underlying41 (by kernel_rfl) (opensFs_cons (by rfl) (by kernel_rfl) (opens_int Try.underlying28) (opensFs_one (by rfl) (by kernel_rfl) (opens_slice 5 1 Try.underlying25 (by kernel_rfl) (by kernel_rfl) (opens_int Try.underlying5)))))
theorem opens2 : Opens Try.prog (Kd.slice 5 (Kd.int .u8)) 25 (fun x => (x.length ≤ maxLen ∧ x.length * 1 ≤ 140737488351232 ∧ ∀ x0_ ∈ x, (Lit.int .u8 x0_).wf = true)) := (opens_slice 5 1 Try.underlying25 (by kernel_rfl) (by kernel_rfl) (opens_int Try.underlying5))
set_option maxRecDepth 100000 in
theorem lifted (os : Os) (started : os.Started) (H : Type) (enc : TypeId × Value → H) (F : Stop.Interp) :
    ReturnsInHanded {} Try.checked os 7 .any ((Rows.OpenSpec.upto Rows.blockBackSpec).pre6 enc Try.prog Try.f7 Rows.blockBackUptoRow.domain false) (((Rows.OpenSpec.upto Rows.blockBackSpec).at F).post enc Try.prog Try.f7 false true false false) := by
  refine returnsInHanded_of_cond_sized (C := Try.checked) (s := Rows.OpenSpec.upto Rows.blockBackSpec) (k := Rows.uptoSmall) rfl own started (by kernel_rfl) Try.func7
    (OpenSpec.witness (enc := enc) (C := Try.checked) (s := Rows.OpenSpec.upto Rows.blockBackSpec) (k := Rows.uptoSmall) rfl false ⟨#[], #[.agg #[.int .u8 0, .int .i64 0, .int .i64 0, .slice none 0 0, .slice none 0 0], .agg #[.int .u8 0, .slice none 0 0], .slice none 0 0], []⟩ 8 (by kernel_rfl) (by kernel_rfl) (by kernel_rfl)
      (x := ([.agg [.lit (.int .u8 0), .lit (.int .i64 0), .lit (.int .i64 0), .nil, .nil], .agg [.lit (.int .u8 0), .nil], .nil], [], [])) (by kernel_rfl) rfl (by kernel_rfl)) ?_
  intro W base args ds gs before hval0 hW hcnd hk0 hsz0 _
  have hsz : (DataW.weightsEach Try.prog (Try.f7.params.toList ++ Rows.blockBackSpec.plain.varTypes Try.prog) (ds ++ gs)).all (· ≤ reachBytes) = true := hsz0
  have hval : ∀ (j : Nat) t v, Try.f7.params[j]? = some t → args[j]? = some v → Value.okWide Try.prog W .any base t v := hval0
  have hW' := hW
  obtain ⟨p, q, hA0, hV, rfl, hfz, hnd⟩ := hW
  have hA : DataW.TrodAll enc Try.prog W 0 (fun _ => true) true Try.f7.params.toList args.toList ds p := hA0
  rw [Try.params7] at hA hval hsz
  obtain ⟨v0, vs0, d0, ds0, p0, q0, hargs, rfl, rfl, h0, r0⟩ := trodAll_cons hA
  obtain ⟨v1, vs1, d1, ds1, p1, q1, rfl, rfl, rfl, h1, r1⟩ := trodAll_cons r0
  obtain ⟨v2, vs2, d2, ds2, p2, q2, rfl, rfl, rfl, h2, r2⟩ := trodAll_cons r1
  obtain ⟨rfl, rfl, rfl⟩ := trodAll_nil r2
  obtain rfl : args = #[v0, v1, v2] := by cases args; simp_all
  obtain ⟨rfl, rfl⟩ := trodVars_none hV
  have k0 := h0
  have lt0 : ∀ x ∈ p0, x.block < W.heap.size := by obtain ⟨m, hm⟩ := k0; exact DataW.trod_lt m _ _ _ hm
  obtain ⟨x0, K0, w0⟩ := opens_arg opens0 hsz (j := 0) rfl rfl h0
  obtain ⟨cs0, rfl, _⟩ := okWide_struct Try.underlying27 (hval 0 27 v0 rfl rfl)
  obtain ⟨A0_3, c0_3, A0_4, c0_4, e0, hc0_3, hr0_3, hc0_4, hr0_4⟩ := k27_open K0
  obtain rfl : cs0 = #[.int .u8 x0.f0, .int .i64 x0.f1, .int .i64 x0.f2, .slice A0_3 x0.f3.length c0_3, .slice A0_4 x0.f4.length c0_4] := Array.ext' e0
  have k1 := h1
  have lt1 : ∀ x ∈ p1, x.block < W.heap.size := by obtain ⟨m, hm⟩ := k1; exact DataW.trod_lt m _ _ _ hm
  obtain ⟨x1, K1, w1⟩ := opens_arg opens1 hsz (j := 1) rfl rfl h1
  obtain ⟨cs1, rfl, _⟩ := okWide_struct Try.underlying41 (hval 1 41 v1 rfl rfl)
  obtain ⟨A1_1, c1_1, e1, hc1_1, hr1_1⟩ := k41_open K1
  obtain rfl : cs1 = #[.int .u8 x1.f0, .slice A1_1 x1.f1.length c1_1] := Array.ext' e1
  have k2 := h2
  have lt2 : ∀ x ∈ p2, x.block < W.heap.size := by obtain ⟨m, hm⟩ := k2; exact DataW.trod_lt m _ _ _ hm
  obtain ⟨x2, K2, w2⟩ := opens_arg opens2 hsz (j := 2) rfl rfl h2
  obtain ⟨a2, len2, cap2, rfl⟩ := okWide_slice Try.underlying25 (hval 2 25 v2 rfl rfl)
  obtain ⟨A2, c2, e2, hc2, hr2⟩ := K2
  obtain ⟨rfl, rfl, rfl⟩ : a2 = A2 ∧ len2 = x2.length ∧ cap2 = c2 := by simpa [Value.cells] using e2
  have bu2 : x2.length ≤ 1048576 := by
    have h := Bulk.all_le hk0 d2 (by simp)
    have h2 := Bulk.slice_le Try.underlying25 k2
    omega
  clear hA0 hval0 hsz0 hsz hk0
  obtain ⟨k, h⟩ := Pure.BlockBackUpto x0 x1 x2 w0 w1 w2 bu2
  refine (plinthlaw04_BlockBack.calls k x0.f0 x0.f1 x0.f2 A0_3 c0_3 x0.f3 A0_4 c0_4 x0.f4 x1.f0 A1_1 c1_1 x1.f1 a2 cap2 x2 true W hr0_3 hc0_3 hr0_4 hc0_4 hr1_1 hc1_1 hr2 hc2 h).mono fun e W' hd_ => ?_
  obtain ⟨rfl, hd_⟩ := hd_
  have bel : Below W.heap.size W W' := hd_
  exact ⟨_, rfl, _, _, _, [], _, [], hW', trodAll_mk1 (shut_bool Try.underlying4 _), (trodAll_cons_mk (Below.trod laidOut (by kernel_rfl) (of_decide_eq_true (by kernel_rfl)) k0 bel lt0) (trodAll_cons_mk (Below.trod laidOut (by kernel_rfl) (of_decide_eq_true (by kernel_rfl)) k1 bel lt1) (trodAll_cons_mk (Below.trod laidOut (by kernel_rfl) (of_decide_eq_true (by kernel_rfl)) k2 bel lt2) trodAll_mk0))), rfl, bel.frame _, fun h => by cases h⟩
theorem over : Rows.blockBackUptoRow.holds Try.pinned (Rows.OpenSpec.upto Rows.blockBackSpec) :=
  OpenClaim.holds_of_cond 7 Try.f7 rfl rfl rfl rfl rfl rfl rfl ⟨rfl, rfl, rfl, rfl, rfl⟩ rfl rfl rfl rfl rfl (by kernel_rfl) Try.func7 (by kernel_rfl)
    (of_decide_eq_true (by kernel_rfl)) (by unfold Func.isWrapper; first | (rw [if_pos (by decide +kernel)]; kernel_rfl) | (rw [if_neg (by decide +kernel)]; exact ⟨rfl, rfl⟩))
    (fun os started H enc _ F => lifted os started H enc F)
theorem proved : Rows.BlockBackUptoSaid := over
#print axioms proved
end Go.Proofs.Ytogjpilkgghidaa.blockBackUpto
namespace Go.Proofs.Ytogjpilkgghidaa
/-- The row, under a short name, for the claim. -/
theorem blockBackUpto_holds : Rows.BlockBackUptoSaid := blockBackUpto.proved
end Go.Proofs.Ytogjpilkgghidaa
